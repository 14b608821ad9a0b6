-- Ours: printed or written for this claim; cut to what the theorem needs.
import Derived.Test.YtnldanonpdijgaaZPx0
import Derived.Test.YtnldanonpdijgaaZPx1
import Derived.Test.YtnldanonpdijgaaZPx2
import Derived.Test.YtnldanonpdijgaaZPx3
import Derived.Test.YtnldanonpdijgaaZPx7
import Derived.Test.YtnldanonpdijgaaZPx8
namespace Go.Proofs.Ytnldanonpdijgaa.P
open Go.RowKit Go.Proofs.YtnldanonpdijgaaW.PrintWords Go.Proofs.YtnldanonpdijgaaW.PrintLast Go.Proofs.YtnldanonpdijgaaW.PrintMore
attribute [local go_sem] max2_int min2_int max_two min_two max_three min_three max_four min_four
set_option linter.unusedVariables false
set_option linter.unusedSimpArgs false
def spec_l18Host.f (a0_0 : Int) (a0_1 : Int) (a0_2 : Int) (l0_3 : List Int) (a0_4 : Int) (a0_5 : Int) (l0_6 : List (S50)) (a1 : Int) : Option (Bool):=if a1 ≥ 0 then (some (decide (a1 < (l0_3.length : Int)))) else (some false)
set_option maxHeartbeats 8000000 in
set_option maxRecDepth 100000 in
theorem spec_l18Host.calls (a0_0 : Int) (a0_1 : Int) (a0_2 : Int) (A0_3 : Option Addr) (c0_3 : Nat) (l0_3 : List Int) (a0_4 : Int) (a0_5 : Int) (A0_6 : Option Addr) (c0_6 : Nat) (l0_6 : List (S50)) (a1 : Int) (r : Bool) (w : World) (hr0_3 : Kd.C (Kd.int .i64) w A0_3 l0_3.length l0_3) (hc0_3 : l0_3.length ≤ c0_3) (hr0_6 : Kd.C k50 w A0_6 l0_6.length l0_6) (hc0_6 : l0_6.length ≤ c0_6) (h : spec_l18Host.f a0_0 a0_1 a0_2 l0_3 a0_4 a0_5 l0_6 a1 = some r) :
  Calls Try.prog 53 #[.agg #[.int .i64 a0_0,.int .i64 a0_1,.int .i64 a0_2,.slice A0_3 l0_3.length c0_3,.int .i64 a0_4,.int .i64 a0_5,.slice A0_6 l0_6.length c0_6],.int .i64 a1] w fun e w' => e = .returned (.bool r) ∧ Below w.heap.size w w':=by
 have hu30:=Try.underlying30
 have HR0_3:=Aside0.mk hr0_3
 have HC0_3:=Aside0.mk hc0_3
 clear hr0_3 hc0_3
 have HR0_6:=Aside0.mk hr0_6
 have HC0_6:=Aside0.mk hc0_6
 clear hr0_6 hc0_6
 have HB:=Aside0.mk (Below.refl w.heap.size w)
 have H : (if a1 ≥ 0 then (some (decide (a1 < (l0_3.length : Int)))) else (some false)) = some r:=h
 clear h
 by_cases c3 : a1 ≥ 0
 ·
  rw [if_pos c3] at H
  have c3b0 : decide (0 ≤ a1) = true:=decide_eq_true c3
  clear c3
  obtain rfl:=Option.some.inj H
  go_enter Try.func53,Try.ntmps53
  go_wp2_with (first|((with_reducible refine gate_dst (N:=2) rfl ?_);(try (refine gate_guard (by rfl) ?_;dsimp only));refine box_event ?hg (N:=2) ?hd (cs:=#[.int .i64 a0_0,.int .i64 a0_1,.int .i64 a0_2,.slice A0_3 l0_3.length c0_3,.int .i64 a0_4,.int .i64 a0_5,.slice A0_6 l0_6.length c0_6]) (t:=30) ?hr ?_;(case hd => rfl);(case hg => rfl);(case hr => first|(go_simp;done)|(go_simp;rfl));intro gb224 hg w4 hbox hb;have n0_:=Aside0.mk (below_step (by repeat (first|(with_reducible first|exact HB.out|apply below_alloc|apply pw_below_drewN|apply below_drew1)|exact HB.out)) hb);have n1_:=Aside0.mk (hbox);have n2_:=Aside0.mk ((by rw [hg];exact (below_size (by repeat (first|(with_reducible first|exact HB.out|apply below_alloc|apply pw_below_drewN|apply below_drew1)|exact HB.out))) : w.heap.size ≤ gb224));have n3_:=Aside0.mk ((by rw [hg];exact (below_size (by repeat (first|(with_reducible first|exact HB.out|apply below_alloc|apply pw_below_drewN|apply below_drew1)|exact HB.out))) : w.heap.size ≤ gb224));clear HB;have HB:=n0_;have BK224:=n1_;have GW224:=n2_;have GE224:=n3_;clear n0_ n1_ n2_ n3_;clear hb hbox hg;have hcz5_0 : w4.cell? ⟨gb224,0,none⟩ = some (.int .i64 a0_0):=(blk_cell BK224.out 0).trans rfl;have hcz5_1 : w4.cell? ⟨gb224,1,none⟩ = some (.int .i64 a0_1):=(blk_cell BK224.out 1).trans rfl;have hcz5_2 : w4.cell? ⟨gb224,2,none⟩ = some (.int .i64 a0_2):=(blk_cell BK224.out 2).trans rfl;have hcz5_3 : w4.cell? ⟨gb224,3,none⟩ = some (.slice A0_3 l0_3.length c0_3):=(blk_cell BK224.out 3).trans rfl;have hcz5_4 : w4.cell? ⟨gb224,4,none⟩ = some (.int .i64 a0_4):=(blk_cell BK224.out 4).trans rfl;have hcz5_5 : w4.cell? ⟨gb224,5,none⟩ = some (.int .i64 a0_5):=(blk_cell BK224.out 5).trans rfl;have hcz5_6 : w4.cell? ⟨gb224,6,none⟩ = some (.slice A0_6 l0_6.length c0_6):=(blk_cell BK224.out 6).trans rfl;have hfz5_0:=blk_frozen BK224.out 0;have hfz5_1:=blk_frozen BK224.out 1;have hfz5_2:=blk_frozen BK224.out 2;have hfz5_3:=blk_frozen BK224.out 3;have hfz5_4:=blk_frozen BK224.out 4;have hfz5_5:=blk_frozen BK224.out 5;have hfz5_6:=blk_frozen BK224.out 6))
  go_ret
  exact ⟨by first|rfl|(simp [errW_none,errW_some] <;> rfl)|(simp [*,errW_none,errW_some] <;> rfl),by repeat (first|(with_reducible first|exact HB.out|apply below_alloc|apply pw_below_drewN|apply below_drew1|refine below_set ?_ GE224.out)|exact HB.out)⟩
 ·
  rw [if_neg c3] at H
  have c3b0 : decide (0 ≤ a1) = false:=decide_eq_false c3
  clear c3
  obtain rfl:=Option.some.inj H
  go_enter Try.func53,Try.ntmps53
  go_wp2_with (first|((with_reducible refine gate_dst (N:=2) rfl ?_);(try (refine gate_guard (by rfl) ?_;dsimp only));refine box_event ?hg (N:=2) ?hd (cs:=#[.int .i64 a0_0,.int .i64 a0_1,.int .i64 a0_2,.slice A0_3 l0_3.length c0_3,.int .i64 a0_4,.int .i64 a0_5,.slice A0_6 l0_6.length c0_6]) (t:=30) ?hr ?_;(case hd => rfl);(case hg => rfl);(case hr => first|(go_simp;done)|(go_simp;rfl));intro gb224 hg w6 hbox hb;have n0_:=Aside0.mk (below_step (by repeat (first|(with_reducible first|exact HB.out|apply below_alloc|apply pw_below_drewN|apply below_drew1)|exact HB.out)) hb);have n1_:=Aside0.mk (hbox);have n2_:=Aside0.mk ((by rw [hg];exact (below_size (by repeat (first|(with_reducible first|exact HB.out|apply below_alloc|apply pw_below_drewN|apply below_drew1)|exact HB.out))) : w.heap.size ≤ gb224));have n3_:=Aside0.mk ((by rw [hg];exact (below_size (by repeat (first|(with_reducible first|exact HB.out|apply below_alloc|apply pw_below_drewN|apply below_drew1)|exact HB.out))) : w.heap.size ≤ gb224));clear HB;have HB:=n0_;have BK224:=n1_;have GW224:=n2_;have GE224:=n3_;clear n0_ n1_ n2_ n3_;clear hb hbox hg))
  go_ret
  exact ⟨by first|rfl|(simp [errW_none,errW_some] <;> rfl)|(simp [*,errW_none,errW_some] <;> rfl),by repeat (first|(with_reducible first|exact HB.out|apply below_alloc|apply pw_below_drewN|apply below_drew1|refine below_set ?_ GE224.out)|exact HB.out)⟩
def spec_LsClock.j0 : Nat → Int → Bool → Int → Int → Int → List Int → Int → Int → List (S50) → Option (Int)
  | 0,_,_,_,_,_,_,_,_,_ => none
  | k + 1,x1,x13,x226000,x226001,x226002,x226003,x226004,x226005,x226006 => if x13 = true then (some 0) else ((spec_l18At.f x226000 x226001 x226002 x226003 x226004 x226005 x226006 x1).bind fun t228 => (some t228))
def spec_LsClock.f (k : Nat) (a0_0 : Int) (a0_1 : Int) (a0_2 : Int) (l0_3 : List Int) (a0_4 : Int) (a0_5 : Int) (l0_6 : List (S50)) (a1 : Int) : Option (Int):=(spec_LsOk.f k a0_0 a0_1 a0_2 l0_3 a0_4 a0_5 l0_6).bind fun t226 => (if t226 = true then ((spec_l18Host.f a0_0 a0_1 a0_2 l0_3 a0_4 a0_5 l0_6 a1).bind fun t227 => (spec_LsClock.j0 k a1 (!t227) a0_0 a0_1 a0_2 l0_3 a0_4 a0_5 l0_6)) else (spec_LsClock.j0 k a1 true a0_0 a0_1 a0_2 l0_3 a0_4 a0_5 l0_6))
set_option maxHeartbeats 8000000 in
set_option maxRecDepth 100000 in
theorem spec_LsClock.calls (k : Nat) (a0_0 : Int) (a0_1 : Int) (a0_2 : Int) (A0_3 : Option Addr) (c0_3 : Nat) (l0_3 : List Int) (a0_4 : Int) (a0_5 : Int) (A0_6 : Option Addr) (c0_6 : Nat) (l0_6 : List (S50)) (a1 : Int) (r : Int) (w : World) (hr0_3 : Kd.C (Kd.int .i64) w A0_3 l0_3.length l0_3) (hc0_3 : l0_3.length ≤ c0_3) (hr0_6 : Kd.C k50 w A0_6 l0_6.length l0_6) (hc0_6 : l0_6.length ≤ c0_6) (h : spec_LsClock.f k a0_0 a0_1 a0_2 l0_3 a0_4 a0_5 l0_6 a1 = some r) :
  Calls Try.prog 19 #[.agg #[.int .i64 a0_0,.int .i64 a0_1,.int .i64 a0_2,.slice A0_3 l0_3.length c0_3,.int .i64 a0_4,.int .i64 a0_5,.slice A0_6 l0_6.length c0_6],.int .i64 a1] w fun e w' => e = .returned (.int .i64 r) ∧ Below w.heap.size w w':=by
 have hu30:=Try.underlying30
 have HR0_3:=Aside0.mk hr0_3
 have HC0_3:=Aside0.mk hc0_3
 clear hr0_3 hc0_3
 have HR0_6:=Aside0.mk hr0_6
 have HC0_6:=Aside0.mk hc0_6
 clear hr0_6 hc0_6
 have HB:=Aside0.mk (Below.refl w.heap.size w)
 have H : ((spec_LsOk.f k a0_0 a0_1 a0_2 l0_3 a0_4 a0_5 l0_6).bind fun t226 => (if t226 = true then ((spec_l18Host.f a0_0 a0_1 a0_2 l0_3 a0_4 a0_5 l0_6 a1).bind fun t227 => (spec_LsClock.j0 k a1 (!t227) a0_0 a0_1 a0_2 l0_3 a0_4 a0_5 l0_6)) else (spec_LsClock.j0 k a1 true a0_0 a0_1 a0_2 l0_3 a0_4 a0_5 l0_6))) = some r:=h
 clear h
 have HC3:=Aside0.mk H
 clear H
 go_enter Try.func19,Try.ntmps19
 go_upto_region 1 with (first|((with_reducible refine gate_dst (N:=2) rfl ?_);refine box_event ?hg (N:=2) ?hd (cs:=#[.int .i64 a0_0,.int .i64 a0_1,.int .i64 a0_2,.slice A0_3 l0_3.length c0_3,.int .i64 a0_4,.int .i64 a0_5,.slice A0_6 l0_6.length c0_6]) (t:=30) ?hr ?_;(case hd => rfl);(case hg => rfl);(case hr => first|(go_simp;done)|(go_simp;rfl));intro gb225 hg w4 hbox hb;have n0_:=Aside0.mk (below_step (by repeat (first|(with_reducible first|exact HB.out|apply below_alloc|apply pw_below_drewN|apply below_drew1)|exact HB.out)) hb);have n1_:=Aside0.mk (hbox);have n2_:=Aside0.mk ((by rw [hg];exact (below_size (by repeat (first|(with_reducible first|exact HB.out|apply below_alloc|apply pw_below_drewN|apply below_drew1)|exact HB.out))) : w.heap.size ≤ gb225));have n3_:=Aside0.mk ((by rw [hg];exact (below_size (by repeat (first|(with_reducible first|exact HB.out|apply below_alloc|apply pw_below_drewN|apply below_drew1)|exact HB.out))) : w.heap.size ≤ gb225));clear HB;have HB:=n0_;have BK225:=n1_;have GW225:=n2_;have GE225:=n3_;clear n0_ n1_ n2_ n3_;clear hb hbox hg))
 (try simp only [Act.put,List.setIfInBounds_toArray,List.set_cons_zero,List.set_cons_succ])
 go_cut [13] (fun v13 wc => ∃ (kq : Nat) (x13_2 : Bool),v13 = .bool x13_2 ∧ Aside0 (spec_LsClock.j0 kq a1 x13_2 a0_0 a0_1 a0_2 l0_3 a0_4 a0_5 l0_6 = some r) ∧ Aside0 (kq ≤ k) ∧ Aside0 (wc.heap[gb225]? = some (.cells #[.int .i64 a0_0,.int .i64 a0_1,.int .i64 a0_2,(.slice A0_3 l0_3.length c0_3),.int .i64 a0_4,.int .i64 a0_5,(.slice A0_6 l0_6.length c0_6)] 30 (0,0))) ∧ Aside0 (Below w.heap.size w wc))
 case first =>
  have H:=HC3.out
  clear HC3
  replace H:=Option.bind_eq_some_iff.mp H
  obtain ⟨t226,A50,H⟩:=H
  replace H : (if t226 = true then ((spec_l18Host.f a0_0 a0_1 a0_2 l0_3 a0_4 a0_5 l0_6 a1).bind fun t227 => (spec_LsClock.j0 k a1 (!t227) a0_0 a0_1 a0_2 l0_3 a0_4 a0_5 l0_6)) else (spec_LsClock.j0 k a1 true a0_0 a0_1 a0_2 l0_3 a0_4 a0_5 l0_6)) = some r:=H
  have A5:=Aside0.mk A50
  clear A50
  by_cases c6 : t226 = true
  ·
   subst c6
   have H1 : ((spec_l18Host.f a0_0 a0_1 a0_2 l0_3 a0_4 a0_5 l0_6 a1).bind fun t227 => (spec_LsClock.j0 k a1 (!t227) a0_0 a0_1 a0_2 l0_3 a0_4 a0_5 l0_6)) = some r:=by rw [if_pos rfl] at H;exact H
   clear H
   have H:=H1
   clear H1
   replace H:=Option.bind_eq_some_iff.mp H
   obtain ⟨t227,A70,H⟩:=H
   replace H : (spec_LsClock.j0 k a1 (!t227) a0_0 a0_1 a0_2 l0_3 a0_4 a0_5 l0_6) = some r:=H
   have A7:=Aside0.mk A70
   clear A70
   have H':=Aside0.mk H
   clear H
   have hcz8_0 : w4.cell? ⟨gb225,0,none⟩ = some (.int .i64 a0_0):=(blk_cell BK225.out 0).trans rfl
   have hcz8_1 : w4.cell? ⟨gb225,1,none⟩ = some (.int .i64 a0_1):=(blk_cell BK225.out 1).trans rfl
   have hcz8_2 : w4.cell? ⟨gb225,2,none⟩ = some (.int .i64 a0_2):=(blk_cell BK225.out 2).trans rfl
   have hcz8_3 : w4.cell? ⟨gb225,3,none⟩ = some (.slice A0_3 l0_3.length c0_3):=(blk_cell BK225.out 3).trans rfl
   have hcz8_4 : w4.cell? ⟨gb225,4,none⟩ = some (.int .i64 a0_4):=(blk_cell BK225.out 4).trans rfl
   have hcz8_5 : w4.cell? ⟨gb225,5,none⟩ = some (.int .i64 a0_5):=(blk_cell BK225.out 5).trans rfl
   have hcz8_6 : w4.cell? ⟨gb225,6,none⟩ = some (.slice A0_6 l0_6.length c0_6):=(blk_cell BK225.out 6).trans rfl
   have hfz8_0:=blk_frozen BK225.out 0
   have hfz8_1:=blk_frozen BK225.out 1
   have hfz8_2:=blk_frozen BK225.out 2
   have hfz8_3:=blk_frozen BK225.out 3
   have hfz8_4:=blk_frozen BK225.out 4
   have hfz8_5:=blk_frozen BK225.out 5
   have hfz8_6:=blk_frozen BK225.out 6
   go_wp2_with (first|((with_reducible refine gate_callee (f:=15) rfl ?_);refine goesL_ (some 6) rfl rfl Try.func15 (by kernel_rfl) rfl #[.agg #[.int .i64 a0_0,.int .i64 a0_1,.int .i64 a0_2,.slice A0_3 l0_3.length c0_3,.int .i64 a0_4,.int .i64 a0_5,.slice A0_6 l0_6.length c0_6]] rfl (by (try simp only [List.map_toArray,List.map_cons,List.map_nil]);first|done|rfl|(simp only [List.length_drop,List.length_take];rfl)) ?_;(with_reducible refine (spec_LsOk.calls k a0_0 a0_1 a0_2 _ _ l0_3 a0_4 a0_5 _ _ l0_6 true _ ?side1 ?side2 ?side3 ?side4 A5.out).mono ?_);(case side1 => repeat (first|exact (Kd.C_below HR0_3.out HB.out)|(with_reducible refine Kd.C_alloc ?_ _)|(with_reducible refine Kd.C_drewN ?_ _)|(with_reducible refine Kd.C_drew ?_)));(case side2 => exact HC0_3.out);(case side3 => repeat (first|exact (Kd.C_below HR0_6.out HB.out)|(with_reducible refine Kd.C_alloc ?_ _)|(with_reducible refine Kd.C_drewN ?_ _)|(with_reducible refine Kd.C_drew ?_)));(case side4 => exact HC0_6.out);rintro e w9 ⟨rfl,hb⟩;refine ⟨_,rfl,?_⟩;have n0_:=Aside0.mk (blk_below (g:=gb225) (o:=.cells #[.int .i64 a0_0,.int .i64 a0_1,.int .i64 a0_2,.slice A0_3 l0_3.length c0_3,.int .i64 a0_4,.int .i64 a0_5,.slice A0_6 l0_6.length c0_6] 30 (0,0)) (by (with_reducible repeat (first|refine blk_drewN ?_ _|refine blk_drew ?_|refine blk_alloc ?_ _));exact BK225.out) hb);have n1_:=Aside0.mk (below_step (by repeat (first|(with_reducible first|exact HB.out|apply below_alloc|apply pw_below_drewN|apply below_drew1|refine below_set ?_ GE225.out)|exact HB.out)) hb);clear BK225;clear HB;have BK225:=n0_;have HB:=n1_;clear n0_ n1_;(try clear hb);(try clear hb2);(try clear hk);(try clear hi);have hcz10_0 : w9.cell? ⟨gb225,0,none⟩ = some (.int .i64 a0_0):=(blk_cell BK225.out 0).trans rfl;have hcz10_1 : w9.cell? ⟨gb225,1,none⟩ = some (.int .i64 a0_1):=(blk_cell BK225.out 1).trans rfl;have hcz10_2 : w9.cell? ⟨gb225,2,none⟩ = some (.int .i64 a0_2):=(blk_cell BK225.out 2).trans rfl;have hcz10_3 : w9.cell? ⟨gb225,3,none⟩ = some (.slice A0_3 l0_3.length c0_3):=(blk_cell BK225.out 3).trans rfl;have hcz10_4 : w9.cell? ⟨gb225,4,none⟩ = some (.int .i64 a0_4):=(blk_cell BK225.out 4).trans rfl;have hcz10_5 : w9.cell? ⟨gb225,5,none⟩ = some (.int .i64 a0_5):=(blk_cell BK225.out 5).trans rfl;have hcz10_6 : w9.cell? ⟨gb225,6,none⟩ = some (.slice A0_6 l0_6.length c0_6):=(blk_cell BK225.out 6).trans rfl;have hfz10_0:=blk_frozen BK225.out 0;have hfz10_1:=blk_frozen BK225.out 1;have hfz10_2:=blk_frozen BK225.out 2;have hfz10_3:=blk_frozen BK225.out 3;have hfz10_4:=blk_frozen BK225.out 4;have hfz10_5:=blk_frozen BK225.out 5;have hfz10_6:=blk_frozen BK225.out 6)|(go_at_call 53;(with_reducible refine (spec_l18Host.calls a0_0 a0_1 a0_2 _ _ l0_3 a0_4 a0_5 _ _ l0_6 a1 t227 _ ?side1 ?side2 ?side3 ?side4 A7.out).mono ?_);(case side1 => repeat (first|exact (Kd.C_below HR0_3.out HB.out)|(with_reducible refine Kd.C_alloc ?_ _)|(with_reducible refine Kd.C_drewN ?_ _)|(with_reducible refine Kd.C_drew ?_)));(case side2 => exact HC0_3.out);(case side3 => repeat (first|exact (Kd.C_below HR0_6.out HB.out)|(with_reducible refine Kd.C_alloc ?_ _)|(with_reducible refine Kd.C_drewN ?_ _)|(with_reducible refine Kd.C_drew ?_)));(case side4 => exact HC0_6.out);rintro e w11 ⟨rfl,hb⟩;have n0_:=Aside0.mk (blk_below (g:=gb225) (o:=.cells #[.int .i64 a0_0,.int .i64 a0_1,.int .i64 a0_2,.slice A0_3 l0_3.length c0_3,.int .i64 a0_4,.int .i64 a0_5,.slice A0_6 l0_6.length c0_6] 30 (0,0)) (by (with_reducible repeat (first|refine blk_drewN ?_ _|refine blk_drew ?_|refine blk_alloc ?_ _));exact BK225.out) hb);have n1_:=Aside0.mk (below_step (by repeat (first|(with_reducible first|exact HB.out|apply below_alloc|apply pw_below_drewN|apply below_drew1|refine below_set ?_ GE225.out)|exact HB.out)) hb);clear BK225;clear HB;have BK225:=n0_;have HB:=n1_;clear n0_ n1_;(try clear hb);(try clear hb2);(try clear hk);(try clear hi)))
   go_meet
   case rel => exact ⟨_,(!t227),(by first|rfl|(simp;done)|(simp [*];done)),H',⟨by first|omega|exact Nat.le_refl _⟩,⟨by (with_reducible repeat (first|refine blk_drewN ?_ _|refine blk_drew ?_|refine blk_alloc ?_ _));exact BK225.out⟩,⟨by repeat (first|(with_reducible first|exact HB.out|apply below_alloc|apply pw_below_drewN|apply below_drew1|refine below_set ?_ GE225.out)|exact HB.out)⟩⟩
  ·
   replace c6:=Bool.eq_false_iff.mpr c6
   subst c6
   have H1 : (spec_LsClock.j0 k a1 true a0_0 a0_1 a0_2 l0_3 a0_4 a0_5 l0_6) = some r:=by rw [if_neg (show ¬ (false = true) by decide)] at H;exact H
   clear H
   have H:=H1
   clear H1
   have H':=Aside0.mk H
   clear H
   have hcz12_0 : w4.cell? ⟨gb225,0,none⟩ = some (.int .i64 a0_0):=(blk_cell BK225.out 0).trans rfl
   have hcz12_1 : w4.cell? ⟨gb225,1,none⟩ = some (.int .i64 a0_1):=(blk_cell BK225.out 1).trans rfl
   have hcz12_2 : w4.cell? ⟨gb225,2,none⟩ = some (.int .i64 a0_2):=(blk_cell BK225.out 2).trans rfl
   have hcz12_3 : w4.cell? ⟨gb225,3,none⟩ = some (.slice A0_3 l0_3.length c0_3):=(blk_cell BK225.out 3).trans rfl
   have hcz12_4 : w4.cell? ⟨gb225,4,none⟩ = some (.int .i64 a0_4):=(blk_cell BK225.out 4).trans rfl
   have hcz12_5 : w4.cell? ⟨gb225,5,none⟩ = some (.int .i64 a0_5):=(blk_cell BK225.out 5).trans rfl
   have hcz12_6 : w4.cell? ⟨gb225,6,none⟩ = some (.slice A0_6 l0_6.length c0_6):=(blk_cell BK225.out 6).trans rfl
   have hfz12_0:=blk_frozen BK225.out 0
   have hfz12_1:=blk_frozen BK225.out 1
   have hfz12_2:=blk_frozen BK225.out 2
   have hfz12_3:=blk_frozen BK225.out 3
   have hfz12_4:=blk_frozen BK225.out 4
   have hfz12_5:=blk_frozen BK225.out 5
   have hfz12_6:=blk_frozen BK225.out 6
   go_wp2_with (first|((with_reducible refine gate_callee (f:=15) rfl ?_);refine goesL_ (some 6) rfl rfl Try.func15 (by kernel_rfl) rfl #[.agg #[.int .i64 a0_0,.int .i64 a0_1,.int .i64 a0_2,.slice A0_3 l0_3.length c0_3,.int .i64 a0_4,.int .i64 a0_5,.slice A0_6 l0_6.length c0_6]] rfl (by (try simp only [List.map_toArray,List.map_cons,List.map_nil]);first|done|rfl|(simp only [List.length_drop,List.length_take];rfl)) ?_;(with_reducible refine (spec_LsOk.calls k a0_0 a0_1 a0_2 _ _ l0_3 a0_4 a0_5 _ _ l0_6 false _ ?side1 ?side2 ?side3 ?side4 A5.out).mono ?_);(case side1 => repeat (first|exact (Kd.C_below HR0_3.out HB.out)|(with_reducible refine Kd.C_alloc ?_ _)|(with_reducible refine Kd.C_drewN ?_ _)|(with_reducible refine Kd.C_drew ?_)));(case side2 => exact HC0_3.out);(case side3 => repeat (first|exact (Kd.C_below HR0_6.out HB.out)|(with_reducible refine Kd.C_alloc ?_ _)|(with_reducible refine Kd.C_drewN ?_ _)|(with_reducible refine Kd.C_drew ?_)));(case side4 => exact HC0_6.out);rintro e w13 ⟨rfl,hb⟩;refine ⟨_,rfl,?_⟩;have n0_:=Aside0.mk (blk_below (g:=gb225) (o:=.cells #[.int .i64 a0_0,.int .i64 a0_1,.int .i64 a0_2,.slice A0_3 l0_3.length c0_3,.int .i64 a0_4,.int .i64 a0_5,.slice A0_6 l0_6.length c0_6] 30 (0,0)) (by (with_reducible repeat (first|refine blk_drewN ?_ _|refine blk_drew ?_|refine blk_alloc ?_ _));exact BK225.out) hb);have n1_:=Aside0.mk (below_step (by repeat (first|(with_reducible first|exact HB.out|apply below_alloc|apply pw_below_drewN|apply below_drew1|refine below_set ?_ GE225.out)|exact HB.out)) hb);clear BK225;clear HB;have BK225:=n0_;have HB:=n1_;clear n0_ n1_;(try clear hb);(try clear hb2);(try clear hk);(try clear hi)))
   go_meet
   case rel => exact ⟨_,(true),(by first|rfl|(simp;done)|(simp [*];done)),H',⟨by first|omega|exact Nat.le_refl _⟩,⟨by (with_reducible repeat (first|refine blk_drewN ?_ _|refine blk_drew ?_|refine blk_alloc ?_ _));exact BK225.out⟩,⟨by repeat (first|(with_reducible first|exact HB.out|apply below_alloc|apply pw_below_drewN|apply below_drew1|refine below_set ?_ GE225.out)|exact HB.out)⟩⟩
 case rest =>
  clear HC3
  try clear c1
  try clear p2
  try clear c6
  try clear hcz10_0
  try clear hcz10_1
  try clear hcz10_2
  try clear hcz10_3
  try clear hcz10_4
  try clear hcz10_5
  try clear hcz10_6
  try clear hcz12_0
  try clear hcz12_1
  try clear hcz12_2
  try clear hcz12_3
  try clear hcz12_4
  try clear hcz12_5
  try clear hcz12_6
  try clear hcz8_0
  try clear hcz8_1
  try clear hcz8_2
  try clear hcz8_3
  try clear hcz8_4
  try clear hcz8_5
  try clear hcz8_6
  try clear hfz10_0
  try clear hfz10_1
  try clear hfz10_2
  try clear hfz10_3
  try clear hfz10_4
  try clear hfz10_5
  try clear hfz10_6
  try clear hfz12_0
  try clear hfz12_1
  try clear hfz12_2
  try clear hfz12_3
  try clear hfz12_4
  try clear hfz12_5
  try clear hfz12_6
  try clear hfz8_0
  try clear hfz8_1
  try clear hfz8_2
  try clear hfz8_3
  try clear hfz8_4
  try clear hfz8_5
  try clear hfz8_6
  obtain ⟨kq,x13_2,rfl,HA,HJ2,BK225,HB⟩:=hcut
  cases kq with
  | zero => exact absurd HA.out (by simp [spec_LsClock.j0])
  | succ kj2 =>
   have H:=HA.out
   clear HA
   simp only [spec_LsClock.j0] at H
   by_cases c14 : x13_2 = true
   ·
    subst c14
    have H1 : (some 0) = some r:=by rw [if_pos rfl] at H;exact H
    clear H
    have H:=H1
    clear H1
    obtain rfl:=Option.some.inj H
    go_wp2
    go_ret
    exact ⟨by first|rfl|(simp [errW_none,errW_some] <;> rfl)|(simp [*,errW_none,errW_some] <;> rfl),by repeat (first|(with_reducible first|exact HB.out|apply below_alloc|apply pw_below_drewN|apply below_drew1|refine below_set ?_ GE225.out)|exact HB.out)⟩
   ·
    replace c14:=Bool.eq_false_iff.mpr c14
    subst c14
    have H1 : ((spec_l18At.f a0_0 a0_1 a0_2 l0_3 a0_4 a0_5 l0_6 a1).bind fun t228 => (some t228)) = some r:=by rw [if_neg (show ¬ (false = true) by decide)] at H;exact H
    clear H
    have H:=H1
    clear H1
    replace H:=Option.bind_eq_some_iff.mp H
    obtain ⟨t228,A150,H⟩:=H
    replace H : (some t228) = some r:=H
    have A15:=Aside0.mk A150
    clear A150
    obtain rfl:=Option.some.inj H
    have hcz16_0 : wc.cell? ⟨gb225,0,none⟩ = some (.int .i64 a0_0):=(blk_cell BK225.out 0).trans rfl
    have hcz16_1 : wc.cell? ⟨gb225,1,none⟩ = some (.int .i64 a0_1):=(blk_cell BK225.out 1).trans rfl
    have hcz16_2 : wc.cell? ⟨gb225,2,none⟩ = some (.int .i64 a0_2):=(blk_cell BK225.out 2).trans rfl
    have hcz16_3 : wc.cell? ⟨gb225,3,none⟩ = some (.slice A0_3 l0_3.length c0_3):=(blk_cell BK225.out 3).trans rfl
    have hcz16_4 : wc.cell? ⟨gb225,4,none⟩ = some (.int .i64 a0_4):=(blk_cell BK225.out 4).trans rfl
    have hcz16_5 : wc.cell? ⟨gb225,5,none⟩ = some (.int .i64 a0_5):=(blk_cell BK225.out 5).trans rfl
    have hcz16_6 : wc.cell? ⟨gb225,6,none⟩ = some (.slice A0_6 l0_6.length c0_6):=(blk_cell BK225.out 6).trans rfl
    have hfz16_0:=blk_frozen BK225.out 0
    have hfz16_1:=blk_frozen BK225.out 1
    have hfz16_2:=blk_frozen BK225.out 2
    have hfz16_3:=blk_frozen BK225.out 3
    have hfz16_4:=blk_frozen BK225.out 4
    have hfz16_5:=blk_frozen BK225.out 5
    have hfz16_6:=blk_frozen BK225.out 6
    go_wp2_with (first|((with_reducible refine gate_callee (f:=49) rfl ?_);refine goesL_ (some 16) rfl rfl Try.func49 (by kernel_rfl) rfl #[.agg #[.int .i64 a0_0,.int .i64 a0_1,.int .i64 a0_2,.slice A0_3 l0_3.length c0_3,.int .i64 a0_4,.int .i64 a0_5,.slice A0_6 l0_6.length c0_6],.int .i64 a1] rfl (by (try simp only [List.map_toArray,List.map_cons,List.map_nil]);first|done|rfl|(simp only [List.length_drop,List.length_take];rfl)) ?_;(with_reducible refine (spec_l18At.calls a0_0 a0_1 a0_2 _ _ l0_3 a0_4 a0_5 _ _ l0_6 a1 t228 _ ?side1 ?side2 ?side3 ?side4 A15.out).mono ?_);(case side1 => repeat (first|exact (Kd.C_below HR0_3.out HB.out)|(with_reducible refine Kd.C_alloc ?_ _)|(with_reducible refine Kd.C_drewN ?_ _)|(with_reducible refine Kd.C_drew ?_)));(case side2 => exact HC0_3.out);(case side3 => repeat (first|exact (Kd.C_below HR0_6.out HB.out)|(with_reducible refine Kd.C_alloc ?_ _)|(with_reducible refine Kd.C_drewN ?_ _)|(with_reducible refine Kd.C_drew ?_)));(case side4 => exact HC0_6.out);rintro e w17 ⟨rfl,hb⟩;refine ⟨_,rfl,?_⟩;have n0_:=Aside0.mk (blk_below (g:=gb225) (o:=.cells #[.int .i64 a0_0,.int .i64 a0_1,.int .i64 a0_2,.slice A0_3 l0_3.length c0_3,.int .i64 a0_4,.int .i64 a0_5,.slice A0_6 l0_6.length c0_6] 30 (0,0)) (by (with_reducible repeat (first|refine blk_drewN ?_ _|refine blk_drew ?_|refine blk_alloc ?_ _));exact BK225.out) hb);have n1_:=Aside0.mk (below_step (by repeat (first|(with_reducible first|exact HB.out|apply below_alloc|apply pw_below_drewN|apply below_drew1|refine below_set ?_ GE225.out)|exact HB.out)) hb);clear BK225;clear HB;have BK225:=n0_;have HB:=n1_;clear n0_ n1_;(try clear hb);(try clear hb2);(try clear hk);(try clear hi)))
    go_ret
    exact ⟨by first|rfl|(simp [errW_none,errW_some] <;> rfl)|(simp [*,errW_none,errW_some] <;> rfl),by repeat (first|(with_reducible first|exact HB.out|apply below_alloc|apply pw_below_drewN|apply below_drew1|refine below_set ?_ GE225.out)|exact HB.out)⟩
end Go.Proofs.Ytnldanonpdijgaa.P
