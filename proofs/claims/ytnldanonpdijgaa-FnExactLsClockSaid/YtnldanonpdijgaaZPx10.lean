-- Ours: printed or written for this claim; cut to what the theorem needs.
import Derived.Test.YtnldanonpdijgaaZPx0
import Derived.Test.YtnldanonpdijgaaZPx1
import Derived.Test.YtnldanonpdijgaaZPx3
import Derived.Test.YtnldanonpdijgaaZPx6
import Derived.Test.YtnldanonpdijgaaZPx8
import Derived.Test.YtnldanonpdijgaaZPx9
open Bool renaming true → T, false → F
namespace Go.Proofs.Ytnldanonpdijgaa.P
open Go.RowKit Go.Proofs.YtnldanonpdijgaaW.PrintWords Go.Proofs.YtnldanonpdijgaaW.PrintLast Go.Proofs.YtnldanonpdijgaaW.PrintMore
attribute [local go_sem] max2_int min2_int max_two min_two max_three min_three max_four min_four
set_option linter.unusedVariables false
set_option linter.unusedSimpArgs false
def impl_LsClock.j0 : Nat → Int → Bool → Int → Int → Int → List Int → Int → Int → List (S50) → Option (Int)
  | 0,_,_,_,_,_,_,_,_,_ => none
  | k + 1,x1,x16,x230000,x230001,x230002,x230003,x230004,x230005,x230006 => if x16 = true then (some 0) else ((impl_Ls_clock.f x230000 x230001 x230002 x230003 x230004 x230005 x230006 x1).bind fun t232 => (some t232))
def impl_LsClock.f (k : Nat) (a0_0 : Int) (a0_1 : Int) (a0_2 : Int) (l0_3 : List Int) (a0_4 : Int) (a0_5 : Int) (l0_6 : List (S50)) (a1 : Int) : Option (Int):=(impl_isLs.f k a0_0 a0_1 a0_2 l0_3 a0_4 a0_5 l0_6).bind fun t230 => (if t230 = true then ((impl_in.f a1 0 (wrap64 ((l0_6.length : Int) - 1))).bind fun t231 => (impl_LsClock.j0 k a1 (!t231) a0_0 a0_1 a0_2 l0_3 a0_4 a0_5 l0_6)) else (impl_LsClock.j0 k a1 true a0_0 a0_1 a0_2 l0_3 a0_4 a0_5 l0_6))
set_option maxHeartbeats 8000000 in
set_option maxRecDepth 100000 in
theorem impl_LsClock.calls (k : Nat) (a0_0 : Int) (a0_1 : Int) (a0_2 : Int) (A0_3 : Option Addr) (c0_3 : Nat) (l0_3 : List Int) (a0_4 : Int) (a0_5 : Int) (A0_6 : Option Addr) (c0_6 : Nat) (l0_6 : List (S50)) (a1 : Int) (r : Int) (w : World) (hr0_3 : Kd.C (Kd.int .i64) w A0_3 l0_3.length l0_3) (hc0_3 : l0_3.length ≤ c0_3) (hr0_6 : Kd.C k50 w A0_6 l0_6.length l0_6) (hc0_6 : l0_6.length ≤ c0_6) (h : impl_LsClock.f k a0_0 a0_1 a0_2 l0_3 a0_4 a0_5 l0_6 a1 = some r) :
  Calls Try.prog 20 #[.agg #[.int .i64 a0_0,.int .i64 a0_1,.int .i64 a0_2,.slice A0_3 l0_3.length c0_3,.int .i64 a0_4,.int .i64 a0_5,.slice A0_6 l0_6.length c0_6],.int .i64 a1] w fun e w' => e = .returned (.int .i64 r) ∧ Below w.heap.size w w':=by
 have hu30:=Try.underlying30
 have HR0_3:=Aside0.mk hr0_3
 have HC0_3:=Aside0.mk hc0_3
 clear hr0_3 hc0_3
 have HR0_6:=Aside0.mk hr0_6
 have HC0_6:=Aside0.mk hc0_6
 clear hr0_6 hc0_6
 have HB:=Aside0.mk (Below.refl w.heap.size w)
 have H : ((impl_isLs.f k a0_0 a0_1 a0_2 l0_3 a0_4 a0_5 l0_6).bind fun t230 => (if t230 = true then ((impl_in.f a1 0 (wrap64 ((l0_6.length : Int) - 1))).bind fun t231 => (impl_LsClock.j0 k a1 (!t231) a0_0 a0_1 a0_2 l0_3 a0_4 a0_5 l0_6)) else (impl_LsClock.j0 k a1 true a0_0 a0_1 a0_2 l0_3 a0_4 a0_5 l0_6))) = some r:=h
 clear h
 have HC3:=Aside0.mk H
 clear H
 go_enter Try.func20,Try.ntmps20
 go_upto_region 1 with (first|((with_reducible refine gate_dst (N:=2) rfl ?_);(try (refine gate_guard (by rfl) ?_;dsimp only));refine box_event ?hg (N:=2) ?hd (cs:=#[.int .i64 a0_0,.int .i64 a0_1,.int .i64 a0_2,.slice A0_3 l0_3.length c0_3,.int .i64 a0_4,.int .i64 a0_5,.slice A0_6 l0_6.length c0_6]) (t:=30) ?hr ?_;(case hd => rfl);(case hg => rfl);(case hr => first|(go_simp;done)|(go_simp;rfl));intro gb229 hg w4 hbox hb;have n0_:=Aside0.mk (below_step (by repeat (first|(with_reducible first|exact HB.out|apply below_alloc|apply pw_below_drewN|apply below_drew1)|exact HB.out)) hb);have n1_:=Aside0.mk (hbox);have n2_:=Aside0.mk ((by rw [hg];exact (below_size (by repeat (first|(with_reducible first|exact HB.out|apply below_alloc|apply pw_below_drewN|apply below_drew1)|exact HB.out))) : w.heap.size ≤ gb229));have n3_:=Aside0.mk ((by rw [hg];exact (below_size (by repeat (first|(with_reducible first|exact HB.out|apply below_alloc|apply pw_below_drewN|apply below_drew1)|exact HB.out))) : w.heap.size ≤ gb229));clear HB;have HB:=n0_;have BK229:=n1_;have GW229:=n2_;have GE229:=n3_;clear n0_ n1_ n2_ n3_;clear hb hbox hg))
 (try simp only [Act.put,List.setIfInBounds_toArray,List.set_cons_zero,List.set_cons_succ])
 go_cut [16] (fun v16 wc => ∃ (kq : Nat) (x16_2 : Bool),v16 = .bool x16_2 ∧ Aside0 (impl_LsClock.j0 kq a1 x16_2 a0_0 a0_1 a0_2 l0_3 a0_4 a0_5 l0_6 = some r) ∧ Aside0 (kq ≤ k) ∧ Aside0 (wc.heap[gb229]? = some (.cells #[.int .i64 a0_0,.int .i64 a0_1,.int .i64 a0_2,(.slice A0_3 l0_3.length c0_3),.int .i64 a0_4,.int .i64 a0_5,(.slice A0_6 l0_6.length c0_6)] 30 (0,0))) ∧ Aside0 (Below w.heap.size w wc))
 case first =>
  have H:=HC3.out
  clear HC3
  replace H:=Option.bind_eq_some_iff.mp H
  obtain ⟨t230,A50,H⟩:=H
  replace H : (if t230 = true then ((impl_in.f a1 0 (wrap64 ((l0_6.length : Int) - 1))).bind fun t231 => (impl_LsClock.j0 k a1 (!t231) a0_0 a0_1 a0_2 l0_3 a0_4 a0_5 l0_6)) else (impl_LsClock.j0 k a1 true a0_0 a0_1 a0_2 l0_3 a0_4 a0_5 l0_6)) = some r:=H
  have A5:=Aside0.mk A50
  clear A50
  by_cases c6 : t230 = true
  ·
   subst c6
   have H1 : ((impl_in.f a1 0 (wrap64 ((l0_6.length : Int) - 1))).bind fun t231 => (impl_LsClock.j0 k a1 (!t231) a0_0 a0_1 a0_2 l0_3 a0_4 a0_5 l0_6)) = some r:=by rw [if_pos rfl] at H;exact H
   clear H
   have H:=H1
   clear H1
   replace H:=Option.bind_eq_some_iff.mp H
   obtain ⟨t231,A70,H⟩:=H
   replace H : (impl_LsClock.j0 k a1 (!t231) a0_0 a0_1 a0_2 l0_3 a0_4 a0_5 l0_6) = some r:=H
   have A7:=Aside0.mk A70
   clear A70
   have H':=Aside0.mk H
   clear H
   have hcz8_0 : w4.cell? ⟨gb229,0,none⟩ = some (.int .i64 a0_0):=(blk_cell BK229.out 0).trans rfl
   have hcz8_1 : w4.cell? ⟨gb229,1,none⟩ = some (.int .i64 a0_1):=(blk_cell BK229.out 1).trans rfl
   have hcz8_2 : w4.cell? ⟨gb229,2,none⟩ = some (.int .i64 a0_2):=(blk_cell BK229.out 2).trans rfl
   have hcz8_3 : w4.cell? ⟨gb229,3,none⟩ = some (.slice A0_3 l0_3.length c0_3):=(blk_cell BK229.out 3).trans rfl
   have hcz8_4 : w4.cell? ⟨gb229,4,none⟩ = some (.int .i64 a0_4):=(blk_cell BK229.out 4).trans rfl
   have hcz8_5 : w4.cell? ⟨gb229,5,none⟩ = some (.int .i64 a0_5):=(blk_cell BK229.out 5).trans rfl
   have hcz8_6 : w4.cell? ⟨gb229,6,none⟩ = some (.slice A0_6 l0_6.length c0_6):=(blk_cell BK229.out 6).trans rfl
   have hfz8_0:=blk_frozen BK229.out 0
   have hfz8_1:=blk_frozen BK229.out 1
   have hfz8_2:=blk_frozen BK229.out 2
   have hfz8_3:=blk_frozen BK229.out 3
   have hfz8_4:=blk_frozen BK229.out 4
   have hfz8_5:=blk_frozen BK229.out 5
   have hfz8_6:=blk_frozen BK229.out 6
   go_wp2_with (first|((with_reducible refine gate_callee (f:=51) rfl ?_);refine goesL_ (some 6) rfl rfl Try.func51 (by kernel_rfl) rfl #[.agg #[.int .i64 a0_0,.int .i64 a0_1,.int .i64 a0_2,.slice A0_3 l0_3.length c0_3,.int .i64 a0_4,.int .i64 a0_5,.slice A0_6 l0_6.length c0_6]] rfl (by (try simp only [List.map_toArray,List.map_cons,List.map_nil]);first|done|rfl|(simp only [List.length_drop,List.length_take];rfl)) ?_;(with_reducible refine (impl_isLs.calls k a0_0 a0_1 a0_2 _ _ l0_3 a0_4 a0_5 _ _ l0_6 true _ ?side1 ?side2 ?side3 ?side4 A5.out).mono ?_);(case side1 => repeat (first|exact (Kd.C_below HR0_3.out HB.out)|(with_reducible refine Kd.C_alloc ?_ _)|(with_reducible refine Kd.C_drewN ?_ _)|(with_reducible refine Kd.C_drew ?_)));(case side2 => exact HC0_3.out);(case side3 => repeat (first|exact (Kd.C_below HR0_6.out HB.out)|(with_reducible refine Kd.C_alloc ?_ _)|(with_reducible refine Kd.C_drewN ?_ _)|(with_reducible refine Kd.C_drew ?_)));(case side4 => exact HC0_6.out);rintro e w9 ⟨rfl,hb⟩;refine ⟨_,rfl,?_⟩;have n0_:=Aside0.mk (blk_below (g:=gb229) (o:=.cells #[.int .i64 a0_0,.int .i64 a0_1,.int .i64 a0_2,.slice A0_3 l0_3.length c0_3,.int .i64 a0_4,.int .i64 a0_5,.slice A0_6 l0_6.length c0_6] 30 (0,0)) (by (with_reducible repeat (first|refine blk_drewN ?_ _|refine blk_drew ?_|refine blk_alloc ?_ _));exact BK229.out) hb);have n1_:=Aside0.mk (below_step (by repeat (first|(with_reducible first|exact HB.out|apply below_alloc|apply pw_below_drewN|apply below_drew1|refine below_set ?_ GE229.out)|exact HB.out)) hb);clear BK229;clear HB;have BK229:=n0_;have HB:=n1_;clear n0_ n1_;(try clear hb);(try clear hb2);(try clear hk);(try clear hi);have hcz10_0 : w9.cell? ⟨gb229,0,none⟩ = some (.int .i64 a0_0):=(blk_cell BK229.out 0).trans rfl;have hcz10_1 : w9.cell? ⟨gb229,1,none⟩ = some (.int .i64 a0_1):=(blk_cell BK229.out 1).trans rfl;have hcz10_2 : w9.cell? ⟨gb229,2,none⟩ = some (.int .i64 a0_2):=(blk_cell BK229.out 2).trans rfl;have hcz10_3 : w9.cell? ⟨gb229,3,none⟩ = some (.slice A0_3 l0_3.length c0_3):=(blk_cell BK229.out 3).trans rfl;have hcz10_4 : w9.cell? ⟨gb229,4,none⟩ = some (.int .i64 a0_4):=(blk_cell BK229.out 4).trans rfl;have hcz10_5 : w9.cell? ⟨gb229,5,none⟩ = some (.int .i64 a0_5):=(blk_cell BK229.out 5).trans rfl;have hcz10_6 : w9.cell? ⟨gb229,6,none⟩ = some (.slice A0_6 l0_6.length c0_6):=(blk_cell BK229.out 6).trans rfl;have hfz10_0:=blk_frozen BK229.out 0;have hfz10_1:=blk_frozen BK229.out 1;have hfz10_2:=blk_frozen BK229.out 2;have hfz10_3:=blk_frozen BK229.out 3;have hfz10_4:=blk_frozen BK229.out 4;have hfz10_5:=blk_frozen BK229.out 5;have hfz10_6:=blk_frozen BK229.out 6)|(go_at_call 54;(with_reducible refine (impl_in.calls a1 0 (wrap64 ((l0_6.length : Int) - 1)) t231 _ A7.out).mono ?_);rintro e w' ⟨rfl,⟨nd,rfl⟩⟩))
   go_meet
   case rel => exact ⟨_,(!t231),(by first|rfl|(simp;done)|(simp [*];done)),H',⟨by first|omega|exact Nat.le_refl _⟩,⟨by (with_reducible repeat (first|refine blk_drewN ?_ _|refine blk_drew ?_|refine blk_alloc ?_ _));exact BK229.out⟩,⟨by repeat (first|(with_reducible first|exact HB.out|apply below_alloc|apply pw_below_drewN|apply below_drew1|refine below_set ?_ GE229.out)|exact HB.out)⟩⟩
  ·
   replace c6:=Bool.eq_false_iff.mpr c6
   subst c6
   have H1 : (impl_LsClock.j0 k a1 true a0_0 a0_1 a0_2 l0_3 a0_4 a0_5 l0_6) = some r:=by rw [if_neg (show ¬ (false = true) by decide)] at H;exact H
   clear H
   have H:=H1
   clear H1
   have H':=Aside0.mk H
   clear H
   have hcz11_0 : w4.cell? ⟨gb229,0,none⟩ = some (.int .i64 a0_0):=(blk_cell BK229.out 0).trans rfl
   have hcz11_1 : w4.cell? ⟨gb229,1,none⟩ = some (.int .i64 a0_1):=(blk_cell BK229.out 1).trans rfl
   have hcz11_2 : w4.cell? ⟨gb229,2,none⟩ = some (.int .i64 a0_2):=(blk_cell BK229.out 2).trans rfl
   have hcz11_3 : w4.cell? ⟨gb229,3,none⟩ = some (.slice A0_3 l0_3.length c0_3):=(blk_cell BK229.out 3).trans rfl
   have hcz11_4 : w4.cell? ⟨gb229,4,none⟩ = some (.int .i64 a0_4):=(blk_cell BK229.out 4).trans rfl
   have hcz11_5 : w4.cell? ⟨gb229,5,none⟩ = some (.int .i64 a0_5):=(blk_cell BK229.out 5).trans rfl
   have hcz11_6 : w4.cell? ⟨gb229,6,none⟩ = some (.slice A0_6 l0_6.length c0_6):=(blk_cell BK229.out 6).trans rfl
   have hfz11_0:=blk_frozen BK229.out 0
   have hfz11_1:=blk_frozen BK229.out 1
   have hfz11_2:=blk_frozen BK229.out 2
   have hfz11_3:=blk_frozen BK229.out 3
   have hfz11_4:=blk_frozen BK229.out 4
   have hfz11_5:=blk_frozen BK229.out 5
   have hfz11_6:=blk_frozen BK229.out 6
   go_wp2_with (first|((with_reducible refine gate_callee (f:=51) rfl ?_);refine goesL_ (some 6) rfl rfl Try.func51 (by kernel_rfl) rfl #[.agg #[.int .i64 a0_0,.int .i64 a0_1,.int .i64 a0_2,.slice A0_3 l0_3.length c0_3,.int .i64 a0_4,.int .i64 a0_5,.slice A0_6 l0_6.length c0_6]] rfl (by (try simp only [List.map_toArray,List.map_cons,List.map_nil]);first|done|rfl|(simp only [List.length_drop,List.length_take];rfl)) ?_;(with_reducible refine (impl_isLs.calls k a0_0 a0_1 a0_2 _ _ l0_3 a0_4 a0_5 _ _ l0_6 false _ ?side1 ?side2 ?side3 ?side4 A5.out).mono ?_);(case side1 => repeat (first|exact (Kd.C_below HR0_3.out HB.out)|(with_reducible refine Kd.C_alloc ?_ _)|(with_reducible refine Kd.C_drewN ?_ _)|(with_reducible refine Kd.C_drew ?_)));(case side2 => exact HC0_3.out);(case side3 => repeat (first|exact (Kd.C_below HR0_6.out HB.out)|(with_reducible refine Kd.C_alloc ?_ _)|(with_reducible refine Kd.C_drewN ?_ _)|(with_reducible refine Kd.C_drew ?_)));(case side4 => exact HC0_6.out);rintro e w12 ⟨rfl,hb⟩;refine ⟨_,rfl,?_⟩;have n0_:=Aside0.mk (blk_below (g:=gb229) (o:=.cells #[.int .i64 a0_0,.int .i64 a0_1,.int .i64 a0_2,.slice A0_3 l0_3.length c0_3,.int .i64 a0_4,.int .i64 a0_5,.slice A0_6 l0_6.length c0_6] 30 (0,0)) (by (with_reducible repeat (first|refine blk_drewN ?_ _|refine blk_drew ?_|refine blk_alloc ?_ _));exact BK229.out) hb);have n1_:=Aside0.mk (below_step (by repeat (first|(with_reducible first|exact HB.out|apply below_alloc|apply pw_below_drewN|apply below_drew1|refine below_set ?_ GE229.out)|exact HB.out)) hb);clear BK229;clear HB;have BK229:=n0_;have HB:=n1_;clear n0_ n1_;(try clear hb);(try clear hb2);(try clear hk);(try clear hi)))
   go_meet
   case rel => exact ⟨_,(true),(by first|rfl|(simp;done)|(simp [*];done)),H',⟨by first|omega|exact Nat.le_refl _⟩,⟨by (with_reducible repeat (first|refine blk_drewN ?_ _|refine blk_drew ?_|refine blk_alloc ?_ _));exact BK229.out⟩,⟨by repeat (first|(with_reducible first|exact HB.out|apply below_alloc|apply pw_below_drewN|apply below_drew1|refine below_set ?_ GE229.out)|exact HB.out)⟩⟩
 case rest =>
  clear HC3
  try clear c2
  try clear p2
  try clear c5
  try clear c6
  try clear p6
  try clear hcz10_0
  try clear hcz10_1
  try clear hcz10_2
  try clear hcz10_3
  try clear hcz10_4
  try clear hcz10_5
  try clear hcz10_6
  try clear hcz11_0
  try clear hcz11_1
  try clear hcz11_2
  try clear hcz11_3
  try clear hcz11_4
  try clear hcz11_5
  try clear hcz11_6
  try clear hcz8_0
  try clear hcz8_1
  try clear hcz8_2
  try clear hcz8_3
  try clear hcz8_4
  try clear hcz8_5
  try clear hcz8_6
  try clear hfz10_0
  try clear hfz10_1
  try clear hfz10_2
  try clear hfz10_3
  try clear hfz10_4
  try clear hfz10_5
  try clear hfz10_6
  try clear hfz11_0
  try clear hfz11_1
  try clear hfz11_2
  try clear hfz11_3
  try clear hfz11_4
  try clear hfz11_5
  try clear hfz11_6
  try clear hfz8_0
  try clear hfz8_1
  try clear hfz8_2
  try clear hfz8_3
  try clear hfz8_4
  try clear hfz8_5
  try clear hfz8_6
  obtain ⟨kq,x16_2,rfl,HA,HJ2,BK229,HB⟩:=hcut
  cases kq with
  | zero => exact absurd HA.out (by simp [impl_LsClock.j0])
  | succ kj2 =>
   have H:=HA.out
   clear HA
   simp only [impl_LsClock.j0] at H
   by_cases c13 : x16_2 = true
   ·
    subst c13
    have H1 : (some 0) = some r:=by rw [if_pos rfl] at H;exact H
    clear H
    have H:=H1
    clear H1
    obtain rfl:=Option.some.inj H
    go_wp2
    go_ret
    exact ⟨by first|rfl|(simp [errW_none,errW_some] <;> rfl)|(simp [*,errW_none,errW_some] <;> rfl),by repeat (first|(with_reducible first|exact HB.out|apply below_alloc|apply pw_below_drewN|apply below_drew1|refine below_set ?_ GE229.out)|exact HB.out)⟩
   ·
    replace c13:=Bool.eq_false_iff.mpr c13
    subst c13
    have H1 : ((impl_Ls_clock.f a0_0 a0_1 a0_2 l0_3 a0_4 a0_5 l0_6 a1).bind fun t232 => (some t232)) = some r:=by rw [if_neg (show ¬ (false = true) by decide)] at H;exact H
    clear H
    have H:=H1
    clear H1
    replace H:=Option.bind_eq_some_iff.mp H
    obtain ⟨t232,A140,H⟩:=H
    replace H : (some t232) = some r:=H
    have A14:=Aside0.mk A140
    clear A140
    obtain rfl:=Option.some.inj H
    go_wp2_with (first|((with_reducible refine gate_callee (f:=55) rfl ?_);refine goesL_ (some 18) rfl rfl Try.func55 (by kernel_rfl) rfl #[.pointer (some ⟨gb229,0,none⟩),.int .i64 a1] rfl (by (try simp only [List.map_toArray,List.map_cons,List.map_nil]);first|done|rfl|(simp only [List.length_drop,List.length_take];rfl)) ?_;(with_reducible refine (impl_Ls_clock.calls gb229 a0_0 a0_1 a0_2 A0_3 c0_3 l0_3 a0_4 a0_5 A0_6 c0_6 l0_6 a1 t232 _ ?side1 ?side2 ?side3 ?side4 ?side5 A14.out).mono ?_);(case side1 => exact (by (with_reducible repeat (first|refine blk_drewN ?_ _|refine blk_drew ?_|refine blk_alloc ?_ _));exact BK229.out));(case side2 => repeat (first|exact (Kd.C_below HR0_3.out HB.out)|(with_reducible refine Kd.C_alloc ?_ _)|(with_reducible refine Kd.C_drewN ?_ _)|(with_reducible refine Kd.C_drew ?_)));(case side3 => exact HC0_3.out);(case side4 => repeat (first|exact (Kd.C_below HR0_6.out HB.out)|(with_reducible refine Kd.C_alloc ?_ _)|(with_reducible refine Kd.C_drewN ?_ _)|(with_reducible refine Kd.C_drew ?_)));(case side5 => exact HC0_6.out);rintro e w' ⟨rfl,⟨nd,rfl⟩⟩;refine ⟨_,rfl,?_⟩))
    go_ret
    exact ⟨by first|rfl|(simp [errW_none,errW_some] <;> rfl)|(simp [*,errW_none,errW_some] <;> rfl),by repeat (first|(with_reducible first|exact HB.out|apply below_alloc|apply pw_below_drewN|apply below_drew1|refine below_set ?_ GE229.out)|exact HB.out)⟩
def laws_FnExactLsClock.f (k : Nat) (a0_0 : Int) (a0_1 : Int) (a0_2 : Int) (l0_3 : List Int) (a0_4 : Int) (a0_5 : Int) (l0_6 : List (S68)) (a1 : Int) : Option (Bool):=(laws_szLs.f a0_0 a0_1 a0_2 l0_3 a0_4 a0_5 l0_6 1048576).bind fun t234 => (if t234 < 0 then (some true) else ((laws_toLs.f k a0_0 a0_1 a0_2 l0_3 a0_4 a0_5 l0_6).bind fun bt235 => ((spec_LsClock.f k bt235.1 bt235.2.1 bt235.2.2.1 bt235.2.2.2.1 bt235.2.2.2.2.1 bt235.2.2.2.2.2.1 bt235.2.2.2.2.2.2 a1).bind fun t246 => ((laws_toLs.f k a0_0 a0_1 a0_2 l0_3 a0_4 a0_5 l0_6).bind fun bt247 => ((impl_LsClock.f k bt247.1 bt247.2.1 bt247.2.2.1 bt247.2.2.2.1 bt247.2.2.2.2.1 bt247.2.2.2.2.2.1 bt247.2.2.2.2.2.2 a1).bind fun t259 => (if t259 = t246 then ((laws_toLs.f k a0_0 a0_1 a0_2 l0_3 a0_4 a0_5 l0_6).bind fun bt260 => ((laws_eqLs.f k bt247.1 bt247.2.1 bt247.2.2.1 bt247.2.2.2.1 bt247.2.2.2.2.1 bt247.2.2.2.2.2.1 bt247.2.2.2.2.2.2 bt260.1 bt260.2.1 bt260.2.2.1 bt260.2.2.2.1 bt260.2.2.2.2.1 bt260.2.2.2.2.2.1 bt260.2.2.2.2.2.2).bind fun t271 => (if t271 = true then (some true) else (some false)))) else (some false)))))))
set_option maxHeartbeats 8000000 in
set_option maxRecDepth 100000 in
theorem laws_FnExactLsClock.calls (k : Nat) (a0_0 : Int) (a0_1 : Int) (a0_2 : Int) (A0_3 : Option Addr) (c0_3 : Nat) (l0_3 : List Int) (a0_4 : Int) (a0_5 : Int) (A0_6 : Option Addr) (c0_6 : Nat) (l0_6 : List (S68)) (a1 : Int) (r : Bool) (w : World) (hr0_3 : Kd.C (Kd.int .i64) w A0_3 l0_3.length l0_3) (hc0_3 : l0_3.length ≤ c0_3) (hr0_6 : Kd.C k68 w A0_6 l0_6.length l0_6) (hc0_6 : l0_6.length ≤ c0_6) (h : laws_FnExactLsClock.f k a0_0 a0_1 a0_2 l0_3 a0_4 a0_5 l0_6 a1 = some r) (hrt_ : r = true) :
  Calls Try.prog 4 #[.agg #[.int .i64 a0_0,.int .i64 a0_1,.int .i64 a0_2,.slice A0_3 l0_3.length c0_3,.int .i64 a0_4,.int .i64 a0_5,.slice A0_6 l0_6.length c0_6],.int .i64 a1] w fun e w' => e = .returned (.bool r) ∧ Below w.heap.size w w':=by
 have hu25:=Try.underlying25
 have hu30:=Try.underlying30
 have HR0_3:=Aside0.mk hr0_3
 have HC0_3:=Aside0.mk hc0_3
 clear hr0_3 hc0_3
 have HR0_6:=Aside0.mk hr0_6
 have HC0_6:=Aside0.mk hc0_6
 clear hr0_6 hc0_6
 have HB:=Aside0.mk (Below.refl w.heap.size w)
 have H : ((laws_szLs.f a0_0 a0_1 a0_2 l0_3 a0_4 a0_5 l0_6 1048576).bind fun t234 => (if t234 < 0 then (some true) else ((laws_toLs.f k a0_0 a0_1 a0_2 l0_3 a0_4 a0_5 l0_6).bind fun bt235 => ((spec_LsClock.f k bt235.1 bt235.2.1 bt235.2.2.1 bt235.2.2.2.1 bt235.2.2.2.2.1 bt235.2.2.2.2.2.1 bt235.2.2.2.2.2.2 a1).bind fun t246 => ((laws_toLs.f k a0_0 a0_1 a0_2 l0_3 a0_4 a0_5 l0_6).bind fun bt247 => ((impl_LsClock.f k bt247.1 bt247.2.1 bt247.2.2.1 bt247.2.2.2.1 bt247.2.2.2.2.1 bt247.2.2.2.2.2.1 bt247.2.2.2.2.2.2 a1).bind fun t259 => (if t259 = t246 then ((laws_toLs.f k a0_0 a0_1 a0_2 l0_3 a0_4 a0_5 l0_6).bind fun bt260 => ((laws_eqLs.f k bt247.1 bt247.2.1 bt247.2.2.1 bt247.2.2.2.1 bt247.2.2.2.2.1 bt247.2.2.2.2.2.1 bt247.2.2.2.2.2.2 bt260.1 bt260.2.1 bt260.2.2.1 bt260.2.2.2.1 bt260.2.2.2.2.1 bt260.2.2.2.2.2.1 bt260.2.2.2.2.2.2).bind fun t271 => (if t271 = true then (some true) else (some false)))) else (some false)))))))) = some r:=h
 clear h
 replace H:=Option.bind_eq_some_iff.mp H
 obtain ⟨t234,A30,H⟩:=H
 replace H : (if t234 < 0 then (some true) else ((laws_toLs.f k a0_0 a0_1 a0_2 l0_3 a0_4 a0_5 l0_6).bind fun bt235 => ((spec_LsClock.f k bt235.1 bt235.2.1 bt235.2.2.1 bt235.2.2.2.1 bt235.2.2.2.2.1 bt235.2.2.2.2.2.1 bt235.2.2.2.2.2.2 a1).bind fun t246 => ((laws_toLs.f k a0_0 a0_1 a0_2 l0_3 a0_4 a0_5 l0_6).bind fun bt247 => ((impl_LsClock.f k bt247.1 bt247.2.1 bt247.2.2.1 bt247.2.2.2.1 bt247.2.2.2.2.1 bt247.2.2.2.2.2.1 bt247.2.2.2.2.2.2 a1).bind fun t259 => (if t259 = t246 then ((laws_toLs.f k a0_0 a0_1 a0_2 l0_3 a0_4 a0_5 l0_6).bind fun bt260 => ((laws_eqLs.f k bt247.1 bt247.2.1 bt247.2.2.1 bt247.2.2.2.1 bt247.2.2.2.2.1 bt247.2.2.2.2.2.1 bt247.2.2.2.2.2.2 bt260.1 bt260.2.1 bt260.2.2.1 bt260.2.2.2.1 bt260.2.2.2.2.1 bt260.2.2.2.2.2.1 bt260.2.2.2.2.2.2).bind fun t271 => (if t271 = true then (some true) else (some false)))) else (some false))))))) = some r:=H
 have A3:=Aside0.mk A30
 clear A30
 by_cases c4 : t234 < 0
 ·
  rw [if_pos c4] at H
  have c4b0 : decide (t234 < 0) = true:=decide_eq_true c4
  clear c4
  obtain rfl:=Option.some.inj H
  go_enter Try.func4,Try.ntmps4
  go_wp2_with (first|((with_reducible refine gate_dst (N:=2) rfl ?_);refine box_event ?hg (N:=2) ?hd (cs:=#[.int .i64 a0_0,.int .i64 a0_1,.int .i64 a0_2,.slice A0_3 l0_3.length c0_3,.int .i64 a0_4,.int .i64 a0_5,.slice A0_6 l0_6.length c0_6]) (t:=25) ?hr ?_;(case hd => rfl);(case hg => rfl);(case hr => first|(go_simp;done)|(go_simp;rfl));intro gb233 hg w5 hbox hb;have n0_:=Aside0.mk (below_step (by repeat (first|(with_reducible first|exact HB.out|apply below_alloc|apply pw_below_drewN|apply below_drew1)|exact HB.out)) hb);have n1_:=Aside0.mk (hbox);have n2_:=Aside0.mk ((by rw [hg];exact (below_size (by repeat (first|(with_reducible first|exact HB.out|apply below_alloc|apply pw_below_drewN|apply below_drew1)|exact HB.out))) : w.heap.size ≤ gb233));have n3_:=Aside0.mk ((by rw [hg];exact (below_size (by repeat (first|(with_reducible first|exact HB.out|apply below_alloc|apply pw_below_drewN|apply below_drew1)|exact HB.out))) : w.heap.size ≤ gb233));clear HB;have HB:=n0_;have BK233:=n1_;have GW233:=n2_;have GE233:=n3_;clear n0_ n1_ n2_ n3_;clear hb hbox hg;have hcz6_0 : w5.cell? ⟨gb233,0,none⟩ = some (.int .i64 a0_0):=(blk_cell BK233.out 0).trans rfl;have hcz6_1 : w5.cell? ⟨gb233,1,none⟩ = some (.int .i64 a0_1):=(blk_cell BK233.out 1).trans rfl;have hcz6_2 : w5.cell? ⟨gb233,2,none⟩ = some (.int .i64 a0_2):=(blk_cell BK233.out 2).trans rfl;have hcz6_3 : w5.cell? ⟨gb233,3,none⟩ = some (.slice A0_3 l0_3.length c0_3):=(blk_cell BK233.out 3).trans rfl;have hcz6_4 : w5.cell? ⟨gb233,4,none⟩ = some (.int .i64 a0_4):=(blk_cell BK233.out 4).trans rfl;have hcz6_5 : w5.cell? ⟨gb233,5,none⟩ = some (.int .i64 a0_5):=(blk_cell BK233.out 5).trans rfl;have hcz6_6 : w5.cell? ⟨gb233,6,none⟩ = some (.slice A0_6 l0_6.length c0_6):=(blk_cell BK233.out 6).trans rfl;have hfz6_0:=blk_frozen BK233.out 0;have hfz6_1:=blk_frozen BK233.out 1;have hfz6_2:=blk_frozen BK233.out 2;have hfz6_3:=blk_frozen BK233.out 3;have hfz6_4:=blk_frozen BK233.out 4;have hfz6_5:=blk_frozen BK233.out 5;have hfz6_6:=blk_frozen BK233.out 6)|((with_reducible refine gate_callee (f:=14) rfl ?_);refine goesL_ (some 11) rfl rfl Try.func14 (by kernel_rfl) rfl #[.agg #[.int .i64 a0_0,.int .i64 a0_1,.int .i64 a0_2,.slice A0_3 l0_3.length c0_3,.int .i64 a0_4,.int .i64 a0_5,.slice A0_6 l0_6.length c0_6],.int .i64 1048576] rfl (by (try simp only [List.map_toArray,List.map_cons,List.map_nil]);first|done|rfl|(simp only [List.length_drop,List.length_take];rfl)) ?_;(with_reducible refine (laws_szLs.calls a0_0 a0_1 a0_2 _ _ l0_3 a0_4 a0_5 _ _ l0_6 1048576 t234 _ ?side1 ?side2 ?side3 ?side4 A3.out).mono ?_);(case side1 => repeat (first|exact (Kd.C_below HR0_3.out HB.out)|(with_reducible refine Kd.C_alloc ?_ _)|(with_reducible refine Kd.C_drewN ?_ _)|(with_reducible refine Kd.C_drew ?_)));(case side2 => exact HC0_3.out);(case side3 => repeat (first|exact (Kd.C_below HR0_6.out HB.out)|(with_reducible refine Kd.C_alloc ?_ _)|(with_reducible refine Kd.C_drewN ?_ _)|(with_reducible refine Kd.C_drew ?_)));(case side4 => exact HC0_6.out);rintro e w7 ⟨rfl,hb⟩;refine ⟨_,rfl,?_⟩;have n0_:=Aside0.mk (below_step (by repeat (first|(with_reducible first|exact HB.out|apply below_alloc|apply pw_below_drewN|apply below_drew1)|exact HB.out)) hb);clear HB;(try clear BK233);(try clear GW233);(try clear GE233);have HB:=n0_;clear n0_;(try clear hb);(try clear hb2);(try clear hk);(try clear hi)))
  go_ret
  exact ⟨by first|rfl|(simp [errW_none,errW_some] <;> rfl)|(simp [*,errW_none,errW_some] <;> rfl),by repeat (first|(with_reducible first|exact HB.out|apply below_alloc|apply pw_below_drewN|apply below_drew1)|exact HB.out)⟩
 ·
  rw [if_neg c4] at H
  have c4b0 : decide (t234 < 0) = false:=decide_eq_false c4
  clear c4
  replace H:=Option.bind_eq_some_iff.mp H
  obtain ⟨⟨t235,t236,t237,t238,t241,t242,t243⟩,A80,H⟩:=H
  replace H : ((spec_LsClock.f k t235 t236 t237 t238 t241 t242 t243 a1).bind fun t246 => ((laws_toLs.f k a0_0 a0_1 a0_2 l0_3 a0_4 a0_5 l0_6).bind fun bt247 => ((impl_LsClock.f k bt247.1 bt247.2.1 bt247.2.2.1 bt247.2.2.2.1 bt247.2.2.2.2.1 bt247.2.2.2.2.2.1 bt247.2.2.2.2.2.2 a1).bind fun t259 => (if t259 = t246 then ((laws_toLs.f k a0_0 a0_1 a0_2 l0_3 a0_4 a0_5 l0_6).bind fun bt260 => ((laws_eqLs.f k bt247.1 bt247.2.1 bt247.2.2.1 bt247.2.2.2.1 bt247.2.2.2.2.1 bt247.2.2.2.2.2.1 bt247.2.2.2.2.2.2 bt260.1 bt260.2.1 bt260.2.2.1 bt260.2.2.2.1 bt260.2.2.2.2.1 bt260.2.2.2.2.2.1 bt260.2.2.2.2.2.2).bind fun t271 => (if t271 = true then (some true) else (some false)))) else (some false))))) = some r:=H
  have A8:=Aside0.mk A80
  clear A80
  replace H:=Option.bind_eq_some_iff.mp H
  obtain ⟨t246,A90,H⟩:=H
  replace H : ((laws_toLs.f k a0_0 a0_1 a0_2 l0_3 a0_4 a0_5 l0_6).bind fun bt247 => ((impl_LsClock.f k bt247.1 bt247.2.1 bt247.2.2.1 bt247.2.2.2.1 bt247.2.2.2.2.1 bt247.2.2.2.2.2.1 bt247.2.2.2.2.2.2 a1).bind fun t259 => (if t259 = t246 then ((laws_toLs.f k a0_0 a0_1 a0_2 l0_3 a0_4 a0_5 l0_6).bind fun bt260 => ((laws_eqLs.f k bt247.1 bt247.2.1 bt247.2.2.1 bt247.2.2.2.1 bt247.2.2.2.2.1 bt247.2.2.2.2.2.1 bt247.2.2.2.2.2.2 bt260.1 bt260.2.1 bt260.2.2.1 bt260.2.2.2.1 bt260.2.2.2.2.1 bt260.2.2.2.2.2.1 bt260.2.2.2.2.2.2).bind fun t271 => (if t271 = true then (some true) else (some false)))) else (some false)))) = some r:=H
  have A9:=Aside0.mk A90
  clear A90
  replace H:=Option.bind_eq_some_iff.mp H
  obtain ⟨⟨t247,t248,t249,t250,t253,t254,t255⟩,A100,H⟩:=H
  replace H : ((impl_LsClock.f k t247 t248 t249 t250 t253 t254 t255 a1).bind fun t259 => (if t259 = t246 then ((laws_toLs.f k a0_0 a0_1 a0_2 l0_3 a0_4 a0_5 l0_6).bind fun bt260 => ((laws_eqLs.f k t247 t248 t249 t250 t253 t254 t255 bt260.1 bt260.2.1 bt260.2.2.1 bt260.2.2.2.1 bt260.2.2.2.2.1 bt260.2.2.2.2.2.1 bt260.2.2.2.2.2.2).bind fun t271 => (if t271 = true then (some true) else (some false)))) else (some false))) = some r:=H
  have A10:=Aside0.mk A100
  clear A100
  replace H:=Option.bind_eq_some_iff.mp H
  obtain ⟨t259,A110,H⟩:=H
  replace H : (if t259 = t246 then ((laws_toLs.f k a0_0 a0_1 a0_2 l0_3 a0_4 a0_5 l0_6).bind fun bt260 => ((laws_eqLs.f k t247 t248 t249 t250 t253 t254 t255 bt260.1 bt260.2.1 bt260.2.2.1 bt260.2.2.2.1 bt260.2.2.2.2.1 bt260.2.2.2.2.2.1 bt260.2.2.2.2.2.2).bind fun t271 => (if t271 = true then (some true) else (some false)))) else (some false)) = some r:=H
  have A11:=Aside0.mk A110
  clear A110
  by_cases c12 : t259 = t246
  ·
   rw [if_pos c12] at H
   have c12b0 : (t259 == t246) = true:=beq_iff_eq.mpr c12
   have c12b1 : (t259 != t246) = false:=bne_eq_false_iff_eq.mpr c12
   clear c12
   replace H:=Option.bind_eq_some_iff.mp H
   obtain ⟨⟨t260,t261,t262,t263,t266,t267,t268⟩,A130,H⟩:=H
   replace H : ((laws_eqLs.f k t247 t248 t249 t250 t253 t254 t255 t260 t261 t262 t263 t266 t267 t268).bind fun t271 => (if t271 = true then (some true) else (some false))) = some r:=H
   have A13:=Aside0.mk A130
   clear A130
   replace H:=Option.bind_eq_some_iff.mp H
   obtain ⟨t271,A140,H⟩:=H
   replace H : (if t271 = true then (some true) else (some false)) = some r:=H
   have A14:=Aside0.mk A140
   clear A140
   by_cases c15 : t271 = true
   ·
    subst c15
    have H1 : (some true) = some r:=by rw [if_pos rfl] at H;exact H
    clear H
    have H:=H1
    clear H1
    obtain rfl:=Option.some.inj H
    go_enter Try.func4,Try.ntmps4
    try go_wp2_with (first|((with_reducible refine gate_dst (N:=2) rfl ?_);refine box_event ?hg (N:=2) ?hd (cs:=#[.int .i64 a0_0,.int .i64 a0_1,.int .i64 a0_2,.slice A0_3 l0_3.length c0_3,.int .i64 a0_4,.int .i64 a0_5,.slice A0_6 l0_6.length c0_6]) (t:=25) ?hr ?_;(case hd => rfl);(case hg => rfl);(case hr => first|(go_simp;done)|(go_simp;rfl));intro gb233 hg w16 hbox hb;have n0_:=Aside0.mk (below_step (by repeat (first|(with_reducible first|exact HB.out|apply below_alloc|apply pw_below_drewN|apply below_drew1)|exact HB.out)) hb);have n1_:=Aside0.mk (hbox);have n2_:=Aside0.mk ((by rw [hg];exact (below_size (by repeat (first|(with_reducible first|exact HB.out|apply below_alloc|apply pw_below_drewN|apply below_drew1)|exact HB.out))) : w.heap.size ≤ gb233));have n3_:=Aside0.mk ((by rw [hg];exact (below_size (by repeat (first|(with_reducible first|exact HB.out|apply below_alloc|apply pw_below_drewN|apply below_drew1)|exact HB.out))) : w.heap.size ≤ gb233));clear HB;have HB:=n0_;have BK233:=n1_;have GW233:=n2_;have GE233:=n3_;clear n0_ n1_ n2_ n3_;clear hb hbox hg;have hcz17_0 : w16.cell? ⟨gb233,0,none⟩ = some (.int .i64 a0_0):=(blk_cell BK233.out 0).trans rfl;have hcz17_1 : w16.cell? ⟨gb233,1,none⟩ = some (.int .i64 a0_1):=(blk_cell BK233.out 1).trans rfl;have hcz17_2 : w16.cell? ⟨gb233,2,none⟩ = some (.int .i64 a0_2):=(blk_cell BK233.out 2).trans rfl;have hcz17_3 : w16.cell? ⟨gb233,3,none⟩ = some (.slice A0_3 l0_3.length c0_3):=(blk_cell BK233.out 3).trans rfl;have hcz17_4 : w16.cell? ⟨gb233,4,none⟩ = some (.int .i64 a0_4):=(blk_cell BK233.out 4).trans rfl;have hcz17_5 : w16.cell? ⟨gb233,5,none⟩ = some (.int .i64 a0_5):=(blk_cell BK233.out 5).trans rfl;have hcz17_6 : w16.cell? ⟨gb233,6,none⟩ = some (.slice A0_6 l0_6.length c0_6):=(blk_cell BK233.out 6).trans rfl;have hfz17_0:=blk_frozen BK233.out 0;have hfz17_1:=blk_frozen BK233.out 1;have hfz17_2:=blk_frozen BK233.out 2;have hfz17_3:=blk_frozen BK233.out 3;have hfz17_4:=blk_frozen BK233.out 4;have hfz17_5:=blk_frozen BK233.out 5;have hfz17_6:=blk_frozen BK233.out 6)|((with_reducible refine gate_callee (f:=14) rfl ?_);refine goesL_ (some 11) rfl rfl Try.func14 (by kernel_rfl) rfl #[.agg #[.int .i64 a0_0,.int .i64 a0_1,.int .i64 a0_2,.slice A0_3 l0_3.length c0_3,.int .i64 a0_4,.int .i64 a0_5,.slice A0_6 l0_6.length c0_6],.int .i64 1048576] rfl (by (try simp only [List.map_toArray,List.map_cons,List.map_nil]);first|done|rfl|(simp only [List.length_drop,List.length_take];rfl)) ?_;(with_reducible refine (laws_szLs.calls a0_0 a0_1 a0_2 _ _ l0_3 a0_4 a0_5 _ _ l0_6 1048576 t234 _ ?side1 ?side2 ?side3 ?side4 A3.out).mono ?_);(case side1 => repeat (first|exact (Kd.C_below HR0_3.out HB.out)|(with_reducible refine Kd.C_alloc ?_ _)|(with_reducible refine Kd.C_drewN ?_ _)|(with_reducible refine Kd.C_drew ?_)));(case side2 => exact HC0_3.out);(case side3 => repeat (first|exact (Kd.C_below HR0_6.out HB.out)|(with_reducible refine Kd.C_alloc ?_ _)|(with_reducible refine Kd.C_drewN ?_ _)|(with_reducible refine Kd.C_drew ?_)));(case side4 => exact HC0_6.out);rintro e w18 ⟨rfl,hb⟩;refine ⟨_,rfl,?_⟩;have n0_:=Aside0.mk (blk_below (g:=gb233) (o:=.cells #[.int .i64 a0_0,.int .i64 a0_1,.int .i64 a0_2,.slice A0_3 l0_3.length c0_3,.int .i64 a0_4,.int .i64 a0_5,.slice A0_6 l0_6.length c0_6] 25 (0,0)) (by (with_reducible repeat (first|refine blk_drewN ?_ _|refine blk_drew ?_|refine blk_alloc ?_ _));exact BK233.out) hb);have n1_:=Aside0.mk (below_step (by repeat (first|(with_reducible first|exact HB.out|apply below_alloc|apply pw_below_drewN|apply below_drew1|refine below_set ?_ GE233.out)|exact HB.out)) hb);clear BK233;clear HB;have BK233:=n0_;have HB:=n1_;clear n0_ n1_;(try clear hb);(try clear hb2);(try clear hk);(try clear hi);have hcz19_0 : w18.cell? ⟨gb233,0,none⟩ = some (.int .i64 a0_0):=(blk_cell BK233.out 0).trans rfl;have hcz19_1 : w18.cell? ⟨gb233,1,none⟩ = some (.int .i64 a0_1):=(blk_cell BK233.out 1).trans rfl;have hcz19_2 : w18.cell? ⟨gb233,2,none⟩ = some (.int .i64 a0_2):=(blk_cell BK233.out 2).trans rfl;have hcz19_3 : w18.cell? ⟨gb233,3,none⟩ = some (.slice A0_3 l0_3.length c0_3):=(blk_cell BK233.out 3).trans rfl;have hcz19_4 : w18.cell? ⟨gb233,4,none⟩ = some (.int .i64 a0_4):=(blk_cell BK233.out 4).trans rfl;have hcz19_5 : w18.cell? ⟨gb233,5,none⟩ = some (.int .i64 a0_5):=(blk_cell BK233.out 5).trans rfl;have hcz19_6 : w18.cell? ⟨gb233,6,none⟩ = some (.slice A0_6 l0_6.length c0_6):=(blk_cell BK233.out 6).trans rfl;have hfz19_0:=blk_frozen BK233.out 0;have hfz19_1:=blk_frozen BK233.out 1;have hfz19_2:=blk_frozen BK233.out 2;have hfz19_3:=blk_frozen BK233.out 3;have hfz19_4:=blk_frozen BK233.out 4;have hfz19_5:=blk_frozen BK233.out 5;have hfz19_6:=blk_frozen BK233.out 6)|((with_reducible refine gate_callee (f:=16) rfl ?_);refine goesL_ (some 15) rfl rfl Try.func16 (by kernel_rfl) rfl #[.agg #[.int .i64 a0_0,.int .i64 a0_1,.int .i64 a0_2,.slice A0_3 l0_3.length c0_3,.int .i64 a0_4,.int .i64 a0_5,.slice A0_6 l0_6.length c0_6]] rfl (by (try simp only [List.map_toArray,List.map_cons,List.map_nil]);first|done|rfl|(simp only [List.length_drop,List.length_take];rfl)) ?_;(with_reducible refine (laws_toLs.calls k a0_0 a0_1 a0_2 _ _ l0_3 a0_4 a0_5 _ _ l0_6 t235 t236 t237 t238 t241 t242 t243 _ ?side1 ?side2 ?side3 ?side4 A8.out).mono ?_);(case side1 => repeat (first|exact (Kd.C_below HR0_3.out HB.out)|(with_reducible refine Kd.C_alloc ?_ _)|(with_reducible refine Kd.C_drewN ?_ _)|(with_reducible refine Kd.C_drew ?_)));(case side2 => exact HC0_3.out);(case side3 => repeat (first|exact (Kd.C_below HR0_6.out HB.out)|(with_reducible refine Kd.C_alloc ?_ _)|(with_reducible refine Kd.C_drewN ?_ _)|(with_reducible refine Kd.C_drew ?_)));(case side4 => exact HC0_6.out);rintro e w20 ⟨v239,v244,rfl,ho0,ho1,hb⟩;refine ⟨_,rfl,?_⟩;have n0_:=Aside0.mk (Kd.R_lower ho0 (below_size (by repeat (first|(with_reducible first|exact HB.out|apply below_alloc|apply pw_below_drewN|apply below_drew1|refine below_set ?_ GE233.out)|exact HB.out))));have n1_:=Aside0.mk (Kd.R_lower ho1 (below_size (by repeat (first|(with_reducible first|exact HB.out|apply below_alloc|apply pw_below_drewN|apply below_drew1|refine below_set ?_ GE233.out)|exact HB.out))));have n2_:=Aside0.mk (blk_below (g:=gb233) (o:=.cells #[.int .i64 a0_0,.int .i64 a0_1,.int .i64 a0_2,.slice A0_3 l0_3.length c0_3,.int .i64 a0_4,.int .i64 a0_5,.slice A0_6 l0_6.length c0_6] 25 (0,0)) (by (with_reducible repeat (first|refine blk_drewN ?_ _|refine blk_drew ?_|refine blk_alloc ?_ _));exact BK233.out) hb);have n3_:=Aside0.mk (below_step (by repeat (first|(with_reducible first|exact HB.out|apply below_alloc|apply pw_below_drewN|apply below_drew1|refine below_set ?_ GE233.out)|exact HB.out)) hb);clear BK233;clear HB;have HO240:=n0_;have HO245:=n1_;have BK233:=n2_;have HB:=n3_;clear n0_ n1_ n2_ n3_;(try clear hb);(try clear hb2);(try clear hk);(try clear hi);(try clear ho0);(try clear ho1);obtain ⟨Ao21,co21,eo21⟩:=Kd.R_slice HO240.out;subst eo21;obtain ⟨Ao22,co22,eo22⟩:=Kd.R_slice HO245.out;subst eo22)|((with_reducible refine gate_callee (f:=19) rfl ?_);refine goesL_ (some 17) rfl rfl Try.func19 (by kernel_rfl) rfl #[.agg #[.int .i64 t235,.int .i64 t236,.int .i64 t237,.slice Ao21 t238.length co21,.int .i64 t241,.int .i64 t242,.slice Ao22 t243.length co22],.int .i64 a1] rfl (by (try simp only [List.map_toArray,List.map_cons,List.map_nil]);first|done|rfl|(simp only [List.length_drop,List.length_take];rfl)) ?_;(with_reducible refine (spec_LsClock.calls k t235 t236 t237 _ _ t238 t241 t242 _ _ t243 a1 t246 _ ?side1 ?side2 ?side3 ?side4 A9.out).mono ?_);(case side1 => repeat (first|exact (Kd.R_reads' HO240.out).2.2|(with_reducible refine Kd.C_alloc ?_ _)|(with_reducible refine Kd.C_drewN ?_ _)|(with_reducible refine Kd.C_drew ?_)));(case side2 => exact (Kd.R_reads' HO240.out).2.1);(case side3 => repeat (first|exact (Kd.R_reads' HO245.out).2.2|(with_reducible refine Kd.C_alloc ?_ _)|(with_reducible refine Kd.C_drewN ?_ _)|(with_reducible refine Kd.C_drew ?_)));(case side4 => exact (Kd.R_reads' HO245.out).2.1);rintro e w23 ⟨rfl,hb⟩;refine ⟨_,rfl,?_⟩;have n0_:=Aside0.mk (Kd.R_below (by (with_reducible repeat (first|apply Kd.R_alloc|apply Kd.R_drewN|apply Kd.R_drew));exact HO240.out) hb);have n1_:=Aside0.mk (Kd.R_below (by (with_reducible repeat (first|apply Kd.R_alloc|apply Kd.R_drewN|apply Kd.R_drew));exact HO245.out) hb);have n2_:=Aside0.mk (blk_below (g:=gb233) (o:=.cells #[.int .i64 a0_0,.int .i64 a0_1,.int .i64 a0_2,.slice A0_3 l0_3.length c0_3,.int .i64 a0_4,.int .i64 a0_5,.slice A0_6 l0_6.length c0_6] 25 (0,0)) (by (with_reducible repeat (first|refine blk_drewN ?_ _|refine blk_drew ?_|refine blk_alloc ?_ _));exact BK233.out) hb);have n3_:=Aside0.mk (below_step (by repeat (first|(with_reducible first|exact HB.out|apply below_alloc|apply pw_below_drewN|apply below_drew1|refine below_set ?_ GE233.out)|exact HB.out)) hb);clear HO240;clear HO245;clear BK233;clear HB;have HO240:=n0_;have HO245:=n1_;have BK233:=n2_;have HB:=n3_;clear n0_ n1_ n2_ n3_;(try clear hb);(try clear hb2);(try clear hk);(try clear hi);have hcz24_0 : w23.cell? ⟨gb233,0,none⟩ = some (.int .i64 a0_0):=(blk_cell BK233.out 0).trans rfl;have hcz24_1 : w23.cell? ⟨gb233,1,none⟩ = some (.int .i64 a0_1):=(blk_cell BK233.out 1).trans rfl;have hcz24_2 : w23.cell? ⟨gb233,2,none⟩ = some (.int .i64 a0_2):=(blk_cell BK233.out 2).trans rfl;have hcz24_3 : w23.cell? ⟨gb233,3,none⟩ = some (.slice A0_3 l0_3.length c0_3):=(blk_cell BK233.out 3).trans rfl;have hcz24_4 : w23.cell? ⟨gb233,4,none⟩ = some (.int .i64 a0_4):=(blk_cell BK233.out 4).trans rfl;have hcz24_5 : w23.cell? ⟨gb233,5,none⟩ = some (.int .i64 a0_5):=(blk_cell BK233.out 5).trans rfl;have hcz24_6 : w23.cell? ⟨gb233,6,none⟩ = some (.slice A0_6 l0_6.length c0_6):=(blk_cell BK233.out 6).trans rfl;have hfz24_0:=blk_frozen BK233.out 0;have hfz24_1:=blk_frozen BK233.out 1;have hfz24_2:=blk_frozen BK233.out 2;have hfz24_3:=blk_frozen BK233.out 3;have hfz24_4:=blk_frozen BK233.out 4;have hfz24_5:=blk_frozen BK233.out 5;have hfz24_6:=blk_frozen BK233.out 6)|((with_reducible refine gate_callee (f:=16) rfl ?_);refine goesL_ (some 19) rfl rfl Try.func16 (by kernel_rfl) rfl #[.agg #[.int .i64 a0_0,.int .i64 a0_1,.int .i64 a0_2,.slice A0_3 l0_3.length c0_3,.int .i64 a0_4,.int .i64 a0_5,.slice A0_6 l0_6.length c0_6]] rfl (by (try simp only [List.map_toArray,List.map_cons,List.map_nil]);first|done|rfl|(simp only [List.length_drop,List.length_take];rfl)) ?_;(with_reducible refine (laws_toLs.calls k a0_0 a0_1 a0_2 _ _ l0_3 a0_4 a0_5 _ _ l0_6 t247 t248 t249 t250 t253 t254 t255 _ ?side1 ?side2 ?side3 ?side4 A10.out).mono ?_);(case side1 => repeat (first|exact (Kd.C_below HR0_3.out HB.out)|(with_reducible refine Kd.C_alloc ?_ _)|(with_reducible refine Kd.C_drewN ?_ _)|(with_reducible refine Kd.C_drew ?_)));(case side2 => exact HC0_3.out);(case side3 => repeat (first|exact (Kd.C_below HR0_6.out HB.out)|(with_reducible refine Kd.C_alloc ?_ _)|(with_reducible refine Kd.C_drewN ?_ _)|(with_reducible refine Kd.C_drew ?_)));(case side4 => exact HC0_6.out);rintro e w25 ⟨v251,v256,rfl,ho0,ho1,hb⟩;refine ⟨_,rfl,?_⟩;have n0_:=Aside0.mk (Kd.R_lower ho0 (below_size (by repeat (first|(with_reducible first|exact HB.out|apply below_alloc|apply pw_below_drewN|apply below_drew1|refine below_set ?_ GE233.out)|exact HB.out))));have n1_:=Aside0.mk (Kd.R_lower ho1 (below_size (by repeat (first|(with_reducible first|exact HB.out|apply below_alloc|apply pw_below_drewN|apply below_drew1|refine below_set ?_ GE233.out)|exact HB.out))));have n2_:=Aside0.mk (blk_below (g:=gb233) (o:=.cells #[.int .i64 a0_0,.int .i64 a0_1,.int .i64 a0_2,.slice A0_3 l0_3.length c0_3,.int .i64 a0_4,.int .i64 a0_5,.slice A0_6 l0_6.length c0_6] 25 (0,0)) (by (with_reducible repeat (first|refine blk_drewN ?_ _|refine blk_drew ?_|refine blk_alloc ?_ _));exact BK233.out) hb);have n3_:=Aside0.mk (below_step (by repeat (first|(with_reducible first|exact HB.out|apply below_alloc|apply pw_below_drewN|apply below_drew1|refine below_set ?_ GE233.out)|exact HB.out)) hb);clear BK233;clear HB;(try clear HO240);(try clear HO245);have HO252:=n0_;have HO257:=n1_;have BK233:=n2_;have HB:=n3_;clear n0_ n1_ n2_ n3_;(try clear hb);(try clear hb2);(try clear hk);(try clear hi);(try clear ho0);(try clear ho1))|((with_reducible refine gate_dst (N:=7) rfl ?_);refine box_event ?hg (N:=7) ?hd (cs:=#[.int .i64 0,.int .i64 0,.int .i64 0,.slice none 0 0,.int .i64 0,.int .i64 0,.slice none 0 0]) (t:=30) ?hr ?_;(case hd => rfl);(case hg => rfl);(case hr => first|(go_simp;done)|(go_simp;rfl));intro gb258 hg w26 hbox hb;have n0_:=Aside0.mk (Kd.R_below (by (with_reducible repeat (first|apply Kd.R_alloc|apply Kd.R_drewN|apply Kd.R_drew));exact HO252.out) hb);have n1_:=Aside0.mk (Kd.R_below (by (with_reducible repeat (first|apply Kd.R_alloc|apply Kd.R_drewN|apply Kd.R_drew));exact HO257.out) hb);have n2_:=Aside0.mk (blk_below (g:=gb233) (o:=.cells #[.int .i64 a0_0,.int .i64 a0_1,.int .i64 a0_2,.slice A0_3 l0_3.length c0_3,.int .i64 a0_4,.int .i64 a0_5,.slice A0_6 l0_6.length c0_6] 25 (0,0)) (by (with_reducible repeat (first|refine blk_drewN ?_ _|refine blk_drew ?_|refine blk_alloc ?_ _));exact BK233.out) hb);have n3_:=Aside0.mk (below_step (by repeat (first|(with_reducible first|exact HB.out|apply below_alloc|apply pw_below_drewN|apply below_drew1|refine below_set ?_ GE233.out)|exact HB.out)) hb);have n4_:=Aside0.mk (hbox);have n5_:=Aside0.mk ((by rw [hg];exact (below_size (by repeat (first|(with_reducible first|exact HB.out|apply below_alloc|apply pw_below_drewN|apply below_drew1|refine below_set ?_ GE233.out)|exact HB.out))) : w.heap.size ≤ gb258));have n6_:=Aside0.mk ((by rw [hg];exact (below_size (by repeat (first|(with_reducible first|exact HB.out|apply below_alloc|apply pw_below_drewN|apply below_drew1|refine below_set ?_ GE233.out)|exact HB.out))) : w.heap.size ≤ gb258));have n7_:=Aside0.mk ((by rw [hg];exact Nat.ne_of_lt (blk_lt (g:=gb233) (o:=.cells #[.int .i64 a0_0,.int .i64 a0_1,.int .i64 a0_2,.slice A0_3 l0_3.length c0_3,.int .i64 a0_4,.int .i64 a0_5,.slice A0_6 l0_6.length c0_6] 25 (0,0)) (by (with_reducible repeat (first|refine blk_drewN ?_ _|refine blk_drew ?_|refine blk_alloc ?_ _));exact BK233.out)) : gb233 ≠ gb258));have n8_:=Aside0.mk ((by rw [hg];exact Nat.ne_of_gt (blk_lt (g:=gb233) (o:=.cells #[.int .i64 a0_0,.int .i64 a0_1,.int .i64 a0_2,.slice A0_3 l0_3.length c0_3,.int .i64 a0_4,.int .i64 a0_5,.slice A0_6 l0_6.length c0_6] 25 (0,0)) (by (with_reducible repeat (first|refine blk_drewN ?_ _|refine blk_drew ?_|refine blk_alloc ?_ _));exact BK233.out)) : gb258 ≠ gb233));clear HO252;clear HO257;clear BK233;clear HB;have HO252:=n0_;have HO257:=n1_;have BK233:=n2_;have HB:=n3_;have BK258:=n4_;have GW258:=n5_;have GE258:=n6_;have NB233_258:=n7_;have NB258_233:=n8_;clear n0_ n1_ n2_ n3_ n4_ n5_ n6_ n7_ n8_;clear hb hbox hg;have hnb27:=NB258_233.out;have hnc27:=NB233_258.out;have hcz28_0 : w26.cell? ⟨gb258,0,none⟩ = some (.int .i64 0):=(blk_cell BK258.out 0).trans rfl;have hcz28_1 : w26.cell? ⟨gb258,1,none⟩ = some (.int .i64 0):=(blk_cell BK258.out 1).trans rfl;have hcz28_2 : w26.cell? ⟨gb258,2,none⟩ = some (.int .i64 0):=(blk_cell BK258.out 2).trans rfl;have hcz28_3 : w26.cell? ⟨gb258,3,none⟩ = some (.slice none 0 0):=(blk_cell BK258.out 3).trans rfl;have hcz28_4 : w26.cell? ⟨gb258,4,none⟩ = some (.int .i64 0):=(blk_cell BK258.out 4).trans rfl;have hcz28_5 : w26.cell? ⟨gb258,5,none⟩ = some (.int .i64 0):=(blk_cell BK258.out 5).trans rfl;have hcz28_6 : w26.cell? ⟨gb258,6,none⟩ = some (.slice none 0 0):=(blk_cell BK258.out 6).trans rfl;have hfz28_0:=blk_frozen BK258.out 0;have hfz28_1:=blk_frozen BK258.out 1;have hfz28_2:=blk_frozen BK258.out 2;have hfz28_3:=blk_frozen BK258.out 3;have hfz28_4:=blk_frozen BK258.out 4;have hfz28_5:=blk_frozen BK258.out 5;have hfz28_6:=blk_frozen BK258.out 6;obtain ⟨Ao29,co29,eo29⟩:=Kd.R_slice HO252.out;subst eo29;obtain ⟨Ao30,co30,eo30⟩:=Kd.R_slice HO257.out;subst eo30)|((with_reducible refine gate_callee (f:=20) rfl ?_);refine goesL_ (some 22) rfl rfl Try.func20 (by kernel_rfl) rfl #[.agg #[.int .i64 t247,.int .i64 t248,.int .i64 t249,.slice Ao29 t250.length co29,.int .i64 t253,.int .i64 t254,.slice Ao30 t255.length co30],.int .i64 a1] rfl (by (try simp only [List.map_toArray,List.map_cons,List.map_nil]);first|done|rfl|(simp only [List.length_drop,List.length_take];rfl)) ?_;(with_reducible refine (impl_LsClock.calls k t247 t248 t249 _ _ t250 t253 t254 _ _ t255 a1 t259 _ ?side1 ?side2 ?side3 ?side4 A11.out).mono ?_);(case side1 => refine (Kd.R_reads' (e:=3) (base:=w.heap.size) (ok:=fun k_ => True) (n:=t250.length) (c:=co29) ?_).2.2;exact (by (with_reducible repeat (first|apply Kd.R_alloc|apply Kd.R_drewN|apply Kd.R_drew));exact (Kd.R_mono (Kd.R_far (p:=⟨gb258,6,none⟩) (Kd.R_far (p:=⟨gb258,5,none⟩) (Kd.R_far (p:=⟨gb258,4,none⟩) (Kd.R_far (p:=⟨gb258,3,none⟩) (Kd.R_far (p:=⟨gb258,2,none⟩) (Kd.R_far (p:=⟨gb258,1,none⟩) (Kd.R_far (p:=⟨gb258,0,none⟩) (Kd.R_types HO252.out BK258.out (by decide)) (fun _ hk => hk.2) (.int .i64 t247)) (fun _ hk => hk.2) (.int .i64 t248)) (fun _ hk => hk.2) (.int .i64 t249)) (fun _ hk => hk.2) (.slice Ao29 t250.length co29)) (fun _ hk => hk.2) (.int .i64 t253)) (fun _ hk => hk.2) (.int .i64 t254)) (fun _ hk => hk.2) (.slice Ao30 t255.length co30)) (fun _ h_ => h_.1))));(case side2 => exact (Kd.R_reads' HO252.out).2.1);(case side3 => refine (Kd.R_reads' (e:=50) (base:=w.heap.size) (ok:=fun k_ => True) (n:=t255.length) (c:=co30) ?_).2.2;exact (by (with_reducible repeat (first|apply Kd.R_alloc|apply Kd.R_drewN|apply Kd.R_drew));exact (Kd.R_mono (Kd.R_far (p:=⟨gb258,6,none⟩) (Kd.R_far (p:=⟨gb258,5,none⟩) (Kd.R_far (p:=⟨gb258,4,none⟩) (Kd.R_far (p:=⟨gb258,3,none⟩) (Kd.R_far (p:=⟨gb258,2,none⟩) (Kd.R_far (p:=⟨gb258,1,none⟩) (Kd.R_far (p:=⟨gb258,0,none⟩) (Kd.R_types HO257.out BK258.out (by decide)) (fun _ hk => hk.2) (.int .i64 t247)) (fun _ hk => hk.2) (.int .i64 t248)) (fun _ hk => hk.2) (.int .i64 t249)) (fun _ hk => hk.2) (.slice Ao29 t250.length co29)) (fun _ hk => hk.2) (.int .i64 t253)) (fun _ hk => hk.2) (.int .i64 t254)) (fun _ hk => hk.2) (.slice Ao30 t255.length co30)) (fun _ h_ => h_.1))));(case side4 => exact (Kd.R_reads' HO257.out).2.1);rintro e w31 ⟨rfl,hb⟩;refine ⟨_,rfl,?_⟩;have n0_:=Aside0.mk (Kd.R_below (by (with_reducible repeat (first|apply Kd.R_alloc|apply Kd.R_drewN|apply Kd.R_drew));exact (Kd.R_mono (Kd.R_far (p:=⟨gb258,6,none⟩) (Kd.R_far (p:=⟨gb258,5,none⟩) (Kd.R_far (p:=⟨gb258,4,none⟩) (Kd.R_far (p:=⟨gb258,3,none⟩) (Kd.R_far (p:=⟨gb258,2,none⟩) (Kd.R_far (p:=⟨gb258,1,none⟩) (Kd.R_far (p:=⟨gb258,0,none⟩) (Kd.R_types HO252.out BK258.out (by decide)) (fun _ hk => hk.2) (.int .i64 t247)) (fun _ hk => hk.2) (.int .i64 t248)) (fun _ hk => hk.2) (.int .i64 t249)) (fun _ hk => hk.2) (.slice Ao29 t250.length co29)) (fun _ hk => hk.2) (.int .i64 t253)) (fun _ hk => hk.2) (.int .i64 t254)) (fun _ hk => hk.2) (.slice Ao30 t255.length co30)) (fun _ h_ => h_.1))) hb);have n1_:=Aside0.mk (Kd.R_below (by (with_reducible repeat (first|apply Kd.R_alloc|apply Kd.R_drewN|apply Kd.R_drew));exact (Kd.R_mono (Kd.R_far (p:=⟨gb258,6,none⟩) (Kd.R_far (p:=⟨gb258,5,none⟩) (Kd.R_far (p:=⟨gb258,4,none⟩) (Kd.R_far (p:=⟨gb258,3,none⟩) (Kd.R_far (p:=⟨gb258,2,none⟩) (Kd.R_far (p:=⟨gb258,1,none⟩) (Kd.R_far (p:=⟨gb258,0,none⟩) (Kd.R_types HO257.out BK258.out (by decide)) (fun _ hk => hk.2) (.int .i64 t247)) (fun _ hk => hk.2) (.int .i64 t248)) (fun _ hk => hk.2) (.int .i64 t249)) (fun _ hk => hk.2) (.slice Ao29 t250.length co29)) (fun _ hk => hk.2) (.int .i64 t253)) (fun _ hk => hk.2) (.int .i64 t254)) (fun _ hk => hk.2) (.slice Ao30 t255.length co30)) (fun _ h_ => h_.1))) hb);have n2_:=Aside0.mk (blk_below (g:=gb233) (o:=.cells #[.int .i64 a0_0,.int .i64 a0_1,.int .i64 a0_2,.slice A0_3 l0_3.length c0_3,.int .i64 a0_4,.int .i64 a0_5,.slice A0_6 l0_6.length c0_6] 25 (0,0)) (by (with_reducible repeat (first|refine blk_drewN ?_ _|refine blk_drew ?_|refine blk_alloc ?_ _));refine blk_far ?_ NB233_258.out _;(with_reducible repeat (first|refine blk_drewN ?_ _|refine blk_drew ?_|refine blk_alloc ?_ _));refine blk_far ?_ NB233_258.out _;(with_reducible repeat (first|refine blk_drewN ?_ _|refine blk_drew ?_|refine blk_alloc ?_ _));refine blk_far ?_ NB233_258.out _;(with_reducible repeat (first|refine blk_drewN ?_ _|refine blk_drew ?_|refine blk_alloc ?_ _));refine blk_far ?_ NB233_258.out _;(with_reducible repeat (first|refine blk_drewN ?_ _|refine blk_drew ?_|refine blk_alloc ?_ _));refine blk_far ?_ NB233_258.out _;(with_reducible repeat (first|refine blk_drewN ?_ _|refine blk_drew ?_|refine blk_alloc ?_ _));refine blk_far ?_ NB233_258.out _;(with_reducible repeat (first|refine blk_drewN ?_ _|refine blk_drew ?_|refine blk_alloc ?_ _));refine blk_far ?_ NB233_258.out _;(with_reducible repeat (first|refine blk_drewN ?_ _|refine blk_drew ?_|refine blk_alloc ?_ _));exact BK233.out) hb);have n3_:=Aside0.mk (blk_below (g:=gb258) (o:=.cells #[.int .i64 t247,.int .i64 t248,.int .i64 t249,.slice Ao29 t250.length co29,.int .i64 t253,.int .i64 t254,.slice Ao30 t255.length co30] 30 (0,0)) (by (with_reducible repeat (first|refine blk_drewN ?_ _|refine blk_drew ?_|refine blk_alloc ?_ _));refine blk_put (cs:=#[.int .i64 t247,.int .i64 t248,.int .i64 t249,.slice Ao29 t250.length co29,.int .i64 t253,.int .i64 t254,.slice none 0 0]) ?_ 6 _ rfl;(with_reducible repeat (first|refine blk_drewN ?_ _|refine blk_drew ?_|refine blk_alloc ?_ _));refine blk_put (cs:=#[.int .i64 t247,.int .i64 t248,.int .i64 t249,.slice Ao29 t250.length co29,.int .i64 t253,.int .i64 0,.slice none 0 0]) ?_ 5 _ rfl;(with_reducible repeat (first|refine blk_drewN ?_ _|refine blk_drew ?_|refine blk_alloc ?_ _));refine blk_put (cs:=#[.int .i64 t247,.int .i64 t248,.int .i64 t249,.slice Ao29 t250.length co29,.int .i64 0,.int .i64 0,.slice none 0 0]) ?_ 4 _ rfl;(with_reducible repeat (first|refine blk_drewN ?_ _|refine blk_drew ?_|refine blk_alloc ?_ _));refine blk_put (cs:=#[.int .i64 t247,.int .i64 t248,.int .i64 t249,.slice none 0 0,.int .i64 0,.int .i64 0,.slice none 0 0]) ?_ 3 _ rfl;(with_reducible repeat (first|refine blk_drewN ?_ _|refine blk_drew ?_|refine blk_alloc ?_ _));refine blk_put (cs:=#[.int .i64 t247,.int .i64 t248,.int .i64 0,.slice none 0 0,.int .i64 0,.int .i64 0,.slice none 0 0]) ?_ 2 _ rfl;(with_reducible repeat (first|refine blk_drewN ?_ _|refine blk_drew ?_|refine blk_alloc ?_ _));refine blk_put (cs:=#[.int .i64 t247,.int .i64 0,.int .i64 0,.slice none 0 0,.int .i64 0,.int .i64 0,.slice none 0 0]) ?_ 1 _ rfl;(with_reducible repeat (first|refine blk_drewN ?_ _|refine blk_drew ?_|refine blk_alloc ?_ _));refine blk_put (cs:=#[.int .i64 0,.int .i64 0,.int .i64 0,.slice none 0 0,.int .i64 0,.int .i64 0,.slice none 0 0]) ?_ 0 _ rfl;(with_reducible repeat (first|refine blk_drewN ?_ _|refine blk_drew ?_|refine blk_alloc ?_ _));exact BK258.out) hb);have n4_:=Aside0.mk (below_step (by repeat (first|(with_reducible first|exact HB.out|apply below_alloc|apply pw_below_drewN|apply below_drew1|refine below_set ?_ GE233.out|refine below_set ?_ GE258.out)|exact HB.out)) hb);clear HO252;clear HO257;clear BK233;clear BK258;clear HB;have HO252:=n0_;have HO257:=n1_;have BK233:=n2_;have BK258:=n3_;have HB:=n4_;clear n0_ n1_ n2_ n3_ n4_;(try clear hb);(try clear hb2);(try clear hk);(try clear hi)))
    have n0_:=Aside0.mk (Kd.R_drew HO252.out)
    have n1_:=Aside0.mk (Kd.R_drew HO257.out)
    have n2_:=Aside0.mk (blk_drew BK233.out)
    have n3_:=Aside0.mk (blk_drew BK258.out)
    have n4_:=Aside0.mk (below_drew1 HB.out)
    clear HO252
    clear HO257
    clear BK233
    clear BK258
    clear HB
    have HO252:=n0_
    have HO257:=n1_
    have BK233:=n2_
    have BK258:=n3_
    have HB:=n4_
    clear n0_ n1_ n2_ n3_ n4_
    refine start_ (n:=5) (S:=fun w' => w'.cell? ⟨gb258,0,none⟩ = some (.int .i64 t247) ∧ w'.cell? ⟨gb258,1,none⟩ = some (.int .i64 t248) ∧ w'.cell? ⟨gb258,2,none⟩ = some (.int .i64 t249) ∧ w'.cell? ⟨gb258,3,none⟩ = some (.slice Ao29 t250.length co29) ∧ w'.cell? ⟨gb258,4,none⟩ = some (.int .i64 t253) ∧ w'.cell? ⟨gb258,5,none⟩ = some (.int .i64 t254) ∧ w'.cell? ⟨gb258,6,none⟩ = some (.slice Ao30 t255.length co30) ∧ w'.cell? ⟨gb233,0,none⟩ = some (.int .i64 a0_0) ∧ w'.cell? ⟨gb233,1,none⟩ = some (.int .i64 a0_1) ∧ w'.cell? ⟨gb233,2,none⟩ = some (.int .i64 a0_2) ∧ w'.cell? ⟨gb233,3,none⟩ = some (.slice A0_3 l0_3.length c0_3) ∧ w'.cell? ⟨gb233,4,none⟩ = some (.int .i64 a0_4) ∧ w'.cell? ⟨gb233,5,none⟩ = some (.int .i64 a0_5) ∧ w'.cell? ⟨gb233,6,none⟩ = some (.slice A0_6 l0_6.length c0_6)) (ds:=[]) #[F,F,F,F,F] (by kernel_rfl) rfl rfl ⟨(blk_cell BK258.out 0).trans rfl,(blk_cell BK258.out 1).trans rfl,(blk_cell BK258.out 2).trans rfl,(blk_cell BK258.out 3).trans rfl,(blk_cell BK258.out 4).trans rfl,(blk_cell BK258.out 5).trans rfl,(blk_cell BK258.out 6).trans rfl,(blk_cell BK233.out 0).trans rfl,(blk_cell BK233.out 1).trans rfl,(blk_cell BK233.out 2).trans rfl,(blk_cell BK233.out 3).trans rfl,(blk_cell BK233.out 4).trans rfl,(blk_cell BK233.out 5).trans rfl,(blk_cell BK233.out 6).trans rfl⟩ (fun hHeld => ?_)
    generalize w31.drew = w32 at HO252 HO257 BK233 BK258 HB hHeld ⊢
    refine take_ (i:=0) (N:=some 26) (v:=?_) (a':=?_) #[T,F,F,F,F] rfl rfl (by kernel_rfl) (fun _ _ _ h => h) (Or.inl ⟨by rfl,?_⟩) hHeld ?_ ?_
    rotate_left
    ·
     rintro w' ⟨s0,s1,s2,s3,s4,s5,s6,s7,s8,s9,s10,s11,s12,s13⟩
     go_simp
     with_reducible rfl
    rotate_left
    ·
     simp only [Act.put,List.setIfInBounds_toArray,List.set_cons_zero,List.set_cons_succ,i64_w,i32_w]
     rfl
    refine take_ (i:=1) (N:=some 27) (v:=?_) (a':=?_) #[T,T,F,F,F] rfl rfl (by kernel_rfl) (fun _ _ _ h => h) (Or.inl ⟨by rfl,?_⟩) hHeld ?_ ?_
    rotate_left
    ·
     rintro w' ⟨s0,s1,s2,s3,s4,s5,s6,s7,s8,s9,s10,s11,s12,s13⟩
     go_simp
     with_reducible rfl
    rotate_left
    ·
     simp only [Act.put,List.setIfInBounds_toArray,List.set_cons_zero,List.set_cons_succ,i64_w,i32_w]
     rfl
    refine one_ (i:=2) (N:=some 28) #[T,T,T,F,F] rfl rfl (by kernel_rfl) (by decide) (fun K hK => ?_)
    refine goes_ Try.func16 (by kernel_rfl) rfl #[.agg #[.int .i64 a0_0,.int .i64 a0_1,.int .i64 a0_2,.slice A0_3 l0_3.length c0_3,.int .i64 a0_4,.int .i64 a0_5,.slice A0_6 l0_6.length c0_6]] (by rfl) rfl rfl (by (try simp only [List.map_toArray,List.map_cons,List.map_nil]);first|done|rfl|(simp only [List.length_drop,List.length_take];rfl)) ?_
    with_reducible refine (laws_toLs.calls k a0_0 a0_1 a0_2 _ _ l0_3 a0_4 a0_5 _ _ l0_6 t260 t261 t262 t263 t266 t267 t268 _ ?side1 ?side2 ?side3 ?side4 A13.out).mono ?_
    (case side1 => repeat (first|exact (Kd.C_below HR0_3.out HB.out)|(with_reducible refine Kd.C_alloc ?_ _)|(with_reducible refine Kd.C_drewN ?_ _)|(with_reducible refine Kd.C_drew ?_)))
    (case side2 => exact HC0_3.out)
    (case side3 => repeat (first|exact (Kd.C_below HR0_6.out HB.out)|(with_reducible refine Kd.C_alloc ?_ _)|(with_reducible refine Kd.C_drewN ?_ _)|(with_reducible refine Kd.C_drew ?_)))
    (case side4 => exact HC0_6.out)
    rintro e w33 ⟨v264,v269,rfl,ho0,ho1,hb⟩
    refine ⟨_,rfl,?_⟩
    have n0_:=Aside0.mk (Kd.R_elder' (by (with_reducible repeat (first|apply Kd.R_alloc|apply Kd.R_drewN|apply Kd.R_drew));exact HO252.out) (Kd.R_base ho0) hb)
    have n1_:=Aside0.mk (Kd.R_elder' (by (with_reducible repeat (first|apply Kd.R_alloc|apply Kd.R_drewN|apply Kd.R_drew));exact HO257.out) (Kd.R_base ho1) hb)
    have n2_:=Aside0.mk (Kd.R_lower (Kd.R_new' ho0 (Kd.R_lt (by (with_reducible repeat (first|apply Kd.R_alloc|apply Kd.R_drewN|apply Kd.R_drew));exact HO252.out))) (below_size (by repeat (first|(with_reducible first|exact HB.out|apply below_alloc|apply pw_below_drewN|apply below_drew1|refine below_set ?_ GE233.out|refine below_set ?_ GE258.out)|exact HB.out))))
    have n3_:=Aside0.mk (Kd.R_lower (Kd.R_new' ho1 (Kd.R_lt (by (with_reducible repeat (first|apply Kd.R_alloc|apply Kd.R_drewN|apply Kd.R_drew));exact HO257.out))) (below_size (by repeat (first|(with_reducible first|exact HB.out|apply below_alloc|apply pw_below_drewN|apply below_drew1|refine below_set ?_ GE233.out|refine below_set ?_ GE258.out)|exact HB.out))))
    have n4_:=Aside0.mk (blk_below (g:=gb233) (o:=.cells #[.int .i64 a0_0,.int .i64 a0_1,.int .i64 a0_2,.slice A0_3 l0_3.length c0_3,.int .i64 a0_4,.int .i64 a0_5,.slice A0_6 l0_6.length c0_6] 25 (0,0)) (by (with_reducible repeat (first|refine blk_drewN ?_ _|refine blk_drew ?_|refine blk_alloc ?_ _));exact BK233.out) hb)
    have n5_:=Aside0.mk (blk_below (g:=gb258) (o:=.cells #[.int .i64 t247,.int .i64 t248,.int .i64 t249,.slice Ao29 t250.length co29,.int .i64 t253,.int .i64 t254,.slice Ao30 t255.length co30] 30 (0,0)) (by (with_reducible repeat (first|refine blk_drewN ?_ _|refine blk_drew ?_|refine blk_alloc ?_ _));exact BK258.out) hb)
    have n6_:=Aside0.mk (below_step (by repeat (first|(with_reducible first|exact HB.out|apply below_alloc|apply pw_below_drewN|apply below_drew1|refine below_set ?_ GE233.out|refine below_set ?_ GE258.out)|exact HB.out)) hb)
    clear HO252
    clear HO257
    clear BK233
    clear BK258
    clear HB
    have HO252:=n0_
    have HO257:=n1_
    have HO265:=n2_
    have HO270:=n3_
    have BK233:=n4_
    have BK258:=n5_
    have HB:=n6_
    clear n0_ n1_ n2_ n3_ n4_ n5_ n6_
    (try clear hb)
    (try clear hb2)
    (try clear hk)
    (try clear hi)
    (try clear ho0)
    (try clear ho1)
    obtain ⟨Ao34,co34,eo34⟩:=Kd.R_slice HO265.out
    (first|subst eo34|(injection eo34 with f1_ f2_ f3_;have f4_:=f1_.symm;have f5_:=f3_.symm;clear f1_ f2_ f3_;subst f4_;subst f5_))
    obtain ⟨Ao35,co35,eo35⟩:=Kd.R_slice HO270.out
    (first|subst eo35|(injection eo35 with f1_ f2_ f3_;have f4_:=f1_.symm;have f5_:=f3_.symm;clear f1_ f2_ f3_;subst f4_;subst f5_))
    refine hK.out _ _ ⟨(blk_cell BK258.out 0).trans rfl,(blk_cell BK258.out 1).trans rfl,(blk_cell BK258.out 2).trans rfl,(blk_cell BK258.out 3).trans rfl,(blk_cell BK258.out 4).trans rfl,(blk_cell BK258.out 5).trans rfl,(blk_cell BK258.out 6).trans rfl,(blk_cell BK233.out 0).trans rfl,(blk_cell BK233.out 1).trans rfl,(blk_cell BK233.out 2).trans rfl,(blk_cell BK233.out 3).trans rfl,(blk_cell BK233.out 4).trans rfl,(blk_cell BK233.out 5).trans rfl,(blk_cell BK233.out 6).trans rfl⟩ (fun hHeld => ?_)
    clear hK K
    refine norm_ (a':=?_) ?_ ?_
    rotate_left
    ·
     show Act.put _ (some 28) _ = _
     simp only [Act.put,List.setIfInBounds_toArray,List.set_cons_zero,List.set_cons_succ,i64_w,i32_w]
     rfl
    refine one_ (i:=3) (N:=some 29) #[T,T,T,T,F] rfl rfl (by kernel_rfl) (by decide) (fun K hK => ?_)
    refine goes_ Try.func18 (by kernel_rfl) rfl #[.agg #[.int .i64 t247,.int .i64 t248,.int .i64 t249,.slice Ao29 t250.length co29,.int .i64 t253,.int .i64 t254,.slice Ao30 t255.length co30],.agg #[.int .i64 t260,.int .i64 t261,.int .i64 t262,.slice Ao34 t263.length co34,.int .i64 t266,.int .i64 t267,.slice Ao35 t268.length co35]] (by rfl) rfl rfl (by (try simp only [List.map_toArray,List.map_cons,List.map_nil]);first|done|rfl|(simp only [List.length_drop,List.length_take];rfl)) ?_
    with_reducible refine (laws_eqLs.calls k t247 t248 t249 _ _ t250 t253 t254 _ _ t255 t260 t261 t262 _ _ t263 t266 t267 _ _ t268 true _ ?side1 ?side2 ?side3 ?side4 ?side5 ?side6 ?side7 ?side8 A14.out).mono ?_
    (case side1 => repeat (first|exact (Kd.R_reads' HO252.out).2.2|(with_reducible refine Kd.C_alloc ?_ _)|(with_reducible refine Kd.C_drewN ?_ _)|(with_reducible refine Kd.C_drew ?_)))
    (case side2 => exact (Kd.R_reads' HO252.out).2.1)
    (case side3 => repeat (first|exact (Kd.R_reads' HO257.out).2.2|(with_reducible refine Kd.C_alloc ?_ _)|(with_reducible refine Kd.C_drewN ?_ _)|(with_reducible refine Kd.C_drew ?_)))
    (case side4 => exact (Kd.R_reads' HO257.out).2.1)
    (case side5 => repeat (first|exact (Kd.R_reads' HO265.out).2.2|(with_reducible refine Kd.C_alloc ?_ _)|(with_reducible refine Kd.C_drewN ?_ _)|(with_reducible refine Kd.C_drew ?_)))
    (case side6 => exact (Kd.R_reads' HO265.out).2.1)
    (case side7 => repeat (first|exact (Kd.R_reads' HO270.out).2.2|(with_reducible refine Kd.C_alloc ?_ _)|(with_reducible refine Kd.C_drewN ?_ _)|(with_reducible refine Kd.C_drew ?_)))
    (case side8 => exact (Kd.R_reads' HO270.out).2.1)
    rintro e w36 ⟨rfl,hb⟩
    refine ⟨_,rfl,?_⟩
    have n0_:=Aside0.mk (Kd.R_below (by (with_reducible repeat (first|apply Kd.R_alloc|apply Kd.R_drewN|apply Kd.R_drew));exact HO252.out) hb)
    have n1_:=Aside0.mk (Kd.R_below (by (with_reducible repeat (first|apply Kd.R_alloc|apply Kd.R_drewN|apply Kd.R_drew));exact HO257.out) hb)
    have n2_:=Aside0.mk (Kd.R_below (by (with_reducible repeat (first|apply Kd.R_alloc|apply Kd.R_drewN|apply Kd.R_drew));exact HO265.out) hb)
    have n3_:=Aside0.mk (Kd.R_below (by (with_reducible repeat (first|apply Kd.R_alloc|apply Kd.R_drewN|apply Kd.R_drew));exact HO270.out) hb)
    have n4_:=Aside0.mk (blk_below (g:=gb233) (o:=.cells #[.int .i64 a0_0,.int .i64 a0_1,.int .i64 a0_2,.slice A0_3 l0_3.length c0_3,.int .i64 a0_4,.int .i64 a0_5,.slice A0_6 l0_6.length c0_6] 25 (0,0)) (by (with_reducible repeat (first|refine blk_drewN ?_ _|refine blk_drew ?_|refine blk_alloc ?_ _));exact BK233.out) hb)
    have n5_:=Aside0.mk (blk_below (g:=gb258) (o:=.cells #[.int .i64 t247,.int .i64 t248,.int .i64 t249,.slice Ao29 t250.length co29,.int .i64 t253,.int .i64 t254,.slice Ao30 t255.length co30] 30 (0,0)) (by (with_reducible repeat (first|refine blk_drewN ?_ _|refine blk_drew ?_|refine blk_alloc ?_ _));exact BK258.out) hb)
    have n6_:=Aside0.mk (below_step (by repeat (first|(with_reducible first|exact HB.out|apply below_alloc|apply pw_below_drewN|apply below_drew1|refine below_set ?_ GE233.out|refine below_set ?_ GE258.out)|exact HB.out)) hb)
    clear HO252
    clear HO257
    clear HO265
    clear HO270
    clear BK233
    clear BK258
    clear HB
    have HO252:=n0_
    have HO257:=n1_
    have HO265:=n2_
    have HO270:=n3_
    have BK233:=n4_
    have BK258:=n5_
    have HB:=n6_
    clear n0_ n1_ n2_ n3_ n4_ n5_ n6_
    (try clear hb)
    (try clear hb2)
    (try clear hk)
    (try clear hi)
    refine hK.out _ _ ⟨(blk_cell BK258.out 0).trans rfl,(blk_cell BK258.out 1).trans rfl,(blk_cell BK258.out 2).trans rfl,(blk_cell BK258.out 3).trans rfl,(blk_cell BK258.out 4).trans rfl,(blk_cell BK258.out 5).trans rfl,(blk_cell BK258.out 6).trans rfl,(blk_cell BK233.out 0).trans rfl,(blk_cell BK233.out 1).trans rfl,(blk_cell BK233.out 2).trans rfl,(blk_cell BK233.out 3).trans rfl,(blk_cell BK233.out 4).trans rfl,(blk_cell BK233.out 5).trans rfl,(blk_cell BK233.out 6).trans rfl⟩ (fun hHeld => ?_)
    clear hK K
    refine norm_ (a':=?_) ?_ ?_
    rotate_left
    ·
     show Act.put _ (some 29) _ = _
     simp only [Act.put,List.setIfInBounds_toArray,List.set_cons_zero,List.set_cons_succ,i64_w,i32_w]
     rfl
    refine pure_ (i:=4) (N:=some 30) (v:=?_) (a':=?_) #[T,T,T,T,T] rfl rfl (by kernel_rfl) (fun _ _ _ h => h) (Or.inl ⟨by rfl,?_⟩) ?_ ?_
    rotate_left
    ·
     intro w'
     go_simp
     with_reducible rfl
    rotate_left
    ·
     simp only [Act.put,List.setIfInBounds_toArray,List.set_cons_zero,List.set_cons_succ,i64_w,i32_w]
     rfl
    refine done_ (by kernel_rfl) ?_
    try go_wp2
    go_ret
    exact ⟨by first|rfl|(simp [errW_none,errW_some] <;> rfl)|(simp [*,errW_none,errW_some] <;> rfl),by repeat (first|(with_reducible first|exact HB.out|apply below_alloc|apply pw_below_drewN|apply below_drew1|refine below_set ?_ GE233.out|refine below_set ?_ GE258.out)|exact HB.out)⟩
   ·
    replace c15:=Bool.eq_false_iff.mpr c15
    subst c15
    have H1 : (some false) = some r:=by rw [if_neg (show ¬ (false = true) by decide)] at H;exact H
    clear H
    have H:=H1
    clear H1
    exact absurd (hrt_ ▸ H) (by simp)
  ·
   rw [if_neg c12] at H
   have c12b0 : (t259 == t246) = false:=beq_eq_false_iff_ne.mpr c12
   have c12b1 : (t259 != t246) = true:=bne_iff_ne.mpr c12
   exact absurd (hrt_ ▸ H) (by simp)
def laws_FnExactLsClock.Pure : Prop:=∀ (a0_0 : Int) (a0_1 : Int) (a0_2 : Int) (l0_3 : List Int) (a0_4 : Int) (a0_5 : Int) (l0_6 : List (S68)) (a1 : Int),(((Lit.int .i64 a0_0).wf = true) ∧ ((Lit.int .i64 a0_1).wf = true) ∧ ((Lit.int .i64 a0_2).wf = true) ∧ (l0_3.length * 8 ≤ 140737488351232 ∧ l0_3.length ≤ maxLen ∧ ∀ x3 ∈ l0_3,(Lit.int .i64 x3).wf = true) ∧ ((Lit.int .i64 a0_4).wf = true) ∧ ((Lit.int .i64 a0_5).wf = true) ∧ (l0_6.length * 48 ≤ 140737488351232 ∧ l0_6.length ≤ maxLen ∧ ∀ x68 ∈ l0_6,(True) ∧ ((Lit.int .i64 x68.f1).wf = true) ∧ (True) ∧ ((Lit.int .i64 x68.f3).wf = true) ∧ ((Lit.int .i64 x68.f4).wf = true) ∧ ((Lit.int .i64 x68.f5).wf = true))) → ((Lit.int .i64 a1).wf = true) → ∃ k,laws_FnExactLsClock.f k a0_0 a0_1 a0_2 l0_3 a0_4 a0_5 l0_6 a1 = some true
end Go.Proofs.Ytnldanonpdijgaa.P
