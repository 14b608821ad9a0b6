-- Ours: printed or written for this claim; cut to what the theorem needs.
import Derived.Test.YtoohnmeapmccjaaZPx0
import Derived.Test.YtoohnmeapmccjaaZPx1
import Derived.Test.YtoohnmeapmccjaaZPx3
import Derived.Test.YtoohnmeapmccjaaZPx4
import Derived.Test.YtoohnmeapmccjaaZPx6
namespace Go.Proofs.Ytoohnmeapmccjaa.P
open Go.RowKit Go.Proofs.YtoohnmeapmccjaaW.PrintWords Go.Proofs.YtoohnmeapmccjaaW.PrintLast Go.Proofs.YtoohnmeapmccjaaW.PrintMore
attribute [local go_sem] max2_int min2_int max_two min_two max_three min_three max_four min_four
set_option linter.unusedVariables false
set_option linter.unusedSimpArgs false
mutual
def laws_FnWatch.l0 : Nat → List Int → Int → Int → Int → Int → List Int → List Int → Option (Bool)
  | 0,_,_,_,_,_,_,_ => none
  | k + 1,x0,x4,x5,x6,x182000,x182001,x182002 => if x6 < 40 then ((laws_at.f x0 (wrap64 (x6 + 1))).bind fun t187 => (if (Int.tmod t187 3) = 0 then ((impl_Observe.f k x182000 x182001 x182002 1 (wrap64 (x6 + 1))).bind fun bt188 => (laws_FnWatch.j1 k x0 x4 0 x6 bt188.1 bt188.2.1 bt188.2.2)) else ((impl_WatchTick.f k x182000 x182001 x182002).bind fun bt195 => (if bt195.2.2.2 = true then (laws_FnWatch.j1 k x0 x4 (wrap64 (x5 + 1)) x6 bt195.1 bt195.2.1 bt195.2.2.1) else (some false))))) else (if 0 < (x182002.length : Int) then (if (rd x182002 0) = 0 then (if 2 < (x182001.length : Int) then (if (rd x182001 2) = 0 then ((impl_Dead.f k x182000 x182001 x182002 3 0).bind fun t185 => (if t185 = true then (some false) else ((impl_Dead.f k x182000 x182001 x182002 1 (-1)).bind fun t186 => (some (!t186))))) else (some false)) else (none)) else (some false)) else (none))
def laws_FnWatch.j1 : Nat → List Int → Int → Int → Int → Int → List Int → List Int → Option (Bool)
  | 0,_,_,_,_,_,_,_ => none
  | k + 1,x0,x4,x5,x6,x182000,x182001,x182002 => (impl_Dead.f k x182000 x182001 x182002 1 x4).bind fun t204 => (if (t204 != (decide (x5 > x4))) = true then (some false) else ((spec_WatchOk.f k x182000 x182001 x182002).bind fun t205 => (if t205 = true then (laws_FnWatch.l0 k x0 x4 x5 (wrap64 (x6 + 1)) x182000 x182001 x182002) else (some false))))
end
def laws_FnWatch.f (k : Nat) (l0 : List Int) : Option (Bool):=(laws_big.f l0).bind fun t173 => (if t173 = true then (some true) else ((impl_NewWatch.f).bind fun bt174 => ((laws_at.f l0 0).bind fun t182 => (laws_FnWatch.l0 k l0 (Int.tmod t182 6) 0 0 bt174.1 bt174.2.1 bt174.2.2))))
set_option maxHeartbeats 8000000 in
set_option maxRecDepth 100000 in
theorem laws_FnWatch.calls (k : Nat) (A0 : Option Addr) (c0 : Nat) (l0 : List Int) (r : Bool) (w : World) (hr0 : Kd.C (Kd.int .u8) w A0 l0.length l0) (hc0 : l0.length ≤ c0) (h : laws_FnWatch.f k l0 = some r) (hrt_ : r = true) :
  Calls Try.prog 3 #[.slice A0 l0.length c0] w fun e w' => e = .returned (.bool r) ∧ Below w.heap.size w w':=by
 have hu26:=Try.underlying26
 have HR0:=Aside0.mk hr0
 have HC0:=Aside0.mk hc0
 clear hr0 hc0
 have HB:=Aside0.mk (Below.refl w.heap.size w)
 have H : ((laws_big.f l0).bind fun t173 => (if t173 = true then (some true) else ((impl_NewWatch.f).bind fun bt174 => ((laws_at.f l0 0).bind fun t182 => (laws_FnWatch.l0 k l0 (Int.tmod t182 6) 0 0 bt174.1 bt174.2.1 bt174.2.2))))) = some r:=h
 clear h
 replace H:=Option.bind_eq_some_iff.mp H
 obtain ⟨t173,A20,H⟩:=H
 replace H : (if t173 = true then (some true) else ((impl_NewWatch.f).bind fun bt174 => ((laws_at.f l0 0).bind fun t182 => (laws_FnWatch.l0 k l0 (Int.tmod t182 6) 0 0 bt174.1 bt174.2.1 bt174.2.2)))) = some r:=H
 have A2:=Aside0.mk A20
 clear A20
 by_cases c3 : t173 = true
 ·
  subst c3
  have H1 : (some true) = some r:=by rw [if_pos rfl] at H;exact H
  clear H
  have H:=H1
  clear H1
  obtain rfl:=Option.some.inj H
  go_enter Try.func3,Try.ntmps3
  go_wp2_with (first|((with_reducible refine gate_callee (f:=6) rfl ?_);refine goesL_ (some 10) rfl rfl Try.func6 (by kernel_rfl) rfl #[.slice A0 l0.length c0] rfl (by (try simp only [List.map_toArray,List.map_cons,List.map_nil]);first|done|rfl|(simp only [List.length_drop,List.length_take];rfl)) ?_;(with_reducible refine (laws_big.calls _ _ l0 true _ ?side1 ?side2 A2.out).mono ?_);(case side1 => repeat (first|exact HR0.out|(with_reducible refine Kd.C_alloc ?_ _)|(with_reducible refine Kd.C_drewN ?_ _)|(with_reducible refine Kd.C_drew ?_)));(case side2 => exact HC0.out);rintro e w' ⟨rfl,⟨nd,rfl⟩⟩;refine ⟨_,rfl,?_⟩))
  go_ret
  exact ⟨by first|rfl|(simp [errW_none,errW_some] <;> rfl)|(simp [*,errW_none,errW_some] <;> rfl),by repeat (first|(with_reducible first|exact HB.out|apply below_alloc|apply pw_below_drewN|apply below_drew1)|exact HB.out)⟩
 ·
  replace c3:=Bool.eq_false_iff.mpr c3
  subst c3
  have H1 : ((impl_NewWatch.f).bind fun bt174 => ((laws_at.f l0 0).bind fun t182 => (laws_FnWatch.l0 k l0 (Int.tmod t182 6) 0 0 bt174.1 bt174.2.1 bt174.2.2))) = some r:=by rw [if_neg (show ¬ (false = true) by decide)] at H;exact H
  clear H
  have H:=H1
  clear H1
  replace H:=Option.bind_eq_some_iff.mp H
  obtain ⟨⟨t174,t175,t178⟩,A40,H⟩:=H
  replace H : ((laws_at.f l0 0).bind fun t182 => (laws_FnWatch.l0 k l0 (Int.tmod t182 6) 0 0 t174 t175 t178)) = some r:=H
  have A4:=Aside0.mk A40
  clear A40
  replace H:=Option.bind_eq_some_iff.mp H
  obtain ⟨t182,A50,H⟩:=H
  replace H : (laws_FnWatch.l0 k l0 (Int.tmod t182 6) 0 0 t174 t175 t178) = some r:=H
  have A5:=Aside0.mk A50
  clear A50
  have H':=Aside0.mk H
  clear H
  go_enter Try.func3,Try.ntmps3
  go_wp2_with (first|((with_reducible refine gate_callee (f:=6) rfl ?_);refine goesL_ (some 10) rfl rfl Try.func6 (by kernel_rfl) rfl #[.slice A0 l0.length c0] rfl (by (try simp only [List.map_toArray,List.map_cons,List.map_nil]);first|done|rfl|(simp only [List.length_drop,List.length_take];rfl)) ?_;(with_reducible refine (laws_big.calls _ _ l0 false _ ?side1 ?side2 A2.out).mono ?_);(case side1 => repeat (first|exact HR0.out|(with_reducible refine Kd.C_alloc ?_ _)|(with_reducible refine Kd.C_drewN ?_ _)|(with_reducible refine Kd.C_drew ?_)));(case side2 => exact HC0.out);rintro e w' ⟨rfl,⟨nd,rfl⟩⟩;refine ⟨_,rfl,?_⟩)|((with_reducible refine gate_callee (f:=7) rfl ?_);refine goesL_ (some 11) rfl rfl Try.func7 (by kernel_rfl) rfl #[] rfl (by (try simp only [List.map_toArray,List.map_cons,List.map_nil]);first|done|rfl|(simp only [List.length_drop,List.length_take];rfl)) ?_;(with_reducible refine (impl_NewWatch.calls  t174 t175 t178 _ A4.out).mono ?_);rintro e w6 ⟨v176,v179,rfl,ho0,ho1,hb⟩;refine ⟨_,rfl,?_⟩;have n0_:=Aside0.mk (Kd.R_lower ho0 (below_size (by repeat (first|(with_reducible first|exact HB.out|apply below_alloc|apply pw_below_drewN|apply below_drew1)|exact HB.out))));have n1_:=Aside0.mk (Kd.R_lower ho1 (below_size (by repeat (first|(with_reducible first|exact HB.out|apply below_alloc|apply pw_below_drewN|apply below_drew1)|exact HB.out))));have n2_:=Aside0.mk (below_step (by repeat (first|(with_reducible first|exact HB.out|apply below_alloc|apply pw_below_drewN|apply below_drew1)|exact HB.out)) hb);clear HB;have HO177:=n0_;have HO180:=n1_;have HB:=n2_;clear n0_ n1_ n2_;(try clear hb);(try clear hb2);(try clear hk);(try clear hi);(try clear ho0);(try clear ho1))|((with_reducible refine gate_dst (N:=3) rfl ?_);refine box_event ?hg (N:=3) ?hd (cs:=#[.int .i64 0,.slice none 0 0,.slice none 0 0]) (t:=26) ?hr ?_;(case hd => rfl);(case hg => rfl);(case hr => first|(go_simp;done)|(go_simp;rfl));intro gb181 hg w7 hbox hb;have n0_:=Aside0.mk (Kd.R_below (by (with_reducible repeat (first|apply Kd.R_alloc|apply Kd.R_drewN|apply Kd.R_drew));exact HO177.out) hb);have n1_:=Aside0.mk (Kd.R_below (by (with_reducible repeat (first|apply Kd.R_alloc|apply Kd.R_drewN|apply Kd.R_drew));exact HO180.out) hb);have n2_:=Aside0.mk (below_step (by repeat (first|(with_reducible first|exact HB.out|apply below_alloc|apply pw_below_drewN|apply below_drew1)|exact HB.out)) hb);have n3_:=Aside0.mk (hbox);have n4_:=Aside0.mk ((by rw [hg];exact (below_size (by repeat (first|(with_reducible first|exact HB.out|apply below_alloc|apply pw_below_drewN|apply below_drew1)|exact HB.out))) : w.heap.size ≤ gb181));have n5_:=Aside0.mk ((by rw [hg];exact (below_size (by repeat (first|(with_reducible first|exact HB.out|apply below_alloc|apply pw_below_drewN|apply below_drew1)|exact HB.out))) : w.heap.size ≤ gb181));clear HO177;clear HO180;clear HB;have HO177:=n0_;have HO180:=n1_;have HB:=n2_;have BK181:=n3_;have GW181:=n4_;have GE181:=n5_;clear n0_ n1_ n2_ n3_ n4_ n5_;clear hb hbox hg;have hcz8_0 : w7.cell? ⟨gb181,0,none⟩ = some (.int .i64 0):=(blk_cell BK181.out 0).trans rfl;have hcz8_1 : w7.cell? ⟨gb181,1,none⟩ = some (.slice none 0 0):=(blk_cell BK181.out 1).trans rfl;have hcz8_2 : w7.cell? ⟨gb181,2,none⟩ = some (.slice none 0 0):=(blk_cell BK181.out 2).trans rfl;have hfz8_0:=blk_frozen BK181.out 0;have hfz8_1:=blk_frozen BK181.out 1;have hfz8_2:=blk_frozen BK181.out 2;obtain ⟨Ao9,co9,eo9⟩:=Kd.R_slice HO177.out;subst eo9;obtain ⟨Ao10,co10,eo10⟩:=Kd.R_slice HO180.out;subst eo10)|((with_reducible refine gate_callee (f:=8) rfl ?_);refine goesL_ (some 13) rfl rfl Try.func8 (by kernel_rfl) rfl #[.slice A0 l0.length c0,.int .i64 0] rfl (by (try simp only [List.map_toArray,List.map_cons,List.map_nil]);first|done|rfl|(simp only [List.length_drop,List.length_take];rfl)) ?_;(with_reducible refine (laws_at.calls _ _ l0 0 t182 _ ?side1 ?side2 A5.out).mono ?_);(case side1 => exact Kd.C_below HR0.out (by repeat (first|(with_reducible first|exact HB.out|apply below_alloc|apply pw_below_drewN|apply below_drew1|refine below_set ?_ GE181.out)|exact HB.out)));(case side2 => exact HC0.out);rintro e w' ⟨rfl,⟨nd,rfl⟩⟩;refine ⟨_,rfl,?_⟩))
  go_loopg [5,6] k (fun kq v5 v6 w' => ∃ (x5_1 : Int) (x6_1 : Int) (x182000_1 : Int) (x182001_1 : List Int) (x182002_1 : List Int) (u182001 : Value) (u182002 : Value),v5 = .int .i64 x5_1 ∧ v6 = .int .i64 x6_1 ∧ Aside0 (laws_FnWatch.l0 kq l0 (Int.tmod t182 6) x5_1 x6_1 x182000_1 x182001_1 x182002_1 = some r) ∧ Aside0 (kq ≤ k) ∧ Aside0 (Kd.R (Kd.int .i64) 3 w' w.heap.size (fun k_ => some k_ ≠ (u182002 : Value).ownBlock) u182001 x182001_1) ∧ Aside0 (Kd.R (Kd.int .i64) 3 w' w.heap.size (fun k_ => some k_ ≠ (u182001 : Value).ownBlock) u182002 x182002_1) ∧ Aside0 (w'.heap[gb181]? = some (.cells #[.int .i64 x182000_1,u182001,u182002] 26 (0,0))) ∧ Aside0 (Below w.heap.size w w'))
  case atStart => exact ⟨(0),(0),(t174),(t175),(t178),(.slice Ao9 t175.length co9),(.slice Ao10 t178.length co10),(by first|rfl|(simp;done)|(simp [*];done)),(by first|rfl|(simp;done)|(simp [*];done)),H',⟨Nat.le_refl _⟩,⟨by (with_reducible repeat (first|apply Kd.R_alloc|apply Kd.R_drewN|apply Kd.R_drew));exact Kd.R_mono (Kd.R_far (p:=⟨gb181,2,none⟩) (Kd.R_far (p:=⟨gb181,1,none⟩) (Kd.R_far (p:=⟨gb181,0,none⟩) (Kd.R_types HO177.out BK181.out (by decide)) (fun _ hk => hk.2) (.int .i64 t174)) (fun _ hk => hk.2) (.slice Ao9 t175.length co9)) (fun _ hk => hk.2) (.slice Ao10 t178.length co10)) (fun _ hk => hk.1)⟩,⟨by (with_reducible repeat (first|apply Kd.R_alloc|apply Kd.R_drewN|apply Kd.R_drew));exact Kd.R_mono (Kd.R_far (p:=⟨gb181,2,none⟩) (Kd.R_far (p:=⟨gb181,1,none⟩) (Kd.R_far (p:=⟨gb181,0,none⟩) (Kd.R_types HO180.out BK181.out (by decide)) (fun _ hk => hk.2) (.int .i64 t174)) (fun _ hk => hk.2) (.slice Ao9 t175.length co9)) (fun _ hk => hk.2) (.slice Ao10 t178.length co10)) (fun _ hk => hk.1)⟩,⟨by (with_reducible repeat (first|refine blk_drewN ?_ _|refine blk_drew ?_|refine blk_alloc ?_ _));refine blk_put (cs:=#[.int .i64 t174,.slice Ao9 t175.length co9,.slice none 0 0]) ?_ 2 _ rfl;(with_reducible repeat (first|refine blk_drewN ?_ _|refine blk_drew ?_|refine blk_alloc ?_ _));refine blk_put (cs:=#[.int .i64 t174,.slice none 0 0,.slice none 0 0]) ?_ 1 _ rfl;(with_reducible repeat (first|refine blk_drewN ?_ _|refine blk_drew ?_|refine blk_alloc ?_ _));refine blk_put (cs:=#[.int .i64 0,.slice none 0 0,.slice none 0 0]) ?_ 0 _ rfl;(with_reducible repeat (first|refine blk_drewN ?_ _|refine blk_drew ?_|refine blk_alloc ?_ _));exact BK181.out⟩,⟨by repeat (first|(with_reducible first|exact HB.out|apply below_alloc|apply pw_below_drewN|apply below_drew1|refine below_set ?_ GE181.out)|exact HB.out)⟩⟩
  case round =>
   clear H'
   try clear p2
   try clear c3
   try clear c6
   try clear c7
   try clear c8
   try clear hcz8_0
   try clear hcz8_1
   try clear hcz8_2
   try clear hfz8_0
   try clear hfz8_1
   try clear hfz8_2
   obtain ⟨x5_1,x6_1,x182000_1,x182001_1,x182002_1,u182001,u182002,rfl,rfl,HA,HK1,HO_182001,HO_182002,BK181,HB⟩:=hrel
   cases gk with
   | zero => exact absurd HA.out (by simp [laws_FnWatch.l0])
   | succ k1 =>
    have H:=HA.out
    clear HA
    simp only [laws_FnWatch.l0] at H
    by_cases c11 : x6_1 < 40
    ·
     rw [if_pos c11] at H
     have c11b0 : decide (x6_1 < 40) = true:=decide_eq_true c11
     clear c11
     replace H:=Option.bind_eq_some_iff.mp H
     obtain ⟨t187,A120,H⟩:=H
     replace H : (if (Int.tmod t187 3) = 0 then ((impl_Observe.f k1 x182000_1 x182001_1 x182002_1 1 (wrap64 (x6_1 + 1))).bind fun bt188 => (laws_FnWatch.j1 k1 l0 (Int.tmod t182 6) 0 x6_1 bt188.1 bt188.2.1 bt188.2.2)) else ((impl_WatchTick.f k1 x182000_1 x182001_1 x182002_1).bind fun bt195 => (if bt195.2.2.2 = true then (laws_FnWatch.j1 k1 l0 (Int.tmod t182 6) (wrap64 (x5_1 + 1)) x6_1 bt195.1 bt195.2.1 bt195.2.2.1) else (some false)))) = some r:=H
     have A12:=Aside0.mk A120
     clear A120
     have HC13:=Aside0.mk H
     clear H
     go_upto_if 24 with (first|((with_reducible refine gate_callee (f:=8) rfl ?_);refine goesL_ (some 22) rfl rfl Try.func8 (by kernel_rfl) rfl #[.slice A0 l0.length c0,.int .i64 (wrap64 (x6_1 + 1))] rfl (by (try simp only [List.map_toArray,List.map_cons,List.map_nil]);first|done|rfl|(simp only [List.length_drop,List.length_take];rfl)) ?_;(with_reducible refine (laws_at.calls _ _ l0 (wrap64 (x6_1 + 1)) t187 _ ?side1 ?side2 A12.out).mono ?_);(case side1 => repeat (first|exact (Kd.C_below HR0.out HB.out)|(with_reducible refine Kd.C_alloc ?_ _)|(with_reducible refine Kd.C_drewN ?_ _)|(with_reducible refine Kd.C_drew ?_)));(case side2 => exact HC0.out);rintro e w' ⟨rfl,⟨nd,rfl⟩⟩;refine ⟨_,rfl,?_⟩))
     (try simp only [Act.put,List.setIfInBounds_toArray,List.set_cons_zero,List.set_cons_succ])
     go_cut [5] (fun v5 wc => ∃ (kq : Nat) (x5_12 : Int) (x182000_12 : Int) (x182001_12 : List Int) (x182002_12 : List Int) (u182001 : Value) (u182002 : Value),v5 = .int .i64 x5_12 ∧ Aside0 (laws_FnWatch.j1 kq l0 (Int.tmod t182 6) x5_12 x6_1 x182000_12 x182001_12 x182002_12 = some r) ∧ Aside0 (kq ≤ k1) ∧ Aside0 (Kd.R (Kd.int .i64) 3 wc w.heap.size (fun k_ => some k_ ≠ (u182002 : Value).ownBlock) u182001 x182001_12) ∧ Aside0 (Kd.R (Kd.int .i64) 3 wc w.heap.size (fun k_ => some k_ ≠ (u182001 : Value).ownBlock) u182002 x182002_12) ∧ Aside0 (wc.heap[gb181]? = some (.cells #[.int .i64 x182000_12,u182001,u182002] 26 (0,0))) ∧ Aside0 (Below w.heap.size w wc))
     case first =>
      have H:=HC13.out
      clear HC13
      by_cases c14 : (Int.tmod t187 3) = 0
      ·
       rw [if_pos c14] at H
       have c14b0 : ((Int.tmod t187 3) == 0) = true:=beq_iff_eq.mpr c14
       have c14b1 : ((Int.tmod t187 3) != 0) = false:=bne_eq_false_iff_eq.mpr c14
       clear c14
       (first|rw [c14b0]|(simp only [i64_w,i32_w];rw [c14b0])|rw [c14b2]|skip)
       replace H:=Option.bind_eq_some_iff.mp H
       obtain ⟨⟨t188,t189,t192⟩,A150,H⟩:=H
       replace H : (laws_FnWatch.j1 k1 l0 (Int.tmod t182 6) 0 x6_1 t188 t189 t192) = some r:=H
       have A15:=Aside0.mk A150
       clear A150
       have H':=Aside0.mk H
       clear H
       have hcz16_0 : wr.cell? ⟨gb181,0,none⟩ = some (.int .i64 x182000_1):=(blk_cell BK181.out 0).trans rfl
       have hcz16_1 : wr.cell? ⟨gb181,1,none⟩ = some (u182001):=(blk_cell BK181.out 1).trans rfl
       have hcz16_2 : wr.cell? ⟨gb181,2,none⟩ = some (u182002):=(blk_cell BK181.out 2).trans rfl
       have hfz16_0:=blk_frozen BK181.out 0
       have hfz16_1:=blk_frozen BK181.out 1
       have hfz16_2:=blk_frozen BK181.out 2
       obtain ⟨Ao17,co17,eo17⟩:=Kd.R_slice HO_182001.out
       subst eo17
       obtain ⟨Ao18,co18,eo18⟩:=Kd.R_slice HO_182002.out
       subst eo18
       go_wp2_with (first|((with_reducible refine gate_callee (f:=9) rfl ?_);refine goesL_ (some 28) rfl rfl Try.func9 (by kernel_rfl) rfl #[.agg #[.int .i64 x182000_1,.slice Ao17 x182001_1.length co17,.slice Ao18 x182002_1.length co18],.int .i64 1,.int .i64 (wrap64 (x6_1 + 1))] rfl (by (try simp only [List.map_toArray,List.map_cons,List.map_nil]);first|done|rfl|(simp only [List.length_drop,List.length_take];rfl)) ?_;(with_reducible refine (impl_Observe.calls k1 x182000_1 _ _ x182001_1 _ _ x182002_1 1 (wrap64 (x6_1 + 1)) t188 t189 t192 _ ?side1 ?side2 ?side3 ?side4 A15.out).mono ?_);(case side1 => repeat (first|exact (Kd.R_reads' HO_182001.out).2.2|(with_reducible refine Kd.C_alloc ?_ _)|(with_reducible refine Kd.C_drewN ?_ _)|(with_reducible refine Kd.C_drew ?_)));(case side2 => exact (Kd.R_reads' HO_182001.out).2.1);(case side3 => repeat (first|exact (Kd.R_reads' HO_182002.out).2.2|(with_reducible refine Kd.C_alloc ?_ _)|(with_reducible refine Kd.C_drewN ?_ _)|(with_reducible refine Kd.C_drew ?_)));(case side4 => exact (Kd.R_reads' HO_182002.out).2.1);rintro e w19 ⟨v190,v193,rfl,ho0,ho1,hb⟩;refine ⟨_,rfl,?_⟩;have n0_:=Aside0.mk (Kd.R_mono (Kd.R_told (Kd.R_told (Kd.R_old (by (with_reducible repeat (first|apply Kd.R_alloc|apply Kd.R_drewN|apply Kd.R_drew));exact HO_182001.out) hb) (Kd.R_base ho0)) (Kd.R_base ho1)) (fun _ h_ => h_.1));have n1_:=Aside0.mk (Kd.R_mono (Kd.R_told (Kd.R_told (Kd.R_old (by (with_reducible repeat (first|apply Kd.R_alloc|apply Kd.R_drewN|apply Kd.R_drew));exact HO_182002.out) hb) (Kd.R_base ho0)) (Kd.R_base ho1)) (fun _ h_ => h_.1));have n2_:=Aside0.mk (Kd.R_lower (Kd.R_new' (Kd.R_new' ho0 (Kd.R_lt (by (with_reducible repeat (first|apply Kd.R_alloc|apply Kd.R_drewN|apply Kd.R_drew));exact HO_182001.out))) (Kd.R_lt (by (with_reducible repeat (first|apply Kd.R_alloc|apply Kd.R_drewN|apply Kd.R_drew));exact HO_182002.out))) (below_size (by repeat (first|(with_reducible first|exact HB.out|apply below_alloc|apply pw_below_drewN|apply below_drew1|refine below_set ?_ GE181.out)|exact HB.out))));have n3_:=Aside0.mk (Kd.R_lower (Kd.R_new' (Kd.R_new' ho1 (Kd.R_lt (by (with_reducible repeat (first|apply Kd.R_alloc|apply Kd.R_drewN|apply Kd.R_drew));exact HO_182001.out))) (Kd.R_lt (by (with_reducible repeat (first|apply Kd.R_alloc|apply Kd.R_drewN|apply Kd.R_drew));exact HO_182002.out))) (below_size (by repeat (first|(with_reducible first|exact HB.out|apply below_alloc|apply pw_below_drewN|apply below_drew1|refine below_set ?_ GE181.out)|exact HB.out))));have n4_:=Aside0.mk (blk_below (g:=gb181) (o:=.cells #[.int .i64 x182000_1,.slice Ao17 x182001_1.length co17,.slice Ao18 x182002_1.length co18] 26 (0,0)) (by (with_reducible repeat (first|refine blk_drewN ?_ _|refine blk_drew ?_|refine blk_alloc ?_ _));exact BK181.out) hb);have n5_:=Aside0.mk (below_step (by repeat (first|(with_reducible first|exact HB.out|apply below_alloc|apply pw_below_drewN|apply below_drew1|refine below_set ?_ GE181.out)|exact HB.out)) hb);clear HO_182001;clear HO_182002;clear BK181;clear HB;have HO_182001:=n0_;have HO_182002:=n1_;have HO191:=n2_;have HO194:=n3_;have BK181:=n4_;have HB:=n5_;clear n0_ n1_ n2_ n3_ n4_ n5_;(try clear hb);(try clear hb2);(try clear hk);(try clear hi);(try clear ho0);(try clear ho1);have hcz20_0 : w19.cell? ⟨gb181,0,none⟩ = some (.int .i64 x182000_1):=(blk_cell BK181.out 0).trans rfl;have hcz20_1 : w19.cell? ⟨gb181,1,none⟩ = some (.slice Ao17 x182001_1.length co17):=(blk_cell BK181.out 1).trans rfl;have hcz20_2 : w19.cell? ⟨gb181,2,none⟩ = some (.slice Ao18 x182002_1.length co18):=(blk_cell BK181.out 2).trans rfl;have hfz20_0:=blk_frozen BK181.out 0;have hfz20_1:=blk_frozen BK181.out 1;have hfz20_2:=blk_frozen BK181.out 2;obtain ⟨Ao21,co21,eo21⟩:=Kd.R_slice HO191.out;subst eo21;obtain ⟨Ao22,co22,eo22⟩:=Kd.R_slice HO194.out;subst eo22))
       go_meet
       case rel => exact ⟨_,(0),(t188),(t189),(t192),(.slice Ao21 t189.length co21),(.slice Ao22 t192.length co22),(by first|rfl|(simp;done)|(simp [*];done)),H',⟨by have:=HK1.out;first|omega|exact Nat.le_refl _⟩,⟨by (with_reducible repeat (first|apply Kd.R_alloc|apply Kd.R_drewN|apply Kd.R_drew));exact Kd.R_mono (Kd.R_far (p:=⟨gb181,2,none⟩) (Kd.R_far (p:=⟨gb181,1,none⟩) (Kd.R_far (p:=⟨gb181,0,none⟩) (Kd.R_types HO191.out BK181.out (by decide)) (fun _ hk => hk.2) (.int .i64 t188)) (fun _ hk => hk.2) (.slice Ao21 t189.length co21)) (fun _ hk => hk.2) (.slice Ao22 t192.length co22)) (fun _ hk => hk.1.1.1)⟩,⟨by (with_reducible repeat (first|apply Kd.R_alloc|apply Kd.R_drewN|apply Kd.R_drew));exact Kd.R_mono (Kd.R_far (p:=⟨gb181,2,none⟩) (Kd.R_far (p:=⟨gb181,1,none⟩) (Kd.R_far (p:=⟨gb181,0,none⟩) (Kd.R_types HO194.out BK181.out (by decide)) (fun _ hk => hk.2) (.int .i64 t188)) (fun _ hk => hk.2) (.slice Ao21 t189.length co21)) (fun _ hk => hk.2) (.slice Ao22 t192.length co22)) (fun _ hk => hk.1.1.1)⟩,⟨by (with_reducible repeat (first|refine blk_drewN ?_ _|refine blk_drew ?_|refine blk_alloc ?_ _));refine blk_put (cs:=#[.int .i64 t188,.slice Ao21 t189.length co21,.slice Ao18 x182002_1.length co18]) ?_ 2 _ rfl;(with_reducible repeat (first|refine blk_drewN ?_ _|refine blk_drew ?_|refine blk_alloc ?_ _));refine blk_put (cs:=#[.int .i64 t188,.slice Ao17 x182001_1.length co17,.slice Ao18 x182002_1.length co18]) ?_ 1 _ rfl;(with_reducible repeat (first|refine blk_drewN ?_ _|refine blk_drew ?_|refine blk_alloc ?_ _));refine blk_put (cs:=#[.int .i64 x182000_1,.slice Ao17 x182001_1.length co17,.slice Ao18 x182002_1.length co18]) ?_ 0 _ rfl;(with_reducible repeat (first|refine blk_drewN ?_ _|refine blk_drew ?_|refine blk_alloc ?_ _));exact BK181.out⟩,⟨by repeat (first|(with_reducible first|exact HB.out|apply below_alloc|apply pw_below_drewN|apply below_drew1|refine below_set ?_ GE181.out)|exact HB.out)⟩⟩
      ·
       rw [if_neg c14] at H
       have c14b0 : ((Int.tmod t187 3) == 0) = false:=beq_eq_false_iff_ne.mpr c14
       have c14b1 : ((Int.tmod t187 3) != 0) = true:=bne_iff_ne.mpr c14
       (first|rw [c14b0]|(simp only [i64_w,i32_w];rw [c14b0])|rw [c14b2]|skip)
       replace H:=Option.bind_eq_some_iff.mp H
       obtain ⟨⟨t195,t196,t199,t202⟩,A230,H⟩:=H
       replace H : (if t202 = true then (laws_FnWatch.j1 k1 l0 (Int.tmod t182 6) (wrap64 (x5_1 + 1)) x6_1 t195 t196 t199) else (some false)) = some r:=H
       have A23:=Aside0.mk A230
       clear A230
       by_cases c24 : t202 = true
       ·
        subst c24
        have H1 : (laws_FnWatch.j1 k1 l0 (Int.tmod t182 6) (wrap64 (x5_1 + 1)) x6_1 t195 t196 t199) = some r:=by rw [if_pos rfl] at H;exact H
        clear H
        have H:=H1
        clear H1
        have H':=Aside0.mk H
        clear H
        have hcz25_0 : wr.cell? ⟨gb181,0,none⟩ = some (.int .i64 x182000_1):=(blk_cell BK181.out 0).trans rfl
        have hcz25_1 : wr.cell? ⟨gb181,1,none⟩ = some (u182001):=(blk_cell BK181.out 1).trans rfl
        have hcz25_2 : wr.cell? ⟨gb181,2,none⟩ = some (u182002):=(blk_cell BK181.out 2).trans rfl
        have hfz25_0:=blk_frozen BK181.out 0
        have hfz25_1:=blk_frozen BK181.out 1
        have hfz25_2:=blk_frozen BK181.out 2
        obtain ⟨Ao26,co26,eo26⟩:=Kd.R_slice HO_182001.out
        subst eo26
        obtain ⟨Ao27,co27,eo27⟩:=Kd.R_slice HO_182002.out
        subst eo27
        go_wp2_with (first|((with_reducible refine gate_callee (f:=10) rfl ?_);refine goesL_ (some 31) rfl rfl Try.func10 (by kernel_rfl) rfl #[.agg #[.int .i64 x182000_1,.slice Ao26 x182001_1.length co26,.slice Ao27 x182002_1.length co27]] rfl (by (try simp only [List.map_toArray,List.map_cons,List.map_nil]);first|done|rfl|(simp only [List.length_drop,List.length_take];rfl)) ?_;(with_reducible refine (impl_WatchTick.calls k1 x182000_1 _ _ x182001_1 _ _ x182002_1 t195 t196 t199 true _ ?side1 ?side2 ?side3 ?side4 A23.out).mono ?_);(case side1 => repeat (first|exact (Kd.R_reads' HO_182001.out).2.2|(with_reducible refine Kd.C_alloc ?_ _)|(with_reducible refine Kd.C_drewN ?_ _)|(with_reducible refine Kd.C_drew ?_)));(case side2 => exact (Kd.R_reads' HO_182001.out).2.1);(case side3 => repeat (first|exact (Kd.R_reads' HO_182002.out).2.2|(with_reducible refine Kd.C_alloc ?_ _)|(with_reducible refine Kd.C_drewN ?_ _)|(with_reducible refine Kd.C_drew ?_)));(case side4 => exact (Kd.R_reads' HO_182002.out).2.1);rintro e w28 ⟨v197,v200,rfl,ho0,ho1,hb⟩;refine ⟨_,rfl,?_⟩;have n0_:=Aside0.mk (Kd.R_mono (Kd.R_told (Kd.R_told (Kd.R_old (by (with_reducible repeat (first|apply Kd.R_alloc|apply Kd.R_drewN|apply Kd.R_drew));exact HO_182001.out) hb) (Kd.R_base ho0)) (Kd.R_base ho1)) (fun _ h_ => h_.1));have n1_:=Aside0.mk (Kd.R_mono (Kd.R_told (Kd.R_told (Kd.R_old (by (with_reducible repeat (first|apply Kd.R_alloc|apply Kd.R_drewN|apply Kd.R_drew));exact HO_182002.out) hb) (Kd.R_base ho0)) (Kd.R_base ho1)) (fun _ h_ => h_.1));have n2_:=Aside0.mk (Kd.R_lower (Kd.R_new' (Kd.R_new' ho0 (Kd.R_lt (by (with_reducible repeat (first|apply Kd.R_alloc|apply Kd.R_drewN|apply Kd.R_drew));exact HO_182001.out))) (Kd.R_lt (by (with_reducible repeat (first|apply Kd.R_alloc|apply Kd.R_drewN|apply Kd.R_drew));exact HO_182002.out))) (below_size (by repeat (first|(with_reducible first|exact HB.out|apply below_alloc|apply pw_below_drewN|apply below_drew1|refine below_set ?_ GE181.out)|exact HB.out))));have n3_:=Aside0.mk (Kd.R_lower (Kd.R_new' (Kd.R_new' ho1 (Kd.R_lt (by (with_reducible repeat (first|apply Kd.R_alloc|apply Kd.R_drewN|apply Kd.R_drew));exact HO_182001.out))) (Kd.R_lt (by (with_reducible repeat (first|apply Kd.R_alloc|apply Kd.R_drewN|apply Kd.R_drew));exact HO_182002.out))) (below_size (by repeat (first|(with_reducible first|exact HB.out|apply below_alloc|apply pw_below_drewN|apply below_drew1|refine below_set ?_ GE181.out)|exact HB.out))));have n4_:=Aside0.mk (blk_below (g:=gb181) (o:=.cells #[.int .i64 x182000_1,.slice Ao26 x182001_1.length co26,.slice Ao27 x182002_1.length co27] 26 (0,0)) (by (with_reducible repeat (first|refine blk_drewN ?_ _|refine blk_drew ?_|refine blk_alloc ?_ _));exact BK181.out) hb);have n5_:=Aside0.mk (below_step (by repeat (first|(with_reducible first|exact HB.out|apply below_alloc|apply pw_below_drewN|apply below_drew1|refine below_set ?_ GE181.out)|exact HB.out)) hb);clear HO_182001;clear HO_182002;clear BK181;clear HB;have HO_182001:=n0_;have HO_182002:=n1_;have HO198:=n2_;have HO201:=n3_;have BK181:=n4_;have HB:=n5_;clear n0_ n1_ n2_ n3_ n4_ n5_;(try clear hb);(try clear hb2);(try clear hk);(try clear hi);(try clear ho0);(try clear ho1))|((with_reducible refine gate_dst (N:=7) rfl ?_);refine box_event ?hg (N:=7) ?hd (cs:=#[.int .i64 0,.slice none 0 0,.slice none 0 0]) (t:=26) ?hr ?_;(case hd => rfl);(case hg => rfl);(case hr => first|(go_simp;done)|(go_simp;rfl));intro gb203 hg w29 hbox hb;have n0_:=Aside0.mk (Kd.R_below (by (with_reducible repeat (first|apply Kd.R_alloc|apply Kd.R_drewN|apply Kd.R_drew));exact HO_182001.out) hb);have n1_:=Aside0.mk (Kd.R_below (by (with_reducible repeat (first|apply Kd.R_alloc|apply Kd.R_drewN|apply Kd.R_drew));exact HO_182002.out) hb);have n2_:=Aside0.mk (Kd.R_below (by (with_reducible repeat (first|apply Kd.R_alloc|apply Kd.R_drewN|apply Kd.R_drew));exact HO198.out) hb);have n3_:=Aside0.mk (Kd.R_below (by (with_reducible repeat (first|apply Kd.R_alloc|apply Kd.R_drewN|apply Kd.R_drew));exact HO201.out) hb);have n4_:=Aside0.mk (blk_below (g:=gb181) (o:=.cells #[.int .i64 x182000_1,.slice Ao26 x182001_1.length co26,.slice Ao27 x182002_1.length co27] 26 (0,0)) (by (with_reducible repeat (first|refine blk_drewN ?_ _|refine blk_drew ?_|refine blk_alloc ?_ _));exact BK181.out) hb);have n5_:=Aside0.mk (below_step (by repeat (first|(with_reducible first|exact HB.out|apply below_alloc|apply pw_below_drewN|apply below_drew1|refine below_set ?_ GE181.out)|exact HB.out)) hb);have n6_:=Aside0.mk (hbox);have n7_:=Aside0.mk ((by rw [hg];exact (below_size (by repeat (first|(with_reducible first|exact HB.out|apply below_alloc|apply pw_below_drewN|apply below_drew1|refine below_set ?_ GE181.out)|exact HB.out))) : w.heap.size ≤ gb203));have n8_:=Aside0.mk ((by rw [hg];exact (below_size (by repeat (first|(with_reducible first|exact HB.out|apply below_alloc|apply pw_below_drewN|apply below_drew1|refine below_set ?_ GE181.out)|exact HB.out))) : w.heap.size ≤ gb203));have n9_:=Aside0.mk ((by rw [hg];exact Nat.ne_of_lt (blk_lt (g:=gb181) (o:=.cells #[.int .i64 x182000_1,.slice Ao26 x182001_1.length co26,.slice Ao27 x182002_1.length co27] 26 (0,0)) (by (with_reducible repeat (first|refine blk_drewN ?_ _|refine blk_drew ?_|refine blk_alloc ?_ _));exact BK181.out)) : gb181 ≠ gb203));have n10_:=Aside0.mk ((by rw [hg];exact Nat.ne_of_gt (blk_lt (g:=gb181) (o:=.cells #[.int .i64 x182000_1,.slice Ao26 x182001_1.length co26,.slice Ao27 x182002_1.length co27] 26 (0,0)) (by (with_reducible repeat (first|refine blk_drewN ?_ _|refine blk_drew ?_|refine blk_alloc ?_ _));exact BK181.out)) : gb203 ≠ gb181));clear HO_182001;clear HO_182002;clear HO198;clear HO201;clear BK181;clear HB;have HO_182001:=n0_;have HO_182002:=n1_;have HO198:=n2_;have HO201:=n3_;have BK181:=n4_;have HB:=n5_;have BK203:=n6_;have GW203:=n7_;have GE203:=n8_;have NB181_203:=n9_;have NB203_181:=n10_;clear n0_ n1_ n2_ n3_ n4_ n5_ n6_ n7_ n8_ n9_ n10_;clear hb hbox hg;have hnb30:=NB203_181.out;have hnc30:=NB181_203.out;have hcz31_0 : w29.cell? ⟨gb203,0,none⟩ = some (.int .i64 0):=(blk_cell BK203.out 0).trans rfl;have hcz31_1 : w29.cell? ⟨gb203,1,none⟩ = some (.slice none 0 0):=(blk_cell BK203.out 1).trans rfl;have hcz31_2 : w29.cell? ⟨gb203,2,none⟩ = some (.slice none 0 0):=(blk_cell BK203.out 2).trans rfl;have hfz31_0:=blk_frozen BK203.out 0;have hfz31_1:=blk_frozen BK203.out 1;have hfz31_2:=blk_frozen BK203.out 2;obtain ⟨Ao32,co32,eo32⟩:=Kd.R_slice HO198.out;subst eo32;obtain ⟨Ao33,co33,eo33⟩:=Kd.R_slice HO201.out;subst eo33;have hcz34_0 : w29.cell? ⟨gb181,0,none⟩ = some (.int .i64 x182000_1):=(blk_cell BK181.out 0).trans rfl;have hcz34_1 : w29.cell? ⟨gb181,1,none⟩ = some (.slice Ao26 x182001_1.length co26):=(blk_cell BK181.out 1).trans rfl;have hcz34_2 : w29.cell? ⟨gb181,2,none⟩ = some (.slice Ao27 x182002_1.length co27):=(blk_cell BK181.out 2).trans rfl;have hfz34_0:=blk_frozen BK181.out 0;have hfz34_1:=blk_frozen BK181.out 1;have hfz34_2:=blk_frozen BK181.out 2))
        go_meet
        case rel => exact ⟨_,(wrap64 (x5_1 + 1)),(t195),(t196),(t199),(.slice Ao32 t196.length co32),(.slice Ao33 t199.length co33),(by first|rfl|(simp;done)|(simp [*];done)),H',⟨by have:=HK1.out;first|omega|exact Nat.le_refl _⟩,⟨by (with_reducible repeat (first|apply Kd.R_alloc|apply Kd.R_drewN|apply Kd.R_drew));exact Kd.R_mono (Kd.R_far (p:=⟨gb181,2,none⟩) (Kd.R_far (p:=⟨gb181,1,none⟩) (Kd.R_far (p:=⟨gb181,0,none⟩) (Kd.R_far (p:=⟨gb203,2,none⟩) (Kd.R_far (p:=⟨gb203,1,none⟩) (Kd.R_far (p:=⟨gb203,0,none⟩) (Kd.R_types (Kd.R_types HO198.out BK203.out (by decide)) BK181.out (by decide)) (fun _ hk => hk.1.2) (.int .i64 t195)) (fun _ hk => hk.1.2) (.slice Ao32 t196.length co32)) (fun _ hk => hk.1.2) (.slice Ao33 t199.length co33)) (fun _ hk => hk.2) (.int .i64 t195)) (fun _ hk => hk.2) (.slice Ao32 t196.length co32)) (fun _ hk => hk.2) (.slice Ao33 t199.length co33)) (fun _ hk => hk.1.1.1.1)⟩,⟨by (with_reducible repeat (first|apply Kd.R_alloc|apply Kd.R_drewN|apply Kd.R_drew));exact Kd.R_mono (Kd.R_far (p:=⟨gb181,2,none⟩) (Kd.R_far (p:=⟨gb181,1,none⟩) (Kd.R_far (p:=⟨gb181,0,none⟩) (Kd.R_far (p:=⟨gb203,2,none⟩) (Kd.R_far (p:=⟨gb203,1,none⟩) (Kd.R_far (p:=⟨gb203,0,none⟩) (Kd.R_types (Kd.R_types HO201.out BK203.out (by decide)) BK181.out (by decide)) (fun _ hk => hk.1.2) (.int .i64 t195)) (fun _ hk => hk.1.2) (.slice Ao32 t196.length co32)) (fun _ hk => hk.1.2) (.slice Ao33 t199.length co33)) (fun _ hk => hk.2) (.int .i64 t195)) (fun _ hk => hk.2) (.slice Ao32 t196.length co32)) (fun _ hk => hk.2) (.slice Ao33 t199.length co33)) (fun _ hk => hk.1.1.1.1)⟩,⟨by (with_reducible repeat (first|refine blk_drewN ?_ _|refine blk_drew ?_|refine blk_alloc ?_ _));refine blk_put (cs:=#[.int .i64 t195,.slice Ao32 t196.length co32,.slice Ao27 x182002_1.length co27]) ?_ 2 _ rfl;(with_reducible repeat (first|refine blk_drewN ?_ _|refine blk_drew ?_|refine blk_alloc ?_ _));refine blk_put (cs:=#[.int .i64 t195,.slice Ao26 x182001_1.length co26,.slice Ao27 x182002_1.length co27]) ?_ 1 _ rfl;(with_reducible repeat (first|refine blk_drewN ?_ _|refine blk_drew ?_|refine blk_alloc ?_ _));refine blk_put (cs:=#[.int .i64 x182000_1,.slice Ao26 x182001_1.length co26,.slice Ao27 x182002_1.length co27]) ?_ 0 _ rfl;(with_reducible repeat (first|refine blk_drewN ?_ _|refine blk_drew ?_|refine blk_alloc ?_ _));refine blk_far ?_ NB181_203.out _;(with_reducible repeat (first|refine blk_drewN ?_ _|refine blk_drew ?_|refine blk_alloc ?_ _));refine blk_far ?_ NB181_203.out _;(with_reducible repeat (first|refine blk_drewN ?_ _|refine blk_drew ?_|refine blk_alloc ?_ _));refine blk_far ?_ NB181_203.out _;(with_reducible repeat (first|refine blk_drewN ?_ _|refine blk_drew ?_|refine blk_alloc ?_ _));exact BK181.out⟩,⟨by repeat (first|(with_reducible first|exact HB.out|apply below_alloc|apply pw_below_drewN|apply below_drew1|refine below_set ?_ GE181.out|refine below_set ?_ GE203.out)|exact HB.out)⟩⟩
       ·
        replace c24:=Bool.eq_false_iff.mpr c24
        subst c24
        have H1 : (some false) = some r:=by rw [if_neg (show ¬ (false = true) by decide)] at H;exact H
        clear H
        have H:=H1
        clear H1
        exact absurd (hrt_ ▸ H) (by simp)
     case rest =>
      clear HC13
      try clear c1
      try clear c2
      try clear p2
      try clear c3
      try clear c6
      try clear p6
      try clear c7
      try clear c8
      try clear c9
      try clear c10
      try clear c11
      try clear c11b0
      try clear c14
      try clear c14b0
      try clear c14b1
      try clear c14b2
      try clear c24
      try clear c30
      try clear hcz16_0
      try clear hcz16_1
      try clear hcz16_2
      try clear hcz20_0
      try clear hcz20_1
      try clear hcz20_2
      try clear hcz25_0
      try clear hcz25_1
      try clear hcz25_2
      try clear hcz31_0
      try clear hcz31_1
      try clear hcz31_2
      try clear hcz34_0
      try clear hcz34_1
      try clear hcz34_2
      try clear hcz8_0
      try clear hcz8_1
      try clear hcz8_2
      try clear hfz16_0
      try clear hfz16_1
      try clear hfz16_2
      try clear hfz20_0
      try clear hfz20_1
      try clear hfz20_2
      try clear hfz25_0
      try clear hfz25_1
      try clear hfz25_2
      try clear hfz31_0
      try clear hfz31_1
      try clear hfz31_2
      try clear hfz34_0
      try clear hfz34_1
      try clear hfz34_2
      try clear hfz8_0
      try clear hfz8_1
      try clear hfz8_2
      try clear p2
      obtain ⟨kq,x5_12,x182000_12,x182001_12,x182002_12,u182001,u182002,rfl,HA,HJ12,HO_182001,HO_182002,BK181,HB⟩:=hcut
      cases kq with
      | zero => exact absurd HA.out (by simp [laws_FnWatch.j1])
      | succ kj12 =>
       have H:=HA.out
       clear HA
       simp only [laws_FnWatch.j1] at H
       replace H:=Option.bind_eq_some_iff.mp H
       obtain ⟨t204,A350,H⟩:=H
       replace H : (if (t204 != (decide (x5_12 > (Int.tmod t182 6)))) = true then (some false) else ((spec_WatchOk.f kj12 x182000_12 x182001_12 x182002_12).bind fun t205 => (if t205 = true then (laws_FnWatch.l0 kj12 l0 (Int.tmod t182 6) x5_12 (wrap64 (x6_1 + 1)) x182000_12 x182001_12 x182002_12) else (some false)))) = some r:=H
       have A35:=Aside0.mk A350
       clear A350
       by_cases c36 : (t204 != (decide (x5_12 > (Int.tmod t182 6)))) = true
       ·
        rw [if_pos c36] at H
        have c36b0 : (t204 != (decide (x5_12 > (Int.tmod t182 6)))) = true:=c36
        (try (have c36b1 : decide (t204 = (decide (x5_12 > (Int.tmod t182 6)))) = false:=by simpa using c36))
        (try (have c36b2 : (t204 == (decide (x5_12 > (Int.tmod t182 6)))) = false:=by simpa using c36))
        (try (have c36b3 : ¬ (t204 = (decide (x5_12 > (Int.tmod t182 6)))):=by simpa using c36))
        clear c36
        exact absurd (hrt_ ▸ H) (by simp)
       ·
        rw [if_neg c36] at H
        have c36b0 : (t204 != (decide (x5_12 > (Int.tmod t182 6)))) = false:=by simpa using c36
        (try (have c36b1 : decide (t204 = (decide (x5_12 > (Int.tmod t182 6)))) = true:=by simpa using c36))
        (try (have c36b2 : (t204 == (decide (x5_12 > (Int.tmod t182 6)))) = true:=by simpa using c36))
        clear c36
        replace H:=Option.bind_eq_some_iff.mp H
        obtain ⟨t205,A370,H⟩:=H
        replace H : (if t205 = true then (laws_FnWatch.l0 kj12 l0 (Int.tmod t182 6) x5_12 (wrap64 (x6_1 + 1)) x182000_12 x182001_12 x182002_12) else (some false)) = some r:=H
        have A37:=Aside0.mk A370
        clear A370
        by_cases c38 : t205 = true
        ·
         subst c38
         have H1 : (laws_FnWatch.l0 kj12 l0 (Int.tmod t182 6) x5_12 (wrap64 (x6_1 + 1)) x182000_12 x182001_12 x182002_12) = some r:=by rw [if_pos rfl] at H;exact H
         clear H
         have H:=H1
         clear H1
         have H':=Aside0.mk H
         clear H
         have hcz39_0 : wc.cell? ⟨gb181,0,none⟩ = some (.int .i64 x182000_12):=(blk_cell BK181.out 0).trans rfl
         have hcz39_1 : wc.cell? ⟨gb181,1,none⟩ = some (u182001):=(blk_cell BK181.out 1).trans rfl
         have hcz39_2 : wc.cell? ⟨gb181,2,none⟩ = some (u182002):=(blk_cell BK181.out 2).trans rfl
         have hfz39_0:=blk_frozen BK181.out 0
         have hfz39_1:=blk_frozen BK181.out 1
         have hfz39_2:=blk_frozen BK181.out 2
         obtain ⟨Ao40,co40,eo40⟩:=Kd.R_slice HO_182001.out
         subst eo40
         obtain ⟨Ao41,co41,eo41⟩:=Kd.R_slice HO_182002.out
         subst eo41
         go_wp2_with (first|((with_reducible refine gate_callee (f:=11) rfl ?_);refine goesL_ (some 41) rfl rfl Try.func11 (by kernel_rfl) rfl #[.agg #[.int .i64 x182000_12,.slice Ao40 x182001_12.length co40,.slice Ao41 x182002_12.length co41],.int .i64 1,.int .i64 (Int.tmod t182 6)] rfl (by (try simp only [List.map_toArray,List.map_cons,List.map_nil]);first|done|rfl|(simp only [List.length_drop,List.length_take];rfl)) ?_;(with_reducible refine (impl_Dead.calls kj12 x182000_12 _ _ x182001_12 _ _ x182002_12 1 (Int.tmod t182 6) t204 _ ?side1 ?side2 ?side3 ?side4 A35.out).mono ?_);(case side1 => repeat (first|exact (Kd.R_reads' HO_182001.out).2.2|(with_reducible refine Kd.C_alloc ?_ _)|(with_reducible refine Kd.C_drewN ?_ _)|(with_reducible refine Kd.C_drew ?_)));(case side2 => exact (Kd.R_reads' HO_182001.out).2.1);(case side3 => repeat (first|exact (Kd.R_reads' HO_182002.out).2.2|(with_reducible refine Kd.C_alloc ?_ _)|(with_reducible refine Kd.C_drewN ?_ _)|(with_reducible refine Kd.C_drew ?_)));(case side4 => exact (Kd.R_reads' HO_182002.out).2.1);rintro e w42 ⟨rfl,hb⟩;refine ⟨_,rfl,?_⟩;have n0_:=Aside0.mk (Kd.R_below (by (with_reducible repeat (first|apply Kd.R_alloc|apply Kd.R_drewN|apply Kd.R_drew));exact HO_182001.out) hb);have n1_:=Aside0.mk (Kd.R_below (by (with_reducible repeat (first|apply Kd.R_alloc|apply Kd.R_drewN|apply Kd.R_drew));exact HO_182002.out) hb);have n2_:=Aside0.mk (blk_below (g:=gb181) (o:=.cells #[.int .i64 x182000_12,.slice Ao40 x182001_12.length co40,.slice Ao41 x182002_12.length co41] 26 (0,0)) (by (with_reducible repeat (first|refine blk_drewN ?_ _|refine blk_drew ?_|refine blk_alloc ?_ _));exact BK181.out) hb);have n3_:=Aside0.mk (below_step (by repeat (first|(with_reducible first|exact HB.out|apply below_alloc|apply pw_below_drewN|apply below_drew1|refine below_set ?_ GE181.out)|exact HB.out)) hb);clear HO_182001;clear HO_182002;clear BK181;clear HB;have HO_182001:=n0_;have HO_182002:=n1_;have BK181:=n2_;have HB:=n3_;clear n0_ n1_ n2_ n3_;(try clear hb);(try clear hb2);(try clear hk);(try clear hi);have hcz43_0 : w42.cell? ⟨gb181,0,none⟩ = some (.int .i64 x182000_12):=(blk_cell BK181.out 0).trans rfl;have hcz43_1 : w42.cell? ⟨gb181,1,none⟩ = some (.slice Ao40 x182001_12.length co40):=(blk_cell BK181.out 1).trans rfl;have hcz43_2 : w42.cell? ⟨gb181,2,none⟩ = some (.slice Ao41 x182002_12.length co41):=(blk_cell BK181.out 2).trans rfl;have hfz43_0:=blk_frozen BK181.out 0;have hfz43_1:=blk_frozen BK181.out 1;have hfz43_2:=blk_frozen BK181.out 2)|(go_at_call 12;(with_reducible refine (spec_WatchOk.calls kj12 x182000_12 _ _ x182001_12 _ _ x182002_12 true _ ?side1 ?side2 ?side3 ?side4 A37.out).mono ?_);(case side1 => repeat (first|exact (Kd.R_reads' HO_182001.out).2.2|(with_reducible refine Kd.C_alloc ?_ _)|(with_reducible refine Kd.C_drewN ?_ _)|(with_reducible refine Kd.C_drew ?_)));(case side2 => exact (Kd.R_reads' HO_182001.out).2.1);(case side3 => repeat (first|exact (Kd.R_reads' HO_182002.out).2.2|(with_reducible refine Kd.C_alloc ?_ _)|(with_reducible refine Kd.C_drewN ?_ _)|(with_reducible refine Kd.C_drew ?_)));(case side4 => exact (Kd.R_reads' HO_182002.out).2.1);rintro e w44 ⟨rfl,hb⟩;have n0_:=Aside0.mk (Kd.R_below (by (with_reducible repeat (first|apply Kd.R_alloc|apply Kd.R_drewN|apply Kd.R_drew));exact HO_182001.out) hb);have n1_:=Aside0.mk (Kd.R_below (by (with_reducible repeat (first|apply Kd.R_alloc|apply Kd.R_drewN|apply Kd.R_drew));exact HO_182002.out) hb);have n2_:=Aside0.mk (blk_below (g:=gb181) (o:=.cells #[.int .i64 x182000_12,.slice Ao40 x182001_12.length co40,.slice Ao41 x182002_12.length co41] 26 (0,0)) (by (with_reducible repeat (first|refine blk_drewN ?_ _|refine blk_drew ?_|refine blk_alloc ?_ _));exact BK181.out) hb);have n3_:=Aside0.mk (below_step (by repeat (first|(with_reducible first|exact HB.out|apply below_alloc|apply pw_below_drewN|apply below_drew1|refine below_set ?_ GE181.out)|exact HB.out)) hb);clear HO_182001;clear HO_182002;clear BK181;clear HB;have HO_182001:=n0_;have HO_182002:=n1_;have BK181:=n2_;have HB:=n3_;clear n0_ n1_ n2_ n3_;(try clear hb);(try clear hb2);(try clear hk);(try clear hi)))
         go_roundg kj12
         case measure => have:=HK1.out;have:=HJ12.out;omega
         case rel => exact ⟨(x5_12),(wrap64 (x6_1 + 1)),(x182000_12),(x182001_12),(x182002_12),(.slice Ao40 x182001_12.length co40),(.slice Ao41 x182002_12.length co41),(by first|rfl|(simp;done)|(simp [*];done)),(by first|rfl|(simp;done)|(simp [*];done)),H',⟨by have:=HK1.out;have:=HJ12.out;omega⟩,⟨by (with_reducible repeat (first|apply Kd.R_alloc|apply Kd.R_drewN|apply Kd.R_drew));exact HO_182001.out⟩,⟨by (with_reducible repeat (first|apply Kd.R_alloc|apply Kd.R_drewN|apply Kd.R_drew));exact HO_182002.out⟩,⟨by (with_reducible repeat (first|refine blk_drewN ?_ _|refine blk_drew ?_|refine blk_alloc ?_ _));exact BK181.out⟩,⟨by repeat (first|(with_reducible first|exact HB.out|apply below_alloc|apply pw_below_drewN|apply below_drew1|refine below_set ?_ GE181.out)|exact HB.out)⟩⟩
        ·
         replace c38:=Bool.eq_false_iff.mpr c38
         subst c38
         have H1 : (some false) = some r:=by rw [if_neg (show ¬ (false = true) by decide)] at H;exact H
         clear H
         have H:=H1
         clear H1
         exact absurd (hrt_ ▸ H) (by simp)
    ·
     rw [if_neg c11] at H
     have c11b0 : decide (x6_1 < 40) = false:=decide_eq_false c11
     clear c11
     by_cases c45 : 0 < (x182002_1.length : Int)
     ·
      rw [if_pos c45] at H
      have c45b0 : decide (0 < (x182002_1.length : Int)) = true:=decide_eq_true c45
      have c45b1 : decide (0 < x182002_1.length) = true:=decide_eq_true (by omega)
      clear c45
      by_cases c46 : (rd x182002_1 0) = 0
      ·
       rw [if_pos c46] at H
       have c46b0 : ((rd x182002_1 0) == 0) = true:=beq_iff_eq.mpr c46
       have c46b1 : ((rd x182002_1 0) != 0) = false:=bne_eq_false_iff_eq.mpr c46
       clear c46
       by_cases c47 : 2 < (x182001_1.length : Int)
       ·
        rw [if_pos c47] at H
        have c47b0 : decide (2 < (x182001_1.length : Int)) = true:=decide_eq_true c47
        have c47b1 : decide (2 < x182001_1.length) = true:=decide_eq_true (by omega)
        clear c47
        by_cases c48 : (rd x182001_1 2) = 0
        ·
         rw [if_pos c48] at H
         have c48b0 : ((rd x182001_1 2) == 0) = true:=beq_iff_eq.mpr c48
         have c48b1 : ((rd x182001_1 2) != 0) = false:=bne_eq_false_iff_eq.mpr c48
         clear c48
         replace H:=Option.bind_eq_some_iff.mp H
         obtain ⟨t185,A490,H⟩:=H
         replace H : (if t185 = true then (some false) else ((impl_Dead.f k1 x182000_1 x182001_1 x182002_1 1 (-1)).bind fun t186 => (some (!t186)))) = some r:=H
         have A49:=Aside0.mk A490
         clear A490
         by_cases c50 : t185 = true
         ·
          subst c50
          have H1 : (some false) = some r:=by rw [if_pos rfl] at H;exact H
          clear H
          have H:=H1
          clear H1
          exact absurd (hrt_ ▸ H) (by simp)
         ·
          replace c50:=Bool.eq_false_iff.mpr c50
          subst c50
          have H1 : ((impl_Dead.f k1 x182000_1 x182001_1 x182002_1 1 (-1)).bind fun t186 => (some (!t186))) = some r:=by rw [if_neg (show ¬ (false = true) by decide)] at H;exact H
          clear H
          have H:=H1
          clear H1
          replace H:=Option.bind_eq_some_iff.mp H
          obtain ⟨t186,A510,H⟩:=H
          replace H : (some (!t186)) = some r:=H
          have A51:=Aside0.mk A510
          clear A510
          obtain rfl:=Option.some.inj H
          have hcz52_0 : wr.cell? ⟨gb181,0,none⟩ = some (.int .i64 x182000_1):=(blk_cell BK181.out 0).trans rfl
          have hcz52_1 : wr.cell? ⟨gb181,1,none⟩ = some (u182001):=(blk_cell BK181.out 1).trans rfl
          have hcz52_2 : wr.cell? ⟨gb181,2,none⟩ = some (u182002):=(blk_cell BK181.out 2).trans rfl
          have hfz52_0:=blk_frozen BK181.out 0
          have hfz52_1:=blk_frozen BK181.out 1
          have hfz52_2:=blk_frozen BK181.out 2
          obtain ⟨Ao53,co53,eo53⟩:=Kd.R_slice HO_182002.out
          subst eo53
          have p183 : 0 ≤ (0 : Int):=(by omega)
          have q183 : 0 < (x182002_1.length : Int):=of_decide_eq_true (by first|(with_reducible assumption)|assumption)
          obtain ⟨ad183,e183,hx183_0⟩:=Kd.at_int (Kd.R_reads' HO_182002.out).2.2 0 p183 q183
          cases e183
          have qi183 : (0 < x182002_1.length) = True:=eq_true (by omega)
          (try rw [show ((0 : Int)).toNat = 0 from rfl] at hx183_0)
          (try rw [Addr.add_zero'] at hx183_0)
          replace p183:=eq_true p183
          replace q183:=eq_true q183
          obtain ⟨Ao54,co54,eo54⟩:=Kd.R_slice HO_182001.out
          subst eo54
          have p184 : 0 ≤ (2 : Int):=(by omega)
          have q184 : 2 < (x182001_1.length : Int):=of_decide_eq_true (by first|(with_reducible assumption)|assumption)
          obtain ⟨ad184,e184,hx184_0⟩:=Kd.at_int (Kd.R_reads' HO_182001.out).2.2 2 p184 q184
          cases e184
          (try simp only [show (2 : Int).toNat = 2 from rfl,Nat.reduceMul,Nat.reduceEqDiff,Go.Addr.add,↓reduceIte] at hx184_0)
          have qi184 : (2 < x182001_1.length) = True:=eq_true (by omega)
          (try rw [show ((2 : Int)).toNat = 2 from rfl] at hx184_0)
          replace p184:=eq_true p184
          replace q184:=eq_true q184
          go_wp2_with (first|(go_at_call 11;(with_reducible refine (impl_Dead.calls k1 x182000_1 _ _ x182001_1 _ _ x182002_1 3 0 false _ ?side1 ?side2 ?side3 ?side4 A49.out).mono ?_);(case side1 => repeat (first|exact (Kd.R_reads' HO_182001.out).2.2|(with_reducible refine Kd.C_alloc ?_ _)|(with_reducible refine Kd.C_drewN ?_ _)|(with_reducible refine Kd.C_drew ?_)));(case side2 => exact (Kd.R_reads' HO_182001.out).2.1);(case side3 => repeat (first|exact (Kd.R_reads' HO_182002.out).2.2|(with_reducible refine Kd.C_alloc ?_ _)|(with_reducible refine Kd.C_drewN ?_ _)|(with_reducible refine Kd.C_drew ?_)));(case side4 => exact (Kd.R_reads' HO_182002.out).2.1);rintro e w55 ⟨rfl,hb⟩;have n0_:=Aside0.mk (Kd.R_below (by (with_reducible repeat (first|apply Kd.R_alloc|apply Kd.R_drewN|apply Kd.R_drew));exact HO_182001.out) hb);have n1_:=Aside0.mk (Kd.R_below (by (with_reducible repeat (first|apply Kd.R_alloc|apply Kd.R_drewN|apply Kd.R_drew));exact HO_182002.out) hb);have n2_:=Aside0.mk (blk_below (g:=gb181) (o:=.cells #[.int .i64 x182000_1,.slice (some ad184) x182001_1.length co54,.slice (some ad183) x182002_1.length co53] 26 (0,0)) (by (with_reducible repeat (first|refine blk_drewN ?_ _|refine blk_drew ?_|refine blk_alloc ?_ _));exact BK181.out) hb);have n3_:=Aside0.mk (below_step (by repeat (first|(with_reducible first|exact HB.out|apply below_alloc|apply pw_below_drewN|apply below_drew1|refine below_set ?_ GE181.out)|exact HB.out)) hb);clear HO_182001;clear HO_182002;clear BK181;clear HB;have HO_182001:=n0_;have HO_182002:=n1_;have BK181:=n2_;have HB:=n3_;clear n0_ n1_ n2_ n3_;(try clear hb);(try clear hb2);(try clear hk);(try clear hi);have hcz56_0 : w55.cell? ⟨gb181,0,none⟩ = some (.int .i64 x182000_1):=(blk_cell BK181.out 0).trans rfl;have hcz56_1 : w55.cell? ⟨gb181,1,none⟩ = some (.slice (some ad184) x182001_1.length co54):=(blk_cell BK181.out 1).trans rfl;have hcz56_2 : w55.cell? ⟨gb181,2,none⟩ = some (.slice (some ad183) x182002_1.length co53):=(blk_cell BK181.out 2).trans rfl;have hfz56_0:=blk_frozen BK181.out 0;have hfz56_1:=blk_frozen BK181.out 1;have hfz56_2:=blk_frozen BK181.out 2)|(go_at_call 11;(with_reducible refine (impl_Dead.calls k1 x182000_1 _ _ x182001_1 _ _ x182002_1 1 (-1) t186 _ ?side1 ?side2 ?side3 ?side4 A51.out).mono ?_);(case side1 => repeat (first|exact (Kd.R_reads' HO_182001.out).2.2|(with_reducible refine Kd.C_alloc ?_ _)|(with_reducible refine Kd.C_drewN ?_ _)|(with_reducible refine Kd.C_drew ?_)));(case side2 => exact (Kd.R_reads' HO_182001.out).2.1);(case side3 => repeat (first|exact (Kd.R_reads' HO_182002.out).2.2|(with_reducible refine Kd.C_alloc ?_ _)|(with_reducible refine Kd.C_drewN ?_ _)|(with_reducible refine Kd.C_drew ?_)));(case side4 => exact (Kd.R_reads' HO_182002.out).2.1);rintro e w57 ⟨rfl,hb⟩;have n0_:=Aside0.mk (Kd.R_below (by (with_reducible repeat (first|apply Kd.R_alloc|apply Kd.R_drewN|apply Kd.R_drew));exact HO_182001.out) hb);have n1_:=Aside0.mk (Kd.R_below (by (with_reducible repeat (first|apply Kd.R_alloc|apply Kd.R_drewN|apply Kd.R_drew));exact HO_182002.out) hb);have n2_:=Aside0.mk (below_step (by repeat (first|(with_reducible first|exact HB.out|apply below_alloc|apply pw_below_drewN|apply below_drew1)|exact HB.out)) hb);clear HO_182001;clear HO_182002;clear HB;(try clear BK181);(try clear GW181);(try clear GE181);have HO_182001:=n0_;have HO_182002:=n1_;have HB:=n2_;clear n0_ n1_ n2_;(try clear hb);(try clear hb2);(try clear hk);(try clear hi)))
          go_ret
          exact ⟨by first|rfl|(simp [errW_none,errW_some] <;> rfl)|(simp [*,errW_none,errW_some] <;> rfl),by repeat (first|(with_reducible first|exact HB.out|apply below_alloc|apply pw_below_drewN|apply below_drew1)|exact HB.out)⟩
        ·
         rw [if_neg c48] at H
         have c48b0 : ((rd x182001_1 2) == 0) = false:=beq_eq_false_iff_ne.mpr c48
         have c48b1 : ((rd x182001_1 2) != 0) = true:=bne_iff_ne.mpr c48
         exact absurd (hrt_ ▸ H) (by simp)
       ·
        rw [if_neg c47] at H
        exact absurd H (by simp)
      ·
       rw [if_neg c46] at H
       have c46b0 : ((rd x182002_1 0) == 0) = false:=beq_eq_false_iff_ne.mpr c46
       have c46b1 : ((rd x182002_1 0) != 0) = true:=bne_iff_ne.mpr c46
       exact absurd (hrt_ ▸ H) (by simp)
     ·
      rw [if_neg c45] at H
      exact absurd H (by simp)
def laws_FnWatch.Pure : Prop:=∀ (l0 : List Int),(l0.length * 1 ≤ 140737488351232 ∧ l0.length ≤ maxLen ∧ ∀ x5 ∈ l0,(Lit.int .u8 x5).wf = true) → ∃ k,laws_FnWatch.f k l0 = some true
end Go.Proofs.Ytoohnmeapmccjaa.P
