-- Ours: printed or written for this claim; cut to what the theorem needs.
import Derived.Test.YtnldanonpdijgaaZPx0
import Derived.Test.YtnldanonpdijgaaZPx6
namespace Go.Proofs.Ytnldanonpdijgaa.P
open Go.RowKit Go.Proofs.YtnldanonpdijgaaW.PrintWords Go.Proofs.YtnldanonpdijgaaW.PrintLast Go.Proofs.YtnldanonpdijgaaW.PrintMore
attribute [local go_sem] max2_int min2_int max_two min_two max_three min_three max_four min_four
set_option linter.unusedVariables false
set_option linter.unusedSimpArgs false
def laws_eqIntS.l0 : Nat → List Int → List Int → Int → Option (Bool)
  | 0,_,_,_ => none
  | k + 1,x0,x1,x5 => if x5 < (x0.length : Int) then (if 0 ≤ x5 then (if x5 < (x1.length : Int) then (if (rd x0 x5) = (rd x1 x5) then (laws_eqIntS.l0 k x0 x1 (wrap64 (x5 + 1))) else (some false)) else (none)) else (none)) else (some true)
def laws_eqIntS.f (k : Nat) (l0 : List Int) (l1 : List Int) : Option (Bool):=if (l0.length : Int) = (l1.length : Int) then (laws_eqIntS.l0 k l0 l1 0) else (some false)
set_option maxHeartbeats 8000000 in
set_option maxRecDepth 100000 in
theorem laws_eqIntS.calls (k : Nat) (A0 : Option Addr) (c0 : Nat) (l0 : List Int) (A1 : Option Addr) (c1 : Nat) (l1 : List Int) (r : Bool) (w : World) (hr0 : Kd.C (Kd.int .i64) w A0 l0.length l0) (hc0 : l0.length ≤ c0) (hr1 : Kd.C (Kd.int .i64) w A1 l1.length l1) (hc1 : l1.length ≤ c1) (h : laws_eqIntS.f k l0 l1 = some r) :
  Calls Try.prog 25 #[.slice A0 l0.length c0,.slice A1 l1.length c1] w fun e w' => e = .returned (.bool r) ∧ Drawn0 w w':=by
 have HR0:=Aside0.mk hr0
 have HC0:=Aside0.mk hc0
 clear hr0 hc0
 have HR1:=Aside0.mk hr1
 have HC1:=Aside0.mk hc1
 clear hr1 hc1
 have H : (if (l0.length : Int) = (l1.length : Int) then (laws_eqIntS.l0 k l0 l1 0) else (some false)) = some r:=h
 clear h
 by_cases c3 : (l0.length : Int) = (l1.length : Int)
 ·
  rw [if_pos c3] at H
  have c3b0 : ((l0.length : Int) == (l1.length : Int)) = true:=beq_iff_eq.mpr c3
  have c3b1 : ((l0.length : Int) != (l1.length : Int)) = false:=bne_eq_false_iff_eq.mpr c3
  have c3b2 : (l0.length == l1.length) = true:=by first|simpa using c3|(simp at c3 ⊢;omega)
  clear c3
  have H':=Aside0.mk H
  clear H
  go_enter Try.func25,Try.ntmps25
  go_wp2
  repeat (go_quiet (fail);try go_wp2)
  go_loopg [5] k (fun kq v5 w' => ∃ (x5_1 : Int),v5 = .int .i64 x5_1 ∧ Aside0 (laws_eqIntS.l0 kq l0 l1 x5_1 = some r) ∧ Aside0 (kq ≤ k) ∧ Drawn0 w w')
  case atStart => exact ⟨(0),(by first|rfl|(simp;done)|(simp [*];done)),H',⟨Nat.le_refl _⟩,by repeat (first|exact Drawn0.refl _|apply Drawn0.step)⟩
  case round =>
   clear H'
   try clear c1
   try clear c2
   try clear p2
   try clear c3
   try clear c3b0
   try clear c3b1
   try clear c3b2
   obtain ⟨x5_1,rfl,HA,HK1,⟨m1,rfl⟩⟩:=hrel
   cases gk with
   | zero => exact absurd HA.out (by simp [laws_eqIntS.l0])
   | succ k1 =>
    have H:=HA.out
    clear HA
    simp only [laws_eqIntS.l0] at H
    by_cases c4 : x5_1 < (l0.length : Int)
    ·
     rw [if_pos c4] at H
     have c4b0 : decide (x5_1 < (l0.length : Int)) = true:=decide_eq_true c4
     clear c4
     by_cases c5 : 0 ≤ x5_1
     ·
      rw [if_pos c5] at H
      have c5b0 : decide (0 ≤ x5_1) = true:=decide_eq_true c5
      clear c5
      by_cases c6 : x5_1 < (l1.length : Int)
      ·
       rw [if_pos c6] at H
       have c6b0 : decide (x5_1 < (l1.length : Int)) = true:=decide_eq_true c6
       clear c6
       by_cases c7 : (rd l0 x5_1) = (rd l1 x5_1)
       ·
        rw [if_pos c7] at H
        have c7b0 : ((rd l0 x5_1) == (rd l1 x5_1)) = true:=beq_iff_eq.mpr c7
        have c7b1 : ((rd l0 x5_1) != (rd l1 x5_1)) = false:=bne_eq_false_iff_eq.mpr c7
        clear c7
        have H':=Aside0.mk H
        clear H
        have p174 : 0 ≤ (x5_1 : Int):=of_decide_eq_true (by first|(with_reducible assumption)|assumption)
        have q174 : x5_1 < (l0.length : Int):=of_decide_eq_true (by first|(with_reducible assumption)|assumption)
        obtain ⟨ad174,e174,hx174_0⟩:=Kd.at_int HR0.out x5_1 p174 q174
        cases e174
        replace p174:=eq_true p174
        replace q174:=eq_true q174
        have p175 : 0 ≤ (x5_1 : Int):=of_decide_eq_true (by first|(with_reducible assumption)|assumption)
        have q175 : x5_1 < (l1.length : Int):=of_decide_eq_true (by first|(with_reducible assumption)|assumption)
        obtain ⟨ad175,e175,hx175_0⟩:=Kd.at_int HR1.out x5_1 p175 q175
        cases e175
        replace p175:=eq_true p175
        replace q175:=eq_true q175
        go_wp2
        repeat (go_quiet (fail);try go_wp2)
        go_roundg k1
        case measure => have:=HK1.out;omega
        case rel => exact ⟨(wrap64 (x5_1 + 1)),(by first|rfl|(simp;done)|(simp [*];done)),H',⟨by have:=HK1.out;omega⟩,by repeat (first|exact Drawn0.refl _|apply Drawn0.step)⟩
       ·
        rw [if_neg c7] at H
        have c7b0 : ((rd l0 x5_1) == (rd l1 x5_1)) = false:=beq_eq_false_iff_ne.mpr c7
        have c7b1 : ((rd l0 x5_1) != (rd l1 x5_1)) = true:=bne_iff_ne.mpr c7
        obtain rfl:=Option.some.inj H
        have p174 : 0 ≤ (x5_1 : Int):=of_decide_eq_true (by first|(with_reducible assumption)|assumption)
        have q174 : x5_1 < (l0.length : Int):=of_decide_eq_true (by first|(with_reducible assumption)|assumption)
        obtain ⟨ad174,e174,hx174_0⟩:=Kd.at_int HR0.out x5_1 p174 q174
        cases e174
        replace p174:=eq_true p174
        replace q174:=eq_true q174
        have p175 : 0 ≤ (x5_1 : Int):=of_decide_eq_true (by first|(with_reducible assumption)|assumption)
        have q175 : x5_1 < (l1.length : Int):=of_decide_eq_true (by first|(with_reducible assumption)|assumption)
        obtain ⟨ad175,e175,hx175_0⟩:=Kd.at_int HR1.out x5_1 p175 q175
        cases e175
        replace p175:=eq_true p175
        replace q175:=eq_true q175
        go_wp2
        repeat (go_quiet (fail);try go_wp2)
        go_ret
        exact ⟨by first|rfl|(simp;done)|(simp [*];done),by repeat (first|exact Drawn0.refl _|apply Drawn0.step)⟩
      ·
       rw [if_neg c6] at H
       exact absurd H (by simp)
     ·
      rw [if_neg c5] at H
      exact absurd H (by simp)
    ·
     rw [if_neg c4] at H
     have c4b0 : decide (x5_1 < (l0.length : Int)) = false:=decide_eq_false c4
     clear c4
     obtain rfl:=Option.some.inj H
     go_wp2
     repeat (go_quiet (fail);try go_wp2)
     go_ret
     exact ⟨by first|rfl|(simp;done)|(simp [*];done),by repeat (first|exact Drawn0.refl _|apply Drawn0.step)⟩
 ·
  rw [if_neg c3] at H
  have c3b0 : ((l0.length : Int) == (l1.length : Int)) = false:=beq_eq_false_iff_ne.mpr c3
  have c3b1 : ((l0.length : Int) != (l1.length : Int)) = true:=bne_iff_ne.mpr c3
  have c3b2 : (l0.length == l1.length) = false:=by first|simpa using c3|(simp at c3 ⊢;omega)
  obtain rfl:=Option.some.inj H
  go_enter Try.func25,Try.ntmps25
  go_wp2
  repeat (go_quiet (fail);try go_wp2)
  go_ret
  exact ⟨by first|rfl|(simp;done)|(simp [*];done),by repeat (first|exact Drawn0.refl _|apply Drawn0.step)⟩
def laws_eqLsHost.f (a0_0 : Bool) (a0_1 : Int) (a0_2 : Bool) (a0_3 : Int) (a0_4 : Int) (a0_5 : Int) (a1_0 : Bool) (a1_1 : Int) (a1_2 : Bool) (a1_3 : Int) (a1_4 : Int) (a1_5 : Int) : Option (Bool):=if (a0_0 != a1_0) = true then (some false) else (if a0_1 = a1_1 then (if (a0_2 != a1_2) = true then (some false) else (if a0_3 = a1_3 then (if a0_4 = a1_4 then (if a0_5 = a1_5 then (some true) else (some false)) else (some false)) else (some false))) else (some false))
set_option maxHeartbeats 8000000 in
set_option maxRecDepth 100000 in
theorem laws_eqLsHost.calls (a0_0 : Bool) (a0_1 : Int) (a0_2 : Bool) (a0_3 : Int) (a0_4 : Int) (a0_5 : Int) (a1_0 : Bool) (a1_1 : Int) (a1_2 : Bool) (a1_3 : Int) (a1_4 : Int) (a1_5 : Int) (r : Bool) (w : World) (h : laws_eqLsHost.f a0_0 a0_1 a0_2 a0_3 a0_4 a0_5 a1_0 a1_1 a1_2 a1_3 a1_4 a1_5 = some r) :
  Calls Try.prog 78 #[.agg #[.bool a0_0,.int .i64 a0_1,.bool a0_2,.int .i64 a0_3,.int .i64 a0_4,.int .i64 a0_5],.agg #[.bool a1_0,.int .i64 a1_1,.bool a1_2,.int .i64 a1_3,.int .i64 a1_4,.int .i64 a1_5]] w fun e w' => e = .returned (.bool r) ∧ Below w.heap.size w w':=by
 have hu50:=Try.underlying50
 have HB:=Aside0.mk (Below.refl w.heap.size w)
 have H : (if (a0_0 != a1_0) = true then (some false) else (if a0_1 = a1_1 then (if (a0_2 != a1_2) = true then (some false) else (if a0_3 = a1_3 then (if a0_4 = a1_4 then (if a0_5 = a1_5 then (some true) else (some false)) else (some false)) else (some false))) else (some false))) = some r:=h
 clear h
 by_cases c3 : (a0_0 != a1_0) = true
 ·
  rw [if_pos c3] at H
  have c3b0 : (a0_0 != a1_0) = true:=c3
  (try (have c3b1 : decide (a0_0 = a1_0) = false:=by simpa using c3))
  (try (have c3b2 : (a0_0 == a1_0) = false:=by simpa using c3))
  (try (have c3b3 : ¬ (a0_0 = a1_0):=by simpa using c3))
  clear c3
  obtain rfl:=Option.some.inj H
  go_enter Try.func78,Try.ntmps78
  go_wp2_with (first|((with_reducible refine gate_dst (N:=2) rfl ?_);refine box_event ?hg (N:=2) ?hd (cs:=#[.bool a0_0,.int .i64 a0_1,.bool a0_2,.int .i64 a0_3,.int .i64 a0_4,.int .i64 a0_5]) (t:=50) ?hr ?_;(case hd => rfl);(case hg => rfl);(case hr => first|(go_simp;done)|(go_simp;rfl));intro gb176 hg w4 hbox hb;have n0_:=Aside0.mk (below_step (by repeat (first|(with_reducible first|exact HB.out|apply below_alloc|apply pw_below_drewN|apply below_drew1)|exact HB.out)) hb);have n1_:=Aside0.mk (hbox);have n2_:=Aside0.mk ((by rw [hg];exact (below_size (by repeat (first|(with_reducible first|exact HB.out|apply below_alloc|apply pw_below_drewN|apply below_drew1)|exact HB.out))) : w.heap.size ≤ gb176));have n3_:=Aside0.mk ((by rw [hg];exact (below_size (by repeat (first|(with_reducible first|exact HB.out|apply below_alloc|apply pw_below_drewN|apply below_drew1)|exact HB.out))) : w.heap.size ≤ gb176));clear HB;have HB:=n0_;have BK176:=n1_;have GW176:=n2_;have GE176:=n3_;clear n0_ n1_ n2_ n3_;clear hb hbox hg)|((with_reducible refine gate_dst (N:=3) rfl ?_);refine box_event ?hg (N:=3) ?hd (cs:=#[.bool a1_0,.int .i64 a1_1,.bool a1_2,.int .i64 a1_3,.int .i64 a1_4,.int .i64 a1_5]) (t:=50) ?hr ?_;(case hd => rfl);(case hg => rfl);(case hr => first|(go_simp;done)|(go_simp;rfl));intro gb177 hg w5 hbox hb;have n0_:=Aside0.mk (blk_below (g:=gb176) (o:=.cells #[.bool a0_0,.int .i64 a0_1,.bool a0_2,.int .i64 a0_3,.int .i64 a0_4,.int .i64 a0_5] 50 (0,0)) (by (with_reducible repeat (first|refine blk_drewN ?_ _|refine blk_drew ?_|refine blk_alloc ?_ _));exact BK176.out) hb);have n1_:=Aside0.mk (below_step (by repeat (first|(with_reducible first|exact HB.out|apply below_alloc|apply pw_below_drewN|apply below_drew1|refine below_set ?_ GE176.out)|exact HB.out)) hb);have n2_:=Aside0.mk (hbox);have n3_:=Aside0.mk ((by rw [hg];exact (below_size (by repeat (first|(with_reducible first|exact HB.out|apply below_alloc|apply pw_below_drewN|apply below_drew1|refine below_set ?_ GE176.out)|exact HB.out))) : w.heap.size ≤ gb177));have n4_:=Aside0.mk ((by rw [hg];exact (below_size (by repeat (first|(with_reducible first|exact HB.out|apply below_alloc|apply pw_below_drewN|apply below_drew1|refine below_set ?_ GE176.out)|exact HB.out))) : w.heap.size ≤ gb177));have n5_:=Aside0.mk ((by rw [hg];exact Nat.ne_of_lt (blk_lt (g:=gb176) (o:=.cells #[.bool a0_0,.int .i64 a0_1,.bool a0_2,.int .i64 a0_3,.int .i64 a0_4,.int .i64 a0_5] 50 (0,0)) (by (with_reducible repeat (first|refine blk_drewN ?_ _|refine blk_drew ?_|refine blk_alloc ?_ _));exact BK176.out)) : gb176 ≠ gb177));have n6_:=Aside0.mk ((by rw [hg];exact Nat.ne_of_gt (blk_lt (g:=gb176) (o:=.cells #[.bool a0_0,.int .i64 a0_1,.bool a0_2,.int .i64 a0_3,.int .i64 a0_4,.int .i64 a0_5] 50 (0,0)) (by (with_reducible repeat (first|refine blk_drewN ?_ _|refine blk_drew ?_|refine blk_alloc ?_ _));exact BK176.out)) : gb177 ≠ gb176));clear BK176;clear HB;have BK176:=n0_;have HB:=n1_;have BK177:=n2_;have GW177:=n3_;have GE177:=n4_;have NB176_177:=n5_;have NB177_176:=n6_;clear n0_ n1_ n2_ n3_ n4_ n5_ n6_;clear hb hbox hg;have hnb6:=NB176_177.out;have hnc6:=NB177_176.out;have hcz7_0 : w5.cell? ⟨gb176,0,none⟩ = some (.bool a0_0):=(blk_cell BK176.out 0).trans rfl;have hcz7_1 : w5.cell? ⟨gb176,1,none⟩ = some (.int .i64 a0_1):=(blk_cell BK176.out 1).trans rfl;have hcz7_2 : w5.cell? ⟨gb176,2,none⟩ = some (.bool a0_2):=(blk_cell BK176.out 2).trans rfl;have hcz7_3 : w5.cell? ⟨gb176,3,none⟩ = some (.int .i64 a0_3):=(blk_cell BK176.out 3).trans rfl;have hcz7_4 : w5.cell? ⟨gb176,4,none⟩ = some (.int .i64 a0_4):=(blk_cell BK176.out 4).trans rfl;have hcz7_5 : w5.cell? ⟨gb176,5,none⟩ = some (.int .i64 a0_5):=(blk_cell BK176.out 5).trans rfl;have hfz7_0:=blk_frozen BK176.out 0;have hfz7_1:=blk_frozen BK176.out 1;have hfz7_2:=blk_frozen BK176.out 2;have hfz7_3:=blk_frozen BK176.out 3;have hfz7_4:=blk_frozen BK176.out 4;have hfz7_5:=blk_frozen BK176.out 5;have hcz8_0 : w5.cell? ⟨gb177,0,none⟩ = some (.bool a1_0):=(blk_cell BK177.out 0).trans rfl;have hcz8_1 : w5.cell? ⟨gb177,1,none⟩ = some (.int .i64 a1_1):=(blk_cell BK177.out 1).trans rfl;have hcz8_2 : w5.cell? ⟨gb177,2,none⟩ = some (.bool a1_2):=(blk_cell BK177.out 2).trans rfl;have hcz8_3 : w5.cell? ⟨gb177,3,none⟩ = some (.int .i64 a1_3):=(blk_cell BK177.out 3).trans rfl;have hcz8_4 : w5.cell? ⟨gb177,4,none⟩ = some (.int .i64 a1_4):=(blk_cell BK177.out 4).trans rfl;have hcz8_5 : w5.cell? ⟨gb177,5,none⟩ = some (.int .i64 a1_5):=(blk_cell BK177.out 5).trans rfl;have hfz8_0:=blk_frozen BK177.out 0;have hfz8_1:=blk_frozen BK177.out 1;have hfz8_2:=blk_frozen BK177.out 2;have hfz8_3:=blk_frozen BK177.out 3;have hfz8_4:=blk_frozen BK177.out 4;have hfz8_5:=blk_frozen BK177.out 5))
  go_ret
  exact ⟨by first|rfl|(simp [errW_none,errW_some] <;> rfl)|(simp [*,errW_none,errW_some] <;> rfl),by repeat (first|(with_reducible first|exact HB.out|apply below_alloc|apply pw_below_drewN|apply below_drew1|refine below_set ?_ GE176.out|refine below_set ?_ GE177.out)|exact HB.out)⟩
 ·
  rw [if_neg c3] at H
  have c3b0 : (a0_0 != a1_0) = false:=by simpa using c3
  (try (have c3b1 : decide (a0_0 = a1_0) = true:=by simpa using c3))
  (try (have c3b2 : (a0_0 == a1_0) = true:=by simpa using c3))
  clear c3
  by_cases c9 : a0_1 = a1_1
  ·
   rw [if_pos c9] at H
   have c9b0 : (a0_1 == a1_1) = true:=beq_iff_eq.mpr c9
   have c9b1 : (a0_1 != a1_1) = false:=bne_eq_false_iff_eq.mpr c9
   clear c9
   by_cases c10 : (a0_2 != a1_2) = true
   ·
    rw [if_pos c10] at H
    have c10b0 : (a0_2 != a1_2) = true:=c10
    (try (have c10b1 : decide (a0_2 = a1_2) = false:=by simpa using c10))
    (try (have c10b2 : (a0_2 == a1_2) = false:=by simpa using c10))
    (try (have c10b3 : ¬ (a0_2 = a1_2):=by simpa using c10))
    clear c10
    obtain rfl:=Option.some.inj H
    go_enter Try.func78,Try.ntmps78
    go_wp2_with (first|((with_reducible refine gate_dst (N:=2) rfl ?_);refine box_event ?hg (N:=2) ?hd (cs:=#[.bool a0_0,.int .i64 a0_1,.bool a0_2,.int .i64 a0_3,.int .i64 a0_4,.int .i64 a0_5]) (t:=50) ?hr ?_;(case hd => rfl);(case hg => rfl);(case hr => first|(go_simp;done)|(go_simp;rfl));intro gb176 hg w11 hbox hb;have n0_:=Aside0.mk (below_step (by repeat (first|(with_reducible first|exact HB.out|apply below_alloc|apply pw_below_drewN|apply below_drew1)|exact HB.out)) hb);have n1_:=Aside0.mk (hbox);have n2_:=Aside0.mk ((by rw [hg];exact (below_size (by repeat (first|(with_reducible first|exact HB.out|apply below_alloc|apply pw_below_drewN|apply below_drew1)|exact HB.out))) : w.heap.size ≤ gb176));have n3_:=Aside0.mk ((by rw [hg];exact (below_size (by repeat (first|(with_reducible first|exact HB.out|apply below_alloc|apply pw_below_drewN|apply below_drew1)|exact HB.out))) : w.heap.size ≤ gb176));clear HB;have HB:=n0_;have BK176:=n1_;have GW176:=n2_;have GE176:=n3_;clear n0_ n1_ n2_ n3_;clear hb hbox hg)|((with_reducible refine gate_dst (N:=3) rfl ?_);refine box_event ?hg (N:=3) ?hd (cs:=#[.bool a1_0,.int .i64 a1_1,.bool a1_2,.int .i64 a1_3,.int .i64 a1_4,.int .i64 a1_5]) (t:=50) ?hr ?_;(case hd => rfl);(case hg => rfl);(case hr => first|(go_simp;done)|(go_simp;rfl));intro gb177 hg w12 hbox hb;have n0_:=Aside0.mk (blk_below (g:=gb176) (o:=.cells #[.bool a0_0,.int .i64 a0_1,.bool a0_2,.int .i64 a0_3,.int .i64 a0_4,.int .i64 a0_5] 50 (0,0)) (by (with_reducible repeat (first|refine blk_drewN ?_ _|refine blk_drew ?_|refine blk_alloc ?_ _));exact BK176.out) hb);have n1_:=Aside0.mk (below_step (by repeat (first|(with_reducible first|exact HB.out|apply below_alloc|apply pw_below_drewN|apply below_drew1|refine below_set ?_ GE176.out)|exact HB.out)) hb);have n2_:=Aside0.mk (hbox);have n3_:=Aside0.mk ((by rw [hg];exact (below_size (by repeat (first|(with_reducible first|exact HB.out|apply below_alloc|apply pw_below_drewN|apply below_drew1|refine below_set ?_ GE176.out)|exact HB.out))) : w.heap.size ≤ gb177));have n4_:=Aside0.mk ((by rw [hg];exact (below_size (by repeat (first|(with_reducible first|exact HB.out|apply below_alloc|apply pw_below_drewN|apply below_drew1|refine below_set ?_ GE176.out)|exact HB.out))) : w.heap.size ≤ gb177));have n5_:=Aside0.mk ((by rw [hg];exact Nat.ne_of_lt (blk_lt (g:=gb176) (o:=.cells #[.bool a0_0,.int .i64 a0_1,.bool a0_2,.int .i64 a0_3,.int .i64 a0_4,.int .i64 a0_5] 50 (0,0)) (by (with_reducible repeat (first|refine blk_drewN ?_ _|refine blk_drew ?_|refine blk_alloc ?_ _));exact BK176.out)) : gb176 ≠ gb177));have n6_:=Aside0.mk ((by rw [hg];exact Nat.ne_of_gt (blk_lt (g:=gb176) (o:=.cells #[.bool a0_0,.int .i64 a0_1,.bool a0_2,.int .i64 a0_3,.int .i64 a0_4,.int .i64 a0_5] 50 (0,0)) (by (with_reducible repeat (first|refine blk_drewN ?_ _|refine blk_drew ?_|refine blk_alloc ?_ _));exact BK176.out)) : gb177 ≠ gb176));clear BK176;clear HB;have BK176:=n0_;have HB:=n1_;have BK177:=n2_;have GW177:=n3_;have GE177:=n4_;have NB176_177:=n5_;have NB177_176:=n6_;clear n0_ n1_ n2_ n3_ n4_ n5_ n6_;clear hb hbox hg;have hnb13:=NB176_177.out;have hnc13:=NB177_176.out;have hcz14_0 : w12.cell? ⟨gb176,0,none⟩ = some (.bool a0_0):=(blk_cell BK176.out 0).trans rfl;have hcz14_1 : w12.cell? ⟨gb176,1,none⟩ = some (.int .i64 a0_1):=(blk_cell BK176.out 1).trans rfl;have hcz14_2 : w12.cell? ⟨gb176,2,none⟩ = some (.bool a0_2):=(blk_cell BK176.out 2).trans rfl;have hcz14_3 : w12.cell? ⟨gb176,3,none⟩ = some (.int .i64 a0_3):=(blk_cell BK176.out 3).trans rfl;have hcz14_4 : w12.cell? ⟨gb176,4,none⟩ = some (.int .i64 a0_4):=(blk_cell BK176.out 4).trans rfl;have hcz14_5 : w12.cell? ⟨gb176,5,none⟩ = some (.int .i64 a0_5):=(blk_cell BK176.out 5).trans rfl;have hfz14_0:=blk_frozen BK176.out 0;have hfz14_1:=blk_frozen BK176.out 1;have hfz14_2:=blk_frozen BK176.out 2;have hfz14_3:=blk_frozen BK176.out 3;have hfz14_4:=blk_frozen BK176.out 4;have hfz14_5:=blk_frozen BK176.out 5;have hcz15_0 : w12.cell? ⟨gb177,0,none⟩ = some (.bool a1_0):=(blk_cell BK177.out 0).trans rfl;have hcz15_1 : w12.cell? ⟨gb177,1,none⟩ = some (.int .i64 a1_1):=(blk_cell BK177.out 1).trans rfl;have hcz15_2 : w12.cell? ⟨gb177,2,none⟩ = some (.bool a1_2):=(blk_cell BK177.out 2).trans rfl;have hcz15_3 : w12.cell? ⟨gb177,3,none⟩ = some (.int .i64 a1_3):=(blk_cell BK177.out 3).trans rfl;have hcz15_4 : w12.cell? ⟨gb177,4,none⟩ = some (.int .i64 a1_4):=(blk_cell BK177.out 4).trans rfl;have hcz15_5 : w12.cell? ⟨gb177,5,none⟩ = some (.int .i64 a1_5):=(blk_cell BK177.out 5).trans rfl;have hfz15_0:=blk_frozen BK177.out 0;have hfz15_1:=blk_frozen BK177.out 1;have hfz15_2:=blk_frozen BK177.out 2;have hfz15_3:=blk_frozen BK177.out 3;have hfz15_4:=blk_frozen BK177.out 4;have hfz15_5:=blk_frozen BK177.out 5))
    go_ret
    exact ⟨by first|rfl|(simp [errW_none,errW_some] <;> rfl)|(simp [*,errW_none,errW_some] <;> rfl),by repeat (first|(with_reducible first|exact HB.out|apply below_alloc|apply pw_below_drewN|apply below_drew1|refine below_set ?_ GE176.out|refine below_set ?_ GE177.out)|exact HB.out)⟩
   ·
    rw [if_neg c10] at H
    have c10b0 : (a0_2 != a1_2) = false:=by simpa using c10
    (try (have c10b1 : decide (a0_2 = a1_2) = true:=by simpa using c10))
    (try (have c10b2 : (a0_2 == a1_2) = true:=by simpa using c10))
    clear c10
    by_cases c16 : a0_3 = a1_3
    ·
     rw [if_pos c16] at H
     have c16b0 : (a0_3 == a1_3) = true:=beq_iff_eq.mpr c16
     have c16b1 : (a0_3 != a1_3) = false:=bne_eq_false_iff_eq.mpr c16
     clear c16
     by_cases c17 : a0_4 = a1_4
     ·
      rw [if_pos c17] at H
      have c17b0 : (a0_4 == a1_4) = true:=beq_iff_eq.mpr c17
      have c17b1 : (a0_4 != a1_4) = false:=bne_eq_false_iff_eq.mpr c17
      clear c17
      by_cases c18 : a0_5 = a1_5
      ·
       rw [if_pos c18] at H
       have c18b0 : (a0_5 == a1_5) = true:=beq_iff_eq.mpr c18
       have c18b1 : (a0_5 != a1_5) = false:=bne_eq_false_iff_eq.mpr c18
       clear c18
       obtain rfl:=Option.some.inj H
       go_enter Try.func78,Try.ntmps78
       go_wp2_with (first|((with_reducible refine gate_dst (N:=2) rfl ?_);refine box_event ?hg (N:=2) ?hd (cs:=#[.bool a0_0,.int .i64 a0_1,.bool a0_2,.int .i64 a0_3,.int .i64 a0_4,.int .i64 a0_5]) (t:=50) ?hr ?_;(case hd => rfl);(case hg => rfl);(case hr => first|(go_simp;done)|(go_simp;rfl));intro gb176 hg w19 hbox hb;have n0_:=Aside0.mk (below_step (by repeat (first|(with_reducible first|exact HB.out|apply below_alloc|apply pw_below_drewN|apply below_drew1)|exact HB.out)) hb);have n1_:=Aside0.mk (hbox);have n2_:=Aside0.mk ((by rw [hg];exact (below_size (by repeat (first|(with_reducible first|exact HB.out|apply below_alloc|apply pw_below_drewN|apply below_drew1)|exact HB.out))) : w.heap.size ≤ gb176));have n3_:=Aside0.mk ((by rw [hg];exact (below_size (by repeat (first|(with_reducible first|exact HB.out|apply below_alloc|apply pw_below_drewN|apply below_drew1)|exact HB.out))) : w.heap.size ≤ gb176));clear HB;have HB:=n0_;have BK176:=n1_;have GW176:=n2_;have GE176:=n3_;clear n0_ n1_ n2_ n3_;clear hb hbox hg)|((with_reducible refine gate_dst (N:=3) rfl ?_);refine box_event ?hg (N:=3) ?hd (cs:=#[.bool a1_0,.int .i64 a1_1,.bool a1_2,.int .i64 a1_3,.int .i64 a1_4,.int .i64 a1_5]) (t:=50) ?hr ?_;(case hd => rfl);(case hg => rfl);(case hr => first|(go_simp;done)|(go_simp;rfl));intro gb177 hg w20 hbox hb;have n0_:=Aside0.mk (blk_below (g:=gb176) (o:=.cells #[.bool a0_0,.int .i64 a0_1,.bool a0_2,.int .i64 a0_3,.int .i64 a0_4,.int .i64 a0_5] 50 (0,0)) (by (with_reducible repeat (first|refine blk_drewN ?_ _|refine blk_drew ?_|refine blk_alloc ?_ _));exact BK176.out) hb);have n1_:=Aside0.mk (below_step (by repeat (first|(with_reducible first|exact HB.out|apply below_alloc|apply pw_below_drewN|apply below_drew1|refine below_set ?_ GE176.out)|exact HB.out)) hb);have n2_:=Aside0.mk (hbox);have n3_:=Aside0.mk ((by rw [hg];exact (below_size (by repeat (first|(with_reducible first|exact HB.out|apply below_alloc|apply pw_below_drewN|apply below_drew1|refine below_set ?_ GE176.out)|exact HB.out))) : w.heap.size ≤ gb177));have n4_:=Aside0.mk ((by rw [hg];exact (below_size (by repeat (first|(with_reducible first|exact HB.out|apply below_alloc|apply pw_below_drewN|apply below_drew1|refine below_set ?_ GE176.out)|exact HB.out))) : w.heap.size ≤ gb177));have n5_:=Aside0.mk ((by rw [hg];exact Nat.ne_of_lt (blk_lt (g:=gb176) (o:=.cells #[.bool a0_0,.int .i64 a0_1,.bool a0_2,.int .i64 a0_3,.int .i64 a0_4,.int .i64 a0_5] 50 (0,0)) (by (with_reducible repeat (first|refine blk_drewN ?_ _|refine blk_drew ?_|refine blk_alloc ?_ _));exact BK176.out)) : gb176 ≠ gb177));have n6_:=Aside0.mk ((by rw [hg];exact Nat.ne_of_gt (blk_lt (g:=gb176) (o:=.cells #[.bool a0_0,.int .i64 a0_1,.bool a0_2,.int .i64 a0_3,.int .i64 a0_4,.int .i64 a0_5] 50 (0,0)) (by (with_reducible repeat (first|refine blk_drewN ?_ _|refine blk_drew ?_|refine blk_alloc ?_ _));exact BK176.out)) : gb177 ≠ gb176));clear BK176;clear HB;have BK176:=n0_;have HB:=n1_;have BK177:=n2_;have GW177:=n3_;have GE177:=n4_;have NB176_177:=n5_;have NB177_176:=n6_;clear n0_ n1_ n2_ n3_ n4_ n5_ n6_;clear hb hbox hg;have hnb21:=NB176_177.out;have hnc21:=NB177_176.out;have hcz22_0 : w20.cell? ⟨gb176,0,none⟩ = some (.bool a0_0):=(blk_cell BK176.out 0).trans rfl;have hcz22_1 : w20.cell? ⟨gb176,1,none⟩ = some (.int .i64 a0_1):=(blk_cell BK176.out 1).trans rfl;have hcz22_2 : w20.cell? ⟨gb176,2,none⟩ = some (.bool a0_2):=(blk_cell BK176.out 2).trans rfl;have hcz22_3 : w20.cell? ⟨gb176,3,none⟩ = some (.int .i64 a0_3):=(blk_cell BK176.out 3).trans rfl;have hcz22_4 : w20.cell? ⟨gb176,4,none⟩ = some (.int .i64 a0_4):=(blk_cell BK176.out 4).trans rfl;have hcz22_5 : w20.cell? ⟨gb176,5,none⟩ = some (.int .i64 a0_5):=(blk_cell BK176.out 5).trans rfl;have hfz22_0:=blk_frozen BK176.out 0;have hfz22_1:=blk_frozen BK176.out 1;have hfz22_2:=blk_frozen BK176.out 2;have hfz22_3:=blk_frozen BK176.out 3;have hfz22_4:=blk_frozen BK176.out 4;have hfz22_5:=blk_frozen BK176.out 5;have hcz23_0 : w20.cell? ⟨gb177,0,none⟩ = some (.bool a1_0):=(blk_cell BK177.out 0).trans rfl;have hcz23_1 : w20.cell? ⟨gb177,1,none⟩ = some (.int .i64 a1_1):=(blk_cell BK177.out 1).trans rfl;have hcz23_2 : w20.cell? ⟨gb177,2,none⟩ = some (.bool a1_2):=(blk_cell BK177.out 2).trans rfl;have hcz23_3 : w20.cell? ⟨gb177,3,none⟩ = some (.int .i64 a1_3):=(blk_cell BK177.out 3).trans rfl;have hcz23_4 : w20.cell? ⟨gb177,4,none⟩ = some (.int .i64 a1_4):=(blk_cell BK177.out 4).trans rfl;have hcz23_5 : w20.cell? ⟨gb177,5,none⟩ = some (.int .i64 a1_5):=(blk_cell BK177.out 5).trans rfl;have hfz23_0:=blk_frozen BK177.out 0;have hfz23_1:=blk_frozen BK177.out 1;have hfz23_2:=blk_frozen BK177.out 2;have hfz23_3:=blk_frozen BK177.out 3;have hfz23_4:=blk_frozen BK177.out 4;have hfz23_5:=blk_frozen BK177.out 5))
       go_ret
       exact ⟨by first|rfl|(simp [errW_none,errW_some] <;> rfl)|(simp [*,errW_none,errW_some] <;> rfl),by repeat (first|(with_reducible first|exact HB.out|apply below_alloc|apply pw_below_drewN|apply below_drew1|refine below_set ?_ GE176.out|refine below_set ?_ GE177.out)|exact HB.out)⟩
      ·
       rw [if_neg c18] at H
       have c18b0 : (a0_5 == a1_5) = false:=beq_eq_false_iff_ne.mpr c18
       have c18b1 : (a0_5 != a1_5) = true:=bne_iff_ne.mpr c18
       obtain rfl:=Option.some.inj H
       go_enter Try.func78,Try.ntmps78
       go_wp2_with (first|((with_reducible refine gate_dst (N:=2) rfl ?_);refine box_event ?hg (N:=2) ?hd (cs:=#[.bool a0_0,.int .i64 a0_1,.bool a0_2,.int .i64 a0_3,.int .i64 a0_4,.int .i64 a0_5]) (t:=50) ?hr ?_;(case hd => rfl);(case hg => rfl);(case hr => first|(go_simp;done)|(go_simp;rfl));intro gb176 hg w24 hbox hb;have n0_:=Aside0.mk (below_step (by repeat (first|(with_reducible first|exact HB.out|apply below_alloc|apply pw_below_drewN|apply below_drew1)|exact HB.out)) hb);have n1_:=Aside0.mk (hbox);have n2_:=Aside0.mk ((by rw [hg];exact (below_size (by repeat (first|(with_reducible first|exact HB.out|apply below_alloc|apply pw_below_drewN|apply below_drew1)|exact HB.out))) : w.heap.size ≤ gb176));have n3_:=Aside0.mk ((by rw [hg];exact (below_size (by repeat (first|(with_reducible first|exact HB.out|apply below_alloc|apply pw_below_drewN|apply below_drew1)|exact HB.out))) : w.heap.size ≤ gb176));clear HB;have HB:=n0_;have BK176:=n1_;have GW176:=n2_;have GE176:=n3_;clear n0_ n1_ n2_ n3_;clear hb hbox hg)|((with_reducible refine gate_dst (N:=3) rfl ?_);refine box_event ?hg (N:=3) ?hd (cs:=#[.bool a1_0,.int .i64 a1_1,.bool a1_2,.int .i64 a1_3,.int .i64 a1_4,.int .i64 a1_5]) (t:=50) ?hr ?_;(case hd => rfl);(case hg => rfl);(case hr => first|(go_simp;done)|(go_simp;rfl));intro gb177 hg w25 hbox hb;have n0_:=Aside0.mk (blk_below (g:=gb176) (o:=.cells #[.bool a0_0,.int .i64 a0_1,.bool a0_2,.int .i64 a0_3,.int .i64 a0_4,.int .i64 a0_5] 50 (0,0)) (by (with_reducible repeat (first|refine blk_drewN ?_ _|refine blk_drew ?_|refine blk_alloc ?_ _));exact BK176.out) hb);have n1_:=Aside0.mk (below_step (by repeat (first|(with_reducible first|exact HB.out|apply below_alloc|apply pw_below_drewN|apply below_drew1|refine below_set ?_ GE176.out)|exact HB.out)) hb);have n2_:=Aside0.mk (hbox);have n3_:=Aside0.mk ((by rw [hg];exact (below_size (by repeat (first|(with_reducible first|exact HB.out|apply below_alloc|apply pw_below_drewN|apply below_drew1|refine below_set ?_ GE176.out)|exact HB.out))) : w.heap.size ≤ gb177));have n4_:=Aside0.mk ((by rw [hg];exact (below_size (by repeat (first|(with_reducible first|exact HB.out|apply below_alloc|apply pw_below_drewN|apply below_drew1|refine below_set ?_ GE176.out)|exact HB.out))) : w.heap.size ≤ gb177));have n5_:=Aside0.mk ((by rw [hg];exact Nat.ne_of_lt (blk_lt (g:=gb176) (o:=.cells #[.bool a0_0,.int .i64 a0_1,.bool a0_2,.int .i64 a0_3,.int .i64 a0_4,.int .i64 a0_5] 50 (0,0)) (by (with_reducible repeat (first|refine blk_drewN ?_ _|refine blk_drew ?_|refine blk_alloc ?_ _));exact BK176.out)) : gb176 ≠ gb177));have n6_:=Aside0.mk ((by rw [hg];exact Nat.ne_of_gt (blk_lt (g:=gb176) (o:=.cells #[.bool a0_0,.int .i64 a0_1,.bool a0_2,.int .i64 a0_3,.int .i64 a0_4,.int .i64 a0_5] 50 (0,0)) (by (with_reducible repeat (first|refine blk_drewN ?_ _|refine blk_drew ?_|refine blk_alloc ?_ _));exact BK176.out)) : gb177 ≠ gb176));clear BK176;clear HB;have BK176:=n0_;have HB:=n1_;have BK177:=n2_;have GW177:=n3_;have GE177:=n4_;have NB176_177:=n5_;have NB177_176:=n6_;clear n0_ n1_ n2_ n3_ n4_ n5_ n6_;clear hb hbox hg;have hnb26:=NB176_177.out;have hnc26:=NB177_176.out;have hcz27_0 : w25.cell? ⟨gb176,0,none⟩ = some (.bool a0_0):=(blk_cell BK176.out 0).trans rfl;have hcz27_1 : w25.cell? ⟨gb176,1,none⟩ = some (.int .i64 a0_1):=(blk_cell BK176.out 1).trans rfl;have hcz27_2 : w25.cell? ⟨gb176,2,none⟩ = some (.bool a0_2):=(blk_cell BK176.out 2).trans rfl;have hcz27_3 : w25.cell? ⟨gb176,3,none⟩ = some (.int .i64 a0_3):=(blk_cell BK176.out 3).trans rfl;have hcz27_4 : w25.cell? ⟨gb176,4,none⟩ = some (.int .i64 a0_4):=(blk_cell BK176.out 4).trans rfl;have hcz27_5 : w25.cell? ⟨gb176,5,none⟩ = some (.int .i64 a0_5):=(blk_cell BK176.out 5).trans rfl;have hfz27_0:=blk_frozen BK176.out 0;have hfz27_1:=blk_frozen BK176.out 1;have hfz27_2:=blk_frozen BK176.out 2;have hfz27_3:=blk_frozen BK176.out 3;have hfz27_4:=blk_frozen BK176.out 4;have hfz27_5:=blk_frozen BK176.out 5;have hcz28_0 : w25.cell? ⟨gb177,0,none⟩ = some (.bool a1_0):=(blk_cell BK177.out 0).trans rfl;have hcz28_1 : w25.cell? ⟨gb177,1,none⟩ = some (.int .i64 a1_1):=(blk_cell BK177.out 1).trans rfl;have hcz28_2 : w25.cell? ⟨gb177,2,none⟩ = some (.bool a1_2):=(blk_cell BK177.out 2).trans rfl;have hcz28_3 : w25.cell? ⟨gb177,3,none⟩ = some (.int .i64 a1_3):=(blk_cell BK177.out 3).trans rfl;have hcz28_4 : w25.cell? ⟨gb177,4,none⟩ = some (.int .i64 a1_4):=(blk_cell BK177.out 4).trans rfl;have hcz28_5 : w25.cell? ⟨gb177,5,none⟩ = some (.int .i64 a1_5):=(blk_cell BK177.out 5).trans rfl;have hfz28_0:=blk_frozen BK177.out 0;have hfz28_1:=blk_frozen BK177.out 1;have hfz28_2:=blk_frozen BK177.out 2;have hfz28_3:=blk_frozen BK177.out 3;have hfz28_4:=blk_frozen BK177.out 4;have hfz28_5:=blk_frozen BK177.out 5))
       go_ret
       exact ⟨by first|rfl|(simp [errW_none,errW_some] <;> rfl)|(simp [*,errW_none,errW_some] <;> rfl),by repeat (first|(with_reducible first|exact HB.out|apply below_alloc|apply pw_below_drewN|apply below_drew1|refine below_set ?_ GE176.out|refine below_set ?_ GE177.out)|exact HB.out)⟩
     ·
      rw [if_neg c17] at H
      have c17b0 : (a0_4 == a1_4) = false:=beq_eq_false_iff_ne.mpr c17
      have c17b1 : (a0_4 != a1_4) = true:=bne_iff_ne.mpr c17
      obtain rfl:=Option.some.inj H
      go_enter Try.func78,Try.ntmps78
      go_wp2_with (first|((with_reducible refine gate_dst (N:=2) rfl ?_);refine box_event ?hg (N:=2) ?hd (cs:=#[.bool a0_0,.int .i64 a0_1,.bool a0_2,.int .i64 a0_3,.int .i64 a0_4,.int .i64 a0_5]) (t:=50) ?hr ?_;(case hd => rfl);(case hg => rfl);(case hr => first|(go_simp;done)|(go_simp;rfl));intro gb176 hg w29 hbox hb;have n0_:=Aside0.mk (below_step (by repeat (first|(with_reducible first|exact HB.out|apply below_alloc|apply pw_below_drewN|apply below_drew1)|exact HB.out)) hb);have n1_:=Aside0.mk (hbox);have n2_:=Aside0.mk ((by rw [hg];exact (below_size (by repeat (first|(with_reducible first|exact HB.out|apply below_alloc|apply pw_below_drewN|apply below_drew1)|exact HB.out))) : w.heap.size ≤ gb176));have n3_:=Aside0.mk ((by rw [hg];exact (below_size (by repeat (first|(with_reducible first|exact HB.out|apply below_alloc|apply pw_below_drewN|apply below_drew1)|exact HB.out))) : w.heap.size ≤ gb176));clear HB;have HB:=n0_;have BK176:=n1_;have GW176:=n2_;have GE176:=n3_;clear n0_ n1_ n2_ n3_;clear hb hbox hg)|((with_reducible refine gate_dst (N:=3) rfl ?_);refine box_event ?hg (N:=3) ?hd (cs:=#[.bool a1_0,.int .i64 a1_1,.bool a1_2,.int .i64 a1_3,.int .i64 a1_4,.int .i64 a1_5]) (t:=50) ?hr ?_;(case hd => rfl);(case hg => rfl);(case hr => first|(go_simp;done)|(go_simp;rfl));intro gb177 hg w30 hbox hb;have n0_:=Aside0.mk (blk_below (g:=gb176) (o:=.cells #[.bool a0_0,.int .i64 a0_1,.bool a0_2,.int .i64 a0_3,.int .i64 a0_4,.int .i64 a0_5] 50 (0,0)) (by (with_reducible repeat (first|refine blk_drewN ?_ _|refine blk_drew ?_|refine blk_alloc ?_ _));exact BK176.out) hb);have n1_:=Aside0.mk (below_step (by repeat (first|(with_reducible first|exact HB.out|apply below_alloc|apply pw_below_drewN|apply below_drew1|refine below_set ?_ GE176.out)|exact HB.out)) hb);have n2_:=Aside0.mk (hbox);have n3_:=Aside0.mk ((by rw [hg];exact (below_size (by repeat (first|(with_reducible first|exact HB.out|apply below_alloc|apply pw_below_drewN|apply below_drew1|refine below_set ?_ GE176.out)|exact HB.out))) : w.heap.size ≤ gb177));have n4_:=Aside0.mk ((by rw [hg];exact (below_size (by repeat (first|(with_reducible first|exact HB.out|apply below_alloc|apply pw_below_drewN|apply below_drew1|refine below_set ?_ GE176.out)|exact HB.out))) : w.heap.size ≤ gb177));have n5_:=Aside0.mk ((by rw [hg];exact Nat.ne_of_lt (blk_lt (g:=gb176) (o:=.cells #[.bool a0_0,.int .i64 a0_1,.bool a0_2,.int .i64 a0_3,.int .i64 a0_4,.int .i64 a0_5] 50 (0,0)) (by (with_reducible repeat (first|refine blk_drewN ?_ _|refine blk_drew ?_|refine blk_alloc ?_ _));exact BK176.out)) : gb176 ≠ gb177));have n6_:=Aside0.mk ((by rw [hg];exact Nat.ne_of_gt (blk_lt (g:=gb176) (o:=.cells #[.bool a0_0,.int .i64 a0_1,.bool a0_2,.int .i64 a0_3,.int .i64 a0_4,.int .i64 a0_5] 50 (0,0)) (by (with_reducible repeat (first|refine blk_drewN ?_ _|refine blk_drew ?_|refine blk_alloc ?_ _));exact BK176.out)) : gb177 ≠ gb176));clear BK176;clear HB;have BK176:=n0_;have HB:=n1_;have BK177:=n2_;have GW177:=n3_;have GE177:=n4_;have NB176_177:=n5_;have NB177_176:=n6_;clear n0_ n1_ n2_ n3_ n4_ n5_ n6_;clear hb hbox hg;have hnb31:=NB176_177.out;have hnc31:=NB177_176.out;have hcz32_0 : w30.cell? ⟨gb176,0,none⟩ = some (.bool a0_0):=(blk_cell BK176.out 0).trans rfl;have hcz32_1 : w30.cell? ⟨gb176,1,none⟩ = some (.int .i64 a0_1):=(blk_cell BK176.out 1).trans rfl;have hcz32_2 : w30.cell? ⟨gb176,2,none⟩ = some (.bool a0_2):=(blk_cell BK176.out 2).trans rfl;have hcz32_3 : w30.cell? ⟨gb176,3,none⟩ = some (.int .i64 a0_3):=(blk_cell BK176.out 3).trans rfl;have hcz32_4 : w30.cell? ⟨gb176,4,none⟩ = some (.int .i64 a0_4):=(blk_cell BK176.out 4).trans rfl;have hcz32_5 : w30.cell? ⟨gb176,5,none⟩ = some (.int .i64 a0_5):=(blk_cell BK176.out 5).trans rfl;have hfz32_0:=blk_frozen BK176.out 0;have hfz32_1:=blk_frozen BK176.out 1;have hfz32_2:=blk_frozen BK176.out 2;have hfz32_3:=blk_frozen BK176.out 3;have hfz32_4:=blk_frozen BK176.out 4;have hfz32_5:=blk_frozen BK176.out 5;have hcz33_0 : w30.cell? ⟨gb177,0,none⟩ = some (.bool a1_0):=(blk_cell BK177.out 0).trans rfl;have hcz33_1 : w30.cell? ⟨gb177,1,none⟩ = some (.int .i64 a1_1):=(blk_cell BK177.out 1).trans rfl;have hcz33_2 : w30.cell? ⟨gb177,2,none⟩ = some (.bool a1_2):=(blk_cell BK177.out 2).trans rfl;have hcz33_3 : w30.cell? ⟨gb177,3,none⟩ = some (.int .i64 a1_3):=(blk_cell BK177.out 3).trans rfl;have hcz33_4 : w30.cell? ⟨gb177,4,none⟩ = some (.int .i64 a1_4):=(blk_cell BK177.out 4).trans rfl;have hcz33_5 : w30.cell? ⟨gb177,5,none⟩ = some (.int .i64 a1_5):=(blk_cell BK177.out 5).trans rfl;have hfz33_0:=blk_frozen BK177.out 0;have hfz33_1:=blk_frozen BK177.out 1;have hfz33_2:=blk_frozen BK177.out 2;have hfz33_3:=blk_frozen BK177.out 3;have hfz33_4:=blk_frozen BK177.out 4;have hfz33_5:=blk_frozen BK177.out 5))
      go_ret
      exact ⟨by first|rfl|(simp [errW_none,errW_some] <;> rfl)|(simp [*,errW_none,errW_some] <;> rfl),by repeat (first|(with_reducible first|exact HB.out|apply below_alloc|apply pw_below_drewN|apply below_drew1|refine below_set ?_ GE176.out|refine below_set ?_ GE177.out)|exact HB.out)⟩
    ·
     rw [if_neg c16] at H
     have c16b0 : (a0_3 == a1_3) = false:=beq_eq_false_iff_ne.mpr c16
     have c16b1 : (a0_3 != a1_3) = true:=bne_iff_ne.mpr c16
     obtain rfl:=Option.some.inj H
     go_enter Try.func78,Try.ntmps78
     go_wp2_with (first|((with_reducible refine gate_dst (N:=2) rfl ?_);refine box_event ?hg (N:=2) ?hd (cs:=#[.bool a0_0,.int .i64 a0_1,.bool a0_2,.int .i64 a0_3,.int .i64 a0_4,.int .i64 a0_5]) (t:=50) ?hr ?_;(case hd => rfl);(case hg => rfl);(case hr => first|(go_simp;done)|(go_simp;rfl));intro gb176 hg w34 hbox hb;have n0_:=Aside0.mk (below_step (by repeat (first|(with_reducible first|exact HB.out|apply below_alloc|apply pw_below_drewN|apply below_drew1)|exact HB.out)) hb);have n1_:=Aside0.mk (hbox);have n2_:=Aside0.mk ((by rw [hg];exact (below_size (by repeat (first|(with_reducible first|exact HB.out|apply below_alloc|apply pw_below_drewN|apply below_drew1)|exact HB.out))) : w.heap.size ≤ gb176));have n3_:=Aside0.mk ((by rw [hg];exact (below_size (by repeat (first|(with_reducible first|exact HB.out|apply below_alloc|apply pw_below_drewN|apply below_drew1)|exact HB.out))) : w.heap.size ≤ gb176));clear HB;have HB:=n0_;have BK176:=n1_;have GW176:=n2_;have GE176:=n3_;clear n0_ n1_ n2_ n3_;clear hb hbox hg)|((with_reducible refine gate_dst (N:=3) rfl ?_);refine box_event ?hg (N:=3) ?hd (cs:=#[.bool a1_0,.int .i64 a1_1,.bool a1_2,.int .i64 a1_3,.int .i64 a1_4,.int .i64 a1_5]) (t:=50) ?hr ?_;(case hd => rfl);(case hg => rfl);(case hr => first|(go_simp;done)|(go_simp;rfl));intro gb177 hg w35 hbox hb;have n0_:=Aside0.mk (blk_below (g:=gb176) (o:=.cells #[.bool a0_0,.int .i64 a0_1,.bool a0_2,.int .i64 a0_3,.int .i64 a0_4,.int .i64 a0_5] 50 (0,0)) (by (with_reducible repeat (first|refine blk_drewN ?_ _|refine blk_drew ?_|refine blk_alloc ?_ _));exact BK176.out) hb);have n1_:=Aside0.mk (below_step (by repeat (first|(with_reducible first|exact HB.out|apply below_alloc|apply pw_below_drewN|apply below_drew1|refine below_set ?_ GE176.out)|exact HB.out)) hb);have n2_:=Aside0.mk (hbox);have n3_:=Aside0.mk ((by rw [hg];exact (below_size (by repeat (first|(with_reducible first|exact HB.out|apply below_alloc|apply pw_below_drewN|apply below_drew1|refine below_set ?_ GE176.out)|exact HB.out))) : w.heap.size ≤ gb177));have n4_:=Aside0.mk ((by rw [hg];exact (below_size (by repeat (first|(with_reducible first|exact HB.out|apply below_alloc|apply pw_below_drewN|apply below_drew1|refine below_set ?_ GE176.out)|exact HB.out))) : w.heap.size ≤ gb177));have n5_:=Aside0.mk ((by rw [hg];exact Nat.ne_of_lt (blk_lt (g:=gb176) (o:=.cells #[.bool a0_0,.int .i64 a0_1,.bool a0_2,.int .i64 a0_3,.int .i64 a0_4,.int .i64 a0_5] 50 (0,0)) (by (with_reducible repeat (first|refine blk_drewN ?_ _|refine blk_drew ?_|refine blk_alloc ?_ _));exact BK176.out)) : gb176 ≠ gb177));have n6_:=Aside0.mk ((by rw [hg];exact Nat.ne_of_gt (blk_lt (g:=gb176) (o:=.cells #[.bool a0_0,.int .i64 a0_1,.bool a0_2,.int .i64 a0_3,.int .i64 a0_4,.int .i64 a0_5] 50 (0,0)) (by (with_reducible repeat (first|refine blk_drewN ?_ _|refine blk_drew ?_|refine blk_alloc ?_ _));exact BK176.out)) : gb177 ≠ gb176));clear BK176;clear HB;have BK176:=n0_;have HB:=n1_;have BK177:=n2_;have GW177:=n3_;have GE177:=n4_;have NB176_177:=n5_;have NB177_176:=n6_;clear n0_ n1_ n2_ n3_ n4_ n5_ n6_;clear hb hbox hg;have hnb36:=NB176_177.out;have hnc36:=NB177_176.out;have hcz37_0 : w35.cell? ⟨gb176,0,none⟩ = some (.bool a0_0):=(blk_cell BK176.out 0).trans rfl;have hcz37_1 : w35.cell? ⟨gb176,1,none⟩ = some (.int .i64 a0_1):=(blk_cell BK176.out 1).trans rfl;have hcz37_2 : w35.cell? ⟨gb176,2,none⟩ = some (.bool a0_2):=(blk_cell BK176.out 2).trans rfl;have hcz37_3 : w35.cell? ⟨gb176,3,none⟩ = some (.int .i64 a0_3):=(blk_cell BK176.out 3).trans rfl;have hcz37_4 : w35.cell? ⟨gb176,4,none⟩ = some (.int .i64 a0_4):=(blk_cell BK176.out 4).trans rfl;have hcz37_5 : w35.cell? ⟨gb176,5,none⟩ = some (.int .i64 a0_5):=(blk_cell BK176.out 5).trans rfl;have hfz37_0:=blk_frozen BK176.out 0;have hfz37_1:=blk_frozen BK176.out 1;have hfz37_2:=blk_frozen BK176.out 2;have hfz37_3:=blk_frozen BK176.out 3;have hfz37_4:=blk_frozen BK176.out 4;have hfz37_5:=blk_frozen BK176.out 5;have hcz38_0 : w35.cell? ⟨gb177,0,none⟩ = some (.bool a1_0):=(blk_cell BK177.out 0).trans rfl;have hcz38_1 : w35.cell? ⟨gb177,1,none⟩ = some (.int .i64 a1_1):=(blk_cell BK177.out 1).trans rfl;have hcz38_2 : w35.cell? ⟨gb177,2,none⟩ = some (.bool a1_2):=(blk_cell BK177.out 2).trans rfl;have hcz38_3 : w35.cell? ⟨gb177,3,none⟩ = some (.int .i64 a1_3):=(blk_cell BK177.out 3).trans rfl;have hcz38_4 : w35.cell? ⟨gb177,4,none⟩ = some (.int .i64 a1_4):=(blk_cell BK177.out 4).trans rfl;have hcz38_5 : w35.cell? ⟨gb177,5,none⟩ = some (.int .i64 a1_5):=(blk_cell BK177.out 5).trans rfl;have hfz38_0:=blk_frozen BK177.out 0;have hfz38_1:=blk_frozen BK177.out 1;have hfz38_2:=blk_frozen BK177.out 2;have hfz38_3:=blk_frozen BK177.out 3;have hfz38_4:=blk_frozen BK177.out 4;have hfz38_5:=blk_frozen BK177.out 5))
     go_ret
     exact ⟨by first|rfl|(simp [errW_none,errW_some] <;> rfl)|(simp [*,errW_none,errW_some] <;> rfl),by repeat (first|(with_reducible first|exact HB.out|apply below_alloc|apply pw_below_drewN|apply below_drew1|refine below_set ?_ GE176.out|refine below_set ?_ GE177.out)|exact HB.out)⟩
  ·
   rw [if_neg c9] at H
   have c9b0 : (a0_1 == a1_1) = false:=beq_eq_false_iff_ne.mpr c9
   have c9b1 : (a0_1 != a1_1) = true:=bne_iff_ne.mpr c9
   obtain rfl:=Option.some.inj H
   go_enter Try.func78,Try.ntmps78
   go_wp2_with (first|((with_reducible refine gate_dst (N:=2) rfl ?_);refine box_event ?hg (N:=2) ?hd (cs:=#[.bool a0_0,.int .i64 a0_1,.bool a0_2,.int .i64 a0_3,.int .i64 a0_4,.int .i64 a0_5]) (t:=50) ?hr ?_;(case hd => rfl);(case hg => rfl);(case hr => first|(go_simp;done)|(go_simp;rfl));intro gb176 hg w39 hbox hb;have n0_:=Aside0.mk (below_step (by repeat (first|(with_reducible first|exact HB.out|apply below_alloc|apply pw_below_drewN|apply below_drew1)|exact HB.out)) hb);have n1_:=Aside0.mk (hbox);have n2_:=Aside0.mk ((by rw [hg];exact (below_size (by repeat (first|(with_reducible first|exact HB.out|apply below_alloc|apply pw_below_drewN|apply below_drew1)|exact HB.out))) : w.heap.size ≤ gb176));have n3_:=Aside0.mk ((by rw [hg];exact (below_size (by repeat (first|(with_reducible first|exact HB.out|apply below_alloc|apply pw_below_drewN|apply below_drew1)|exact HB.out))) : w.heap.size ≤ gb176));clear HB;have HB:=n0_;have BK176:=n1_;have GW176:=n2_;have GE176:=n3_;clear n0_ n1_ n2_ n3_;clear hb hbox hg)|((with_reducible refine gate_dst (N:=3) rfl ?_);refine box_event ?hg (N:=3) ?hd (cs:=#[.bool a1_0,.int .i64 a1_1,.bool a1_2,.int .i64 a1_3,.int .i64 a1_4,.int .i64 a1_5]) (t:=50) ?hr ?_;(case hd => rfl);(case hg => rfl);(case hr => first|(go_simp;done)|(go_simp;rfl));intro gb177 hg w40 hbox hb;have n0_:=Aside0.mk (blk_below (g:=gb176) (o:=.cells #[.bool a0_0,.int .i64 a0_1,.bool a0_2,.int .i64 a0_3,.int .i64 a0_4,.int .i64 a0_5] 50 (0,0)) (by (with_reducible repeat (first|refine blk_drewN ?_ _|refine blk_drew ?_|refine blk_alloc ?_ _));exact BK176.out) hb);have n1_:=Aside0.mk (below_step (by repeat (first|(with_reducible first|exact HB.out|apply below_alloc|apply pw_below_drewN|apply below_drew1|refine below_set ?_ GE176.out)|exact HB.out)) hb);have n2_:=Aside0.mk (hbox);have n3_:=Aside0.mk ((by rw [hg];exact (below_size (by repeat (first|(with_reducible first|exact HB.out|apply below_alloc|apply pw_below_drewN|apply below_drew1|refine below_set ?_ GE176.out)|exact HB.out))) : w.heap.size ≤ gb177));have n4_:=Aside0.mk ((by rw [hg];exact (below_size (by repeat (first|(with_reducible first|exact HB.out|apply below_alloc|apply pw_below_drewN|apply below_drew1|refine below_set ?_ GE176.out)|exact HB.out))) : w.heap.size ≤ gb177));have n5_:=Aside0.mk ((by rw [hg];exact Nat.ne_of_lt (blk_lt (g:=gb176) (o:=.cells #[.bool a0_0,.int .i64 a0_1,.bool a0_2,.int .i64 a0_3,.int .i64 a0_4,.int .i64 a0_5] 50 (0,0)) (by (with_reducible repeat (first|refine blk_drewN ?_ _|refine blk_drew ?_|refine blk_alloc ?_ _));exact BK176.out)) : gb176 ≠ gb177));have n6_:=Aside0.mk ((by rw [hg];exact Nat.ne_of_gt (blk_lt (g:=gb176) (o:=.cells #[.bool a0_0,.int .i64 a0_1,.bool a0_2,.int .i64 a0_3,.int .i64 a0_4,.int .i64 a0_5] 50 (0,0)) (by (with_reducible repeat (first|refine blk_drewN ?_ _|refine blk_drew ?_|refine blk_alloc ?_ _));exact BK176.out)) : gb177 ≠ gb176));clear BK176;clear HB;have BK176:=n0_;have HB:=n1_;have BK177:=n2_;have GW177:=n3_;have GE177:=n4_;have NB176_177:=n5_;have NB177_176:=n6_;clear n0_ n1_ n2_ n3_ n4_ n5_ n6_;clear hb hbox hg;have hnb41:=NB176_177.out;have hnc41:=NB177_176.out;have hcz42_0 : w40.cell? ⟨gb176,0,none⟩ = some (.bool a0_0):=(blk_cell BK176.out 0).trans rfl;have hcz42_1 : w40.cell? ⟨gb176,1,none⟩ = some (.int .i64 a0_1):=(blk_cell BK176.out 1).trans rfl;have hcz42_2 : w40.cell? ⟨gb176,2,none⟩ = some (.bool a0_2):=(blk_cell BK176.out 2).trans rfl;have hcz42_3 : w40.cell? ⟨gb176,3,none⟩ = some (.int .i64 a0_3):=(blk_cell BK176.out 3).trans rfl;have hcz42_4 : w40.cell? ⟨gb176,4,none⟩ = some (.int .i64 a0_4):=(blk_cell BK176.out 4).trans rfl;have hcz42_5 : w40.cell? ⟨gb176,5,none⟩ = some (.int .i64 a0_5):=(blk_cell BK176.out 5).trans rfl;have hfz42_0:=blk_frozen BK176.out 0;have hfz42_1:=blk_frozen BK176.out 1;have hfz42_2:=blk_frozen BK176.out 2;have hfz42_3:=blk_frozen BK176.out 3;have hfz42_4:=blk_frozen BK176.out 4;have hfz42_5:=blk_frozen BK176.out 5;have hcz43_0 : w40.cell? ⟨gb177,0,none⟩ = some (.bool a1_0):=(blk_cell BK177.out 0).trans rfl;have hcz43_1 : w40.cell? ⟨gb177,1,none⟩ = some (.int .i64 a1_1):=(blk_cell BK177.out 1).trans rfl;have hcz43_2 : w40.cell? ⟨gb177,2,none⟩ = some (.bool a1_2):=(blk_cell BK177.out 2).trans rfl;have hcz43_3 : w40.cell? ⟨gb177,3,none⟩ = some (.int .i64 a1_3):=(blk_cell BK177.out 3).trans rfl;have hcz43_4 : w40.cell? ⟨gb177,4,none⟩ = some (.int .i64 a1_4):=(blk_cell BK177.out 4).trans rfl;have hcz43_5 : w40.cell? ⟨gb177,5,none⟩ = some (.int .i64 a1_5):=(blk_cell BK177.out 5).trans rfl;have hfz43_0:=blk_frozen BK177.out 0;have hfz43_1:=blk_frozen BK177.out 1;have hfz43_2:=blk_frozen BK177.out 2;have hfz43_3:=blk_frozen BK177.out 3;have hfz43_4:=blk_frozen BK177.out 4;have hfz43_5:=blk_frozen BK177.out 5))
   go_ret
   exact ⟨by first|rfl|(simp [errW_none,errW_some] <;> rfl)|(simp [*,errW_none,errW_some] <;> rfl),by repeat (first|(with_reducible first|exact HB.out|apply below_alloc|apply pw_below_drewN|apply below_drew1|refine below_set ?_ GE176.out|refine below_set ?_ GE177.out)|exact HB.out)⟩
end Go.Proofs.Ytnldanonpdijgaa.P
