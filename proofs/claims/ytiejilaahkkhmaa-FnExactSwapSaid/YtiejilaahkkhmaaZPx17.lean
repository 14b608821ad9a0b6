-- Ours: printed or written for this claim; cut to what the theorem needs.
import Derived.Test.YtiejilaahkkhmaaZPx0
import Derived.Test.YtiejilaahkkhmaaZPx15
import Derived.Test.YtiejilaahkkhmaaZPx16
namespace Go.Proofs.Ytiejilaahkkhmaa.P
open Go.RowKit Go.Proofs.YtiejilaahkkhmaaW.PrintWords Go.Proofs.YtiejilaahkkhmaaW.PrintLast Go.Proofs.YtiejilaahkkhmaaW.PrintMore
attribute [local go_sem] max2_int min2_int max_two min_two max_three min_three max_four min_four
set_option linter.unusedVariables false
set_option linter.unusedSimpArgs false
def impl_under_1_at.f (a0_0 : Int) (a0_1 : Int) (a0_2 : Int) (a0_3 : ByteArray) (a1_0 : Int) (a2_0 : Int) : Option (Bool):=if a0_0 = a1_0 then (some (a0_2 == a2_0)) else (some false)
set_option maxHeartbeats 8000000 in
set_option maxRecDepth 100000 in
theorem impl_under_1_at.calls (a0_0 : Int) (a0_1 : Int) (a0_2 : Int) (a0_3 : ByteArray) (gq1 : Nat) (a1_0 : Int) (gq2 : Nat) (a2_0 : Int) (r : Bool) (w : World) (hb1_ : w.heap[gq1]? = some (.cells #[.int .i64 a1_0] 3 (0,0))) (hb2_ : w.heap[gq2]? = some (.cells #[.int .i64 a2_0] 3 (0,0))) (h : impl_under_1_at.f a0_0 a0_1 a0_2 a0_3 a1_0 a2_0 = some r) :
  Calls Try.prog 105 #[.agg #[.int .i64 a0_0,.int .i64 a0_1,.int .i64 a0_2,.string a0_3],.pointer (some ⟨gq1,0,none⟩),.pointer (some ⟨gq2,0,none⟩)] w fun e w' => e = .returned (.bool r) ∧ Below w.heap.size w w':=by
 have hu36:=Try.underlying36
 have BK1:=Aside0.mk hb1_
 clear hb1_
 have BK2:=Aside0.mk hb2_
 clear hb2_
 have HB:=Aside0.mk (Below.refl w.heap.size w)
 have H : (if a0_0 = a1_0 then (some (a0_2 == a2_0)) else (some false)) = some r:=h
 clear h
 by_cases c4 : a0_0 = a1_0
 ·
  rw [if_pos c4] at H
  have c4b0 : (a0_0 == a1_0) = true:=beq_iff_eq.mpr c4
  have c4b1 : (a0_0 != a1_0) = false:=bne_eq_false_iff_eq.mpr c4
  clear c4
  obtain rfl:=Option.some.inj H
  go_enter Try.func105,Try.ntmps105
  go_wp2_with (first|((with_reducible refine gate_dst (N:=3) rfl ?_);refine box_event ?hg (N:=3) ?hd (cs:=#[.int .i64 a0_0,.int .i64 a0_1,.int .i64 a0_2,.string a0_3]) (t:=36) ?hr ?_;(case hd => rfl);(case hg => rfl);(case hr => first|(go_simp;done)|(go_simp;rfl));intro gb504 hg w5 hbox hb;have n0_:=Aside0.mk (blk_below BK1.out hb);have n1_:=Aside0.mk (blk_below BK2.out hb);have n2_:=Aside0.mk (below_step (by exact HB.out) hb);have n3_:=Aside0.mk (hbox);have n4_:=Aside0.mk ((by rw [hg];exact (below_size (by exact HB.out)) : w.heap.size ≤ gb504));have n5_:=Aside0.mk ((by rw [hg];exact (below_size (by exact HB.out)) : w.heap.size ≤ gb504));have n6_:=Aside0.mk ((by rw [hg];exact Nat.ne_of_lt (blk_lt BK1.out) : gq1 ≠ gb504));have n7_:=Aside0.mk ((by rw [hg];exact Nat.ne_of_gt (blk_lt BK1.out) : gb504 ≠ gq1));have n8_:=Aside0.mk ((by rw [hg];exact Nat.ne_of_lt (blk_lt BK2.out) : gq2 ≠ gb504));have n9_:=Aside0.mk ((by rw [hg];exact Nat.ne_of_gt (blk_lt BK2.out) : gb504 ≠ gq2));clear BK1;clear BK2;clear HB;have BK1:=n0_;have BK2:=n1_;have HB:=n2_;have BK504:=n3_;have GW504:=n4_;have GE504:=n5_;have NB1_504:=n6_;have NB504_1:=n7_;have NB2_504:=n8_;have NB504_2:=n9_;clear n0_ n1_ n2_ n3_ n4_ n5_ n6_ n7_ n8_ n9_;clear hb hbox hg;have hnb6:=NB504_1.out;have hnc6:=NB1_504.out;have hnb7:=NB504_2.out;have hnc7:=NB2_504.out;have hcz8_0 : w5.cell? ⟨gb504,0,none⟩ = some (.int .i64 a0_0):=(blk_cell BK504.out 0).trans rfl;have hcz8_1 : w5.cell? ⟨gb504,1,none⟩ = some (.int .i64 a0_1):=(blk_cell BK504.out 1).trans rfl;have hcz8_2 : w5.cell? ⟨gb504,2,none⟩ = some (.int .i64 a0_2):=(blk_cell BK504.out 2).trans rfl;have hcz8_3 : w5.cell? ⟨gb504,3,none⟩ = some (.string a0_3):=(blk_cell BK504.out 3).trans rfl;have hfz8_0:=blk_frozen BK504.out 0;have hfz8_1:=blk_frozen BK504.out 1;have hfz8_2:=blk_frozen BK504.out 2;have hfz8_3:=blk_frozen BK504.out 3;have hcz9_0 : w5.cell? ⟨gq1,0,none⟩ = some (.int .i64 a1_0):=(blk_cell BK1.out 0).trans rfl;have hfz9_0:=blk_frozen BK1.out 0;have hcz10_0 : w5.cell? ⟨gq2,0,none⟩ = some (.int .i64 a2_0):=(blk_cell BK2.out 0).trans rfl;have hfz10_0:=blk_frozen BK2.out 0))
  go_ret
  exact ⟨by first|rfl|(simp [errW_none,errW_some] <;> rfl)|(simp [*,errW_none,errW_some] <;> rfl),by repeat (first|(with_reducible first|exact HB.out|apply below_alloc|apply pw_below_drewN|apply below_drew1|refine below_set ?_ GE1.out|refine below_set ?_ GE2.out|refine below_set ?_ GE504.out)|exact HB.out)⟩
 ·
  rw [if_neg c4] at H
  have c4b0 : (a0_0 == a1_0) = false:=beq_eq_false_iff_ne.mpr c4
  have c4b1 : (a0_0 != a1_0) = true:=bne_iff_ne.mpr c4
  obtain rfl:=Option.some.inj H
  go_enter Try.func105,Try.ntmps105
  go_wp2_with (first|((with_reducible refine gate_dst (N:=3) rfl ?_);refine box_event ?hg (N:=3) ?hd (cs:=#[.int .i64 a0_0,.int .i64 a0_1,.int .i64 a0_2,.string a0_3]) (t:=36) ?hr ?_;(case hd => rfl);(case hg => rfl);(case hr => first|(go_simp;done)|(go_simp;rfl));intro gb504 hg w11 hbox hb;have n0_:=Aside0.mk (blk_below BK1.out hb);have n1_:=Aside0.mk (blk_below BK2.out hb);have n2_:=Aside0.mk (below_step (by exact HB.out) hb);have n3_:=Aside0.mk (hbox);have n4_:=Aside0.mk ((by rw [hg];exact (below_size (by exact HB.out)) : w.heap.size ≤ gb504));have n5_:=Aside0.mk ((by rw [hg];exact (below_size (by exact HB.out)) : w.heap.size ≤ gb504));have n6_:=Aside0.mk ((by rw [hg];exact Nat.ne_of_lt (blk_lt BK1.out) : gq1 ≠ gb504));have n7_:=Aside0.mk ((by rw [hg];exact Nat.ne_of_gt (blk_lt BK1.out) : gb504 ≠ gq1));have n8_:=Aside0.mk ((by rw [hg];exact Nat.ne_of_lt (blk_lt BK2.out) : gq2 ≠ gb504));have n9_:=Aside0.mk ((by rw [hg];exact Nat.ne_of_gt (blk_lt BK2.out) : gb504 ≠ gq2));clear BK1;clear BK2;clear HB;have BK1:=n0_;have BK2:=n1_;have HB:=n2_;have BK504:=n3_;have GW504:=n4_;have GE504:=n5_;have NB1_504:=n6_;have NB504_1:=n7_;have NB2_504:=n8_;have NB504_2:=n9_;clear n0_ n1_ n2_ n3_ n4_ n5_ n6_ n7_ n8_ n9_;clear hb hbox hg;have hnb12:=NB504_1.out;have hnc12:=NB1_504.out;have hnb13:=NB504_2.out;have hnc13:=NB2_504.out;have hcz14_0 : w11.cell? ⟨gb504,0,none⟩ = some (.int .i64 a0_0):=(blk_cell BK504.out 0).trans rfl;have hcz14_1 : w11.cell? ⟨gb504,1,none⟩ = some (.int .i64 a0_1):=(blk_cell BK504.out 1).trans rfl;have hcz14_2 : w11.cell? ⟨gb504,2,none⟩ = some (.int .i64 a0_2):=(blk_cell BK504.out 2).trans rfl;have hcz14_3 : w11.cell? ⟨gb504,3,none⟩ = some (.string a0_3):=(blk_cell BK504.out 3).trans rfl;have hfz14_0:=blk_frozen BK504.out 0;have hfz14_1:=blk_frozen BK504.out 1;have hfz14_2:=blk_frozen BK504.out 2;have hfz14_3:=blk_frozen BK504.out 3;have hcz15_0 : w11.cell? ⟨gq1,0,none⟩ = some (.int .i64 a1_0):=(blk_cell BK1.out 0).trans rfl;have hfz15_0:=blk_frozen BK1.out 0))
  go_ret
  exact ⟨by first|rfl|(simp [errW_none,errW_some] <;> rfl)|(simp [*,errW_none,errW_some] <;> rfl),by repeat (first|(with_reducible first|exact HB.out|apply below_alloc|apply pw_below_drewN|apply below_drew1|refine below_set ?_ GE1.out|refine below_set ?_ GE2.out|refine below_set ?_ GE504.out)|exact HB.out)⟩
def slices_IndexFunc_impl_Write_at_under_1.l0 : Nat → List (S36) → Int → Int → Int → Int → Option (Int)
  | 0,_,_,_,_,_ => none
  | k + 1,x0,x7,x8,x47000,x48000 => if x8 < x7 then (if 0 ≤ x8 then (if x8 < (x0.length : Int) then ((impl_under_1_at.f ((rd_T36 x0 x8).f0) ((rd_T36 x0 x8).f1) ((rd_T36 x0 x8).f2) ((rd_T36 x0 x8).f3) x47000 x48000).bind fun t506 => (if t506 = true then (some x8) else (slices_IndexFunc_impl_Write_at_under_1.l0 k x0 x7 (wrap64 (x8 + 1)) x47000 x48000))) else (none)) else (none)) else (some (-1))
def slices_IndexFunc_impl_Write_at_under_1.f (k : Nat) (l0 : List (S36)) (a1_0 : Int) (a1_1 : Int) : Option (Int):=slices_IndexFunc_impl_Write_at_under_1.l0 k l0 (l0.length : Int) 0 a1_0 a1_1
set_option maxHeartbeats 8000000 in
set_option maxRecDepth 100000 in
theorem slices_IndexFunc_impl_Write_at_under_1.calls (k : Nat) (A0 : Option Addr) (c0 : Nat) (l0 : List (S36)) (gq1_0 : Nat) (gq1_1 : Nat) (a1_0 : Int) (a1_1 : Int) (r : Int) (w : World) (hb46_ : w.heap[gq1_0]? = some (.cells #[.int .i64 a1_0] 3 (0,0))) (hb47_ : w.heap[gq1_1]? = some (.cells #[.int .i64 a1_1] 3 (0,0))) (hr0 : Kd.C k36 w A0 l0.length l0) (hc0 : l0.length ≤ c0) (h : slices_IndexFunc_impl_Write_at_under_1.f k l0 a1_0 a1_1 = some r) :
  Calls Try.prog 103 #[.slice A0 l0.length c0,.func (.func 105) #[] #[.pointer (some ⟨gq1_0,0,none⟩),.pointer (some ⟨gq1_1,0,none⟩)]] w fun e w' => e = .returned (.int .i64 r) ∧ Below w.heap.size w w':=by
 have hu36:=Try.underlying36
 have HR0:=Aside0.mk hr0
 have HC0:=Aside0.mk hc0
 clear hr0 hc0
 have BK46:=Aside0.mk hb46_
 clear hb46_
 have BK47:=Aside0.mk hb47_
 clear hb47_
 have HB:=Aside0.mk (Below.refl w.heap.size w)
 have H : (slices_IndexFunc_impl_Write_at_under_1.l0 k l0 (l0.length : Int) 0 a1_0 a1_1) = some r:=h
 clear h
 have H':=Aside0.mk H
 clear H
 go_enter Try.func103,Try.ntmps103
 go_wp2
 go_loopg [8] k (fun kq v8 w' => ∃ (x8_1 : Int),v8 = .int .i64 x8_1 ∧ Aside0 (slices_IndexFunc_impl_Write_at_under_1.l0 kq l0 (l0.length : Int) x8_1 a1_0 a1_1 = some r) ∧ Aside0 (kq ≤ k) ∧ Aside0 (w'.heap[gq1_0]? = some (.cells #[.int .i64 a1_0] 3 (0,0))) ∧ Aside0 (w'.heap[gq1_1]? = some (.cells #[.int .i64 a1_1] 3 (0,0))) ∧ Aside0 (Below w.heap.size w w'))
 case atStart => exact ⟨(0),(by first|rfl|(simp;done)|(simp [*];done)),H',⟨Nat.le_refl _⟩,⟨by (with_reducible repeat (first|refine blk_drewN ?_ _|refine blk_drew ?_|refine blk_alloc ?_ _));exact BK46.out⟩,⟨by (with_reducible repeat (first|refine blk_drewN ?_ _|refine blk_drew ?_|refine blk_alloc ?_ _));exact BK47.out⟩,⟨by repeat (first|(with_reducible first|exact HB.out|apply below_alloc|apply pw_below_drewN|apply below_drew1|refine below_set ?_ GE46.out|refine below_set ?_ GE47.out)|exact HB.out)⟩⟩
 case round =>
  clear H'
  try clear c1
  try clear q1
  try clear p2
  obtain ⟨x8_1,rfl,HA,HK1,BK46,BK47,HB⟩:=hrel
  cases gk with
  | zero => exact absurd HA.out (by simp [slices_IndexFunc_impl_Write_at_under_1.l0])
  | succ k1 =>
   have H:=HA.out
   clear HA
   simp only [slices_IndexFunc_impl_Write_at_under_1.l0] at H
   by_cases c3 : x8_1 < (l0.length : Int)
   ·
    rw [if_pos c3] at H
    have c3b0 : decide (x8_1 < (l0.length : Int)) = true:=decide_eq_true c3
    clear c3
    by_cases c4 : 0 ≤ x8_1
    ·
     rw [if_pos c4] at H
     have c4b0 : decide (0 ≤ x8_1) = true:=decide_eq_true c4
     clear c4
     by_cases c5 : x8_1 < (l0.length : Int)
     ·
      rw [if_pos c5] at H
      have c5b0 : decide (x8_1 < (l0.length : Int)) = true:=decide_eq_true c5
      clear c5
      replace H:=Option.bind_eq_some_iff.mp H
      obtain ⟨t506,A60,H⟩:=H
      replace H : (if t506 = true then (some x8_1) else (slices_IndexFunc_impl_Write_at_under_1.l0 k1 l0 (l0.length : Int) (wrap64 (x8_1 + 1)) a1_0 a1_1)) = some r:=H
      have A6:=Aside0.mk A60
      clear A60
      by_cases c7 : t506 = true
      ·
       subst c7
       have H1 : (some x8_1) = some r:=by rw [if_pos rfl] at H;exact H
       clear H
       have H:=H1
       clear H1
       obtain rfl:=Option.some.inj H
       have p505 : 0 ≤ (x8_1 : Int):=of_decide_eq_true (by first|(with_reducible assumption)|assumption)
       have q505 : x8_1 < (l0.length : Int):=of_decide_eq_true (by first|(with_reducible assumption)|assumption)
       obtain ⟨ad505,e505,hx505_0,hx505_1,hx505_2,hx505_3⟩:=at_T36 HR0.out x8_1 p505 q505
       cases e505
       replace hx505_0:=(HB.out.cell (World.block_lt_of_cell? w _ hx505_0)).trans hx505_0
       replace hx505_1:=(HB.out.cell (World.block_lt_of_cell? w _ hx505_1)).trans hx505_1
       replace hx505_2:=(HB.out.cell (World.block_lt_of_cell? w _ hx505_2)).trans hx505_2
       replace hx505_3:=(HB.out.cell (World.block_lt_of_cell? w _ hx505_3)).trans hx505_3
       replace p505:=eq_true p505
       replace q505:=eq_true q505
       go_wp2_with (first|(go_at_call 105;(with_reducible refine (impl_under_1_at.calls ((rd_T36 l0 x8_1).f0) ((rd_T36 l0 x8_1).f1) ((rd_T36 l0 x8_1).f2) ((rd_T36 l0 x8_1).f3) gq1_0 a1_0 gq1_1 a1_1 true _ ?side1 ?side2 A6.out).mono ?_);(case side1 => exact (by exact BK46.out));(case side2 => exact (by exact BK47.out));rintro e w8 ⟨rfl,hb⟩;have n0_:=Aside0.mk (blk_below BK46.out hb);have n1_:=Aside0.mk (blk_below BK47.out hb);have n2_:=Aside0.mk (below_step (by exact HB.out) hb);clear BK46;clear BK47;clear HB;have BK46:=n0_;have BK47:=n1_;have HB:=n2_;clear n0_ n1_ n2_;(try clear hb);(try clear hb2);(try clear hk);(try clear hi)))
       go_ret
       exact ⟨by first|rfl|(simp [errW_none,errW_some] <;> rfl)|(simp [*,errW_none,errW_some] <;> rfl),by repeat (first|(with_reducible first|exact HB.out|apply below_alloc|apply pw_below_drewN|apply below_drew1|refine below_set ?_ GE46.out|refine below_set ?_ GE47.out)|exact HB.out)⟩
      ·
       replace c7:=Bool.eq_false_iff.mpr c7
       subst c7
       have H1 : (slices_IndexFunc_impl_Write_at_under_1.l0 k1 l0 (l0.length : Int) (wrap64 (x8_1 + 1)) a1_0 a1_1) = some r:=by rw [if_neg (show ¬ (false = true) by decide)] at H;exact H
       clear H
       have H:=H1
       clear H1
       have H':=Aside0.mk H
       clear H
       have p505 : 0 ≤ (x8_1 : Int):=of_decide_eq_true (by first|(with_reducible assumption)|assumption)
       have q505 : x8_1 < (l0.length : Int):=of_decide_eq_true (by first|(with_reducible assumption)|assumption)
       obtain ⟨ad505,e505,hx505_0,hx505_1,hx505_2,hx505_3⟩:=at_T36 HR0.out x8_1 p505 q505
       cases e505
       replace hx505_0:=(HB.out.cell (World.block_lt_of_cell? w _ hx505_0)).trans hx505_0
       replace hx505_1:=(HB.out.cell (World.block_lt_of_cell? w _ hx505_1)).trans hx505_1
       replace hx505_2:=(HB.out.cell (World.block_lt_of_cell? w _ hx505_2)).trans hx505_2
       replace hx505_3:=(HB.out.cell (World.block_lt_of_cell? w _ hx505_3)).trans hx505_3
       replace p505:=eq_true p505
       replace q505:=eq_true q505
       go_wp2_with (first|(go_at_call 105;(with_reducible refine (impl_under_1_at.calls ((rd_T36 l0 x8_1).f0) ((rd_T36 l0 x8_1).f1) ((rd_T36 l0 x8_1).f2) ((rd_T36 l0 x8_1).f3) gq1_0 a1_0 gq1_1 a1_1 false _ ?side1 ?side2 A6.out).mono ?_);(case side1 => exact (by exact BK46.out));(case side2 => exact (by exact BK47.out));rintro e w9 ⟨rfl,hb⟩;have n0_:=Aside0.mk (blk_below BK46.out hb);have n1_:=Aside0.mk (blk_below BK47.out hb);have n2_:=Aside0.mk (below_step (by exact HB.out) hb);clear BK46;clear BK47;clear HB;have BK46:=n0_;have BK47:=n1_;have HB:=n2_;clear n0_ n1_ n2_;(try clear hb);(try clear hb2);(try clear hk);(try clear hi)))
       go_roundg k1
       case measure => have:=HK1.out;omega
       case rel => exact ⟨(wrap64 (x8_1 + 1)),(by first|rfl|(simp;done)|(simp [*];done)),H',⟨by have:=HK1.out;omega⟩,⟨by (with_reducible repeat (first|refine blk_drewN ?_ _|refine blk_drew ?_|refine blk_alloc ?_ _));exact BK46.out⟩,⟨by (with_reducible repeat (first|refine blk_drewN ?_ _|refine blk_drew ?_|refine blk_alloc ?_ _));exact BK47.out⟩,⟨by repeat (first|(with_reducible first|exact HB.out|apply below_alloc|apply pw_below_drewN|apply below_drew1|refine below_set ?_ GE46.out|refine below_set ?_ GE47.out)|exact HB.out)⟩⟩
     ·
      rw [if_neg c5] at H
      exact absurd H (by simp)
    ·
     rw [if_neg c4] at H
     exact absurd H (by simp)
   ·
    rw [if_neg c3] at H
    have c3b0 : decide (x8_1 < (l0.length : Int)) = false:=decide_eq_false c3
    clear c3
    obtain rfl:=Option.some.inj H
    go_wp2
    go_ret
    exact ⟨by first|rfl|(simp [errW_none,errW_some] <;> rfl)|(simp [*,errW_none,errW_some] <;> rfl),by repeat (first|(with_reducible first|exact HB.out|apply below_alloc|apply pw_below_drewN|apply below_drew1|refine below_set ?_ GE46.out|refine below_set ?_ GE47.out)|exact HB.out)⟩
end Go.Proofs.Ytiejilaahkkhmaa.P
