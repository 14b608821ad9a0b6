-- Ours: printed or written for this claim; cut to what the theorem needs.
import Derived.Test.YtiejilaahkkhmaaZPx0
import Derived.Test.YtiejilaahkkhmaaZPx24
open Bool renaming true → T, false → F
namespace Go.Proofs.Ytiejilaahkkhmaa.P
open Go.RowKit Go.Proofs.YtiejilaahkkhmaaW.PrintWords Go.Proofs.YtiejilaahkkhmaaW.PrintLast Go.Proofs.YtiejilaahkkhmaaW.PrintMore
attribute [local go_sem] max2_int min2_int max_two min_two max_three min_three max_four min_four
set_option linter.unusedVariables false
set_option linter.unusedSimpArgs false
def laws_eqWrite.f (a0_0 : Int) (a0_1 : Int) (a0_2 : Int) (a0_3 : ByteArray) (a1_0 : Int) (a1_1 : Int) (a1_2 : Int) (a1_3 : ByteArray) : Option (Bool):=if a0_0 = a1_0 then (if a0_1 = a1_1 then (if a0_2 = a1_2 then (if a0_3.toList = a1_3.toList then (some true) else (some false)) else (some false)) else (some false)) else (some false)
set_option maxHeartbeats 8000000 in
set_option maxRecDepth 100000 in
theorem laws_eqWrite.calls (a0_0 : Int) (a0_1 : Int) (a0_2 : Int) (a0_3 : ByteArray) (a1_0 : Int) (a1_1 : Int) (a1_2 : Int) (a1_3 : ByteArray) (r : Bool) (w : World) (h : laws_eqWrite.f a0_0 a0_1 a0_2 a0_3 a1_0 a1_1 a1_2 a1_3 = some r) :
  Calls Try.prog 96 #[.agg #[.int .i64 a0_0,.int .i64 a0_1,.int .i64 a0_2,.string a0_3],.agg #[.int .i64 a1_0,.int .i64 a1_1,.int .i64 a1_2,.string a1_3]] w fun e w' => e = .returned (.bool r) ∧ Below w.heap.size w w':=by
 have hu36:=Try.underlying36
 have HB:=Aside0.mk (Below.refl w.heap.size w)
 have H : (if a0_0 = a1_0 then (if a0_1 = a1_1 then (if a0_2 = a1_2 then (if a0_3.toList = a1_3.toList then (some true) else (some false)) else (some false)) else (some false)) else (some false)) = some r:=h
 clear h
 by_cases c3 : a0_0 = a1_0
 ·
  rw [if_pos c3] at H
  have c3b0 : (a0_0 == a1_0) = true:=beq_iff_eq.mpr c3
  have c3b1 : (a0_0 != a1_0) = false:=bne_eq_false_iff_eq.mpr c3
  clear c3
  by_cases c4 : a0_1 = a1_1
  ·
   rw [if_pos c4] at H
   have c4b0 : (a0_1 == a1_1) = true:=beq_iff_eq.mpr c4
   have c4b1 : (a0_1 != a1_1) = false:=bne_eq_false_iff_eq.mpr c4
   clear c4
   by_cases c5 : a0_2 = a1_2
   ·
    rw [if_pos c5] at H
    have c5b0 : (a0_2 == a1_2) = true:=beq_iff_eq.mpr c5
    have c5b1 : (a0_2 != a1_2) = false:=bne_eq_false_iff_eq.mpr c5
    clear c5
    by_cases c6 : a0_3.toList = a1_3.toList
    ·
     rw [if_pos c6] at H
     have c6b0 : (a0_3.toList == a1_3.toList) = true:=beq_iff_eq.mpr c6
     have c6b1 : (a0_3.toList != a1_3.toList) = false:=bne_eq_false_iff_eq.mpr c6
     clear c6
     obtain rfl:=Option.some.inj H
     go_enter Try.func96,Try.ntmps96
     go_wp2_with (first|((with_reducible refine gate_dst (N:=2) rfl ?_);refine box_event ?hg (N:=2) ?hd (cs:=#[.int .i64 a0_0,.int .i64 a0_1,.int .i64 a0_2,.string a0_3]) (t:=36) ?hr ?_;(case hd => rfl);(case hg => rfl);(case hr => first|(go_simp;done)|(go_simp;rfl));intro gb798 hg w7 hbox hb;have n0_:=Aside0.mk (below_step (by exact HB.out) hb);have n1_:=Aside0.mk (hbox);have n2_:=Aside0.mk ((by rw [hg];exact (below_size (by exact HB.out)) : w.heap.size ≤ gb798));have n3_:=Aside0.mk ((by rw [hg];exact (below_size (by exact HB.out)) : w.heap.size ≤ gb798));clear HB;have HB:=n0_;have BK798:=n1_;have GW798:=n2_;have GE798:=n3_;clear n0_ n1_ n2_ n3_;clear hb hbox hg)|((with_reducible refine gate_dst (N:=3) rfl ?_);refine box_event ?hg (N:=3) ?hd (cs:=#[.int .i64 a1_0,.int .i64 a1_1,.int .i64 a1_2,.string a1_3]) (t:=36) ?hr ?_;(case hd => rfl);(case hg => rfl);(case hr => first|(go_simp;done)|(go_simp;rfl));intro gb799 hg w8 hbox hb;have n0_:=Aside0.mk (blk_below BK798.out hb);have n1_:=Aside0.mk (below_step (by exact HB.out) hb);have n2_:=Aside0.mk (hbox);have n3_:=Aside0.mk ((by rw [hg];exact (below_size (by exact HB.out)) : w.heap.size ≤ gb799));have n4_:=Aside0.mk ((by rw [hg];exact (below_size (by exact HB.out)) : w.heap.size ≤ gb799));have n5_:=Aside0.mk ((by rw [hg];exact Nat.ne_of_lt (blk_lt BK798.out) : gb798 ≠ gb799));have n6_:=Aside0.mk ((by rw [hg];exact Nat.ne_of_gt (blk_lt BK798.out) : gb799 ≠ gb798));clear BK798;clear HB;have BK798:=n0_;have HB:=n1_;have BK799:=n2_;have GW799:=n3_;have GE799:=n4_;have NB798_799:=n5_;have NB799_798:=n6_;clear n0_ n1_ n2_ n3_ n4_ n5_ n6_;clear hb hbox hg;have hnb9:=NB798_799.out;have hnc9:=NB799_798.out;have hcz10_0 : w8.cell? ⟨gb798,0,none⟩ = some (.int .i64 a0_0):=(blk_cell BK798.out 0).trans rfl;have hcz10_1 : w8.cell? ⟨gb798,1,none⟩ = some (.int .i64 a0_1):=(blk_cell BK798.out 1).trans rfl;have hcz10_2 : w8.cell? ⟨gb798,2,none⟩ = some (.int .i64 a0_2):=(blk_cell BK798.out 2).trans rfl;have hcz10_3 : w8.cell? ⟨gb798,3,none⟩ = some (.string a0_3):=(blk_cell BK798.out 3).trans rfl;have hfz10_0:=blk_frozen BK798.out 0;have hfz10_1:=blk_frozen BK798.out 1;have hfz10_2:=blk_frozen BK798.out 2;have hfz10_3:=blk_frozen BK798.out 3;have hcz11_0 : w8.cell? ⟨gb799,0,none⟩ = some (.int .i64 a1_0):=(blk_cell BK799.out 0).trans rfl;have hcz11_1 : w8.cell? ⟨gb799,1,none⟩ = some (.int .i64 a1_1):=(blk_cell BK799.out 1).trans rfl;have hcz11_2 : w8.cell? ⟨gb799,2,none⟩ = some (.int .i64 a1_2):=(blk_cell BK799.out 2).trans rfl;have hcz11_3 : w8.cell? ⟨gb799,3,none⟩ = some (.string a1_3):=(blk_cell BK799.out 3).trans rfl;have hfz11_0:=blk_frozen BK799.out 0;have hfz11_1:=blk_frozen BK799.out 1;have hfz11_2:=blk_frozen BK799.out 2;have hfz11_3:=blk_frozen BK799.out 3))
     go_ret
     exact ⟨by first|rfl|(simp [errW_none,errW_some] <;> rfl)|(simp [*,errW_none,errW_some] <;> rfl),by repeat (first|(with_reducible first|exact HB.out|apply below_alloc|apply pw_below_drewN|apply below_drew1|refine below_set ?_ GE798.out|refine below_set ?_ GE799.out)|exact HB.out)⟩
    ·
     rw [if_neg c6] at H
     have c6b0 : (a0_3.toList == a1_3.toList) = false:=beq_eq_false_iff_ne.mpr c6
     have c6b1 : (a0_3.toList != a1_3.toList) = true:=bne_iff_ne.mpr c6
     obtain rfl:=Option.some.inj H
     go_enter Try.func96,Try.ntmps96
     go_wp2_with (first|((with_reducible refine gate_dst (N:=2) rfl ?_);refine box_event ?hg (N:=2) ?hd (cs:=#[.int .i64 a0_0,.int .i64 a0_1,.int .i64 a0_2,.string a0_3]) (t:=36) ?hr ?_;(case hd => rfl);(case hg => rfl);(case hr => first|(go_simp;done)|(go_simp;rfl));intro gb798 hg w12 hbox hb;have n0_:=Aside0.mk (below_step (by exact HB.out) hb);have n1_:=Aside0.mk (hbox);have n2_:=Aside0.mk ((by rw [hg];exact (below_size (by exact HB.out)) : w.heap.size ≤ gb798));have n3_:=Aside0.mk ((by rw [hg];exact (below_size (by exact HB.out)) : w.heap.size ≤ gb798));clear HB;have HB:=n0_;have BK798:=n1_;have GW798:=n2_;have GE798:=n3_;clear n0_ n1_ n2_ n3_;clear hb hbox hg)|((with_reducible refine gate_dst (N:=3) rfl ?_);refine box_event ?hg (N:=3) ?hd (cs:=#[.int .i64 a1_0,.int .i64 a1_1,.int .i64 a1_2,.string a1_3]) (t:=36) ?hr ?_;(case hd => rfl);(case hg => rfl);(case hr => first|(go_simp;done)|(go_simp;rfl));intro gb799 hg w13 hbox hb;have n0_:=Aside0.mk (blk_below BK798.out hb);have n1_:=Aside0.mk (below_step (by exact HB.out) hb);have n2_:=Aside0.mk (hbox);have n3_:=Aside0.mk ((by rw [hg];exact (below_size (by exact HB.out)) : w.heap.size ≤ gb799));have n4_:=Aside0.mk ((by rw [hg];exact (below_size (by exact HB.out)) : w.heap.size ≤ gb799));have n5_:=Aside0.mk ((by rw [hg];exact Nat.ne_of_lt (blk_lt BK798.out) : gb798 ≠ gb799));have n6_:=Aside0.mk ((by rw [hg];exact Nat.ne_of_gt (blk_lt BK798.out) : gb799 ≠ gb798));clear BK798;clear HB;have BK798:=n0_;have HB:=n1_;have BK799:=n2_;have GW799:=n3_;have GE799:=n4_;have NB798_799:=n5_;have NB799_798:=n6_;clear n0_ n1_ n2_ n3_ n4_ n5_ n6_;clear hb hbox hg;have hnb14:=NB798_799.out;have hnc14:=NB799_798.out;have hcz15_0 : w13.cell? ⟨gb798,0,none⟩ = some (.int .i64 a0_0):=(blk_cell BK798.out 0).trans rfl;have hcz15_1 : w13.cell? ⟨gb798,1,none⟩ = some (.int .i64 a0_1):=(blk_cell BK798.out 1).trans rfl;have hcz15_2 : w13.cell? ⟨gb798,2,none⟩ = some (.int .i64 a0_2):=(blk_cell BK798.out 2).trans rfl;have hcz15_3 : w13.cell? ⟨gb798,3,none⟩ = some (.string a0_3):=(blk_cell BK798.out 3).trans rfl;have hfz15_0:=blk_frozen BK798.out 0;have hfz15_1:=blk_frozen BK798.out 1;have hfz15_2:=blk_frozen BK798.out 2;have hfz15_3:=blk_frozen BK798.out 3;have hcz16_0 : w13.cell? ⟨gb799,0,none⟩ = some (.int .i64 a1_0):=(blk_cell BK799.out 0).trans rfl;have hcz16_1 : w13.cell? ⟨gb799,1,none⟩ = some (.int .i64 a1_1):=(blk_cell BK799.out 1).trans rfl;have hcz16_2 : w13.cell? ⟨gb799,2,none⟩ = some (.int .i64 a1_2):=(blk_cell BK799.out 2).trans rfl;have hcz16_3 : w13.cell? ⟨gb799,3,none⟩ = some (.string a1_3):=(blk_cell BK799.out 3).trans rfl;have hfz16_0:=blk_frozen BK799.out 0;have hfz16_1:=blk_frozen BK799.out 1;have hfz16_2:=blk_frozen BK799.out 2;have hfz16_3:=blk_frozen BK799.out 3))
     go_ret
     exact ⟨by first|rfl|(simp [errW_none,errW_some] <;> rfl)|(simp [*,errW_none,errW_some] <;> rfl),by repeat (first|(with_reducible first|exact HB.out|apply below_alloc|apply pw_below_drewN|apply below_drew1|refine below_set ?_ GE798.out|refine below_set ?_ GE799.out)|exact HB.out)⟩
   ·
    rw [if_neg c5] at H
    have c5b0 : (a0_2 == a1_2) = false:=beq_eq_false_iff_ne.mpr c5
    have c5b1 : (a0_2 != a1_2) = true:=bne_iff_ne.mpr c5
    obtain rfl:=Option.some.inj H
    go_enter Try.func96,Try.ntmps96
    go_wp2_with (first|((with_reducible refine gate_dst (N:=2) rfl ?_);refine box_event ?hg (N:=2) ?hd (cs:=#[.int .i64 a0_0,.int .i64 a0_1,.int .i64 a0_2,.string a0_3]) (t:=36) ?hr ?_;(case hd => rfl);(case hg => rfl);(case hr => first|(go_simp;done)|(go_simp;rfl));intro gb798 hg w17 hbox hb;have n0_:=Aside0.mk (below_step (by exact HB.out) hb);have n1_:=Aside0.mk (hbox);have n2_:=Aside0.mk ((by rw [hg];exact (below_size (by exact HB.out)) : w.heap.size ≤ gb798));have n3_:=Aside0.mk ((by rw [hg];exact (below_size (by exact HB.out)) : w.heap.size ≤ gb798));clear HB;have HB:=n0_;have BK798:=n1_;have GW798:=n2_;have GE798:=n3_;clear n0_ n1_ n2_ n3_;clear hb hbox hg)|((with_reducible refine gate_dst (N:=3) rfl ?_);refine box_event ?hg (N:=3) ?hd (cs:=#[.int .i64 a1_0,.int .i64 a1_1,.int .i64 a1_2,.string a1_3]) (t:=36) ?hr ?_;(case hd => rfl);(case hg => rfl);(case hr => first|(go_simp;done)|(go_simp;rfl));intro gb799 hg w18 hbox hb;have n0_:=Aside0.mk (blk_below BK798.out hb);have n1_:=Aside0.mk (below_step (by exact HB.out) hb);have n2_:=Aside0.mk (hbox);have n3_:=Aside0.mk ((by rw [hg];exact (below_size (by exact HB.out)) : w.heap.size ≤ gb799));have n4_:=Aside0.mk ((by rw [hg];exact (below_size (by exact HB.out)) : w.heap.size ≤ gb799));have n5_:=Aside0.mk ((by rw [hg];exact Nat.ne_of_lt (blk_lt BK798.out) : gb798 ≠ gb799));have n6_:=Aside0.mk ((by rw [hg];exact Nat.ne_of_gt (blk_lt BK798.out) : gb799 ≠ gb798));clear BK798;clear HB;have BK798:=n0_;have HB:=n1_;have BK799:=n2_;have GW799:=n3_;have GE799:=n4_;have NB798_799:=n5_;have NB799_798:=n6_;clear n0_ n1_ n2_ n3_ n4_ n5_ n6_;clear hb hbox hg;have hnb19:=NB798_799.out;have hnc19:=NB799_798.out;have hcz20_0 : w18.cell? ⟨gb798,0,none⟩ = some (.int .i64 a0_0):=(blk_cell BK798.out 0).trans rfl;have hcz20_1 : w18.cell? ⟨gb798,1,none⟩ = some (.int .i64 a0_1):=(blk_cell BK798.out 1).trans rfl;have hcz20_2 : w18.cell? ⟨gb798,2,none⟩ = some (.int .i64 a0_2):=(blk_cell BK798.out 2).trans rfl;have hcz20_3 : w18.cell? ⟨gb798,3,none⟩ = some (.string a0_3):=(blk_cell BK798.out 3).trans rfl;have hfz20_0:=blk_frozen BK798.out 0;have hfz20_1:=blk_frozen BK798.out 1;have hfz20_2:=blk_frozen BK798.out 2;have hfz20_3:=blk_frozen BK798.out 3;have hcz21_0 : w18.cell? ⟨gb799,0,none⟩ = some (.int .i64 a1_0):=(blk_cell BK799.out 0).trans rfl;have hcz21_1 : w18.cell? ⟨gb799,1,none⟩ = some (.int .i64 a1_1):=(blk_cell BK799.out 1).trans rfl;have hcz21_2 : w18.cell? ⟨gb799,2,none⟩ = some (.int .i64 a1_2):=(blk_cell BK799.out 2).trans rfl;have hcz21_3 : w18.cell? ⟨gb799,3,none⟩ = some (.string a1_3):=(blk_cell BK799.out 3).trans rfl;have hfz21_0:=blk_frozen BK799.out 0;have hfz21_1:=blk_frozen BK799.out 1;have hfz21_2:=blk_frozen BK799.out 2;have hfz21_3:=blk_frozen BK799.out 3))
    go_ret
    exact ⟨by first|rfl|(simp [errW_none,errW_some] <;> rfl)|(simp [*,errW_none,errW_some] <;> rfl),by repeat (first|(with_reducible first|exact HB.out|apply below_alloc|apply pw_below_drewN|apply below_drew1|refine below_set ?_ GE798.out|refine below_set ?_ GE799.out)|exact HB.out)⟩
  ·
   rw [if_neg c4] at H
   have c4b0 : (a0_1 == a1_1) = false:=beq_eq_false_iff_ne.mpr c4
   have c4b1 : (a0_1 != a1_1) = true:=bne_iff_ne.mpr c4
   obtain rfl:=Option.some.inj H
   go_enter Try.func96,Try.ntmps96
   go_wp2_with (first|((with_reducible refine gate_dst (N:=2) rfl ?_);refine box_event ?hg (N:=2) ?hd (cs:=#[.int .i64 a0_0,.int .i64 a0_1,.int .i64 a0_2,.string a0_3]) (t:=36) ?hr ?_;(case hd => rfl);(case hg => rfl);(case hr => first|(go_simp;done)|(go_simp;rfl));intro gb798 hg w22 hbox hb;have n0_:=Aside0.mk (below_step (by exact HB.out) hb);have n1_:=Aside0.mk (hbox);have n2_:=Aside0.mk ((by rw [hg];exact (below_size (by exact HB.out)) : w.heap.size ≤ gb798));have n3_:=Aside0.mk ((by rw [hg];exact (below_size (by exact HB.out)) : w.heap.size ≤ gb798));clear HB;have HB:=n0_;have BK798:=n1_;have GW798:=n2_;have GE798:=n3_;clear n0_ n1_ n2_ n3_;clear hb hbox hg)|((with_reducible refine gate_dst (N:=3) rfl ?_);refine box_event ?hg (N:=3) ?hd (cs:=#[.int .i64 a1_0,.int .i64 a1_1,.int .i64 a1_2,.string a1_3]) (t:=36) ?hr ?_;(case hd => rfl);(case hg => rfl);(case hr => first|(go_simp;done)|(go_simp;rfl));intro gb799 hg w23 hbox hb;have n0_:=Aside0.mk (blk_below BK798.out hb);have n1_:=Aside0.mk (below_step (by exact HB.out) hb);have n2_:=Aside0.mk (hbox);have n3_:=Aside0.mk ((by rw [hg];exact (below_size (by exact HB.out)) : w.heap.size ≤ gb799));have n4_:=Aside0.mk ((by rw [hg];exact (below_size (by exact HB.out)) : w.heap.size ≤ gb799));have n5_:=Aside0.mk ((by rw [hg];exact Nat.ne_of_lt (blk_lt BK798.out) : gb798 ≠ gb799));have n6_:=Aside0.mk ((by rw [hg];exact Nat.ne_of_gt (blk_lt BK798.out) : gb799 ≠ gb798));clear BK798;clear HB;have BK798:=n0_;have HB:=n1_;have BK799:=n2_;have GW799:=n3_;have GE799:=n4_;have NB798_799:=n5_;have NB799_798:=n6_;clear n0_ n1_ n2_ n3_ n4_ n5_ n6_;clear hb hbox hg;have hnb24:=NB798_799.out;have hnc24:=NB799_798.out;have hcz25_0 : w23.cell? ⟨gb798,0,none⟩ = some (.int .i64 a0_0):=(blk_cell BK798.out 0).trans rfl;have hcz25_1 : w23.cell? ⟨gb798,1,none⟩ = some (.int .i64 a0_1):=(blk_cell BK798.out 1).trans rfl;have hcz25_2 : w23.cell? ⟨gb798,2,none⟩ = some (.int .i64 a0_2):=(blk_cell BK798.out 2).trans rfl;have hcz25_3 : w23.cell? ⟨gb798,3,none⟩ = some (.string a0_3):=(blk_cell BK798.out 3).trans rfl;have hfz25_0:=blk_frozen BK798.out 0;have hfz25_1:=blk_frozen BK798.out 1;have hfz25_2:=blk_frozen BK798.out 2;have hfz25_3:=blk_frozen BK798.out 3;have hcz26_0 : w23.cell? ⟨gb799,0,none⟩ = some (.int .i64 a1_0):=(blk_cell BK799.out 0).trans rfl;have hcz26_1 : w23.cell? ⟨gb799,1,none⟩ = some (.int .i64 a1_1):=(blk_cell BK799.out 1).trans rfl;have hcz26_2 : w23.cell? ⟨gb799,2,none⟩ = some (.int .i64 a1_2):=(blk_cell BK799.out 2).trans rfl;have hcz26_3 : w23.cell? ⟨gb799,3,none⟩ = some (.string a1_3):=(blk_cell BK799.out 3).trans rfl;have hfz26_0:=blk_frozen BK799.out 0;have hfz26_1:=blk_frozen BK799.out 1;have hfz26_2:=blk_frozen BK799.out 2;have hfz26_3:=blk_frozen BK799.out 3))
   go_ret
   exact ⟨by first|rfl|(simp [errW_none,errW_some] <;> rfl)|(simp [*,errW_none,errW_some] <;> rfl),by repeat (first|(with_reducible first|exact HB.out|apply below_alloc|apply pw_below_drewN|apply below_drew1|refine below_set ?_ GE798.out|refine below_set ?_ GE799.out)|exact HB.out)⟩
 ·
  rw [if_neg c3] at H
  have c3b0 : (a0_0 == a1_0) = false:=beq_eq_false_iff_ne.mpr c3
  have c3b1 : (a0_0 != a1_0) = true:=bne_iff_ne.mpr c3
  obtain rfl:=Option.some.inj H
  go_enter Try.func96,Try.ntmps96
  go_wp2_with (first|((with_reducible refine gate_dst (N:=2) rfl ?_);refine box_event ?hg (N:=2) ?hd (cs:=#[.int .i64 a0_0,.int .i64 a0_1,.int .i64 a0_2,.string a0_3]) (t:=36) ?hr ?_;(case hd => rfl);(case hg => rfl);(case hr => first|(go_simp;done)|(go_simp;rfl));intro gb798 hg w27 hbox hb;have n0_:=Aside0.mk (below_step (by exact HB.out) hb);have n1_:=Aside0.mk (hbox);have n2_:=Aside0.mk ((by rw [hg];exact (below_size (by exact HB.out)) : w.heap.size ≤ gb798));have n3_:=Aside0.mk ((by rw [hg];exact (below_size (by exact HB.out)) : w.heap.size ≤ gb798));clear HB;have HB:=n0_;have BK798:=n1_;have GW798:=n2_;have GE798:=n3_;clear n0_ n1_ n2_ n3_;clear hb hbox hg)|((with_reducible refine gate_dst (N:=3) rfl ?_);refine box_event ?hg (N:=3) ?hd (cs:=#[.int .i64 a1_0,.int .i64 a1_1,.int .i64 a1_2,.string a1_3]) (t:=36) ?hr ?_;(case hd => rfl);(case hg => rfl);(case hr => first|(go_simp;done)|(go_simp;rfl));intro gb799 hg w28 hbox hb;have n0_:=Aside0.mk (blk_below BK798.out hb);have n1_:=Aside0.mk (below_step (by exact HB.out) hb);have n2_:=Aside0.mk (hbox);have n3_:=Aside0.mk ((by rw [hg];exact (below_size (by exact HB.out)) : w.heap.size ≤ gb799));have n4_:=Aside0.mk ((by rw [hg];exact (below_size (by exact HB.out)) : w.heap.size ≤ gb799));have n5_:=Aside0.mk ((by rw [hg];exact Nat.ne_of_lt (blk_lt BK798.out) : gb798 ≠ gb799));have n6_:=Aside0.mk ((by rw [hg];exact Nat.ne_of_gt (blk_lt BK798.out) : gb799 ≠ gb798));clear BK798;clear HB;have BK798:=n0_;have HB:=n1_;have BK799:=n2_;have GW799:=n3_;have GE799:=n4_;have NB798_799:=n5_;have NB799_798:=n6_;clear n0_ n1_ n2_ n3_ n4_ n5_ n6_;clear hb hbox hg;have hnb29:=NB798_799.out;have hnc29:=NB799_798.out;have hcz30_0 : w28.cell? ⟨gb798,0,none⟩ = some (.int .i64 a0_0):=(blk_cell BK798.out 0).trans rfl;have hcz30_1 : w28.cell? ⟨gb798,1,none⟩ = some (.int .i64 a0_1):=(blk_cell BK798.out 1).trans rfl;have hcz30_2 : w28.cell? ⟨gb798,2,none⟩ = some (.int .i64 a0_2):=(blk_cell BK798.out 2).trans rfl;have hcz30_3 : w28.cell? ⟨gb798,3,none⟩ = some (.string a0_3):=(blk_cell BK798.out 3).trans rfl;have hfz30_0:=blk_frozen BK798.out 0;have hfz30_1:=blk_frozen BK798.out 1;have hfz30_2:=blk_frozen BK798.out 2;have hfz30_3:=blk_frozen BK798.out 3;have hcz31_0 : w28.cell? ⟨gb799,0,none⟩ = some (.int .i64 a1_0):=(blk_cell BK799.out 0).trans rfl;have hcz31_1 : w28.cell? ⟨gb799,1,none⟩ = some (.int .i64 a1_1):=(blk_cell BK799.out 1).trans rfl;have hcz31_2 : w28.cell? ⟨gb799,2,none⟩ = some (.int .i64 a1_2):=(blk_cell BK799.out 2).trans rfl;have hcz31_3 : w28.cell? ⟨gb799,3,none⟩ = some (.string a1_3):=(blk_cell BK799.out 3).trans rfl;have hfz31_0:=blk_frozen BK799.out 0;have hfz31_1:=blk_frozen BK799.out 1;have hfz31_2:=blk_frozen BK799.out 2;have hfz31_3:=blk_frozen BK799.out 3))
  go_ret
  exact ⟨by first|rfl|(simp [errW_none,errW_some] <;> rfl)|(simp [*,errW_none,errW_some] <;> rfl),by repeat (first|(with_reducible first|exact HB.out|apply below_alloc|apply pw_below_drewN|apply below_drew1|refine below_set ?_ GE798.out|refine below_set ?_ GE799.out)|exact HB.out)⟩
def laws_eqWriteS.l0 : Nat → List (S36) → List (S36) → Int → Option (Bool)
  | 0,_,_,_ => none
  | k + 1,x0,x1,x5 => if x5 < (x0.length : Int) then (if 0 ≤ x5 then (if x5 < (x1.length : Int) then ((laws_eqWrite.f ((rd_T36 x0 x5).f0) ((rd_T36 x0 x5).f1) ((rd_T36 x0 x5).f2) ((rd_T36 x0 x5).f3) ((rd_T36 x1 x5).f0) ((rd_T36 x1 x5).f1) ((rd_T36 x1 x5).f2) ((rd_T36 x1 x5).f3)).bind fun t802 => (if t802 = true then (laws_eqWriteS.l0 k x0 x1 (wrap64 (x5 + 1))) else (some false))) else (none)) else (none)) else (some true)
def laws_eqWriteS.f (k : Nat) (l0 : List (S36)) (l1 : List (S36)) : Option (Bool):=if (l0.length : Int) = (l1.length : Int) then (laws_eqWriteS.l0 k l0 l1 0) else (some false)
set_option maxHeartbeats 8000000 in
set_option maxRecDepth 100000 in
theorem laws_eqWriteS.calls (k : Nat) (A0 : Option Addr) (c0 : Nat) (l0 : List (S36)) (A1 : Option Addr) (c1 : Nat) (l1 : List (S36)) (r : Bool) (w : World) (hr0 : Kd.C k36 w A0 l0.length l0) (hc0 : l0.length ≤ c0) (hr1 : Kd.C k36 w A1 l1.length l1) (hc1 : l1.length ≤ c1) (h : laws_eqWriteS.f k l0 l1 = some r) :
  Calls Try.prog 63 #[.slice A0 l0.length c0,.slice A1 l1.length c1] w fun e w' => e = .returned (.bool r) ∧ Below w.heap.size w w':=by
 have hu36:=Try.underlying36
 have HR0:=Aside0.mk hr0
 have HC0:=Aside0.mk hc0
 clear hr0 hc0
 have HR1:=Aside0.mk hr1
 have HC1:=Aside0.mk hc1
 clear hr1 hc1
 have HB:=Aside0.mk (Below.refl w.heap.size w)
 have H : (if (l0.length : Int) = (l1.length : Int) then (laws_eqWriteS.l0 k l0 l1 0) else (some false)) = some r:=h
 clear h
 by_cases c3 : (l0.length : Int) = (l1.length : Int)
 ·
  rw [if_pos c3] at H
  have c3b0 : ((l0.length : Int) == (l1.length : Int)) = true:=beq_iff_eq.mpr c3
  have c3b1 : ((l0.length : Int) != (l1.length : Int)) = false:=bne_eq_false_iff_eq.mpr c3
  have c3b2 : (l0.length == l1.length) = true:=by first|simpa using c3|(simp at c3 ⊢;omega)
  clear c3
  have H':=Aside0.mk H
  clear H
  go_enter Try.func63,Try.ntmps63
  go_wp2
  go_loopg [5] k (fun kq v5 w' => ∃ (x5_1 : Int),v5 = .int .i64 x5_1 ∧ Aside0 (laws_eqWriteS.l0 kq l0 l1 x5_1 = some r) ∧ Aside0 (kq ≤ k) ∧ Aside0 (Below w.heap.size w w'))
  case atStart => exact ⟨(0),(by first|rfl|(simp;done)|(simp [*];done)),H',⟨Nat.le_refl _⟩,⟨by repeat (first|(with_reducible first|exact HB.out|apply below_alloc|apply pw_below_drewN|apply below_drew1)|exact HB.out)⟩⟩
  case round =>
   clear H'
   try clear c1
   try clear p2
   try clear c3
   try clear c3b0
   try clear c3b1
   try clear c3b2
   obtain ⟨x5_1,rfl,HA,HK1,HB⟩:=hrel
   cases gk with
   | zero => exact absurd HA.out (by simp [laws_eqWriteS.l0])
   | succ k1 =>
    have H:=HA.out
    clear HA
    simp only [laws_eqWriteS.l0] at H
    by_cases c4 : x5_1 < (l0.length : Int)
    ·
     rw [if_pos c4] at H
     have c4b0 : decide (x5_1 < (l0.length : Int)) = true:=decide_eq_true c4
     clear c4
     by_cases c5 : 0 ≤ x5_1
     ·
      rw [if_pos c5] at H
      have c5b0 : decide (0 ≤ x5_1) = true:=decide_eq_true c5
      clear c5
      by_cases c6 : x5_1 < (l1.length : Int)
      ·
       rw [if_pos c6] at H
       have c6b0 : decide (x5_1 < (l1.length : Int)) = true:=decide_eq_true c6
       clear c6
       replace H:=Option.bind_eq_some_iff.mp H
       obtain ⟨t802,A70,H⟩:=H
       replace H : (if t802 = true then (laws_eqWriteS.l0 k1 l0 l1 (wrap64 (x5_1 + 1))) else (some false)) = some r:=H
       have A7:=Aside0.mk A70
       clear A70
       by_cases c8 : t802 = true
       ·
        subst c8
        have H1 : (laws_eqWriteS.l0 k1 l0 l1 (wrap64 (x5_1 + 1))) = some r:=by rw [if_pos rfl] at H;exact H
        clear H
        have H:=H1
        clear H1
        have H':=Aside0.mk H
        clear H
        try go_wp2
        have n0_:=Aside0.mk (below_drew1 HB.out)
        clear HB
        have HB:=n0_
        clear n0_
        have p800 : 0 ≤ (x5_1 : Int):=of_decide_eq_true (by first|(with_reducible assumption)|assumption)
        have q800 : x5_1 < (l0.length : Int):=of_decide_eq_true (by first|(with_reducible assumption)|assumption)
        obtain ⟨ad800,e800,hx800_0,hx800_1,hx800_2,hx800_3⟩:=at_T36 HR0.out x5_1 p800 q800
        have hw800_3:=hx800_3
        have hw800_2:=hx800_2
        have hw800_1:=hx800_1
        have hw800_0:=hx800_0
        cases e800
        replace hx800_0:=(HB.out.cell (World.block_lt_of_cell? w _ hx800_0)).trans hx800_0
        replace hx800_1:=(HB.out.cell (World.block_lt_of_cell? w _ hx800_1)).trans hx800_1
        replace hx800_2:=(HB.out.cell (World.block_lt_of_cell? w _ hx800_2)).trans hx800_2
        replace hx800_3:=(HB.out.cell (World.block_lt_of_cell? w _ hx800_3)).trans hx800_3
        replace p800:=eq_true p800
        replace q800:=eq_true q800
        have p801 : 0 ≤ (x5_1 : Int):=of_decide_eq_true (by first|(with_reducible assumption)|assumption)
        have q801 : x5_1 < (l1.length : Int):=of_decide_eq_true (by first|(with_reducible assumption)|assumption)
        obtain ⟨ad801,e801,hx801_0,hx801_1,hx801_2,hx801_3⟩:=at_T36 HR1.out x5_1 p801 q801
        have hw801_3:=hx801_3
        have hw801_2:=hx801_2
        have hw801_1:=hx801_1
        have hw801_0:=hx801_0
        cases e801
        replace hx801_0:=(HB.out.cell (World.block_lt_of_cell? w _ hx801_0)).trans hx801_0
        replace hx801_1:=(HB.out.cell (World.block_lt_of_cell? w _ hx801_1)).trans hx801_1
        replace hx801_2:=(HB.out.cell (World.block_lt_of_cell? w _ hx801_2)).trans hx801_2
        replace hx801_3:=(HB.out.cell (World.block_lt_of_cell? w _ hx801_3)).trans hx801_3
        replace p801:=eq_true p801
        replace q801:=eq_true q801
        refine start_ (n:=10) (S:=fun w' => w'.cell? (ad800.add ((x5_1).toNat * 4)) = some (.int .i64 ((rd_T36 l0 x5_1).f0)) ∧ w'.cell? ⟨(ad800.add ((x5_1).toNat * 4)).block,(ad800.add ((x5_1).toNat * 4)).off + 1,none⟩ = some (.int .i64 ((rd_T36 l0 x5_1).f1)) ∧ w'.cell? ⟨(ad800.add ((x5_1).toNat * 4)).block,(ad800.add ((x5_1).toNat * 4)).off + 2,none⟩ = some (.int .i64 ((rd_T36 l0 x5_1).f2)) ∧ w'.cell? ⟨(ad800.add ((x5_1).toNat * 4)).block,(ad800.add ((x5_1).toNat * 4)).off + 3,none⟩ = some (.string ((rd_T36 l0 x5_1).f3)) ∧ w'.cell? (ad801.add ((x5_1).toNat * 4)) = some (.int .i64 ((rd_T36 l1 x5_1).f0)) ∧ w'.cell? ⟨(ad801.add ((x5_1).toNat * 4)).block,(ad801.add ((x5_1).toNat * 4)).off + 1,none⟩ = some (.int .i64 ((rd_T36 l1 x5_1).f1)) ∧ w'.cell? ⟨(ad801.add ((x5_1).toNat * 4)).block,(ad801.add ((x5_1).toNat * 4)).off + 2,none⟩ = some (.int .i64 ((rd_T36 l1 x5_1).f2)) ∧ w'.cell? ⟨(ad801.add ((x5_1).toNat * 4)).block,(ad801.add ((x5_1).toNat * 4)).off + 3,none⟩ = some (.string ((rd_T36 l1 x5_1).f3))) (ds:=[]) #[F,F,F,F,F,F,F,F,F,F] (by kernel_rfl) rfl rfl ⟨((HB.out.cell (World.block_lt_of_cell? w _ hw800_0)).trans hw800_0),((HB.out.cell (World.block_lt_of_cell? w _ hw800_1)).trans hw800_1),((HB.out.cell (World.block_lt_of_cell? w _ hw800_2)).trans hw800_2),((HB.out.cell (World.block_lt_of_cell? w _ hw800_3)).trans hw800_3),((HB.out.cell (World.block_lt_of_cell? w _ hw801_0)).trans hw801_0),((HB.out.cell (World.block_lt_of_cell? w _ hw801_1)).trans hw801_1),((HB.out.cell (World.block_lt_of_cell? w _ hw801_2)).trans hw801_2),((HB.out.cell (World.block_lt_of_cell? w _ hw801_3)).trans hw801_3)⟩ (fun hHeld => ?_)
        generalize wr.drew = w9 at HB hx800_0 hx800_1 hx800_2 hx800_3 hx801_0 hx801_1 hx801_2 hx801_3 hHeld ⊢
        refine pure_ (i:=0) (N:=some 17) (v:=?_) (a':=?_) #[T,F,F,F,F,F,F,F,F,F] rfl rfl (by kernel_rfl) (fun _ _ _ h => h) (Or.inl ⟨by rfl,?_⟩) ?_ ?_
        rotate_left
        ·
         intro w'
         go_simp
         with_reducible rfl
        rotate_left
        ·
         simp only [Act.put,List.setIfInBounds_toArray,List.set_cons_zero,List.set_cons_succ,i64_w,i32_w]
         rfl
        refine pure_ (i:=1) (N:=some 18) (v:=?_) (a':=?_) #[T,T,F,F,F,F,F,F,F,F] rfl rfl (by kernel_rfl) (fun _ _ _ h => h) (Or.inl ⟨by rfl,?_⟩) ?_ ?_
        rotate_left
        ·
         intro w'
         go_simp
         with_reducible rfl
        rotate_left
        ·
         simp only [Act.put,List.setIfInBounds_toArray,List.set_cons_zero,List.set_cons_succ,i64_w,i32_w]
         rfl
        refine pure_ (i:=2) (N:=some 19) (v:=?_) (a':=?_) #[T,T,T,F,F,F,F,F,F,F] rfl rfl (by kernel_rfl) (fun _ _ _ h => h) (Or.inl ⟨by rfl,?_⟩) ?_ ?_
        rotate_left
        ·
         intro w'
         go_simp
         with_reducible rfl
        rotate_left
        ·
         simp only [Act.put,List.setIfInBounds_toArray,List.set_cons_zero,List.set_cons_succ,i64_w,i32_w]
         rfl
        refine pure_ (i:=4) (N:=some 21) (v:=?_) (a':=?_) #[T,T,T,F,T,F,F,F,F,F] rfl rfl (by kernel_rfl) (fun _ _ _ h => h) (Or.inl ⟨by rfl,?_⟩) ?_ ?_
        rotate_left
        ·
         intro w'
         go_simp
         with_reducible rfl
        rotate_left
        ·
         simp only [Act.put,List.setIfInBounds_toArray,List.set_cons_zero,List.set_cons_succ,i64_w,i32_w]
         rfl
        refine pure_ (i:=5) (N:=some 22) (v:=?_) (a':=?_) #[T,T,T,F,T,T,F,F,F,F] rfl rfl (by kernel_rfl) (fun _ _ _ h => h) (Or.inl ⟨by rfl,?_⟩) ?_ ?_
        rotate_left
        ·
         intro w'
         go_simp
         with_reducible rfl
        rotate_left
        ·
         simp only [Act.put,List.setIfInBounds_toArray,List.set_cons_zero,List.set_cons_succ,i64_w,i32_w]
         rfl
        refine pure_ (i:=6) (N:=some 23) (v:=?_) (a':=?_) #[T,T,T,F,T,T,T,F,F,F] rfl rfl (by kernel_rfl) (fun _ _ _ h => h) (Or.inl ⟨by rfl,?_⟩) ?_ ?_
        rotate_left
        ·
         intro w'
         go_simp
         with_reducible rfl
        rotate_left
        ·
         simp only [Act.put,List.setIfInBounds_toArray,List.set_cons_zero,List.set_cons_succ,i64_w,i32_w]
         rfl
        refine take_ (i:=3) (N:=some 20) (v:=?_) (a':=?_) #[T,T,T,T,T,T,T,F,F,F] rfl rfl (by kernel_rfl) (fun _ _ _ h => h) (Or.inl ⟨by rfl,?_⟩) hHeld ?_ ?_
        rotate_left
        ·
         rintro w' ⟨s0,s1,s2,s3,s4,s5,s6,s7⟩
         go_simp
         with_reducible rfl
        rotate_left
        ·
         simp only [Act.put,List.setIfInBounds_toArray,List.set_cons_zero,List.set_cons_succ,i64_w,i32_w]
         rfl
        refine take_ (i:=7) (N:=some 24) (v:=?_) (a':=?_) #[T,T,T,T,T,T,T,T,F,F] rfl rfl (by kernel_rfl) (fun _ _ _ h => h) (Or.inl ⟨by rfl,?_⟩) hHeld ?_ ?_
        rotate_left
        ·
         rintro w' ⟨s0,s1,s2,s3,s4,s5,s6,s7⟩
         go_simp
         with_reducible rfl
        rotate_left
        ·
         simp only [Act.put,List.setIfInBounds_toArray,List.set_cons_zero,List.set_cons_succ,i64_w,i32_w]
         rfl
        refine one_ (i:=8) (N:=some 25) #[T,T,T,T,T,T,T,T,T,F] rfl rfl (by kernel_rfl) (by decide) (fun K hK => ?_)
        refine goes_ Try.func96 (by kernel_rfl) rfl #[.agg #[.int .i64 ((rd_T36 l0 x5_1).f0),.int .i64 ((rd_T36 l0 x5_1).f1),.int .i64 ((rd_T36 l0 x5_1).f2),.string ((rd_T36 l0 x5_1).f3)],.agg #[.int .i64 ((rd_T36 l1 x5_1).f0),.int .i64 ((rd_T36 l1 x5_1).f1),.int .i64 ((rd_T36 l1 x5_1).f2),.string ((rd_T36 l1 x5_1).f3)]] (by rfl) rfl rfl (by (try simp only [List.map_toArray,List.map_cons,List.map_nil]);first|done|rfl|(simp only [List.length_drop,List.length_take];rfl)) ?_
        with_reducible refine (laws_eqWrite.calls ((rd_T36 l0 x5_1).f0) ((rd_T36 l0 x5_1).f1) ((rd_T36 l0 x5_1).f2) ((rd_T36 l0 x5_1).f3) ((rd_T36 l1 x5_1).f0) ((rd_T36 l1 x5_1).f1) ((rd_T36 l1 x5_1).f2) ((rd_T36 l1 x5_1).f3) true _ A7.out).mono ?_
        rintro e w10 ⟨rfl,hb⟩
        refine ⟨_,rfl,?_⟩
        have n0_:=Aside0.mk (below_step (by repeat (first|(with_reducible first|exact HB.out|apply below_alloc|apply pw_below_drewN|apply below_drew1)|exact HB.out)) hb)
        clear HB
        have HB:=n0_
        clear n0_
        (try clear hb)
        (try clear hb2)
        (try clear hk)
        (try clear hi)
        refine hK.out _ _ ⟨((HB.out.cell (World.block_lt_of_cell? w _ hw800_0)).trans hw800_0),((HB.out.cell (World.block_lt_of_cell? w _ hw800_1)).trans hw800_1),((HB.out.cell (World.block_lt_of_cell? w _ hw800_2)).trans hw800_2),((HB.out.cell (World.block_lt_of_cell? w _ hw800_3)).trans hw800_3),((HB.out.cell (World.block_lt_of_cell? w _ hw801_0)).trans hw801_0),((HB.out.cell (World.block_lt_of_cell? w _ hw801_1)).trans hw801_1),((HB.out.cell (World.block_lt_of_cell? w _ hw801_2)).trans hw801_2),((HB.out.cell (World.block_lt_of_cell? w _ hw801_3)).trans hw801_3)⟩ (fun hHeld => ?_)
        clear hK K
        refine norm_ (a':=?_) ?_ ?_
        rotate_left
        ·
         show Act.put _ (some 25) _ = _
         simp only [Act.put,List.setIfInBounds_toArray,List.set_cons_zero,List.set_cons_succ,i64_w,i32_w]
         rfl
        refine pure_ (i:=9) (N:=some 26) (v:=?_) (a':=?_) #[T,T,T,T,T,T,T,T,T,T] rfl rfl (by kernel_rfl) (fun _ _ _ h => h) (Or.inl ⟨by rfl,?_⟩) ?_ ?_
        rotate_left
        ·
         intro w'
         go_simp
         with_reducible rfl
        rotate_left
        ·
         simp only [Act.put,List.setIfInBounds_toArray,List.set_cons_zero,List.set_cons_succ,i64_w,i32_w]
         rfl
        refine done_ (by kernel_rfl) ?_
        try go_wp2
        go_roundg k1
        case measure => have:=HK1.out;omega
        case rel => exact ⟨(wrap64 (x5_1 + 1)),(by first|rfl|(simp;done)|(simp [*];done)),H',⟨by have:=HK1.out;omega⟩,⟨by repeat (first|(with_reducible first|exact HB.out|apply below_alloc|apply pw_below_drewN|apply below_drew1)|exact HB.out)⟩⟩
       ·
        replace c8:=Bool.eq_false_iff.mpr c8
        subst c8
        have H1 : (some false) = some r:=by rw [if_neg (show ¬ (false = true) by decide)] at H;exact H
        clear H
        have H:=H1
        clear H1
        obtain rfl:=Option.some.inj H
        try go_wp2
        have n0_:=Aside0.mk (below_drew1 HB.out)
        clear HB
        have HB:=n0_
        clear n0_
        have p800 : 0 ≤ (x5_1 : Int):=of_decide_eq_true (by first|(with_reducible assumption)|assumption)
        have q800 : x5_1 < (l0.length : Int):=of_decide_eq_true (by first|(with_reducible assumption)|assumption)
        obtain ⟨ad800,e800,hx800_0,hx800_1,hx800_2,hx800_3⟩:=at_T36 HR0.out x5_1 p800 q800
        have hw800_3:=hx800_3
        have hw800_2:=hx800_2
        have hw800_1:=hx800_1
        have hw800_0:=hx800_0
        cases e800
        replace hx800_0:=(HB.out.cell (World.block_lt_of_cell? w _ hx800_0)).trans hx800_0
        replace hx800_1:=(HB.out.cell (World.block_lt_of_cell? w _ hx800_1)).trans hx800_1
        replace hx800_2:=(HB.out.cell (World.block_lt_of_cell? w _ hx800_2)).trans hx800_2
        replace hx800_3:=(HB.out.cell (World.block_lt_of_cell? w _ hx800_3)).trans hx800_3
        replace p800:=eq_true p800
        replace q800:=eq_true q800
        have p801 : 0 ≤ (x5_1 : Int):=of_decide_eq_true (by first|(with_reducible assumption)|assumption)
        have q801 : x5_1 < (l1.length : Int):=of_decide_eq_true (by first|(with_reducible assumption)|assumption)
        obtain ⟨ad801,e801,hx801_0,hx801_1,hx801_2,hx801_3⟩:=at_T36 HR1.out x5_1 p801 q801
        have hw801_3:=hx801_3
        have hw801_2:=hx801_2
        have hw801_1:=hx801_1
        have hw801_0:=hx801_0
        cases e801
        replace hx801_0:=(HB.out.cell (World.block_lt_of_cell? w _ hx801_0)).trans hx801_0
        replace hx801_1:=(HB.out.cell (World.block_lt_of_cell? w _ hx801_1)).trans hx801_1
        replace hx801_2:=(HB.out.cell (World.block_lt_of_cell? w _ hx801_2)).trans hx801_2
        replace hx801_3:=(HB.out.cell (World.block_lt_of_cell? w _ hx801_3)).trans hx801_3
        replace p801:=eq_true p801
        replace q801:=eq_true q801
        refine start_ (n:=10) (S:=fun w' => w'.cell? (ad800.add ((x5_1).toNat * 4)) = some (.int .i64 ((rd_T36 l0 x5_1).f0)) ∧ w'.cell? ⟨(ad800.add ((x5_1).toNat * 4)).block,(ad800.add ((x5_1).toNat * 4)).off + 1,none⟩ = some (.int .i64 ((rd_T36 l0 x5_1).f1)) ∧ w'.cell? ⟨(ad800.add ((x5_1).toNat * 4)).block,(ad800.add ((x5_1).toNat * 4)).off + 2,none⟩ = some (.int .i64 ((rd_T36 l0 x5_1).f2)) ∧ w'.cell? ⟨(ad800.add ((x5_1).toNat * 4)).block,(ad800.add ((x5_1).toNat * 4)).off + 3,none⟩ = some (.string ((rd_T36 l0 x5_1).f3)) ∧ w'.cell? (ad801.add ((x5_1).toNat * 4)) = some (.int .i64 ((rd_T36 l1 x5_1).f0)) ∧ w'.cell? ⟨(ad801.add ((x5_1).toNat * 4)).block,(ad801.add ((x5_1).toNat * 4)).off + 1,none⟩ = some (.int .i64 ((rd_T36 l1 x5_1).f1)) ∧ w'.cell? ⟨(ad801.add ((x5_1).toNat * 4)).block,(ad801.add ((x5_1).toNat * 4)).off + 2,none⟩ = some (.int .i64 ((rd_T36 l1 x5_1).f2)) ∧ w'.cell? ⟨(ad801.add ((x5_1).toNat * 4)).block,(ad801.add ((x5_1).toNat * 4)).off + 3,none⟩ = some (.string ((rd_T36 l1 x5_1).f3))) (ds:=[]) #[F,F,F,F,F,F,F,F,F,F] (by kernel_rfl) rfl rfl ⟨((HB.out.cell (World.block_lt_of_cell? w _ hw800_0)).trans hw800_0),((HB.out.cell (World.block_lt_of_cell? w _ hw800_1)).trans hw800_1),((HB.out.cell (World.block_lt_of_cell? w _ hw800_2)).trans hw800_2),((HB.out.cell (World.block_lt_of_cell? w _ hw800_3)).trans hw800_3),((HB.out.cell (World.block_lt_of_cell? w _ hw801_0)).trans hw801_0),((HB.out.cell (World.block_lt_of_cell? w _ hw801_1)).trans hw801_1),((HB.out.cell (World.block_lt_of_cell? w _ hw801_2)).trans hw801_2),((HB.out.cell (World.block_lt_of_cell? w _ hw801_3)).trans hw801_3)⟩ (fun hHeld => ?_)
        generalize wr.drew = w11 at HB hx800_0 hx800_1 hx800_2 hx800_3 hx801_0 hx801_1 hx801_2 hx801_3 hHeld ⊢
        refine pure_ (i:=0) (N:=some 17) (v:=?_) (a':=?_) #[T,F,F,F,F,F,F,F,F,F] rfl rfl (by kernel_rfl) (fun _ _ _ h => h) (Or.inl ⟨by rfl,?_⟩) ?_ ?_
        rotate_left
        ·
         intro w'
         go_simp
         with_reducible rfl
        rotate_left
        ·
         simp only [Act.put,List.setIfInBounds_toArray,List.set_cons_zero,List.set_cons_succ,i64_w,i32_w]
         rfl
        refine pure_ (i:=1) (N:=some 18) (v:=?_) (a':=?_) #[T,T,F,F,F,F,F,F,F,F] rfl rfl (by kernel_rfl) (fun _ _ _ h => h) (Or.inl ⟨by rfl,?_⟩) ?_ ?_
        rotate_left
        ·
         intro w'
         go_simp
         with_reducible rfl
        rotate_left
        ·
         simp only [Act.put,List.setIfInBounds_toArray,List.set_cons_zero,List.set_cons_succ,i64_w,i32_w]
         rfl
        refine pure_ (i:=2) (N:=some 19) (v:=?_) (a':=?_) #[T,T,T,F,F,F,F,F,F,F] rfl rfl (by kernel_rfl) (fun _ _ _ h => h) (Or.inl ⟨by rfl,?_⟩) ?_ ?_
        rotate_left
        ·
         intro w'
         go_simp
         with_reducible rfl
        rotate_left
        ·
         simp only [Act.put,List.setIfInBounds_toArray,List.set_cons_zero,List.set_cons_succ,i64_w,i32_w]
         rfl
        refine pure_ (i:=4) (N:=some 21) (v:=?_) (a':=?_) #[T,T,T,F,T,F,F,F,F,F] rfl rfl (by kernel_rfl) (fun _ _ _ h => h) (Or.inl ⟨by rfl,?_⟩) ?_ ?_
        rotate_left
        ·
         intro w'
         go_simp
         with_reducible rfl
        rotate_left
        ·
         simp only [Act.put,List.setIfInBounds_toArray,List.set_cons_zero,List.set_cons_succ,i64_w,i32_w]
         rfl
        refine pure_ (i:=5) (N:=some 22) (v:=?_) (a':=?_) #[T,T,T,F,T,T,F,F,F,F] rfl rfl (by kernel_rfl) (fun _ _ _ h => h) (Or.inl ⟨by rfl,?_⟩) ?_ ?_
        rotate_left
        ·
         intro w'
         go_simp
         with_reducible rfl
        rotate_left
        ·
         simp only [Act.put,List.setIfInBounds_toArray,List.set_cons_zero,List.set_cons_succ,i64_w,i32_w]
         rfl
        refine pure_ (i:=6) (N:=some 23) (v:=?_) (a':=?_) #[T,T,T,F,T,T,T,F,F,F] rfl rfl (by kernel_rfl) (fun _ _ _ h => h) (Or.inl ⟨by rfl,?_⟩) ?_ ?_
        rotate_left
        ·
         intro w'
         go_simp
         with_reducible rfl
        rotate_left
        ·
         simp only [Act.put,List.setIfInBounds_toArray,List.set_cons_zero,List.set_cons_succ,i64_w,i32_w]
         rfl
        refine take_ (i:=3) (N:=some 20) (v:=?_) (a':=?_) #[T,T,T,T,T,T,T,F,F,F] rfl rfl (by kernel_rfl) (fun _ _ _ h => h) (Or.inl ⟨by rfl,?_⟩) hHeld ?_ ?_
        rotate_left
        ·
         rintro w' ⟨s0,s1,s2,s3,s4,s5,s6,s7⟩
         go_simp
         with_reducible rfl
        rotate_left
        ·
         simp only [Act.put,List.setIfInBounds_toArray,List.set_cons_zero,List.set_cons_succ,i64_w,i32_w]
         rfl
        refine take_ (i:=7) (N:=some 24) (v:=?_) (a':=?_) #[T,T,T,T,T,T,T,T,F,F] rfl rfl (by kernel_rfl) (fun _ _ _ h => h) (Or.inl ⟨by rfl,?_⟩) hHeld ?_ ?_
        rotate_left
        ·
         rintro w' ⟨s0,s1,s2,s3,s4,s5,s6,s7⟩
         go_simp
         with_reducible rfl
        rotate_left
        ·
         simp only [Act.put,List.setIfInBounds_toArray,List.set_cons_zero,List.set_cons_succ,i64_w,i32_w]
         rfl
        refine one_ (i:=8) (N:=some 25) #[T,T,T,T,T,T,T,T,T,F] rfl rfl (by kernel_rfl) (by decide) (fun K hK => ?_)
        refine goes_ Try.func96 (by kernel_rfl) rfl #[.agg #[.int .i64 ((rd_T36 l0 x5_1).f0),.int .i64 ((rd_T36 l0 x5_1).f1),.int .i64 ((rd_T36 l0 x5_1).f2),.string ((rd_T36 l0 x5_1).f3)],.agg #[.int .i64 ((rd_T36 l1 x5_1).f0),.int .i64 ((rd_T36 l1 x5_1).f1),.int .i64 ((rd_T36 l1 x5_1).f2),.string ((rd_T36 l1 x5_1).f3)]] (by rfl) rfl rfl (by (try simp only [List.map_toArray,List.map_cons,List.map_nil]);first|done|rfl|(simp only [List.length_drop,List.length_take];rfl)) ?_
        with_reducible refine (laws_eqWrite.calls ((rd_T36 l0 x5_1).f0) ((rd_T36 l0 x5_1).f1) ((rd_T36 l0 x5_1).f2) ((rd_T36 l0 x5_1).f3) ((rd_T36 l1 x5_1).f0) ((rd_T36 l1 x5_1).f1) ((rd_T36 l1 x5_1).f2) ((rd_T36 l1 x5_1).f3) false _ A7.out).mono ?_
        rintro e w12 ⟨rfl,hb⟩
        refine ⟨_,rfl,?_⟩
        have n0_:=Aside0.mk (below_step (by repeat (first|(with_reducible first|exact HB.out|apply below_alloc|apply pw_below_drewN|apply below_drew1)|exact HB.out)) hb)
        clear HB
        have HB:=n0_
        clear n0_
        (try clear hb)
        (try clear hb2)
        (try clear hk)
        (try clear hi)
        refine hK.out _ _ ⟨((HB.out.cell (World.block_lt_of_cell? w _ hw800_0)).trans hw800_0),((HB.out.cell (World.block_lt_of_cell? w _ hw800_1)).trans hw800_1),((HB.out.cell (World.block_lt_of_cell? w _ hw800_2)).trans hw800_2),((HB.out.cell (World.block_lt_of_cell? w _ hw800_3)).trans hw800_3),((HB.out.cell (World.block_lt_of_cell? w _ hw801_0)).trans hw801_0),((HB.out.cell (World.block_lt_of_cell? w _ hw801_1)).trans hw801_1),((HB.out.cell (World.block_lt_of_cell? w _ hw801_2)).trans hw801_2),((HB.out.cell (World.block_lt_of_cell? w _ hw801_3)).trans hw801_3)⟩ (fun hHeld => ?_)
        clear hK K
        refine norm_ (a':=?_) ?_ ?_
        rotate_left
        ·
         show Act.put _ (some 25) _ = _
         simp only [Act.put,List.setIfInBounds_toArray,List.set_cons_zero,List.set_cons_succ,i64_w,i32_w]
         rfl
        refine pure_ (i:=9) (N:=some 26) (v:=?_) (a':=?_) #[T,T,T,T,T,T,T,T,T,T] rfl rfl (by kernel_rfl) (fun _ _ _ h => h) (Or.inl ⟨by rfl,?_⟩) ?_ ?_
        rotate_left
        ·
         intro w'
         go_simp
         with_reducible rfl
        rotate_left
        ·
         simp only [Act.put,List.setIfInBounds_toArray,List.set_cons_zero,List.set_cons_succ,i64_w,i32_w]
         rfl
        refine done_ (by kernel_rfl) ?_
        try go_wp2
        go_ret
        exact ⟨by first|rfl|(simp [errW_none,errW_some] <;> rfl)|(simp [*,errW_none,errW_some] <;> rfl),by repeat (first|(with_reducible first|exact HB.out|apply below_alloc|apply pw_below_drewN|apply below_drew1)|exact HB.out)⟩
      ·
       rw [if_neg c6] at H
       exact absurd H (by simp)
     ·
      rw [if_neg c5] at H
      exact absurd H (by simp)
    ·
     rw [if_neg c4] at H
     have c4b0 : decide (x5_1 < (l0.length : Int)) = false:=decide_eq_false c4
     clear c4
     obtain rfl:=Option.some.inj H
     go_wp2
     go_ret
     exact ⟨by first|rfl|(simp [errW_none,errW_some] <;> rfl)|(simp [*,errW_none,errW_some] <;> rfl),by repeat (first|(with_reducible first|exact HB.out|apply below_alloc|apply pw_below_drewN|apply below_drew1)|exact HB.out)⟩
 ·
  rw [if_neg c3] at H
  have c3b0 : ((l0.length : Int) == (l1.length : Int)) = false:=beq_eq_false_iff_ne.mpr c3
  have c3b1 : ((l0.length : Int) != (l1.length : Int)) = true:=bne_iff_ne.mpr c3
  have c3b2 : (l0.length == l1.length) = false:=by first|simpa using c3|(simp at c3 ⊢;omega)
  obtain rfl:=Option.some.inj H
  go_enter Try.func63,Try.ntmps63
  go_wp2
  go_ret
  exact ⟨by first|rfl|(simp [errW_none,errW_some] <;> rfl)|(simp [*,errW_none,errW_some] <;> rfl),by repeat (first|(with_reducible first|exact HB.out|apply below_alloc|apply pw_below_drewN|apply below_drew1)|exact HB.out)⟩
def laws_eqDisk.f (k : Nat) (l0_0 : List ByteArray) (l0_1 : List Int) (l0_2 : List (S36)) (l1_0 : List ByteArray) (l1_1 : List Int) (l1_2 : List (S36)) : Option (Bool):=(laws_eqStringS.f k l0_0 l1_0).bind fun t805 => (if t805 = true then ((laws_eqIntS.f k l0_1 l1_1).bind fun t806 => (if t806 = true then ((laws_eqWriteS.f k l0_2 l1_2).bind fun t807 => (if t807 = true then (some true) else (some false))) else (some false))) else (some false))
set_option maxHeartbeats 8000000 in
set_option maxRecDepth 100000 in
theorem laws_eqDisk.calls (k : Nat) (A0_0 : Option Addr) (c0_0 : Nat) (l0_0 : List ByteArray) (A0_1 : Option Addr) (c0_1 : Nat) (l0_1 : List Int) (A0_2 : Option Addr) (c0_2 : Nat) (l0_2 : List (S36)) (A1_0 : Option Addr) (c1_0 : Nat) (l1_0 : List ByteArray) (A1_1 : Option Addr) (c1_1 : Nat) (l1_1 : List Int) (A1_2 : Option Addr) (c1_2 : Nat) (l1_2 : List (S36)) (r : Bool) (w : World) (hr0_0 : Kd.C Kd.string w A0_0 l0_0.length l0_0) (hc0_0 : l0_0.length ≤ c0_0) (hr0_1 : Kd.C (Kd.int .i64) w A0_1 l0_1.length l0_1) (hc0_1 : l0_1.length ≤ c0_1) (hr0_2 : Kd.C k36 w A0_2 l0_2.length l0_2) (hc0_2 : l0_2.length ≤ c0_2) (hr1_0 : Kd.C Kd.string w A1_0 l1_0.length l1_0) (hc1_0 : l1_0.length ≤ c1_0) (hr1_1 : Kd.C (Kd.int .i64) w A1_1 l1_1.length l1_1) (hc1_1 : l1_1.length ≤ c1_1) (hr1_2 : Kd.C k36 w A1_2 l1_2.length l1_2) (hc1_2 : l1_2.length ≤ c1_2) (h : laws_eqDisk.f k l0_0 l0_1 l0_2 l1_0 l1_1 l1_2 = some r) :
  Calls Try.prog 25 #[.agg #[.slice A0_0 l0_0.length c0_0,.slice A0_1 l0_1.length c0_1,.slice A0_2 l0_2.length c0_2],.agg #[.slice A1_0 l1_0.length c1_0,.slice A1_1 l1_1.length c1_1,.slice A1_2 l1_2.length c1_2]] w fun e w' => e = .returned (.bool r) ∧ Below w.heap.size w w':=by
 have hu28:=Try.underlying28
 have HR0_0:=Aside0.mk hr0_0
 have HC0_0:=Aside0.mk hc0_0
 clear hr0_0 hc0_0
 have HR0_1:=Aside0.mk hr0_1
 have HC0_1:=Aside0.mk hc0_1
 clear hr0_1 hc0_1
 have HR0_2:=Aside0.mk hr0_2
 have HC0_2:=Aside0.mk hc0_2
 clear hr0_2 hc0_2
 have HR1_0:=Aside0.mk hr1_0
 have HC1_0:=Aside0.mk hc1_0
 clear hr1_0 hc1_0
 have HR1_1:=Aside0.mk hr1_1
 have HC1_1:=Aside0.mk hc1_1
 clear hr1_1 hc1_1
 have HR1_2:=Aside0.mk hr1_2
 have HC1_2:=Aside0.mk hc1_2
 clear hr1_2 hc1_2
 have HB:=Aside0.mk (Below.refl w.heap.size w)
 have H : ((laws_eqStringS.f k l0_0 l1_0).bind fun t805 => (if t805 = true then ((laws_eqIntS.f k l0_1 l1_1).bind fun t806 => (if t806 = true then ((laws_eqWriteS.f k l0_2 l1_2).bind fun t807 => (if t807 = true then (some true) else (some false))) else (some false))) else (some false))) = some r:=h
 clear h
 replace H:=Option.bind_eq_some_iff.mp H
 obtain ⟨t805,A30,H⟩:=H
 replace H : (if t805 = true then ((laws_eqIntS.f k l0_1 l1_1).bind fun t806 => (if t806 = true then ((laws_eqWriteS.f k l0_2 l1_2).bind fun t807 => (if t807 = true then (some true) else (some false))) else (some false))) else (some false)) = some r:=H
 have A3:=Aside0.mk A30
 clear A30
 by_cases c4 : t805 = true
 ·
  subst c4
  have H1 : ((laws_eqIntS.f k l0_1 l1_1).bind fun t806 => (if t806 = true then ((laws_eqWriteS.f k l0_2 l1_2).bind fun t807 => (if t807 = true then (some true) else (some false))) else (some false))) = some r:=by rw [if_pos rfl] at H;exact H
  clear H
  have H:=H1
  clear H1
  replace H:=Option.bind_eq_some_iff.mp H
  obtain ⟨t806,A50,H⟩:=H
  replace H : (if t806 = true then ((laws_eqWriteS.f k l0_2 l1_2).bind fun t807 => (if t807 = true then (some true) else (some false))) else (some false)) = some r:=H
  have A5:=Aside0.mk A50
  clear A50
  by_cases c6 : t806 = true
  ·
   subst c6
   have H1 : ((laws_eqWriteS.f k l0_2 l1_2).bind fun t807 => (if t807 = true then (some true) else (some false))) = some r:=by rw [if_pos rfl] at H;exact H
   clear H
   have H:=H1
   clear H1
   replace H:=Option.bind_eq_some_iff.mp H
   obtain ⟨t807,A70,H⟩:=H
   replace H : (if t807 = true then (some true) else (some false)) = some r:=H
   have A7:=Aside0.mk A70
   clear A70
   by_cases c8 : t807 = true
   ·
    subst c8
    have H1 : (some true) = some r:=by rw [if_pos rfl] at H;exact H
    clear H
    have H:=H1
    clear H1
    obtain rfl:=Option.some.inj H
    go_enter Try.func25,Try.ntmps25
    go_wp2_with (first|((with_reducible refine gate_dst (N:=2) rfl ?_);refine box_event ?hg (N:=2) ?hd (cs:=#[.slice A0_0 l0_0.length c0_0,.slice A0_1 l0_1.length c0_1,.slice A0_2 l0_2.length c0_2]) (t:=28) ?hr ?_;(case hd => rfl);(case hg => rfl);(case hr => first|(go_simp;done)|(go_simp;rfl));intro gb803 hg w9 hbox hb;have n0_:=Aside0.mk (below_step (by exact HB.out) hb);have n1_:=Aside0.mk (hbox);have n2_:=Aside0.mk ((by rw [hg];exact (below_size (by exact HB.out)) : w.heap.size ≤ gb803));have n3_:=Aside0.mk ((by rw [hg];exact (below_size (by exact HB.out)) : w.heap.size ≤ gb803));clear HB;have HB:=n0_;have BK803:=n1_;have GW803:=n2_;have GE803:=n3_;clear n0_ n1_ n2_ n3_;clear hb hbox hg)|((with_reducible refine gate_dst (N:=3) rfl ?_);refine box_event ?hg (N:=3) ?hd (cs:=#[.slice A1_0 l1_0.length c1_0,.slice A1_1 l1_1.length c1_1,.slice A1_2 l1_2.length c1_2]) (t:=28) ?hr ?_;(case hd => rfl);(case hg => rfl);(case hr => first|(go_simp;done)|(go_simp;rfl));intro gb804 hg w10 hbox hb;have n0_:=Aside0.mk (blk_below BK803.out hb);have n1_:=Aside0.mk (below_step (by exact HB.out) hb);have n2_:=Aside0.mk (hbox);have n3_:=Aside0.mk ((by rw [hg];exact (below_size (by exact HB.out)) : w.heap.size ≤ gb804));have n4_:=Aside0.mk ((by rw [hg];exact (below_size (by exact HB.out)) : w.heap.size ≤ gb804));have n5_:=Aside0.mk ((by rw [hg];exact Nat.ne_of_lt (blk_lt BK803.out) : gb803 ≠ gb804));have n6_:=Aside0.mk ((by rw [hg];exact Nat.ne_of_gt (blk_lt BK803.out) : gb804 ≠ gb803));clear BK803;clear HB;have BK803:=n0_;have HB:=n1_;have BK804:=n2_;have GW804:=n3_;have GE804:=n4_;have NB803_804:=n5_;have NB804_803:=n6_;clear n0_ n1_ n2_ n3_ n4_ n5_ n6_;clear hb hbox hg;have hnb11:=NB803_804.out;have hnc11:=NB804_803.out;have hcz12_0 : w10.cell? ⟨gb803,0,none⟩ = some (.slice A0_0 l0_0.length c0_0):=(blk_cell BK803.out 0).trans rfl;have hcz12_1 : w10.cell? ⟨gb803,1,none⟩ = some (.slice A0_1 l0_1.length c0_1):=(blk_cell BK803.out 1).trans rfl;have hcz12_2 : w10.cell? ⟨gb803,2,none⟩ = some (.slice A0_2 l0_2.length c0_2):=(blk_cell BK803.out 2).trans rfl;have hfz12_0:=blk_frozen BK803.out 0;have hfz12_1:=blk_frozen BK803.out 1;have hfz12_2:=blk_frozen BK803.out 2;have hcz13_0 : w10.cell? ⟨gb804,0,none⟩ = some (.slice A1_0 l1_0.length c1_0):=(blk_cell BK804.out 0).trans rfl;have hcz13_1 : w10.cell? ⟨gb804,1,none⟩ = some (.slice A1_1 l1_1.length c1_1):=(blk_cell BK804.out 1).trans rfl;have hcz13_2 : w10.cell? ⟨gb804,2,none⟩ = some (.slice A1_2 l1_2.length c1_2):=(blk_cell BK804.out 2).trans rfl;have hfz13_0:=blk_frozen BK804.out 0;have hfz13_1:=blk_frozen BK804.out 1;have hfz13_2:=blk_frozen BK804.out 2)|((with_reducible refine gate_callee (f:=61) rfl ?_);refine goesL_ (some 9) rfl rfl Try.func61 (by kernel_rfl) rfl #[.slice A0_0 l0_0.length c0_0,.slice A1_0 l1_0.length c1_0] rfl (by (try simp only [List.map_toArray,List.map_cons,List.map_nil]);first|done|rfl|(simp only [List.length_drop,List.length_take];rfl)) ?_;(with_reducible refine (laws_eqStringS.calls k _ _ l0_0 _ _ l1_0 true _ ?side1 ?side2 ?side3 ?side4 A3.out).mono ?_);(case side1 => repeat (first|exact (Kd.C_below HR0_0.out HB.out)|(with_reducible refine Kd.C_alloc ?_ _)|(with_reducible refine Kd.C_drewN ?_ _)|(with_reducible refine Kd.C_drew ?_)));(case side2 => exact HC0_0.out);(case side3 => repeat (first|exact (Kd.C_below HR1_0.out HB.out)|(with_reducible refine Kd.C_alloc ?_ _)|(with_reducible refine Kd.C_drewN ?_ _)|(with_reducible refine Kd.C_drew ?_)));(case side4 => exact HC1_0.out);rintro e w' ⟨rfl,⟨nd,rfl⟩⟩;refine ⟨_,rfl,?_⟩)|((with_reducible refine gate_callee (f:=62) rfl ?_);refine goesL_ (some 15) rfl rfl Try.func62 (by kernel_rfl) rfl #[.slice A0_1 l0_1.length c0_1,.slice A1_1 l1_1.length c1_1] rfl (by (try simp only [List.map_toArray,List.map_cons,List.map_nil]);first|done|rfl|(simp only [List.length_drop,List.length_take];rfl)) ?_;(with_reducible refine (laws_eqIntS.calls k _ _ l0_1 _ _ l1_1 true _ ?side1 ?side2 ?side3 ?side4 A5.out).mono ?_);(case side1 => repeat (first|exact (Kd.C_below HR0_1.out (by repeat (first|(with_reducible first|exact HB.out|apply below_alloc|apply pw_below_drewN|apply below_drew1|refine below_set ?_ GE803.out|refine below_set ?_ GE804.out)|exact HB.out)))|(with_reducible refine Kd.C_alloc ?_ _)|(with_reducible refine Kd.C_drewN ?_ _)|(with_reducible refine Kd.C_drew ?_)));(case side2 => exact HC0_1.out);(case side3 => repeat (first|exact (Kd.C_below HR1_1.out (by repeat (first|(with_reducible first|exact HB.out|apply below_alloc|apply pw_below_drewN|apply below_drew1|refine below_set ?_ GE803.out|refine below_set ?_ GE804.out)|exact HB.out)))|(with_reducible refine Kd.C_alloc ?_ _)|(with_reducible refine Kd.C_drewN ?_ _)|(with_reducible refine Kd.C_drew ?_)));(case side4 => exact HC1_1.out);rintro e w' ⟨rfl,⟨nd,rfl⟩⟩;refine ⟨_,rfl,?_⟩)|((with_reducible refine gate_callee (f:=63) rfl ?_);refine goesL_ (some 21) rfl rfl Try.func63 (by kernel_rfl) rfl #[.slice A0_2 l0_2.length c0_2,.slice A1_2 l1_2.length c1_2] rfl (by (try simp only [List.map_toArray,List.map_cons,List.map_nil]);first|done|rfl|(simp only [List.length_drop,List.length_take];rfl)) ?_;(with_reducible refine (laws_eqWriteS.calls k _ _ l0_2 _ _ l1_2 true _ ?side1 ?side2 ?side3 ?side4 A7.out).mono ?_);(case side1 => repeat (first|exact (Kd.C_below HR0_2.out (by repeat (first|(with_reducible first|exact HB.out|apply below_alloc|apply pw_below_drewN|apply below_drew1|refine below_set ?_ GE803.out|refine below_set ?_ GE804.out)|exact HB.out)))|(with_reducible refine Kd.C_alloc ?_ _)|(with_reducible refine Kd.C_drewN ?_ _)|(with_reducible refine Kd.C_drew ?_)));(case side2 => exact HC0_2.out);(case side3 => repeat (first|exact (Kd.C_below HR1_2.out (by repeat (first|(with_reducible first|exact HB.out|apply below_alloc|apply pw_below_drewN|apply below_drew1|refine below_set ?_ GE803.out|refine below_set ?_ GE804.out)|exact HB.out)))|(with_reducible refine Kd.C_alloc ?_ _)|(with_reducible refine Kd.C_drewN ?_ _)|(with_reducible refine Kd.C_drew ?_)));(case side4 => exact HC1_2.out);rintro e w14 ⟨rfl,hb⟩;refine ⟨_,rfl,?_⟩;have n0_:=Aside0.mk (blk_below (g:=gb803) (o:=.cells #[.slice A0_0 l0_0.length c0_0,.slice A0_1 l0_1.length c0_1,.slice A0_2 l0_2.length c0_2] 28 (0,0)) (by (with_reducible repeat (first|refine blk_drewN ?_ _|refine blk_drew ?_|refine blk_alloc ?_ _));exact BK803.out) hb);have n1_:=Aside0.mk (blk_below (g:=gb804) (o:=.cells #[.slice A1_0 l1_0.length c1_0,.slice A1_1 l1_1.length c1_1,.slice A1_2 l1_2.length c1_2] 28 (0,0)) (by (with_reducible repeat (first|refine blk_drewN ?_ _|refine blk_drew ?_|refine blk_alloc ?_ _));exact BK804.out) hb);have n2_:=Aside0.mk (below_step (by repeat (first|(with_reducible first|exact HB.out|apply below_alloc|apply pw_below_drewN|apply below_drew1|refine below_set ?_ GE803.out|refine below_set ?_ GE804.out)|exact HB.out)) hb);clear BK803;clear BK804;clear HB;have BK803:=n0_;have BK804:=n1_;have HB:=n2_;clear n0_ n1_ n2_;(try clear hb);(try clear hb2);(try clear hk);(try clear hi)))
    go_ret
    exact ⟨by first|rfl|(simp [errW_none,errW_some] <;> rfl)|(simp [*,errW_none,errW_some] <;> rfl),by repeat (first|(with_reducible first|exact HB.out|apply below_alloc|apply pw_below_drewN|apply below_drew1|refine below_set ?_ GE803.out|refine below_set ?_ GE804.out)|exact HB.out)⟩
   ·
    replace c8:=Bool.eq_false_iff.mpr c8
    subst c8
    have H1 : (some false) = some r:=by rw [if_neg (show ¬ (false = true) by decide)] at H;exact H
    clear H
    have H:=H1
    clear H1
    obtain rfl:=Option.some.inj H
    go_enter Try.func25,Try.ntmps25
    go_wp2_with (first|((with_reducible refine gate_dst (N:=2) rfl ?_);refine box_event ?hg (N:=2) ?hd (cs:=#[.slice A0_0 l0_0.length c0_0,.slice A0_1 l0_1.length c0_1,.slice A0_2 l0_2.length c0_2]) (t:=28) ?hr ?_;(case hd => rfl);(case hg => rfl);(case hr => first|(go_simp;done)|(go_simp;rfl));intro gb803 hg w15 hbox hb;have n0_:=Aside0.mk (below_step (by exact HB.out) hb);have n1_:=Aside0.mk (hbox);have n2_:=Aside0.mk ((by rw [hg];exact (below_size (by exact HB.out)) : w.heap.size ≤ gb803));have n3_:=Aside0.mk ((by rw [hg];exact (below_size (by exact HB.out)) : w.heap.size ≤ gb803));clear HB;have HB:=n0_;have BK803:=n1_;have GW803:=n2_;have GE803:=n3_;clear n0_ n1_ n2_ n3_;clear hb hbox hg)|((with_reducible refine gate_dst (N:=3) rfl ?_);refine box_event ?hg (N:=3) ?hd (cs:=#[.slice A1_0 l1_0.length c1_0,.slice A1_1 l1_1.length c1_1,.slice A1_2 l1_2.length c1_2]) (t:=28) ?hr ?_;(case hd => rfl);(case hg => rfl);(case hr => first|(go_simp;done)|(go_simp;rfl));intro gb804 hg w16 hbox hb;have n0_:=Aside0.mk (blk_below BK803.out hb);have n1_:=Aside0.mk (below_step (by exact HB.out) hb);have n2_:=Aside0.mk (hbox);have n3_:=Aside0.mk ((by rw [hg];exact (below_size (by exact HB.out)) : w.heap.size ≤ gb804));have n4_:=Aside0.mk ((by rw [hg];exact (below_size (by exact HB.out)) : w.heap.size ≤ gb804));have n5_:=Aside0.mk ((by rw [hg];exact Nat.ne_of_lt (blk_lt BK803.out) : gb803 ≠ gb804));have n6_:=Aside0.mk ((by rw [hg];exact Nat.ne_of_gt (blk_lt BK803.out) : gb804 ≠ gb803));clear BK803;clear HB;have BK803:=n0_;have HB:=n1_;have BK804:=n2_;have GW804:=n3_;have GE804:=n4_;have NB803_804:=n5_;have NB804_803:=n6_;clear n0_ n1_ n2_ n3_ n4_ n5_ n6_;clear hb hbox hg;have hnb17:=NB803_804.out;have hnc17:=NB804_803.out;have hcz18_0 : w16.cell? ⟨gb803,0,none⟩ = some (.slice A0_0 l0_0.length c0_0):=(blk_cell BK803.out 0).trans rfl;have hcz18_1 : w16.cell? ⟨gb803,1,none⟩ = some (.slice A0_1 l0_1.length c0_1):=(blk_cell BK803.out 1).trans rfl;have hcz18_2 : w16.cell? ⟨gb803,2,none⟩ = some (.slice A0_2 l0_2.length c0_2):=(blk_cell BK803.out 2).trans rfl;have hfz18_0:=blk_frozen BK803.out 0;have hfz18_1:=blk_frozen BK803.out 1;have hfz18_2:=blk_frozen BK803.out 2;have hcz19_0 : w16.cell? ⟨gb804,0,none⟩ = some (.slice A1_0 l1_0.length c1_0):=(blk_cell BK804.out 0).trans rfl;have hcz19_1 : w16.cell? ⟨gb804,1,none⟩ = some (.slice A1_1 l1_1.length c1_1):=(blk_cell BK804.out 1).trans rfl;have hcz19_2 : w16.cell? ⟨gb804,2,none⟩ = some (.slice A1_2 l1_2.length c1_2):=(blk_cell BK804.out 2).trans rfl;have hfz19_0:=blk_frozen BK804.out 0;have hfz19_1:=blk_frozen BK804.out 1;have hfz19_2:=blk_frozen BK804.out 2)|((with_reducible refine gate_callee (f:=61) rfl ?_);refine goesL_ (some 9) rfl rfl Try.func61 (by kernel_rfl) rfl #[.slice A0_0 l0_0.length c0_0,.slice A1_0 l1_0.length c1_0] rfl (by (try simp only [List.map_toArray,List.map_cons,List.map_nil]);first|done|rfl|(simp only [List.length_drop,List.length_take];rfl)) ?_;(with_reducible refine (laws_eqStringS.calls k _ _ l0_0 _ _ l1_0 true _ ?side1 ?side2 ?side3 ?side4 A3.out).mono ?_);(case side1 => repeat (first|exact (Kd.C_below HR0_0.out HB.out)|(with_reducible refine Kd.C_alloc ?_ _)|(with_reducible refine Kd.C_drewN ?_ _)|(with_reducible refine Kd.C_drew ?_)));(case side2 => exact HC0_0.out);(case side3 => repeat (first|exact (Kd.C_below HR1_0.out HB.out)|(with_reducible refine Kd.C_alloc ?_ _)|(with_reducible refine Kd.C_drewN ?_ _)|(with_reducible refine Kd.C_drew ?_)));(case side4 => exact HC1_0.out);rintro e w' ⟨rfl,⟨nd,rfl⟩⟩;refine ⟨_,rfl,?_⟩)|((with_reducible refine gate_callee (f:=62) rfl ?_);refine goesL_ (some 15) rfl rfl Try.func62 (by kernel_rfl) rfl #[.slice A0_1 l0_1.length c0_1,.slice A1_1 l1_1.length c1_1] rfl (by (try simp only [List.map_toArray,List.map_cons,List.map_nil]);first|done|rfl|(simp only [List.length_drop,List.length_take];rfl)) ?_;(with_reducible refine (laws_eqIntS.calls k _ _ l0_1 _ _ l1_1 true _ ?side1 ?side2 ?side3 ?side4 A5.out).mono ?_);(case side1 => repeat (first|exact (Kd.C_below HR0_1.out (by repeat (first|(with_reducible first|exact HB.out|apply below_alloc|apply pw_below_drewN|apply below_drew1|refine below_set ?_ GE803.out|refine below_set ?_ GE804.out)|exact HB.out)))|(with_reducible refine Kd.C_alloc ?_ _)|(with_reducible refine Kd.C_drewN ?_ _)|(with_reducible refine Kd.C_drew ?_)));(case side2 => exact HC0_1.out);(case side3 => repeat (first|exact (Kd.C_below HR1_1.out (by repeat (first|(with_reducible first|exact HB.out|apply below_alloc|apply pw_below_drewN|apply below_drew1|refine below_set ?_ GE803.out|refine below_set ?_ GE804.out)|exact HB.out)))|(with_reducible refine Kd.C_alloc ?_ _)|(with_reducible refine Kd.C_drewN ?_ _)|(with_reducible refine Kd.C_drew ?_)));(case side4 => exact HC1_1.out);rintro e w' ⟨rfl,⟨nd,rfl⟩⟩;refine ⟨_,rfl,?_⟩)|((with_reducible refine gate_callee (f:=63) rfl ?_);refine goesL_ (some 21) rfl rfl Try.func63 (by kernel_rfl) rfl #[.slice A0_2 l0_2.length c0_2,.slice A1_2 l1_2.length c1_2] rfl (by (try simp only [List.map_toArray,List.map_cons,List.map_nil]);first|done|rfl|(simp only [List.length_drop,List.length_take];rfl)) ?_;(with_reducible refine (laws_eqWriteS.calls k _ _ l0_2 _ _ l1_2 false _ ?side1 ?side2 ?side3 ?side4 A7.out).mono ?_);(case side1 => repeat (first|exact (Kd.C_below HR0_2.out (by repeat (first|(with_reducible first|exact HB.out|apply below_alloc|apply pw_below_drewN|apply below_drew1|refine below_set ?_ GE803.out|refine below_set ?_ GE804.out)|exact HB.out)))|(with_reducible refine Kd.C_alloc ?_ _)|(with_reducible refine Kd.C_drewN ?_ _)|(with_reducible refine Kd.C_drew ?_)));(case side2 => exact HC0_2.out);(case side3 => repeat (first|exact (Kd.C_below HR1_2.out (by repeat (first|(with_reducible first|exact HB.out|apply below_alloc|apply pw_below_drewN|apply below_drew1|refine below_set ?_ GE803.out|refine below_set ?_ GE804.out)|exact HB.out)))|(with_reducible refine Kd.C_alloc ?_ _)|(with_reducible refine Kd.C_drewN ?_ _)|(with_reducible refine Kd.C_drew ?_)));(case side4 => exact HC1_2.out);rintro e w20 ⟨rfl,hb⟩;refine ⟨_,rfl,?_⟩;have n0_:=Aside0.mk (blk_below (g:=gb803) (o:=.cells #[.slice A0_0 l0_0.length c0_0,.slice A0_1 l0_1.length c0_1,.slice A0_2 l0_2.length c0_2] 28 (0,0)) (by (with_reducible repeat (first|refine blk_drewN ?_ _|refine blk_drew ?_|refine blk_alloc ?_ _));exact BK803.out) hb);have n1_:=Aside0.mk (blk_below (g:=gb804) (o:=.cells #[.slice A1_0 l1_0.length c1_0,.slice A1_1 l1_1.length c1_1,.slice A1_2 l1_2.length c1_2] 28 (0,0)) (by (with_reducible repeat (first|refine blk_drewN ?_ _|refine blk_drew ?_|refine blk_alloc ?_ _));exact BK804.out) hb);have n2_:=Aside0.mk (below_step (by repeat (first|(with_reducible first|exact HB.out|apply below_alloc|apply pw_below_drewN|apply below_drew1|refine below_set ?_ GE803.out|refine below_set ?_ GE804.out)|exact HB.out)) hb);clear BK803;clear BK804;clear HB;have BK803:=n0_;have BK804:=n1_;have HB:=n2_;clear n0_ n1_ n2_;(try clear hb);(try clear hb2);(try clear hk);(try clear hi)))
    go_ret
    exact ⟨by first|rfl|(simp [errW_none,errW_some] <;> rfl)|(simp [*,errW_none,errW_some] <;> rfl),by repeat (first|(with_reducible first|exact HB.out|apply below_alloc|apply pw_below_drewN|apply below_drew1|refine below_set ?_ GE803.out|refine below_set ?_ GE804.out)|exact HB.out)⟩
  ·
   replace c6:=Bool.eq_false_iff.mpr c6
   subst c6
   have H1 : (some false) = some r:=by rw [if_neg (show ¬ (false = true) by decide)] at H;exact H
   clear H
   have H:=H1
   clear H1
   obtain rfl:=Option.some.inj H
   go_enter Try.func25,Try.ntmps25
   go_wp2_with (first|((with_reducible refine gate_dst (N:=2) rfl ?_);refine box_event ?hg (N:=2) ?hd (cs:=#[.slice A0_0 l0_0.length c0_0,.slice A0_1 l0_1.length c0_1,.slice A0_2 l0_2.length c0_2]) (t:=28) ?hr ?_;(case hd => rfl);(case hg => rfl);(case hr => first|(go_simp;done)|(go_simp;rfl));intro gb803 hg w21 hbox hb;have n0_:=Aside0.mk (below_step (by exact HB.out) hb);have n1_:=Aside0.mk (hbox);have n2_:=Aside0.mk ((by rw [hg];exact (below_size (by exact HB.out)) : w.heap.size ≤ gb803));have n3_:=Aside0.mk ((by rw [hg];exact (below_size (by exact HB.out)) : w.heap.size ≤ gb803));clear HB;have HB:=n0_;have BK803:=n1_;have GW803:=n2_;have GE803:=n3_;clear n0_ n1_ n2_ n3_;clear hb hbox hg)|((with_reducible refine gate_dst (N:=3) rfl ?_);refine box_event ?hg (N:=3) ?hd (cs:=#[.slice A1_0 l1_0.length c1_0,.slice A1_1 l1_1.length c1_1,.slice A1_2 l1_2.length c1_2]) (t:=28) ?hr ?_;(case hd => rfl);(case hg => rfl);(case hr => first|(go_simp;done)|(go_simp;rfl));intro gb804 hg w22 hbox hb;have n0_:=Aside0.mk (blk_below BK803.out hb);have n1_:=Aside0.mk (below_step (by exact HB.out) hb);have n2_:=Aside0.mk (hbox);have n3_:=Aside0.mk ((by rw [hg];exact (below_size (by exact HB.out)) : w.heap.size ≤ gb804));have n4_:=Aside0.mk ((by rw [hg];exact (below_size (by exact HB.out)) : w.heap.size ≤ gb804));have n5_:=Aside0.mk ((by rw [hg];exact Nat.ne_of_lt (blk_lt BK803.out) : gb803 ≠ gb804));have n6_:=Aside0.mk ((by rw [hg];exact Nat.ne_of_gt (blk_lt BK803.out) : gb804 ≠ gb803));clear BK803;clear HB;have BK803:=n0_;have HB:=n1_;have BK804:=n2_;have GW804:=n3_;have GE804:=n4_;have NB803_804:=n5_;have NB804_803:=n6_;clear n0_ n1_ n2_ n3_ n4_ n5_ n6_;clear hb hbox hg;have hnb23:=NB803_804.out;have hnc23:=NB804_803.out;have hcz24_0 : w22.cell? ⟨gb803,0,none⟩ = some (.slice A0_0 l0_0.length c0_0):=(blk_cell BK803.out 0).trans rfl;have hcz24_1 : w22.cell? ⟨gb803,1,none⟩ = some (.slice A0_1 l0_1.length c0_1):=(blk_cell BK803.out 1).trans rfl;have hcz24_2 : w22.cell? ⟨gb803,2,none⟩ = some (.slice A0_2 l0_2.length c0_2):=(blk_cell BK803.out 2).trans rfl;have hfz24_0:=blk_frozen BK803.out 0;have hfz24_1:=blk_frozen BK803.out 1;have hfz24_2:=blk_frozen BK803.out 2;have hcz25_0 : w22.cell? ⟨gb804,0,none⟩ = some (.slice A1_0 l1_0.length c1_0):=(blk_cell BK804.out 0).trans rfl;have hcz25_1 : w22.cell? ⟨gb804,1,none⟩ = some (.slice A1_1 l1_1.length c1_1):=(blk_cell BK804.out 1).trans rfl;have hcz25_2 : w22.cell? ⟨gb804,2,none⟩ = some (.slice A1_2 l1_2.length c1_2):=(blk_cell BK804.out 2).trans rfl;have hfz25_0:=blk_frozen BK804.out 0;have hfz25_1:=blk_frozen BK804.out 1;have hfz25_2:=blk_frozen BK804.out 2)|((with_reducible refine gate_callee (f:=61) rfl ?_);refine goesL_ (some 9) rfl rfl Try.func61 (by kernel_rfl) rfl #[.slice A0_0 l0_0.length c0_0,.slice A1_0 l1_0.length c1_0] rfl (by (try simp only [List.map_toArray,List.map_cons,List.map_nil]);first|done|rfl|(simp only [List.length_drop,List.length_take];rfl)) ?_;(with_reducible refine (laws_eqStringS.calls k _ _ l0_0 _ _ l1_0 true _ ?side1 ?side2 ?side3 ?side4 A3.out).mono ?_);(case side1 => repeat (first|exact (Kd.C_below HR0_0.out HB.out)|(with_reducible refine Kd.C_alloc ?_ _)|(with_reducible refine Kd.C_drewN ?_ _)|(with_reducible refine Kd.C_drew ?_)));(case side2 => exact HC0_0.out);(case side3 => repeat (first|exact (Kd.C_below HR1_0.out HB.out)|(with_reducible refine Kd.C_alloc ?_ _)|(with_reducible refine Kd.C_drewN ?_ _)|(with_reducible refine Kd.C_drew ?_)));(case side4 => exact HC1_0.out);rintro e w' ⟨rfl,⟨nd,rfl⟩⟩;refine ⟨_,rfl,?_⟩)|((with_reducible refine gate_callee (f:=62) rfl ?_);refine goesL_ (some 15) rfl rfl Try.func62 (by kernel_rfl) rfl #[.slice A0_1 l0_1.length c0_1,.slice A1_1 l1_1.length c1_1] rfl (by (try simp only [List.map_toArray,List.map_cons,List.map_nil]);first|done|rfl|(simp only [List.length_drop,List.length_take];rfl)) ?_;(with_reducible refine (laws_eqIntS.calls k _ _ l0_1 _ _ l1_1 false _ ?side1 ?side2 ?side3 ?side4 A5.out).mono ?_);(case side1 => repeat (first|exact (Kd.C_below HR0_1.out (by repeat (first|(with_reducible first|exact HB.out|apply below_alloc|apply pw_below_drewN|apply below_drew1|refine below_set ?_ GE803.out|refine below_set ?_ GE804.out)|exact HB.out)))|(with_reducible refine Kd.C_alloc ?_ _)|(with_reducible refine Kd.C_drewN ?_ _)|(with_reducible refine Kd.C_drew ?_)));(case side2 => exact HC0_1.out);(case side3 => repeat (first|exact (Kd.C_below HR1_1.out (by repeat (first|(with_reducible first|exact HB.out|apply below_alloc|apply pw_below_drewN|apply below_drew1|refine below_set ?_ GE803.out|refine below_set ?_ GE804.out)|exact HB.out)))|(with_reducible refine Kd.C_alloc ?_ _)|(with_reducible refine Kd.C_drewN ?_ _)|(with_reducible refine Kd.C_drew ?_)));(case side4 => exact HC1_1.out);rintro e w' ⟨rfl,⟨nd,rfl⟩⟩;refine ⟨_,rfl,?_⟩))
   go_ret
   exact ⟨by first|rfl|(simp [errW_none,errW_some] <;> rfl)|(simp [*,errW_none,errW_some] <;> rfl),by repeat (first|(with_reducible first|exact HB.out|apply below_alloc|apply pw_below_drewN|apply below_drew1|refine below_set ?_ GE803.out|refine below_set ?_ GE804.out)|exact HB.out)⟩
 ·
  replace c4:=Bool.eq_false_iff.mpr c4
  subst c4
  have H1 : (some false) = some r:=by rw [if_neg (show ¬ (false = true) by decide)] at H;exact H
  clear H
  have H:=H1
  clear H1
  obtain rfl:=Option.some.inj H
  go_enter Try.func25,Try.ntmps25
  go_wp2_with (first|((with_reducible refine gate_dst (N:=2) rfl ?_);refine box_event ?hg (N:=2) ?hd (cs:=#[.slice A0_0 l0_0.length c0_0,.slice A0_1 l0_1.length c0_1,.slice A0_2 l0_2.length c0_2]) (t:=28) ?hr ?_;(case hd => rfl);(case hg => rfl);(case hr => first|(go_simp;done)|(go_simp;rfl));intro gb803 hg w26 hbox hb;have n0_:=Aside0.mk (below_step (by exact HB.out) hb);have n1_:=Aside0.mk (hbox);have n2_:=Aside0.mk ((by rw [hg];exact (below_size (by exact HB.out)) : w.heap.size ≤ gb803));have n3_:=Aside0.mk ((by rw [hg];exact (below_size (by exact HB.out)) : w.heap.size ≤ gb803));clear HB;have HB:=n0_;have BK803:=n1_;have GW803:=n2_;have GE803:=n3_;clear n0_ n1_ n2_ n3_;clear hb hbox hg)|((with_reducible refine gate_dst (N:=3) rfl ?_);refine box_event ?hg (N:=3) ?hd (cs:=#[.slice A1_0 l1_0.length c1_0,.slice A1_1 l1_1.length c1_1,.slice A1_2 l1_2.length c1_2]) (t:=28) ?hr ?_;(case hd => rfl);(case hg => rfl);(case hr => first|(go_simp;done)|(go_simp;rfl));intro gb804 hg w27 hbox hb;have n0_:=Aside0.mk (blk_below BK803.out hb);have n1_:=Aside0.mk (below_step (by exact HB.out) hb);have n2_:=Aside0.mk (hbox);have n3_:=Aside0.mk ((by rw [hg];exact (below_size (by exact HB.out)) : w.heap.size ≤ gb804));have n4_:=Aside0.mk ((by rw [hg];exact (below_size (by exact HB.out)) : w.heap.size ≤ gb804));have n5_:=Aside0.mk ((by rw [hg];exact Nat.ne_of_lt (blk_lt BK803.out) : gb803 ≠ gb804));have n6_:=Aside0.mk ((by rw [hg];exact Nat.ne_of_gt (blk_lt BK803.out) : gb804 ≠ gb803));clear BK803;clear HB;have BK803:=n0_;have HB:=n1_;have BK804:=n2_;have GW804:=n3_;have GE804:=n4_;have NB803_804:=n5_;have NB804_803:=n6_;clear n0_ n1_ n2_ n3_ n4_ n5_ n6_;clear hb hbox hg;have hnb28:=NB803_804.out;have hnc28:=NB804_803.out;have hcz29_0 : w27.cell? ⟨gb803,0,none⟩ = some (.slice A0_0 l0_0.length c0_0):=(blk_cell BK803.out 0).trans rfl;have hcz29_1 : w27.cell? ⟨gb803,1,none⟩ = some (.slice A0_1 l0_1.length c0_1):=(blk_cell BK803.out 1).trans rfl;have hcz29_2 : w27.cell? ⟨gb803,2,none⟩ = some (.slice A0_2 l0_2.length c0_2):=(blk_cell BK803.out 2).trans rfl;have hfz29_0:=blk_frozen BK803.out 0;have hfz29_1:=blk_frozen BK803.out 1;have hfz29_2:=blk_frozen BK803.out 2;have hcz30_0 : w27.cell? ⟨gb804,0,none⟩ = some (.slice A1_0 l1_0.length c1_0):=(blk_cell BK804.out 0).trans rfl;have hcz30_1 : w27.cell? ⟨gb804,1,none⟩ = some (.slice A1_1 l1_1.length c1_1):=(blk_cell BK804.out 1).trans rfl;have hcz30_2 : w27.cell? ⟨gb804,2,none⟩ = some (.slice A1_2 l1_2.length c1_2):=(blk_cell BK804.out 2).trans rfl;have hfz30_0:=blk_frozen BK804.out 0;have hfz30_1:=blk_frozen BK804.out 1;have hfz30_2:=blk_frozen BK804.out 2)|((with_reducible refine gate_callee (f:=61) rfl ?_);refine goesL_ (some 9) rfl rfl Try.func61 (by kernel_rfl) rfl #[.slice A0_0 l0_0.length c0_0,.slice A1_0 l1_0.length c1_0] rfl (by (try simp only [List.map_toArray,List.map_cons,List.map_nil]);first|done|rfl|(simp only [List.length_drop,List.length_take];rfl)) ?_;(with_reducible refine (laws_eqStringS.calls k _ _ l0_0 _ _ l1_0 false _ ?side1 ?side2 ?side3 ?side4 A3.out).mono ?_);(case side1 => repeat (first|exact (Kd.C_below HR0_0.out HB.out)|(with_reducible refine Kd.C_alloc ?_ _)|(with_reducible refine Kd.C_drewN ?_ _)|(with_reducible refine Kd.C_drew ?_)));(case side2 => exact HC0_0.out);(case side3 => repeat (first|exact (Kd.C_below HR1_0.out HB.out)|(with_reducible refine Kd.C_alloc ?_ _)|(with_reducible refine Kd.C_drewN ?_ _)|(with_reducible refine Kd.C_drew ?_)));(case side4 => exact HC1_0.out);rintro e w' ⟨rfl,⟨nd,rfl⟩⟩;refine ⟨_,rfl,?_⟩))
  go_ret
  exact ⟨by first|rfl|(simp [errW_none,errW_some] <;> rfl)|(simp [*,errW_none,errW_some] <;> rfl),by repeat (first|(with_reducible first|exact HB.out|apply below_alloc|apply pw_below_drewN|apply below_drew1|refine below_set ?_ GE803.out|refine below_set ?_ GE804.out)|exact HB.out)⟩
def laws_markText.l0 : Nat → Int → ByteArray → Option (ByteArray)
  | 0,_,_ => none
  | k + 1,x0,x3 => if x0 > 0 then ((some (([(wrap64 (48 + (Int.tmod x0 10))) % 256] : List Int) : List Int)).bind fun y808 => (if (strOfNums y808).size + x3.size ≤ 9223372036854775807 then (laws_markText.l0 k (wrap64 (Int.tdiv x0 10)) ((strOfNums y808) ++ x3)) else (none))) else (if 1 + x3.size ≤ 9223372036854775807 then (some ((⟨#[109]⟩ : ByteArray) ++ x3)) else (none))
def laws_markText.f (k : Nat) (a0 : Int) : Option (ByteArray):=if a0 ≤ 0 then (some (⟨#[109,48]⟩ : ByteArray)) else (laws_markText.l0 k a0 (⟨#[]⟩ : ByteArray))
set_option maxHeartbeats 8000000 in
set_option maxRecDepth 100000 in
theorem laws_markText.calls (k : Nat) (a0 : Int) (r : ByteArray) (w : World) (h : laws_markText.f k a0 = some r) :
  Calls Try.prog 97 #[.int .i64 a0] w fun e w' => e = .returned (.string r) ∧ Below w.heap.size w w':=by
 have HB:=Aside0.mk (Below.refl w.heap.size w)
 have H : (if a0 ≤ 0 then (some (⟨#[109,48]⟩ : ByteArray)) else (laws_markText.l0 k a0 (⟨#[]⟩ : ByteArray))) = some r:=h
 clear h
 by_cases c2 : a0 ≤ 0
 ·
  rw [if_pos c2] at H
  have c2b0 : decide (a0 ≤ 0) = true:=decide_eq_true c2
  clear c2
  obtain rfl:=Option.some.inj H
  go_enter Try.func97,Try.ntmps97
  go_wp2
  go_ret
  exact ⟨by first|rfl|(simp [errW_none,errW_some] <;> rfl)|(simp [*,errW_none,errW_some] <;> rfl),by repeat (first|(with_reducible first|exact HB.out|apply below_alloc|apply pw_below_drewN|apply below_drew1)|exact HB.out)⟩
 ·
  rw [if_neg c2] at H
  have c2b0 : decide (a0 ≤ 0) = false:=decide_eq_false c2
  clear c2
  have H':=Aside0.mk H
  clear H
  go_enter Try.func97,Try.ntmps97
  go_wp2
  go_loopg [0,3] k (fun kq v0 v3 w' => ∃ (x0_1 : Int) (x3_1 : ByteArray),v0 = .int .i64 x0_1 ∧ v3 = .string x3_1 ∧ Aside0 (laws_markText.l0 kq x0_1 x3_1 = some r) ∧ Aside0 (kq ≤ k) ∧ Aside0 (Below w.heap.size w w'))
  case atStart => exact ⟨(a0),((⟨#[]⟩ : ByteArray)),(by first|rfl|(simp;done)|(simp [*];done)),(by first|rfl|(simp;done)|(simp [*];done)),H',⟨Nat.le_refl _⟩,⟨by repeat (first|(with_reducible first|exact HB.out|apply below_alloc|apply pw_below_drewN|apply below_drew1)|exact HB.out)⟩⟩
  case round =>
   clear H'
   try clear c2
   try clear c2b0
   try clear p2
   obtain ⟨x0_1,x3_1,rfl,rfl,HA,HK1,HB⟩:=hrel
   cases gk with
   | zero => exact absurd HA.out (by simp [laws_markText.l0])
   | succ k1 =>
    have H:=HA.out
    clear HA
    simp only [laws_markText.l0] at H
    by_cases c3 : x0_1 > 0
    ·
     rw [if_pos c3] at H
     have c3b0 : decide (0 < x0_1) = true:=decide_eq_true c3
     clear c3
     obtain ⟨y808,hy808⟩ : ∃ y_ : List Int,y_ = (([(wrap64 (48 + (Int.tmod x0_1 10))) % 256] : List Int)):=⟨_,rfl⟩
     replace H : (if (strOfNums y808).size + x3_1.size ≤ 9223372036854775807 then (laws_markText.l0 k1 (wrap64 (Int.tdiv x0_1 10)) ((strOfNums y808) ++ x3_1)) else (none)) = some r:=by first|(rw [hy808];with_reducible exact H)|(have H2_:=(Option.bind_some _ _).symm.trans H;rw [hy808];with_reducible exact H2_)|(have H2_:=(Option.bind_some _ _).symm.trans H;with_reducible exact H2_)|with_reducible exact H|(rw [hy808];exact H)|exact H
     have Ny808:=Aside0.mk hy808
     clear hy808
     by_cases c4 : (strOfNums y808).size + x3_1.size ≤ 9223372036854775807
     ·
      rw [if_pos c4] at H
      have c4b0:=eq_true c4
      have c4b1 : decide ((strOfNums y808).size + x3_1.size ≤ 9223372036854775807) = true:=decide_eq_true c4
      try have c4b2 : (9223372036854775807 < (strOfNums y808).size + x3_1.size) = False:=eq_false (Nat.not_lt.2 c4)
      have H':=Aside0.mk H
      clear H
      go_wp2_with (first|((with_reducible refine gate_dst (N:=12) rfl ?_);refine Kd.R_lit (Kd.int .u8) _ 5 ?hg (N:=12) ?hd (xs:=([(wrap64 (48 + (Int.tmod x0_1 10))) % 256] : List Int)) (inner:=[.int .u8 ((wrap64 (48 + (Int.tmod x0_1 10))) % 256)]) (ok:=fun _ => True) (okp:=fun _ => True) ?hr ?hp (fun _ hk => hk) trivial (Below.refl _ _) (Nat.le_refl _) (by simp) ?_;(case hd => rfl);(case hg => rfl);(case hr => first|(go_simp;done)|(go_simp;rfl));(case hp => exact (Reps.one (show Kd.M (Kd.int .u8) _ _ _ ((wrap64 (48 + (Int.tmod x0_1 10))) % 256) [.int .u8 ((wrap64 (48 + (Int.tmod x0_1 10))) % 256)] from rfl) (Reps.none _ _)));intro v809 w5 ho6 hb hg_ hnew_;clear hg_ hnew_;(first|rw [← Ny808.out] at ho6|(simp only [Int.reduceToNat] at ho6;rw [← Ny808.out] at ho6));have n0_:=Aside0.mk (Kd.R_lower ho6 (below_size (by exact HB.out)));have n1_:=Aside0.mk (below_step (by exact HB.out) hb);clear HB;have HO810:=n0_;have HB:=n1_;clear n0_ n1_;clear hb ho6;have hcv7:=own_string (P:=Try.prog) Try.underlying22 Try.underlying5 Try.underlying9 (Kd.own_of_R HO810.out)))
      go_roundg k1
      case measure => have:=HK1.out;omega
      case rel => exact ⟨(wrap64 (Int.tdiv x0_1 10)),((strOfNums y808) ++ x3_1),(by first|rfl|(simp;done)|(simp [*];done)),(by first|rfl|(simp;done)|(simp [*];done)),H',⟨by have:=HK1.out;omega⟩,⟨by repeat (first|(with_reducible first|exact HB.out|apply below_alloc|apply pw_below_drewN|apply below_drew1)|exact HB.out)⟩⟩
     ·
      rw [if_neg c4] at H
      exact absurd H (by simp)
    ·
     rw [if_neg c3] at H
     have c3b0 : decide (0 < x0_1) = false:=decide_eq_false c3
     clear c3
     by_cases c8 : 1 + x3_1.size ≤ 9223372036854775807
     ·
      rw [if_pos c8] at H
      have c8b0:=eq_true c8
      have c8b1 : decide (1 + x3_1.size ≤ 9223372036854775807) = true:=decide_eq_true c8
      try have c8b2 : (9223372036854775807 < 1 + x3_1.size) = False:=eq_false (Nat.not_lt.2 c8)
      obtain rfl:=Option.some.inj H
      go_wp2
      go_ret
      exact ⟨by first|rfl|(simp [errW_none,errW_some] <;> rfl)|(simp [*,errW_none,errW_some] <;> rfl),by repeat (first|(with_reducible first|exact HB.out|apply below_alloc|apply pw_below_drewN|apply below_drew1)|exact HB.out)⟩
     ·
      rw [if_neg c8] at H
      exact absurd H (by simp)
end Go.Proofs.Ytiejilaahkkhmaa.P
