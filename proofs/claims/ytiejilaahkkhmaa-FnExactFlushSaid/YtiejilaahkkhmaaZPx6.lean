-- Ours: printed or written for this claim; cut to what the theorem needs.
import Derived.Test.YtiejilaahkkhmaaZPx0
import Derived.Test.YtiejilaahkkhmaaZPx4
open Bool renaming true → T, false → F
namespace Go.Proofs.Ytiejilaahkkhmaa.P
open Go.RowKit Go.Proofs.YtiejilaahkkhmaaW.PrintWords Go.Proofs.YtiejilaahkkhmaaW.PrintLast Go.Proofs.YtiejilaahkkhmaaW.PrintMore
attribute [local go_sem] max2_int min2_int max_two min_two max_three min_three max_four min_four
set_option linter.unusedVariables false
set_option linter.unusedSimpArgs false
def spec_l3Flush.l0 : Nat → Int → List (S36) → Int → List ByteArray → List Int → List (S36) → Option (List ByteArray × List Int × (List (S36)) × Int)
  | 0,_,_,_,_,_,_ => none
  | k + 1,x1,x8,x9,x195000,x195001,x195002 => if x9 < (x195002.length : Int) then (if 0 ≤ x9 then (if ((rd_T36 x195002 x9).f0) = x1 then (if 0 ≤ ((rd_T36 x195002 x9).f2) then (if ((rd_T36 x195002 x9).f2) < (x195000.length : Int) then (spec_l3Flush.l0 k x1 x8 (wrap64 (x9 + 1)) (x195000.set (((rd_T36 x195002 x9).f2) : Int).toNat ((rd_T36 x195002 x9).f3)) x195001 x195002) else (none)) else (none)) else (if x8.length < 3518437208883 then (spec_l3Flush.l0 k x1 (x8 ++ [(⟨(rd_T36 x195002 x9).f0,(rd_T36 x195002 x9).f1,(rd_T36 x195002 x9).f2,(rd_T36 x195002 x9).f3⟩ : S36)]) (wrap64 (x9 + 1)) x195000 x195001 x195002) else (none))) else (none)) else (some (x195000,x195001,x8,0))
def spec_l3Flush.f (k : Nat) (l0_0 : List ByteArray) (l0_1 : List Int) (l0_2 : List (S36)) (a1 : Int) (a2 : Int) : Option (List ByteArray × List Int × (List (S36)) × Int):=(spec_l3Host.f a1).bind fun t196 => (if t196 = true then (if 0 ≤ a1 then (if a1 < (l0_1.length : Int) then (if (rd l0_1 a1) = a2 then (spec_l3Flush.l0 k a1 (([] : List (S36))) 0 l0_0 l0_1 l0_2) else (some (l0_0,l0_1,l0_2,2))) else (none)) else (none)) else (some (l0_0,l0_1,l0_2,1)))
def spec_l3Flush.T10 : Bool × List (List Nat × List Nat):=(true,[([],[]),([0],[0]),([],[]),([2],[2]),([],[]),([3,4],[3,4]),([5],[5]),([6],[6]),([],[]),([8],[8]),([],[]),([9,10],[9,10]),([11],[11]),([12],[12]),([1,7,0,1,2,3,4,5,6,7,8,9,10,11,12,13],[1,7]),([14,13,0,1,2,3,4,5,6,7,8,9,10,11,12,13],[13,14])])
def spec_l3Flush.B10 : List Nat:=[0,1,0,4,0,28,60,124,0,256,0,1792,3840,7936,16383,32767]
theorem spec_l3Flush.tab10 : rtab .any (opsOf Try.f74 10) = spec_l3Flush.T10:=by kernel_rfl
theorem spec_l3Flush.bits10 : waitsOk spec_l3Flush.T10.2 spec_l3Flush.B10 = true:=by kernel_rfl
set_option maxHeartbeats 8000000 in
set_option maxRecDepth 100000 in
theorem spec_l3Flush.calls (k : Nat) (P0_0_ : Nat → Prop) (u9000_ : Value) (l0_0 : List ByteArray) (P0_1_ : Nat → Prop) (u9001_ : Value) (l0_1 : List Int) (P0_2_ : Nat → Prop) (u9002_ : Value) (l0_2 : List (S36)) (a1 : Int) (a2 : Int) (r1 : List ByteArray) (r2 : List Int) (r3 : List (S36)) (r4 : Int) (w0 w : World) (hB : Below w0.heap.size w0 w) (ho0_0 : Kd.R Kd.string 9 w w0.heap.size P0_0_ u9000_ l0_0) (ho0_1 : Kd.R (Kd.int .i64) 3 w w0.heap.size P0_1_ u9001_ l0_1) (ho0_2 : Kd.R k36 36 w w0.heap.size P0_2_ u9002_ l0_2) (h : spec_l3Flush.f k l0_0 l0_1 l0_2 a1 a2 = some (r1,r2,r3,r4)) :
  Calls Try.prog 74 #[.agg #[u9000_,u9001_,u9002_],.int .i64 a1,.int .i64 a2] w fun e w' => ∃ v0_ v1_ v2_ : Value,e = .returned (.tuple #[.agg #[v0_,v1_,v2_],.int .i64 r4]) ∧ Kd.R Kd.string 9 w' w0.heap.size (fun k_ => ((P0_0_ k_ ∨ P0_1_ k_ ∨ P0_2_ k_) ∨ w.heap.size ≤ k_)) v0_ r1 ∧ Kd.R (Kd.int .i64) 3 w' w0.heap.size (fun k_ => ((P0_0_ k_ ∨ P0_1_ k_ ∨ P0_2_ k_) ∨ w.heap.size ≤ k_)) v1_ r2 ∧ Kd.R k36 36 w' w0.heap.size (fun k_ => ((P0_0_ k_ ∨ P0_1_ k_ ∨ P0_2_ k_) ∨ w.heap.size ≤ k_)) v2_ r3 ∧ Below w0.heap.size w0 w' ∧ Kept w w' (fun k_ => P0_0_ k_ ∨ P0_1_ k_ ∨ P0_2_ k_):=by
 have hu28:=Try.underlying28
 have hu36:=Try.underlying36
 have HO0_0:=Aside0.mk (show Kd.R Kd.string 9 w w0.heap.size (fun k_ => ((P0_0_ k_ ∨ P0_1_ k_ ∨ P0_2_ k_) ∨ w.heap.size ≤ k_)) u9000_ l0_0 from Kd.R_mono ho0_0 (fun k_ hk => (.inl (.inl hk))))
 have HO0_1:=Aside0.mk (show Kd.R (Kd.int .i64) 3 w w0.heap.size (fun k_ => ((P0_0_ k_ ∨ P0_1_ k_ ∨ P0_2_ k_) ∨ w.heap.size ≤ k_)) u9001_ l0_1 from Kd.R_mono ho0_1 (fun k_ hk => (.inl (.inr (.inl hk)))))
 have HO0_2:=Aside0.mk (show Kd.R k36 36 w w0.heap.size (fun k_ => ((P0_0_ k_ ∨ P0_1_ k_ ∨ P0_2_ k_) ∨ w.heap.size ≤ k_)) u9002_ l0_2 from Kd.R_mono ho0_2 (fun k_ hk => (.inl (.inr (.inr hk)))))
 have HK:=Aside0.mk (Kept.refl w (fun k_ => P0_0_ k_ ∨ P0_1_ k_ ∨ P0_2_ k_))
 have HW0:=Aside0.mk hB.size
 have HB:=Aside0.mk hB
 clear hB
 have H : ((spec_l3Host.f a1).bind fun t196 => (if t196 = true then (if 0 ≤ a1 then (if a1 < (l0_1.length : Int) then (if (rd l0_1 a1) = a2 then (spec_l3Flush.l0 k a1 (([] : List (S36))) 0 l0_0 l0_1 l0_2) else (some (l0_0,l0_1,l0_2,2))) else (none)) else (none)) else (some (l0_0,l0_1,l0_2,1)))) = some (r1,r2,r3,r4):=h
 clear h
 replace H:=Option.bind_eq_some_iff.mp H
 obtain ⟨t196,A40,H⟩:=H
 replace H : (if t196 = true then (if 0 ≤ a1 then (if a1 < (l0_1.length : Int) then (if (rd l0_1 a1) = a2 then (spec_l3Flush.l0 k a1 (([] : List (S36))) 0 l0_0 l0_1 l0_2) else (some (l0_0,l0_1,l0_2,2))) else (none)) else (none)) else (some (l0_0,l0_1,l0_2,1))) = some (r1,r2,r3,r4):=H
 have A4:=Aside0.mk A40
 clear A40
 by_cases c5 : t196 = true
 ·
  subst c5
  have H1 : (if 0 ≤ a1 then (if a1 < (l0_1.length : Int) then (if (rd l0_1 a1) = a2 then (spec_l3Flush.l0 k a1 (([] : List (S36))) 0 l0_0 l0_1 l0_2) else (some (l0_0,l0_1,l0_2,2))) else (none)) else (none)) = some (r1,r2,r3,r4):=by rw [if_pos rfl] at H;exact H
  clear H
  have H:=H1
  clear H1
  by_cases c6 : 0 ≤ a1
  ·
   rw [if_pos c6] at H
   have c6b0 : decide (0 ≤ a1) = true:=decide_eq_true c6
   clear c6
   by_cases c7 : a1 < (l0_1.length : Int)
   ·
    rw [if_pos c7] at H
    have c7b0 : decide (a1 < (l0_1.length : Int)) = true:=decide_eq_true c7
    clear c7
    by_cases c8 : (rd l0_1 a1) = a2
    ·
     rw [if_pos c8] at H
     have c8b0 : ((rd l0_1 a1) == a2) = true:=beq_iff_eq.mpr c8
     have c8b1 : ((rd l0_1 a1) != a2) = false:=bne_eq_false_iff_eq.mpr c8
     clear c8
     obtain ⟨y198,hy198⟩ : ∃ y_ : List (S36),y_ = (([] : List (S36))):=⟨_,rfl⟩
     replace H : (spec_l3Flush.l0 k a1 y198 0 l0_0 l0_1 l0_2) = some (r1,r2,r3,r4):=by first|(rw [hy198];with_reducible exact H)|(have H2_:=(Option.bind_some _ _).symm.trans H;rw [hy198];with_reducible exact H2_)|(have H2_:=(Option.bind_some _ _).symm.trans H;with_reducible exact H2_)|with_reducible exact H|(rw [hy198];exact H)|exact H
     have Ny198:=Aside0.mk hy198
     clear hy198
     have H':=Aside0.mk H
     clear H
     obtain ⟨Ao9,co9,eo9⟩:=Kd.R_slice HO0_0.out
     subst eo9
     obtain ⟨Ao10,co10,eo10⟩:=Kd.R_slice HO0_1.out
     subst eo10
     obtain ⟨Ao11,co11,eo11⟩:=Kd.R_slice HO0_2.out
     subst eo11
     go_enter Try.func74,Try.ntmps74
     go_wp2_with (first|((with_reducible refine gate_dst (N:=3) rfl ?_);refine box_event ?hg (N:=3) ?hd (cs:=#[.slice Ao9 l0_0.length co9,.slice Ao10 l0_1.length co10,.slice Ao11 l0_2.length co11]) (t:=28) ?hr ?_;(case hd => rfl);(case hg => rfl);(case hr => first|(go_simp;done)|(go_simp;rfl));intro gb194 hg w12 hbox hb;have n0_:=Aside0.mk (Kd.R_below (by exact HO0_0.out) hb);have n1_:=Aside0.mk (Kd.R_below (by exact HO0_1.out) hb);have n2_:=Aside0.mk (Kd.R_below (by exact HO0_2.out) hb);have n3_:=Aside0.mk (Kept.below (S:=(fun k_ => P0_0_ k_ ∨ P0_1_ k_ ∨ P0_2_ k_)) (by exact HK.out) hb);have n4_:=Aside0.mk (below_step (by exact HB.out) hb);have n5_:=Aside0.mk (hbox);have n6_:=Aside0.mk ((by rw [hg];exact (by first|exact HK.out.1|exact (show Kept w _ (fun k_ => P0_0_ k_ ∨ P0_1_ k_ ∨ P0_2_ k_) from by exact HK.out).1) : w.heap.size ≤ gb194));have n7_:=Aside0.mk ((by rw [hg];exact (below_size (by exact HB.out)) : w0.heap.size ≤ gb194));clear HO0_0;clear HO0_1;clear HO0_2;clear HK;clear HB;have HO0_0:=n0_;have HO0_1:=n1_;have HO0_2:=n2_;have HK:=n3_;have HB:=n4_;have BK194:=n5_;have GW194:=n6_;have GE194:=n7_;clear n0_ n1_ n2_ n3_ n4_ n5_ n6_ n7_;clear hb hbox hg)|((with_reducible refine gate_dst (N:=6) rfl ?_);refine box_event ?hg (N:=6) ?hd (cs:=#[.slice none 0 0,.slice none 0 0,.slice none 0 0]) (t:=28) ?hr ?_;(case hd => rfl);(case hg => rfl);(case hr => first|(go_simp;done)|(go_simp;rfl));intro gb195 hg w13 hbox hb;have n0_:=Aside0.mk (Kd.R_below (by exact HO0_0.out) hb);have n1_:=Aside0.mk (Kd.R_below (by exact HO0_1.out) hb);have n2_:=Aside0.mk (Kd.R_below (by exact HO0_2.out) hb);have n3_:=Aside0.mk (blk_below BK194.out hb);have n4_:=Aside0.mk (Kept.below (S:=(fun k_ => P0_0_ k_ ∨ P0_1_ k_ ∨ P0_2_ k_)) (by exact HK.out) hb);have n5_:=Aside0.mk (below_step (by exact HB.out) hb);have n6_:=Aside0.mk (hbox);have n7_:=Aside0.mk ((by rw [hg];exact (by first|exact HK.out.1|exact (show Kept w _ (fun k_ => P0_0_ k_ ∨ P0_1_ k_ ∨ P0_2_ k_) from by exact HK.out).1) : w.heap.size ≤ gb195));have n8_:=Aside0.mk ((by rw [hg];exact (below_size (by exact HB.out)) : w0.heap.size ≤ gb195));have n9_:=Aside0.mk ((by rw [hg];exact Nat.ne_of_lt (blk_lt BK194.out) : gb194 ≠ gb195));have n10_:=Aside0.mk ((by rw [hg];exact Nat.ne_of_gt (blk_lt BK194.out) : gb195 ≠ gb194));clear HO0_0;clear HO0_1;clear HO0_2;clear BK194;clear HK;clear HB;have HO0_0:=n0_;have HO0_1:=n1_;have HO0_2:=n2_;have BK194:=n3_;have HK:=n4_;have HB:=n5_;have BK195:=n6_;have GW195:=n7_;have GE195:=n8_;have NB194_195:=n9_;have NB195_194:=n10_;clear n0_ n1_ n2_ n3_ n4_ n5_ n6_ n7_ n8_ n9_ n10_;clear hb hbox hg)|((with_reducible refine gate_callee (f:=40) rfl ?_);refine goesL_ (some 11) rfl rfl Try.func40 (by kernel_rfl) rfl #[.int .i64 a1] rfl (by (try simp only [List.map_toArray,List.map_cons,List.map_nil]);first|done|rfl|(simp only [List.length_drop,List.length_take];rfl)) ?_;(with_reducible refine (spec_l3Host.calls a1 true _ A4.out).mono ?_);rintro e w' ⟨rfl,⟨nd,rfl⟩⟩;refine ⟨_,rfl,?_⟩;have hnb14:=NB194_195.out;have hnc14:=NB195_194.out;have hcz15_0 : w13.cell? ⟨gb194,0,none⟩ = some (.slice Ao9 l0_0.length co9):=(blk_cell BK194.out 0).trans rfl;have hcz15_1 : w13.cell? ⟨gb194,1,none⟩ = some (.slice Ao10 l0_1.length co10):=(blk_cell BK194.out 1).trans rfl;have hcz15_2 : w13.cell? ⟨gb194,2,none⟩ = some (.slice Ao11 l0_2.length co11):=(blk_cell BK194.out 2).trans rfl;have hfz15_0:=blk_frozen BK194.out 0;have hfz15_1:=blk_frozen BK194.out 1;have hfz15_2:=blk_frozen BK194.out 2;have p197 : 0 ≤ (a1 : Int):=of_decide_eq_true (by first|(with_reducible assumption)|assumption);have q197 : a1 < (l0_1.length : Int):=of_decide_eq_true (by first|(with_reducible assumption)|assumption);obtain ⟨ad197,e197,hx197_0⟩:=Kd.at_int (Kd.R_reads' HO0_1.out).2.2 a1 p197 q197;cases e197;replace p197:=eq_true p197;replace q197:=eq_true q197)|((with_reducible refine gate_dst (N:=22) rfl ?_);refine Kd.R_lit k36 _ 36 ?hg (N:=22) ?hd (xs:=([] : List (S36))) (inner:=[]) (ok:=fun _ => True) (okp:=fun _ => True) ?hr ?hp (fun _ hk => hk) trivial (Below.refl _ _) (Nat.le_refl _) (by simp) ?_;(case hd => rfl);(case hg => rfl);(case hr => first|(go_simp;done)|(go_simp;rfl));(case hp => exact (Reps.none _ _));intro v199 w16 ho17 hb hg_ hnew_;clear hg_ hnew_;(first|rw [← Ny198.out] at ho17|(simp only [Int.reduceToNat] at ho17;rw [← Ny198.out] at ho17));have n0_:=Aside0.mk (Kd.R_below (by (with_reducible repeat (first|apply Kd.R_alloc|apply Kd.R_drewN|apply Kd.R_drew));exact HO0_0.out) hb);have n1_:=Aside0.mk (Kd.R_below (by (with_reducible repeat (first|apply Kd.R_alloc|apply Kd.R_drewN|apply Kd.R_drew));exact HO0_1.out) hb);have n2_:=Aside0.mk (Kd.R_elder' (by (with_reducible repeat (first|apply Kd.R_alloc|apply Kd.R_drewN|apply Kd.R_drew));exact HO0_2.out) (Kd.R_base ho17) hb);have n3_:=Aside0.mk (Kd.R_lower (Kd.R_new' (Kd.R_newM (M:=fun k_ => ((P0_0_ k_ ∨ P0_1_ k_ ∨ P0_2_ k_) ∨ w.heap.size ≤ k_)) ho17 (by first|exact HK.out.1|exact (show Kept w _ (fun k_ => P0_0_ k_ ∨ P0_1_ k_ ∨ P0_2_ k_) from by repeat (first|(with_reducible first|exact HK.out|apply Kept.alloc|apply Kept.drewN|apply Kept.drew|refine Kept.setCell ?_ (.inr GW194.out) _|refine Kept.setCell ?_ (.inr GW195.out) _)|exact HK.out)).1) (fun k_ h_ => .inr h_)) (Kd.R_lt (by (with_reducible repeat (first|apply Kd.R_alloc|apply Kd.R_drewN|apply Kd.R_drew));exact HO0_2.out))) (below_size (by repeat (first|(with_reducible first|exact HB.out|apply below_alloc|apply pw_below_drewN|apply below_drew1|refine below_set ?_ GE194.out|refine below_set ?_ GE195.out)|exact HB.out))));have n4_:=Aside0.mk (blk_below (g:=gb194) (o:=.cells #[.slice Ao9 l0_0.length co9,.slice (some ad197) l0_1.length co10,.slice Ao11 l0_2.length co11] 28 (0,0)) (by (with_reducible repeat (first|refine blk_drewN ?_ _|refine blk_drew ?_|refine blk_alloc ?_ _));exact BK194.out) hb);have n5_:=Aside0.mk (blk_below (g:=gb195) (o:=.cells #[.slice none 0 0,.slice none 0 0,.slice none 0 0] 28 (0,0)) (by (with_reducible repeat (first|refine blk_drewN ?_ _|refine blk_drew ?_|refine blk_alloc ?_ _));exact BK195.out) hb);have n6_:=Aside0.mk (Kept.below (S:=(fun k_ => P0_0_ k_ ∨ P0_1_ k_ ∨ P0_2_ k_)) (by repeat (first|(with_reducible first|exact HK.out|apply Kept.alloc|apply Kept.drewN|apply Kept.drew|refine Kept.setCell ?_ (.inr GW194.out) _|refine Kept.setCell ?_ (.inr GW195.out) _)|exact HK.out)) hb);have n7_:=Aside0.mk (below_step (by repeat (first|(with_reducible first|exact HB.out|apply below_alloc|apply pw_below_drewN|apply below_drew1|refine below_set ?_ GE194.out|refine below_set ?_ GE195.out)|exact HB.out)) hb);clear HO0_0;clear HO0_1;clear HO0_2;clear BK194;clear BK195;clear HK;clear HB;have HO0_0:=n0_;have HO0_1:=n1_;have HO0_2:=n2_;have HO200:=n3_;have BK194:=n4_;have BK195:=n5_;have HK:=n6_;have HB:=n7_;clear n0_ n1_ n2_ n3_ n4_ n5_ n6_ n7_;clear hb ho17))
     go_loopg [8,9] k (fun kq v8 v9 w' => ∃ (x8_1 : List (S36)) (x9_1 : Int) (x195000_1 : List ByteArray) (u195000 : Value),v9 = .int .i64 x9_1 ∧ Aside0 (spec_l3Flush.l0 kq a1 x8_1 x9_1 x195000_1 l0_1 l0_2 = some (r1,r2,r3,r4)) ∧ Aside0 (kq ≤ k) ∧ Aside0 (Kd.R k36 36 w' w0.heap.size (fun k_ => ((P0_0_ k_ ∨ P0_1_ k_ ∨ P0_2_ k_) ∨ w.heap.size ≤ k_) ∧ some k_ ≠ ((.slice Ao11 l0_2.length co11) : Value).ownBlock) v8 x8_1) ∧ Aside0 (Kd.R Kd.string 9 w' w0.heap.size (fun k_ => ((P0_0_ k_ ∨ P0_1_ k_ ∨ P0_2_ k_) ∨ w.heap.size ≤ k_)) u195000 x195000_1) ∧ Aside0 (Kd.R (Kd.int .i64) 3 w' w0.heap.size (fun k_ => ((P0_0_ k_ ∨ P0_1_ k_ ∨ P0_2_ k_) ∨ w.heap.size ≤ k_)) (.slice (some ad197) l0_1.length co10) l0_1) ∧ Aside0 (Kd.R k36 36 w' w0.heap.size (fun k_ => ((P0_0_ k_ ∨ P0_1_ k_ ∨ P0_2_ k_) ∨ w.heap.size ≤ k_) ∧ some k_ ≠ (v8 : Value).ownBlock) (.slice Ao11 l0_2.length co11) l0_2) ∧ Aside0 (w'.heap[gb194]? = some (.cells #[u195000,(.slice (some ad197) l0_1.length co10),(.slice Ao11 l0_2.length co11)] 28 (0,0))) ∧ Aside0 (w'.heap[gb195]? = some (.cells #[(.slice none 0 0),(.slice none 0 0),(.slice none 0 0)] 28 (0,0))) ∧ Aside0 (Kept w w' (fun k_ => P0_0_ k_ ∨ P0_1_ k_ ∨ P0_2_ k_)) ∧ Aside0 (Below w0.heap.size w0 w'))
     case atStart => exact ⟨(y198),(0),(l0_0),(.slice Ao9 l0_0.length co9),(by first|rfl|(simp;done)|(simp [*];done)),H',⟨Nat.le_refl _⟩,⟨by (with_reducible repeat (first|apply Kd.R_alloc|apply Kd.R_drewN|apply Kd.R_drew));exact Kd.R_mono HO200.out (fun _ hk => ⟨hk.1.1,hk.2⟩)⟩,⟨by (with_reducible repeat (first|apply Kd.R_alloc|apply Kd.R_drewN|apply Kd.R_drew));exact HO0_0.out⟩,⟨by (with_reducible repeat (first|apply Kd.R_alloc|apply Kd.R_drewN|apply Kd.R_drew));exact HO0_1.out⟩,⟨by (with_reducible repeat (first|apply Kd.R_alloc|apply Kd.R_drewN|apply Kd.R_drew));exact HO0_2.out⟩,⟨by (with_reducible repeat (first|refine blk_drewN ?_ _|refine blk_drew ?_|refine blk_alloc ?_ _));exact BK194.out⟩,⟨by (with_reducible repeat (first|refine blk_drewN ?_ _|refine blk_drew ?_|refine blk_alloc ?_ _));exact BK195.out⟩,⟨by repeat (first|(with_reducible first|exact HK.out|apply Kept.alloc|apply Kept.drewN|apply Kept.drew|refine Kept.setCell ?_ (.inr GW194.out) _|refine Kept.setCell ?_ (.inr GW195.out) _)|exact HK.out)⟩,⟨by repeat (first|(with_reducible first|exact HB.out|apply below_alloc|apply pw_below_drewN|apply below_drew1|refine below_set ?_ GE194.out|refine below_set ?_ GE195.out)|exact HB.out)⟩⟩
     case round =>
      clear H'
      try clear c1
      try clear p1
      try clear q1
      try clear hx1
      try clear p2
      try clear c4
      try clear c5
      try clear c6
      try clear c6b0
      try clear c7
      try clear c7b0
      try clear c8
      try clear c8b0
      try clear c8b1
      try clear c14
      try clear hcz15_0
      try clear hcz15_1
      try clear hcz15_2
      try clear hfz15_0
      try clear hfz15_1
      try clear hfz15_2
      try clear hx197_0
      try clear p197
      try clear q197
      obtain ⟨x8_1,x9_1,x195000_1,u195000,rfl,HA,HK1,HO_8,HO_195000,HO_195001,HO_195002,BK194,BK195,HK,HB⟩:=hrel
      cases gk with
      | zero => exact absurd HA.out (by simp [spec_l3Flush.l0])
      | succ k1 =>
       have H:=HA.out
       clear HA
       simp only [spec_l3Flush.l0] at H
       by_cases c18 : x9_1 < (l0_2.length : Int)
       ·
        rw [if_pos c18] at H
        have c18b0 : decide (x9_1 < (l0_2.length : Int)) = true:=decide_eq_true c18
        clear c18
        by_cases c19 : 0 ≤ x9_1
        ·
         rw [if_pos c19] at H
         have c19b0 : decide (0 ≤ x9_1) = true:=decide_eq_true c19
         clear c19
         by_cases c20 : ((rd_T36 l0_2 x9_1).f0) = a1
         ·
          rw [if_pos c20] at H
          have c20b0 : (((rd_T36 l0_2 x9_1).f0) == a1) = true:=beq_iff_eq.mpr c20
          have c20b1 : (((rd_T36 l0_2 x9_1).f0) != a1) = false:=bne_eq_false_iff_eq.mpr c20
          clear c20
          by_cases c21 : 0 ≤ ((rd_T36 l0_2 x9_1).f2)
          ·
           rw [if_pos c21] at H
           have c21b0 : decide (0 ≤ ((rd_T36 l0_2 x9_1).f2)) = true:=decide_eq_true c21
           clear c21
           by_cases c22 : ((rd_T36 l0_2 x9_1).f2) < (x195000_1.length : Int)
           ·
            rw [if_pos c22] at H
            have c22b0 : decide (((rd_T36 l0_2 x9_1).f2) < (x195000_1.length : Int)) = true:=decide_eq_true c22
            clear c22
            obtain ⟨y204,hy204⟩ : ∃ y_ : List ByteArray,y_ = (x195000_1.set (((rd_T36 l0_2 x9_1).f2) : Int).toNat ((rd_T36 l0_2 x9_1).f3)):=⟨_,rfl⟩
            replace H : (spec_l3Flush.l0 k1 a1 x8_1 (wrap64 (x9_1 + 1)) y204 l0_1 l0_2) = some (r1,r2,r3,r4):=by first|(rw [hy204];with_reducible exact H)|(have H2_:=(Option.bind_some _ _).symm.trans H;rw [hy204];with_reducible exact H2_)|(have H2_:=(Option.bind_some _ _).symm.trans H;with_reducible exact H2_)|with_reducible exact H|(rw [hy204];exact H)|exact H
            have Ny204:=Aside0.mk hy204
            clear hy204
            have H':=Aside0.mk H
            clear H
            have hnb24:=NB194_195.out
            have hnc24:=NB195_194.out
            have hcz25_0 : wr.cell? ⟨gb194,0,none⟩ = some (u195000):=(blk_cell BK194.out 0).trans rfl
            have hcz25_1 : wr.cell? ⟨gb194,1,none⟩ = some (.slice (some ad197) l0_1.length co10):=(blk_cell BK194.out 1).trans rfl
            have hcz25_2 : wr.cell? ⟨gb194,2,none⟩ = some (.slice Ao11 l0_2.length co11):=(blk_cell BK194.out 2).trans rfl
            have hfz25_0:=blk_frozen BK194.out 0
            have hfz25_1:=blk_frozen BK194.out 1
            have hfz25_2:=blk_frozen BK194.out 2
            have p201 : 0 ≤ (x9_1 : Int):=of_decide_eq_true (by first|(with_reducible assumption)|assumption)
            have q201 : x9_1 < (l0_2.length : Int):=of_decide_eq_true (by first|(with_reducible assumption)|assumption)
            obtain ⟨ad201,e201,hx201_0,hx201_1,hx201_2,hx201_3⟩:=at_T36 (Kd.R_reads' HO_195002.out).2.2 x9_1 p201 q201
            cases e201
            replace p201:=eq_true p201
            replace q201:=eq_true q201
            try go_wp2
            have n0_:=Aside0.mk (Kd.R_drew HO_8.out)
            have n1_:=Aside0.mk (Kd.R_drew HO_195000.out)
            have n2_:=Aside0.mk (Kd.R_drew HO_195001.out)
            have n3_:=Aside0.mk (Kd.R_drew HO_195002.out)
            have n4_:=Aside0.mk (blk_drew BK194.out)
            have n5_:=Aside0.mk (blk_drew BK195.out)
            have n6_:=Aside0.mk (Kept.drew HK.out)
            have n7_:=Aside0.mk (below_drew1 HB.out)
            clear HO_8
            clear HO_195000
            clear HO_195001
            clear HO_195002
            clear BK194
            clear BK195
            clear HK
            clear HB
            have HO_8:=n0_
            have HO_195000:=n1_
            have HO_195001:=n2_
            have HO_195002:=n3_
            have BK194:=n4_
            have BK195:=n5_
            have HK:=n6_
            have HB:=n7_
            clear n0_ n1_ n2_ n3_ n4_ n5_ n6_ n7_
            have p202 : 0 ≤ (x9_1 : Int):=of_decide_eq_true (by first|(with_reducible assumption)|assumption)
            have q202 : x9_1 < (l0_2.length : Int):=of_decide_eq_true (by first|(with_reducible assumption)|assumption)
            obtain ⟨ad202,e202,hx202_0,hx202_1,hx202_2,hx202_3⟩:=at_T36 (Kd.R_reads' HO_195002.out).2.2 x9_1 p202 q202
            obtain rfl : ad201 = ad202:=(by injection e202)
            replace p202:=eq_true p202
            replace q202:=eq_true q202
            have p203 : 0 ≤ (x9_1 : Int):=of_decide_eq_true (by first|(with_reducible assumption)|assumption)
            have q203 : x9_1 < (l0_2.length : Int):=of_decide_eq_true (by first|(with_reducible assumption)|assumption)
            obtain ⟨ad203,e203,hx203_0,hx203_1,hx203_2,hx203_3⟩:=at_T36 (Kd.R_reads' HO_195002.out).2.2 x9_1 p203 q203
            obtain rfl : ad201 = ad203:=(by injection e203)
            replace p203:=eq_true p203
            replace q203:=eq_true q203
            have p23 : 0 ≤ (((rd_T36 l0_2 x9_1).f2) : Int):=of_decide_eq_true (by first|(with_reducible assumption)|assumption)
            have q23 : (((rd_T36 l0_2 x9_1).f2) : Int) < ((x195000_1.length : Int) : Int):=of_decide_eq_true (by first|(with_reducible assumption)|assumption)
            obtain ⟨go23,co23,eo23,gb23,gl23,cl23,HG23⟩:=Kd.R_form HO_195000.out (by omega)
            (first|cases eo23|(injection eo23 with ea_ en_ ec_;(first|subst ea_|(injection ea_ with ea_;subst ea_));subst ec_;clear en_))
            have GB23:=Aside0.mk gb23
            have GG23:=Aside0.mk HG23
            clear gb23 gl23 HG23
            have HMgo23:=Aside0.mk (show ((P0_0_ go23 ∨ P0_1_ go23 ∨ P0_2_ go23) ∨ w.heap.size ≤ go23) from (HO_195000.out.1 _ rfl))
            obtain ⟨hx23_0,hf23_0⟩:=Kd.R_celln (⟨#[]⟩ : ByteArray) HO_195000.out (((rd_T36 l0_2 x9_1).f2) : Int) p23 q23
            replace p23:=eq_true p23
            replace q23:=eq_true q23
            have HP27:=Kd.R_putn HO_195000.out (((rd_T36 l0_2 x9_1).f2) : Int) ((rd_T36 l0_2 x9_1).f3)
            rw [← Ny204.out] at HP27
            have HQ27:=Aside0.mk HP27
            clear HP27
            refine start_ (n:=16) (S:=fun w' => w'.cell? ⟨gb194,0,none⟩ = some (.slice (some ⟨go23,0,none⟩) x195000_1.length co23) ∧ w'.cell? ⟨gb194,1,none⟩ = some (.slice (some ad197) l0_1.length co10) ∧ w'.cell? ⟨gb194,2,none⟩ = some (.slice (some ad201) l0_2.length co11) ∧ w'.cell? (ad201.add ((x9_1).toNat * 4)) = some (.int .i64 ((rd_T36 l0_2 x9_1).f0)) ∧ w'.cell? ⟨(ad201.add ((x9_1).toNat * 4)).block,(ad201.add ((x9_1).toNat * 4)).off + 1,none⟩ = some (.int .i64 ((rd_T36 l0_2 x9_1).f1)) ∧ w'.cell? ⟨(ad201.add ((x9_1).toNat * 4)).block,(ad201.add ((x9_1).toNat * 4)).off + 2,none⟩ = some (.int .i64 ((rd_T36 l0_2 x9_1).f2)) ∧ w'.cell? ⟨(ad201.add ((x9_1).toNat * 4)).block,(ad201.add ((x9_1).toNat * 4)).off + 3,none⟩ = some (.string ((rd_T36 l0_2 x9_1).f3)) ∧ w'.cell? (ad201.add ((x9_1).toNat * 4)) = some (.int .i64 ((rd_T36 l0_2 x9_1).f0)) ∧ w'.cell? ⟨(ad201.add ((x9_1).toNat * 4)).block,(ad201.add ((x9_1).toNat * 4)).off + 1,none⟩ = some (.int .i64 ((rd_T36 l0_2 x9_1).f1)) ∧ w'.cell? ⟨(ad201.add ((x9_1).toNat * 4)).block,(ad201.add ((x9_1).toNat * 4)).off + 2,none⟩ = some (.int .i64 ((rd_T36 l0_2 x9_1).f2)) ∧ w'.cell? ⟨(ad201.add ((x9_1).toNat * 4)).block,(ad201.add ((x9_1).toNat * 4)).off + 3,none⟩ = some (.string ((rd_T36 l0_2 x9_1).f3))) (ds:=[15]) #[F,F,F,F,F,F,F,F,F,F,F,F,F,F,F,F] (by kernel_rfl) rfl rfl ⟨(blk_cell BK194.out 0).trans rfl,(blk_cell BK194.out 1).trans rfl,(blk_cell BK194.out 2).trans rfl,hx202_0,hx202_1,hx202_2,hx202_3,hx203_0,hx203_1,hx203_2,hx203_3⟩ (fun hHeld => ?_);refine with_tabW spec_l3Flush.tab10 spec_l3Flush.bits10 (fun HT_ HW_ => ?_)
            generalize wr.drew = w26 at HO_8 HO_195000 HO_195001 HO_195002 BK194 BK195 HK HB GG23 HQ27 hf23_0 hx202_0 hx202_1 hx202_2 hx202_3 hx203_0 hx203_1 hx203_2 hx203_3 hx23_0 hHeld ⊢
            refine pure_ (i:=0) (N:=some 38) (v:=?_) (a':=?_) #[T,F,F,F,F,F,F,F,F,F,F,F,F,F,F,F] rfl rfl (any_of HT_.out (by kernel_rfl)) (fun _ _ _ h => h) (Or.inl ⟨by rfl,?_⟩) ?_ ?_
            rotate_left
            ·
             intro w'
             go_simp
             with_reducible rfl
            rotate_left
            ·
             simp only [Act.put,List.setIfInBounds_toArray,List.set_cons_zero,List.set_cons_succ,i64_w,i32_w]
             rfl
            refine pure_ (i:=2) (N:=some 40) (v:=?_) (a':=?_) #[T,F,T,F,F,F,F,F,F,F,F,F,F,F,F,F] rfl rfl (any_of HT_.out (by kernel_rfl)) (fun _ _ _ h => h) (Or.inl ⟨by rfl,?_⟩) ?_ ?_
            rotate_left
            ·
             intro w'
             go_simp
             with_reducible rfl
            rotate_left
            ·
             simp only [Act.put,List.setIfInBounds_toArray,List.set_cons_zero,List.set_cons_succ,i64_w,i32_w]
             rfl
            refine pure_ (i:=4) (N:=some 42) (v:=?_) (a':=?_) #[T,F,T,F,T,F,F,F,F,F,F,F,F,F,F,F] rfl rfl (any_of HT_.out (by kernel_rfl)) (fun _ _ _ h => h) (Or.inl ⟨by rfl,?_⟩) ?_ ?_
            rotate_left
            ·
             intro w'
             go_simp
             with_reducible rfl
            rotate_left
            ·
             simp only [Act.put,List.setIfInBounds_toArray,List.set_cons_zero,List.set_cons_succ,i64_w,i32_w]
             rfl
            refine pure_ (i:=8) (N:=some 46) (v:=?_) (a':=?_) #[T,F,T,F,T,F,F,F,T,F,F,F,F,F,F,F] rfl rfl (any_of HT_.out (by kernel_rfl)) (fun _ _ _ h => h) (Or.inl ⟨by rfl,?_⟩) ?_ ?_
            rotate_left
            ·
             intro w'
             go_simp
             with_reducible rfl
            rotate_left
            ·
             simp only [Act.put,List.setIfInBounds_toArray,List.set_cons_zero,List.set_cons_succ,i64_w,i32_w]
             rfl
            refine pure_ (i:=10) (N:=some 48) (v:=?_) (a':=?_) #[T,F,T,F,T,F,F,F,T,F,T,F,F,F,F,F] rfl rfl (any_of HT_.out (by kernel_rfl)) (fun _ _ _ h => h) (Or.inl ⟨by rfl,?_⟩) ?_ ?_
            rotate_left
            ·
             intro w'
             go_simp
             with_reducible rfl
            rotate_left
            ·
             simp only [Act.put,List.setIfInBounds_toArray,List.set_cons_zero,List.set_cons_succ,i64_w,i32_w]
             rfl
            refine take_ (i:=1) (N:=some 39) (v:=?_) (a':=?_) #[T,T,T,F,T,F,F,F,T,F,T,F,F,F,F,F] rfl rfl (take_ofW HT_.out HW_.out (by kernel_rfl)) (fun _ _ _ h => h) (Or.inl ⟨by rfl,?_⟩) hHeld ?_ ?_
            rotate_left
            ·
             rintro w' ⟨s0,s1,s2,s3,s4,s5,s6,s7,s8,s9,s10⟩
             go_simp
             with_reducible rfl
            rotate_left
            ·
             simp only [Act.put,List.setIfInBounds_toArray,List.set_cons_zero,List.set_cons_succ,i64_w,i32_w]
             rfl
            refine take_ (i:=3) (N:=some 41) (v:=?_) (a':=?_) #[T,T,T,T,T,F,F,F,T,F,T,F,F,F,F,F] rfl rfl (take_ofW HT_.out HW_.out (by kernel_rfl)) (fun _ _ _ h => h) (Or.inl ⟨by rfl,?_⟩) hHeld ?_ ?_
            rotate_left
            ·
             rintro w' ⟨s0,s1,s2,s3,s4,s5,s6,s7,s8,s9,s10⟩
             go_simp
             with_reducible rfl
            rotate_left
            ·
             simp only [Act.put,List.setIfInBounds_toArray,List.set_cons_zero,List.set_cons_succ,i64_w,i32_w]
             rfl
            refine pure_ (i:=5) (N:=some 43) (v:=?_) (a':=?_) #[T,T,T,T,T,T,F,F,T,F,T,F,F,F,F,F] rfl rfl (any_of HT_.out (by kernel_rfl)) (fun _ _ _ h => h) (Or.inl ⟨by rfl,?_⟩) ?_ ?_
            rotate_left
            ·
             intro w'
             go_simp
             with_reducible rfl
            rotate_left
            ·
             simp only [Act.put,List.setIfInBounds_toArray,List.set_cons_zero,List.set_cons_succ,i64_w,i32_w]
             rfl
            refine pure_ (i:=6) (N:=some 44) (v:=?_) (a':=?_) #[T,T,T,T,T,T,T,F,T,F,T,F,F,F,F,F] rfl rfl (any_of HT_.out (by kernel_rfl)) (fun _ _ _ h => h) (Or.inl ⟨by rfl,?_⟩) ?_ ?_
            rotate_left
            ·
             intro w'
             go_simp
             with_reducible rfl
            rotate_left
            ·
             simp only [Act.put,List.setIfInBounds_toArray,List.set_cons_zero,List.set_cons_succ,i64_w,i32_w]
             rfl
            refine take_ (i:=7) (N:=some 45) (v:=?_) (a':=?_) #[T,T,T,T,T,T,T,T,T,F,T,F,F,F,F,F] rfl rfl (take_ofW HT_.out HW_.out (by kernel_rfl)) (fun _ _ _ h => h) (Or.inl ⟨by rfl,?_⟩) hHeld ?_ ?_
            rotate_left
            ·
             rintro w' ⟨s0,s1,s2,s3,s4,s5,s6,s7,s8,s9,s10⟩
             go_simp
             with_reducible rfl
            rotate_left
            ·
             simp only [Act.put,List.setIfInBounds_toArray,List.set_cons_zero,List.set_cons_succ,i64_w,i32_w]
             rfl
            refine take_ (i:=9) (N:=some 47) (v:=?_) (a':=?_) #[T,T,T,T,T,T,T,T,T,T,T,F,F,F,F,F] rfl rfl (take_ofW HT_.out HW_.out (by kernel_rfl)) (fun _ _ _ h => h) (Or.inl ⟨by rfl,?_⟩) hHeld ?_ ?_
            rotate_left
            ·
             rintro w' ⟨s0,s1,s2,s3,s4,s5,s6,s7,s8,s9,s10⟩
             go_simp
             with_reducible rfl
            rotate_left
            ·
             simp only [Act.put,List.setIfInBounds_toArray,List.set_cons_zero,List.set_cons_succ,i64_w,i32_w]
             rfl
            refine pure_ (i:=11) (N:=some 49) (v:=?_) (a':=?_) #[T,T,T,T,T,T,T,T,T,T,T,T,F,F,F,F] rfl rfl (any_of HT_.out (by kernel_rfl)) (fun _ _ _ h => h) (Or.inl ⟨by rfl,?_⟩) ?_ ?_
            rotate_left
            ·
             intro w'
             go_simp
             with_reducible rfl
            rotate_left
            ·
             simp only [Act.put,List.setIfInBounds_toArray,List.set_cons_zero,List.set_cons_succ,i64_w,i32_w]
             rfl
            refine pure_ (i:=12) (N:=some 50) (v:=?_) (a':=?_) #[T,T,T,T,T,T,T,T,T,T,T,T,T,F,F,F] rfl rfl (any_of HT_.out (by kernel_rfl)) (fun _ _ _ h => h) (Or.inl ⟨by rfl,?_⟩) ?_ ?_
            rotate_left
            ·
             intro w'
             go_simp
             with_reducible rfl
            rotate_left
            ·
             simp only [Act.put,List.setIfInBounds_toArray,List.set_cons_zero,List.set_cons_succ,i64_w,i32_w]
             rfl
            refine take_ (i:=13) (N:=some 51) (v:=?_) (a':=?_) #[T,T,T,T,T,T,T,T,T,T,T,T,T,T,F,F] rfl rfl (take_ofW HT_.out HW_.out (by kernel_rfl)) (fun _ _ _ h => h) (Or.inl ⟨by rfl,?_⟩) hHeld ?_ ?_
            rotate_left
            ·
             rintro w' ⟨s0,s1,s2,s3,s4,s5,s6,s7,s8,s9,s10⟩
             go_simp
             with_reducible rfl
            rotate_left
            ·
             simp only [Act.put,List.setIfInBounds_toArray,List.set_cons_zero,List.set_cons_succ,i64_w,i32_w]
             rfl
            refine pure_ (i:=14) (N:=some 52) (v:=?_) (a':=?_) #[T,T,T,T,T,T,T,T,T,T,T,T,T,T,T,F] rfl rfl (any_of HT_.out (by kernel_rfl)) (fun _ _ _ h => h) (Or.inl ⟨by rfl,?_⟩) ?_ ?_
            rotate_left
            ·
             intro w'
             go_simp
             with_reducible rfl
            rotate_left
            ·
             simp only [Act.put,List.setIfInBounds_toArray,List.set_cons_zero,List.set_cons_succ,i64_w,i32_w]
             rfl
            refine last_ (i:=15) (N:=none) #[T,T,T,T,T,T,T,T,T,T,T,T,T,T,T,T] rfl rfl (one_of HT_.out (by kernel_rfl)) (by decide) (fun K hK => ?_)
            refine skip_ (w1:=?_) (by rfl) rfl ?_ ?_
            rotate_left
            ·
             go_simp
             rfl
            refine hK.out _ _ ?_
            clear hK K
            refine done_ (done_of HT_.out (by kernel_rfl)) ?_
            try go_wp2
            go_roundg k1
            case measure => have:=HK1.out;omega
            case rel => exact ⟨(x8_1),(wrap64 (x9_1 + 1)),(y204),(.slice (some ⟨go23,0,none⟩) x195000_1.length co23),(by first|rfl|(simp;done)|(simp [*];done)),H',⟨by have:=HK1.out;omega⟩,⟨by (with_reducible repeat (first|apply Kd.R_alloc|apply Kd.R_drewN|apply Kd.R_drew));exact Kd.R_mono (Kd.R_far (p:=⟨go23,(((rd_T36 l0_2 x9_1).f2) : Int).toNat,none⟩) (Kd.R_types HO_8.out GG23.out (by decide)) (fun _ hk => hk.2) (.string ((rd_T36 l0_2 x9_1).f3))) (fun _ hk => ⟨hk.1.1,hk.1.2⟩)⟩,⟨by (with_reducible repeat (first|apply Kd.R_alloc|apply Kd.R_drewN|apply Kd.R_drew));exact HQ27.out⟩,⟨by (with_reducible repeat (first|apply Kd.R_alloc|apply Kd.R_drewN|apply Kd.R_drew));exact Kd.R_mono (Kd.R_far (p:=⟨go23,(((rd_T36 l0_2 x9_1).f2) : Int).toNat,none⟩) (Kd.R_types HO_195001.out GG23.out (by decide)) (fun _ hk => hk.2) (.string ((rd_T36 l0_2 x9_1).f3))) (fun _ hk => hk.1)⟩,⟨by (with_reducible repeat (first|apply Kd.R_alloc|apply Kd.R_drewN|apply Kd.R_drew));exact Kd.R_mono (Kd.R_far (p:=⟨go23,(((rd_T36 l0_2 x9_1).f2) : Int).toNat,none⟩) (Kd.R_types HO_195002.out GG23.out (by decide)) (fun _ hk => hk.2) (.string ((rd_T36 l0_2 x9_1).f3))) (fun _ hk => ⟨hk.1.1,hk.1.2⟩)⟩,⟨by (with_reducible repeat (first|refine blk_drewN ?_ _|refine blk_drew ?_|refine blk_alloc ?_ _));refine blk_far ?_ (by have h_:=Kd.R_ne HO_195000.out BK194.out (by decide);intro e_;exact h_ (by rw [e_];rfl)) _;(with_reducible repeat (first|refine blk_drewN ?_ _|refine blk_drew ?_|refine blk_alloc ?_ _));exact BK194.out⟩,⟨by (with_reducible repeat (first|refine blk_drewN ?_ _|refine blk_drew ?_|refine blk_alloc ?_ _));refine blk_far ?_ (by have h_:=Kd.R_ne HO_195000.out BK195.out (by decide);intro e_;exact h_ (by rw [e_];rfl)) _;(with_reducible repeat (first|refine blk_drewN ?_ _|refine blk_drew ?_|refine blk_alloc ?_ _));exact BK195.out⟩,⟨by repeat (first|(with_reducible first|exact HK.out|apply Kept.alloc|apply Kept.drewN|apply Kept.drew|refine Kept.setCell ?_ HMgo23.out _|refine Kept.setCell ?_ (.inr GW194.out) _|refine Kept.setCell ?_ (.inr GW195.out) _)|exact HK.out)⟩,⟨by repeat (first|(with_reducible first|exact HB.out|apply below_alloc|apply pw_below_drewN|apply below_drew1|refine below_set ?_ GB23.out|refine below_set ?_ GE194.out|refine below_set ?_ GE195.out)|exact HB.out)⟩⟩
           ·
            rw [if_neg c22] at H
            exact absurd H (by simp)
          ·
           rw [if_neg c21] at H
           exact absurd H (by simp)
         ·
          rw [if_neg c20] at H
          have c20b0 : (((rd_T36 l0_2 x9_1).f0) == a1) = false:=beq_eq_false_iff_ne.mpr c20
          have c20b1 : (((rd_T36 l0_2 x9_1).f0) != a1) = true:=bne_iff_ne.mpr c20
          by_cases c28 : x8_1.length < 3518437208883
          ·
           rw [if_pos c28] at H
           have LMc28:=Aside0.mk c28
           clear c28
           obtain ⟨y206,hy206⟩ : ∃ y_ : List (S36),y_ = (x8_1 ++ [(⟨(rd_T36 l0_2 x9_1).f0,(rd_T36 l0_2 x9_1).f1,(rd_T36 l0_2 x9_1).f2,(rd_T36 l0_2 x9_1).f3⟩ : S36)]):=⟨_,rfl⟩
           replace H : (spec_l3Flush.l0 k1 a1 y206 (wrap64 (x9_1 + 1)) x195000_1 l0_1 l0_2) = some (r1,r2,r3,r4):=by first|(rw [hy206];with_reducible exact H)|(have H2_:=(Option.bind_some _ _).symm.trans H;rw [hy206];with_reducible exact H2_)|(have H2_:=(Option.bind_some _ _).symm.trans H;with_reducible exact H2_)|with_reducible exact H|(rw [hy206];exact H)|exact H
           have Ny206:=Aside0.mk hy206
           clear hy206
           have H':=Aside0.mk H
           clear H
           have hnb29:=NB194_195.out
           have hnc29:=NB195_194.out
           have hcz30_0 : wr.cell? ⟨gb194,0,none⟩ = some (u195000):=(blk_cell BK194.out 0).trans rfl
           have hcz30_1 : wr.cell? ⟨gb194,1,none⟩ = some (.slice (some ad197) l0_1.length co10):=(blk_cell BK194.out 1).trans rfl
           have hcz30_2 : wr.cell? ⟨gb194,2,none⟩ = some (.slice Ao11 l0_2.length co11):=(blk_cell BK194.out 2).trans rfl
           have hfz30_0:=blk_frozen BK194.out 0
           have hfz30_1:=blk_frozen BK194.out 1
           have hfz30_2:=blk_frozen BK194.out 2
           have p201 : 0 ≤ (x9_1 : Int):=of_decide_eq_true (by first|(with_reducible assumption)|assumption)
           have q201 : x9_1 < (l0_2.length : Int):=of_decide_eq_true (by first|(with_reducible assumption)|assumption)
           obtain ⟨ad201,e201,hx201_0,hx201_1,hx201_2,hx201_3⟩:=at_T36 (Kd.R_reads' HO_195002.out).2.2 x9_1 p201 q201
           cases e201
           replace p201:=eq_true p201
           replace q201:=eq_true q201
           have p205 : 0 ≤ (x9_1 : Int):=of_decide_eq_true (by first|(with_reducible assumption)|assumption)
           have q205 : x9_1 < (l0_2.length : Int):=of_decide_eq_true (by first|(with_reducible assumption)|assumption)
           obtain ⟨ad205,e205,hx205_0,hx205_1,hx205_2,hx205_3⟩:=at_T36 (Kd.R_reads' HO_195002.out).2.2 x9_1 p205 q205
           obtain rfl : ad201 = ad205:=(by injection e205)
           replace p205:=eq_true p205
           replace q205:=eq_true q205
           go_wp2_with (first|((with_reducible refine gate_builtin (b:=.append) (xs:=#[.tmp 53,.tmp 59]) rfl ?_);at_builtin;refine Kd.R_append k36 (w0:=w0) w0.heap.size rfl (.tmp 53) (.tmp 59) 26 36 (.agg #[(.int .i64 0),(.int .i64 0),(.int .i64 0),(.string ⟨#[]⟩)]) 40 rfl Try.underlying26 info36 rfl (by decide) (by omega) u8 x8_1 (⟨(rd_T36 l0_2 x9_1).f0,(rd_T36 l0_2 x9_1).f1,(rd_T36 l0_2 x9_1).f2,(rd_T36 l0_2 x9_1).f3⟩ : S36) [.int .i64 ((rd_T36 l0_2 x9_1).f0),.int .i64 ((rd_T36 l0_2 x9_1).f1),.int .i64 ((rd_T36 l0_2 x9_1).f2),.string ((rd_T36 l0_2 x9_1).f3)] (fun k_ => ((P0_0_ k_ ∨ P0_1_ k_ ∨ P0_2_ k_) ∨ w.heap.size ≤ k_) ∧ some k_ ≠ (.slice (some ad201) l0_2.length co11 : Value).ownBlock) (fun _ => False) rfl rfl ?aP (fun _ hk => hk.elim) ?aF ?aO ?aB ?aS ?aL ?_;(case aP => exact k36_mkM _ _ _ (⟨(rd_T36 l0_2 x9_1).f0,(rd_T36 l0_2 x9_1).f1,(rd_T36 l0_2 x9_1).f2,(rd_T36 l0_2 x9_1).f3⟩ : S36));(case aB => exact (by repeat (first|(with_reducible first|exact HB.out|apply below_alloc|apply pw_below_drewN|apply below_drew1|refine below_set ?_ GE194.out|refine below_set ?_ GE195.out)|exact HB.out)));(case aF => exact (fun k_ hk => ⟨(.inr (Nat.le_trans (by first|exact HK.out.1|exact (show Kept w _ (fun k_ => P0_0_ k_ ∨ P0_1_ k_ ∨ P0_2_ k_) from by repeat (first|(with_reducible first|exact HK.out|apply Kept.alloc|apply Kept.drewN|apply Kept.drew|refine Kept.setCell ?_ (.inr GW194.out) _|refine Kept.setCell ?_ (.inr GW195.out) _)|exact HK.out)).1) hk)),Kd.fresh' (Kd.R_lt (by (with_reducible repeat (first|apply Kd.R_alloc|apply Kd.R_drewN|apply Kd.R_drew));exact HO_195002.out)) k_ hk⟩));(case aO => exact (by (with_reducible repeat (first|apply Kd.R_alloc|apply Kd.R_drewN|apply Kd.R_drew));exact HO_8.out));(case aS => exact (below_size (by repeat (first|(with_reducible first|exact HB.out|apply below_alloc|apply pw_below_drewN|apply below_drew1|refine below_set ?_ GE194.out|refine below_set ?_ GE195.out)|exact HB.out))));(case aL => have:=LMc28.out;omega);intro v207 w31 ho hb hg hat;rw [← Ny206.out] at ho;have n0_:=Aside0.mk (Kd.R_over' (by (with_reducible repeat (first|apply Kd.R_alloc|apply Kd.R_drewN|apply Kd.R_drew));exact HO_195000.out) (Kd.R_typed (by (with_reducible repeat (first|apply Kd.R_alloc|apply Kd.R_drewN|apply Kd.R_drew));exact HO_8.out)) (by decide) hg);have n1_:=Aside0.mk (Kd.R_over' (by (with_reducible repeat (first|apply Kd.R_alloc|apply Kd.R_drewN|apply Kd.R_drew));exact HO_195001.out) (Kd.R_typed (by (with_reducible repeat (first|apply Kd.R_alloc|apply Kd.R_drewN|apply Kd.R_drew));exact HO_8.out)) (by decide) hg);have n2_:=Aside0.mk (Kd.R_after (ok:=(fun k_ => ((P0_0_ k_ ∨ P0_1_ k_ ∨ P0_2_ k_) ∨ w.heap.size ≤ k_))) (by (with_reducible repeat (first|apply Kd.R_alloc|apply Kd.R_drewN|apply Kd.R_drew));exact HO_195002.out) hg hat);have n3_:=Aside0.mk (blk_grown (g:=gb194) (o:=.cells #[u195000,.slice (some ad197) l0_1.length co10,.slice (some ad201) l0_2.length co11] 28 (0,0)) (by (with_reducible repeat (first|refine blk_drewN ?_ _|refine blk_drew ?_|refine blk_alloc ?_ _));exact BK194.out) hg (Kd.R_ne HO_8.out BK194.out (by decide)));have n4_:=Aside0.mk (blk_grown (g:=gb195) (o:=.cells #[.slice none 0 0,.slice none 0 0,.slice none 0 0] 28 (0,0)) (by (with_reducible repeat (first|refine blk_drewN ?_ _|refine blk_drew ?_|refine blk_alloc ?_ _));exact BK195.out) hg (Kd.R_ne HO_8.out BK195.out (by decide)));have n5_:=Aside0.mk (hb);have n6_:=Aside0.mk (Kept.of_grown (S:=(fun k_ => P0_0_ k_ ∨ P0_1_ k_ ∨ P0_2_ k_)) hg (by repeat (first|(with_reducible first|exact HK.out|apply Kept.alloc|apply Kept.drewN|apply Kept.drew|refine Kept.setCell ?_ (.inr GW194.out) _|refine Kept.setCell ?_ (.inr GW195.out) _)|exact HK.out)) (fun k_ e_ => (HO_8.out.1 k_ e_).1));have n7_:=Aside0.mk (ho);clear HO_195000;clear HO_195001;clear HO_195002;clear BK194;clear BK195;clear HB;clear HK;clear HO_8;have HO_195000:=n0_;have HO_195001:=n1_;have HO_195002:=n2_;have BK194:=n3_;have BK195:=n4_;have HB:=n5_;have HK:=n6_;have HO208:=n7_;clear n0_ n1_ n2_ n3_ n4_ n5_ n6_ n7_;clear ho hb hg hat))
           go_roundg k1
           case measure => have:=HK1.out;omega
           case rel => exact ⟨(y206),(wrap64 (x9_1 + 1)),(x195000_1),(u195000),(by first|rfl|(simp;done)|(simp [*];done)),H',⟨by have:=HK1.out;omega⟩,⟨by (with_reducible repeat (first|apply Kd.R_alloc|apply Kd.R_drewN|apply Kd.R_drew));exact HO208.out⟩,⟨by (with_reducible repeat (first|apply Kd.R_alloc|apply Kd.R_drewN|apply Kd.R_drew));exact HO_195000.out⟩,⟨by (with_reducible repeat (first|apply Kd.R_alloc|apply Kd.R_drewN|apply Kd.R_drew));exact HO_195001.out⟩,⟨by (with_reducible repeat (first|apply Kd.R_alloc|apply Kd.R_drewN|apply Kd.R_drew));exact HO_195002.out⟩,⟨by (with_reducible repeat (first|refine blk_drewN ?_ _|refine blk_drew ?_|refine blk_alloc ?_ _));exact BK194.out⟩,⟨by (with_reducible repeat (first|refine blk_drewN ?_ _|refine blk_drew ?_|refine blk_alloc ?_ _));exact BK195.out⟩,⟨by repeat (first|(with_reducible first|exact HK.out|apply Kept.alloc|apply Kept.drewN|apply Kept.drew|refine Kept.setCell ?_ (.inr GW194.out) _|refine Kept.setCell ?_ (.inr GW195.out) _)|exact HK.out)⟩,⟨by repeat (first|(with_reducible first|exact HB.out|apply below_alloc|apply pw_below_drewN|apply below_drew1|refine below_set ?_ GE194.out|refine below_set ?_ GE195.out)|exact HB.out)⟩⟩
          ·
           rw [if_neg c28] at H
           exact absurd H (by simp)
        ·
         rw [if_neg c19] at H
         exact absurd H (by simp)
       ·
        rw [if_neg c18] at H
        have c18b0 : decide (x9_1 < (l0_2.length : Int)) = false:=decide_eq_false c18
        clear c18
        simp only [Option.some.injEq,Prod.mk.injEq] at H
        obtain ⟨rfl,rfl,rfl,rfl⟩:=H
        have hnb32:=NB194_195.out
        have hnc32:=NB195_194.out
        have hcz33_0 : wr.cell? ⟨gb194,0,none⟩ = some (u195000):=(blk_cell BK194.out 0).trans rfl
        have hcz33_1 : wr.cell? ⟨gb194,1,none⟩ = some (.slice (some ad197) l0_1.length co10):=(blk_cell BK194.out 1).trans rfl
        have hcz33_2 : wr.cell? ⟨gb194,2,none⟩ = some (.slice Ao11 l0_2.length co11):=(blk_cell BK194.out 2).trans rfl
        have hfz33_0:=blk_frozen BK194.out 0
        have hfz33_1:=blk_frozen BK194.out 1
        have hfz33_2:=blk_frozen BK194.out 2
        obtain ⟨Ao34,co34,eo34⟩:=Kd.R_slice HO_8.out
        subst eo34
        obtain ⟨Ao35,co35,eo35⟩:=Kd.R_slice HO_195000.out
        subst eo35
        have hcz36_0 : wr.cell? ⟨gb195,0,none⟩ = some (.slice none 0 0):=(blk_cell BK195.out 0).trans rfl
        have hcz36_1 : wr.cell? ⟨gb195,1,none⟩ = some (.slice none 0 0):=(blk_cell BK195.out 1).trans rfl
        have hcz36_2 : wr.cell? ⟨gb195,2,none⟩ = some (.slice none 0 0):=(blk_cell BK195.out 2).trans rfl
        have hfz36_0:=blk_frozen BK195.out 0
        have hfz36_1:=blk_frozen BK195.out 1
        have hfz36_2:=blk_frozen BK195.out 2
        go_wp2
        refine bodyPost_ret (results_ct rfl _ _ gb195 28 #[.slice Ao35 x195000_1.length co35,.slice (some ad197) l0_1.length co10,.slice Ao34 x8_1.length co34] (0,0) _ rfl (by (with_reducible repeat (first|refine blk_drewN ?_ _|refine blk_drew ?_|refine blk_alloc ?_ _));refine blk_put (cs:=#[.slice Ao35 x195000_1.length co35,.slice (some ad197) l0_1.length co10,.slice none 0 0]) ?_ 2 _ rfl;(with_reducible repeat (first|refine blk_drewN ?_ _|refine blk_drew ?_|refine blk_alloc ?_ _));refine blk_put (cs:=#[.slice Ao35 x195000_1.length co35,.slice none 0 0,.slice none 0 0]) ?_ 1 _ rfl;(with_reducible repeat (first|refine blk_drewN ?_ _|refine blk_drew ?_|refine blk_alloc ?_ _));refine blk_put (cs:=#[.slice none 0 0,.slice none 0 0,.slice none 0 0]) ?_ 0 _ rfl;(with_reducible repeat (first|refine blk_drewN ?_ _|refine blk_drew ?_|refine blk_alloc ?_ _));refine blk_far ?_ NB195_194.out _;(with_reducible repeat (first|refine blk_drewN ?_ _|refine blk_drew ?_|refine blk_alloc ?_ _));exact BK195.out) Try.underlying28 rfl (by kernel_rfl)) rfl ?_
        exact ⟨_,_,_,by first|rfl|(simp [errW_none,errW_some] <;> rfl)|(simp [*,errW_none,errW_some] <;> rfl),by (with_reducible repeat (first|apply Kd.R_alloc|apply Kd.R_drewN|apply Kd.R_drew));exact Kd.R_mono (Kd.R_far (p:=⟨gb195,2,none⟩) (Kd.R_far (p:=⟨gb195,1,none⟩) (Kd.R_far (p:=⟨gb195,0,none⟩) (Kd.R_far (p:=⟨gb194,2,none⟩) (Kd.R_types (Kd.R_types HO_195000.out BK194.out (by decide)) BK195.out (by decide)) (fun _ hk => hk.1.2) (.slice Ao34 x8_1.length co34)) (fun _ hk => hk.2) (.slice Ao35 x195000_1.length co35)) (fun _ hk => hk.2) (.slice (some ad197) l0_1.length co10)) (fun _ hk => hk.2) (.slice Ao34 x8_1.length co34)) (fun _ hk => hk.1.1),by (with_reducible repeat (first|apply Kd.R_alloc|apply Kd.R_drewN|apply Kd.R_drew));exact Kd.R_mono (Kd.R_far (p:=⟨gb195,2,none⟩) (Kd.R_far (p:=⟨gb195,1,none⟩) (Kd.R_far (p:=⟨gb195,0,none⟩) (Kd.R_far (p:=⟨gb194,2,none⟩) (Kd.R_types (Kd.R_types HO_195001.out BK194.out (by decide)) BK195.out (by decide)) (fun _ hk => hk.1.2) (.slice Ao34 x8_1.length co34)) (fun _ hk => hk.2) (.slice Ao35 x195000_1.length co35)) (fun _ hk => hk.2) (.slice (some ad197) l0_1.length co10)) (fun _ hk => hk.2) (.slice Ao34 x8_1.length co34)) (fun _ hk => hk.1.1),by (with_reducible repeat (first|apply Kd.R_alloc|apply Kd.R_drewN|apply Kd.R_drew));exact Kd.R_mono (Kd.R_far (p:=⟨gb195,2,none⟩) (Kd.R_far (p:=⟨gb195,1,none⟩) (Kd.R_far (p:=⟨gb195,0,none⟩) (Kd.R_far (p:=⟨gb194,2,none⟩) (Kd.R_types (Kd.R_types HO_8.out BK194.out (by decide)) BK195.out (by decide)) (fun _ hk => hk.1.2) (.slice Ao34 x8_1.length co34)) (fun _ hk => hk.2) (.slice Ao35 x195000_1.length co35)) (fun _ hk => hk.2) (.slice (some ad197) l0_1.length co10)) (fun _ hk => hk.2) (.slice Ao34 x8_1.length co34)) (fun _ hk => hk.1.1.1),by repeat (first|(with_reducible first|exact HB.out|apply below_alloc|apply pw_below_drewN|apply below_drew1|refine below_set ?_ GE194.out|refine below_set ?_ GE195.out)|exact HB.out),by repeat (first|(with_reducible first|exact HK.out|apply Kept.alloc|apply Kept.drewN|apply Kept.drew|refine Kept.setCell ?_ (.inr GW194.out) _|refine Kept.setCell ?_ (.inr GW195.out) _)|exact HK.out)⟩
    ·
     rw [if_neg c8] at H
     have c8b0 : ((rd l0_1 a1) == a2) = false:=beq_eq_false_iff_ne.mpr c8
     have c8b1 : ((rd l0_1 a1) != a2) = true:=bne_iff_ne.mpr c8
     simp only [Option.some.injEq,Prod.mk.injEq] at H
     obtain ⟨rfl,rfl,rfl,rfl⟩:=H
     obtain ⟨Ao37,co37,eo37⟩:=Kd.R_slice HO0_0.out
     subst eo37
     obtain ⟨Ao38,co38,eo38⟩:=Kd.R_slice HO0_1.out
     subst eo38
     obtain ⟨Ao39,co39,eo39⟩:=Kd.R_slice HO0_2.out
     subst eo39
     go_enter Try.func74,Try.ntmps74
     go_wp2_with (first|((with_reducible refine gate_dst (N:=3) rfl ?_);refine box_event ?hg (N:=3) ?hd (cs:=#[.slice Ao37 l0_0.length co37,.slice Ao38 l0_1.length co38,.slice Ao39 l0_2.length co39]) (t:=28) ?hr ?_;(case hd => rfl);(case hg => rfl);(case hr => first|(go_simp;done)|(go_simp;rfl));intro gb194 hg w40 hbox hb;have n0_:=Aside0.mk (Kd.R_below (by exact HO0_0.out) hb);have n1_:=Aside0.mk (Kd.R_below (by exact HO0_1.out) hb);have n2_:=Aside0.mk (Kd.R_below (by exact HO0_2.out) hb);have n3_:=Aside0.mk (Kept.below (S:=(fun k_ => P0_0_ k_ ∨ P0_1_ k_ ∨ P0_2_ k_)) (by exact HK.out) hb);have n4_:=Aside0.mk (below_step (by exact HB.out) hb);have n5_:=Aside0.mk (hbox);have n6_:=Aside0.mk ((by rw [hg];exact (by first|exact HK.out.1|exact (show Kept w _ (fun k_ => P0_0_ k_ ∨ P0_1_ k_ ∨ P0_2_ k_) from by exact HK.out).1) : w.heap.size ≤ gb194));have n7_:=Aside0.mk ((by rw [hg];exact (below_size (by exact HB.out)) : w0.heap.size ≤ gb194));clear HO0_0;clear HO0_1;clear HO0_2;clear HK;clear HB;have HO0_0:=n0_;have HO0_1:=n1_;have HO0_2:=n2_;have HK:=n3_;have HB:=n4_;have BK194:=n5_;have GW194:=n6_;have GE194:=n7_;clear n0_ n1_ n2_ n3_ n4_ n5_ n6_ n7_;clear hb hbox hg)|((with_reducible refine gate_dst (N:=6) rfl ?_);refine box_event ?hg (N:=6) ?hd (cs:=#[.slice none 0 0,.slice none 0 0,.slice none 0 0]) (t:=28) ?hr ?_;(case hd => rfl);(case hg => rfl);(case hr => first|(go_simp;done)|(go_simp;rfl));intro gb195 hg w41 hbox hb;have n0_:=Aside0.mk (Kd.R_below (by exact HO0_0.out) hb);have n1_:=Aside0.mk (Kd.R_below (by exact HO0_1.out) hb);have n2_:=Aside0.mk (Kd.R_below (by exact HO0_2.out) hb);have n3_:=Aside0.mk (blk_below BK194.out hb);have n4_:=Aside0.mk (Kept.below (S:=(fun k_ => P0_0_ k_ ∨ P0_1_ k_ ∨ P0_2_ k_)) (by exact HK.out) hb);have n5_:=Aside0.mk (below_step (by exact HB.out) hb);have n6_:=Aside0.mk (hbox);have n7_:=Aside0.mk ((by rw [hg];exact (by first|exact HK.out.1|exact (show Kept w _ (fun k_ => P0_0_ k_ ∨ P0_1_ k_ ∨ P0_2_ k_) from by exact HK.out).1) : w.heap.size ≤ gb195));have n8_:=Aside0.mk ((by rw [hg];exact (below_size (by exact HB.out)) : w0.heap.size ≤ gb195));have n9_:=Aside0.mk ((by rw [hg];exact Nat.ne_of_lt (blk_lt BK194.out) : gb194 ≠ gb195));have n10_:=Aside0.mk ((by rw [hg];exact Nat.ne_of_gt (blk_lt BK194.out) : gb195 ≠ gb194));clear HO0_0;clear HO0_1;clear HO0_2;clear BK194;clear HK;clear HB;have HO0_0:=n0_;have HO0_1:=n1_;have HO0_2:=n2_;have BK194:=n3_;have HK:=n4_;have HB:=n5_;have BK195:=n6_;have GW195:=n7_;have GE195:=n8_;have NB194_195:=n9_;have NB195_194:=n10_;clear n0_ n1_ n2_ n3_ n4_ n5_ n6_ n7_ n8_ n9_ n10_;clear hb hbox hg)|((with_reducible refine gate_callee (f:=40) rfl ?_);refine goesL_ (some 11) rfl rfl Try.func40 (by kernel_rfl) rfl #[.int .i64 a1] rfl (by (try simp only [List.map_toArray,List.map_cons,List.map_nil]);first|done|rfl|(simp only [List.length_drop,List.length_take];rfl)) ?_;(with_reducible refine (spec_l3Host.calls a1 true _ A4.out).mono ?_);rintro e w' ⟨rfl,⟨nd,rfl⟩⟩;refine ⟨_,rfl,?_⟩;(try (rw [drewN_self w41];generalize hq_ : World.drewN w41 _ = w41;have n0_ : Aside0 (Kd.R Kd.string 9 w41 w0.heap.size (fun k_ => (((P0_0_ k_ ∨ P0_1_ k_ ∨ P0_2_ k_) ∨ w.heap.size ≤ k_))) (.slice Ao37 l0_0.length co37) l0_0):=⟨by rw [← hq_];exact (by (with_reducible repeat (first|apply Kd.R_alloc|apply Kd.R_drewN|apply Kd.R_drew));exact HO0_0.out)⟩;have n1_ : Aside0 (Kd.R (Kd.int .i64) 3 w41 w0.heap.size (fun k_ => (((P0_0_ k_ ∨ P0_1_ k_ ∨ P0_2_ k_) ∨ w.heap.size ≤ k_))) (.slice Ao38 l0_1.length co38) l0_1):=⟨by rw [← hq_];exact (by (with_reducible repeat (first|apply Kd.R_alloc|apply Kd.R_drewN|apply Kd.R_drew));exact HO0_1.out)⟩;have n2_ : Aside0 (Kd.R k36 36 w41 w0.heap.size (fun k_ => (((P0_0_ k_ ∨ P0_1_ k_ ∨ P0_2_ k_) ∨ w.heap.size ≤ k_))) (.slice Ao39 l0_2.length co39) l0_2):=⟨by rw [← hq_];exact (by (with_reducible repeat (first|apply Kd.R_alloc|apply Kd.R_drewN|apply Kd.R_drew));exact HO0_2.out)⟩;have n3_ : Aside0 (w41.heap[gb194]? = some (.cells #[.slice Ao37 l0_0.length co37,.slice Ao38 l0_1.length co38,.slice Ao39 l0_2.length co39] 28 (0,0))):=⟨by rw [← hq_];exact (by (with_reducible repeat (first|refine blk_drewN ?_ _|refine blk_drew ?_|refine blk_alloc ?_ _));exact BK194.out)⟩;have n4_ : Aside0 (w41.heap[gb195]? = some (.cells #[.slice none 0 0,.slice none 0 0,.slice none 0 0] 28 (0,0))):=⟨by rw [← hq_];exact (by (with_reducible repeat (first|refine blk_drewN ?_ _|refine blk_drew ?_|refine blk_alloc ?_ _));exact BK195.out)⟩;have n5_ : Aside0 (Kept w w41 (fun k_ => P0_0_ k_ ∨ P0_1_ k_ ∨ P0_2_ k_)):=⟨by rw [← hq_];exact (by repeat (first|(with_reducible first|exact HK.out|apply Kept.alloc|apply Kept.drewN|apply Kept.drew|refine Kept.setCell ?_ (.inr GW194.out) _|refine Kept.setCell ?_ (.inr GW195.out) _)|exact HK.out))⟩;have n6_ : Aside0 (Below w0.heap.size w0 w41):=⟨by rw [← hq_];exact (by repeat (first|(with_reducible first|exact HB.out|apply below_alloc|apply pw_below_drewN|apply below_drew1|refine below_set ?_ GE194.out|refine below_set ?_ GE195.out)|exact HB.out))⟩;clear HO0_0 HO0_1 HO0_2 BK194 BK195 HK HB hq_;have HO0_0:=n0_;have HO0_1:=n1_;have HO0_2:=n2_;have BK194:=n3_;have BK195:=n4_;have HK:=n5_;have HB:=n6_;clear n0_ n1_ n2_ n3_ n4_ n5_ n6_));have hnb42:=NB194_195.out;have hnc42:=NB195_194.out;have hcz43_0 : w41.cell? ⟨gb194,0,none⟩ = some (.slice Ao37 l0_0.length co37):=(blk_cell BK194.out 0).trans rfl;have hcz43_1 : w41.cell? ⟨gb194,1,none⟩ = some (.slice Ao38 l0_1.length co38):=(blk_cell BK194.out 1).trans rfl;have hcz43_2 : w41.cell? ⟨gb194,2,none⟩ = some (.slice Ao39 l0_2.length co39):=(blk_cell BK194.out 2).trans rfl;have hfz43_0:=blk_frozen BK194.out 0;have hfz43_1:=blk_frozen BK194.out 1;have hfz43_2:=blk_frozen BK194.out 2;have p197 : 0 ≤ (a1 : Int):=of_decide_eq_true (by first|(with_reducible assumption)|assumption);have q197 : a1 < (l0_1.length : Int):=of_decide_eq_true (by first|(with_reducible assumption)|assumption);obtain ⟨ad197,e197,hx197_0⟩:=Kd.at_int (Kd.R_reads' HO0_1.out).2.2 a1 p197 q197;cases e197;replace p197:=eq_true p197;replace q197:=eq_true q197;have hcz44_0 : w41.cell? ⟨gb195,0,none⟩ = some (.slice none 0 0):=(blk_cell BK195.out 0).trans rfl;have hcz44_1 : w41.cell? ⟨gb195,1,none⟩ = some (.slice none 0 0):=(blk_cell BK195.out 1).trans rfl;have hcz44_2 : w41.cell? ⟨gb195,2,none⟩ = some (.slice none 0 0):=(blk_cell BK195.out 2).trans rfl;have hfz44_0:=blk_frozen BK195.out 0;have hfz44_1:=blk_frozen BK195.out 1;have hfz44_2:=blk_frozen BK195.out 2))
     refine bodyPost_ret (results_ct rfl _ _ gb195 28 #[.slice Ao37 l0_0.length co37,.slice (some ad197) l0_1.length co38,.slice Ao39 l0_2.length co39] (0,0) _ rfl (by (with_reducible repeat (first|refine blk_drewN ?_ _|refine blk_drew ?_|refine blk_alloc ?_ _));refine blk_put (cs:=#[.slice Ao37 l0_0.length co37,.slice (some ad197) l0_1.length co38,.slice none 0 0]) ?_ 2 _ rfl;(with_reducible repeat (first|refine blk_drewN ?_ _|refine blk_drew ?_|refine blk_alloc ?_ _));refine blk_put (cs:=#[.slice Ao37 l0_0.length co37,.slice none 0 0,.slice none 0 0]) ?_ 1 _ rfl;(with_reducible repeat (first|refine blk_drewN ?_ _|refine blk_drew ?_|refine blk_alloc ?_ _));refine blk_put (cs:=#[.slice none 0 0,.slice none 0 0,.slice none 0 0]) ?_ 0 _ rfl;(with_reducible repeat (first|refine blk_drewN ?_ _|refine blk_drew ?_|refine blk_alloc ?_ _));exact BK195.out) Try.underlying28 rfl (by kernel_rfl)) rfl ?_
     exact ⟨_,_,_,by first|rfl|(simp [errW_none,errW_some] <;> rfl)|(simp [*,errW_none,errW_some] <;> rfl),by (with_reducible repeat (first|apply Kd.R_alloc|apply Kd.R_drewN|apply Kd.R_drew));exact Kd.R_mono (Kd.R_far (p:=⟨gb195,2,none⟩) (Kd.R_far (p:=⟨gb195,1,none⟩) (Kd.R_far (p:=⟨gb195,0,none⟩) (Kd.R_types HO0_0.out BK195.out (by decide)) (fun _ hk => hk.2) (.slice Ao37 l0_0.length co37)) (fun _ hk => hk.2) (.slice (some ad197) l0_1.length co38)) (fun _ hk => hk.2) (.slice Ao39 l0_2.length co39)) (fun _ hk => hk.1),by (with_reducible repeat (first|apply Kd.R_alloc|apply Kd.R_drewN|apply Kd.R_drew));exact Kd.R_mono (Kd.R_far (p:=⟨gb195,2,none⟩) (Kd.R_far (p:=⟨gb195,1,none⟩) (Kd.R_far (p:=⟨gb195,0,none⟩) (Kd.R_types HO0_1.out BK195.out (by decide)) (fun _ hk => hk.2) (.slice Ao37 l0_0.length co37)) (fun _ hk => hk.2) (.slice (some ad197) l0_1.length co38)) (fun _ hk => hk.2) (.slice Ao39 l0_2.length co39)) (fun _ hk => hk.1),by (with_reducible repeat (first|apply Kd.R_alloc|apply Kd.R_drewN|apply Kd.R_drew));exact Kd.R_mono (Kd.R_far (p:=⟨gb195,2,none⟩) (Kd.R_far (p:=⟨gb195,1,none⟩) (Kd.R_far (p:=⟨gb195,0,none⟩) (Kd.R_types HO0_2.out BK195.out (by decide)) (fun _ hk => hk.2) (.slice Ao37 l0_0.length co37)) (fun _ hk => hk.2) (.slice (some ad197) l0_1.length co38)) (fun _ hk => hk.2) (.slice Ao39 l0_2.length co39)) (fun _ hk => hk.1),by repeat (first|(with_reducible first|exact HB.out|apply below_alloc|apply pw_below_drewN|apply below_drew1|refine below_set ?_ GE194.out|refine below_set ?_ GE195.out)|exact HB.out),by repeat (first|(with_reducible first|exact HK.out|apply Kept.alloc|apply Kept.drewN|apply Kept.drew|refine Kept.setCell ?_ (.inr GW194.out) _|refine Kept.setCell ?_ (.inr GW195.out) _)|exact HK.out)⟩
   ·
    rw [if_neg c7] at H
    exact absurd H (by simp)
  ·
   rw [if_neg c6] at H
   exact absurd H (by simp)
 ·
  replace c5:=Bool.eq_false_iff.mpr c5
  subst c5
  have H1 : (some (l0_0,l0_1,l0_2,1)) = some (r1,r2,r3,r4):=by rw [if_neg (show ¬ (false = true) by decide)] at H;exact H
  clear H
  have H:=H1
  clear H1
  simp only [Option.some.injEq,Prod.mk.injEq] at H
  obtain ⟨rfl,rfl,rfl,rfl⟩:=H
  obtain ⟨Ao45,co45,eo45⟩:=Kd.R_slice HO0_0.out
  subst eo45
  obtain ⟨Ao46,co46,eo46⟩:=Kd.R_slice HO0_1.out
  subst eo46
  obtain ⟨Ao47,co47,eo47⟩:=Kd.R_slice HO0_2.out
  subst eo47
  go_enter Try.func74,Try.ntmps74
  go_wp2_with (first|((with_reducible refine gate_dst (N:=3) rfl ?_);refine box_event ?hg (N:=3) ?hd (cs:=#[.slice Ao45 l0_0.length co45,.slice Ao46 l0_1.length co46,.slice Ao47 l0_2.length co47]) (t:=28) ?hr ?_;(case hd => rfl);(case hg => rfl);(case hr => first|(go_simp;done)|(go_simp;rfl));intro gb194 hg w48 hbox hb;have n0_:=Aside0.mk (Kd.R_below (by exact HO0_0.out) hb);have n1_:=Aside0.mk (Kd.R_below (by exact HO0_1.out) hb);have n2_:=Aside0.mk (Kd.R_below (by exact HO0_2.out) hb);have n3_:=Aside0.mk (Kept.below (S:=(fun k_ => P0_0_ k_ ∨ P0_1_ k_ ∨ P0_2_ k_)) (by exact HK.out) hb);have n4_:=Aside0.mk (below_step (by exact HB.out) hb);have n5_:=Aside0.mk (hbox);have n6_:=Aside0.mk ((by rw [hg];exact (by first|exact HK.out.1|exact (show Kept w _ (fun k_ => P0_0_ k_ ∨ P0_1_ k_ ∨ P0_2_ k_) from by exact HK.out).1) : w.heap.size ≤ gb194));have n7_:=Aside0.mk ((by rw [hg];exact (below_size (by exact HB.out)) : w0.heap.size ≤ gb194));clear HO0_0;clear HO0_1;clear HO0_2;clear HK;clear HB;have HO0_0:=n0_;have HO0_1:=n1_;have HO0_2:=n2_;have HK:=n3_;have HB:=n4_;have BK194:=n5_;have GW194:=n6_;have GE194:=n7_;clear n0_ n1_ n2_ n3_ n4_ n5_ n6_ n7_;clear hb hbox hg)|((with_reducible refine gate_dst (N:=6) rfl ?_);refine box_event ?hg (N:=6) ?hd (cs:=#[.slice none 0 0,.slice none 0 0,.slice none 0 0]) (t:=28) ?hr ?_;(case hd => rfl);(case hg => rfl);(case hr => first|(go_simp;done)|(go_simp;rfl));intro gb195 hg w49 hbox hb;have n0_:=Aside0.mk (Kd.R_below (by exact HO0_0.out) hb);have n1_:=Aside0.mk (Kd.R_below (by exact HO0_1.out) hb);have n2_:=Aside0.mk (Kd.R_below (by exact HO0_2.out) hb);have n3_:=Aside0.mk (blk_below BK194.out hb);have n4_:=Aside0.mk (Kept.below (S:=(fun k_ => P0_0_ k_ ∨ P0_1_ k_ ∨ P0_2_ k_)) (by exact HK.out) hb);have n5_:=Aside0.mk (below_step (by exact HB.out) hb);have n6_:=Aside0.mk (hbox);have n7_:=Aside0.mk ((by rw [hg];exact (by first|exact HK.out.1|exact (show Kept w _ (fun k_ => P0_0_ k_ ∨ P0_1_ k_ ∨ P0_2_ k_) from by exact HK.out).1) : w.heap.size ≤ gb195));have n8_:=Aside0.mk ((by rw [hg];exact (below_size (by exact HB.out)) : w0.heap.size ≤ gb195));have n9_:=Aside0.mk ((by rw [hg];exact Nat.ne_of_lt (blk_lt BK194.out) : gb194 ≠ gb195));have n10_:=Aside0.mk ((by rw [hg];exact Nat.ne_of_gt (blk_lt BK194.out) : gb195 ≠ gb194));clear HO0_0;clear HO0_1;clear HO0_2;clear BK194;clear HK;clear HB;have HO0_0:=n0_;have HO0_1:=n1_;have HO0_2:=n2_;have BK194:=n3_;have HK:=n4_;have HB:=n5_;have BK195:=n6_;have GW195:=n7_;have GE195:=n8_;have NB194_195:=n9_;have NB195_194:=n10_;clear n0_ n1_ n2_ n3_ n4_ n5_ n6_ n7_ n8_ n9_ n10_;clear hb hbox hg)|((with_reducible refine gate_callee (f:=40) rfl ?_);refine goesL_ (some 11) rfl rfl Try.func40 (by kernel_rfl) rfl #[.int .i64 a1] rfl (by (try simp only [List.map_toArray,List.map_cons,List.map_nil]);first|done|rfl|(simp only [List.length_drop,List.length_take];rfl)) ?_;(with_reducible refine (spec_l3Host.calls a1 false _ A4.out).mono ?_);rintro e w' ⟨rfl,⟨nd,rfl⟩⟩;refine ⟨_,rfl,?_⟩;(try (rw [drewN_self w49];generalize hq_ : World.drewN w49 _ = w49;have n0_ : Aside0 (Kd.R Kd.string 9 w49 w0.heap.size (fun k_ => (((P0_0_ k_ ∨ P0_1_ k_ ∨ P0_2_ k_) ∨ w.heap.size ≤ k_))) (.slice Ao45 l0_0.length co45) l0_0):=⟨by rw [← hq_];exact (by (with_reducible repeat (first|apply Kd.R_alloc|apply Kd.R_drewN|apply Kd.R_drew));exact HO0_0.out)⟩;have n1_ : Aside0 (Kd.R (Kd.int .i64) 3 w49 w0.heap.size (fun k_ => (((P0_0_ k_ ∨ P0_1_ k_ ∨ P0_2_ k_) ∨ w.heap.size ≤ k_))) (.slice Ao46 l0_1.length co46) l0_1):=⟨by rw [← hq_];exact (by (with_reducible repeat (first|apply Kd.R_alloc|apply Kd.R_drewN|apply Kd.R_drew));exact HO0_1.out)⟩;have n2_ : Aside0 (Kd.R k36 36 w49 w0.heap.size (fun k_ => (((P0_0_ k_ ∨ P0_1_ k_ ∨ P0_2_ k_) ∨ w.heap.size ≤ k_))) (.slice Ao47 l0_2.length co47) l0_2):=⟨by rw [← hq_];exact (by (with_reducible repeat (first|apply Kd.R_alloc|apply Kd.R_drewN|apply Kd.R_drew));exact HO0_2.out)⟩;have n3_ : Aside0 (w49.heap[gb194]? = some (.cells #[.slice Ao45 l0_0.length co45,.slice Ao46 l0_1.length co46,.slice Ao47 l0_2.length co47] 28 (0,0))):=⟨by rw [← hq_];exact (by (with_reducible repeat (first|refine blk_drewN ?_ _|refine blk_drew ?_|refine blk_alloc ?_ _));exact BK194.out)⟩;have n4_ : Aside0 (w49.heap[gb195]? = some (.cells #[.slice none 0 0,.slice none 0 0,.slice none 0 0] 28 (0,0))):=⟨by rw [← hq_];exact (by (with_reducible repeat (first|refine blk_drewN ?_ _|refine blk_drew ?_|refine blk_alloc ?_ _));exact BK195.out)⟩;have n5_ : Aside0 (Kept w w49 (fun k_ => P0_0_ k_ ∨ P0_1_ k_ ∨ P0_2_ k_)):=⟨by rw [← hq_];exact (by repeat (first|(with_reducible first|exact HK.out|apply Kept.alloc|apply Kept.drewN|apply Kept.drew|refine Kept.setCell ?_ (.inr GW194.out) _|refine Kept.setCell ?_ (.inr GW195.out) _)|exact HK.out))⟩;have n6_ : Aside0 (Below w0.heap.size w0 w49):=⟨by rw [← hq_];exact (by repeat (first|(with_reducible first|exact HB.out|apply below_alloc|apply pw_below_drewN|apply below_drew1|refine below_set ?_ GE194.out|refine below_set ?_ GE195.out)|exact HB.out))⟩;clear HO0_0 HO0_1 HO0_2 BK194 BK195 HK HB hq_;have HO0_0:=n0_;have HO0_1:=n1_;have HO0_2:=n2_;have BK194:=n3_;have BK195:=n4_;have HK:=n5_;have HB:=n6_;clear n0_ n1_ n2_ n3_ n4_ n5_ n6_));have hnb50:=NB194_195.out;have hnc50:=NB195_194.out;have hcz51_0 : w49.cell? ⟨gb194,0,none⟩ = some (.slice Ao45 l0_0.length co45):=(blk_cell BK194.out 0).trans rfl;have hcz51_1 : w49.cell? ⟨gb194,1,none⟩ = some (.slice Ao46 l0_1.length co46):=(blk_cell BK194.out 1).trans rfl;have hcz51_2 : w49.cell? ⟨gb194,2,none⟩ = some (.slice Ao47 l0_2.length co47):=(blk_cell BK194.out 2).trans rfl;have hfz51_0:=blk_frozen BK194.out 0;have hfz51_1:=blk_frozen BK194.out 1;have hfz51_2:=blk_frozen BK194.out 2;have hcz52_0 : w49.cell? ⟨gb195,0,none⟩ = some (.slice none 0 0):=(blk_cell BK195.out 0).trans rfl;have hcz52_1 : w49.cell? ⟨gb195,1,none⟩ = some (.slice none 0 0):=(blk_cell BK195.out 1).trans rfl;have hcz52_2 : w49.cell? ⟨gb195,2,none⟩ = some (.slice none 0 0):=(blk_cell BK195.out 2).trans rfl;have hfz52_0:=blk_frozen BK195.out 0;have hfz52_1:=blk_frozen BK195.out 1;have hfz52_2:=blk_frozen BK195.out 2))
  refine bodyPost_ret (results_ct rfl _ _ gb195 28 #[.slice Ao45 l0_0.length co45,.slice Ao46 l0_1.length co46,.slice Ao47 l0_2.length co47] (0,0) _ rfl (by (with_reducible repeat (first|refine blk_drewN ?_ _|refine blk_drew ?_|refine blk_alloc ?_ _));refine blk_put (cs:=#[.slice Ao45 l0_0.length co45,.slice Ao46 l0_1.length co46,.slice none 0 0]) ?_ 2 _ rfl;(with_reducible repeat (first|refine blk_drewN ?_ _|refine blk_drew ?_|refine blk_alloc ?_ _));refine blk_put (cs:=#[.slice Ao45 l0_0.length co45,.slice none 0 0,.slice none 0 0]) ?_ 1 _ rfl;(with_reducible repeat (first|refine blk_drewN ?_ _|refine blk_drew ?_|refine blk_alloc ?_ _));refine blk_put (cs:=#[.slice none 0 0,.slice none 0 0,.slice none 0 0]) ?_ 0 _ rfl;(with_reducible repeat (first|refine blk_drewN ?_ _|refine blk_drew ?_|refine blk_alloc ?_ _));exact BK195.out) Try.underlying28 rfl (by kernel_rfl)) rfl ?_
  exact ⟨_,_,_,by first|rfl|(simp [errW_none,errW_some] <;> rfl)|(simp [*,errW_none,errW_some] <;> rfl),by (with_reducible repeat (first|apply Kd.R_alloc|apply Kd.R_drewN|apply Kd.R_drew));exact Kd.R_mono (Kd.R_far (p:=⟨gb195,2,none⟩) (Kd.R_far (p:=⟨gb195,1,none⟩) (Kd.R_far (p:=⟨gb195,0,none⟩) (Kd.R_types HO0_0.out BK195.out (by decide)) (fun _ hk => hk.2) (.slice Ao45 l0_0.length co45)) (fun _ hk => hk.2) (.slice Ao46 l0_1.length co46)) (fun _ hk => hk.2) (.slice Ao47 l0_2.length co47)) (fun _ hk => hk.1),by (with_reducible repeat (first|apply Kd.R_alloc|apply Kd.R_drewN|apply Kd.R_drew));exact Kd.R_mono (Kd.R_far (p:=⟨gb195,2,none⟩) (Kd.R_far (p:=⟨gb195,1,none⟩) (Kd.R_far (p:=⟨gb195,0,none⟩) (Kd.R_types HO0_1.out BK195.out (by decide)) (fun _ hk => hk.2) (.slice Ao45 l0_0.length co45)) (fun _ hk => hk.2) (.slice Ao46 l0_1.length co46)) (fun _ hk => hk.2) (.slice Ao47 l0_2.length co47)) (fun _ hk => hk.1),by (with_reducible repeat (first|apply Kd.R_alloc|apply Kd.R_drewN|apply Kd.R_drew));exact Kd.R_mono (Kd.R_far (p:=⟨gb195,2,none⟩) (Kd.R_far (p:=⟨gb195,1,none⟩) (Kd.R_far (p:=⟨gb195,0,none⟩) (Kd.R_types HO0_2.out BK195.out (by decide)) (fun _ hk => hk.2) (.slice Ao45 l0_0.length co45)) (fun _ hk => hk.2) (.slice Ao46 l0_1.length co46)) (fun _ hk => hk.2) (.slice Ao47 l0_2.length co47)) (fun _ hk => hk.1),by repeat (first|(with_reducible first|exact HB.out|apply below_alloc|apply pw_below_drewN|apply below_drew1|refine below_set ?_ GE194.out|refine below_set ?_ GE195.out)|exact HB.out),by repeat (first|(with_reducible first|exact HK.out|apply Kept.alloc|apply Kept.drewN|apply Kept.drew|refine Kept.setCell ?_ (.inr GW194.out) _|refine Kept.setCell ?_ (.inr GW195.out) _)|exact HK.out)⟩
end Go.Proofs.Ytiejilaahkkhmaa.P
