-- Ours: printed or written for this claim; cut to what the theorem needs.
import Derived.Test.YtiejilaahkkhmaaZPx0
import Derived.Test.YtiejilaahkkhmaaZPx3
import Derived.Test.YtiejilaahkkhmaaZPx4
import Derived.Test.YtiejilaahkkhmaaZPx12
namespace Go.Proofs.Ytiejilaahkkhmaa.P
open Go.RowKit Go.Proofs.YtiejilaahkkhmaaW.PrintWords Go.Proofs.YtiejilaahkkhmaaW.PrintLast Go.Proofs.YtiejilaahkkhmaaW.PrintMore
attribute [local go_sem] max2_int min2_int max_two min_two max_three min_three max_four min_four
set_option linter.unusedVariables false
set_option linter.unusedSimpArgs false
mutual
def spec_l3Swap.j0 : Nat → Int → Int → Int → ByteArray → ByteArray → Bool → List ByteArray → List Int → List (S36) → Option (List ByteArray × List Int × (List (S36)) × Int)
  | 0,_,_,_,_,_,_,_,_,_ => none
  | k + 1,x1,x2,x3,x4,x5,x15,x640000,x640001,x640002 => if x15 = true then (some (x640000,x640001,x640002,1)) else (if 0 ≤ x1 then (if x1 < (x640001.length : Int) then (if (rd x640001 x1) = x2 then (if 0 ≤ x3 then (if x3 < (x640000.length : Int) then (if (rdOf ByteArray.empty x640000 x3).toList = x4.toList then (spec_l3Swap.l0 k x1 x3 x5 0 x640000 x640001 x640002) else (some (x640000,x640001,x640002,4))) else (none)) else (none)) else (some (x640000,x640001,x640002,2))) else (none)) else (none))
def spec_l3Swap.l0 : Nat → Int → Int → ByteArray → Int → List ByteArray → List Int → List (S36) → Option (List ByteArray × List Int × (List (S36)) × Int)
  | 0,_,_,_,_,_,_,_ => none
  | k + 1,x1,x3,x5,x14,x640000,x640001,x640002 => if x14 < (x640002.length : Int) then (if 0 ≤ x14 then (if ((rd_T36 x640002 x14).f0) = x1 then (if ((rd_T36 x640002 x14).f2) = x3 then (some (x640000,x640001,x640002,4)) else (spec_l3Swap.l0 k x1 x3 x5 (wrap64 (x14 + 1)) x640000 x640001 x640002)) else (spec_l3Swap.l0 k x1 x3 x5 (wrap64 (x14 + 1)) x640000 x640001 x640002)) else (none)) else (if 0 ≤ x3 then (if x3 < (x640000.length : Int) then (some ((x640000.set (x3 : Int).toNat x5),x640001,x640002,0)) else (none)) else (none))
end
def spec_l3Swap.f (k : Nat) (l0_0 : List ByteArray) (l0_1 : List Int) (l0_2 : List (S36)) (a1 : Int) (a2 : Int) (a3 : Int) (a4 : ByteArray) (a5 : ByteArray) : Option (List ByteArray × List Int × (List (S36)) × Int):=(spec_l3There.f l0_0 l0_1 l0_2 a1 a3).bind fun t641 => (if t641 = true then (if (a5.size : Int) > 700 then (spec_l3Swap.j0 k a1 a2 a3 a4 a5 true l0_0 l0_1 l0_2) else (spec_l3Swap.j0 k a1 a2 a3 a4 a5 (decide ((a4.size : Int) > 700)) l0_0 l0_1 l0_2)) else (spec_l3Swap.j0 k a1 a2 a3 a4 a5 true l0_0 l0_1 l0_2))
set_option maxHeartbeats 8000000 in
set_option maxRecDepth 100000 in
theorem spec_l3Swap.calls (k : Nat) (P0_0_ : Nat → Prop) (u9000_ : Value) (l0_0 : List ByteArray) (P0_1_ : Nat → Prop) (u9001_ : Value) (l0_1 : List Int) (P0_2_ : Nat → Prop) (u9002_ : Value) (l0_2 : List (S36)) (a1 : Int) (a2 : Int) (a3 : Int) (a4 : ByteArray) (a5 : ByteArray) (r1 : List ByteArray) (r2 : List Int) (r3 : List (S36)) (r4 : Int) (w0 w : World) (hB : Below w0.heap.size w0 w) (ho0_0 : Kd.R Kd.string 9 w w0.heap.size P0_0_ u9000_ l0_0) (ho0_1 : Kd.R (Kd.int .i64) 3 w w0.heap.size P0_1_ u9001_ l0_1) (ho0_2 : Kd.R k36 36 w w0.heap.size P0_2_ u9002_ l0_2) (h : spec_l3Swap.f k l0_0 l0_1 l0_2 a1 a2 a3 a4 a5 = some (r1,r2,r3,r4)) :
  Calls Try.prog 51 #[.agg #[u9000_,u9001_,u9002_],.int .i64 a1,.int .i64 a2,.int .i64 a3,.string a4,.string a5] w fun e w' => ∃ v0_ v1_ v2_ : Value,e = .returned (.tuple #[.agg #[v0_,v1_,v2_],.int .i64 r4]) ∧ Kd.R Kd.string 9 w' w0.heap.size (fun k_ => ((P0_0_ k_ ∨ P0_1_ k_ ∨ P0_2_ k_) ∨ w.heap.size ≤ k_)) v0_ r1 ∧ Kd.R (Kd.int .i64) 3 w' w0.heap.size (fun k_ => ((P0_0_ k_ ∨ P0_1_ k_ ∨ P0_2_ k_) ∨ w.heap.size ≤ k_)) v1_ r2 ∧ Kd.R k36 36 w' w0.heap.size (fun k_ => ((P0_0_ k_ ∨ P0_1_ k_ ∨ P0_2_ k_) ∨ w.heap.size ≤ k_)) v2_ r3 ∧ Below w0.heap.size w0 w' ∧ Kept w w' (fun k_ => P0_0_ k_ ∨ P0_1_ k_ ∨ P0_2_ k_):=by
 have hu28:=Try.underlying28
 have HO0_0:=Aside0.mk (show Kd.R Kd.string 9 w w0.heap.size (fun k_ => ((P0_0_ k_ ∨ P0_1_ k_ ∨ P0_2_ k_) ∨ w.heap.size ≤ k_)) u9000_ l0_0 from Kd.R_mono ho0_0 (fun k_ hk => (.inl (.inl hk))))
 have HO0_1:=Aside0.mk (show Kd.R (Kd.int .i64) 3 w w0.heap.size (fun k_ => ((P0_0_ k_ ∨ P0_1_ k_ ∨ P0_2_ k_) ∨ w.heap.size ≤ k_)) u9001_ l0_1 from Kd.R_mono ho0_1 (fun k_ hk => (.inl (.inr (.inl hk)))))
 have HO0_2:=Aside0.mk (show Kd.R k36 36 w w0.heap.size (fun k_ => ((P0_0_ k_ ∨ P0_1_ k_ ∨ P0_2_ k_) ∨ w.heap.size ≤ k_)) u9002_ l0_2 from Kd.R_mono ho0_2 (fun k_ hk => (.inl (.inr (.inr hk)))))
 have HK:=Aside0.mk (Kept.refl w (fun k_ => P0_0_ k_ ∨ P0_1_ k_ ∨ P0_2_ k_))
 have HW0:=Aside0.mk hB.size
 have HB:=Aside0.mk hB
 clear hB
 have H : ((spec_l3There.f l0_0 l0_1 l0_2 a1 a3).bind fun t641 => (if t641 = true then (if (a5.size : Int) > 700 then (spec_l3Swap.j0 k a1 a2 a3 a4 a5 true l0_0 l0_1 l0_2) else (spec_l3Swap.j0 k a1 a2 a3 a4 a5 (decide ((a4.size : Int) > 700)) l0_0 l0_1 l0_2)) else (spec_l3Swap.j0 k a1 a2 a3 a4 a5 true l0_0 l0_1 l0_2))) = some (r1,r2,r3,r4):=h
 clear h
 have HC7:=Aside0.mk H
 clear H
 obtain ⟨Ao8,co8,eo8⟩:=Kd.R_slice HO0_0.out
 subst eo8
 obtain ⟨Ao9,co9,eo9⟩:=Kd.R_slice HO0_1.out
 subst eo9
 obtain ⟨Ao10,co10,eo10⟩:=Kd.R_slice HO0_2.out
 subst eo10
 go_enter Try.func51,Try.ntmps51
 go_upto_region 1 with (first|((with_reducible refine gate_dst (N:=6) rfl ?_);(try (refine gate_guard (by rfl) ?_;dsimp only));refine box_event ?hg (N:=6) ?hd (cs:=#[.slice Ao8 l0_0.length co8,.slice Ao9 l0_1.length co9,.slice Ao10 l0_2.length co10]) (t:=28) ?hr ?_;(case hd => rfl);(case hg => rfl);(case hr => first|(go_simp;done)|(go_simp;rfl));intro gb639 hg w11 hbox hb;have n0_:=Aside0.mk (Kd.R_below (by exact HO0_0.out) hb);have n1_:=Aside0.mk (Kd.R_below (by exact HO0_1.out) hb);have n2_:=Aside0.mk (Kd.R_below (by exact HO0_2.out) hb);have n3_:=Aside0.mk (Kept.below (S:=(fun k_ => P0_0_ k_ ∨ P0_1_ k_ ∨ P0_2_ k_)) (by exact HK.out) hb);have n4_:=Aside0.mk (below_step (by exact HB.out) hb);have n5_:=Aside0.mk (hbox);have n6_:=Aside0.mk ((by rw [hg];exact (by first|exact HK.out.1|exact (show Kept w _ (fun k_ => P0_0_ k_ ∨ P0_1_ k_ ∨ P0_2_ k_) from by exact HK.out).1) : w.heap.size ≤ gb639));have n7_:=Aside0.mk ((by rw [hg];exact (below_size (by exact HB.out)) : w0.heap.size ≤ gb639));clear HO0_0;clear HO0_1;clear HO0_2;clear HK;clear HB;have HO0_0:=n0_;have HO0_1:=n1_;have HO0_2:=n2_;have HK:=n3_;have HB:=n4_;have BK639:=n5_;have GW639:=n6_;have GE639:=n7_;clear n0_ n1_ n2_ n3_ n4_ n5_ n6_ n7_;clear hb hbox hg)|((with_reducible refine gate_dst (N:=12) rfl ?_);(try (refine gate_guard (by rfl) ?_;dsimp only));refine box_event ?hg (N:=12) ?hd (cs:=#[.slice none 0 0,.slice none 0 0,.slice none 0 0]) (t:=28) ?hr ?_;(case hd => rfl);(case hg => rfl);(case hr => first|(go_simp;done)|(go_simp;rfl));intro gb640 hg w12 hbox hb;have n0_:=Aside0.mk (Kd.R_below (by exact HO0_0.out) hb);have n1_:=Aside0.mk (Kd.R_below (by exact HO0_1.out) hb);have n2_:=Aside0.mk (Kd.R_below (by exact HO0_2.out) hb);have n3_:=Aside0.mk (blk_below BK639.out hb);have n4_:=Aside0.mk (Kept.below (S:=(fun k_ => P0_0_ k_ ∨ P0_1_ k_ ∨ P0_2_ k_)) (by exact HK.out) hb);have n5_:=Aside0.mk (below_step (by exact HB.out) hb);have n6_:=Aside0.mk (hbox);have n7_:=Aside0.mk ((by rw [hg];exact (by first|exact HK.out.1|exact (show Kept w _ (fun k_ => P0_0_ k_ ∨ P0_1_ k_ ∨ P0_2_ k_) from by exact HK.out).1) : w.heap.size ≤ gb640));have n8_:=Aside0.mk ((by rw [hg];exact (below_size (by exact HB.out)) : w0.heap.size ≤ gb640));have n9_:=Aside0.mk ((by rw [hg];exact Nat.ne_of_lt (blk_lt BK639.out) : gb639 ≠ gb640));have n10_:=Aside0.mk ((by rw [hg];exact Nat.ne_of_gt (blk_lt BK639.out) : gb640 ≠ gb639));clear HO0_0;clear HO0_1;clear HO0_2;clear BK639;clear HK;clear HB;have HO0_0:=n0_;have HO0_1:=n1_;have HO0_2:=n2_;have BK639:=n3_;have HK:=n4_;have HB:=n5_;have BK640:=n6_;have GW640:=n7_;have GE640:=n8_;have NB639_640:=n9_;have NB640_639:=n10_;clear n0_ n1_ n2_ n3_ n4_ n5_ n6_ n7_ n8_ n9_ n10_;clear hb hbox hg))
 (try simp only [Act.put,List.setIfInBounds_toArray,List.set_cons_zero,List.set_cons_succ])
 go_cut [15] (fun v15 wc => ∃ (kq : Nat) (x15_6 : Bool),v15 = .bool x15_6 ∧ Aside0 (spec_l3Swap.j0 kq a1 a2 a3 a4 a5 x15_6 l0_0 l0_1 l0_2 = some (r1,r2,r3,r4)) ∧ Aside0 (kq ≤ k) ∧ Aside0 (Kd.R Kd.string 9 wc w0.heap.size (fun k_ => ((P0_0_ k_ ∨ P0_1_ k_ ∨ P0_2_ k_) ∨ w.heap.size ≤ k_)) (.slice Ao8 l0_0.length co8) l0_0) ∧ Aside0 (Kd.R (Kd.int .i64) 3 wc w0.heap.size (fun k_ => ((P0_0_ k_ ∨ P0_1_ k_ ∨ P0_2_ k_) ∨ w.heap.size ≤ k_)) (.slice Ao9 l0_1.length co9) l0_1) ∧ Aside0 (Kd.R k36 36 wc w0.heap.size (fun k_ => ((P0_0_ k_ ∨ P0_1_ k_ ∨ P0_2_ k_) ∨ w.heap.size ≤ k_)) (.slice Ao10 l0_2.length co10) l0_2) ∧ Aside0 (wc.heap[gb639]? = some (.cells #[(.slice Ao8 l0_0.length co8),(.slice Ao9 l0_1.length co9),(.slice Ao10 l0_2.length co10)] 28 (0,0))) ∧ Aside0 (wc.heap[gb640]? = some (.cells #[(.slice none 0 0),(.slice none 0 0),(.slice none 0 0)] 28 (0,0))) ∧ Aside0 (Kept w wc (fun k_ => P0_0_ k_ ∨ P0_1_ k_ ∨ P0_2_ k_)) ∧ Aside0 (Below w0.heap.size w0 wc))
 case first =>
  have H:=HC7.out
  clear HC7
  replace H:=Option.bind_eq_some_iff.mp H
  obtain ⟨t641,A130,H⟩:=H
  replace H : (if t641 = true then (if (a5.size : Int) > 700 then (spec_l3Swap.j0 k a1 a2 a3 a4 a5 true l0_0 l0_1 l0_2) else (spec_l3Swap.j0 k a1 a2 a3 a4 a5 (decide ((a4.size : Int) > 700)) l0_0 l0_1 l0_2)) else (spec_l3Swap.j0 k a1 a2 a3 a4 a5 true l0_0 l0_1 l0_2)) = some (r1,r2,r3,r4):=H
  have A13:=Aside0.mk A130
  clear A130
  by_cases c14 : t641 = true
  ·
   subst c14
   have H1 : (if (a5.size : Int) > 700 then (spec_l3Swap.j0 k a1 a2 a3 a4 a5 true l0_0 l0_1 l0_2) else (spec_l3Swap.j0 k a1 a2 a3 a4 a5 (decide ((a4.size : Int) > 700)) l0_0 l0_1 l0_2)) = some (r1,r2,r3,r4):=by rw [if_pos rfl] at H;exact H
   clear H
   have H:=H1
   clear H1
   by_cases c15 : (a5.size : Int) > 700
   ·
    rw [if_pos c15] at H
    have c15b0 : decide (700 < (a5.size : Int)) = true:=decide_eq_true c15
    have c15b1 : decide (700 < a5.size) = true:=decide_eq_true (by omega)
    clear c15
    (first|rw [c15b0]|(simp only [i64_w,i32_w];rw [c15b0])|rw [c15b2]|skip)
    have H':=Aside0.mk H
    clear H
    have hnb16:=NB639_640.out
    have hnc16:=NB640_639.out
    have hcz17_0 : w12.cell? ⟨gb639,0,none⟩ = some (.slice Ao8 l0_0.length co8):=(blk_cell BK639.out 0).trans rfl
    have hcz17_1 : w12.cell? ⟨gb639,1,none⟩ = some (.slice Ao9 l0_1.length co9):=(blk_cell BK639.out 1).trans rfl
    have hcz17_2 : w12.cell? ⟨gb639,2,none⟩ = some (.slice Ao10 l0_2.length co10):=(blk_cell BK639.out 2).trans rfl
    have hfz17_0:=blk_frozen BK639.out 0
    have hfz17_1:=blk_frozen BK639.out 1
    have hfz17_2:=blk_frozen BK639.out 2
    go_wp2_with (first|((with_reducible refine gate_callee (f:=93) rfl ?_);refine goesL_ (some 19) rfl rfl Try.func93 (by kernel_rfl) rfl #[.agg #[.slice Ao8 l0_0.length co8,.slice Ao9 l0_1.length co9,.slice Ao10 l0_2.length co10],.int .i64 a1,.int .i64 a3] rfl (by (try simp only [List.map_toArray,List.map_cons,List.map_nil]);first|done|rfl|(simp only [List.length_drop,List.length_take];rfl)) ?_;(with_reducible refine (spec_l3There.calls _ _ l0_0 _ _ l0_1 _ _ l0_2 a1 a3 true _ ?side1 ?side2 ?side3 ?side4 ?side5 ?side6 A13.out).mono ?_);(case side1 => repeat (first|exact (Kd.R_reads' HO0_0.out).2.2|(with_reducible refine Kd.C_alloc ?_ _)|(with_reducible refine Kd.C_drewN ?_ _)|(with_reducible refine Kd.C_drew ?_)));(case side2 => exact (Kd.R_reads' HO0_0.out).2.1);(case side3 => repeat (first|exact (Kd.R_reads' HO0_1.out).2.2|(with_reducible refine Kd.C_alloc ?_ _)|(with_reducible refine Kd.C_drewN ?_ _)|(with_reducible refine Kd.C_drew ?_)));(case side4 => exact (Kd.R_reads' HO0_1.out).2.1);(case side5 => repeat (first|exact (Kd.R_reads' HO0_2.out).2.2|(with_reducible refine Kd.C_alloc ?_ _)|(with_reducible refine Kd.C_drewN ?_ _)|(with_reducible refine Kd.C_drew ?_)));(case side6 => exact (Kd.R_reads' HO0_2.out).2.1);rintro e w18 ⟨rfl,hb⟩;refine ⟨_,rfl,?_⟩;have n0_:=Aside0.mk (Kd.R_below (by exact HO0_0.out) hb);have n1_:=Aside0.mk (Kd.R_below (by exact HO0_1.out) hb);have n2_:=Aside0.mk (Kd.R_below (by exact HO0_2.out) hb);have n3_:=Aside0.mk (blk_below BK639.out hb);have n4_:=Aside0.mk (blk_below BK640.out hb);have n5_:=Aside0.mk (Kept.below (S:=(fun k_ => P0_0_ k_ ∨ P0_1_ k_ ∨ P0_2_ k_)) (by exact HK.out) hb);have n6_:=Aside0.mk (below_step (by exact HB.out) hb);clear HO0_0;clear HO0_1;clear HO0_2;clear BK639;clear BK640;clear HK;clear HB;have HO0_0:=n0_;have HO0_1:=n1_;have HO0_2:=n2_;have BK639:=n3_;have BK640:=n4_;have HK:=n5_;have HB:=n6_;clear n0_ n1_ n2_ n3_ n4_ n5_ n6_;(try clear hb);(try clear hb2);(try clear hk);(try clear hi)))
    go_meet
    case rel => exact ⟨_,(true),(by first|rfl|(simp;done)|(simp [*];done)),H',⟨by first|omega|exact Nat.le_refl _⟩,⟨by (with_reducible repeat (first|apply Kd.R_alloc|apply Kd.R_drewN|apply Kd.R_drew));exact HO0_0.out⟩,⟨by (with_reducible repeat (first|apply Kd.R_alloc|apply Kd.R_drewN|apply Kd.R_drew));exact HO0_1.out⟩,⟨by (with_reducible repeat (first|apply Kd.R_alloc|apply Kd.R_drewN|apply Kd.R_drew));exact HO0_2.out⟩,⟨by (with_reducible repeat (first|refine blk_drewN ?_ _|refine blk_drew ?_|refine blk_alloc ?_ _));exact BK639.out⟩,⟨by (with_reducible repeat (first|refine blk_drewN ?_ _|refine blk_drew ?_|refine blk_alloc ?_ _));exact BK640.out⟩,⟨by repeat (first|(with_reducible first|exact HK.out|apply Kept.alloc|apply Kept.drewN|apply Kept.drew|refine Kept.setCell ?_ (.inr GW639.out) _|refine Kept.setCell ?_ (.inr GW640.out) _)|exact HK.out)⟩,⟨by repeat (first|(with_reducible first|exact HB.out|apply below_alloc|apply pw_below_drewN|apply below_drew1|refine below_set ?_ GE639.out|refine below_set ?_ GE640.out)|exact HB.out)⟩⟩
   ·
    rw [if_neg c15] at H
    have c15b0 : decide (700 < (a5.size : Int)) = false:=decide_eq_false c15
    have c15b1 : decide (700 < a5.size) = false:=decide_eq_false (by omega)
    clear c15
    (first|rw [c15b0]|(simp only [i64_w,i32_w];rw [c15b0])|rw [c15b2]|skip)
    have H':=Aside0.mk H
    clear H
    have hnb19:=NB639_640.out
    have hnc19:=NB640_639.out
    have hcz20_0 : w12.cell? ⟨gb639,0,none⟩ = some (.slice Ao8 l0_0.length co8):=(blk_cell BK639.out 0).trans rfl
    have hcz20_1 : w12.cell? ⟨gb639,1,none⟩ = some (.slice Ao9 l0_1.length co9):=(blk_cell BK639.out 1).trans rfl
    have hcz20_2 : w12.cell? ⟨gb639,2,none⟩ = some (.slice Ao10 l0_2.length co10):=(blk_cell BK639.out 2).trans rfl
    have hfz20_0:=blk_frozen BK639.out 0
    have hfz20_1:=blk_frozen BK639.out 1
    have hfz20_2:=blk_frozen BK639.out 2
    go_wp2_with (first|((with_reducible refine gate_callee (f:=93) rfl ?_);refine goesL_ (some 19) rfl rfl Try.func93 (by kernel_rfl) rfl #[.agg #[.slice Ao8 l0_0.length co8,.slice Ao9 l0_1.length co9,.slice Ao10 l0_2.length co10],.int .i64 a1,.int .i64 a3] rfl (by (try simp only [List.map_toArray,List.map_cons,List.map_nil]);first|done|rfl|(simp only [List.length_drop,List.length_take];rfl)) ?_;(with_reducible refine (spec_l3There.calls _ _ l0_0 _ _ l0_1 _ _ l0_2 a1 a3 true _ ?side1 ?side2 ?side3 ?side4 ?side5 ?side6 A13.out).mono ?_);(case side1 => repeat (first|exact (Kd.R_reads' HO0_0.out).2.2|(with_reducible refine Kd.C_alloc ?_ _)|(with_reducible refine Kd.C_drewN ?_ _)|(with_reducible refine Kd.C_drew ?_)));(case side2 => exact (Kd.R_reads' HO0_0.out).2.1);(case side3 => repeat (first|exact (Kd.R_reads' HO0_1.out).2.2|(with_reducible refine Kd.C_alloc ?_ _)|(with_reducible refine Kd.C_drewN ?_ _)|(with_reducible refine Kd.C_drew ?_)));(case side4 => exact (Kd.R_reads' HO0_1.out).2.1);(case side5 => repeat (first|exact (Kd.R_reads' HO0_2.out).2.2|(with_reducible refine Kd.C_alloc ?_ _)|(with_reducible refine Kd.C_drewN ?_ _)|(with_reducible refine Kd.C_drew ?_)));(case side6 => exact (Kd.R_reads' HO0_2.out).2.1);rintro e w21 ⟨rfl,hb⟩;refine ⟨_,rfl,?_⟩;have n0_:=Aside0.mk (Kd.R_below (by exact HO0_0.out) hb);have n1_:=Aside0.mk (Kd.R_below (by exact HO0_1.out) hb);have n2_:=Aside0.mk (Kd.R_below (by exact HO0_2.out) hb);have n3_:=Aside0.mk (blk_below BK639.out hb);have n4_:=Aside0.mk (blk_below BK640.out hb);have n5_:=Aside0.mk (Kept.below (S:=(fun k_ => P0_0_ k_ ∨ P0_1_ k_ ∨ P0_2_ k_)) (by exact HK.out) hb);have n6_:=Aside0.mk (below_step (by exact HB.out) hb);clear HO0_0;clear HO0_1;clear HO0_2;clear BK639;clear BK640;clear HK;clear HB;have HO0_0:=n0_;have HO0_1:=n1_;have HO0_2:=n2_;have BK639:=n3_;have BK640:=n4_;have HK:=n5_;have HB:=n6_;clear n0_ n1_ n2_ n3_ n4_ n5_ n6_;(try clear hb);(try clear hb2);(try clear hk);(try clear hi)))
    go_meet
    case rel => exact ⟨_,(decide ((a4.size : Int) > 700)),(by first|rfl|(simp;done)|(simp [*];done)),H',⟨by first|omega|exact Nat.le_refl _⟩,⟨by (with_reducible repeat (first|apply Kd.R_alloc|apply Kd.R_drewN|apply Kd.R_drew));exact HO0_0.out⟩,⟨by (with_reducible repeat (first|apply Kd.R_alloc|apply Kd.R_drewN|apply Kd.R_drew));exact HO0_1.out⟩,⟨by (with_reducible repeat (first|apply Kd.R_alloc|apply Kd.R_drewN|apply Kd.R_drew));exact HO0_2.out⟩,⟨by (with_reducible repeat (first|refine blk_drewN ?_ _|refine blk_drew ?_|refine blk_alloc ?_ _));exact BK639.out⟩,⟨by (with_reducible repeat (first|refine blk_drewN ?_ _|refine blk_drew ?_|refine blk_alloc ?_ _));exact BK640.out⟩,⟨by repeat (first|(with_reducible first|exact HK.out|apply Kept.alloc|apply Kept.drewN|apply Kept.drew|refine Kept.setCell ?_ (.inr GW639.out) _|refine Kept.setCell ?_ (.inr GW640.out) _)|exact HK.out)⟩,⟨by repeat (first|(with_reducible first|exact HB.out|apply below_alloc|apply pw_below_drewN|apply below_drew1|refine below_set ?_ GE639.out|refine below_set ?_ GE640.out)|exact HB.out)⟩⟩
  ·
   replace c14:=Bool.eq_false_iff.mpr c14
   subst c14
   have H1 : (spec_l3Swap.j0 k a1 a2 a3 a4 a5 true l0_0 l0_1 l0_2) = some (r1,r2,r3,r4):=by rw [if_neg (show ¬ (false = true) by decide)] at H;exact H
   clear H
   have H:=H1
   clear H1
   have H':=Aside0.mk H
   clear H
   have hnb22:=NB639_640.out
   have hnc22:=NB640_639.out
   have hcz23_0 : w12.cell? ⟨gb639,0,none⟩ = some (.slice Ao8 l0_0.length co8):=(blk_cell BK639.out 0).trans rfl
   have hcz23_1 : w12.cell? ⟨gb639,1,none⟩ = some (.slice Ao9 l0_1.length co9):=(blk_cell BK639.out 1).trans rfl
   have hcz23_2 : w12.cell? ⟨gb639,2,none⟩ = some (.slice Ao10 l0_2.length co10):=(blk_cell BK639.out 2).trans rfl
   have hfz23_0:=blk_frozen BK639.out 0
   have hfz23_1:=blk_frozen BK639.out 1
   have hfz23_2:=blk_frozen BK639.out 2
   go_wp2_with (first|((with_reducible refine gate_callee (f:=93) rfl ?_);refine goesL_ (some 19) rfl rfl Try.func93 (by kernel_rfl) rfl #[.agg #[.slice Ao8 l0_0.length co8,.slice Ao9 l0_1.length co9,.slice Ao10 l0_2.length co10],.int .i64 a1,.int .i64 a3] rfl (by (try simp only [List.map_toArray,List.map_cons,List.map_nil]);first|done|rfl|(simp only [List.length_drop,List.length_take];rfl)) ?_;(with_reducible refine (spec_l3There.calls _ _ l0_0 _ _ l0_1 _ _ l0_2 a1 a3 false _ ?side1 ?side2 ?side3 ?side4 ?side5 ?side6 A13.out).mono ?_);(case side1 => repeat (first|exact (Kd.R_reads' HO0_0.out).2.2|(with_reducible refine Kd.C_alloc ?_ _)|(with_reducible refine Kd.C_drewN ?_ _)|(with_reducible refine Kd.C_drew ?_)));(case side2 => exact (Kd.R_reads' HO0_0.out).2.1);(case side3 => repeat (first|exact (Kd.R_reads' HO0_1.out).2.2|(with_reducible refine Kd.C_alloc ?_ _)|(with_reducible refine Kd.C_drewN ?_ _)|(with_reducible refine Kd.C_drew ?_)));(case side4 => exact (Kd.R_reads' HO0_1.out).2.1);(case side5 => repeat (first|exact (Kd.R_reads' HO0_2.out).2.2|(with_reducible refine Kd.C_alloc ?_ _)|(with_reducible refine Kd.C_drewN ?_ _)|(with_reducible refine Kd.C_drew ?_)));(case side6 => exact (Kd.R_reads' HO0_2.out).2.1);rintro e w24 ⟨rfl,hb⟩;refine ⟨_,rfl,?_⟩;have n0_:=Aside0.mk (Kd.R_below (by exact HO0_0.out) hb);have n1_:=Aside0.mk (Kd.R_below (by exact HO0_1.out) hb);have n2_:=Aside0.mk (Kd.R_below (by exact HO0_2.out) hb);have n3_:=Aside0.mk (blk_below BK639.out hb);have n4_:=Aside0.mk (blk_below BK640.out hb);have n5_:=Aside0.mk (Kept.below (S:=(fun k_ => P0_0_ k_ ∨ P0_1_ k_ ∨ P0_2_ k_)) (by exact HK.out) hb);have n6_:=Aside0.mk (below_step (by exact HB.out) hb);clear HO0_0;clear HO0_1;clear HO0_2;clear BK639;clear BK640;clear HK;clear HB;have HO0_0:=n0_;have HO0_1:=n1_;have HO0_2:=n2_;have BK639:=n3_;have BK640:=n4_;have HK:=n5_;have HB:=n6_;clear n0_ n1_ n2_ n3_ n4_ n5_ n6_;(try clear hb);(try clear hb2);(try clear hk);(try clear hi)))
   go_meet
   case rel => exact ⟨_,(true),(by first|rfl|(simp;done)|(simp [*];done)),H',⟨by first|omega|exact Nat.le_refl _⟩,⟨by (with_reducible repeat (first|apply Kd.R_alloc|apply Kd.R_drewN|apply Kd.R_drew));exact HO0_0.out⟩,⟨by (with_reducible repeat (first|apply Kd.R_alloc|apply Kd.R_drewN|apply Kd.R_drew));exact HO0_1.out⟩,⟨by (with_reducible repeat (first|apply Kd.R_alloc|apply Kd.R_drewN|apply Kd.R_drew));exact HO0_2.out⟩,⟨by (with_reducible repeat (first|refine blk_drewN ?_ _|refine blk_drew ?_|refine blk_alloc ?_ _));exact BK639.out⟩,⟨by (with_reducible repeat (first|refine blk_drewN ?_ _|refine blk_drew ?_|refine blk_alloc ?_ _));exact BK640.out⟩,⟨by repeat (first|(with_reducible first|exact HK.out|apply Kept.alloc|apply Kept.drewN|apply Kept.drew|refine Kept.setCell ?_ (.inr GW639.out) _|refine Kept.setCell ?_ (.inr GW640.out) _)|exact HK.out)⟩,⟨by repeat (first|(with_reducible first|exact HB.out|apply below_alloc|apply pw_below_drewN|apply below_drew1|refine below_set ?_ GE639.out|refine below_set ?_ GE640.out)|exact HB.out)⟩⟩
 case rest =>
  clear HC7
  try clear c1
  try clear c2
  try clear p2
  try clear c5
  try clear c9
  try clear c14
  try clear c15
  try clear c15b0
  try clear c15b1
  try clear c15b2
  try clear c16
  try clear c19
  try clear c22
  try clear hcz17_0
  try clear hcz17_1
  try clear hcz17_2
  try clear hcz20_0
  try clear hcz20_1
  try clear hcz20_2
  try clear hcz23_0
  try clear hcz23_1
  try clear hcz23_2
  try clear hfz17_0
  try clear hfz17_1
  try clear hfz17_2
  try clear hfz20_0
  try clear hfz20_1
  try clear hfz20_2
  try clear hfz23_0
  try clear hfz23_1
  try clear hfz23_2
  obtain ⟨kq,x15_6,rfl,HA,HJ6,HO_640000,HO_640001,HO_640002,BK639,BK640,HK,HB⟩:=hcut
  cases kq with
  | zero => exact absurd HA.out (by simp [spec_l3Swap.j0])
  | succ kj6 =>
   have H:=HA.out
   clear HA
   simp only [spec_l3Swap.j0] at H
   by_cases c25 : x15_6 = true
   ·
    subst c25
    have H1 : (some (l0_0,l0_1,l0_2,1)) = some (r1,r2,r3,r4):=by rw [if_pos rfl] at H;exact H
    clear H
    have H:=H1
    clear H1
    simp only [Option.some.injEq,Prod.mk.injEq] at H
    obtain ⟨rfl,rfl,rfl,rfl⟩:=H
    have hnb26:=NB639_640.out
    have hnc26:=NB640_639.out
    have hcz27_0 : wc.cell? ⟨gb639,0,none⟩ = some (.slice Ao8 l0_0.length co8):=(blk_cell BK639.out 0).trans rfl
    have hcz27_1 : wc.cell? ⟨gb639,1,none⟩ = some (.slice Ao9 l0_1.length co9):=(blk_cell BK639.out 1).trans rfl
    have hcz27_2 : wc.cell? ⟨gb639,2,none⟩ = some (.slice Ao10 l0_2.length co10):=(blk_cell BK639.out 2).trans rfl
    have hfz27_0:=blk_frozen BK639.out 0
    have hfz27_1:=blk_frozen BK639.out 1
    have hfz27_2:=blk_frozen BK639.out 2
    have hcz28_0 : wc.cell? ⟨gb640,0,none⟩ = some (.slice none 0 0):=(blk_cell BK640.out 0).trans rfl
    have hcz28_1 : wc.cell? ⟨gb640,1,none⟩ = some (.slice none 0 0):=(blk_cell BK640.out 1).trans rfl
    have hcz28_2 : wc.cell? ⟨gb640,2,none⟩ = some (.slice none 0 0):=(blk_cell BK640.out 2).trans rfl
    have hfz28_0:=blk_frozen BK640.out 0
    have hfz28_1:=blk_frozen BK640.out 1
    have hfz28_2:=blk_frozen BK640.out 2
    go_wp2
    refine bodyPost_ret (results_ct rfl _ _ gb640 28 #[.slice Ao8 l0_0.length co8,.slice Ao9 l0_1.length co9,.slice Ao10 l0_2.length co10] (0,0) _ rfl (by (with_reducible repeat (first|refine blk_drewN ?_ _|refine blk_drew ?_|refine blk_alloc ?_ _));refine blk_put (cs:=#[.slice Ao8 l0_0.length co8,.slice Ao9 l0_1.length co9,.slice none 0 0]) ?_ 2 _ rfl;(with_reducible repeat (first|refine blk_drewN ?_ _|refine blk_drew ?_|refine blk_alloc ?_ _));refine blk_put (cs:=#[.slice Ao8 l0_0.length co8,.slice none 0 0,.slice none 0 0]) ?_ 1 _ rfl;(with_reducible repeat (first|refine blk_drewN ?_ _|refine blk_drew ?_|refine blk_alloc ?_ _));refine blk_put (cs:=#[.slice none 0 0,.slice none 0 0,.slice none 0 0]) ?_ 0 _ rfl;(with_reducible repeat (first|refine blk_drewN ?_ _|refine blk_drew ?_|refine blk_alloc ?_ _));exact BK640.out) Try.underlying28 rfl (by kernel_rfl)) rfl ?_
    exact ⟨_,_,_,by first|rfl|(simp [errW_none,errW_some] <;> rfl)|(simp [*,errW_none,errW_some] <;> rfl),by (with_reducible repeat (first|apply Kd.R_alloc|apply Kd.R_drewN|apply Kd.R_drew));exact Kd.R_mono (Kd.R_far (p:=⟨gb640,2,none⟩) (Kd.R_far (p:=⟨gb640,1,none⟩) (Kd.R_far (p:=⟨gb640,0,none⟩) (Kd.R_types HO_640000.out BK640.out (by decide)) (fun _ hk => hk.2) (.slice Ao8 l0_0.length co8)) (fun _ hk => hk.2) (.slice Ao9 l0_1.length co9)) (fun _ hk => hk.2) (.slice Ao10 l0_2.length co10)) (fun _ hk => hk.1),by (with_reducible repeat (first|apply Kd.R_alloc|apply Kd.R_drewN|apply Kd.R_drew));exact Kd.R_mono (Kd.R_far (p:=⟨gb640,2,none⟩) (Kd.R_far (p:=⟨gb640,1,none⟩) (Kd.R_far (p:=⟨gb640,0,none⟩) (Kd.R_types HO_640001.out BK640.out (by decide)) (fun _ hk => hk.2) (.slice Ao8 l0_0.length co8)) (fun _ hk => hk.2) (.slice Ao9 l0_1.length co9)) (fun _ hk => hk.2) (.slice Ao10 l0_2.length co10)) (fun _ hk => hk.1),by (with_reducible repeat (first|apply Kd.R_alloc|apply Kd.R_drewN|apply Kd.R_drew));exact Kd.R_mono (Kd.R_far (p:=⟨gb640,2,none⟩) (Kd.R_far (p:=⟨gb640,1,none⟩) (Kd.R_far (p:=⟨gb640,0,none⟩) (Kd.R_types HO_640002.out BK640.out (by decide)) (fun _ hk => hk.2) (.slice Ao8 l0_0.length co8)) (fun _ hk => hk.2) (.slice Ao9 l0_1.length co9)) (fun _ hk => hk.2) (.slice Ao10 l0_2.length co10)) (fun _ hk => hk.1),by repeat (first|(with_reducible first|exact HB.out|apply below_alloc|apply pw_below_drewN|apply below_drew1|refine below_set ?_ GE639.out|refine below_set ?_ GE640.out)|exact HB.out),by repeat (first|(with_reducible first|exact HK.out|apply Kept.alloc|apply Kept.drewN|apply Kept.drew|refine Kept.setCell ?_ (.inr GW639.out) _|refine Kept.setCell ?_ (.inr GW640.out) _)|exact HK.out)⟩
   ·
    replace c25:=Bool.eq_false_iff.mpr c25
    subst c25
    have H1 : (if 0 ≤ a1 then (if a1 < (l0_1.length : Int) then (if (rd l0_1 a1) = a2 then (if 0 ≤ a3 then (if a3 < (l0_0.length : Int) then (if (rdOf ByteArray.empty l0_0 a3).toList = a4.toList then (spec_l3Swap.l0 kj6 a1 a3 a5 0 l0_0 l0_1 l0_2) else (some (l0_0,l0_1,l0_2,4))) else (none)) else (none)) else (some (l0_0,l0_1,l0_2,2))) else (none)) else (none)) = some (r1,r2,r3,r4):=by rw [if_neg (show ¬ (false = true) by decide)] at H;exact H
    clear H
    have H:=H1
    clear H1
    by_cases c29 : 0 ≤ a1
    ·
     rw [if_pos c29] at H
     have c29b0 : decide (0 ≤ a1) = true:=decide_eq_true c29
     clear c29
     by_cases c30 : a1 < (l0_1.length : Int)
     ·
      rw [if_pos c30] at H
      have c30b0 : decide (a1 < (l0_1.length : Int)) = true:=decide_eq_true c30
      clear c30
      by_cases c31 : (rd l0_1 a1) = a2
      ·
       rw [if_pos c31] at H
       have c31b0 : ((rd l0_1 a1) == a2) = true:=beq_iff_eq.mpr c31
       have c31b1 : ((rd l0_1 a1) != a2) = false:=bne_eq_false_iff_eq.mpr c31
       clear c31
       by_cases c32 : 0 ≤ a3
       ·
        rw [if_pos c32] at H
        have c32b0 : decide (0 ≤ a3) = true:=decide_eq_true c32
        clear c32
        by_cases c33 : a3 < (l0_0.length : Int)
        ·
         rw [if_pos c33] at H
         have c33b0 : decide (a3 < (l0_0.length : Int)) = true:=decide_eq_true c33
         clear c33
         by_cases c34 : (rdOf ByteArray.empty l0_0 a3).toList = a4.toList
         ·
          rw [if_pos c34] at H
          have c34b0 : ((rdOf ByteArray.empty l0_0 a3).toList == a4.toList) = true:=beq_iff_eq.mpr c34
          have c34b1 : ((rdOf ByteArray.empty l0_0 a3).toList != a4.toList) = false:=bne_eq_false_iff_eq.mpr c34
          clear c34
          have H':=Aside0.mk H
          clear H
          have hnb35:=NB639_640.out
          have hnc35:=NB640_639.out
          have hcz36_0 : wc.cell? ⟨gb639,0,none⟩ = some (.slice Ao8 l0_0.length co8):=(blk_cell BK639.out 0).trans rfl
          have hcz36_1 : wc.cell? ⟨gb639,1,none⟩ = some (.slice Ao9 l0_1.length co9):=(blk_cell BK639.out 1).trans rfl
          have hcz36_2 : wc.cell? ⟨gb639,2,none⟩ = some (.slice Ao10 l0_2.length co10):=(blk_cell BK639.out 2).trans rfl
          have hfz36_0:=blk_frozen BK639.out 0
          have hfz36_1:=blk_frozen BK639.out 1
          have hfz36_2:=blk_frozen BK639.out 2
          have p642 : 0 ≤ (a1 : Int):=of_decide_eq_true (by first|(with_reducible assumption)|assumption)
          have q642 : a1 < (l0_1.length : Int):=of_decide_eq_true (by first|(with_reducible assumption)|assumption)
          obtain ⟨ad642,e642,hx642_0⟩:=Kd.at_int (Kd.R_reads' HO_640001.out).2.2 a1 p642 q642
          cases e642
          replace p642:=eq_true p642
          replace q642:=eq_true q642
          have p643 : 0 ≤ (a3 : Int):=of_decide_eq_true (by first|(with_reducible assumption)|assumption)
          have q643 : a3 < (l0_0.length : Int):=of_decide_eq_true (by first|(with_reducible assumption)|assumption)
          obtain ⟨ad643,e643,hx643_0⟩:=Kd.at_string (Kd.R_reads' HO_640000.out).2.2 a3 p643 q643
          cases e643
          replace p643:=eq_true p643
          replace q643:=eq_true q643
          go_wp2
          go_loopg [14] kj6 (fun kq v14 w' => ∃ (x14_2 : Int),v14 = .int .i64 x14_2 ∧ Aside0 (spec_l3Swap.l0 kq a1 a3 a5 x14_2 l0_0 l0_1 l0_2 = some (r1,r2,r3,r4)) ∧ Aside0 (kq ≤ kj6) ∧ Aside0 (Kd.R Kd.string 9 w' w0.heap.size (fun k_ => ((P0_0_ k_ ∨ P0_1_ k_ ∨ P0_2_ k_) ∨ w.heap.size ≤ k_)) (.slice (some ad643) l0_0.length co8) l0_0) ∧ Aside0 (Kd.R (Kd.int .i64) 3 w' w0.heap.size (fun k_ => ((P0_0_ k_ ∨ P0_1_ k_ ∨ P0_2_ k_) ∨ w.heap.size ≤ k_)) (.slice (some ad642) l0_1.length co9) l0_1) ∧ Aside0 (Kd.R k36 36 w' w0.heap.size (fun k_ => ((P0_0_ k_ ∨ P0_1_ k_ ∨ P0_2_ k_) ∨ w.heap.size ≤ k_)) (.slice Ao10 l0_2.length co10) l0_2) ∧ Aside0 (w'.heap[gb639]? = some (.cells #[(.slice (some ad643) l0_0.length co8),(.slice (some ad642) l0_1.length co9),(.slice Ao10 l0_2.length co10)] 28 (0,0))) ∧ Aside0 (w'.heap[gb640]? = some (.cells #[(.slice none 0 0),(.slice none 0 0),(.slice none 0 0)] 28 (0,0))) ∧ Aside0 (Kept w w' (fun k_ => P0_0_ k_ ∨ P0_1_ k_ ∨ P0_2_ k_)) ∧ Aside0 (Below w0.heap.size w0 w'))
          case atStart => exact ⟨(0),(by first|rfl|(simp;done)|(simp [*];done)),H',⟨Nat.le_refl _⟩,⟨by (with_reducible repeat (first|apply Kd.R_alloc|apply Kd.R_drewN|apply Kd.R_drew));exact HO_640000.out⟩,⟨by (with_reducible repeat (first|apply Kd.R_alloc|apply Kd.R_drewN|apply Kd.R_drew));exact HO_640001.out⟩,⟨by (with_reducible repeat (first|apply Kd.R_alloc|apply Kd.R_drewN|apply Kd.R_drew));exact HO_640002.out⟩,⟨by (with_reducible repeat (first|refine blk_drewN ?_ _|refine blk_drew ?_|refine blk_alloc ?_ _));exact BK639.out⟩,⟨by (with_reducible repeat (first|refine blk_drewN ?_ _|refine blk_drew ?_|refine blk_alloc ?_ _));exact BK640.out⟩,⟨by repeat (first|(with_reducible first|exact HK.out|apply Kept.alloc|apply Kept.drewN|apply Kept.drew|refine Kept.setCell ?_ (.inr GW639.out) _|refine Kept.setCell ?_ (.inr GW640.out) _)|exact HK.out)⟩,⟨by repeat (first|(with_reducible first|exact HB.out|apply below_alloc|apply pw_below_drewN|apply below_drew1|refine below_set ?_ GE639.out|refine below_set ?_ GE640.out)|exact HB.out)⟩⟩
          case round =>
           clear H'
           try clear c1
           try clear c2
           try clear p2
           try clear c3
           try clear c5
           try clear p6
           try clear q6
           try clear hx6
           try clear c9
           try clear c14
           try clear c15
           try clear c15b0
           try clear c15b1
           try clear c15b2
           try clear c16
           try clear c19
           try clear c22
           try clear c25
           try clear c26
           try clear c29
           try clear c29b0
           try clear c30
           try clear c30b0
           try clear c31
           try clear c31b0
           try clear c31b1
           try clear c32
           try clear c32b0
           try clear c33
           try clear c33b0
           try clear c34
           try clear c34b0
           try clear c34b1
           try clear c35
           try clear hcz17_0
           try clear hcz17_1
           try clear hcz17_2
           try clear hcz20_0
           try clear hcz20_1
           try clear hcz20_2
           try clear hcz23_0
           try clear hcz23_1
           try clear hcz23_2
           try clear hcz27_0
           try clear hcz27_1
           try clear hcz27_2
           try clear hcz28_0
           try clear hcz28_1
           try clear hcz28_2
           try clear hcz36_0
           try clear hcz36_1
           try clear hcz36_2
           try clear hfz17_0
           try clear hfz17_1
           try clear hfz17_2
           try clear hfz20_0
           try clear hfz20_1
           try clear hfz20_2
           try clear hfz23_0
           try clear hfz23_1
           try clear hfz23_2
           try clear hfz27_0
           try clear hfz27_1
           try clear hfz27_2
           try clear hfz28_0
           try clear hfz28_1
           try clear hfz28_2
           try clear hfz36_0
           try clear hfz36_1
           try clear hfz36_2
           try clear hx642_0
           try clear hx643_0
           try clear p2
           try clear p642
           try clear p643
           try clear q642
           try clear q643
           obtain ⟨x14_2,rfl,HA,HK2,HO_640000,HO_640001,HO_640002,BK639,BK640,HK,HB⟩:=hrel
           cases gk with
           | zero => exact absurd HA.out (by simp [spec_l3Swap.l0])
           | succ k2 =>
            have H:=HA.out
            clear HA
            simp only [spec_l3Swap.l0] at H
            by_cases c37 : x14_2 < (l0_2.length : Int)
            ·
             rw [if_pos c37] at H
             have c37b0 : decide (x14_2 < (l0_2.length : Int)) = true:=decide_eq_true c37
             clear c37
             by_cases c38 : 0 ≤ x14_2
             ·
              rw [if_pos c38] at H
              have c38b0 : decide (0 ≤ x14_2) = true:=decide_eq_true c38
              clear c38
              by_cases c39 : ((rd_T36 l0_2 x14_2).f0) = a1
              ·
               rw [if_pos c39] at H
               have c39b0 : (((rd_T36 l0_2 x14_2).f0) == a1) = true:=beq_iff_eq.mpr c39
               have c39b1 : (((rd_T36 l0_2 x14_2).f0) != a1) = false:=bne_eq_false_iff_eq.mpr c39
               clear c39
               by_cases c40 : ((rd_T36 l0_2 x14_2).f2) = a3
               ·
                rw [if_pos c40] at H
                have c40b0 : (((rd_T36 l0_2 x14_2).f2) == a3) = true:=beq_iff_eq.mpr c40
                have c40b1 : (((rd_T36 l0_2 x14_2).f2) != a3) = false:=bne_eq_false_iff_eq.mpr c40
                clear c40
                simp only [Option.some.injEq,Prod.mk.injEq] at H
                obtain ⟨rfl,rfl,rfl,rfl⟩:=H
                have hnb41:=NB639_640.out
                have hnc41:=NB640_639.out
                have hcz42_0 : wr.cell? ⟨gb639,0,none⟩ = some (.slice (some ad643) l0_0.length co8):=(blk_cell BK639.out 0).trans rfl
                have hcz42_1 : wr.cell? ⟨gb639,1,none⟩ = some (.slice (some ad642) l0_1.length co9):=(blk_cell BK639.out 1).trans rfl
                have hcz42_2 : wr.cell? ⟨gb639,2,none⟩ = some (.slice Ao10 l0_2.length co10):=(blk_cell BK639.out 2).trans rfl
                have hfz42_0:=blk_frozen BK639.out 0
                have hfz42_1:=blk_frozen BK639.out 1
                have hfz42_2:=blk_frozen BK639.out 2
                have p644 : 0 ≤ (x14_2 : Int):=of_decide_eq_true (by first|(with_reducible assumption)|assumption)
                have q644 : x14_2 < (l0_2.length : Int):=of_decide_eq_true (by first|(with_reducible assumption)|assumption)
                obtain ⟨ad644,e644,hx644_0,hx644_1,hx644_2,hx644_3⟩:=at_T36 (Kd.R_reads' HO_640002.out).2.2 x14_2 p644 q644
                cases e644
                replace p644:=eq_true p644
                replace q644:=eq_true q644
                have p645 : 0 ≤ (x14_2 : Int):=of_decide_eq_true (by first|(with_reducible assumption)|assumption)
                have q645 : x14_2 < (l0_2.length : Int):=of_decide_eq_true (by first|(with_reducible assumption)|assumption)
                obtain ⟨ad645,e645,hx645_0,hx645_1,hx645_2,hx645_3⟩:=at_T36 (Kd.R_reads' HO_640002.out).2.2 x14_2 p645 q645
                obtain rfl : ad644 = ad645:=(by injection e645)
                replace p645:=eq_true p645
                replace q645:=eq_true q645
                have hcz43_0 : wr.cell? ⟨gb640,0,none⟩ = some (.slice none 0 0):=(blk_cell BK640.out 0).trans rfl
                have hcz43_1 : wr.cell? ⟨gb640,1,none⟩ = some (.slice none 0 0):=(blk_cell BK640.out 1).trans rfl
                have hcz43_2 : wr.cell? ⟨gb640,2,none⟩ = some (.slice none 0 0):=(blk_cell BK640.out 2).trans rfl
                have hfz43_0:=blk_frozen BK640.out 0
                have hfz43_1:=blk_frozen BK640.out 1
                have hfz43_2:=blk_frozen BK640.out 2
                go_wp2
                refine bodyPost_ret (results_ct rfl _ _ gb640 28 #[.slice (some ad643) l0_0.length co8,.slice (some ad642) l0_1.length co9,.slice (some ad644) l0_2.length co10] (0,0) _ rfl (by (with_reducible repeat (first|refine blk_drewN ?_ _|refine blk_drew ?_|refine blk_alloc ?_ _));refine blk_put (cs:=#[.slice (some ad643) l0_0.length co8,.slice (some ad642) l0_1.length co9,.slice none 0 0]) ?_ 2 _ rfl;(with_reducible repeat (first|refine blk_drewN ?_ _|refine blk_drew ?_|refine blk_alloc ?_ _));refine blk_put (cs:=#[.slice (some ad643) l0_0.length co8,.slice none 0 0,.slice none 0 0]) ?_ 1 _ rfl;(with_reducible repeat (first|refine blk_drewN ?_ _|refine blk_drew ?_|refine blk_alloc ?_ _));refine blk_put (cs:=#[.slice none 0 0,.slice none 0 0,.slice none 0 0]) ?_ 0 _ rfl;(with_reducible repeat (first|refine blk_drewN ?_ _|refine blk_drew ?_|refine blk_alloc ?_ _));exact BK640.out) Try.underlying28 rfl (by kernel_rfl)) rfl ?_
                exact ⟨_,_,_,by first|rfl|(simp [errW_none,errW_some] <;> rfl)|(simp [*,errW_none,errW_some] <;> rfl),by (with_reducible repeat (first|apply Kd.R_alloc|apply Kd.R_drewN|apply Kd.R_drew));exact Kd.R_mono (Kd.R_far (p:=⟨gb640,2,none⟩) (Kd.R_far (p:=⟨gb640,1,none⟩) (Kd.R_far (p:=⟨gb640,0,none⟩) (Kd.R_types HO_640000.out BK640.out (by decide)) (fun _ hk => hk.2) (.slice (some ad643) l0_0.length co8)) (fun _ hk => hk.2) (.slice (some ad642) l0_1.length co9)) (fun _ hk => hk.2) (.slice (some ad644) l0_2.length co10)) (fun _ hk => hk.1),by (with_reducible repeat (first|apply Kd.R_alloc|apply Kd.R_drewN|apply Kd.R_drew));exact Kd.R_mono (Kd.R_far (p:=⟨gb640,2,none⟩) (Kd.R_far (p:=⟨gb640,1,none⟩) (Kd.R_far (p:=⟨gb640,0,none⟩) (Kd.R_types HO_640001.out BK640.out (by decide)) (fun _ hk => hk.2) (.slice (some ad643) l0_0.length co8)) (fun _ hk => hk.2) (.slice (some ad642) l0_1.length co9)) (fun _ hk => hk.2) (.slice (some ad644) l0_2.length co10)) (fun _ hk => hk.1),by (with_reducible repeat (first|apply Kd.R_alloc|apply Kd.R_drewN|apply Kd.R_drew));exact Kd.R_mono (Kd.R_far (p:=⟨gb640,2,none⟩) (Kd.R_far (p:=⟨gb640,1,none⟩) (Kd.R_far (p:=⟨gb640,0,none⟩) (Kd.R_types HO_640002.out BK640.out (by decide)) (fun _ hk => hk.2) (.slice (some ad643) l0_0.length co8)) (fun _ hk => hk.2) (.slice (some ad642) l0_1.length co9)) (fun _ hk => hk.2) (.slice (some ad644) l0_2.length co10)) (fun _ hk => hk.1),by repeat (first|(with_reducible first|exact HB.out|apply below_alloc|apply pw_below_drewN|apply below_drew1|refine below_set ?_ GE639.out|refine below_set ?_ GE640.out)|exact HB.out),by repeat (first|(with_reducible first|exact HK.out|apply Kept.alloc|apply Kept.drewN|apply Kept.drew|refine Kept.setCell ?_ (.inr GW639.out) _|refine Kept.setCell ?_ (.inr GW640.out) _)|exact HK.out)⟩
               ·
                rw [if_neg c40] at H
                have c40b0 : (((rd_T36 l0_2 x14_2).f2) == a3) = false:=beq_eq_false_iff_ne.mpr c40
                have c40b1 : (((rd_T36 l0_2 x14_2).f2) != a3) = true:=bne_iff_ne.mpr c40
                have H':=Aside0.mk H
                clear H
                have hnb44:=NB639_640.out
                have hnc44:=NB640_639.out
                have hcz45_0 : wr.cell? ⟨gb639,0,none⟩ = some (.slice (some ad643) l0_0.length co8):=(blk_cell BK639.out 0).trans rfl
                have hcz45_1 : wr.cell? ⟨gb639,1,none⟩ = some (.slice (some ad642) l0_1.length co9):=(blk_cell BK639.out 1).trans rfl
                have hcz45_2 : wr.cell? ⟨gb639,2,none⟩ = some (.slice Ao10 l0_2.length co10):=(blk_cell BK639.out 2).trans rfl
                have hfz45_0:=blk_frozen BK639.out 0
                have hfz45_1:=blk_frozen BK639.out 1
                have hfz45_2:=blk_frozen BK639.out 2
                have p644 : 0 ≤ (x14_2 : Int):=of_decide_eq_true (by first|(with_reducible assumption)|assumption)
                have q644 : x14_2 < (l0_2.length : Int):=of_decide_eq_true (by first|(with_reducible assumption)|assumption)
                obtain ⟨ad644,e644,hx644_0,hx644_1,hx644_2,hx644_3⟩:=at_T36 (Kd.R_reads' HO_640002.out).2.2 x14_2 p644 q644
                cases e644
                replace p644:=eq_true p644
                replace q644:=eq_true q644
                have p645 : 0 ≤ (x14_2 : Int):=of_decide_eq_true (by first|(with_reducible assumption)|assumption)
                have q645 : x14_2 < (l0_2.length : Int):=of_decide_eq_true (by first|(with_reducible assumption)|assumption)
                obtain ⟨ad645,e645,hx645_0,hx645_1,hx645_2,hx645_3⟩:=at_T36 (Kd.R_reads' HO_640002.out).2.2 x14_2 p645 q645
                obtain rfl : ad644 = ad645:=(by injection e645)
                replace p645:=eq_true p645
                replace q645:=eq_true q645
                go_wp2
                go_roundg k2
                case measure => have:=HJ6.out;have:=HK2.out;omega
                case rel => exact ⟨(wrap64 (x14_2 + 1)),(by first|rfl|(simp;done)|(simp [*];done)),H',⟨by have:=HJ6.out;have:=HK2.out;omega⟩,⟨by (with_reducible repeat (first|apply Kd.R_alloc|apply Kd.R_drewN|apply Kd.R_drew));exact HO_640000.out⟩,⟨by (with_reducible repeat (first|apply Kd.R_alloc|apply Kd.R_drewN|apply Kd.R_drew));exact HO_640001.out⟩,⟨by (with_reducible repeat (first|apply Kd.R_alloc|apply Kd.R_drewN|apply Kd.R_drew));exact HO_640002.out⟩,⟨by (with_reducible repeat (first|refine blk_drewN ?_ _|refine blk_drew ?_|refine blk_alloc ?_ _));exact BK639.out⟩,⟨by (with_reducible repeat (first|refine blk_drewN ?_ _|refine blk_drew ?_|refine blk_alloc ?_ _));exact BK640.out⟩,⟨by repeat (first|(with_reducible first|exact HK.out|apply Kept.alloc|apply Kept.drewN|apply Kept.drew|refine Kept.setCell ?_ (.inr GW639.out) _|refine Kept.setCell ?_ (.inr GW640.out) _)|exact HK.out)⟩,⟨by repeat (first|(with_reducible first|exact HB.out|apply below_alloc|apply pw_below_drewN|apply below_drew1|refine below_set ?_ GE639.out|refine below_set ?_ GE640.out)|exact HB.out)⟩⟩
              ·
               rw [if_neg c39] at H
               have c39b0 : (((rd_T36 l0_2 x14_2).f0) == a1) = false:=beq_eq_false_iff_ne.mpr c39
               have c39b1 : (((rd_T36 l0_2 x14_2).f0) != a1) = true:=bne_iff_ne.mpr c39
               have H':=Aside0.mk H
               clear H
               have hnb46:=NB639_640.out
               have hnc46:=NB640_639.out
               have hcz47_0 : wr.cell? ⟨gb639,0,none⟩ = some (.slice (some ad643) l0_0.length co8):=(blk_cell BK639.out 0).trans rfl
               have hcz47_1 : wr.cell? ⟨gb639,1,none⟩ = some (.slice (some ad642) l0_1.length co9):=(blk_cell BK639.out 1).trans rfl
               have hcz47_2 : wr.cell? ⟨gb639,2,none⟩ = some (.slice Ao10 l0_2.length co10):=(blk_cell BK639.out 2).trans rfl
               have hfz47_0:=blk_frozen BK639.out 0
               have hfz47_1:=blk_frozen BK639.out 1
               have hfz47_2:=blk_frozen BK639.out 2
               have p644 : 0 ≤ (x14_2 : Int):=of_decide_eq_true (by first|(with_reducible assumption)|assumption)
               have q644 : x14_2 < (l0_2.length : Int):=of_decide_eq_true (by first|(with_reducible assumption)|assumption)
               obtain ⟨ad644,e644,hx644_0,hx644_1,hx644_2,hx644_3⟩:=at_T36 (Kd.R_reads' HO_640002.out).2.2 x14_2 p644 q644
               cases e644
               replace p644:=eq_true p644
               replace q644:=eq_true q644
               go_wp2
               go_roundg k2
               case measure => have:=HJ6.out;have:=HK2.out;omega
               case rel => exact ⟨(wrap64 (x14_2 + 1)),(by first|rfl|(simp;done)|(simp [*];done)),H',⟨by have:=HJ6.out;have:=HK2.out;omega⟩,⟨by (with_reducible repeat (first|apply Kd.R_alloc|apply Kd.R_drewN|apply Kd.R_drew));exact HO_640000.out⟩,⟨by (with_reducible repeat (first|apply Kd.R_alloc|apply Kd.R_drewN|apply Kd.R_drew));exact HO_640001.out⟩,⟨by (with_reducible repeat (first|apply Kd.R_alloc|apply Kd.R_drewN|apply Kd.R_drew));exact HO_640002.out⟩,⟨by (with_reducible repeat (first|refine blk_drewN ?_ _|refine blk_drew ?_|refine blk_alloc ?_ _));exact BK639.out⟩,⟨by (with_reducible repeat (first|refine blk_drewN ?_ _|refine blk_drew ?_|refine blk_alloc ?_ _));exact BK640.out⟩,⟨by repeat (first|(with_reducible first|exact HK.out|apply Kept.alloc|apply Kept.drewN|apply Kept.drew|refine Kept.setCell ?_ (.inr GW639.out) _|refine Kept.setCell ?_ (.inr GW640.out) _)|exact HK.out)⟩,⟨by repeat (first|(with_reducible first|exact HB.out|apply below_alloc|apply pw_below_drewN|apply below_drew1|refine below_set ?_ GE639.out|refine below_set ?_ GE640.out)|exact HB.out)⟩⟩
             ·
              rw [if_neg c38] at H
              exact absurd H (by simp)
            ·
             rw [if_neg c37] at H
             have c37b0 : decide (x14_2 < (l0_2.length : Int)) = false:=decide_eq_false c37
             clear c37
             by_cases c48 : 0 ≤ a3
             ·
              rw [if_pos c48] at H
              have c48b0 : decide (0 ≤ a3) = true:=decide_eq_true c48
              clear c48
              by_cases c49 : a3 < (l0_0.length : Int)
              ·
               rw [if_pos c49] at H
               have c49b0 : decide (a3 < (l0_0.length : Int)) = true:=decide_eq_true c49
               clear c49
               obtain ⟨y646,hy646⟩ : ∃ y_ : List ByteArray,y_ = (l0_0.set (a3 : Int).toNat a5):=⟨_,rfl⟩
               replace H : (some (y646,l0_1,l0_2,0)) = some (r1,r2,r3,r4):=by first|(rw [hy646];with_reducible exact H)|(have H2_:=(Option.bind_some _ _).symm.trans H;rw [hy646];with_reducible exact H2_)|(have H2_:=(Option.bind_some _ _).symm.trans H;with_reducible exact H2_)|with_reducible exact H|(rw [hy646];exact H)|exact H
               have Ny646:=Aside0.mk hy646
               clear hy646
               simp only [Option.some.injEq,Prod.mk.injEq] at H
               obtain ⟨rfl,rfl,rfl,rfl⟩:=H
               have hnb51:=NB639_640.out
               have hnc51:=NB640_639.out
               have hcz52_0 : wr.cell? ⟨gb639,0,none⟩ = some (.slice (some ad643) l0_0.length co8):=(blk_cell BK639.out 0).trans rfl
               have hcz52_1 : wr.cell? ⟨gb639,1,none⟩ = some (.slice (some ad642) l0_1.length co9):=(blk_cell BK639.out 1).trans rfl
               have hcz52_2 : wr.cell? ⟨gb639,2,none⟩ = some (.slice Ao10 l0_2.length co10):=(blk_cell BK639.out 2).trans rfl
               have hfz52_0:=blk_frozen BK639.out 0
               have hfz52_1:=blk_frozen BK639.out 1
               have hfz52_2:=blk_frozen BK639.out 2
               have p50 : 0 ≤ (a3 : Int):=of_decide_eq_true (by first|(with_reducible assumption)|assumption)
               have q50 : (a3 : Int) < ((l0_0.length : Int) : Int):=of_decide_eq_true (by first|(with_reducible assumption)|assumption)
               obtain ⟨go50,co50,eo50,gb50,gl50,cl50,HG50⟩:=Kd.R_form HO_640000.out (by omega)
               (first|cases eo50|(injection eo50 with ea_ en_ ec_;(first|subst ea_|(injection ea_ with ea_;subst ea_));subst ec_;clear en_))
               have GB50:=Aside0.mk gb50
               have GG50:=Aside0.mk HG50
               clear gb50 gl50 HG50
               have HMgo50:=Aside0.mk (show ((P0_0_ go50 ∨ P0_1_ go50 ∨ P0_2_ go50) ∨ w.heap.size ≤ go50) from (HO_640000.out.1 _ rfl))
               (first|simp only [add_plain] at hx643_0|skip)
               obtain ⟨hx50_0,hf50_0⟩:=Kd.R_celln (⟨#[]⟩ : ByteArray) HO_640000.out (a3 : Int) p50 q50
               replace p50:=eq_true p50
               replace q50:=eq_true q50
               have HP53:=Kd.R_putg HO_640000.out (a3 : Int) a5
               go_wp2_with (first|((with_reducible refine gate_store (t:=9) (p:=80) rfl ?_);refine store_event (t:=9) (p:=80) (v:=?vo_w54) (w1:=(wr.setCell ⟨go50,(a3 : Int).toNat,none⟩ (.string a5))) ?hg ?ho ?hn ?hr ?_;(case ho => rfl);(case hg => rfl);(case hn => rfl);(case hr => first|(go_simp;done)|(go_simp;rfl));intro w54 hw;have hg : wr.grownBy w54 (some go50):=(by rw [hw];exact HP53.2);have hp_ : Kd.R Kd.string 9 w54 w0.heap.size (fun k_ => ((P0_0_ k_ ∨ P0_1_ k_ ∨ P0_2_ k_) ∨ w.heap.size ≤ k_)) (.slice (some ⟨go50,0,none⟩) l0_0.length co8) y646:=(by rw [hw,Ny646.out];exact HP53.1);clear HP53;have n0_:=Aside0.mk (hp_);have n1_:=Aside0.mk (Kd.R_over' (v:=(.slice (some ⟨go50,0,none⟩) l0_0.length co8)) (by exact HO_640001.out) (Kd.R_typed HO_640000.out) (by decide) hg);have n2_:=Aside0.mk (Kd.R_over' (v:=(.slice (some ⟨go50,0,none⟩) l0_0.length co8)) (by exact HO_640002.out) (Kd.R_typed HO_640000.out) (by decide) hg);have n3_:=Aside0.mk (blk_grown BK639.out hg (Kd.R_ne HO_640000.out BK639.out (by decide)));have n4_:=Aside0.mk (blk_grown BK640.out hg (Kd.R_ne HO_640000.out BK640.out (by decide)));have n5_:=Aside0.mk ((by rw [hw];exact below_set (HB.out) GB50.out : Below w0.heap.size w0 w54));have n6_:=Aside0.mk (Kept.of_grown (S:=(fun k_ => P0_0_ k_ ∨ P0_1_ k_ ∨ P0_2_ k_)) hg (by exact HK.out) (fun k_ e_ => (HO_640000.out.1 k_ e_)));clear HO_640000;clear HO_640001;clear HO_640002;clear BK639;clear BK640;clear HB;clear HK;have HO_640000:=n0_;have HO_640001:=n1_;have HO_640002:=n2_;have BK639:=n3_;have BK640:=n4_;have HB:=n5_;have HK:=n6_;clear n0_ n1_ n2_ n3_ n4_ n5_ n6_;clear hg hw hp_;have hcz55_0 : w54.cell? ⟨gb639,0,none⟩ = some (.slice (some ⟨go50,0,none⟩) l0_0.length co8):=(blk_cell BK639.out 0).trans rfl;have hcz55_1 : w54.cell? ⟨gb639,1,none⟩ = some (.slice (some ad642) l0_1.length co9):=(blk_cell BK639.out 1).trans rfl;have hcz55_2 : w54.cell? ⟨gb639,2,none⟩ = some (.slice Ao10 l0_2.length co10):=(blk_cell BK639.out 2).trans rfl;have hfz55_0:=blk_frozen BK639.out 0;have hfz55_1:=blk_frozen BK639.out 1;have hfz55_2:=blk_frozen BK639.out 2;have hcz56_0 : w54.cell? ⟨gb640,0,none⟩ = some (.slice none 0 0):=(blk_cell BK640.out 0).trans rfl;have hcz56_1 : w54.cell? ⟨gb640,1,none⟩ = some (.slice none 0 0):=(blk_cell BK640.out 1).trans rfl;have hcz56_2 : w54.cell? ⟨gb640,2,none⟩ = some (.slice none 0 0):=(blk_cell BK640.out 2).trans rfl;have hfz56_0:=blk_frozen BK640.out 0;have hfz56_1:=blk_frozen BK640.out 1;have hfz56_2:=blk_frozen BK640.out 2))
               refine bodyPost_ret (results_ct rfl _ _ gb640 28 #[.slice (some ⟨go50,0,none⟩) l0_0.length co8,.slice (some ad642) l0_1.length co9,.slice Ao10 l0_2.length co10] (0,0) _ rfl (by (with_reducible repeat (first|refine blk_drewN ?_ _|refine blk_drew ?_|refine blk_alloc ?_ _));refine blk_put (cs:=#[.slice (some ⟨go50,0,none⟩) l0_0.length co8,.slice (some ad642) l0_1.length co9,.slice none 0 0]) ?_ 2 _ rfl;(with_reducible repeat (first|refine blk_drewN ?_ _|refine blk_drew ?_|refine blk_alloc ?_ _));refine blk_put (cs:=#[.slice (some ⟨go50,0,none⟩) l0_0.length co8,.slice none 0 0,.slice none 0 0]) ?_ 1 _ rfl;(with_reducible repeat (first|refine blk_drewN ?_ _|refine blk_drew ?_|refine blk_alloc ?_ _));refine blk_put (cs:=#[.slice none 0 0,.slice none 0 0,.slice none 0 0]) ?_ 0 _ rfl;(with_reducible repeat (first|refine blk_drewN ?_ _|refine blk_drew ?_|refine blk_alloc ?_ _));exact BK640.out) Try.underlying28 rfl (by kernel_rfl)) rfl ?_
               exact ⟨_,_,_,by first|rfl|(simp [errW_none,errW_some] <;> rfl)|(simp [*,errW_none,errW_some] <;> rfl),by (with_reducible repeat (first|apply Kd.R_alloc|apply Kd.R_drewN|apply Kd.R_drew));exact Kd.R_mono (Kd.R_far (p:=⟨gb640,2,none⟩) (Kd.R_far (p:=⟨gb640,1,none⟩) (Kd.R_far (p:=⟨gb640,0,none⟩) (Kd.R_types HO_640000.out BK640.out (by decide)) (fun _ hk => hk.2) (.slice (some ⟨go50,0,none⟩) l0_0.length co8)) (fun _ hk => hk.2) (.slice (some ad642) l0_1.length co9)) (fun _ hk => hk.2) (.slice Ao10 l0_2.length co10)) (fun _ hk => hk.1),by (with_reducible repeat (first|apply Kd.R_alloc|apply Kd.R_drewN|apply Kd.R_drew));exact Kd.R_mono (Kd.R_far (p:=⟨gb640,2,none⟩) (Kd.R_far (p:=⟨gb640,1,none⟩) (Kd.R_far (p:=⟨gb640,0,none⟩) (Kd.R_types HO_640001.out BK640.out (by decide)) (fun _ hk => hk.2) (.slice (some ⟨go50,0,none⟩) l0_0.length co8)) (fun _ hk => hk.2) (.slice (some ad642) l0_1.length co9)) (fun _ hk => hk.2) (.slice Ao10 l0_2.length co10)) (fun _ hk => hk.1),by (with_reducible repeat (first|apply Kd.R_alloc|apply Kd.R_drewN|apply Kd.R_drew));exact Kd.R_mono (Kd.R_far (p:=⟨gb640,2,none⟩) (Kd.R_far (p:=⟨gb640,1,none⟩) (Kd.R_far (p:=⟨gb640,0,none⟩) (Kd.R_types HO_640002.out BK640.out (by decide)) (fun _ hk => hk.2) (.slice (some ⟨go50,0,none⟩) l0_0.length co8)) (fun _ hk => hk.2) (.slice (some ad642) l0_1.length co9)) (fun _ hk => hk.2) (.slice Ao10 l0_2.length co10)) (fun _ hk => hk.1),by repeat (first|(with_reducible first|exact HB.out|apply below_alloc|apply pw_below_drewN|apply below_drew1|refine below_set ?_ GE639.out|refine below_set ?_ GE640.out)|exact HB.out),by repeat (first|(with_reducible first|exact HK.out|apply Kept.alloc|apply Kept.drewN|apply Kept.drew|refine Kept.setCell ?_ (.inr GW639.out) _|refine Kept.setCell ?_ (.inr GW640.out) _)|exact HK.out)⟩
              ·
               rw [if_neg c49] at H
               exact absurd H (by simp)
             ·
              rw [if_neg c48] at H
              exact absurd H (by simp)
         ·
          rw [if_neg c34] at H
          have c34b0 : ((rdOf ByteArray.empty l0_0 a3).toList == a4.toList) = false:=beq_eq_false_iff_ne.mpr c34
          have c34b1 : ((rdOf ByteArray.empty l0_0 a3).toList != a4.toList) = true:=bne_iff_ne.mpr c34
          simp only [Option.some.injEq,Prod.mk.injEq] at H
          obtain ⟨rfl,rfl,rfl,rfl⟩:=H
          have hnb57:=NB639_640.out
          have hnc57:=NB640_639.out
          have hcz58_0 : wc.cell? ⟨gb639,0,none⟩ = some (.slice Ao8 l0_0.length co8):=(blk_cell BK639.out 0).trans rfl
          have hcz58_1 : wc.cell? ⟨gb639,1,none⟩ = some (.slice Ao9 l0_1.length co9):=(blk_cell BK639.out 1).trans rfl
          have hcz58_2 : wc.cell? ⟨gb639,2,none⟩ = some (.slice Ao10 l0_2.length co10):=(blk_cell BK639.out 2).trans rfl
          have hfz58_0:=blk_frozen BK639.out 0
          have hfz58_1:=blk_frozen BK639.out 1
          have hfz58_2:=blk_frozen BK639.out 2
          have p642 : 0 ≤ (a1 : Int):=of_decide_eq_true (by first|(with_reducible assumption)|assumption)
          have q642 : a1 < (l0_1.length : Int):=of_decide_eq_true (by first|(with_reducible assumption)|assumption)
          obtain ⟨ad642,e642,hx642_0⟩:=Kd.at_int (Kd.R_reads' HO_640001.out).2.2 a1 p642 q642
          cases e642
          replace p642:=eq_true p642
          replace q642:=eq_true q642
          have p643 : 0 ≤ (a3 : Int):=of_decide_eq_true (by first|(with_reducible assumption)|assumption)
          have q643 : a3 < (l0_0.length : Int):=of_decide_eq_true (by first|(with_reducible assumption)|assumption)
          obtain ⟨ad643,e643,hx643_0⟩:=Kd.at_string (Kd.R_reads' HO_640000.out).2.2 a3 p643 q643
          cases e643
          replace p643:=eq_true p643
          replace q643:=eq_true q643
          have hcz59_0 : wc.cell? ⟨gb640,0,none⟩ = some (.slice none 0 0):=(blk_cell BK640.out 0).trans rfl
          have hcz59_1 : wc.cell? ⟨gb640,1,none⟩ = some (.slice none 0 0):=(blk_cell BK640.out 1).trans rfl
          have hcz59_2 : wc.cell? ⟨gb640,2,none⟩ = some (.slice none 0 0):=(blk_cell BK640.out 2).trans rfl
          have hfz59_0:=blk_frozen BK640.out 0
          have hfz59_1:=blk_frozen BK640.out 1
          have hfz59_2:=blk_frozen BK640.out 2
          go_wp2
          refine bodyPost_ret (results_ct rfl _ _ gb640 28 #[.slice (some ad643) l0_0.length co8,.slice (some ad642) l0_1.length co9,.slice Ao10 l0_2.length co10] (0,0) _ rfl (by (with_reducible repeat (first|refine blk_drewN ?_ _|refine blk_drew ?_|refine blk_alloc ?_ _));refine blk_put (cs:=#[.slice (some ad643) l0_0.length co8,.slice (some ad642) l0_1.length co9,.slice none 0 0]) ?_ 2 _ rfl;(with_reducible repeat (first|refine blk_drewN ?_ _|refine blk_drew ?_|refine blk_alloc ?_ _));refine blk_put (cs:=#[.slice (some ad643) l0_0.length co8,.slice none 0 0,.slice none 0 0]) ?_ 1 _ rfl;(with_reducible repeat (first|refine blk_drewN ?_ _|refine blk_drew ?_|refine blk_alloc ?_ _));refine blk_put (cs:=#[.slice none 0 0,.slice none 0 0,.slice none 0 0]) ?_ 0 _ rfl;(with_reducible repeat (first|refine blk_drewN ?_ _|refine blk_drew ?_|refine blk_alloc ?_ _));exact BK640.out) Try.underlying28 rfl (by kernel_rfl)) rfl ?_
          exact ⟨_,_,_,by first|rfl|(simp [errW_none,errW_some] <;> rfl)|(simp [*,errW_none,errW_some] <;> rfl),by (with_reducible repeat (first|apply Kd.R_alloc|apply Kd.R_drewN|apply Kd.R_drew));exact Kd.R_mono (Kd.R_far (p:=⟨gb640,2,none⟩) (Kd.R_far (p:=⟨gb640,1,none⟩) (Kd.R_far (p:=⟨gb640,0,none⟩) (Kd.R_types HO_640000.out BK640.out (by decide)) (fun _ hk => hk.2) (.slice (some ad643) l0_0.length co8)) (fun _ hk => hk.2) (.slice (some ad642) l0_1.length co9)) (fun _ hk => hk.2) (.slice Ao10 l0_2.length co10)) (fun _ hk => hk.1),by (with_reducible repeat (first|apply Kd.R_alloc|apply Kd.R_drewN|apply Kd.R_drew));exact Kd.R_mono (Kd.R_far (p:=⟨gb640,2,none⟩) (Kd.R_far (p:=⟨gb640,1,none⟩) (Kd.R_far (p:=⟨gb640,0,none⟩) (Kd.R_types HO_640001.out BK640.out (by decide)) (fun _ hk => hk.2) (.slice (some ad643) l0_0.length co8)) (fun _ hk => hk.2) (.slice (some ad642) l0_1.length co9)) (fun _ hk => hk.2) (.slice Ao10 l0_2.length co10)) (fun _ hk => hk.1),by (with_reducible repeat (first|apply Kd.R_alloc|apply Kd.R_drewN|apply Kd.R_drew));exact Kd.R_mono (Kd.R_far (p:=⟨gb640,2,none⟩) (Kd.R_far (p:=⟨gb640,1,none⟩) (Kd.R_far (p:=⟨gb640,0,none⟩) (Kd.R_types HO_640002.out BK640.out (by decide)) (fun _ hk => hk.2) (.slice (some ad643) l0_0.length co8)) (fun _ hk => hk.2) (.slice (some ad642) l0_1.length co9)) (fun _ hk => hk.2) (.slice Ao10 l0_2.length co10)) (fun _ hk => hk.1),by repeat (first|(with_reducible first|exact HB.out|apply below_alloc|apply pw_below_drewN|apply below_drew1|refine below_set ?_ GE639.out|refine below_set ?_ GE640.out)|exact HB.out),by repeat (first|(with_reducible first|exact HK.out|apply Kept.alloc|apply Kept.drewN|apply Kept.drew|refine Kept.setCell ?_ (.inr GW639.out) _|refine Kept.setCell ?_ (.inr GW640.out) _)|exact HK.out)⟩
        ·
         rw [if_neg c33] at H
         exact absurd H (by simp)
       ·
        rw [if_neg c32] at H
        exact absurd H (by simp)
      ·
       rw [if_neg c31] at H
       have c31b0 : ((rd l0_1 a1) == a2) = false:=beq_eq_false_iff_ne.mpr c31
       have c31b1 : ((rd l0_1 a1) != a2) = true:=bne_iff_ne.mpr c31
       simp only [Option.some.injEq,Prod.mk.injEq] at H
       obtain ⟨rfl,rfl,rfl,rfl⟩:=H
       have hnb60:=NB639_640.out
       have hnc60:=NB640_639.out
       have hcz61_0 : wc.cell? ⟨gb639,0,none⟩ = some (.slice Ao8 l0_0.length co8):=(blk_cell BK639.out 0).trans rfl
       have hcz61_1 : wc.cell? ⟨gb639,1,none⟩ = some (.slice Ao9 l0_1.length co9):=(blk_cell BK639.out 1).trans rfl
       have hcz61_2 : wc.cell? ⟨gb639,2,none⟩ = some (.slice Ao10 l0_2.length co10):=(blk_cell BK639.out 2).trans rfl
       have hfz61_0:=blk_frozen BK639.out 0
       have hfz61_1:=blk_frozen BK639.out 1
       have hfz61_2:=blk_frozen BK639.out 2
       have p642 : 0 ≤ (a1 : Int):=of_decide_eq_true (by first|(with_reducible assumption)|assumption)
       have q642 : a1 < (l0_1.length : Int):=of_decide_eq_true (by first|(with_reducible assumption)|assumption)
       obtain ⟨ad642,e642,hx642_0⟩:=Kd.at_int (Kd.R_reads' HO_640001.out).2.2 a1 p642 q642
       cases e642
       replace p642:=eq_true p642
       replace q642:=eq_true q642
       have hcz62_0 : wc.cell? ⟨gb640,0,none⟩ = some (.slice none 0 0):=(blk_cell BK640.out 0).trans rfl
       have hcz62_1 : wc.cell? ⟨gb640,1,none⟩ = some (.slice none 0 0):=(blk_cell BK640.out 1).trans rfl
       have hcz62_2 : wc.cell? ⟨gb640,2,none⟩ = some (.slice none 0 0):=(blk_cell BK640.out 2).trans rfl
       have hfz62_0:=blk_frozen BK640.out 0
       have hfz62_1:=blk_frozen BK640.out 1
       have hfz62_2:=blk_frozen BK640.out 2
       go_wp2
       refine bodyPost_ret (results_ct rfl _ _ gb640 28 #[.slice Ao8 l0_0.length co8,.slice (some ad642) l0_1.length co9,.slice Ao10 l0_2.length co10] (0,0) _ rfl (by (with_reducible repeat (first|refine blk_drewN ?_ _|refine blk_drew ?_|refine blk_alloc ?_ _));refine blk_put (cs:=#[.slice Ao8 l0_0.length co8,.slice (some ad642) l0_1.length co9,.slice none 0 0]) ?_ 2 _ rfl;(with_reducible repeat (first|refine blk_drewN ?_ _|refine blk_drew ?_|refine blk_alloc ?_ _));refine blk_put (cs:=#[.slice Ao8 l0_0.length co8,.slice none 0 0,.slice none 0 0]) ?_ 1 _ rfl;(with_reducible repeat (first|refine blk_drewN ?_ _|refine blk_drew ?_|refine blk_alloc ?_ _));refine blk_put (cs:=#[.slice none 0 0,.slice none 0 0,.slice none 0 0]) ?_ 0 _ rfl;(with_reducible repeat (first|refine blk_drewN ?_ _|refine blk_drew ?_|refine blk_alloc ?_ _));exact BK640.out) Try.underlying28 rfl (by kernel_rfl)) rfl ?_
       exact ⟨_,_,_,by first|rfl|(simp [errW_none,errW_some] <;> rfl)|(simp [*,errW_none,errW_some] <;> rfl),by (with_reducible repeat (first|apply Kd.R_alloc|apply Kd.R_drewN|apply Kd.R_drew));exact Kd.R_mono (Kd.R_far (p:=⟨gb640,2,none⟩) (Kd.R_far (p:=⟨gb640,1,none⟩) (Kd.R_far (p:=⟨gb640,0,none⟩) (Kd.R_types HO_640000.out BK640.out (by decide)) (fun _ hk => hk.2) (.slice Ao8 l0_0.length co8)) (fun _ hk => hk.2) (.slice (some ad642) l0_1.length co9)) (fun _ hk => hk.2) (.slice Ao10 l0_2.length co10)) (fun _ hk => hk.1),by (with_reducible repeat (first|apply Kd.R_alloc|apply Kd.R_drewN|apply Kd.R_drew));exact Kd.R_mono (Kd.R_far (p:=⟨gb640,2,none⟩) (Kd.R_far (p:=⟨gb640,1,none⟩) (Kd.R_far (p:=⟨gb640,0,none⟩) (Kd.R_types HO_640001.out BK640.out (by decide)) (fun _ hk => hk.2) (.slice Ao8 l0_0.length co8)) (fun _ hk => hk.2) (.slice (some ad642) l0_1.length co9)) (fun _ hk => hk.2) (.slice Ao10 l0_2.length co10)) (fun _ hk => hk.1),by (with_reducible repeat (first|apply Kd.R_alloc|apply Kd.R_drewN|apply Kd.R_drew));exact Kd.R_mono (Kd.R_far (p:=⟨gb640,2,none⟩) (Kd.R_far (p:=⟨gb640,1,none⟩) (Kd.R_far (p:=⟨gb640,0,none⟩) (Kd.R_types HO_640002.out BK640.out (by decide)) (fun _ hk => hk.2) (.slice Ao8 l0_0.length co8)) (fun _ hk => hk.2) (.slice (some ad642) l0_1.length co9)) (fun _ hk => hk.2) (.slice Ao10 l0_2.length co10)) (fun _ hk => hk.1),by repeat (first|(with_reducible first|exact HB.out|apply below_alloc|apply pw_below_drewN|apply below_drew1|refine below_set ?_ GE639.out|refine below_set ?_ GE640.out)|exact HB.out),by repeat (first|(with_reducible first|exact HK.out|apply Kept.alloc|apply Kept.drewN|apply Kept.drew|refine Kept.setCell ?_ (.inr GW639.out) _|refine Kept.setCell ?_ (.inr GW640.out) _)|exact HK.out)⟩
     ·
      rw [if_neg c30] at H
      exact absurd H (by simp)
    ·
     rw [if_neg c29] at H
     exact absurd H (by simp)
def spec_Swap.f (k : Nat) (l0_0 : List ByteArray) (l0_1 : List Int) (l0_2 : List (S36)) (a1 : Int) (a2 : Int) (a3 : Int) (a4 : ByteArray) (a5 : ByteArray) : Option (List ByteArray × List Int × (List (S36)) × Int):=(spec_DiskOk.f k l0_0 l0_1 l0_2).bind fun t649 => (if t649 = true then ((spec_l3Copy.f l0_0 l0_1 l0_2).bind fun bt650 => ((spec_l3Swap.f k bt650.1 bt650.2.1 bt650.2.2 a1 a2 a3 a4 a5).bind fun bt659 => (some (bt659.1,bt659.2.1,bt659.2.2.1,bt659.2.2.2)))) else (some (([] : List ByteArray),([] : List Int),([] : List (S36)),1)))
set_option maxHeartbeats 8000000 in
set_option maxRecDepth 100000 in
theorem spec_Swap.calls (k : Nat) (A0_0 : Option Addr) (c0_0 : Nat) (l0_0 : List ByteArray) (A0_1 : Option Addr) (c0_1 : Nat) (l0_1 : List Int) (A0_2 : Option Addr) (c0_2 : Nat) (l0_2 : List (S36)) (a1 : Int) (a2 : Int) (a3 : Int) (a4 : ByteArray) (a5 : ByteArray) (r1 : List ByteArray) (r2 : List Int) (r3 : List (S36)) (r4 : Int) (w : World) (hr0_0 : Kd.C Kd.string w A0_0 l0_0.length l0_0) (hc0_0 : l0_0.length ≤ c0_0) (hr0_1 : Kd.C (Kd.int .i64) w A0_1 l0_1.length l0_1) (hc0_1 : l0_1.length ≤ c0_1) (hr0_2 : Kd.C k36 w A0_2 l0_2.length l0_2) (hc0_2 : l0_2.length ≤ c0_2) (h : spec_Swap.f k l0_0 l0_1 l0_2 a1 a2 a3 a4 a5 = some (r1,r2,r3,r4)) :
  Calls Try.prog 20 #[.agg #[.slice A0_0 l0_0.length c0_0,.slice A0_1 l0_1.length c0_1,.slice A0_2 l0_2.length c0_2],.int .i64 a1,.int .i64 a2,.int .i64 a3,.string a4,.string a5] w fun e w' => ∃ v0_ v1_ v2_ : Value,e = .returned (.tuple #[.agg #[v0_,v1_,v2_],.int .i64 r4]) ∧ Kd.R Kd.string 9 w' w.heap.size (fun _ => True) v0_ r1 ∧ Kd.R (Kd.int .i64) 3 w' w.heap.size (fun _ => True) v1_ r2 ∧ Kd.R k36 36 w' w.heap.size (fun _ => True) v2_ r3 ∧ Below w.heap.size w w':=by
 have hu28:=Try.underlying28
 have HR0_0:=Aside0.mk hr0_0
 have HC0_0:=Aside0.mk hc0_0
 clear hr0_0 hc0_0
 have HR0_1:=Aside0.mk hr0_1
 have HC0_1:=Aside0.mk hc0_1
 clear hr0_1 hc0_1
 have HR0_2:=Aside0.mk hr0_2
 have HC0_2:=Aside0.mk hc0_2
 clear hr0_2 hc0_2
 have HB:=Aside0.mk (Below.refl w.heap.size w)
 have H : ((spec_DiskOk.f k l0_0 l0_1 l0_2).bind fun t649 => (if t649 = true then ((spec_l3Copy.f l0_0 l0_1 l0_2).bind fun bt650 => ((spec_l3Swap.f k bt650.1 bt650.2.1 bt650.2.2 a1 a2 a3 a4 a5).bind fun bt659 => (some (bt659.1,bt659.2.1,bt659.2.2.1,bt659.2.2.2)))) else (some (([] : List ByteArray),([] : List Int),([] : List (S36)),1)))) = some (r1,r2,r3,r4):=h
 clear h
 replace H:=Option.bind_eq_some_iff.mp H
 obtain ⟨t649,A70,H⟩:=H
 replace H : (if t649 = true then ((spec_l3Copy.f l0_0 l0_1 l0_2).bind fun bt650 => ((spec_l3Swap.f k bt650.1 bt650.2.1 bt650.2.2 a1 a2 a3 a4 a5).bind fun bt659 => (some (bt659.1,bt659.2.1,bt659.2.2.1,bt659.2.2.2)))) else (some (([] : List ByteArray),([] : List Int),([] : List (S36)),1))) = some (r1,r2,r3,r4):=H
 have A7:=Aside0.mk A70
 clear A70
 by_cases c8 : t649 = true
 ·
  subst c8
  have H1 : ((spec_l3Copy.f l0_0 l0_1 l0_2).bind fun bt650 => ((spec_l3Swap.f k bt650.1 bt650.2.1 bt650.2.2 a1 a2 a3 a4 a5).bind fun bt659 => (some (bt659.1,bt659.2.1,bt659.2.2.1,bt659.2.2.2)))) = some (r1,r2,r3,r4):=by rw [if_pos rfl] at H;exact H
  clear H
  have H:=H1
  clear H1
  replace H:=Option.bind_eq_some_iff.mp H
  obtain ⟨⟨t650,t653,t656⟩,A90,H⟩:=H
  replace H : ((spec_l3Swap.f k t650 t653 t656 a1 a2 a3 a4 a5).bind fun bt659 => (some (bt659.1,bt659.2.1,bt659.2.2.1,bt659.2.2.2))) = some (r1,r2,r3,r4):=H
  have A9:=Aside0.mk A90
  clear A90
  replace H:=Option.bind_eq_some_iff.mp H
  obtain ⟨⟨t659,t662,t665,t668⟩,A100,H⟩:=H
  replace H : (some (t659,t662,t665,t668)) = some (r1,r2,r3,r4):=H
  have A10:=Aside0.mk A100
  clear A100
  simp only [Option.some.injEq,Prod.mk.injEq] at H
  obtain ⟨rfl,rfl,rfl,rfl⟩:=H
  go_enter Try.func20,Try.ntmps20
  go_wp2_with (first|((with_reducible refine gate_dst (N:=6) rfl ?_);refine box_event ?hg (N:=6) ?hd (cs:=#[.slice A0_0 l0_0.length c0_0,.slice A0_1 l0_1.length c0_1,.slice A0_2 l0_2.length c0_2]) (t:=28) ?hr ?_;(case hd => rfl);(case hg => rfl);(case hr => first|(go_simp;done)|(go_simp;rfl));intro gb647 hg w11 hbox hb;have n0_:=Aside0.mk (below_step (by exact HB.out) hb);have n1_:=Aside0.mk (hbox);have n2_:=Aside0.mk ((by rw [hg];exact (below_size (by exact HB.out)) : w.heap.size ≤ gb647));have n3_:=Aside0.mk ((by rw [hg];exact (below_size (by exact HB.out)) : w.heap.size ≤ gb647));clear HB;have HB:=n0_;have BK647:=n1_;have GW647:=n2_;have GE647:=n3_;clear n0_ n1_ n2_ n3_;clear hb hbox hg)|((with_reducible refine gate_dst (N:=12) rfl ?_);refine box_event ?hg (N:=12) ?hd (cs:=#[.slice none 0 0,.slice none 0 0,.slice none 0 0]) (t:=28) ?hr ?_;(case hd => rfl);(case hg => rfl);(case hr => first|(go_simp;done)|(go_simp;rfl));intro gb648 hg w12 hbox hb;have n0_:=Aside0.mk (blk_below BK647.out hb);have n1_:=Aside0.mk (below_step (by exact HB.out) hb);have n2_:=Aside0.mk (hbox);have n3_:=Aside0.mk ((by rw [hg];exact (below_size (by exact HB.out)) : w.heap.size ≤ gb648));have n4_:=Aside0.mk ((by rw [hg];exact (below_size (by exact HB.out)) : w.heap.size ≤ gb648));have n5_:=Aside0.mk ((by rw [hg];exact Nat.ne_of_lt (blk_lt BK647.out) : gb647 ≠ gb648));have n6_:=Aside0.mk ((by rw [hg];exact Nat.ne_of_gt (blk_lt BK647.out) : gb648 ≠ gb647));clear BK647;clear HB;have BK647:=n0_;have HB:=n1_;have BK648:=n2_;have GW648:=n3_;have GE648:=n4_;have NB647_648:=n5_;have NB648_647:=n6_;clear n0_ n1_ n2_ n3_ n4_ n5_ n6_;clear hb hbox hg;have hnb13:=NB647_648.out;have hnc13:=NB648_647.out;have hcz14_0 : w12.cell? ⟨gb647,0,none⟩ = some (.slice A0_0 l0_0.length c0_0):=(blk_cell BK647.out 0).trans rfl;have hcz14_1 : w12.cell? ⟨gb647,1,none⟩ = some (.slice A0_1 l0_1.length c0_1):=(blk_cell BK647.out 1).trans rfl;have hcz14_2 : w12.cell? ⟨gb647,2,none⟩ = some (.slice A0_2 l0_2.length c0_2):=(blk_cell BK647.out 2).trans rfl;have hfz14_0:=blk_frozen BK647.out 0;have hfz14_1:=blk_frozen BK647.out 1;have hfz14_2:=blk_frozen BK647.out 2)|((with_reducible refine gate_callee (f:=13) rfl ?_);refine goesL_ (some 17) rfl rfl Try.func13 (by kernel_rfl) rfl #[.agg #[.slice A0_0 l0_0.length c0_0,.slice A0_1 l0_1.length c0_1,.slice A0_2 l0_2.length c0_2]] rfl (by (try simp only [List.map_toArray,List.map_cons,List.map_nil]);first|done|rfl|(simp only [List.length_drop,List.length_take];rfl)) ?_;(with_reducible refine (spec_DiskOk.calls k _ _ l0_0 _ _ l0_1 _ _ l0_2 true _ ?side1 ?side2 ?side3 ?side4 ?side5 ?side6 A7.out).mono ?_);(case side1 => repeat (first|exact (Kd.C_below HR0_0.out HB.out)|(with_reducible refine Kd.C_alloc ?_ _)|(with_reducible refine Kd.C_drewN ?_ _)|(with_reducible refine Kd.C_drew ?_)));(case side2 => exact HC0_0.out);(case side3 => repeat (first|exact (Kd.C_below HR0_1.out HB.out)|(with_reducible refine Kd.C_alloc ?_ _)|(with_reducible refine Kd.C_drewN ?_ _)|(with_reducible refine Kd.C_drew ?_)));(case side4 => exact HC0_1.out);(case side5 => repeat (first|exact (Kd.C_below HR0_2.out HB.out)|(with_reducible refine Kd.C_alloc ?_ _)|(with_reducible refine Kd.C_drewN ?_ _)|(with_reducible refine Kd.C_drew ?_)));(case side6 => exact HC0_2.out);rintro e w15 ⟨rfl,hb⟩;refine ⟨_,rfl,?_⟩;have n0_:=Aside0.mk (blk_below BK647.out hb);have n1_:=Aside0.mk (blk_below BK648.out hb);have n2_:=Aside0.mk (below_step (by exact HB.out) hb);clear BK647;clear BK648;clear HB;have BK647:=n0_;have BK648:=n1_;have HB:=n2_;clear n0_ n1_ n2_;(try clear hb);(try clear hb2);(try clear hk);(try clear hi);have hcz16_0 : w15.cell? ⟨gb647,0,none⟩ = some (.slice A0_0 l0_0.length c0_0):=(blk_cell BK647.out 0).trans rfl;have hcz16_1 : w15.cell? ⟨gb647,1,none⟩ = some (.slice A0_1 l0_1.length c0_1):=(blk_cell BK647.out 1).trans rfl;have hcz16_2 : w15.cell? ⟨gb647,2,none⟩ = some (.slice A0_2 l0_2.length c0_2):=(blk_cell BK647.out 2).trans rfl;have hfz16_0:=blk_frozen BK647.out 0;have hfz16_1:=blk_frozen BK647.out 1;have hfz16_2:=blk_frozen BK647.out 2)|((with_reducible refine gate_callee (f:=52) rfl ?_);refine goesL_ (some 22) rfl rfl Try.func52 (by kernel_rfl) rfl #[.agg #[.slice A0_0 l0_0.length c0_0,.slice A0_1 l0_1.length c0_1,.slice A0_2 l0_2.length c0_2]] rfl (by (try simp only [List.map_toArray,List.map_cons,List.map_nil]);first|done|rfl|(simp only [List.length_drop,List.length_take];rfl)) ?_;(with_reducible refine (spec_l3Copy.calls _ _ l0_0 _ _ l0_1 _ _ l0_2 t650 t653 t656 _ ?side1 ?side2 ?side3 ?side4 ?side5 ?side6 A9.out).mono ?_);(case side1 => repeat (first|exact (Kd.C_below HR0_0.out HB.out)|(with_reducible refine Kd.C_alloc ?_ _)|(with_reducible refine Kd.C_drewN ?_ _)|(with_reducible refine Kd.C_drew ?_)));(case side2 => exact HC0_0.out);(case side3 => repeat (first|exact (Kd.C_below HR0_1.out HB.out)|(with_reducible refine Kd.C_alloc ?_ _)|(with_reducible refine Kd.C_drewN ?_ _)|(with_reducible refine Kd.C_drew ?_)));(case side4 => exact HC0_1.out);(case side5 => repeat (first|exact (Kd.C_below HR0_2.out HB.out)|(with_reducible refine Kd.C_alloc ?_ _)|(with_reducible refine Kd.C_drewN ?_ _)|(with_reducible refine Kd.C_drew ?_)));(case side6 => exact HC0_2.out);rintro e w17 ⟨v651,v654,v657,rfl,ho0,ho1,ho2,hb⟩;refine ⟨_,rfl,?_⟩;have n0_:=Aside0.mk (Kd.R_lower ho0 (below_size (by exact HB.out)));have n1_:=Aside0.mk (Kd.R_lower ho1 (below_size (by exact HB.out)));have n2_:=Aside0.mk (Kd.R_lower ho2 (below_size (by exact HB.out)));have n3_:=Aside0.mk (blk_below BK647.out hb);have n4_:=Aside0.mk (blk_below BK648.out hb);have n5_:=Aside0.mk (below_step (by exact HB.out) hb);clear BK647;clear BK648;clear HB;have HO652:=n0_;have HO655:=n1_;have HO658:=n2_;have BK647:=n3_;have BK648:=n4_;have HB:=n5_;clear n0_ n1_ n2_ n3_ n4_ n5_;(try clear hb);(try clear hb2);(try clear hk);(try clear hi);(try clear ho0);(try clear ho1);(try clear ho2);obtain ⟨Ao18,co18,eo18⟩:=Kd.R_slice HO652.out;subst eo18;obtain ⟨Ao19,co19,eo19⟩:=Kd.R_slice HO655.out;subst eo19;obtain ⟨Ao20,co20,eo20⟩:=Kd.R_slice HO658.out;subst eo20)|((with_reducible refine gate_callee (f:=51) rfl ?_);refine goesL_ (some 28) rfl rfl Try.func51 (by kernel_rfl) rfl #[.agg #[.slice Ao18 t650.length co18,.slice Ao19 t653.length co19,.slice Ao20 t656.length co20],.int .i64 a1,.int .i64 a2,.int .i64 a3,.string a4,.string a5] rfl (by (try simp only [List.map_toArray,List.map_cons,List.map_nil]);first|done|rfl|(simp only [List.length_drop,List.length_take];rfl)) ?_;(with_reducible refine (spec_l3Swap.calls k (fun k_ => some k_ = (.slice Ao18 t650.length co18 : Value).ownBlock) (.slice Ao18 t650.length co18) t650 (fun k_ => some k_ = (.slice Ao19 t653.length co19 : Value).ownBlock) (.slice Ao19 t653.length co19) t653 (fun k_ => some k_ = (.slice Ao20 t656.length co20 : Value).ownBlock) (.slice Ao20 t656.length co20) t656 a1 a2 a3 a4 a5 t659 t662 t665 t668 w _ ?side1 ?side2 ?side3 ?side4 A10.out).mono ?_);(case side1 => exact HB.out);(case side2 => exact Kd.R_tight rfl HO652.out);(case side3 => exact Kd.R_tight rfl HO655.out);(case side4 => exact Kd.R_tight rfl HO658.out);rintro e w21 ⟨v660,v663,v666,rfl,ho0,ho1,ho2,hb,hkp⟩;refine ⟨_,rfl,?_⟩;have n0_:=Aside0.mk (blk_kept (by exact BK647.out) hkp (fun hs_ => Or.elim hs_ (fun e_ => (fun e_ => (Kd.R_ne HO652.out BK647.out (by decide)) e_) e_) (fun e_ => Or.elim e_ (fun e_ => (fun e_ => (Kd.R_ne HO655.out BK647.out (by decide)) e_) e_) (fun e_ => (fun e_ => (Kd.R_ne HO658.out BK647.out (by decide)) e_) e_))));have n1_:=Aside0.mk (blk_kept (by exact BK648.out) hkp (fun hs_ => Or.elim hs_ (fun e_ => (fun e_ => (Kd.R_ne HO652.out BK648.out (by decide)) e_) e_) (fun e_ => Or.elim e_ (fun e_ => (fun e_ => (Kd.R_ne HO655.out BK648.out (by decide)) e_) e_) (fun e_ => (fun e_ => (Kd.R_ne HO658.out BK648.out (by decide)) e_) e_))));have n2_:=Aside0.mk (Kd.R_mono (ok':=fun k_ => True) ho0 (fun k_ hk_ => trivial));have n3_:=Aside0.mk (Kd.R_mono (ok':=fun k_ => True) ho1 (fun k_ hk_ => trivial));have n4_:=Aside0.mk (Kd.R_mono (ok':=fun k_ => True) ho2 (fun k_ hk_ => trivial));have n5_:=Aside0.mk (hb);clear BK647;clear BK648;clear HB;clear HO652;clear HO655;clear HO658;have BK647:=n0_;have BK648:=n1_;have HO661:=n2_;have HO664:=n3_;have HO667:=n4_;have HB:=n5_;clear n0_ n1_ n2_ n3_ n4_ n5_;(try clear hb);(try clear hkp);(try clear ho0);(try clear ho1);(try clear ho2))|((with_reducible refine gate_dst (N:=14) rfl ?_);refine box_event ?hg (N:=14) ?hd (cs:=#[.slice none 0 0,.slice none 0 0,.slice none 0 0]) (t:=28) ?hr ?_;(case hd => rfl);(case hg => rfl);(case hr => first|(go_simp;done)|(go_simp;rfl));intro gb669 hg w22 hbox hb;have n0_:=Aside0.mk (Kd.R_below (by exact HO661.out) hb);have n1_:=Aside0.mk (Kd.R_below (by exact HO664.out) hb);have n2_:=Aside0.mk (Kd.R_below (by exact HO667.out) hb);have n3_:=Aside0.mk (blk_below BK647.out hb);have n4_:=Aside0.mk (blk_below BK648.out hb);have n5_:=Aside0.mk (below_step (by exact HB.out) hb);have n6_:=Aside0.mk (hbox);have n7_:=Aside0.mk ((by rw [hg];exact (below_size (by exact HB.out)) : w.heap.size ≤ gb669));have n8_:=Aside0.mk ((by rw [hg];exact (below_size (by exact HB.out)) : w.heap.size ≤ gb669));have n9_:=Aside0.mk ((by rw [hg];exact Nat.ne_of_lt (blk_lt BK647.out) : gb647 ≠ gb669));have n10_:=Aside0.mk ((by rw [hg];exact Nat.ne_of_gt (blk_lt BK647.out) : gb669 ≠ gb647));have n11_:=Aside0.mk ((by rw [hg];exact Nat.ne_of_lt (blk_lt BK648.out) : gb648 ≠ gb669));have n12_:=Aside0.mk ((by rw [hg];exact Nat.ne_of_gt (blk_lt BK648.out) : gb669 ≠ gb648));clear HO661;clear HO664;clear HO667;clear BK647;clear BK648;clear HB;have HO661:=n0_;have HO664:=n1_;have HO667:=n2_;have BK647:=n3_;have BK648:=n4_;have HB:=n5_;have BK669:=n6_;have GW669:=n7_;have GE669:=n8_;have NB647_669:=n9_;have NB669_647:=n10_;have NB648_669:=n11_;have NB669_648:=n12_;clear n0_ n1_ n2_ n3_ n4_ n5_ n6_ n7_ n8_ n9_ n10_ n11_ n12_;clear hb hbox hg;obtain ⟨Ao23,co23,eo23⟩:=Kd.R_slice HO661.out;subst eo23;have hnb24:=NB669_647.out;have hnc24:=NB647_669.out;have hnb25:=NB669_648.out;have hnc25:=NB648_669.out;have hcz26_0 : w22.cell? ⟨gb669,0,none⟩ = some (.slice none 0 0):=(blk_cell BK669.out 0).trans rfl;have hcz26_1 : w22.cell? ⟨gb669,1,none⟩ = some (.slice none 0 0):=(blk_cell BK669.out 1).trans rfl;have hcz26_2 : w22.cell? ⟨gb669,2,none⟩ = some (.slice none 0 0):=(blk_cell BK669.out 2).trans rfl;have hfz26_0:=blk_frozen BK669.out 0;have hfz26_1:=blk_frozen BK669.out 1;have hfz26_2:=blk_frozen BK669.out 2;obtain ⟨Ao27,co27,eo27⟩:=Kd.R_slice HO664.out;subst eo27;obtain ⟨Ao28,co28,eo28⟩:=Kd.R_slice HO667.out;subst eo28;have hcz29_0 : w22.cell? ⟨gb648,0,none⟩ = some (.slice none 0 0):=(blk_cell BK648.out 0).trans rfl;have hcz29_1 : w22.cell? ⟨gb648,1,none⟩ = some (.slice none 0 0):=(blk_cell BK648.out 1).trans rfl;have hcz29_2 : w22.cell? ⟨gb648,2,none⟩ = some (.slice none 0 0):=(blk_cell BK648.out 2).trans rfl;have hfz29_0:=blk_frozen BK648.out 0;have hfz29_1:=blk_frozen BK648.out 1;have hfz29_2:=blk_frozen BK648.out 2))
  refine bodyPost_ret (results_ct rfl _ _ gb648 28 #[.slice Ao23 t659.length co23,.slice Ao27 t662.length co27,.slice Ao28 t665.length co28] (0,0) _ rfl (by (with_reducible repeat (first|refine blk_drewN ?_ _|refine blk_drew ?_|refine blk_alloc ?_ _));refine blk_put (cs:=#[.slice Ao23 t659.length co23,.slice Ao27 t662.length co27,.slice none 0 0]) ?_ 2 _ rfl;(with_reducible repeat (first|refine blk_drewN ?_ _|refine blk_drew ?_|refine blk_alloc ?_ _));refine blk_put (cs:=#[.slice Ao23 t659.length co23,.slice none 0 0,.slice none 0 0]) ?_ 1 _ rfl;(with_reducible repeat (first|refine blk_drewN ?_ _|refine blk_drew ?_|refine blk_alloc ?_ _));refine blk_put (cs:=#[.slice none 0 0,.slice none 0 0,.slice none 0 0]) ?_ 0 _ rfl;(with_reducible repeat (first|refine blk_drewN ?_ _|refine blk_drew ?_|refine blk_alloc ?_ _));refine blk_far ?_ NB648_669.out _;(with_reducible repeat (first|refine blk_drewN ?_ _|refine blk_drew ?_|refine blk_alloc ?_ _));refine blk_far ?_ NB648_669.out _;(with_reducible repeat (first|refine blk_drewN ?_ _|refine blk_drew ?_|refine blk_alloc ?_ _));refine blk_far ?_ NB648_669.out _;(with_reducible repeat (first|refine blk_drewN ?_ _|refine blk_drew ?_|refine blk_alloc ?_ _));exact BK648.out) Try.underlying28 rfl (by kernel_rfl)) rfl ?_
  exact ⟨_,_,_,by first|rfl|(simp [errW_none,errW_some] <;> rfl)|(simp [*,errW_none,errW_some] <;> rfl),by (with_reducible repeat (first|apply Kd.R_alloc|apply Kd.R_drewN|apply Kd.R_drew));exact Kd.R_mono (Kd.R_far (p:=⟨gb648,2,none⟩) (Kd.R_far (p:=⟨gb648,1,none⟩) (Kd.R_far (p:=⟨gb648,0,none⟩) (Kd.R_far (p:=⟨gb669,2,none⟩) (Kd.R_far (p:=⟨gb669,1,none⟩) (Kd.R_far (p:=⟨gb669,0,none⟩) (Kd.R_types (Kd.R_types HO661.out BK669.out (by decide)) BK648.out (by decide)) (fun _ hk => hk.1.2) (.slice Ao23 t659.length co23)) (fun _ hk => hk.1.2) (.slice Ao27 t662.length co27)) (fun _ hk => hk.1.2) (.slice Ao28 t665.length co28)) (fun _ hk => hk.2) (.slice Ao23 t659.length co23)) (fun _ hk => hk.2) (.slice Ao27 t662.length co27)) (fun _ hk => hk.2) (.slice Ao28 t665.length co28)) (fun _ hk => trivial),by (with_reducible repeat (first|apply Kd.R_alloc|apply Kd.R_drewN|apply Kd.R_drew));exact Kd.R_mono (Kd.R_far (p:=⟨gb648,2,none⟩) (Kd.R_far (p:=⟨gb648,1,none⟩) (Kd.R_far (p:=⟨gb648,0,none⟩) (Kd.R_far (p:=⟨gb669,2,none⟩) (Kd.R_far (p:=⟨gb669,1,none⟩) (Kd.R_far (p:=⟨gb669,0,none⟩) (Kd.R_types (Kd.R_types HO664.out BK669.out (by decide)) BK648.out (by decide)) (fun _ hk => hk.1.2) (.slice Ao23 t659.length co23)) (fun _ hk => hk.1.2) (.slice Ao27 t662.length co27)) (fun _ hk => hk.1.2) (.slice Ao28 t665.length co28)) (fun _ hk => hk.2) (.slice Ao23 t659.length co23)) (fun _ hk => hk.2) (.slice Ao27 t662.length co27)) (fun _ hk => hk.2) (.slice Ao28 t665.length co28)) (fun _ hk => trivial),by (with_reducible repeat (first|apply Kd.R_alloc|apply Kd.R_drewN|apply Kd.R_drew));exact Kd.R_mono (Kd.R_far (p:=⟨gb648,2,none⟩) (Kd.R_far (p:=⟨gb648,1,none⟩) (Kd.R_far (p:=⟨gb648,0,none⟩) (Kd.R_far (p:=⟨gb669,2,none⟩) (Kd.R_far (p:=⟨gb669,1,none⟩) (Kd.R_far (p:=⟨gb669,0,none⟩) (Kd.R_types (Kd.R_types HO667.out BK669.out (by decide)) BK648.out (by decide)) (fun _ hk => hk.1.2) (.slice Ao23 t659.length co23)) (fun _ hk => hk.1.2) (.slice Ao27 t662.length co27)) (fun _ hk => hk.1.2) (.slice Ao28 t665.length co28)) (fun _ hk => hk.2) (.slice Ao23 t659.length co23)) (fun _ hk => hk.2) (.slice Ao27 t662.length co27)) (fun _ hk => hk.2) (.slice Ao28 t665.length co28)) (fun _ hk => trivial),by repeat (first|(with_reducible first|exact HB.out|apply below_alloc|apply pw_below_drewN|apply below_drew1|refine below_set ?_ GE647.out|refine below_set ?_ GE648.out|refine below_set ?_ GE669.out)|exact HB.out)⟩
 ·
  replace c8:=Bool.eq_false_iff.mpr c8
  subst c8
  have H1 : (some (([] : List ByteArray),([] : List Int),([] : List (S36)),1)) = some (r1,r2,r3,r4):=by rw [if_neg (show ¬ (false = true) by decide)] at H;exact H
  clear H
  have H:=H1
  clear H1
  simp only [Option.some.injEq,Prod.mk.injEq] at H
  obtain ⟨rfl,rfl,rfl,rfl⟩:=H
  go_enter Try.func20,Try.ntmps20
  go_wp2_with (first|((with_reducible refine gate_dst (N:=6) rfl ?_);refine box_event ?hg (N:=6) ?hd (cs:=#[.slice A0_0 l0_0.length c0_0,.slice A0_1 l0_1.length c0_1,.slice A0_2 l0_2.length c0_2]) (t:=28) ?hr ?_;(case hd => rfl);(case hg => rfl);(case hr => first|(go_simp;done)|(go_simp;rfl));intro gb647 hg w30 hbox hb;have n0_:=Aside0.mk (below_step (by exact HB.out) hb);have n1_:=Aside0.mk (hbox);have n2_:=Aside0.mk ((by rw [hg];exact (below_size (by exact HB.out)) : w.heap.size ≤ gb647));have n3_:=Aside0.mk ((by rw [hg];exact (below_size (by exact HB.out)) : w.heap.size ≤ gb647));clear HB;have HB:=n0_;have BK647:=n1_;have GW647:=n2_;have GE647:=n3_;clear n0_ n1_ n2_ n3_;clear hb hbox hg)|((with_reducible refine gate_dst (N:=12) rfl ?_);refine box_event ?hg (N:=12) ?hd (cs:=#[.slice none 0 0,.slice none 0 0,.slice none 0 0]) (t:=28) ?hr ?_;(case hd => rfl);(case hg => rfl);(case hr => first|(go_simp;done)|(go_simp;rfl));intro gb648 hg w31 hbox hb;have n0_:=Aside0.mk (blk_below BK647.out hb);have n1_:=Aside0.mk (below_step (by exact HB.out) hb);have n2_:=Aside0.mk (hbox);have n3_:=Aside0.mk ((by rw [hg];exact (below_size (by exact HB.out)) : w.heap.size ≤ gb648));have n4_:=Aside0.mk ((by rw [hg];exact (below_size (by exact HB.out)) : w.heap.size ≤ gb648));have n5_:=Aside0.mk ((by rw [hg];exact Nat.ne_of_lt (blk_lt BK647.out) : gb647 ≠ gb648));have n6_:=Aside0.mk ((by rw [hg];exact Nat.ne_of_gt (blk_lt BK647.out) : gb648 ≠ gb647));clear BK647;clear HB;have BK647:=n0_;have HB:=n1_;have BK648:=n2_;have GW648:=n3_;have GE648:=n4_;have NB647_648:=n5_;have NB648_647:=n6_;clear n0_ n1_ n2_ n3_ n4_ n5_ n6_;clear hb hbox hg;have hnb32:=NB647_648.out;have hnc32:=NB648_647.out;have hcz33_0 : w31.cell? ⟨gb647,0,none⟩ = some (.slice A0_0 l0_0.length c0_0):=(blk_cell BK647.out 0).trans rfl;have hcz33_1 : w31.cell? ⟨gb647,1,none⟩ = some (.slice A0_1 l0_1.length c0_1):=(blk_cell BK647.out 1).trans rfl;have hcz33_2 : w31.cell? ⟨gb647,2,none⟩ = some (.slice A0_2 l0_2.length c0_2):=(blk_cell BK647.out 2).trans rfl;have hfz33_0:=blk_frozen BK647.out 0;have hfz33_1:=blk_frozen BK647.out 1;have hfz33_2:=blk_frozen BK647.out 2)|((with_reducible refine gate_callee (f:=13) rfl ?_);refine goesL_ (some 17) rfl rfl Try.func13 (by kernel_rfl) rfl #[.agg #[.slice A0_0 l0_0.length c0_0,.slice A0_1 l0_1.length c0_1,.slice A0_2 l0_2.length c0_2]] rfl (by (try simp only [List.map_toArray,List.map_cons,List.map_nil]);first|done|rfl|(simp only [List.length_drop,List.length_take];rfl)) ?_;(with_reducible refine (spec_DiskOk.calls k _ _ l0_0 _ _ l0_1 _ _ l0_2 false _ ?side1 ?side2 ?side3 ?side4 ?side5 ?side6 A7.out).mono ?_);(case side1 => repeat (first|exact (Kd.C_below HR0_0.out HB.out)|(with_reducible refine Kd.C_alloc ?_ _)|(with_reducible refine Kd.C_drewN ?_ _)|(with_reducible refine Kd.C_drew ?_)));(case side2 => exact HC0_0.out);(case side3 => repeat (first|exact (Kd.C_below HR0_1.out HB.out)|(with_reducible refine Kd.C_alloc ?_ _)|(with_reducible refine Kd.C_drewN ?_ _)|(with_reducible refine Kd.C_drew ?_)));(case side4 => exact HC0_1.out);(case side5 => repeat (first|exact (Kd.C_below HR0_2.out HB.out)|(with_reducible refine Kd.C_alloc ?_ _)|(with_reducible refine Kd.C_drewN ?_ _)|(with_reducible refine Kd.C_drew ?_)));(case side6 => exact HC0_2.out);rintro e w34 ⟨rfl,hb⟩;refine ⟨_,rfl,?_⟩;have n0_:=Aside0.mk (blk_below BK647.out hb);have n1_:=Aside0.mk (blk_below BK648.out hb);have n2_:=Aside0.mk (below_step (by exact HB.out) hb);clear BK647;clear BK648;clear HB;have BK647:=n0_;have BK648:=n1_;have HB:=n2_;clear n0_ n1_ n2_;(try clear hb);(try clear hb2);(try clear hk);(try clear hi);have hcz35_0 : w34.cell? ⟨gb648,0,none⟩ = some (.slice none 0 0):=(blk_cell BK648.out 0).trans rfl;have hcz35_1 : w34.cell? ⟨gb648,1,none⟩ = some (.slice none 0 0):=(blk_cell BK648.out 1).trans rfl;have hcz35_2 : w34.cell? ⟨gb648,2,none⟩ = some (.slice none 0 0):=(blk_cell BK648.out 2).trans rfl;have hfz35_0:=blk_frozen BK648.out 0;have hfz35_1:=blk_frozen BK648.out 1;have hfz35_2:=blk_frozen BK648.out 2))
  refine bodyPost_ret (results_ct rfl _ _ gb648 28 #[.slice none 0 0,.slice none 0 0,.slice none 0 0] (0,0) _ rfl (by (with_reducible repeat (first|refine blk_drewN ?_ _|refine blk_drew ?_|refine blk_alloc ?_ _));refine blk_put (cs:=#[.slice none 0 0,.slice none 0 0,.slice none 0 0]) ?_ 2 _ rfl;(with_reducible repeat (first|refine blk_drewN ?_ _|refine blk_drew ?_|refine blk_alloc ?_ _));refine blk_put (cs:=#[.slice none 0 0,.slice none 0 0,.slice none 0 0]) ?_ 1 _ rfl;(with_reducible repeat (first|refine blk_drewN ?_ _|refine blk_drew ?_|refine blk_alloc ?_ _));refine blk_put (cs:=#[.slice none 0 0,.slice none 0 0,.slice none 0 0]) ?_ 0 _ rfl;(with_reducible repeat (first|refine blk_drewN ?_ _|refine blk_drew ?_|refine blk_alloc ?_ _));exact BK648.out) Try.underlying28 rfl (by kernel_rfl)) rfl ?_
  exact ⟨_,_,_,by first|rfl|(simp [errW_none,errW_some] <;> rfl)|(simp [*,errW_none,errW_some] <;> rfl),by first|exact Kd.R_nil _ _ _ _ _|exact Kd.N_nil _ _ _ _ _|exact Kd.V_nil _ _ _ _ _|exact Kd.Q_nil _ _ _ _ _|exact Kd.S_nil _ _ _ _ _,by first|exact Kd.R_nil _ _ _ _ _|exact Kd.N_nil _ _ _ _ _|exact Kd.V_nil _ _ _ _ _|exact Kd.Q_nil _ _ _ _ _|exact Kd.S_nil _ _ _ _ _,by first|exact Kd.R_nil _ _ _ _ _|exact Kd.N_nil _ _ _ _ _|exact Kd.V_nil _ _ _ _ _|exact Kd.Q_nil _ _ _ _ _|exact Kd.S_nil _ _ _ _ _,by repeat (first|(with_reducible first|exact HB.out|apply below_alloc|apply pw_below_drewN|apply below_drew1|refine below_set ?_ GE647.out|refine below_set ?_ GE648.out)|exact HB.out)⟩
end Go.Proofs.Ytiejilaahkkhmaa.P
