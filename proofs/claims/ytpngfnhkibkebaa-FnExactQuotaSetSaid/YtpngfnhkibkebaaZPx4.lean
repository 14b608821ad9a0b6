-- Ours: printed or written for this claim; cut to what the theorem needs.
import Derived.Test.YtpngfnhkibkebaaZPx0
import Derived.Test.YtpngfnhkibkebaaZPx3
namespace Go.Proofs.Ytpngfnhkibkebaa.P
open Go.RowKit Go.Proofs.YtpngfnhkibkebaaW.PrintWords Go.Proofs.YtpngfnhkibkebaaW.PrintLast Go.Proofs.YtpngfnhkibkebaaW.PrintMore
attribute [local go_sem] max2_int min2_int max_two min_two max_three min_three max_four min_four
set_option linter.unusedVariables false
set_option linter.unusedSimpArgs false
mutual
def impl_isQuota.j0 : Nat → Bool → Int → List Int → List Int → List Int → Option (Bool)
  | 0,_,_,_,_,_ => none
  | k + 1,x31,x138000,x138001,x138002,x138003 => if x31 = true then (some false) else (impl_isQuota.l0 k 0 x138001 (x138001.length : Int) 0 x138000 x138001 x138002 x138003)
def impl_isQuota.l0 : Nat → Int → List Int → Int → Int → Int → List Int → List Int → List Int → Option (Bool)
  | 0,_,_,_,_,_,_,_,_ => none
  | k + 1,x4,x33,x34,x35,x138000,x138001,x138002,x138003 => if x35 < x34 then (if 0 ≤ x35 then (if x35 < (x33.length : Int) then ((impl_in.f (rd x33 x35) 0 x138000).bind fun t140 => (if t140 = true then (if x35 < (x138002.length : Int) then ((impl_in.f (rd x138002 x35) 0 (rd x33 x35)).bind fun t142 => (if t142 = true then (if x35 < (x138003.length : Int) then ((impl_in.f (rd x138003 x35) 0 (rd x33 x35)).bind fun t144 => (if t144 = true then ((impl_Quota_kept.f x138000 x138001 x138002 x138003 x35).bind fun t145 => (impl_isQuota.l0 k (wrap64 (x4 + t145)) x33 x34 (wrap64 (x35 + 1)) x138000 x138001 x138002 x138003)) else (some false))) else (none)) else (some false))) else (none)) else (some false))) else (none)) else (none)) else (some (decide (x4 ≤ x138000)))
end
def impl_isQuota.f (k : Nat) (a0_0 : Int) (l0_1 : List Int) (l0_2 : List Int) (l0_3 : List Int) : Option (Bool):=(impl_in.f a0_0 0 1000).bind fun t138 => (if t138 = true then (if (l0_1.length : Int) > 8 then (impl_isQuota.j0 k true a0_0 l0_1 l0_2 l0_3) else (if (l0_2.length : Int) = (l0_1.length : Int) then (impl_isQuota.j0 k ((l0_3.length : Int) != (l0_1.length : Int)) a0_0 l0_1 l0_2 l0_3) else (impl_isQuota.j0 k true a0_0 l0_1 l0_2 l0_3))) else (impl_isQuota.j0 k true a0_0 l0_1 l0_2 l0_3))
set_option maxHeartbeats 8000000 in
set_option maxRecDepth 100000 in
theorem impl_isQuota.calls (k : Nat) (a0_0 : Int) (A0_1 : Option Addr) (c0_1 : Nat) (l0_1 : List Int) (A0_2 : Option Addr) (c0_2 : Nat) (l0_2 : List Int) (A0_3 : Option Addr) (c0_3 : Nat) (l0_3 : List Int) (r : Bool) (w : World) (hr0_1 : Kd.C (Kd.int .i64) w A0_1 l0_1.length l0_1) (hc0_1 : l0_1.length ≤ c0_1) (hr0_2 : Kd.C (Kd.int .i64) w A0_2 l0_2.length l0_2) (hc0_2 : l0_2.length ≤ c0_2) (hr0_3 : Kd.C (Kd.int .i64) w A0_3 l0_3.length l0_3) (hc0_3 : l0_3.length ≤ c0_3) (h : impl_isQuota.f k a0_0 l0_1 l0_2 l0_3 = some r) :
  Calls Try.prog 31 #[.agg #[.int .i64 a0_0,.slice A0_1 l0_1.length c0_1,.slice A0_2 l0_2.length c0_2,.slice A0_3 l0_3.length c0_3]] w fun e w' => e = .returned (.bool r) ∧ Below w.heap.size w w':=by
 have hu27:=Try.underlying27
 have HR0_1:=Aside0.mk hr0_1
 have HC0_1:=Aside0.mk hc0_1
 clear hr0_1 hc0_1
 have HR0_2:=Aside0.mk hr0_2
 have HC0_2:=Aside0.mk hc0_2
 clear hr0_2 hc0_2
 have HR0_3:=Aside0.mk hr0_3
 have HC0_3:=Aside0.mk hc0_3
 clear hr0_3 hc0_3
 have HB:=Aside0.mk (Below.refl w.heap.size w)
 have H : ((impl_in.f a0_0 0 1000).bind fun t138 => (if t138 = true then (if (l0_1.length : Int) > 8 then (impl_isQuota.j0 k true a0_0 l0_1 l0_2 l0_3) else (if (l0_2.length : Int) = (l0_1.length : Int) then (impl_isQuota.j0 k ((l0_3.length : Int) != (l0_1.length : Int)) a0_0 l0_1 l0_2 l0_3) else (impl_isQuota.j0 k true a0_0 l0_1 l0_2 l0_3))) else (impl_isQuota.j0 k true a0_0 l0_1 l0_2 l0_3))) = some r:=h
 clear h
 have HC2:=Aside0.mk H
 clear H
 go_enter Try.func31,Try.ntmps31
 go_upto_region 2 with (first|((with_reducible refine gate_dst (N:=1) rfl ?_);(try (refine gate_guard (by rfl) ?_;dsimp only));refine box_event ?hg (N:=1) ?hd (cs:=#[.int .i64 a0_0,.slice A0_1 l0_1.length c0_1,.slice A0_2 l0_2.length c0_2,.slice A0_3 l0_3.length c0_3]) (t:=27) ?hr ?_;(case hd => rfl);(case hg => rfl);(case hr => first|(go_simp;done)|(go_simp;rfl));intro gb137 hg w3 hbox hb;have n0_:=Aside0.mk (below_step (by repeat (first|(with_reducible first|exact HB.out|apply below_alloc|apply pw_below_drewN|apply below_drew1)|exact HB.out)) hb);have n1_:=Aside0.mk (hbox);have n2_:=Aside0.mk ((by rw [hg];exact (below_size (by repeat (first|(with_reducible first|exact HB.out|apply below_alloc|apply pw_below_drewN|apply below_drew1)|exact HB.out))) : w.heap.size ≤ gb137));have n3_:=Aside0.mk ((by rw [hg];exact (below_size (by repeat (first|(with_reducible first|exact HB.out|apply below_alloc|apply pw_below_drewN|apply below_drew1)|exact HB.out))) : w.heap.size ≤ gb137));clear HB;have HB:=n0_;have BK137:=n1_;have GW137:=n2_;have GE137:=n3_;clear n0_ n1_ n2_ n3_;clear hb hbox hg;have hcz4_0 : w3.cell? ⟨gb137,0,none⟩ = some (.int .i64 a0_0):=(blk_cell BK137.out 0).trans rfl;have hcz4_1 : w3.cell? ⟨gb137,1,none⟩ = some (.slice A0_1 l0_1.length c0_1):=(blk_cell BK137.out 1).trans rfl;have hcz4_2 : w3.cell? ⟨gb137,2,none⟩ = some (.slice A0_2 l0_2.length c0_2):=(blk_cell BK137.out 2).trans rfl;have hcz4_3 : w3.cell? ⟨gb137,3,none⟩ = some (.slice A0_3 l0_3.length c0_3):=(blk_cell BK137.out 3).trans rfl;have hfz4_0:=blk_frozen BK137.out 0;have hfz4_1:=blk_frozen BK137.out 1;have hfz4_2:=blk_frozen BK137.out 2;have hfz4_3:=blk_frozen BK137.out 3))
 (try simp only [Act.put,List.setIfInBounds_toArray,List.set_cons_zero,List.set_cons_succ])
 go_cut [31] (fun v31 wc => ∃ (kq : Nat) (x31_1 : Bool),v31 = .bool x31_1 ∧ Aside0 (impl_isQuota.j0 kq x31_1 a0_0 l0_1 l0_2 l0_3 = some r) ∧ Aside0 (kq ≤ k) ∧ Aside0 (wc.heap[gb137]? = some (.cells #[.int .i64 a0_0,(.slice A0_1 l0_1.length c0_1),(.slice A0_2 l0_2.length c0_2),(.slice A0_3 l0_3.length c0_3)] 27 (0,0))) ∧ Aside0 (Below w.heap.size w wc))
 case first =>
  have H:=HC2.out
  clear HC2
  replace H:=Option.bind_eq_some_iff.mp H
  obtain ⟨t138,A50,H⟩:=H
  replace H : (if t138 = true then (if (l0_1.length : Int) > 8 then (impl_isQuota.j0 k true a0_0 l0_1 l0_2 l0_3) else (if (l0_2.length : Int) = (l0_1.length : Int) then (impl_isQuota.j0 k ((l0_3.length : Int) != (l0_1.length : Int)) a0_0 l0_1 l0_2 l0_3) else (impl_isQuota.j0 k true a0_0 l0_1 l0_2 l0_3))) else (impl_isQuota.j0 k true a0_0 l0_1 l0_2 l0_3)) = some r:=H
  have A5:=Aside0.mk A50
  clear A50
  by_cases c6 : t138 = true
  ·
   subst c6
   have H1 : (if (l0_1.length : Int) > 8 then (impl_isQuota.j0 k true a0_0 l0_1 l0_2 l0_3) else (if (l0_2.length : Int) = (l0_1.length : Int) then (impl_isQuota.j0 k ((l0_3.length : Int) != (l0_1.length : Int)) a0_0 l0_1 l0_2 l0_3) else (impl_isQuota.j0 k true a0_0 l0_1 l0_2 l0_3))) = some r:=by rw [if_pos rfl] at H;exact H
   clear H
   have H:=H1
   clear H1
   by_cases c7 : (l0_1.length : Int) > 8
   ·
    rw [if_pos c7] at H
    have c7b0 : decide (8 < (l0_1.length : Int)) = true:=decide_eq_true c7
    have c7b1 : decide (8 < l0_1.length) = true:=decide_eq_true (by omega)
    clear c7
    (first|rw [c7b0]|(simp only [i64_w,i32_w];rw [c7b0])|rw [c7b2]|skip)
    have H':=Aside0.mk H
    clear H
    have hcz8_0 : w3.cell? ⟨gb137,0,none⟩ = some (.int .i64 a0_0):=(blk_cell BK137.out 0).trans rfl
    have hcz8_1 : w3.cell? ⟨gb137,1,none⟩ = some (.slice A0_1 l0_1.length c0_1):=(blk_cell BK137.out 1).trans rfl
    have hcz8_2 : w3.cell? ⟨gb137,2,none⟩ = some (.slice A0_2 l0_2.length c0_2):=(blk_cell BK137.out 2).trans rfl
    have hcz8_3 : w3.cell? ⟨gb137,3,none⟩ = some (.slice A0_3 l0_3.length c0_3):=(blk_cell BK137.out 3).trans rfl
    have hfz8_0:=blk_frozen BK137.out 0
    have hfz8_1:=blk_frozen BK137.out 1
    have hfz8_2:=blk_frozen BK137.out 2
    have hfz8_3:=blk_frozen BK137.out 3
    go_wp2_with (first|((with_reducible refine gate_callee (f:=35) rfl ?_);refine goesL_ (some 12) rfl rfl Try.func35 (by kernel_rfl) rfl #[.int .i64 a0_0,.int .i64 0,.int .i64 1000] rfl (by (try simp only [List.map_toArray,List.map_cons,List.map_nil]);first|done|rfl|(simp only [List.length_drop,List.length_take];rfl)) ?_;(with_reducible refine (impl_in.calls a0_0 0 1000 true _ A5.out).mono ?_);rintro e w' ⟨rfl,⟨nd,rfl⟩⟩;refine ⟨_,rfl,?_⟩))
    go_meet
    case rel => exact ⟨_,(true),(by first|rfl|(simp;done)|(simp [*];done)),H',⟨by first|omega|exact Nat.le_refl _⟩,⟨by (with_reducible repeat (first|refine blk_drewN ?_ _|refine blk_drew ?_|refine blk_alloc ?_ _));exact BK137.out⟩,⟨by repeat (first|(with_reducible first|exact HB.out|apply below_alloc|apply pw_below_drewN|apply below_drew1|refine below_set ?_ GE137.out)|exact HB.out)⟩⟩
   ·
    rw [if_neg c7] at H
    have c7b0 : decide (8 < (l0_1.length : Int)) = false:=decide_eq_false c7
    have c7b1 : decide (8 < l0_1.length) = false:=decide_eq_false (by omega)
    clear c7
    (first|rw [c7b0]|(simp only [i64_w,i32_w];rw [c7b0])|rw [c7b2]|skip)
    by_cases c9 : (l0_2.length : Int) = (l0_1.length : Int)
    ·
     rw [if_pos c9] at H
     have c9b0 : ((l0_2.length : Int) == (l0_1.length : Int)) = true:=beq_iff_eq.mpr c9
     have c9b1 : ((l0_2.length : Int) != (l0_1.length : Int)) = false:=bne_eq_false_iff_eq.mpr c9
     have c9b2 : (l0_2.length == l0_1.length) = true:=by first|simpa using c9|(simp at c9 ⊢;omega)
     clear c9
     have H':=Aside0.mk H
     clear H
     have hcz10_0 : w3.cell? ⟨gb137,0,none⟩ = some (.int .i64 a0_0):=(blk_cell BK137.out 0).trans rfl
     have hcz10_1 : w3.cell? ⟨gb137,1,none⟩ = some (.slice A0_1 l0_1.length c0_1):=(blk_cell BK137.out 1).trans rfl
     have hcz10_2 : w3.cell? ⟨gb137,2,none⟩ = some (.slice A0_2 l0_2.length c0_2):=(blk_cell BK137.out 2).trans rfl
     have hcz10_3 : w3.cell? ⟨gb137,3,none⟩ = some (.slice A0_3 l0_3.length c0_3):=(blk_cell BK137.out 3).trans rfl
     have hfz10_0:=blk_frozen BK137.out 0
     have hfz10_1:=blk_frozen BK137.out 1
     have hfz10_2:=blk_frozen BK137.out 2
     have hfz10_3:=blk_frozen BK137.out 3
     go_wp2_with (first|((with_reducible refine gate_callee (f:=35) rfl ?_);refine goesL_ (some 12) rfl rfl Try.func35 (by kernel_rfl) rfl #[.int .i64 a0_0,.int .i64 0,.int .i64 1000] rfl (by (try simp only [List.map_toArray,List.map_cons,List.map_nil]);first|done|rfl|(simp only [List.length_drop,List.length_take];rfl)) ?_;(with_reducible refine (impl_in.calls a0_0 0 1000 true _ A5.out).mono ?_);rintro e w' ⟨rfl,⟨nd,rfl⟩⟩;refine ⟨_,rfl,?_⟩))
     go_meet
     case rel => exact ⟨_,(((l0_3.length : Int) != (l0_1.length : Int))),(by first|rfl|(simp;done)|(simp [*];done)),H',⟨by first|omega|exact Nat.le_refl _⟩,⟨by (with_reducible repeat (first|refine blk_drewN ?_ _|refine blk_drew ?_|refine blk_alloc ?_ _));exact BK137.out⟩,⟨by repeat (first|(with_reducible first|exact HB.out|apply below_alloc|apply pw_below_drewN|apply below_drew1|refine below_set ?_ GE137.out)|exact HB.out)⟩⟩
    ·
     rw [if_neg c9] at H
     have c9b0 : ((l0_2.length : Int) == (l0_1.length : Int)) = false:=beq_eq_false_iff_ne.mpr c9
     have c9b1 : ((l0_2.length : Int) != (l0_1.length : Int)) = true:=bne_iff_ne.mpr c9
     have c9b2 : (l0_2.length == l0_1.length) = false:=by first|simpa using c9|(simp at c9 ⊢;omega)
     have H':=Aside0.mk H
     clear H
     have hcz11_0 : w3.cell? ⟨gb137,0,none⟩ = some (.int .i64 a0_0):=(blk_cell BK137.out 0).trans rfl
     have hcz11_1 : w3.cell? ⟨gb137,1,none⟩ = some (.slice A0_1 l0_1.length c0_1):=(blk_cell BK137.out 1).trans rfl
     have hcz11_2 : w3.cell? ⟨gb137,2,none⟩ = some (.slice A0_2 l0_2.length c0_2):=(blk_cell BK137.out 2).trans rfl
     have hcz11_3 : w3.cell? ⟨gb137,3,none⟩ = some (.slice A0_3 l0_3.length c0_3):=(blk_cell BK137.out 3).trans rfl
     have hfz11_0:=blk_frozen BK137.out 0
     have hfz11_1:=blk_frozen BK137.out 1
     have hfz11_2:=blk_frozen BK137.out 2
     have hfz11_3:=blk_frozen BK137.out 3
     go_wp2_with (first|((with_reducible refine gate_callee (f:=35) rfl ?_);refine goesL_ (some 12) rfl rfl Try.func35 (by kernel_rfl) rfl #[.int .i64 a0_0,.int .i64 0,.int .i64 1000] rfl (by (try simp only [List.map_toArray,List.map_cons,List.map_nil]);first|done|rfl|(simp only [List.length_drop,List.length_take];rfl)) ?_;(with_reducible refine (impl_in.calls a0_0 0 1000 true _ A5.out).mono ?_);rintro e w' ⟨rfl,⟨nd,rfl⟩⟩;refine ⟨_,rfl,?_⟩))
     go_meet
     case rel => exact ⟨_,(true),(by first|rfl|(simp;done)|(simp [*];done)),H',⟨by first|omega|exact Nat.le_refl _⟩,⟨by (with_reducible repeat (first|refine blk_drewN ?_ _|refine blk_drew ?_|refine blk_alloc ?_ _));exact BK137.out⟩,⟨by repeat (first|(with_reducible first|exact HB.out|apply below_alloc|apply pw_below_drewN|apply below_drew1|refine below_set ?_ GE137.out)|exact HB.out)⟩⟩
  ·
   replace c6:=Bool.eq_false_iff.mpr c6
   subst c6
   have H1 : (impl_isQuota.j0 k true a0_0 l0_1 l0_2 l0_3) = some r:=by rw [if_neg (show ¬ (false = true) by decide)] at H;exact H
   clear H
   have H:=H1
   clear H1
   have H':=Aside0.mk H
   clear H
   have hcz12_0 : w3.cell? ⟨gb137,0,none⟩ = some (.int .i64 a0_0):=(blk_cell BK137.out 0).trans rfl
   have hcz12_1 : w3.cell? ⟨gb137,1,none⟩ = some (.slice A0_1 l0_1.length c0_1):=(blk_cell BK137.out 1).trans rfl
   have hcz12_2 : w3.cell? ⟨gb137,2,none⟩ = some (.slice A0_2 l0_2.length c0_2):=(blk_cell BK137.out 2).trans rfl
   have hcz12_3 : w3.cell? ⟨gb137,3,none⟩ = some (.slice A0_3 l0_3.length c0_3):=(blk_cell BK137.out 3).trans rfl
   have hfz12_0:=blk_frozen BK137.out 0
   have hfz12_1:=blk_frozen BK137.out 1
   have hfz12_2:=blk_frozen BK137.out 2
   have hfz12_3:=blk_frozen BK137.out 3
   go_wp2_with (first|((with_reducible refine gate_callee (f:=35) rfl ?_);refine goesL_ (some 12) rfl rfl Try.func35 (by kernel_rfl) rfl #[.int .i64 a0_0,.int .i64 0,.int .i64 1000] rfl (by (try simp only [List.map_toArray,List.map_cons,List.map_nil]);first|done|rfl|(simp only [List.length_drop,List.length_take];rfl)) ?_;(with_reducible refine (impl_in.calls a0_0 0 1000 false _ A5.out).mono ?_);rintro e w' ⟨rfl,⟨nd,rfl⟩⟩;refine ⟨_,rfl,?_⟩))
   go_meet
   case rel => exact ⟨_,(true),(by first|rfl|(simp;done)|(simp [*];done)),H',⟨by first|omega|exact Nat.le_refl _⟩,⟨by (with_reducible repeat (first|refine blk_drewN ?_ _|refine blk_drew ?_|refine blk_alloc ?_ _));exact BK137.out⟩,⟨by repeat (first|(with_reducible first|exact HB.out|apply below_alloc|apply pw_below_drewN|apply below_drew1|refine below_set ?_ GE137.out)|exact HB.out)⟩⟩
 case rest =>
  clear HC2
  try clear p2
  try clear c3
  try clear c6
  try clear c7
  try clear c7b0
  try clear c7b1
  try clear c7b2
  try clear c9
  try clear c9b0
  try clear c9b1
  try clear c9b2
  try clear hcz10_0
  try clear hcz10_1
  try clear hcz10_2
  try clear hcz10_3
  try clear hcz11_0
  try clear hcz11_1
  try clear hcz11_2
  try clear hcz11_3
  try clear hcz12_0
  try clear hcz12_1
  try clear hcz12_2
  try clear hcz12_3
  try clear hcz4_0
  try clear hcz4_1
  try clear hcz4_2
  try clear hcz4_3
  try clear hcz8_0
  try clear hcz8_1
  try clear hcz8_2
  try clear hcz8_3
  try clear hfz10_0
  try clear hfz10_1
  try clear hfz10_2
  try clear hfz10_3
  try clear hfz11_0
  try clear hfz11_1
  try clear hfz11_2
  try clear hfz11_3
  try clear hfz12_0
  try clear hfz12_1
  try clear hfz12_2
  try clear hfz12_3
  try clear hfz4_0
  try clear hfz4_1
  try clear hfz4_2
  try clear hfz4_3
  try clear hfz8_0
  try clear hfz8_1
  try clear hfz8_2
  try clear hfz8_3
  obtain ⟨kq,x31_1,rfl,HA,HJ1,BK137,HB⟩:=hcut
  cases kq with
  | zero => exact absurd HA.out (by simp [impl_isQuota.j0])
  | succ kj1 =>
   have H:=HA.out
   clear HA
   simp only [impl_isQuota.j0] at H
   by_cases c13 : x31_1 = true
   ·
    subst c13
    have H1 : (some false) = some r:=by rw [if_pos rfl] at H;exact H
    clear H
    have H:=H1
    clear H1
    obtain rfl:=Option.some.inj H
    go_wp2
    go_ret
    exact ⟨by first|rfl|(simp [errW_none,errW_some] <;> rfl)|(simp [*,errW_none,errW_some] <;> rfl),by repeat (first|(with_reducible first|exact HB.out|apply below_alloc|apply pw_below_drewN|apply below_drew1|refine below_set ?_ GE137.out)|exact HB.out)⟩
   ·
    replace c13:=Bool.eq_false_iff.mpr c13
    subst c13
    have H1 : (impl_isQuota.l0 kj1 0 l0_1 (l0_1.length : Int) 0 a0_0 l0_1 l0_2 l0_3) = some r:=by rw [if_neg (show ¬ (false = true) by decide)] at H;exact H
    clear H
    have H:=H1
    clear H1
    have H':=Aside0.mk H
    clear H
    have hcz14_0 : wc.cell? ⟨gb137,0,none⟩ = some (.int .i64 a0_0):=(blk_cell BK137.out 0).trans rfl
    have hcz14_1 : wc.cell? ⟨gb137,1,none⟩ = some (.slice A0_1 l0_1.length c0_1):=(blk_cell BK137.out 1).trans rfl
    have hcz14_2 : wc.cell? ⟨gb137,2,none⟩ = some (.slice A0_2 l0_2.length c0_2):=(blk_cell BK137.out 2).trans rfl
    have hcz14_3 : wc.cell? ⟨gb137,3,none⟩ = some (.slice A0_3 l0_3.length c0_3):=(blk_cell BK137.out 3).trans rfl
    have hfz14_0:=blk_frozen BK137.out 0
    have hfz14_1:=blk_frozen BK137.out 1
    have hfz14_2:=blk_frozen BK137.out 2
    have hfz14_3:=blk_frozen BK137.out 3
    go_wp2
    go_loopg [4,35] kj1 (fun kq v4 v35 w' => ∃ (x4_2 : Int) (x35_2 : Int),v4 = .int .i64 x4_2 ∧ v35 = .int .i64 x35_2 ∧ Aside0 (impl_isQuota.l0 kq x4_2 l0_1 (l0_1.length : Int) x35_2 a0_0 l0_1 l0_2 l0_3 = some r) ∧ Aside0 (kq ≤ kj1) ∧ Aside0 (w'.heap[gb137]? = some (.cells #[.int .i64 a0_0,(.slice A0_1 l0_1.length c0_1),(.slice A0_2 l0_2.length c0_2),(.slice A0_3 l0_3.length c0_3)] 27 (0,0))) ∧ Aside0 (Below w.heap.size w w'))
    case atStart => exact ⟨(0),(0),(by first|rfl|(simp;done)|(simp [*];done)),(by first|rfl|(simp;done)|(simp [*];done)),H',⟨Nat.le_refl _⟩,⟨by (with_reducible repeat (first|refine blk_drewN ?_ _|refine blk_drew ?_|refine blk_alloc ?_ _));exact BK137.out⟩,⟨by repeat (first|(with_reducible first|exact HB.out|apply below_alloc|apply pw_below_drewN|apply below_drew1|refine below_set ?_ GE137.out)|exact HB.out)⟩⟩
    case round =>
     clear H'
     try clear c1
     try clear p2
     try clear c3
     try clear c6
     try clear c7
     try clear c7b0
     try clear c7b1
     try clear c7b2
     try clear c9
     try clear c9b0
     try clear c9b1
     try clear c9b2
     try clear c13
     try clear hcz10_0
     try clear hcz10_1
     try clear hcz10_2
     try clear hcz10_3
     try clear hcz11_0
     try clear hcz11_1
     try clear hcz11_2
     try clear hcz11_3
     try clear hcz12_0
     try clear hcz12_1
     try clear hcz12_2
     try clear hcz12_3
     try clear hcz14_0
     try clear hcz14_1
     try clear hcz14_2
     try clear hcz14_3
     try clear hcz4_0
     try clear hcz4_1
     try clear hcz4_2
     try clear hcz4_3
     try clear hcz8_0
     try clear hcz8_1
     try clear hcz8_2
     try clear hcz8_3
     try clear hfz10_0
     try clear hfz10_1
     try clear hfz10_2
     try clear hfz10_3
     try clear hfz11_0
     try clear hfz11_1
     try clear hfz11_2
     try clear hfz11_3
     try clear hfz12_0
     try clear hfz12_1
     try clear hfz12_2
     try clear hfz12_3
     try clear hfz14_0
     try clear hfz14_1
     try clear hfz14_2
     try clear hfz14_3
     try clear hfz4_0
     try clear hfz4_1
     try clear hfz4_2
     try clear hfz4_3
     try clear hfz8_0
     try clear hfz8_1
     try clear hfz8_2
     try clear hfz8_3
     try clear p2
     obtain ⟨x4_2,x35_2,rfl,rfl,HA,HK2,BK137,HB⟩:=hrel
     cases gk with
     | zero => exact absurd HA.out (by simp [impl_isQuota.l0])
     | succ k2 =>
      have H:=HA.out
      clear HA
      simp only [impl_isQuota.l0] at H
      by_cases c15 : x35_2 < (l0_1.length : Int)
      ·
       rw [if_pos c15] at H
       have c15b0 : decide (x35_2 < (l0_1.length : Int)) = true:=decide_eq_true c15
       clear c15
       by_cases c16 : 0 ≤ x35_2
       ·
        rw [if_pos c16] at H
        have c16b0 : decide (0 ≤ x35_2) = true:=decide_eq_true c16
        clear c16
        by_cases c17 : x35_2 < (l0_1.length : Int)
        ·
         rw [if_pos c17] at H
         have c17b0 : decide (x35_2 < (l0_1.length : Int)) = true:=decide_eq_true c17
         clear c17
         replace H:=Option.bind_eq_some_iff.mp H
         obtain ⟨t140,A180,H⟩:=H
         replace H : (if t140 = true then (if x35_2 < (l0_2.length : Int) then ((impl_in.f (rd l0_2 x35_2) 0 (rd l0_1 x35_2)).bind fun t142 => (if t142 = true then (if x35_2 < (l0_3.length : Int) then ((impl_in.f (rd l0_3 x35_2) 0 (rd l0_1 x35_2)).bind fun t144 => (if t144 = true then ((impl_Quota_kept.f a0_0 l0_1 l0_2 l0_3 x35_2).bind fun t145 => (impl_isQuota.l0 k2 (wrap64 (x4_2 + t145)) l0_1 (l0_1.length : Int) (wrap64 (x35_2 + 1)) a0_0 l0_1 l0_2 l0_3)) else (some false))) else (none)) else (some false))) else (none)) else (some false)) = some r:=H
         have A18:=Aside0.mk A180
         clear A180
         by_cases c19 : t140 = true
         ·
          subst c19
          have H1 : (if x35_2 < (l0_2.length : Int) then ((impl_in.f (rd l0_2 x35_2) 0 (rd l0_1 x35_2)).bind fun t142 => (if t142 = true then (if x35_2 < (l0_3.length : Int) then ((impl_in.f (rd l0_3 x35_2) 0 (rd l0_1 x35_2)).bind fun t144 => (if t144 = true then ((impl_Quota_kept.f a0_0 l0_1 l0_2 l0_3 x35_2).bind fun t145 => (impl_isQuota.l0 k2 (wrap64 (x4_2 + t145)) l0_1 (l0_1.length : Int) (wrap64 (x35_2 + 1)) a0_0 l0_1 l0_2 l0_3)) else (some false))) else (none)) else (some false))) else (none)) = some r:=by rw [if_pos rfl] at H;exact H
          clear H
          have H:=H1
          clear H1
          by_cases c20 : x35_2 < (l0_2.length : Int)
          ·
           rw [if_pos c20] at H
           have c20b0 : decide (x35_2 < (l0_2.length : Int)) = true:=decide_eq_true c20
           clear c20
           replace H:=Option.bind_eq_some_iff.mp H
           obtain ⟨t142,A210,H⟩:=H
           replace H : (if t142 = true then (if x35_2 < (l0_3.length : Int) then ((impl_in.f (rd l0_3 x35_2) 0 (rd l0_1 x35_2)).bind fun t144 => (if t144 = true then ((impl_Quota_kept.f a0_0 l0_1 l0_2 l0_3 x35_2).bind fun t145 => (impl_isQuota.l0 k2 (wrap64 (x4_2 + t145)) l0_1 (l0_1.length : Int) (wrap64 (x35_2 + 1)) a0_0 l0_1 l0_2 l0_3)) else (some false))) else (none)) else (some false)) = some r:=H
           have A21:=Aside0.mk A210
           clear A210
           by_cases c22 : t142 = true
           ·
            subst c22
            have H1 : (if x35_2 < (l0_3.length : Int) then ((impl_in.f (rd l0_3 x35_2) 0 (rd l0_1 x35_2)).bind fun t144 => (if t144 = true then ((impl_Quota_kept.f a0_0 l0_1 l0_2 l0_3 x35_2).bind fun t145 => (impl_isQuota.l0 k2 (wrap64 (x4_2 + t145)) l0_1 (l0_1.length : Int) (wrap64 (x35_2 + 1)) a0_0 l0_1 l0_2 l0_3)) else (some false))) else (none)) = some r:=by rw [if_pos rfl] at H;exact H
            clear H
            have H:=H1
            clear H1
            by_cases c23 : x35_2 < (l0_3.length : Int)
            ·
             rw [if_pos c23] at H
             have c23b0 : decide (x35_2 < (l0_3.length : Int)) = true:=decide_eq_true c23
             clear c23
             replace H:=Option.bind_eq_some_iff.mp H
             obtain ⟨t144,A240,H⟩:=H
             replace H : (if t144 = true then ((impl_Quota_kept.f a0_0 l0_1 l0_2 l0_3 x35_2).bind fun t145 => (impl_isQuota.l0 k2 (wrap64 (x4_2 + t145)) l0_1 (l0_1.length : Int) (wrap64 (x35_2 + 1)) a0_0 l0_1 l0_2 l0_3)) else (some false)) = some r:=H
             have A24:=Aside0.mk A240
             clear A240
             by_cases c25 : t144 = true
             ·
              subst c25
              have H1 : ((impl_Quota_kept.f a0_0 l0_1 l0_2 l0_3 x35_2).bind fun t145 => (impl_isQuota.l0 k2 (wrap64 (x4_2 + t145)) l0_1 (l0_1.length : Int) (wrap64 (x35_2 + 1)) a0_0 l0_1 l0_2 l0_3)) = some r:=by rw [if_pos rfl] at H;exact H
              clear H
              have H:=H1
              clear H1
              replace H:=Option.bind_eq_some_iff.mp H
              obtain ⟨t145,A260,H⟩:=H
              replace H : (impl_isQuota.l0 k2 (wrap64 (x4_2 + t145)) l0_1 (l0_1.length : Int) (wrap64 (x35_2 + 1)) a0_0 l0_1 l0_2 l0_3) = some r:=H
              have A26:=Aside0.mk A260
              clear A260
              have H':=Aside0.mk H
              clear H
              have p139 : 0 ≤ (x35_2 : Int):=of_decide_eq_true (by first|(with_reducible assumption)|assumption)
              have q139 : x35_2 < (l0_1.length : Int):=of_decide_eq_true (by first|(with_reducible assumption)|assumption)
              obtain ⟨ad139,e139,hx139_0⟩:=Kd.at_int HR0_1.out x35_2 p139 q139
              cases e139
              replace hx139_0:=(HB.out.cell (World.block_lt_of_cell? w _ hx139_0)).trans hx139_0
              replace p139:=eq_true p139
              replace q139:=eq_true q139
              have hcz27_0 : wr.cell? ⟨gb137,0,none⟩ = some (.int .i64 a0_0):=(blk_cell BK137.out 0).trans rfl
              have hcz27_1 : wr.cell? ⟨gb137,1,none⟩ = some (.slice (some ad139) l0_1.length c0_1):=(blk_cell BK137.out 1).trans rfl
              have hcz27_2 : wr.cell? ⟨gb137,2,none⟩ = some (.slice A0_2 l0_2.length c0_2):=(blk_cell BK137.out 2).trans rfl
              have hcz27_3 : wr.cell? ⟨gb137,3,none⟩ = some (.slice A0_3 l0_3.length c0_3):=(blk_cell BK137.out 3).trans rfl
              have hfz27_0:=blk_frozen BK137.out 0
              have hfz27_1:=blk_frozen BK137.out 1
              have hfz27_2:=blk_frozen BK137.out 2
              have hfz27_3:=blk_frozen BK137.out 3
              go_wp2_with (first|((with_reducible refine gate_callee (f:=35) rfl ?_);refine goesL_ (some 43) rfl rfl Try.func35 (by kernel_rfl) rfl #[.int .i64 (rd l0_1 x35_2),.int .i64 0,.int .i64 a0_0] rfl (by (try simp only [List.map_toArray,List.map_cons,List.map_nil]);first|done|rfl|(simp only [List.length_drop,List.length_take];rfl)) ?_;(with_reducible refine (impl_in.calls (rd l0_1 x35_2) 0 a0_0 true _ A18.out).mono ?_);rintro e w' ⟨rfl,⟨nd,rfl⟩⟩;refine ⟨_,rfl,?_⟩;have p141 : 0 ≤ (x35_2 : Int):=of_decide_eq_true (by first|(with_reducible assumption)|assumption);have q141 : x35_2 < (l0_2.length : Int):=of_decide_eq_true (by first|(with_reducible assumption)|assumption);obtain ⟨ad141,e141,hx141_0⟩:=Kd.at_int HR0_2.out x35_2 p141 q141;cases e141;replace hx141_0:=(HB.out.cell (World.block_lt_of_cell? w _ hx141_0)).trans hx141_0;replace p141:=eq_true p141;replace q141:=eq_true q141)|(go_at_call 35;(with_reducible refine (impl_in.calls (rd l0_2 x35_2) 0 (rd l0_1 x35_2) true _ A21.out).mono ?_);rintro e w' ⟨rfl,⟨nd,rfl⟩⟩;have p143 : 0 ≤ (x35_2 : Int):=of_decide_eq_true (by first|(with_reducible assumption)|assumption);have q143 : x35_2 < (l0_3.length : Int):=of_decide_eq_true (by first|(with_reducible assumption)|assumption);obtain ⟨ad143,e143,hx143_0⟩:=Kd.at_int HR0_3.out x35_2 p143 q143;cases e143;replace hx143_0:=(HB.out.cell (World.block_lt_of_cell? w _ hx143_0)).trans hx143_0;replace p143:=eq_true p143;replace q143:=eq_true q143)|(go_at_call 35;(with_reducible refine (impl_in.calls (rd l0_3 x35_2) 0 (rd l0_1 x35_2) true _ A24.out).mono ?_);rintro e w' ⟨rfl,⟨nd,rfl⟩⟩)|((with_reducible refine gate_callee (f:=39) rfl ?_);refine goesL_ (some 67) rfl rfl Try.func39 (by kernel_rfl) rfl #[.pointer (some ⟨gb137,0,none⟩),.int .i64 x35_2] rfl (by (try simp only [List.map_toArray,List.map_cons,List.map_nil]);first|done|rfl|(simp only [List.length_drop,List.length_take];rfl)) ?_;(with_reducible refine (impl_Quota_kept.calls gb137 a0_0 (some ad139) c0_1 l0_1 (some ad141) c0_2 l0_2 (some ad143) c0_3 l0_3 x35_2 t145 _ ?side1 ?side2 ?side3 ?side4 ?side5 ?side6 ?side7 A26.out).mono ?_);(case side1 => exact (by (with_reducible repeat (first|refine blk_drewN ?_ _|refine blk_drew ?_|refine blk_alloc ?_ _));exact BK137.out));(case side2 => repeat (first|exact (Kd.C_below HR0_1.out (by repeat (first|(with_reducible first|exact HB.out|apply below_alloc|apply pw_below_drewN|apply below_drew1|refine below_set ?_ GE137.out)|exact HB.out)))|(with_reducible refine Kd.C_alloc ?_ _)|(with_reducible refine Kd.C_drewN ?_ _)|(with_reducible refine Kd.C_drew ?_)));(case side3 => exact HC0_1.out);(case side4 => repeat (first|exact (Kd.C_below HR0_2.out (by repeat (first|(with_reducible first|exact HB.out|apply below_alloc|apply pw_below_drewN|apply below_drew1|refine below_set ?_ GE137.out)|exact HB.out)))|(with_reducible refine Kd.C_alloc ?_ _)|(with_reducible refine Kd.C_drewN ?_ _)|(with_reducible refine Kd.C_drew ?_)));(case side5 => exact HC0_2.out);(case side6 => repeat (first|exact (Kd.C_below HR0_3.out (by repeat (first|(with_reducible first|exact HB.out|apply below_alloc|apply pw_below_drewN|apply below_drew1|refine below_set ?_ GE137.out)|exact HB.out)))|(with_reducible refine Kd.C_alloc ?_ _)|(with_reducible refine Kd.C_drewN ?_ _)|(with_reducible refine Kd.C_drew ?_)));(case side7 => exact HC0_3.out);rintro e w28 ⟨rfl,hb⟩;refine ⟨_,rfl,?_⟩;have n0_:=Aside0.mk (blk_below (g:=gb137) (o:=.cells #[.int .i64 a0_0,.slice (some ad139) l0_1.length c0_1,.slice (some ad141) l0_2.length c0_2,.slice (some ad143) l0_3.length c0_3] 27 (0,0)) (by (with_reducible repeat (first|refine blk_drewN ?_ _|refine blk_drew ?_|refine blk_alloc ?_ _));exact BK137.out) hb);have n1_:=Aside0.mk (below_step (by repeat (first|(with_reducible first|exact HB.out|apply below_alloc|apply pw_below_drewN|apply below_drew1|refine below_set ?_ GE137.out)|exact HB.out)) hb);clear BK137;clear HB;have BK137:=n0_;have HB:=n1_;clear n0_ n1_;(try clear hb);(try clear hb2);(try clear hk);(try clear hi)))
              go_roundg k2
              case measure => have:=HJ1.out;have:=HK2.out;omega
              case rel => exact ⟨(wrap64 (x4_2 + t145)),(wrap64 (x35_2 + 1)),(by first|rfl|(simp;done)|(simp [*];done)),(by first|rfl|(simp;done)|(simp [*];done)),H',⟨by have:=HJ1.out;have:=HK2.out;omega⟩,⟨by (with_reducible repeat (first|refine blk_drewN ?_ _|refine blk_drew ?_|refine blk_alloc ?_ _));exact BK137.out⟩,⟨by repeat (first|(with_reducible first|exact HB.out|apply below_alloc|apply pw_below_drewN|apply below_drew1|refine below_set ?_ GE137.out)|exact HB.out)⟩⟩
             ·
              replace c25:=Bool.eq_false_iff.mpr c25
              subst c25
              have H1 : (some false) = some r:=by rw [if_neg (show ¬ (false = true) by decide)] at H;exact H
              clear H
              have H:=H1
              clear H1
              obtain rfl:=Option.some.inj H
              have p139 : 0 ≤ (x35_2 : Int):=of_decide_eq_true (by first|(with_reducible assumption)|assumption)
              have q139 : x35_2 < (l0_1.length : Int):=of_decide_eq_true (by first|(with_reducible assumption)|assumption)
              obtain ⟨ad139,e139,hx139_0⟩:=Kd.at_int HR0_1.out x35_2 p139 q139
              cases e139
              replace hx139_0:=(HB.out.cell (World.block_lt_of_cell? w _ hx139_0)).trans hx139_0
              replace p139:=eq_true p139
              replace q139:=eq_true q139
              have hcz29_0 : wr.cell? ⟨gb137,0,none⟩ = some (.int .i64 a0_0):=(blk_cell BK137.out 0).trans rfl
              have hcz29_1 : wr.cell? ⟨gb137,1,none⟩ = some (.slice (some ad139) l0_1.length c0_1):=(blk_cell BK137.out 1).trans rfl
              have hcz29_2 : wr.cell? ⟨gb137,2,none⟩ = some (.slice A0_2 l0_2.length c0_2):=(blk_cell BK137.out 2).trans rfl
              have hcz29_3 : wr.cell? ⟨gb137,3,none⟩ = some (.slice A0_3 l0_3.length c0_3):=(blk_cell BK137.out 3).trans rfl
              have hfz29_0:=blk_frozen BK137.out 0
              have hfz29_1:=blk_frozen BK137.out 1
              have hfz29_2:=blk_frozen BK137.out 2
              have hfz29_3:=blk_frozen BK137.out 3
              go_wp2_with (first|((with_reducible refine gate_callee (f:=35) rfl ?_);refine goesL_ (some 43) rfl rfl Try.func35 (by kernel_rfl) rfl #[.int .i64 (rd l0_1 x35_2),.int .i64 0,.int .i64 a0_0] rfl (by (try simp only [List.map_toArray,List.map_cons,List.map_nil]);first|done|rfl|(simp only [List.length_drop,List.length_take];rfl)) ?_;(with_reducible refine (impl_in.calls (rd l0_1 x35_2) 0 a0_0 true _ A18.out).mono ?_);rintro e w' ⟨rfl,⟨nd,rfl⟩⟩;refine ⟨_,rfl,?_⟩;have p141 : 0 ≤ (x35_2 : Int):=of_decide_eq_true (by first|(with_reducible assumption)|assumption);have q141 : x35_2 < (l0_2.length : Int):=of_decide_eq_true (by first|(with_reducible assumption)|assumption);obtain ⟨ad141,e141,hx141_0⟩:=Kd.at_int HR0_2.out x35_2 p141 q141;cases e141;replace hx141_0:=(HB.out.cell (World.block_lt_of_cell? w _ hx141_0)).trans hx141_0;replace p141:=eq_true p141;replace q141:=eq_true q141)|(go_at_call 35;(with_reducible refine (impl_in.calls (rd l0_2 x35_2) 0 (rd l0_1 x35_2) true _ A21.out).mono ?_);rintro e w' ⟨rfl,⟨nd,rfl⟩⟩;have p143 : 0 ≤ (x35_2 : Int):=of_decide_eq_true (by first|(with_reducible assumption)|assumption);have q143 : x35_2 < (l0_3.length : Int):=of_decide_eq_true (by first|(with_reducible assumption)|assumption);obtain ⟨ad143,e143,hx143_0⟩:=Kd.at_int HR0_3.out x35_2 p143 q143;cases e143;replace hx143_0:=(HB.out.cell (World.block_lt_of_cell? w _ hx143_0)).trans hx143_0;replace p143:=eq_true p143;replace q143:=eq_true q143)|(go_at_call 35;(with_reducible refine (impl_in.calls (rd l0_3 x35_2) 0 (rd l0_1 x35_2) false _ A24.out).mono ?_);rintro e w' ⟨rfl,⟨nd,rfl⟩⟩))
              go_ret
              exact ⟨by first|rfl|(simp [errW_none,errW_some] <;> rfl)|(simp [*,errW_none,errW_some] <;> rfl),by repeat (first|(with_reducible first|exact HB.out|apply below_alloc|apply pw_below_drewN|apply below_drew1|refine below_set ?_ GE137.out)|exact HB.out)⟩
            ·
             rw [if_neg c23] at H
             exact absurd H (by simp)
           ·
            replace c22:=Bool.eq_false_iff.mpr c22
            subst c22
            have H1 : (some false) = some r:=by rw [if_neg (show ¬ (false = true) by decide)] at H;exact H
            clear H
            have H:=H1
            clear H1
            obtain rfl:=Option.some.inj H
            have p139 : 0 ≤ (x35_2 : Int):=of_decide_eq_true (by first|(with_reducible assumption)|assumption)
            have q139 : x35_2 < (l0_1.length : Int):=of_decide_eq_true (by first|(with_reducible assumption)|assumption)
            obtain ⟨ad139,e139,hx139_0⟩:=Kd.at_int HR0_1.out x35_2 p139 q139
            cases e139
            replace hx139_0:=(HB.out.cell (World.block_lt_of_cell? w _ hx139_0)).trans hx139_0
            replace p139:=eq_true p139
            replace q139:=eq_true q139
            have hcz30_0 : wr.cell? ⟨gb137,0,none⟩ = some (.int .i64 a0_0):=(blk_cell BK137.out 0).trans rfl
            have hcz30_1 : wr.cell? ⟨gb137,1,none⟩ = some (.slice (some ad139) l0_1.length c0_1):=(blk_cell BK137.out 1).trans rfl
            have hcz30_2 : wr.cell? ⟨gb137,2,none⟩ = some (.slice A0_2 l0_2.length c0_2):=(blk_cell BK137.out 2).trans rfl
            have hcz30_3 : wr.cell? ⟨gb137,3,none⟩ = some (.slice A0_3 l0_3.length c0_3):=(blk_cell BK137.out 3).trans rfl
            have hfz30_0:=blk_frozen BK137.out 0
            have hfz30_1:=blk_frozen BK137.out 1
            have hfz30_2:=blk_frozen BK137.out 2
            have hfz30_3:=blk_frozen BK137.out 3
            go_wp2_with (first|((with_reducible refine gate_callee (f:=35) rfl ?_);refine goesL_ (some 43) rfl rfl Try.func35 (by kernel_rfl) rfl #[.int .i64 (rd l0_1 x35_2),.int .i64 0,.int .i64 a0_0] rfl (by (try simp only [List.map_toArray,List.map_cons,List.map_nil]);first|done|rfl|(simp only [List.length_drop,List.length_take];rfl)) ?_;(with_reducible refine (impl_in.calls (rd l0_1 x35_2) 0 a0_0 true _ A18.out).mono ?_);rintro e w' ⟨rfl,⟨nd,rfl⟩⟩;refine ⟨_,rfl,?_⟩;have p141 : 0 ≤ (x35_2 : Int):=of_decide_eq_true (by first|(with_reducible assumption)|assumption);have q141 : x35_2 < (l0_2.length : Int):=of_decide_eq_true (by first|(with_reducible assumption)|assumption);obtain ⟨ad141,e141,hx141_0⟩:=Kd.at_int HR0_2.out x35_2 p141 q141;cases e141;replace hx141_0:=(HB.out.cell (World.block_lt_of_cell? w _ hx141_0)).trans hx141_0;replace p141:=eq_true p141;replace q141:=eq_true q141)|(go_at_call 35;(with_reducible refine (impl_in.calls (rd l0_2 x35_2) 0 (rd l0_1 x35_2) false _ A21.out).mono ?_);rintro e w' ⟨rfl,⟨nd,rfl⟩⟩))
            go_ret
            exact ⟨by first|rfl|(simp [errW_none,errW_some] <;> rfl)|(simp [*,errW_none,errW_some] <;> rfl),by repeat (first|(with_reducible first|exact HB.out|apply below_alloc|apply pw_below_drewN|apply below_drew1|refine below_set ?_ GE137.out)|exact HB.out)⟩
          ·
           rw [if_neg c20] at H
           exact absurd H (by simp)
         ·
          replace c19:=Bool.eq_false_iff.mpr c19
          subst c19
          have H1 : (some false) = some r:=by rw [if_neg (show ¬ (false = true) by decide)] at H;exact H
          clear H
          have H:=H1
          clear H1
          obtain rfl:=Option.some.inj H
          have p139 : 0 ≤ (x35_2 : Int):=of_decide_eq_true (by first|(with_reducible assumption)|assumption)
          have q139 : x35_2 < (l0_1.length : Int):=of_decide_eq_true (by first|(with_reducible assumption)|assumption)
          obtain ⟨ad139,e139,hx139_0⟩:=Kd.at_int HR0_1.out x35_2 p139 q139
          cases e139
          replace hx139_0:=(HB.out.cell (World.block_lt_of_cell? w _ hx139_0)).trans hx139_0
          replace p139:=eq_true p139
          replace q139:=eq_true q139
          have hcz31_0 : wr.cell? ⟨gb137,0,none⟩ = some (.int .i64 a0_0):=(blk_cell BK137.out 0).trans rfl
          have hcz31_1 : wr.cell? ⟨gb137,1,none⟩ = some (.slice (some ad139) l0_1.length c0_1):=(blk_cell BK137.out 1).trans rfl
          have hcz31_2 : wr.cell? ⟨gb137,2,none⟩ = some (.slice A0_2 l0_2.length c0_2):=(blk_cell BK137.out 2).trans rfl
          have hcz31_3 : wr.cell? ⟨gb137,3,none⟩ = some (.slice A0_3 l0_3.length c0_3):=(blk_cell BK137.out 3).trans rfl
          have hfz31_0:=blk_frozen BK137.out 0
          have hfz31_1:=blk_frozen BK137.out 1
          have hfz31_2:=blk_frozen BK137.out 2
          have hfz31_3:=blk_frozen BK137.out 3
          go_wp2_with (first|((with_reducible refine gate_callee (f:=35) rfl ?_);refine goesL_ (some 43) rfl rfl Try.func35 (by kernel_rfl) rfl #[.int .i64 (rd l0_1 x35_2),.int .i64 0,.int .i64 a0_0] rfl (by (try simp only [List.map_toArray,List.map_cons,List.map_nil]);first|done|rfl|(simp only [List.length_drop,List.length_take];rfl)) ?_;(with_reducible refine (impl_in.calls (rd l0_1 x35_2) 0 a0_0 false _ A18.out).mono ?_);rintro e w' ⟨rfl,⟨nd,rfl⟩⟩;refine ⟨_,rfl,?_⟩))
          go_ret
          exact ⟨by first|rfl|(simp [errW_none,errW_some] <;> rfl)|(simp [*,errW_none,errW_some] <;> rfl),by repeat (first|(with_reducible first|exact HB.out|apply below_alloc|apply pw_below_drewN|apply below_drew1|refine below_set ?_ GE137.out)|exact HB.out)⟩
        ·
         rw [if_neg c17] at H
         exact absurd H (by simp)
       ·
        rw [if_neg c16] at H
        exact absurd H (by simp)
      ·
       rw [if_neg c15] at H
       have c15b0 : decide (x35_2 < (l0_1.length : Int)) = false:=decide_eq_false c15
       clear c15
       obtain rfl:=Option.some.inj H
       have hcz32_0 : wr.cell? ⟨gb137,0,none⟩ = some (.int .i64 a0_0):=(blk_cell BK137.out 0).trans rfl
       have hcz32_1 : wr.cell? ⟨gb137,1,none⟩ = some (.slice A0_1 l0_1.length c0_1):=(blk_cell BK137.out 1).trans rfl
       have hcz32_2 : wr.cell? ⟨gb137,2,none⟩ = some (.slice A0_2 l0_2.length c0_2):=(blk_cell BK137.out 2).trans rfl
       have hcz32_3 : wr.cell? ⟨gb137,3,none⟩ = some (.slice A0_3 l0_3.length c0_3):=(blk_cell BK137.out 3).trans rfl
       have hfz32_0:=blk_frozen BK137.out 0
       have hfz32_1:=blk_frozen BK137.out 1
       have hfz32_2:=blk_frozen BK137.out 2
       have hfz32_3:=blk_frozen BK137.out 3
       go_wp2
       go_ret
       exact ⟨by first|rfl|(simp [errW_none,errW_some] <;> rfl)|(simp [*,errW_none,errW_some] <;> rfl),by repeat (first|(with_reducible first|exact HB.out|apply below_alloc|apply pw_below_drewN|apply below_drew1|refine below_set ?_ GE137.out)|exact HB.out)⟩
end Go.Proofs.Ytpngfnhkibkebaa.P
