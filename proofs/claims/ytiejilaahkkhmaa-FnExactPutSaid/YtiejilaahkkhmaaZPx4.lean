-- Ours: printed or written for this claim; cut to what the theorem needs.
import Derived.Test.YtiejilaahkkhmaaZPx0
namespace Go.Proofs.Ytiejilaahkkhmaa.P
open Go.RowKit Go.Proofs.YtiejilaahkkhmaaW.PrintWords Go.Proofs.YtiejilaahkkhmaaW.PrintLast Go.Proofs.YtiejilaahkkhmaaW.PrintMore
attribute [local go_sem] max2_int min2_int max_two min_two max_three min_three max_four min_four
set_option linter.unusedVariables false
set_option linter.unusedSimpArgs false
def spec_l3Host.f (a0 : Int) : Option (Bool):=if a0 ≥ 0 then (some (decide (a0 < 3))) else (some false)
set_option maxHeartbeats 8000000 in
set_option maxRecDepth 100000 in
theorem spec_l3Host.calls (a0 : Int) (r : Bool) (w : World) (h : spec_l3Host.f a0 = some r) :
  Calls Try.prog 40 #[.int .i64 a0] w fun e w' => e = .returned (.bool r) ∧ Drawn0 w w':=by
 have H : (if a0 ≥ 0 then (some (decide (a0 < 3))) else (some false)) = some r:=h
 clear h
 by_cases c2 : a0 ≥ 0
 ·
  rw [if_pos c2] at H
  have c2b0 : decide (0 ≤ a0) = true:=decide_eq_true c2
  clear c2
  obtain rfl:=Option.some.inj H
  go_enter Try.func40,Try.ntmps40
  go_wp2
  go_ret
  exact ⟨by first|rfl|(simp;done)|(simp [*];done),by repeat (first|exact Drawn0.refl _|apply Drawn0.step)⟩
 ·
  rw [if_neg c2] at H
  have c2b0 : decide (0 ≤ a0) = false:=decide_eq_false c2
  clear c2
  obtain rfl:=Option.some.inj H
  go_enter Try.func40,Try.ntmps40
  go_wp2
  go_ret
  exact ⟨by first|rfl|(simp;done)|(simp [*];done),by repeat (first|exact Drawn0.refl _|apply Drawn0.step)⟩
def spec_l3There.f (l0_0 : List ByteArray) (l0_1 : List Int) (l0_2 : List (S36)) (a1 : Int) (a2 : Int) : Option (Bool):=(spec_l3Host.f a1).bind fun t172 => (if t172 = true then (if a2 ≥ 0 then (some (decide (a2 < (l0_0.length : Int)))) else (some false)) else (some false))
set_option maxHeartbeats 8000000 in
set_option maxRecDepth 100000 in
theorem spec_l3There.calls (A0_0 : Option Addr) (c0_0 : Nat) (l0_0 : List ByteArray) (A0_1 : Option Addr) (c0_1 : Nat) (l0_1 : List Int) (A0_2 : Option Addr) (c0_2 : Nat) (l0_2 : List (S36)) (a1 : Int) (a2 : Int) (r : Bool) (w : World) (hr0_0 : Kd.C Kd.string w A0_0 l0_0.length l0_0) (hc0_0 : l0_0.length ≤ c0_0) (hr0_1 : Kd.C (Kd.int .i64) w A0_1 l0_1.length l0_1) (hc0_1 : l0_1.length ≤ c0_1) (hr0_2 : Kd.C k36 w A0_2 l0_2.length l0_2) (hc0_2 : l0_2.length ≤ c0_2) (h : spec_l3There.f l0_0 l0_1 l0_2 a1 a2 = some r) :
  Calls Try.prog 93 #[.agg #[.slice A0_0 l0_0.length c0_0,.slice A0_1 l0_1.length c0_1,.slice A0_2 l0_2.length c0_2],.int .i64 a1,.int .i64 a2] w fun e w' => e = .returned (.bool r) ∧ Below w.heap.size w w':=by
 have hu28:=Try.underlying28
 have HR0_0:=Aside0.mk hr0_0
 have HC0_0:=Aside0.mk hc0_0
 clear hr0_0 hc0_0
 have HR0_1:=Aside0.mk hr0_1
 have HC0_1:=Aside0.mk hc0_1
 clear hr0_1 hc0_1
 have HR0_2:=Aside0.mk hr0_2
 have HC0_2:=Aside0.mk hc0_2
 clear hr0_2 hc0_2
 have HB:=Aside0.mk (Below.refl w.heap.size w)
 have H : ((spec_l3Host.f a1).bind fun t172 => (if t172 = true then (if a2 ≥ 0 then (some (decide (a2 < (l0_0.length : Int)))) else (some false)) else (some false))) = some r:=h
 clear h
 replace H:=Option.bind_eq_some_iff.mp H
 obtain ⟨t172,A40,H⟩:=H
 replace H : (if t172 = true then (if a2 ≥ 0 then (some (decide (a2 < (l0_0.length : Int)))) else (some false)) else (some false)) = some r:=H
 have A4:=Aside0.mk A40
 clear A40
 by_cases c5 : t172 = true
 ·
  subst c5
  have H1 : (if a2 ≥ 0 then (some (decide (a2 < (l0_0.length : Int)))) else (some false)) = some r:=by rw [if_pos rfl] at H;exact H
  clear H
  have H:=H1
  clear H1
  by_cases c6 : a2 ≥ 0
  ·
   rw [if_pos c6] at H
   have c6b0 : decide (0 ≤ a2) = true:=decide_eq_true c6
   clear c6
   obtain rfl:=Option.some.inj H
   go_enter Try.func93,Try.ntmps93
   go_wp2_with (first|((with_reducible refine gate_dst (N:=3) rfl ?_);(try (refine gate_guard (by rfl) ?_;dsimp only));refine box_event ?hg (N:=3) ?hd (cs:=#[.slice A0_0 l0_0.length c0_0,.slice A0_1 l0_1.length c0_1,.slice A0_2 l0_2.length c0_2]) (t:=28) ?hr ?_;(case hd => rfl);(case hg => rfl);(case hr => first|(go_simp;done)|(go_simp;rfl));intro gb171 hg w7 hbox hb;have n0_:=Aside0.mk (below_step (by exact HB.out) hb);have n1_:=Aside0.mk (hbox);have n2_:=Aside0.mk ((by rw [hg];exact (below_size (by exact HB.out)) : w.heap.size ≤ gb171));have n3_:=Aside0.mk ((by rw [hg];exact (below_size (by exact HB.out)) : w.heap.size ≤ gb171));clear HB;have HB:=n0_;have BK171:=n1_;have GW171:=n2_;have GE171:=n3_;clear n0_ n1_ n2_ n3_;clear hb hbox hg)|((with_reducible refine gate_callee (f:=40) rfl ?_);refine goesL_ (some 8) rfl rfl Try.func40 (by kernel_rfl) rfl #[.int .i64 a1] rfl (by (try simp only [List.map_toArray,List.map_cons,List.map_nil]);first|done|rfl|(simp only [List.length_drop,List.length_take];rfl)) ?_;(with_reducible refine (spec_l3Host.calls a1 true _ A4.out).mono ?_);rintro e w' ⟨rfl,⟨nd,rfl⟩⟩;refine ⟨_,rfl,?_⟩;have hcz8_0 : w7.cell? ⟨gb171,0,none⟩ = some (.slice A0_0 l0_0.length c0_0):=(blk_cell BK171.out 0).trans rfl;have hcz8_1 : w7.cell? ⟨gb171,1,none⟩ = some (.slice A0_1 l0_1.length c0_1):=(blk_cell BK171.out 1).trans rfl;have hcz8_2 : w7.cell? ⟨gb171,2,none⟩ = some (.slice A0_2 l0_2.length c0_2):=(blk_cell BK171.out 2).trans rfl;have hfz8_0:=blk_frozen BK171.out 0;have hfz8_1:=blk_frozen BK171.out 1;have hfz8_2:=blk_frozen BK171.out 2))
   go_ret
   exact ⟨by first|rfl|(simp [errW_none,errW_some] <;> rfl)|(simp [*,errW_none,errW_some] <;> rfl),by repeat (first|(with_reducible first|exact HB.out|apply below_alloc|apply pw_below_drewN|apply below_drew1|refine below_set ?_ GE171.out)|exact HB.out)⟩
  ·
   rw [if_neg c6] at H
   have c6b0 : decide (0 ≤ a2) = false:=decide_eq_false c6
   clear c6
   obtain rfl:=Option.some.inj H
   go_enter Try.func93,Try.ntmps93
   go_wp2_with (first|((with_reducible refine gate_dst (N:=3) rfl ?_);(try (refine gate_guard (by rfl) ?_;dsimp only));refine box_event ?hg (N:=3) ?hd (cs:=#[.slice A0_0 l0_0.length c0_0,.slice A0_1 l0_1.length c0_1,.slice A0_2 l0_2.length c0_2]) (t:=28) ?hr ?_;(case hd => rfl);(case hg => rfl);(case hr => first|(go_simp;done)|(go_simp;rfl));intro gb171 hg w9 hbox hb;have n0_:=Aside0.mk (below_step (by exact HB.out) hb);have n1_:=Aside0.mk (hbox);have n2_:=Aside0.mk ((by rw [hg];exact (below_size (by exact HB.out)) : w.heap.size ≤ gb171));have n3_:=Aside0.mk ((by rw [hg];exact (below_size (by exact HB.out)) : w.heap.size ≤ gb171));clear HB;have HB:=n0_;have BK171:=n1_;have GW171:=n2_;have GE171:=n3_;clear n0_ n1_ n2_ n3_;clear hb hbox hg)|((with_reducible refine gate_callee (f:=40) rfl ?_);refine goesL_ (some 8) rfl rfl Try.func40 (by kernel_rfl) rfl #[.int .i64 a1] rfl (by (try simp only [List.map_toArray,List.map_cons,List.map_nil]);first|done|rfl|(simp only [List.length_drop,List.length_take];rfl)) ?_;(with_reducible refine (spec_l3Host.calls a1 true _ A4.out).mono ?_);rintro e w' ⟨rfl,⟨nd,rfl⟩⟩;refine ⟨_,rfl,?_⟩))
   go_ret
   exact ⟨by first|rfl|(simp [errW_none,errW_some] <;> rfl)|(simp [*,errW_none,errW_some] <;> rfl),by repeat (first|(with_reducible first|exact HB.out|apply below_alloc|apply pw_below_drewN|apply below_drew1|refine below_set ?_ GE171.out)|exact HB.out)⟩
 ·
  replace c5:=Bool.eq_false_iff.mpr c5
  subst c5
  have H1 : (some false) = some r:=by rw [if_neg (show ¬ (false = true) by decide)] at H;exact H
  clear H
  have H:=H1
  clear H1
  obtain rfl:=Option.some.inj H
  go_enter Try.func93,Try.ntmps93
  go_wp2_with (first|((with_reducible refine gate_dst (N:=3) rfl ?_);(try (refine gate_guard (by rfl) ?_;dsimp only));refine box_event ?hg (N:=3) ?hd (cs:=#[.slice A0_0 l0_0.length c0_0,.slice A0_1 l0_1.length c0_1,.slice A0_2 l0_2.length c0_2]) (t:=28) ?hr ?_;(case hd => rfl);(case hg => rfl);(case hr => first|(go_simp;done)|(go_simp;rfl));intro gb171 hg w10 hbox hb;have n0_:=Aside0.mk (below_step (by exact HB.out) hb);have n1_:=Aside0.mk (hbox);have n2_:=Aside0.mk ((by rw [hg];exact (below_size (by exact HB.out)) : w.heap.size ≤ gb171));have n3_:=Aside0.mk ((by rw [hg];exact (below_size (by exact HB.out)) : w.heap.size ≤ gb171));clear HB;have HB:=n0_;have BK171:=n1_;have GW171:=n2_;have GE171:=n3_;clear n0_ n1_ n2_ n3_;clear hb hbox hg)|((with_reducible refine gate_callee (f:=40) rfl ?_);refine goesL_ (some 8) rfl rfl Try.func40 (by kernel_rfl) rfl #[.int .i64 a1] rfl (by (try simp only [List.map_toArray,List.map_cons,List.map_nil]);first|done|rfl|(simp only [List.length_drop,List.length_take];rfl)) ?_;(with_reducible refine (spec_l3Host.calls a1 false _ A4.out).mono ?_);rintro e w' ⟨rfl,⟨nd,rfl⟩⟩;refine ⟨_,rfl,?_⟩))
  go_ret
  exact ⟨by first|rfl|(simp [errW_none,errW_some] <;> rfl)|(simp [*,errW_none,errW_some] <;> rfl),by repeat (first|(with_reducible first|exact HB.out|apply below_alloc|apply pw_below_drewN|apply below_drew1|refine below_set ?_ GE171.out)|exact HB.out)⟩
def spec_l3Put.j0 : Nat → Int → Int → Int → ByteArray → Bool → List ByteArray → List Int → List (S36) → Option (List ByteArray × List Int × (List (S36)) × Int)
  | 0,_,_,_,_,_,_,_,_ => none
  | k + 1,x1,x2,x3,x4,x12,x174000,x174001,x174002 => if x12 = true then (some (x174000,x174001,x174002,1)) else (if 0 ≤ x1 then (if x1 < (x174001.length : Int) then (if (rd x174001 x1) = x2 then (if (x174002.length : Int) ≥ 40 then (some (x174000,x174001,x174002,3)) else (if x174002.length < 3518437208883 then (some (x174000,x174001,(x174002 ++ [(⟨x1,x2,x3,x4⟩ : S36)]),0)) else (none))) else (some (x174000,x174001,x174002,2))) else (none)) else (none))
def spec_l3Put.f (k : Nat) (l0_0 : List ByteArray) (l0_1 : List Int) (l0_2 : List (S36)) (a1 : Int) (a2 : Int) (a3 : Int) (a4 : ByteArray) : Option (List ByteArray × List Int × (List (S36)) × Int):=(spec_l3There.f l0_0 l0_1 l0_2 a1 a3).bind fun t175 => (if t175 = true then (spec_l3Put.j0 k a1 a2 a3 a4 (decide ((a4.size : Int) > 700)) l0_0 l0_1 l0_2) else (spec_l3Put.j0 k a1 a2 a3 a4 true l0_0 l0_1 l0_2))
set_option maxHeartbeats 8000000 in
set_option maxRecDepth 100000 in
theorem spec_l3Put.calls (k : Nat) (P0_0_ : Nat → Prop) (u9000_ : Value) (l0_0 : List ByteArray) (P0_1_ : Nat → Prop) (u9001_ : Value) (l0_1 : List Int) (P0_2_ : Nat → Prop) (u9002_ : Value) (l0_2 : List (S36)) (a1 : Int) (a2 : Int) (a3 : Int) (a4 : ByteArray) (r1 : List ByteArray) (r2 : List Int) (r3 : List (S36)) (r4 : Int) (w0 w : World) (hB : Below w0.heap.size w0 w) (ho0_0 : Kd.R Kd.string 9 w w0.heap.size P0_0_ u9000_ l0_0) (ho0_1 : Kd.R (Kd.int .i64) 3 w w0.heap.size P0_1_ u9001_ l0_1) (ho0_2 : Kd.R k36 36 w w0.heap.size P0_2_ u9002_ l0_2) (h : spec_l3Put.f k l0_0 l0_1 l0_2 a1 a2 a3 a4 = some (r1,r2,r3,r4)) :
  Calls Try.prog 70 #[.agg #[u9000_,u9001_,u9002_],.int .i64 a1,.int .i64 a2,.int .i64 a3,.string a4] w fun e w' => ∃ v0_ v1_ v2_ : Value,e = .returned (.tuple #[.agg #[v0_,v1_,v2_],.int .i64 r4]) ∧ Kd.R Kd.string 9 w' w0.heap.size (fun k_ => ((P0_0_ k_ ∨ P0_1_ k_ ∨ P0_2_ k_) ∨ w.heap.size ≤ k_)) v0_ r1 ∧ Kd.R (Kd.int .i64) 3 w' w0.heap.size (fun k_ => ((P0_0_ k_ ∨ P0_1_ k_ ∨ P0_2_ k_) ∨ w.heap.size ≤ k_)) v1_ r2 ∧ Kd.R k36 36 w' w0.heap.size (fun k_ => ((P0_0_ k_ ∨ P0_1_ k_ ∨ P0_2_ k_) ∨ w.heap.size ≤ k_)) v2_ r3 ∧ Below w0.heap.size w0 w' ∧ Kept w w' (fun k_ => P0_0_ k_ ∨ P0_1_ k_ ∨ P0_2_ k_):=by
 have hu28:=Try.underlying28
 have hu36:=Try.underlying36
 have HO0_0:=Aside0.mk (show Kd.R Kd.string 9 w w0.heap.size (fun k_ => ((P0_0_ k_ ∨ P0_1_ k_ ∨ P0_2_ k_) ∨ w.heap.size ≤ k_)) u9000_ l0_0 from Kd.R_mono ho0_0 (fun k_ hk => (.inl (.inl hk))))
 have HO0_1:=Aside0.mk (show Kd.R (Kd.int .i64) 3 w w0.heap.size (fun k_ => ((P0_0_ k_ ∨ P0_1_ k_ ∨ P0_2_ k_) ∨ w.heap.size ≤ k_)) u9001_ l0_1 from Kd.R_mono ho0_1 (fun k_ hk => (.inl (.inr (.inl hk)))))
 have HO0_2:=Aside0.mk (show Kd.R k36 36 w w0.heap.size (fun k_ => ((P0_0_ k_ ∨ P0_1_ k_ ∨ P0_2_ k_) ∨ w.heap.size ≤ k_)) u9002_ l0_2 from Kd.R_mono ho0_2 (fun k_ hk => (.inl (.inr (.inr hk)))))
 have HK:=Aside0.mk (Kept.refl w (fun k_ => P0_0_ k_ ∨ P0_1_ k_ ∨ P0_2_ k_))
 have HW0:=Aside0.mk hB.size
 have HB:=Aside0.mk hB
 clear hB
 have H : ((spec_l3There.f l0_0 l0_1 l0_2 a1 a3).bind fun t175 => (if t175 = true then (spec_l3Put.j0 k a1 a2 a3 a4 (decide ((a4.size : Int) > 700)) l0_0 l0_1 l0_2) else (spec_l3Put.j0 k a1 a2 a3 a4 true l0_0 l0_1 l0_2))) = some (r1,r2,r3,r4):=h
 clear h
 have HC6:=Aside0.mk H
 clear H
 obtain ⟨Ao7,co7,eo7⟩:=Kd.R_slice HO0_0.out
 subst eo7
 obtain ⟨Ao8,co8,eo8⟩:=Kd.R_slice HO0_1.out
 subst eo8
 obtain ⟨Ao9,co9,eo9⟩:=Kd.R_slice HO0_2.out
 subst eo9
 go_enter Try.func70,Try.ntmps70
 go_upto_region 1 with (first|((with_reducible refine gate_dst (N:=5) rfl ?_);(try (refine gate_guard (by rfl) ?_;dsimp only));refine box_event ?hg (N:=5) ?hd (cs:=#[.slice Ao7 l0_0.length co7,.slice Ao8 l0_1.length co8,.slice Ao9 l0_2.length co9]) (t:=28) ?hr ?_;(case hd => rfl);(case hg => rfl);(case hr => first|(go_simp;done)|(go_simp;rfl));intro gb173 hg w10 hbox hb;have n0_:=Aside0.mk (Kd.R_below (by exact HO0_0.out) hb);have n1_:=Aside0.mk (Kd.R_below (by exact HO0_1.out) hb);have n2_:=Aside0.mk (Kd.R_below (by exact HO0_2.out) hb);have n3_:=Aside0.mk (Kept.below (S:=(fun k_ => P0_0_ k_ ∨ P0_1_ k_ ∨ P0_2_ k_)) (by exact HK.out) hb);have n4_:=Aside0.mk (below_step (by exact HB.out) hb);have n5_:=Aside0.mk (hbox);have n6_:=Aside0.mk ((by rw [hg];exact (by first|exact HK.out.1|exact (show Kept w _ (fun k_ => P0_0_ k_ ∨ P0_1_ k_ ∨ P0_2_ k_) from by exact HK.out).1) : w.heap.size ≤ gb173));have n7_:=Aside0.mk ((by rw [hg];exact (below_size (by exact HB.out)) : w0.heap.size ≤ gb173));clear HO0_0;clear HO0_1;clear HO0_2;clear HK;clear HB;have HO0_0:=n0_;have HO0_1:=n1_;have HO0_2:=n2_;have HK:=n3_;have HB:=n4_;have BK173:=n5_;have GW173:=n6_;have GE173:=n7_;clear n0_ n1_ n2_ n3_ n4_ n5_ n6_ n7_;clear hb hbox hg)|((with_reducible refine gate_dst (N:=10) rfl ?_);(try (refine gate_guard (by rfl) ?_;dsimp only));refine box_event ?hg (N:=10) ?hd (cs:=#[.slice none 0 0,.slice none 0 0,.slice none 0 0]) (t:=28) ?hr ?_;(case hd => rfl);(case hg => rfl);(case hr => first|(go_simp;done)|(go_simp;rfl));intro gb174 hg w11 hbox hb;have n0_:=Aside0.mk (Kd.R_below (by exact HO0_0.out) hb);have n1_:=Aside0.mk (Kd.R_below (by exact HO0_1.out) hb);have n2_:=Aside0.mk (Kd.R_below (by exact HO0_2.out) hb);have n3_:=Aside0.mk (blk_below BK173.out hb);have n4_:=Aside0.mk (Kept.below (S:=(fun k_ => P0_0_ k_ ∨ P0_1_ k_ ∨ P0_2_ k_)) (by exact HK.out) hb);have n5_:=Aside0.mk (below_step (by exact HB.out) hb);have n6_:=Aside0.mk (hbox);have n7_:=Aside0.mk ((by rw [hg];exact (by first|exact HK.out.1|exact (show Kept w _ (fun k_ => P0_0_ k_ ∨ P0_1_ k_ ∨ P0_2_ k_) from by exact HK.out).1) : w.heap.size ≤ gb174));have n8_:=Aside0.mk ((by rw [hg];exact (below_size (by exact HB.out)) : w0.heap.size ≤ gb174));have n9_:=Aside0.mk ((by rw [hg];exact Nat.ne_of_lt (blk_lt BK173.out) : gb173 ≠ gb174));have n10_:=Aside0.mk ((by rw [hg];exact Nat.ne_of_gt (blk_lt BK173.out) : gb174 ≠ gb173));clear HO0_0;clear HO0_1;clear HO0_2;clear BK173;clear HK;clear HB;have HO0_0:=n0_;have HO0_1:=n1_;have HO0_2:=n2_;have BK173:=n3_;have HK:=n4_;have HB:=n5_;have BK174:=n6_;have GW174:=n7_;have GE174:=n8_;have NB173_174:=n9_;have NB174_173:=n10_;clear n0_ n1_ n2_ n3_ n4_ n5_ n6_ n7_ n8_ n9_ n10_;clear hb hbox hg))
 (try simp only [Act.put,List.setIfInBounds_toArray,List.set_cons_zero,List.set_cons_succ])
 go_cut [12] (fun v12 wc => ∃ (kq : Nat) (x12_5 : Bool),v12 = .bool x12_5 ∧ Aside0 (spec_l3Put.j0 kq a1 a2 a3 a4 x12_5 l0_0 l0_1 l0_2 = some (r1,r2,r3,r4)) ∧ Aside0 (kq ≤ k) ∧ Aside0 (Kd.R Kd.string 9 wc w0.heap.size (fun k_ => ((P0_0_ k_ ∨ P0_1_ k_ ∨ P0_2_ k_) ∨ w.heap.size ≤ k_)) (.slice Ao7 l0_0.length co7) l0_0) ∧ Aside0 (Kd.R (Kd.int .i64) 3 wc w0.heap.size (fun k_ => ((P0_0_ k_ ∨ P0_1_ k_ ∨ P0_2_ k_) ∨ w.heap.size ≤ k_)) (.slice Ao8 l0_1.length co8) l0_1) ∧ Aside0 (Kd.R k36 36 wc w0.heap.size (fun k_ => ((P0_0_ k_ ∨ P0_1_ k_ ∨ P0_2_ k_) ∨ w.heap.size ≤ k_)) (.slice Ao9 l0_2.length co9) l0_2) ∧ Aside0 (wc.heap[gb173]? = some (.cells #[(.slice Ao7 l0_0.length co7),(.slice Ao8 l0_1.length co8),(.slice Ao9 l0_2.length co9)] 28 (0,0))) ∧ Aside0 (wc.heap[gb174]? = some (.cells #[(.slice none 0 0),(.slice none 0 0),(.slice none 0 0)] 28 (0,0))) ∧ Aside0 (Kept w wc (fun k_ => P0_0_ k_ ∨ P0_1_ k_ ∨ P0_2_ k_)) ∧ Aside0 (Below w0.heap.size w0 wc))
 case first =>
  have H:=HC6.out
  clear HC6
  replace H:=Option.bind_eq_some_iff.mp H
  obtain ⟨t175,A120,H⟩:=H
  replace H : (if t175 = true then (spec_l3Put.j0 k a1 a2 a3 a4 (decide ((a4.size : Int) > 700)) l0_0 l0_1 l0_2) else (spec_l3Put.j0 k a1 a2 a3 a4 true l0_0 l0_1 l0_2)) = some (r1,r2,r3,r4):=H
  have A12:=Aside0.mk A120
  clear A120
  by_cases c13 : t175 = true
  ·
   subst c13
   have H1 : (spec_l3Put.j0 k a1 a2 a3 a4 (decide ((a4.size : Int) > 700)) l0_0 l0_1 l0_2) = some (r1,r2,r3,r4):=by rw [if_pos rfl] at H;exact H
   clear H
   have H:=H1
   clear H1
   have H':=Aside0.mk H
   clear H
   have hnb14:=NB173_174.out
   have hnc14:=NB174_173.out
   have hcz15_0 : w11.cell? ⟨gb173,0,none⟩ = some (.slice Ao7 l0_0.length co7):=(blk_cell BK173.out 0).trans rfl
   have hcz15_1 : w11.cell? ⟨gb173,1,none⟩ = some (.slice Ao8 l0_1.length co8):=(blk_cell BK173.out 1).trans rfl
   have hcz15_2 : w11.cell? ⟨gb173,2,none⟩ = some (.slice Ao9 l0_2.length co9):=(blk_cell BK173.out 2).trans rfl
   have hfz15_0:=blk_frozen BK173.out 0
   have hfz15_1:=blk_frozen BK173.out 1
   have hfz15_2:=blk_frozen BK173.out 2
   go_wp2_with (first|((with_reducible refine gate_callee (f:=93) rfl ?_);refine goesL_ (some 16) rfl rfl Try.func93 (by kernel_rfl) rfl #[.agg #[.slice Ao7 l0_0.length co7,.slice Ao8 l0_1.length co8,.slice Ao9 l0_2.length co9],.int .i64 a1,.int .i64 a3] rfl (by (try simp only [List.map_toArray,List.map_cons,List.map_nil]);first|done|rfl|(simp only [List.length_drop,List.length_take];rfl)) ?_;(with_reducible refine (spec_l3There.calls _ _ l0_0 _ _ l0_1 _ _ l0_2 a1 a3 true _ ?side1 ?side2 ?side3 ?side4 ?side5 ?side6 A12.out).mono ?_);(case side1 => repeat (first|exact (Kd.R_reads' HO0_0.out).2.2|(with_reducible refine Kd.C_alloc ?_ _)|(with_reducible refine Kd.C_drewN ?_ _)|(with_reducible refine Kd.C_drew ?_)));(case side2 => exact (Kd.R_reads' HO0_0.out).2.1);(case side3 => repeat (first|exact (Kd.R_reads' HO0_1.out).2.2|(with_reducible refine Kd.C_alloc ?_ _)|(with_reducible refine Kd.C_drewN ?_ _)|(with_reducible refine Kd.C_drew ?_)));(case side4 => exact (Kd.R_reads' HO0_1.out).2.1);(case side5 => repeat (first|exact (Kd.R_reads' HO0_2.out).2.2|(with_reducible refine Kd.C_alloc ?_ _)|(with_reducible refine Kd.C_drewN ?_ _)|(with_reducible refine Kd.C_drew ?_)));(case side6 => exact (Kd.R_reads' HO0_2.out).2.1);rintro e w16 ⟨rfl,hb⟩;refine ⟨_,rfl,?_⟩;have n0_:=Aside0.mk (Kd.R_below (by exact HO0_0.out) hb);have n1_:=Aside0.mk (Kd.R_below (by exact HO0_1.out) hb);have n2_:=Aside0.mk (Kd.R_below (by exact HO0_2.out) hb);have n3_:=Aside0.mk (blk_below BK173.out hb);have n4_:=Aside0.mk (blk_below BK174.out hb);have n5_:=Aside0.mk (Kept.below (S:=(fun k_ => P0_0_ k_ ∨ P0_1_ k_ ∨ P0_2_ k_)) (by exact HK.out) hb);have n6_:=Aside0.mk (below_step (by exact HB.out) hb);clear HO0_0;clear HO0_1;clear HO0_2;clear BK173;clear BK174;clear HK;clear HB;have HO0_0:=n0_;have HO0_1:=n1_;have HO0_2:=n2_;have BK173:=n3_;have BK174:=n4_;have HK:=n5_;have HB:=n6_;clear n0_ n1_ n2_ n3_ n4_ n5_ n6_;(try clear hb);(try clear hb2);(try clear hk);(try clear hi)))
   go_meet
   case rel => exact ⟨_,(decide ((a4.size : Int) > 700)),(by first|rfl|(simp;done)|(simp [*];done)),H',⟨by first|omega|exact Nat.le_refl _⟩,⟨by (with_reducible repeat (first|apply Kd.R_alloc|apply Kd.R_drewN|apply Kd.R_drew));exact HO0_0.out⟩,⟨by (with_reducible repeat (first|apply Kd.R_alloc|apply Kd.R_drewN|apply Kd.R_drew));exact HO0_1.out⟩,⟨by (with_reducible repeat (first|apply Kd.R_alloc|apply Kd.R_drewN|apply Kd.R_drew));exact HO0_2.out⟩,⟨by (with_reducible repeat (first|refine blk_drewN ?_ _|refine blk_drew ?_|refine blk_alloc ?_ _));exact BK173.out⟩,⟨by (with_reducible repeat (first|refine blk_drewN ?_ _|refine blk_drew ?_|refine blk_alloc ?_ _));exact BK174.out⟩,⟨by repeat (first|(with_reducible first|exact HK.out|apply Kept.alloc|apply Kept.drewN|apply Kept.drew|refine Kept.setCell ?_ (.inr GW173.out) _|refine Kept.setCell ?_ (.inr GW174.out) _)|exact HK.out)⟩,⟨by repeat (first|(with_reducible first|exact HB.out|apply below_alloc|apply pw_below_drewN|apply below_drew1|refine below_set ?_ GE173.out|refine below_set ?_ GE174.out)|exact HB.out)⟩⟩
  ·
   replace c13:=Bool.eq_false_iff.mpr c13
   subst c13
   have H1 : (spec_l3Put.j0 k a1 a2 a3 a4 true l0_0 l0_1 l0_2) = some (r1,r2,r3,r4):=by rw [if_neg (show ¬ (false = true) by decide)] at H;exact H
   clear H
   have H:=H1
   clear H1
   have H':=Aside0.mk H
   clear H
   have hnb17:=NB173_174.out
   have hnc17:=NB174_173.out
   have hcz18_0 : w11.cell? ⟨gb173,0,none⟩ = some (.slice Ao7 l0_0.length co7):=(blk_cell BK173.out 0).trans rfl
   have hcz18_1 : w11.cell? ⟨gb173,1,none⟩ = some (.slice Ao8 l0_1.length co8):=(blk_cell BK173.out 1).trans rfl
   have hcz18_2 : w11.cell? ⟨gb173,2,none⟩ = some (.slice Ao9 l0_2.length co9):=(blk_cell BK173.out 2).trans rfl
   have hfz18_0:=blk_frozen BK173.out 0
   have hfz18_1:=blk_frozen BK173.out 1
   have hfz18_2:=blk_frozen BK173.out 2
   go_wp2_with (first|((with_reducible refine gate_callee (f:=93) rfl ?_);refine goesL_ (some 16) rfl rfl Try.func93 (by kernel_rfl) rfl #[.agg #[.slice Ao7 l0_0.length co7,.slice Ao8 l0_1.length co8,.slice Ao9 l0_2.length co9],.int .i64 a1,.int .i64 a3] rfl (by (try simp only [List.map_toArray,List.map_cons,List.map_nil]);first|done|rfl|(simp only [List.length_drop,List.length_take];rfl)) ?_;(with_reducible refine (spec_l3There.calls _ _ l0_0 _ _ l0_1 _ _ l0_2 a1 a3 false _ ?side1 ?side2 ?side3 ?side4 ?side5 ?side6 A12.out).mono ?_);(case side1 => repeat (first|exact (Kd.R_reads' HO0_0.out).2.2|(with_reducible refine Kd.C_alloc ?_ _)|(with_reducible refine Kd.C_drewN ?_ _)|(with_reducible refine Kd.C_drew ?_)));(case side2 => exact (Kd.R_reads' HO0_0.out).2.1);(case side3 => repeat (first|exact (Kd.R_reads' HO0_1.out).2.2|(with_reducible refine Kd.C_alloc ?_ _)|(with_reducible refine Kd.C_drewN ?_ _)|(with_reducible refine Kd.C_drew ?_)));(case side4 => exact (Kd.R_reads' HO0_1.out).2.1);(case side5 => repeat (first|exact (Kd.R_reads' HO0_2.out).2.2|(with_reducible refine Kd.C_alloc ?_ _)|(with_reducible refine Kd.C_drewN ?_ _)|(with_reducible refine Kd.C_drew ?_)));(case side6 => exact (Kd.R_reads' HO0_2.out).2.1);rintro e w19 ⟨rfl,hb⟩;refine ⟨_,rfl,?_⟩;have n0_:=Aside0.mk (Kd.R_below (by exact HO0_0.out) hb);have n1_:=Aside0.mk (Kd.R_below (by exact HO0_1.out) hb);have n2_:=Aside0.mk (Kd.R_below (by exact HO0_2.out) hb);have n3_:=Aside0.mk (blk_below BK173.out hb);have n4_:=Aside0.mk (blk_below BK174.out hb);have n5_:=Aside0.mk (Kept.below (S:=(fun k_ => P0_0_ k_ ∨ P0_1_ k_ ∨ P0_2_ k_)) (by exact HK.out) hb);have n6_:=Aside0.mk (below_step (by exact HB.out) hb);clear HO0_0;clear HO0_1;clear HO0_2;clear BK173;clear BK174;clear HK;clear HB;have HO0_0:=n0_;have HO0_1:=n1_;have HO0_2:=n2_;have BK173:=n3_;have BK174:=n4_;have HK:=n5_;have HB:=n6_;clear n0_ n1_ n2_ n3_ n4_ n5_ n6_;(try clear hb);(try clear hb2);(try clear hk);(try clear hi)))
   go_meet
   case rel => exact ⟨_,(true),(by first|rfl|(simp;done)|(simp [*];done)),H',⟨by first|omega|exact Nat.le_refl _⟩,⟨by (with_reducible repeat (first|apply Kd.R_alloc|apply Kd.R_drewN|apply Kd.R_drew));exact HO0_0.out⟩,⟨by (with_reducible repeat (first|apply Kd.R_alloc|apply Kd.R_drewN|apply Kd.R_drew));exact HO0_1.out⟩,⟨by (with_reducible repeat (first|apply Kd.R_alloc|apply Kd.R_drewN|apply Kd.R_drew));exact HO0_2.out⟩,⟨by (with_reducible repeat (first|refine blk_drewN ?_ _|refine blk_drew ?_|refine blk_alloc ?_ _));exact BK173.out⟩,⟨by (with_reducible repeat (first|refine blk_drewN ?_ _|refine blk_drew ?_|refine blk_alloc ?_ _));exact BK174.out⟩,⟨by repeat (first|(with_reducible first|exact HK.out|apply Kept.alloc|apply Kept.drewN|apply Kept.drew|refine Kept.setCell ?_ (.inr GW173.out) _|refine Kept.setCell ?_ (.inr GW174.out) _)|exact HK.out)⟩,⟨by repeat (first|(with_reducible first|exact HB.out|apply below_alloc|apply pw_below_drewN|apply below_drew1|refine below_set ?_ GE173.out|refine below_set ?_ GE174.out)|exact HB.out)⟩⟩
 case rest =>
  clear HC6
  try clear c1
  try clear p2
  try clear c7
  try clear c9
  try clear c13
  try clear c14
  try clear c17
  try clear hcz15_0
  try clear hcz15_1
  try clear hcz15_2
  try clear hcz18_0
  try clear hcz18_1
  try clear hcz18_2
  try clear hfz15_0
  try clear hfz15_1
  try clear hfz15_2
  try clear hfz18_0
  try clear hfz18_1
  try clear hfz18_2
  obtain ⟨kq,x12_5,rfl,HA,HJ5,HO_174000,HO_174001,HO_174002,BK173,BK174,HK,HB⟩:=hcut
  cases kq with
  | zero => exact absurd HA.out (by simp [spec_l3Put.j0])
  | succ kj5 =>
   have H:=HA.out
   clear HA
   simp only [spec_l3Put.j0] at H
   by_cases c20 : x12_5 = true
   ·
    subst c20
    have H1 : (some (l0_0,l0_1,l0_2,1)) = some (r1,r2,r3,r4):=by rw [if_pos rfl] at H;exact H
    clear H
    have H:=H1
    clear H1
    simp only [Option.some.injEq,Prod.mk.injEq] at H
    obtain ⟨rfl,rfl,rfl,rfl⟩:=H
    have hnb21:=NB173_174.out
    have hnc21:=NB174_173.out
    have hcz22_0 : wc.cell? ⟨gb173,0,none⟩ = some (.slice Ao7 l0_0.length co7):=(blk_cell BK173.out 0).trans rfl
    have hcz22_1 : wc.cell? ⟨gb173,1,none⟩ = some (.slice Ao8 l0_1.length co8):=(blk_cell BK173.out 1).trans rfl
    have hcz22_2 : wc.cell? ⟨gb173,2,none⟩ = some (.slice Ao9 l0_2.length co9):=(blk_cell BK173.out 2).trans rfl
    have hfz22_0:=blk_frozen BK173.out 0
    have hfz22_1:=blk_frozen BK173.out 1
    have hfz22_2:=blk_frozen BK173.out 2
    have hcz23_0 : wc.cell? ⟨gb174,0,none⟩ = some (.slice none 0 0):=(blk_cell BK174.out 0).trans rfl
    have hcz23_1 : wc.cell? ⟨gb174,1,none⟩ = some (.slice none 0 0):=(blk_cell BK174.out 1).trans rfl
    have hcz23_2 : wc.cell? ⟨gb174,2,none⟩ = some (.slice none 0 0):=(blk_cell BK174.out 2).trans rfl
    have hfz23_0:=blk_frozen BK174.out 0
    have hfz23_1:=blk_frozen BK174.out 1
    have hfz23_2:=blk_frozen BK174.out 2
    go_wp2
    refine bodyPost_ret (results_ct rfl _ _ gb174 28 #[.slice Ao7 l0_0.length co7,.slice Ao8 l0_1.length co8,.slice Ao9 l0_2.length co9] (0,0) _ rfl (by (with_reducible repeat (first|refine blk_drewN ?_ _|refine blk_drew ?_|refine blk_alloc ?_ _));refine blk_put (cs:=#[.slice Ao7 l0_0.length co7,.slice Ao8 l0_1.length co8,.slice none 0 0]) ?_ 2 _ rfl;(with_reducible repeat (first|refine blk_drewN ?_ _|refine blk_drew ?_|refine blk_alloc ?_ _));refine blk_put (cs:=#[.slice Ao7 l0_0.length co7,.slice none 0 0,.slice none 0 0]) ?_ 1 _ rfl;(with_reducible repeat (first|refine blk_drewN ?_ _|refine blk_drew ?_|refine blk_alloc ?_ _));refine blk_put (cs:=#[.slice none 0 0,.slice none 0 0,.slice none 0 0]) ?_ 0 _ rfl;(with_reducible repeat (first|refine blk_drewN ?_ _|refine blk_drew ?_|refine blk_alloc ?_ _));exact BK174.out) Try.underlying28 rfl (by kernel_rfl)) rfl ?_
    exact ⟨_,_,_,by first|rfl|(simp [errW_none,errW_some] <;> rfl)|(simp [*,errW_none,errW_some] <;> rfl),by (with_reducible repeat (first|apply Kd.R_alloc|apply Kd.R_drewN|apply Kd.R_drew));exact Kd.R_mono (Kd.R_far (p:=⟨gb174,2,none⟩) (Kd.R_far (p:=⟨gb174,1,none⟩) (Kd.R_far (p:=⟨gb174,0,none⟩) (Kd.R_types HO_174000.out BK174.out (by decide)) (fun _ hk => hk.2) (.slice Ao7 l0_0.length co7)) (fun _ hk => hk.2) (.slice Ao8 l0_1.length co8)) (fun _ hk => hk.2) (.slice Ao9 l0_2.length co9)) (fun _ hk => hk.1),by (with_reducible repeat (first|apply Kd.R_alloc|apply Kd.R_drewN|apply Kd.R_drew));exact Kd.R_mono (Kd.R_far (p:=⟨gb174,2,none⟩) (Kd.R_far (p:=⟨gb174,1,none⟩) (Kd.R_far (p:=⟨gb174,0,none⟩) (Kd.R_types HO_174001.out BK174.out (by decide)) (fun _ hk => hk.2) (.slice Ao7 l0_0.length co7)) (fun _ hk => hk.2) (.slice Ao8 l0_1.length co8)) (fun _ hk => hk.2) (.slice Ao9 l0_2.length co9)) (fun _ hk => hk.1),by (with_reducible repeat (first|apply Kd.R_alloc|apply Kd.R_drewN|apply Kd.R_drew));exact Kd.R_mono (Kd.R_far (p:=⟨gb174,2,none⟩) (Kd.R_far (p:=⟨gb174,1,none⟩) (Kd.R_far (p:=⟨gb174,0,none⟩) (Kd.R_types HO_174002.out BK174.out (by decide)) (fun _ hk => hk.2) (.slice Ao7 l0_0.length co7)) (fun _ hk => hk.2) (.slice Ao8 l0_1.length co8)) (fun _ hk => hk.2) (.slice Ao9 l0_2.length co9)) (fun _ hk => hk.1),by repeat (first|(with_reducible first|exact HB.out|apply below_alloc|apply pw_below_drewN|apply below_drew1|refine below_set ?_ GE173.out|refine below_set ?_ GE174.out)|exact HB.out),by repeat (first|(with_reducible first|exact HK.out|apply Kept.alloc|apply Kept.drewN|apply Kept.drew|refine Kept.setCell ?_ (.inr GW173.out) _|refine Kept.setCell ?_ (.inr GW174.out) _)|exact HK.out)⟩
   ·
    replace c20:=Bool.eq_false_iff.mpr c20
    subst c20
    have H1 : (if 0 ≤ a1 then (if a1 < (l0_1.length : Int) then (if (rd l0_1 a1) = a2 then (if (l0_2.length : Int) ≥ 40 then (some (l0_0,l0_1,l0_2,3)) else (if l0_2.length < 3518437208883 then (some (l0_0,l0_1,(l0_2 ++ [(⟨a1,a2,a3,a4⟩ : S36)]),0)) else (none))) else (some (l0_0,l0_1,l0_2,2))) else (none)) else (none)) = some (r1,r2,r3,r4):=by rw [if_neg (show ¬ (false = true) by decide)] at H;exact H
    clear H
    have H:=H1
    clear H1
    by_cases c24 : 0 ≤ a1
    ·
     rw [if_pos c24] at H
     have c24b0 : decide (0 ≤ a1) = true:=decide_eq_true c24
     clear c24
     by_cases c25 : a1 < (l0_1.length : Int)
     ·
      rw [if_pos c25] at H
      have c25b0 : decide (a1 < (l0_1.length : Int)) = true:=decide_eq_true c25
      clear c25
      by_cases c26 : (rd l0_1 a1) = a2
      ·
       rw [if_pos c26] at H
       have c26b0 : ((rd l0_1 a1) == a2) = true:=beq_iff_eq.mpr c26
       have c26b1 : ((rd l0_1 a1) != a2) = false:=bne_eq_false_iff_eq.mpr c26
       clear c26
       by_cases c27 : (l0_2.length : Int) ≥ 40
       ·
        rw [if_pos c27] at H
        have c27b0 : decide (40 ≤ (l0_2.length : Int)) = true:=decide_eq_true c27
        have c27b1 : decide (40 ≤ l0_2.length) = true:=decide_eq_true (by omega)
        clear c27
        simp only [Option.some.injEq,Prod.mk.injEq] at H
        obtain ⟨rfl,rfl,rfl,rfl⟩:=H
        have hnb28:=NB173_174.out
        have hnc28:=NB174_173.out
        have hcz29_0 : wc.cell? ⟨gb173,0,none⟩ = some (.slice Ao7 l0_0.length co7):=(blk_cell BK173.out 0).trans rfl
        have hcz29_1 : wc.cell? ⟨gb173,1,none⟩ = some (.slice Ao8 l0_1.length co8):=(blk_cell BK173.out 1).trans rfl
        have hcz29_2 : wc.cell? ⟨gb173,2,none⟩ = some (.slice Ao9 l0_2.length co9):=(blk_cell BK173.out 2).trans rfl
        have hfz29_0:=blk_frozen BK173.out 0
        have hfz29_1:=blk_frozen BK173.out 1
        have hfz29_2:=blk_frozen BK173.out 2
        have p176 : 0 ≤ (a1 : Int):=of_decide_eq_true (by first|(with_reducible assumption)|assumption)
        have q176 : a1 < (l0_1.length : Int):=of_decide_eq_true (by first|(with_reducible assumption)|assumption)
        obtain ⟨ad176,e176,hx176_0⟩:=Kd.at_int (Kd.R_reads' HO_174001.out).2.2 a1 p176 q176
        cases e176
        replace p176:=eq_true p176
        replace q176:=eq_true q176
        have hcz30_0 : wc.cell? ⟨gb174,0,none⟩ = some (.slice none 0 0):=(blk_cell BK174.out 0).trans rfl
        have hcz30_1 : wc.cell? ⟨gb174,1,none⟩ = some (.slice none 0 0):=(blk_cell BK174.out 1).trans rfl
        have hcz30_2 : wc.cell? ⟨gb174,2,none⟩ = some (.slice none 0 0):=(blk_cell BK174.out 2).trans rfl
        have hfz30_0:=blk_frozen BK174.out 0
        have hfz30_1:=blk_frozen BK174.out 1
        have hfz30_2:=blk_frozen BK174.out 2
        go_wp2
        refine bodyPost_ret (results_ct rfl _ _ gb174 28 #[.slice Ao7 l0_0.length co7,.slice (some ad176) l0_1.length co8,.slice Ao9 l0_2.length co9] (0,0) _ rfl (by (with_reducible repeat (first|refine blk_drewN ?_ _|refine blk_drew ?_|refine blk_alloc ?_ _));refine blk_put (cs:=#[.slice Ao7 l0_0.length co7,.slice (some ad176) l0_1.length co8,.slice none 0 0]) ?_ 2 _ rfl;(with_reducible repeat (first|refine blk_drewN ?_ _|refine blk_drew ?_|refine blk_alloc ?_ _));refine blk_put (cs:=#[.slice Ao7 l0_0.length co7,.slice none 0 0,.slice none 0 0]) ?_ 1 _ rfl;(with_reducible repeat (first|refine blk_drewN ?_ _|refine blk_drew ?_|refine blk_alloc ?_ _));refine blk_put (cs:=#[.slice none 0 0,.slice none 0 0,.slice none 0 0]) ?_ 0 _ rfl;(with_reducible repeat (first|refine blk_drewN ?_ _|refine blk_drew ?_|refine blk_alloc ?_ _));exact BK174.out) Try.underlying28 rfl (by kernel_rfl)) rfl ?_
        exact ⟨_,_,_,by first|rfl|(simp [errW_none,errW_some] <;> rfl)|(simp [*,errW_none,errW_some] <;> rfl),by (with_reducible repeat (first|apply Kd.R_alloc|apply Kd.R_drewN|apply Kd.R_drew));exact Kd.R_mono (Kd.R_far (p:=⟨gb174,2,none⟩) (Kd.R_far (p:=⟨gb174,1,none⟩) (Kd.R_far (p:=⟨gb174,0,none⟩) (Kd.R_types HO_174000.out BK174.out (by decide)) (fun _ hk => hk.2) (.slice Ao7 l0_0.length co7)) (fun _ hk => hk.2) (.slice (some ad176) l0_1.length co8)) (fun _ hk => hk.2) (.slice Ao9 l0_2.length co9)) (fun _ hk => hk.1),by (with_reducible repeat (first|apply Kd.R_alloc|apply Kd.R_drewN|apply Kd.R_drew));exact Kd.R_mono (Kd.R_far (p:=⟨gb174,2,none⟩) (Kd.R_far (p:=⟨gb174,1,none⟩) (Kd.R_far (p:=⟨gb174,0,none⟩) (Kd.R_types HO_174001.out BK174.out (by decide)) (fun _ hk => hk.2) (.slice Ao7 l0_0.length co7)) (fun _ hk => hk.2) (.slice (some ad176) l0_1.length co8)) (fun _ hk => hk.2) (.slice Ao9 l0_2.length co9)) (fun _ hk => hk.1),by (with_reducible repeat (first|apply Kd.R_alloc|apply Kd.R_drewN|apply Kd.R_drew));exact Kd.R_mono (Kd.R_far (p:=⟨gb174,2,none⟩) (Kd.R_far (p:=⟨gb174,1,none⟩) (Kd.R_far (p:=⟨gb174,0,none⟩) (Kd.R_types HO_174002.out BK174.out (by decide)) (fun _ hk => hk.2) (.slice Ao7 l0_0.length co7)) (fun _ hk => hk.2) (.slice (some ad176) l0_1.length co8)) (fun _ hk => hk.2) (.slice Ao9 l0_2.length co9)) (fun _ hk => hk.1),by repeat (first|(with_reducible first|exact HB.out|apply below_alloc|apply pw_below_drewN|apply below_drew1|refine below_set ?_ GE173.out|refine below_set ?_ GE174.out)|exact HB.out),by repeat (first|(with_reducible first|exact HK.out|apply Kept.alloc|apply Kept.drewN|apply Kept.drew|refine Kept.setCell ?_ (.inr GW173.out) _|refine Kept.setCell ?_ (.inr GW174.out) _)|exact HK.out)⟩
       ·
        rw [if_neg c27] at H
        have c27b0 : decide (40 ≤ (l0_2.length : Int)) = false:=decide_eq_false c27
        have c27b1 : decide (40 ≤ l0_2.length) = false:=decide_eq_false (by omega)
        clear c27
        by_cases c31 : l0_2.length < 3518437208883
        ·
         rw [if_pos c31] at H
         have LMc31:=Aside0.mk c31
         clear c31
         obtain ⟨y177,hy177⟩ : ∃ y_ : List (S36),y_ = (l0_2 ++ [(⟨a1,a2,a3,a4⟩ : S36)]):=⟨_,rfl⟩
         replace H : (some (l0_0,l0_1,y177,0)) = some (r1,r2,r3,r4):=by first|(rw [hy177];with_reducible exact H)|(have H2_:=(Option.bind_some _ _).symm.trans H;rw [hy177];with_reducible exact H2_)|(have H2_:=(Option.bind_some _ _).symm.trans H;with_reducible exact H2_)|with_reducible exact H|(rw [hy177];exact H)|exact H
         have Ny177:=Aside0.mk hy177
         clear hy177
         simp only [Option.some.injEq,Prod.mk.injEq] at H
         obtain ⟨rfl,rfl,rfl,rfl⟩:=H
         have hnb32:=NB173_174.out
         have hnc32:=NB174_173.out
         have hcz33_0 : wc.cell? ⟨gb173,0,none⟩ = some (.slice Ao7 l0_0.length co7):=(blk_cell BK173.out 0).trans rfl
         have hcz33_1 : wc.cell? ⟨gb173,1,none⟩ = some (.slice Ao8 l0_1.length co8):=(blk_cell BK173.out 1).trans rfl
         have hcz33_2 : wc.cell? ⟨gb173,2,none⟩ = some (.slice Ao9 l0_2.length co9):=(blk_cell BK173.out 2).trans rfl
         have hfz33_0:=blk_frozen BK173.out 0
         have hfz33_1:=blk_frozen BK173.out 1
         have hfz33_2:=blk_frozen BK173.out 2
         have p176 : 0 ≤ (a1 : Int):=of_decide_eq_true (by first|(with_reducible assumption)|assumption)
         have q176 : a1 < (l0_1.length : Int):=of_decide_eq_true (by first|(with_reducible assumption)|assumption)
         obtain ⟨ad176,e176,hx176_0⟩:=Kd.at_int (Kd.R_reads' HO_174001.out).2.2 a1 p176 q176
         cases e176
         replace p176:=eq_true p176
         replace q176:=eq_true q176
         go_wp2_with (first|((with_reducible refine gate_builtin (b:=.append) (xs:=#[.tmp 40,.tmp 46]) rfl ?_);(try (refine gate_guard (by rfl) ?_;dsimp only));at_builtin;refine Kd.R_append k36 (w0:=w0) w0.heap.size rfl (.tmp 40) (.tmp 46) 26 36 (.agg #[(.int .i64 0),(.int .i64 0),(.int .i64 0),(.string ⟨#[]⟩)]) 40 rfl Try.underlying26 info36 rfl (by decide) (by omega) (.slice Ao9 l0_2.length co9) l0_2 (⟨a1,a2,a3,a4⟩ : S36) [.int .i64 a1,.int .i64 a2,.int .i64 a3,.string a4] (fun k_ => ((P0_0_ k_ ∨ P0_1_ k_ ∨ P0_2_ k_) ∨ w.heap.size ≤ k_)) (fun _ => False) rfl rfl ?aP (fun _ hk => hk.elim) ?aF ?aO ?aB ?aS ?aL ?_;(case aP => exact k36_mkM _ _ _ (⟨a1,a2,a3,a4⟩ : S36));(case aB => exact (by repeat (first|(with_reducible first|exact HB.out|apply below_alloc|apply pw_below_drewN|apply below_drew1|refine below_set ?_ GE173.out|refine below_set ?_ GE174.out)|exact HB.out)));(case aF => exact (fun k_ hk => (.inr (Nat.le_trans (by first|exact HK.out.1|exact (show Kept w _ (fun k_ => P0_0_ k_ ∨ P0_1_ k_ ∨ P0_2_ k_) from by repeat (first|(with_reducible first|exact HK.out|apply Kept.alloc|apply Kept.drewN|apply Kept.drew|refine Kept.setCell ?_ (.inr GW173.out) _|refine Kept.setCell ?_ (.inr GW174.out) _)|exact HK.out)).1) hk))));(case aO => exact (by (with_reducible repeat (first|apply Kd.R_alloc|apply Kd.R_drewN|apply Kd.R_drew));exact HO_174002.out));(case aS => exact (below_size (by repeat (first|(with_reducible first|exact HB.out|apply below_alloc|apply pw_below_drewN|apply below_drew1|refine below_set ?_ GE173.out|refine below_set ?_ GE174.out)|exact HB.out))));(case aL => have:=LMc31.out;omega);intro v178 w34 ho hb hg hat;rw [← Ny177.out] at ho;have n0_:=Aside0.mk (Kd.R_over' (by (with_reducible repeat (first|apply Kd.R_alloc|apply Kd.R_drewN|apply Kd.R_drew));exact HO_174000.out) (Kd.R_typed (by (with_reducible repeat (first|apply Kd.R_alloc|apply Kd.R_drewN|apply Kd.R_drew));exact HO_174002.out)) (by decide) hg);have n1_:=Aside0.mk (Kd.R_over' (by (with_reducible repeat (first|apply Kd.R_alloc|apply Kd.R_drewN|apply Kd.R_drew));exact HO_174001.out) (Kd.R_typed (by (with_reducible repeat (first|apply Kd.R_alloc|apply Kd.R_drewN|apply Kd.R_drew));exact HO_174002.out)) (by decide) hg);have n2_:=Aside0.mk (blk_grown (g:=gb173) (o:=.cells #[.slice Ao7 l0_0.length co7,.slice (some ad176) l0_1.length co8,.slice Ao9 l0_2.length co9] 28 (0,0)) (by (with_reducible repeat (first|refine blk_drewN ?_ _|refine blk_drew ?_|refine blk_alloc ?_ _));exact BK173.out) hg (Kd.R_ne HO_174002.out BK173.out (by decide)));have n3_:=Aside0.mk (blk_grown (g:=gb174) (o:=.cells #[.slice none 0 0,.slice none 0 0,.slice none 0 0] 28 (0,0)) (by (with_reducible repeat (first|refine blk_drewN ?_ _|refine blk_drew ?_|refine blk_alloc ?_ _));exact BK174.out) hg (Kd.R_ne HO_174002.out BK174.out (by decide)));have n4_:=Aside0.mk (hb);have n5_:=Aside0.mk (Kept.of_grown (S:=(fun k_ => P0_0_ k_ ∨ P0_1_ k_ ∨ P0_2_ k_)) hg (by repeat (first|(with_reducible first|exact HK.out|apply Kept.alloc|apply Kept.drewN|apply Kept.drew|refine Kept.setCell ?_ (.inr GW173.out) _|refine Kept.setCell ?_ (.inr GW174.out) _)|exact HK.out)) (fun k_ e_ => (HO_174002.out.1 k_ e_)));have n6_:=Aside0.mk (ho);clear HO_174000;clear HO_174001;clear BK173;clear BK174;clear HB;clear HK;clear HO_174002;have HO_174000:=n0_;have HO_174001:=n1_;have BK173:=n2_;have BK174:=n3_;have HB:=n4_;have HK:=n5_;have HO179:=n6_;clear n0_ n1_ n2_ n3_ n4_ n5_ n6_;clear ho hb hg hat;obtain ⟨Ao35,co35,eo35⟩:=Kd.R_slice HO179.out;subst eo35;have hcz36_0 : w34.cell? ⟨gb173,0,none⟩ = some (.slice Ao7 l0_0.length co7):=(blk_cell BK173.out 0).trans rfl;have hcz36_1 : w34.cell? ⟨gb173,1,none⟩ = some (.slice (some ad176) l0_1.length co8):=(blk_cell BK173.out 1).trans rfl;have hcz36_2 : w34.cell? ⟨gb173,2,none⟩ = some (.slice Ao9 l0_2.length co9):=(blk_cell BK173.out 2).trans rfl;have hfz36_0:=blk_frozen BK173.out 0;have hfz36_1:=blk_frozen BK173.out 1;have hfz36_2:=blk_frozen BK173.out 2;have hcz37_0 : w34.cell? ⟨gb174,0,none⟩ = some (.slice none 0 0):=(blk_cell BK174.out 0).trans rfl;have hcz37_1 : w34.cell? ⟨gb174,1,none⟩ = some (.slice none 0 0):=(blk_cell BK174.out 1).trans rfl;have hcz37_2 : w34.cell? ⟨gb174,2,none⟩ = some (.slice none 0 0):=(blk_cell BK174.out 2).trans rfl;have hfz37_0:=blk_frozen BK174.out 0;have hfz37_1:=blk_frozen BK174.out 1;have hfz37_2:=blk_frozen BK174.out 2))
         refine bodyPost_ret (results_ct rfl _ _ gb174 28 #[.slice Ao7 l0_0.length co7,.slice (some ad176) l0_1.length co8,.slice Ao35 y177.length co35] (0,0) _ rfl (by (with_reducible repeat (first|refine blk_drewN ?_ _|refine blk_drew ?_|refine blk_alloc ?_ _));refine blk_put (cs:=#[.slice Ao7 l0_0.length co7,.slice (some ad176) l0_1.length co8,.slice none 0 0]) ?_ 2 _ rfl;(with_reducible repeat (first|refine blk_drewN ?_ _|refine blk_drew ?_|refine blk_alloc ?_ _));refine blk_put (cs:=#[.slice Ao7 l0_0.length co7,.slice none 0 0,.slice none 0 0]) ?_ 1 _ rfl;(with_reducible repeat (first|refine blk_drewN ?_ _|refine blk_drew ?_|refine blk_alloc ?_ _));refine blk_put (cs:=#[.slice none 0 0,.slice none 0 0,.slice none 0 0]) ?_ 0 _ rfl;(with_reducible repeat (first|refine blk_drewN ?_ _|refine blk_drew ?_|refine blk_alloc ?_ _));refine blk_far ?_ NB174_173.out _;(with_reducible repeat (first|refine blk_drewN ?_ _|refine blk_drew ?_|refine blk_alloc ?_ _));exact BK174.out) Try.underlying28 rfl (by kernel_rfl)) rfl ?_
         exact ⟨_,_,_,by first|rfl|(simp [errW_none,errW_some] <;> rfl)|(simp [*,errW_none,errW_some] <;> rfl),by (with_reducible repeat (first|apply Kd.R_alloc|apply Kd.R_drewN|apply Kd.R_drew));exact Kd.R_mono (Kd.R_far (p:=⟨gb174,2,none⟩) (Kd.R_far (p:=⟨gb174,1,none⟩) (Kd.R_far (p:=⟨gb174,0,none⟩) (Kd.R_far (p:=⟨gb173,2,none⟩) (Kd.R_types (Kd.R_types HO_174000.out BK173.out (by decide)) BK174.out (by decide)) (fun _ hk => hk.1.2) (.slice Ao35 y177.length co35)) (fun _ hk => hk.2) (.slice Ao7 l0_0.length co7)) (fun _ hk => hk.2) (.slice (some ad176) l0_1.length co8)) (fun _ hk => hk.2) (.slice Ao35 y177.length co35)) (fun _ hk => hk.1.1),by (with_reducible repeat (first|apply Kd.R_alloc|apply Kd.R_drewN|apply Kd.R_drew));exact Kd.R_mono (Kd.R_far (p:=⟨gb174,2,none⟩) (Kd.R_far (p:=⟨gb174,1,none⟩) (Kd.R_far (p:=⟨gb174,0,none⟩) (Kd.R_far (p:=⟨gb173,2,none⟩) (Kd.R_types (Kd.R_types HO_174001.out BK173.out (by decide)) BK174.out (by decide)) (fun _ hk => hk.1.2) (.slice Ao35 y177.length co35)) (fun _ hk => hk.2) (.slice Ao7 l0_0.length co7)) (fun _ hk => hk.2) (.slice (some ad176) l0_1.length co8)) (fun _ hk => hk.2) (.slice Ao35 y177.length co35)) (fun _ hk => hk.1.1),by (with_reducible repeat (first|apply Kd.R_alloc|apply Kd.R_drewN|apply Kd.R_drew));exact Kd.R_mono (Kd.R_far (p:=⟨gb174,2,none⟩) (Kd.R_far (p:=⟨gb174,1,none⟩) (Kd.R_far (p:=⟨gb174,0,none⟩) (Kd.R_far (p:=⟨gb173,2,none⟩) (Kd.R_types (Kd.R_types HO179.out BK173.out (by decide)) BK174.out (by decide)) (fun _ hk => hk.1.2) (.slice Ao35 y177.length co35)) (fun _ hk => hk.2) (.slice Ao7 l0_0.length co7)) (fun _ hk => hk.2) (.slice (some ad176) l0_1.length co8)) (fun _ hk => hk.2) (.slice Ao35 y177.length co35)) (fun _ hk => hk.1.1),by repeat (first|(with_reducible first|exact HB.out|apply below_alloc|apply pw_below_drewN|apply below_drew1|refine below_set ?_ GE173.out|refine below_set ?_ GE174.out)|exact HB.out),by repeat (first|(with_reducible first|exact HK.out|apply Kept.alloc|apply Kept.drewN|apply Kept.drew|refine Kept.setCell ?_ (.inr GW173.out) _|refine Kept.setCell ?_ (.inr GW174.out) _)|exact HK.out)⟩
        ·
         rw [if_neg c31] at H
         exact absurd H (by simp)
      ·
       rw [if_neg c26] at H
       have c26b0 : ((rd l0_1 a1) == a2) = false:=beq_eq_false_iff_ne.mpr c26
       have c26b1 : ((rd l0_1 a1) != a2) = true:=bne_iff_ne.mpr c26
       simp only [Option.some.injEq,Prod.mk.injEq] at H
       obtain ⟨rfl,rfl,rfl,rfl⟩:=H
       have hnb38:=NB173_174.out
       have hnc38:=NB174_173.out
       have hcz39_0 : wc.cell? ⟨gb173,0,none⟩ = some (.slice Ao7 l0_0.length co7):=(blk_cell BK173.out 0).trans rfl
       have hcz39_1 : wc.cell? ⟨gb173,1,none⟩ = some (.slice Ao8 l0_1.length co8):=(blk_cell BK173.out 1).trans rfl
       have hcz39_2 : wc.cell? ⟨gb173,2,none⟩ = some (.slice Ao9 l0_2.length co9):=(blk_cell BK173.out 2).trans rfl
       have hfz39_0:=blk_frozen BK173.out 0
       have hfz39_1:=blk_frozen BK173.out 1
       have hfz39_2:=blk_frozen BK173.out 2
       have p176 : 0 ≤ (a1 : Int):=of_decide_eq_true (by first|(with_reducible assumption)|assumption)
       have q176 : a1 < (l0_1.length : Int):=of_decide_eq_true (by first|(with_reducible assumption)|assumption)
       obtain ⟨ad176,e176,hx176_0⟩:=Kd.at_int (Kd.R_reads' HO_174001.out).2.2 a1 p176 q176
       cases e176
       replace p176:=eq_true p176
       replace q176:=eq_true q176
       have hcz40_0 : wc.cell? ⟨gb174,0,none⟩ = some (.slice none 0 0):=(blk_cell BK174.out 0).trans rfl
       have hcz40_1 : wc.cell? ⟨gb174,1,none⟩ = some (.slice none 0 0):=(blk_cell BK174.out 1).trans rfl
       have hcz40_2 : wc.cell? ⟨gb174,2,none⟩ = some (.slice none 0 0):=(blk_cell BK174.out 2).trans rfl
       have hfz40_0:=blk_frozen BK174.out 0
       have hfz40_1:=blk_frozen BK174.out 1
       have hfz40_2:=blk_frozen BK174.out 2
       go_wp2
       refine bodyPost_ret (results_ct rfl _ _ gb174 28 #[.slice Ao7 l0_0.length co7,.slice (some ad176) l0_1.length co8,.slice Ao9 l0_2.length co9] (0,0) _ rfl (by (with_reducible repeat (first|refine blk_drewN ?_ _|refine blk_drew ?_|refine blk_alloc ?_ _));refine blk_put (cs:=#[.slice Ao7 l0_0.length co7,.slice (some ad176) l0_1.length co8,.slice none 0 0]) ?_ 2 _ rfl;(with_reducible repeat (first|refine blk_drewN ?_ _|refine blk_drew ?_|refine blk_alloc ?_ _));refine blk_put (cs:=#[.slice Ao7 l0_0.length co7,.slice none 0 0,.slice none 0 0]) ?_ 1 _ rfl;(with_reducible repeat (first|refine blk_drewN ?_ _|refine blk_drew ?_|refine blk_alloc ?_ _));refine blk_put (cs:=#[.slice none 0 0,.slice none 0 0,.slice none 0 0]) ?_ 0 _ rfl;(with_reducible repeat (first|refine blk_drewN ?_ _|refine blk_drew ?_|refine blk_alloc ?_ _));exact BK174.out) Try.underlying28 rfl (by kernel_rfl)) rfl ?_
       exact ⟨_,_,_,by first|rfl|(simp [errW_none,errW_some] <;> rfl)|(simp [*,errW_none,errW_some] <;> rfl),by (with_reducible repeat (first|apply Kd.R_alloc|apply Kd.R_drewN|apply Kd.R_drew));exact Kd.R_mono (Kd.R_far (p:=⟨gb174,2,none⟩) (Kd.R_far (p:=⟨gb174,1,none⟩) (Kd.R_far (p:=⟨gb174,0,none⟩) (Kd.R_types HO_174000.out BK174.out (by decide)) (fun _ hk => hk.2) (.slice Ao7 l0_0.length co7)) (fun _ hk => hk.2) (.slice (some ad176) l0_1.length co8)) (fun _ hk => hk.2) (.slice Ao9 l0_2.length co9)) (fun _ hk => hk.1),by (with_reducible repeat (first|apply Kd.R_alloc|apply Kd.R_drewN|apply Kd.R_drew));exact Kd.R_mono (Kd.R_far (p:=⟨gb174,2,none⟩) (Kd.R_far (p:=⟨gb174,1,none⟩) (Kd.R_far (p:=⟨gb174,0,none⟩) (Kd.R_types HO_174001.out BK174.out (by decide)) (fun _ hk => hk.2) (.slice Ao7 l0_0.length co7)) (fun _ hk => hk.2) (.slice (some ad176) l0_1.length co8)) (fun _ hk => hk.2) (.slice Ao9 l0_2.length co9)) (fun _ hk => hk.1),by (with_reducible repeat (first|apply Kd.R_alloc|apply Kd.R_drewN|apply Kd.R_drew));exact Kd.R_mono (Kd.R_far (p:=⟨gb174,2,none⟩) (Kd.R_far (p:=⟨gb174,1,none⟩) (Kd.R_far (p:=⟨gb174,0,none⟩) (Kd.R_types HO_174002.out BK174.out (by decide)) (fun _ hk => hk.2) (.slice Ao7 l0_0.length co7)) (fun _ hk => hk.2) (.slice (some ad176) l0_1.length co8)) (fun _ hk => hk.2) (.slice Ao9 l0_2.length co9)) (fun _ hk => hk.1),by repeat (first|(with_reducible first|exact HB.out|apply below_alloc|apply pw_below_drewN|apply below_drew1|refine below_set ?_ GE173.out|refine below_set ?_ GE174.out)|exact HB.out),by repeat (first|(with_reducible first|exact HK.out|apply Kept.alloc|apply Kept.drewN|apply Kept.drew|refine Kept.setCell ?_ (.inr GW173.out) _|refine Kept.setCell ?_ (.inr GW174.out) _)|exact HK.out)⟩
     ·
      rw [if_neg c25] at H
      exact absurd H (by simp)
    ·
     rw [if_neg c24] at H
     exact absurd H (by simp)
end Go.Proofs.Ytiejilaahkkhmaa.P
