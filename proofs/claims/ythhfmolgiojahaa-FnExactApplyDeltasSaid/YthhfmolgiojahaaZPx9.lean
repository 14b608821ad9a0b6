-- Ours: printed or written for this claim; cut to what the theorem needs.
import Derived.Test.YthhfmolgiojahaaZPx0
import Derived.Test.YthhfmolgiojahaaZPx1
import Derived.Test.YthhfmolgiojahaaZPx2
import Derived.Test.YthhfmolgiojahaaZPx3
import Derived.Test.YthhfmolgiojahaaZPx7
import Derived.Test.YthhfmolgiojahaaZPx8
namespace Go.Proofs.Ythhfmolgiojahaa.P
open Go.RowKit Go.Proofs.YthhfmolgiojahaaW.PrintWords Go.Proofs.YthhfmolgiojahaaW.PrintLast Go.Proofs.YthhfmolgiojahaaW.PrintMore
attribute [local go_sem] max2_int min2_int max_two min_two max_three min_three max_four min_four
set_option linter.unusedVariables false
set_option linter.unusedSimpArgs false
def laws_eqIntS.l0 : Nat → List Int → List Int → Int → Option (Bool)
  | 0, _, _, _ => none
  | k + 1, x0, x1, x5 => if x5 < (x0.length : Int) then (if 0 ≤ x5 then (if x5 < (x1.length : Int) then (if (rd x0 x5) = (rd x1 x5) then (laws_eqIntS.l0 k x0 x1 (wrap64 (x5 + 1))) else (some false)) else (none)) else (none)) else (some true)
def laws_eqIntS.f (k : Nat) (l0 : List Int) (l1 : List Int) : Option (Bool) := if (l0.length : Int) = (l1.length : Int) then (laws_eqIntS.l0 k l0 l1 0) else (some false)
set_option maxHeartbeats 8000000 in
set_option maxRecDepth 100000 in
theorem laws_eqIntS.calls (k : Nat) (A0 : Option Addr) (c0 : Nat) (l0 : List Int) (A1 : Option Addr) (c1 : Nat) (l1 : List Int) (r : Bool) (w : World) (hr0 : Kd.C (Kd.int .i64) w A0 l0.length l0) (hc0 : l0.length ≤ c0) (hr1 : Kd.C (Kd.int .i64) w A1 l1.length l1) (hc1 : l1.length ≤ c1) (h : laws_eqIntS.f k l0 l1 = some r) :
    Calls Try.prog 22 #[.slice A0 l0.length c0, .slice A1 l1.length c1] w fun e w' => e = .returned (.bool r) ∧ Drawn0 w w' := by
  have HR0 := Aside0.mk hr0
  have HC0 := Aside0.mk hc0
  clear hr0 hc0
  have HR1 := Aside0.mk hr1
  have HC1 := Aside0.mk hc1
  clear hr1 hc1
  have H : (if (l0.length : Int) = (l1.length : Int) then (laws_eqIntS.l0 k l0 l1 0) else (some false)) = some r := h
  clear h
  by_cases c3 : (l0.length : Int) = (l1.length : Int)
  · rw [if_pos c3] at H
    have c3b0 : ((l0.length : Int) == (l1.length : Int)) = true := beq_iff_eq.mpr c3
    have c3b1 : ((l0.length : Int) != (l1.length : Int)) = false := bne_eq_false_iff_eq.mpr c3
    have c3b2 : (l0.length == l1.length) = true := by first | simpa using c3 | (simp at c3 ⊢; omega)
    clear c3
    have H' := Aside0.mk H
    clear H
    go_enter Try.func22, Try.ntmps22
    go_wp2
    repeat (go_quiet (fail); try go_wp2)
    go_loopg [5] k (fun kq v5 w' => ∃ (x5_1 : Int), v5 = .int .i64 x5_1 ∧ Aside0 (laws_eqIntS.l0 kq l0 l1 x5_1 = some r) ∧ Aside0 (kq ≤ k) ∧ Drawn0 w w')
    case atStart => exact ⟨(0), (by first | rfl | (simp; done) | (simp [*]; done)), H', ⟨Nat.le_refl _⟩, by repeat (first | exact Drawn0.refl _ | apply Drawn0.step)⟩
    case round =>
      clear H'
      try clear c1
      try clear c2
      try clear p2
      try clear c3
      try clear c3b0
      try clear c3b1
      try clear c3b2
      obtain ⟨x5_1, rfl, HA, HK1, ⟨m1, rfl⟩⟩ := hrel
      cases gk with
      | zero => exact absurd HA.out (by simp [laws_eqIntS.l0])
      | succ k1 =>
        have H := HA.out
        clear HA
        simp only [laws_eqIntS.l0] at H
        by_cases c4 : x5_1 < (l0.length : Int)
        · rw [if_pos c4] at H
          have c4b0 : decide (x5_1 < (l0.length : Int)) = true := decide_eq_true c4
          clear c4
          by_cases c5 : 0 ≤ x5_1
          · rw [if_pos c5] at H
            have c5b0 : decide (0 ≤ x5_1) = true := decide_eq_true c5
            clear c5
            by_cases c6 : x5_1 < (l1.length : Int)
            · rw [if_pos c6] at H
              have c6b0 : decide (x5_1 < (l1.length : Int)) = true := decide_eq_true c6
              clear c6
              by_cases c7 : (rd l0 x5_1) = (rd l1 x5_1)
              · rw [if_pos c7] at H
                have c7b0 : ((rd l0 x5_1) == (rd l1 x5_1)) = true := beq_iff_eq.mpr c7
                have c7b1 : ((rd l0 x5_1) != (rd l1 x5_1)) = false := bne_eq_false_iff_eq.mpr c7
                clear c7
                have H' := Aside0.mk H
                clear H
                have p297 : 0 ≤ (x5_1 : Int) := of_decide_eq_true (by first | (with_reducible assumption) | assumption)
                have q297 : x5_1 < (l0.length : Int) := of_decide_eq_true (by first | (with_reducible assumption) | assumption)
                obtain ⟨ad297, e297, hx297_0⟩ := Kd.at_int HR0.out x5_1 p297 q297
                cases e297
                replace p297 := eq_true p297
                replace q297 := eq_true q297
                have p298 : 0 ≤ (x5_1 : Int) := of_decide_eq_true (by first | (with_reducible assumption) | assumption)
                have q298 : x5_1 < (l1.length : Int) := of_decide_eq_true (by first | (with_reducible assumption) | assumption)
                obtain ⟨ad298, e298, hx298_0⟩ := Kd.at_int HR1.out x5_1 p298 q298
                cases e298
                replace p298 := eq_true p298
                replace q298 := eq_true q298
                go_wp2
                repeat (go_quiet (fail); try go_wp2)
                go_roundg k1
                case measure => have := HK1.out; omega
                case rel => exact ⟨(wrap64 (x5_1 + 1)), (by first | rfl | (simp; done) | (simp [*]; done)), H', ⟨by have := HK1.out; omega⟩, by repeat (first | exact Drawn0.refl _ | apply Drawn0.step)⟩
              · rw [if_neg c7] at H
                have c7b0 : ((rd l0 x5_1) == (rd l1 x5_1)) = false := beq_eq_false_iff_ne.mpr c7
                have c7b1 : ((rd l0 x5_1) != (rd l1 x5_1)) = true := bne_iff_ne.mpr c7
                obtain rfl := Option.some.inj H
                have p297 : 0 ≤ (x5_1 : Int) := of_decide_eq_true (by first | (with_reducible assumption) | assumption)
                have q297 : x5_1 < (l0.length : Int) := of_decide_eq_true (by first | (with_reducible assumption) | assumption)
                obtain ⟨ad297, e297, hx297_0⟩ := Kd.at_int HR0.out x5_1 p297 q297
                cases e297
                replace p297 := eq_true p297
                replace q297 := eq_true q297
                have p298 : 0 ≤ (x5_1 : Int) := of_decide_eq_true (by first | (with_reducible assumption) | assumption)
                have q298 : x5_1 < (l1.length : Int) := of_decide_eq_true (by first | (with_reducible assumption) | assumption)
                obtain ⟨ad298, e298, hx298_0⟩ := Kd.at_int HR1.out x5_1 p298 q298
                cases e298
                replace p298 := eq_true p298
                replace q298 := eq_true q298
                go_wp2
                repeat (go_quiet (fail); try go_wp2)
                go_ret
                exact ⟨by first | rfl | (simp; done) | (simp [*]; done), by repeat (first | exact Drawn0.refl _ | apply Drawn0.step)⟩
            · rw [if_neg c6] at H
              exact absurd H (by simp)
          · rw [if_neg c5] at H
            exact absurd H (by simp)
        · rw [if_neg c4] at H
          have c4b0 : decide (x5_1 < (l0.length : Int)) = false := decide_eq_false c4
          clear c4
          obtain rfl := Option.some.inj H
          go_wp2
          repeat (go_quiet (fail); try go_wp2)
          go_ret
          exact ⟨by first | rfl | (simp; done) | (simp [*]; done), by repeat (first | exact Drawn0.refl _ | apply Drawn0.step)⟩
  · rw [if_neg c3] at H
    have c3b0 : ((l0.length : Int) == (l1.length : Int)) = false := beq_eq_false_iff_ne.mpr c3
    have c3b1 : ((l0.length : Int) != (l1.length : Int)) = true := bne_iff_ne.mpr c3
    have c3b2 : (l0.length == l1.length) = false := by first | simpa using c3 | (simp at c3 ⊢; omega)
    obtain rfl := Option.some.inj H
    go_enter Try.func22, Try.ntmps22
    go_wp2
    repeat (go_quiet (fail); try go_wp2)
    go_ret
    exact ⟨by first | rfl | (simp; done) | (simp [*]; done), by repeat (first | exact Drawn0.refl _ | apply Drawn0.step)⟩
def laws_markIntS.l0 : Nat → List Int → Int → Int → Option (Int × List Int)
  | 0, _, _, _ => none
  | k + 1, x0, x1, x5 => if x5 < (x0.length : Int) then (if 0 ≤ x5 then (laws_markIntS.l0 k (x0.set (x5 : Int).toNat x1) (wrap64 (x1 + 1)) (wrap64 (x5 + 1))) else (none)) else (some (x1, x0))
def laws_markIntS.f (k : Nat) (l0 : List Int) (a1 : Int) : Option (Int × List Int) := laws_markIntS.l0 k l0 a1 0
set_option maxHeartbeats 8000000 in
set_option maxRecDepth 100000 in
theorem laws_markIntS.calls (k : Nat) (P0_ : Nat → Prop) (u9000_ : Value) (l0 : List Int) (a1 : Int) (r1 : Int) (r2 : List Int) (w0 w : World) (hB : Below w0.heap.size w0 w) (ho0 : Kd.R (Kd.int .i64) 3 w w0.heap.size P0_ u9000_ l0) (h : laws_markIntS.f k l0 a1 = some (r1, r2)) :
    Calls Try.prog 23 #[u9000_, .int .i64 a1] w fun e w' => e = .returned (.int .i64 r1) ∧ Kd.R (Kd.int .i64) 3 w' w0.heap.size (fun k_ => (P0_ k_ ∨ w.heap.size ≤ k_)) u9000_ r2 ∧ Below w0.heap.size w0 w' ∧ Kept w w' (fun k_ => P0_ k_) := by
  have HO0 := Aside0.mk (show Kd.R (Kd.int .i64) 3 w w0.heap.size (fun k_ => (P0_ k_ ∨ w.heap.size ≤ k_)) u9000_ l0 from Kd.R_mono ho0 (fun k_ hk => (.inl hk)))
  have HK := Aside0.mk (Kept.refl w (fun k_ => P0_ k_))
  have HW0 := Aside0.mk hB.size
  have HB := Aside0.mk hB
  clear hB
  have H : (laws_markIntS.l0 k l0 a1 0) = some (r1, r2) := h
  clear h
  have H' := Aside0.mk H
  clear H
  go_enter Try.func23, Try.ntmps23
  go_wp2
  go_loopg [1, 5] k (fun kq v1 v5 w' => ∃ (x0_1 : List Int) (x1_1 : Int) (x5_1 : Int), v1 = .int .i64 x1_1 ∧ v5 = .int .i64 x5_1 ∧ Aside0 (laws_markIntS.l0 kq x0_1 x1_1 x5_1 = some (r1, r2)) ∧ Aside0 (kq ≤ k) ∧ Aside0 (Kd.R (Kd.int .i64) 3 w' w0.heap.size (fun k_ => (P0_ k_ ∨ w.heap.size ≤ k_)) u9000_ x0_1) ∧ Aside0 (Kept w w' (fun k_ => P0_ k_)) ∧ Aside0 (Below w0.heap.size w0 w'))
  case atStart => exact ⟨(l0), (a1), (0), (by first | rfl | (simp; done) | (simp [*]; done)), (by first | rfl | (simp; done) | (simp [*]; done)), H', ⟨Nat.le_refl _⟩, ⟨by (with_reducible repeat (first | apply Kd.R_alloc | apply Kd.R_drewN | apply Kd.R_drew)); exact HO0.out⟩, ⟨by repeat (first | (with_reducible first | exact HK.out | apply Kept.alloc | apply Kept.drewN | apply Kept.drew) | exact HK.out)⟩, ⟨by repeat (first | (with_reducible first | exact HB.out | apply below_alloc | apply pw_below_drewN | apply below_drew1) | exact HB.out)⟩⟩
  case round =>
    clear H'
    try clear c2
    try clear p2
    obtain ⟨x0_1, x1_1, x5_1, rfl, rfl, HA, HK1, HO_0, HK, HB⟩ := hrel
    cases gk with
    | zero => exact absurd HA.out (by simp [laws_markIntS.l0])
    | succ k1 =>
      have H := HA.out
      clear HA
      simp only [laws_markIntS.l0] at H
      by_cases c3 : x5_1 < (x0_1.length : Int)
      · rw [if_pos c3] at H
        have c3b0 : decide (x5_1 < (x0_1.length : Int)) = true := decide_eq_true c3
        clear c3
        by_cases c4 : 0 ≤ x5_1
        · rw [if_pos c4] at H
          have c4b0 : decide (0 ≤ x5_1) = true := decide_eq_true c4
          clear c4
          obtain ⟨y299, hy299⟩ : ∃ y_ : List Int, y_ = (x0_1.set (x5_1 : Int).toNat x1_1) := ⟨_, rfl⟩
          replace H : (laws_markIntS.l0 k1 y299 (wrap64 (x1_1 + 1)) (wrap64 (x5_1 + 1))) = some (r1, r2) := by first | (rw [hy299]; with_reducible exact H) | (have H2_ := (Option.bind_some _ _).symm.trans H; rw [hy299]; with_reducible exact H2_) | (have H2_ := (Option.bind_some _ _).symm.trans H; with_reducible exact H2_) | with_reducible exact H | (rw [hy299]; exact H) | exact H
          have Ny299 := Aside0.mk hy299
          clear hy299
          have H' := Aside0.mk H
          clear H
          obtain ⟨Ao6, co6, eo6⟩ := Kd.R_slice HO_0.out
          subst eo6
          have p5 : 0 ≤ (x5_1 : Int) := of_decide_eq_true (by first | (with_reducible assumption) | assumption)
          have q5 : (x5_1 : Int) < ((x0_1.length : Int) : Int) := of_decide_eq_true (by first | (with_reducible assumption) | assumption)
          obtain ⟨go5, co5, eo5, gb5, gl5, cl5, HG5⟩ := Kd.R_form HO_0.out (by omega)
          (first | cases eo5 | (injection eo5 with ea_ en_ ec_; (first | subst ea_ | (injection ea_ with ea_; subst ea_)); subst ec_; clear en_))
          have GB5 := Aside0.mk gb5
          have GG5 := Aside0.mk HG5
          clear gb5 gl5 HG5
          have HMgo5 := Aside0.mk (show (P0_ go5 ∨ w.heap.size ≤ go5) from (HO_0.out.1 _ rfl))
          obtain ⟨hx5_0, hf5_0⟩ := Kd.R_celln 0 HO_0.out (x5_1 : Int) p5 q5
          replace p5 := eq_true p5
          replace q5 := eq_true q5
          have HP7 := Kd.R_putg HO_0.out (x5_1 : Int) x1_1
          go_wp2_with (first | ((with_reducible refine gate_store (t := 3) (p := 15) rfl ?_); refine store_event (t := 3) (p := 15) (v := ?vo_w8) (w1 := (wr.setCell ⟨go5, (x5_1 : Int).toNat, none⟩ (.int .i64 x1_1))) ?hg ?ho ?hn ?hr ?_; (case ho => rfl); (case hg => rfl); (case hn => rfl); (case hr => first | (go_simp; done) | (go_simp; rfl)); intro w8 hw; have hg : wr.grownBy w8 (some go5) := (by rw [hw]; exact HP7.2); have hp_ : Kd.R (Kd.int .i64) 3 w8 w0.heap.size (fun k_ => (P0_ k_ ∨ w.heap.size ≤ k_)) (.slice (some ⟨go5, 0, none⟩) x0_1.length co6) y299 := (by rw [hw, Ny299.out]; exact HP7.1); clear HP7; have n0_ := Aside0.mk (hp_); have n1_ := Aside0.mk ((by rw [hw]; exact below_set (HB.out) GB5.out : Below w0.heap.size w0 w8)); have n2_ := Aside0.mk (Kept.of_grown (S := (fun k_ => P0_ k_)) hg (by repeat (first | (with_reducible first | exact HK.out | apply Kept.alloc | apply Kept.drewN | apply Kept.drew) | exact HK.out)) (fun k_ e_ => (HO_0.out.1 k_ e_))); clear HO_0; clear HB; clear HK; have HO_0 := n0_; have HB := n1_; have HK := n2_; clear n0_ n1_ n2_; clear hg hw hp_))
          go_roundg k1
          case measure => have := HK1.out; omega
          case rel => exact ⟨(y299), (wrap64 (x1_1 + 1)), (wrap64 (x5_1 + 1)), (by first | rfl | (simp; done) | (simp [*]; done)), (by first | rfl | (simp; done) | (simp [*]; done)), H', ⟨by have := HK1.out; omega⟩, ⟨by (with_reducible repeat (first | apply Kd.R_alloc | apply Kd.R_drewN | apply Kd.R_drew)); exact HO_0.out⟩, ⟨by repeat (first | (with_reducible first | exact HK.out | apply Kept.alloc | apply Kept.drewN | apply Kept.drew) | exact HK.out)⟩, ⟨by repeat (first | (with_reducible first | exact HB.out | apply below_alloc | apply pw_below_drewN | apply below_drew1) | exact HB.out)⟩⟩
        · rw [if_neg c4] at H
          exact absurd H (by simp)
      · rw [if_neg c3] at H
        have c3b0 : decide (x5_1 < (x0_1.length : Int)) = false := decide_eq_false c3
        clear c3
        simp only [Option.some.injEq, Prod.mk.injEq] at H
        obtain ⟨rfl, rfl⟩ := H
        obtain ⟨Ao9, co9, eo9⟩ := Kd.R_slice HO_0.out
        subst eo9
        go_wp2
        go_ret
        exact ⟨by first | rfl | (simp [errW_none, errW_some] <;> rfl) | (simp [*, errW_none, errW_some] <;> rfl), by (with_reducible repeat (first | apply Kd.R_alloc | apply Kd.R_drewN | apply Kd.R_drew)); exact HO_0.out, by repeat (first | (with_reducible first | exact HB.out | apply below_alloc | apply pw_below_drewN | apply below_drew1) | exact HB.out), by repeat (first | (with_reducible first | exact HK.out | apply Kept.alloc | apply Kept.drewN | apply Kept.drew) | exact HK.out)⟩
def laws_heldIntS.l0 : Nat → List Int → Int → Int → Option (Int)
  | 0, _, _, _ => none
  | k + 1, x0, x1, x5 => if x5 < (x0.length : Int) then (if 0 ≤ x5 then (if (rd x0 x5) = x1 then (laws_heldIntS.l0 k x0 (wrap64 (x1 + 1)) (wrap64 (x5 + 1))) else (some (-1))) else (none)) else (some x1)
def laws_heldIntS.f (k : Nat) (l0 : List Int) (a1 : Int) : Option (Int) := laws_heldIntS.l0 k l0 a1 0
set_option maxHeartbeats 8000000 in
set_option maxRecDepth 100000 in
theorem laws_heldIntS.calls (k : Nat) (A0 : Option Addr) (c0 : Nat) (l0 : List Int) (a1 : Int) (r : Int) (w : World) (hr0 : Kd.C (Kd.int .i64) w A0 l0.length l0) (hc0 : l0.length ≤ c0) (h : laws_heldIntS.f k l0 a1 = some r) :
    Calls Try.prog 24 #[.slice A0 l0.length c0, .int .i64 a1] w fun e w' => e = .returned (.int .i64 r) ∧ Drawn0 w w' := by
  have HR0 := Aside0.mk hr0
  have HC0 := Aside0.mk hc0
  clear hr0 hc0
  have H : (laws_heldIntS.l0 k l0 a1 0) = some r := h
  clear h
  have H' := Aside0.mk H
  clear H
  go_enter Try.func24, Try.ntmps24
  go_wp2
  go_loopg [1, 5] k (fun kq v1 v5 w' => ∃ (x1_1 : Int) (x5_1 : Int), v1 = .int .i64 x1_1 ∧ v5 = .int .i64 x5_1 ∧ Aside0 (laws_heldIntS.l0 kq l0 x1_1 x5_1 = some r) ∧ Aside0 (kq ≤ k) ∧ Drawn0 w w')
  case atStart => exact ⟨(a1), (0), (by first | rfl | (simp; done) | (simp [*]; done)), (by first | rfl | (simp; done) | (simp [*]; done)), H', ⟨Nat.le_refl _⟩, by repeat (first | exact Drawn0.refl _ | apply Drawn0.step)⟩
  case round =>
    clear H'
    try clear c2
    try clear p2
    obtain ⟨x1_1, x5_1, rfl, rfl, HA, HK1, ⟨m1, rfl⟩⟩ := hrel
    cases gk with
    | zero => exact absurd HA.out (by simp [laws_heldIntS.l0])
    | succ k1 =>
      have H := HA.out
      clear HA
      simp only [laws_heldIntS.l0] at H
      by_cases c3 : x5_1 < (l0.length : Int)
      · rw [if_pos c3] at H
        have c3b0 : decide (x5_1 < (l0.length : Int)) = true := decide_eq_true c3
        clear c3
        by_cases c4 : 0 ≤ x5_1
        · rw [if_pos c4] at H
          have c4b0 : decide (0 ≤ x5_1) = true := decide_eq_true c4
          clear c4
          by_cases c5 : (rd l0 x5_1) = x1_1
          · rw [if_pos c5] at H
            have c5b0 : ((rd l0 x5_1) == x1_1) = true := beq_iff_eq.mpr c5
            have c5b1 : ((rd l0 x5_1) != x1_1) = false := bne_eq_false_iff_eq.mpr c5
            clear c5
            have H' := Aside0.mk H
            clear H
            have p300 : 0 ≤ (x5_1 : Int) := of_decide_eq_true (by first | (with_reducible assumption) | assumption)
            have q300 : x5_1 < (l0.length : Int) := of_decide_eq_true (by first | (with_reducible assumption) | assumption)
            obtain ⟨ad300, e300, hx300_0⟩ := Kd.at_int HR0.out x5_1 p300 q300
            cases e300
            replace p300 := eq_true p300
            replace q300 := eq_true q300
            go_wp2
            go_roundg k1
            case measure => have := HK1.out; omega
            case rel => exact ⟨(wrap64 (x1_1 + 1)), (wrap64 (x5_1 + 1)), (by first | rfl | (simp; done) | (simp [*]; done)), (by first | rfl | (simp; done) | (simp [*]; done)), H', ⟨by have := HK1.out; omega⟩, by repeat (first | exact Drawn0.refl _ | apply Drawn0.step)⟩
          · rw [if_neg c5] at H
            have c5b0 : ((rd l0 x5_1) == x1_1) = false := beq_eq_false_iff_ne.mpr c5
            have c5b1 : ((rd l0 x5_1) != x1_1) = true := bne_iff_ne.mpr c5
            obtain rfl := Option.some.inj H
            have p300 : 0 ≤ (x5_1 : Int) := of_decide_eq_true (by first | (with_reducible assumption) | assumption)
            have q300 : x5_1 < (l0.length : Int) := of_decide_eq_true (by first | (with_reducible assumption) | assumption)
            obtain ⟨ad300, e300, hx300_0⟩ := Kd.at_int HR0.out x5_1 p300 q300
            cases e300
            replace p300 := eq_true p300
            replace q300 := eq_true q300
            go_wp2
            go_ret
            exact ⟨by first | rfl | (simp; done) | (simp [*]; done), by repeat (first | exact Drawn0.refl _ | apply Drawn0.step)⟩
        · rw [if_neg c4] at H
          exact absurd H (by simp)
      · rw [if_neg c3] at H
        have c3b0 : decide (x5_1 < (l0.length : Int)) = false := decide_eq_false c3
        clear c3
        obtain rfl := Option.some.inj H
        go_wp2
        go_ret
        exact ⟨by first | rfl | (simp; done) | (simp [*]; done), by repeat (first | exact Drawn0.refl _ | apply Drawn0.step)⟩
def laws_FnExactApplyDeltas.f (k : Nat) (l0 : List Int) (l1 : List (S49)) : Option (Bool) := if (l0.length : Int) > 1048576 then (some true) else ((laws_szDeltaS.f l1 1048576).bind fun t301 => (if t301 < 0 then (some true) else ((laws_toIntS.f k l0).bind fun t302 => ((laws_toDeltaS.f k l1).bind fun t305 => ((spec_ApplyDeltas.f k t302 t305).bind fun bt308 => ((laws_toIntS.f k l0).bind fun t312 => ((laws_toDeltaS.f k l1).bind fun t315 => ((impl_ApplyDeltas.f k t312 t315).bind fun bt318 => ((laws_eqIntS.f k bt318.1 bt308.1).bind fun t322 => (if t322 = true then (if (bt318.2 != bt308.2) = true then (some false) else ((laws_toIntS.f k l0).bind fun t323 => ((laws_eqIntS.f k t312 t323).bind fun t326 => (if t326 = true then ((laws_toDeltaS.f k l1).bind fun t327 => ((laws_eqDeltaS.f k t315 t327).bind fun t330 => (if t330 = true then ((laws_markIntS.f k t312 1).bind fun bt331 => ((laws_markDeltaS.f k t315 bt331.1).bind fun bt333 => (if bt333.1 < 0 then (some false) else ((laws_eqIntS.f k bt318.1 bt308.1).bind fun t335 => (if t335 = true then ((laws_markIntS.f k bt318.1 1).bind fun bt336 => ((laws_heldIntS.f k bt336.2 1).bind fun t338 => (if t338 < 0 then (some false) else (if t338 = bt336.1 then ((laws_toIntS.f k l0).bind fun t339 => ((laws_toDeltaS.f k l1).bind fun t342 => ((impl_ApplyDeltas.f k t339 t342).bind fun bt345 => ((laws_eqIntS.f k bt345.1 bt308.1).bind fun t349 => (if t349 = true then (if (bt345.2 != bt308.2) = true then (some false) else ((laws_heldIntS.f k bt336.2 1).bind fun t350 => (if t350 < 0 then (some false) else (if t350 = bt336.1 then (some true) else (some false))))) else (some false)))))) else (some false))))) else (some false)))))) else (some false)))) else (some false))))) else (some false)))))))))))
set_option maxHeartbeats 8000000 in
set_option maxRecDepth 100000 in
theorem laws_FnExactApplyDeltas.calls (k : Nat) (A0 : Option Addr) (c0 : Nat) (l0 : List Int) (A1 : Option Addr) (c1 : Nat) (l1 : List (S49)) (r : Bool) (w : World) (hr0 : Kd.C (Kd.int .i64) w A0 l0.length l0) (hc0 : l0.length ≤ c0) (hr1 : Kd.C k49 w A1 l1.length l1) (hc1 : l1.length ≤ c1) (h : laws_FnExactApplyDeltas.f k l0 l1 = some r) (hrt_ : r = true) :
    Calls Try.prog 6 #[.slice A0 l0.length c0, .slice A1 l1.length c1] w fun e w' => e = .returned (.bool r) ∧ Below w.heap.size w w' := by
  have HR0 := Aside0.mk hr0
  have HC0 := Aside0.mk hc0
  clear hr0 hc0
  have HR1 := Aside0.mk hr1
  have HC1 := Aside0.mk hc1
  clear hr1 hc1
  have HB := Aside0.mk (Below.refl w.heap.size w)
  have H : (if (l0.length : Int) > 1048576 then (some true) else ((laws_szDeltaS.f l1 1048576).bind fun t301 => (if t301 < 0 then (some true) else ((laws_toIntS.f k l0).bind fun t302 => ((laws_toDeltaS.f k l1).bind fun t305 => ((spec_ApplyDeltas.f k t302 t305).bind fun bt308 => ((laws_toIntS.f k l0).bind fun t312 => ((laws_toDeltaS.f k l1).bind fun t315 => ((impl_ApplyDeltas.f k t312 t315).bind fun bt318 => ((laws_eqIntS.f k bt318.1 bt308.1).bind fun t322 => (if t322 = true then (if (bt318.2 != bt308.2) = true then (some false) else ((laws_toIntS.f k l0).bind fun t323 => ((laws_eqIntS.f k t312 t323).bind fun t326 => (if t326 = true then ((laws_toDeltaS.f k l1).bind fun t327 => ((laws_eqDeltaS.f k t315 t327).bind fun t330 => (if t330 = true then ((laws_markIntS.f k t312 1).bind fun bt331 => ((laws_markDeltaS.f k t315 bt331.1).bind fun bt333 => (if bt333.1 < 0 then (some false) else ((laws_eqIntS.f k bt318.1 bt308.1).bind fun t335 => (if t335 = true then ((laws_markIntS.f k bt318.1 1).bind fun bt336 => ((laws_heldIntS.f k bt336.2 1).bind fun t338 => (if t338 < 0 then (some false) else (if t338 = bt336.1 then ((laws_toIntS.f k l0).bind fun t339 => ((laws_toDeltaS.f k l1).bind fun t342 => ((impl_ApplyDeltas.f k t339 t342).bind fun bt345 => ((laws_eqIntS.f k bt345.1 bt308.1).bind fun t349 => (if t349 = true then (if (bt345.2 != bt308.2) = true then (some false) else ((laws_heldIntS.f k bt336.2 1).bind fun t350 => (if t350 < 0 then (some false) else (if t350 = bt336.1 then (some true) else (some false))))) else (some false)))))) else (some false))))) else (some false)))))) else (some false)))) else (some false))))) else (some false)))))))))))) = some r := h
  clear h
  by_cases c3 : (l0.length : Int) > 1048576
  · rw [if_pos c3] at H
    have c3b0 : decide (1048576 < (l0.length : Int)) = true := decide_eq_true c3
    have c3b1 : decide (1048576 < l0.length) = true := decide_eq_true (by omega)
    clear c3
    obtain rfl := Option.some.inj H
    go_enter Try.func6, Try.ntmps6
    go_wp2
    go_ret
    exact ⟨by first | rfl | (simp [errW_none, errW_some] <;> rfl) | (simp [*, errW_none, errW_some] <;> rfl), by repeat (first | (with_reducible first | exact HB.out | apply below_alloc | apply pw_below_drewN | apply below_drew1) | exact HB.out)⟩
  · rw [if_neg c3] at H
    have c3b0 : decide (1048576 < (l0.length : Int)) = false := decide_eq_false c3
    have c3b1 : decide (1048576 < l0.length) = false := decide_eq_false (by omega)
    clear c3
    replace H := Option.bind_eq_some_iff.mp H
    obtain ⟨t301, A40, H⟩ := H
    replace H : (if t301 < 0 then (some true) else ((laws_toIntS.f k l0).bind fun t302 => ((laws_toDeltaS.f k l1).bind fun t305 => ((spec_ApplyDeltas.f k t302 t305).bind fun bt308 => ((laws_toIntS.f k l0).bind fun t312 => ((laws_toDeltaS.f k l1).bind fun t315 => ((impl_ApplyDeltas.f k t312 t315).bind fun bt318 => ((laws_eqIntS.f k bt318.1 bt308.1).bind fun t322 => (if t322 = true then (if (bt318.2 != bt308.2) = true then (some false) else ((laws_toIntS.f k l0).bind fun t323 => ((laws_eqIntS.f k t312 t323).bind fun t326 => (if t326 = true then ((laws_toDeltaS.f k l1).bind fun t327 => ((laws_eqDeltaS.f k t315 t327).bind fun t330 => (if t330 = true then ((laws_markIntS.f k t312 1).bind fun bt331 => ((laws_markDeltaS.f k t315 bt331.1).bind fun bt333 => (if bt333.1 < 0 then (some false) else ((laws_eqIntS.f k bt318.1 bt308.1).bind fun t335 => (if t335 = true then ((laws_markIntS.f k bt318.1 1).bind fun bt336 => ((laws_heldIntS.f k bt336.2 1).bind fun t338 => (if t338 < 0 then (some false) else (if t338 = bt336.1 then ((laws_toIntS.f k l0).bind fun t339 => ((laws_toDeltaS.f k l1).bind fun t342 => ((impl_ApplyDeltas.f k t339 t342).bind fun bt345 => ((laws_eqIntS.f k bt345.1 bt308.1).bind fun t349 => (if t349 = true then (if (bt345.2 != bt308.2) = true then (some false) else ((laws_heldIntS.f k bt336.2 1).bind fun t350 => (if t350 < 0 then (some false) else (if t350 = bt336.1 then (some true) else (some false))))) else (some false)))))) else (some false))))) else (some false)))))) else (some false)))) else (some false))))) else (some false)))))))))) = some r := H
    have A4 := Aside0.mk A40
    clear A40
    by_cases c5 : t301 < 0
    · rw [if_pos c5] at H
      have c5b0 : decide (t301 < 0) = true := decide_eq_true c5
      clear c5
      obtain rfl := Option.some.inj H
      go_enter Try.func6, Try.ntmps6
      go_wp2_with (first | ((with_reducible refine gate_callee (f := 8) rfl ?_); refine goesL_ (some 22) rfl rfl Try.func8 (by kernel_rfl) rfl #[.slice A1 l1.length c1, .int .i64 1048576] rfl (by (try simp only [List.map_toArray, List.map_cons, List.map_nil]); first | done | rfl | (simp only [List.length_drop, List.length_take]; rfl)) ?_; (with_reducible refine (laws_szDeltaS.calls _ _ l1 1048576 t301 _ ?side1 ?side2 A4.out).mono ?_); (case side1 => repeat (first | exact HR1.out | (with_reducible refine Kd.C_alloc ?_ _) | (with_reducible refine Kd.C_drewN ?_ _) | (with_reducible refine Kd.C_drew ?_))); (case side2 => exact HC1.out); rintro e w' ⟨rfl, ⟨nd, rfl⟩⟩; refine ⟨_, rfl, ?_⟩))
      go_ret
      exact ⟨by first | rfl | (simp [errW_none, errW_some] <;> rfl) | (simp [*, errW_none, errW_some] <;> rfl), by repeat (first | (with_reducible first | exact HB.out | apply below_alloc | apply pw_below_drewN | apply below_drew1) | exact HB.out)⟩
    · rw [if_neg c5] at H
      have c5b0 : decide (t301 < 0) = false := decide_eq_false c5
      clear c5
      replace H := Option.bind_eq_some_iff.mp H
      obtain ⟨t302, A60, H⟩ := H
      replace H : ((laws_toDeltaS.f k l1).bind fun t305 => ((spec_ApplyDeltas.f k t302 t305).bind fun bt308 => ((laws_toIntS.f k l0).bind fun t312 => ((laws_toDeltaS.f k l1).bind fun t315 => ((impl_ApplyDeltas.f k t312 t315).bind fun bt318 => ((laws_eqIntS.f k bt318.1 bt308.1).bind fun t322 => (if t322 = true then (if (bt318.2 != bt308.2) = true then (some false) else ((laws_toIntS.f k l0).bind fun t323 => ((laws_eqIntS.f k t312 t323).bind fun t326 => (if t326 = true then ((laws_toDeltaS.f k l1).bind fun t327 => ((laws_eqDeltaS.f k t315 t327).bind fun t330 => (if t330 = true then ((laws_markIntS.f k t312 1).bind fun bt331 => ((laws_markDeltaS.f k t315 bt331.1).bind fun bt333 => (if bt333.1 < 0 then (some false) else ((laws_eqIntS.f k bt318.1 bt308.1).bind fun t335 => (if t335 = true then ((laws_markIntS.f k bt318.1 1).bind fun bt336 => ((laws_heldIntS.f k bt336.2 1).bind fun t338 => (if t338 < 0 then (some false) else (if t338 = bt336.1 then ((laws_toIntS.f k l0).bind fun t339 => ((laws_toDeltaS.f k l1).bind fun t342 => ((impl_ApplyDeltas.f k t339 t342).bind fun bt345 => ((laws_eqIntS.f k bt345.1 bt308.1).bind fun t349 => (if t349 = true then (if (bt345.2 != bt308.2) = true then (some false) else ((laws_heldIntS.f k bt336.2 1).bind fun t350 => (if t350 < 0 then (some false) else (if t350 = bt336.1 then (some true) else (some false))))) else (some false)))))) else (some false))))) else (some false)))))) else (some false)))) else (some false))))) else (some false)))))))) = some r := H
      have A6 := Aside0.mk A60
      clear A60
      replace H := Option.bind_eq_some_iff.mp H
      obtain ⟨t305, A70, H⟩ := H
      replace H : ((spec_ApplyDeltas.f k t302 t305).bind fun bt308 => ((laws_toIntS.f k l0).bind fun t312 => ((laws_toDeltaS.f k l1).bind fun t315 => ((impl_ApplyDeltas.f k t312 t315).bind fun bt318 => ((laws_eqIntS.f k bt318.1 bt308.1).bind fun t322 => (if t322 = true then (if (bt318.2 != bt308.2) = true then (some false) else ((laws_toIntS.f k l0).bind fun t323 => ((laws_eqIntS.f k t312 t323).bind fun t326 => (if t326 = true then ((laws_toDeltaS.f k l1).bind fun t327 => ((laws_eqDeltaS.f k t315 t327).bind fun t330 => (if t330 = true then ((laws_markIntS.f k t312 1).bind fun bt331 => ((laws_markDeltaS.f k t315 bt331.1).bind fun bt333 => (if bt333.1 < 0 then (some false) else ((laws_eqIntS.f k bt318.1 bt308.1).bind fun t335 => (if t335 = true then ((laws_markIntS.f k bt318.1 1).bind fun bt336 => ((laws_heldIntS.f k bt336.2 1).bind fun t338 => (if t338 < 0 then (some false) else (if t338 = bt336.1 then ((laws_toIntS.f k l0).bind fun t339 => ((laws_toDeltaS.f k l1).bind fun t342 => ((impl_ApplyDeltas.f k t339 t342).bind fun bt345 => ((laws_eqIntS.f k bt345.1 bt308.1).bind fun t349 => (if t349 = true then (if (bt345.2 != bt308.2) = true then (some false) else ((laws_heldIntS.f k bt336.2 1).bind fun t350 => (if t350 < 0 then (some false) else (if t350 = bt336.1 then (some true) else (some false))))) else (some false)))))) else (some false))))) else (some false)))))) else (some false)))) else (some false))))) else (some false))))))) = some r := H
      have A7 := Aside0.mk A70
      clear A70
      replace H := Option.bind_eq_some_iff.mp H
      obtain ⟨⟨t308, t309⟩, A80, H⟩ := H
      replace H : ((laws_toIntS.f k l0).bind fun t312 => ((laws_toDeltaS.f k l1).bind fun t315 => ((impl_ApplyDeltas.f k t312 t315).bind fun bt318 => ((laws_eqIntS.f k bt318.1 t308).bind fun t322 => (if t322 = true then (if (bt318.2 != t309) = true then (some false) else ((laws_toIntS.f k l0).bind fun t323 => ((laws_eqIntS.f k t312 t323).bind fun t326 => (if t326 = true then ((laws_toDeltaS.f k l1).bind fun t327 => ((laws_eqDeltaS.f k t315 t327).bind fun t330 => (if t330 = true then ((laws_markIntS.f k t312 1).bind fun bt331 => ((laws_markDeltaS.f k t315 bt331.1).bind fun bt333 => (if bt333.1 < 0 then (some false) else ((laws_eqIntS.f k bt318.1 t308).bind fun t335 => (if t335 = true then ((laws_markIntS.f k bt318.1 1).bind fun bt336 => ((laws_heldIntS.f k bt336.2 1).bind fun t338 => (if t338 < 0 then (some false) else (if t338 = bt336.1 then ((laws_toIntS.f k l0).bind fun t339 => ((laws_toDeltaS.f k l1).bind fun t342 => ((impl_ApplyDeltas.f k t339 t342).bind fun bt345 => ((laws_eqIntS.f k bt345.1 t308).bind fun t349 => (if t349 = true then (if (bt345.2 != t309) = true then (some false) else ((laws_heldIntS.f k bt336.2 1).bind fun t350 => (if t350 < 0 then (some false) else (if t350 = bt336.1 then (some true) else (some false))))) else (some false)))))) else (some false))))) else (some false)))))) else (some false)))) else (some false))))) else (some false)))))) = some r := H
      have A8 := Aside0.mk A80
      clear A80
      replace H := Option.bind_eq_some_iff.mp H
      obtain ⟨t312, A90, H⟩ := H
      replace H : ((laws_toDeltaS.f k l1).bind fun t315 => ((impl_ApplyDeltas.f k t312 t315).bind fun bt318 => ((laws_eqIntS.f k bt318.1 t308).bind fun t322 => (if t322 = true then (if (bt318.2 != t309) = true then (some false) else ((laws_toIntS.f k l0).bind fun t323 => ((laws_eqIntS.f k t312 t323).bind fun t326 => (if t326 = true then ((laws_toDeltaS.f k l1).bind fun t327 => ((laws_eqDeltaS.f k t315 t327).bind fun t330 => (if t330 = true then ((laws_markIntS.f k t312 1).bind fun bt331 => ((laws_markDeltaS.f k t315 bt331.1).bind fun bt333 => (if bt333.1 < 0 then (some false) else ((laws_eqIntS.f k bt318.1 t308).bind fun t335 => (if t335 = true then ((laws_markIntS.f k bt318.1 1).bind fun bt336 => ((laws_heldIntS.f k bt336.2 1).bind fun t338 => (if t338 < 0 then (some false) else (if t338 = bt336.1 then ((laws_toIntS.f k l0).bind fun t339 => ((laws_toDeltaS.f k l1).bind fun t342 => ((impl_ApplyDeltas.f k t339 t342).bind fun bt345 => ((laws_eqIntS.f k bt345.1 t308).bind fun t349 => (if t349 = true then (if (bt345.2 != t309) = true then (some false) else ((laws_heldIntS.f k bt336.2 1).bind fun t350 => (if t350 < 0 then (some false) else (if t350 = bt336.1 then (some true) else (some false))))) else (some false)))))) else (some false))))) else (some false)))))) else (some false)))) else (some false))))) else (some false))))) = some r := H
      have A9 := Aside0.mk A90
      clear A90
      replace H := Option.bind_eq_some_iff.mp H
      obtain ⟨t315, A100, H⟩ := H
      replace H : ((impl_ApplyDeltas.f k t312 t315).bind fun bt318 => ((laws_eqIntS.f k bt318.1 t308).bind fun t322 => (if t322 = true then (if (bt318.2 != t309) = true then (some false) else ((laws_toIntS.f k l0).bind fun t323 => ((laws_eqIntS.f k t312 t323).bind fun t326 => (if t326 = true then ((laws_toDeltaS.f k l1).bind fun t327 => ((laws_eqDeltaS.f k t315 t327).bind fun t330 => (if t330 = true then ((laws_markIntS.f k t312 1).bind fun bt331 => ((laws_markDeltaS.f k t315 bt331.1).bind fun bt333 => (if bt333.1 < 0 then (some false) else ((laws_eqIntS.f k bt318.1 t308).bind fun t335 => (if t335 = true then ((laws_markIntS.f k bt318.1 1).bind fun bt336 => ((laws_heldIntS.f k bt336.2 1).bind fun t338 => (if t338 < 0 then (some false) else (if t338 = bt336.1 then ((laws_toIntS.f k l0).bind fun t339 => ((laws_toDeltaS.f k l1).bind fun t342 => ((impl_ApplyDeltas.f k t339 t342).bind fun bt345 => ((laws_eqIntS.f k bt345.1 t308).bind fun t349 => (if t349 = true then (if (bt345.2 != t309) = true then (some false) else ((laws_heldIntS.f k bt336.2 1).bind fun t350 => (if t350 < 0 then (some false) else (if t350 = bt336.1 then (some true) else (some false))))) else (some false)))))) else (some false))))) else (some false)))))) else (some false)))) else (some false))))) else (some false)))) = some r := H
      have A10 := Aside0.mk A100
      clear A100
      replace H := Option.bind_eq_some_iff.mp H
      obtain ⟨⟨t318, t319⟩, A110, H⟩ := H
      replace H : ((laws_eqIntS.f k t318 t308).bind fun t322 => (if t322 = true then (if (t319 != t309) = true then (some false) else ((laws_toIntS.f k l0).bind fun t323 => ((laws_eqIntS.f k t312 t323).bind fun t326 => (if t326 = true then ((laws_toDeltaS.f k l1).bind fun t327 => ((laws_eqDeltaS.f k t315 t327).bind fun t330 => (if t330 = true then ((laws_markIntS.f k t312 1).bind fun bt331 => ((laws_markDeltaS.f k t315 bt331.1).bind fun bt333 => (if bt333.1 < 0 then (some false) else ((laws_eqIntS.f k t318 t308).bind fun t335 => (if t335 = true then ((laws_markIntS.f k t318 1).bind fun bt336 => ((laws_heldIntS.f k bt336.2 1).bind fun t338 => (if t338 < 0 then (some false) else (if t338 = bt336.1 then ((laws_toIntS.f k l0).bind fun t339 => ((laws_toDeltaS.f k l1).bind fun t342 => ((impl_ApplyDeltas.f k t339 t342).bind fun bt345 => ((laws_eqIntS.f k bt345.1 t308).bind fun t349 => (if t349 = true then (if (bt345.2 != t309) = true then (some false) else ((laws_heldIntS.f k bt336.2 1).bind fun t350 => (if t350 < 0 then (some false) else (if t350 = bt336.1 then (some true) else (some false))))) else (some false)))))) else (some false))))) else (some false)))))) else (some false)))) else (some false))))) else (some false))) = some r := H
      have A11 := Aside0.mk A110
      clear A110
      replace H := Option.bind_eq_some_iff.mp H
      obtain ⟨t322, A120, H⟩ := H
      replace H : (if t322 = true then (if (t319 != t309) = true then (some false) else ((laws_toIntS.f k l0).bind fun t323 => ((laws_eqIntS.f k t312 t323).bind fun t326 => (if t326 = true then ((laws_toDeltaS.f k l1).bind fun t327 => ((laws_eqDeltaS.f k t315 t327).bind fun t330 => (if t330 = true then ((laws_markIntS.f k t312 1).bind fun bt331 => ((laws_markDeltaS.f k t315 bt331.1).bind fun bt333 => (if bt333.1 < 0 then (some false) else ((laws_eqIntS.f k t318 t308).bind fun t335 => (if t335 = true then ((laws_markIntS.f k t318 1).bind fun bt336 => ((laws_heldIntS.f k bt336.2 1).bind fun t338 => (if t338 < 0 then (some false) else (if t338 = bt336.1 then ((laws_toIntS.f k l0).bind fun t339 => ((laws_toDeltaS.f k l1).bind fun t342 => ((impl_ApplyDeltas.f k t339 t342).bind fun bt345 => ((laws_eqIntS.f k bt345.1 t308).bind fun t349 => (if t349 = true then (if (bt345.2 != t309) = true then (some false) else ((laws_heldIntS.f k bt336.2 1).bind fun t350 => (if t350 < 0 then (some false) else (if t350 = bt336.1 then (some true) else (some false))))) else (some false)))))) else (some false))))) else (some false)))))) else (some false)))) else (some false))))) else (some false)) = some r := H
      have A12 := Aside0.mk A120
      clear A120
      by_cases c13 : t322 = true
      · subst c13
        have H1 : (if (t319 != t309) = true then (some false) else ((laws_toIntS.f k l0).bind fun t323 => ((laws_eqIntS.f k t312 t323).bind fun t326 => (if t326 = true then ((laws_toDeltaS.f k l1).bind fun t327 => ((laws_eqDeltaS.f k t315 t327).bind fun t330 => (if t330 = true then ((laws_markIntS.f k t312 1).bind fun bt331 => ((laws_markDeltaS.f k t315 bt331.1).bind fun bt333 => (if bt333.1 < 0 then (some false) else ((laws_eqIntS.f k t318 t308).bind fun t335 => (if t335 = true then ((laws_markIntS.f k t318 1).bind fun bt336 => ((laws_heldIntS.f k bt336.2 1).bind fun t338 => (if t338 < 0 then (some false) else (if t338 = bt336.1 then ((laws_toIntS.f k l0).bind fun t339 => ((laws_toDeltaS.f k l1).bind fun t342 => ((impl_ApplyDeltas.f k t339 t342).bind fun bt345 => ((laws_eqIntS.f k bt345.1 t308).bind fun t349 => (if t349 = true then (if (bt345.2 != t309) = true then (some false) else ((laws_heldIntS.f k bt336.2 1).bind fun t350 => (if t350 < 0 then (some false) else (if t350 = bt336.1 then (some true) else (some false))))) else (some false)))))) else (some false))))) else (some false)))))) else (some false)))) else (some false))))) = some r := by rw [if_pos rfl] at H; exact H
        clear H
        have H := H1
        clear H1
        by_cases c14 : (t319 != t309) = true
        · rw [if_pos c14] at H
          have c14b0 : (t319 != t309) = true := c14
          (try (have c14b1 : decide (t319 = t309) = false := by simpa using c14))
          (try (have c14b2 : (t319 == t309) = false := by simpa using c14))
          (try (have c14b3 : ¬ (t319 = t309) := by simpa using c14))
          clear c14
          exact absurd (hrt_ ▸ H) (by simp)
        · rw [if_neg c14] at H
          have c14b0 : (t319 != t309) = false := by simpa using c14
          (try (have c14b1 : decide (t319 = t309) = true := by simpa using c14))
          (try (have c14b2 : (t319 == t309) = true := by simpa using c14))
          clear c14
          replace H := Option.bind_eq_some_iff.mp H
          obtain ⟨t323, A150, H⟩ := H
          replace H : ((laws_eqIntS.f k t312 t323).bind fun t326 => (if t326 = true then ((laws_toDeltaS.f k l1).bind fun t327 => ((laws_eqDeltaS.f k t315 t327).bind fun t330 => (if t330 = true then ((laws_markIntS.f k t312 1).bind fun bt331 => ((laws_markDeltaS.f k t315 bt331.1).bind fun bt333 => (if bt333.1 < 0 then (some false) else ((laws_eqIntS.f k t318 t308).bind fun t335 => (if t335 = true then ((laws_markIntS.f k t318 1).bind fun bt336 => ((laws_heldIntS.f k bt336.2 1).bind fun t338 => (if t338 < 0 then (some false) else (if t338 = bt336.1 then ((laws_toIntS.f k l0).bind fun t339 => ((laws_toDeltaS.f k l1).bind fun t342 => ((impl_ApplyDeltas.f k t339 t342).bind fun bt345 => ((laws_eqIntS.f k bt345.1 t308).bind fun t349 => (if t349 = true then (if (bt345.2 != t309) = true then (some false) else ((laws_heldIntS.f k bt336.2 1).bind fun t350 => (if t350 < 0 then (some false) else (if t350 = bt336.1 then (some true) else (some false))))) else (some false)))))) else (some false))))) else (some false)))))) else (some false)))) else (some false))) = some r := H
          have A15 := Aside0.mk A150
          clear A150
          replace H := Option.bind_eq_some_iff.mp H
          obtain ⟨t326, A160, H⟩ := H
          replace H : (if t326 = true then ((laws_toDeltaS.f k l1).bind fun t327 => ((laws_eqDeltaS.f k t315 t327).bind fun t330 => (if t330 = true then ((laws_markIntS.f k t312 1).bind fun bt331 => ((laws_markDeltaS.f k t315 bt331.1).bind fun bt333 => (if bt333.1 < 0 then (some false) else ((laws_eqIntS.f k t318 t308).bind fun t335 => (if t335 = true then ((laws_markIntS.f k t318 1).bind fun bt336 => ((laws_heldIntS.f k bt336.2 1).bind fun t338 => (if t338 < 0 then (some false) else (if t338 = bt336.1 then ((laws_toIntS.f k l0).bind fun t339 => ((laws_toDeltaS.f k l1).bind fun t342 => ((impl_ApplyDeltas.f k t339 t342).bind fun bt345 => ((laws_eqIntS.f k bt345.1 t308).bind fun t349 => (if t349 = true then (if (bt345.2 != t309) = true then (some false) else ((laws_heldIntS.f k bt336.2 1).bind fun t350 => (if t350 < 0 then (some false) else (if t350 = bt336.1 then (some true) else (some false))))) else (some false)))))) else (some false))))) else (some false)))))) else (some false)))) else (some false)) = some r := H
          have A16 := Aside0.mk A160
          clear A160
          by_cases c17 : t326 = true
          · subst c17
            have H1 : ((laws_toDeltaS.f k l1).bind fun t327 => ((laws_eqDeltaS.f k t315 t327).bind fun t330 => (if t330 = true then ((laws_markIntS.f k t312 1).bind fun bt331 => ((laws_markDeltaS.f k t315 bt331.1).bind fun bt333 => (if bt333.1 < 0 then (some false) else ((laws_eqIntS.f k t318 t308).bind fun t335 => (if t335 = true then ((laws_markIntS.f k t318 1).bind fun bt336 => ((laws_heldIntS.f k bt336.2 1).bind fun t338 => (if t338 < 0 then (some false) else (if t338 = bt336.1 then ((laws_toIntS.f k l0).bind fun t339 => ((laws_toDeltaS.f k l1).bind fun t342 => ((impl_ApplyDeltas.f k t339 t342).bind fun bt345 => ((laws_eqIntS.f k bt345.1 t308).bind fun t349 => (if t349 = true then (if (bt345.2 != t309) = true then (some false) else ((laws_heldIntS.f k bt336.2 1).bind fun t350 => (if t350 < 0 then (some false) else (if t350 = bt336.1 then (some true) else (some false))))) else (some false)))))) else (some false))))) else (some false)))))) else (some false)))) = some r := by rw [if_pos rfl] at H; exact H
            clear H
            have H := H1
            clear H1
            replace H := Option.bind_eq_some_iff.mp H
            obtain ⟨t327, A180, H⟩ := H
            replace H : ((laws_eqDeltaS.f k t315 t327).bind fun t330 => (if t330 = true then ((laws_markIntS.f k t312 1).bind fun bt331 => ((laws_markDeltaS.f k t315 bt331.1).bind fun bt333 => (if bt333.1 < 0 then (some false) else ((laws_eqIntS.f k t318 t308).bind fun t335 => (if t335 = true then ((laws_markIntS.f k t318 1).bind fun bt336 => ((laws_heldIntS.f k bt336.2 1).bind fun t338 => (if t338 < 0 then (some false) else (if t338 = bt336.1 then ((laws_toIntS.f k l0).bind fun t339 => ((laws_toDeltaS.f k l1).bind fun t342 => ((impl_ApplyDeltas.f k t339 t342).bind fun bt345 => ((laws_eqIntS.f k bt345.1 t308).bind fun t349 => (if t349 = true then (if (bt345.2 != t309) = true then (some false) else ((laws_heldIntS.f k bt336.2 1).bind fun t350 => (if t350 < 0 then (some false) else (if t350 = bt336.1 then (some true) else (some false))))) else (some false)))))) else (some false))))) else (some false)))))) else (some false))) = some r := H
            have A18 := Aside0.mk A180
            clear A180
            replace H := Option.bind_eq_some_iff.mp H
            obtain ⟨t330, A190, H⟩ := H
            replace H : (if t330 = true then ((laws_markIntS.f k t312 1).bind fun bt331 => ((laws_markDeltaS.f k t315 bt331.1).bind fun bt333 => (if bt333.1 < 0 then (some false) else ((laws_eqIntS.f k t318 t308).bind fun t335 => (if t335 = true then ((laws_markIntS.f k t318 1).bind fun bt336 => ((laws_heldIntS.f k bt336.2 1).bind fun t338 => (if t338 < 0 then (some false) else (if t338 = bt336.1 then ((laws_toIntS.f k l0).bind fun t339 => ((laws_toDeltaS.f k l1).bind fun t342 => ((impl_ApplyDeltas.f k t339 t342).bind fun bt345 => ((laws_eqIntS.f k bt345.1 t308).bind fun t349 => (if t349 = true then (if (bt345.2 != t309) = true then (some false) else ((laws_heldIntS.f k bt336.2 1).bind fun t350 => (if t350 < 0 then (some false) else (if t350 = bt336.1 then (some true) else (some false))))) else (some false)))))) else (some false))))) else (some false)))))) else (some false)) = some r := H
            have A19 := Aside0.mk A190
            clear A190
            by_cases c20 : t330 = true
            · subst c20
              have H1 : ((laws_markIntS.f k t312 1).bind fun bt331 => ((laws_markDeltaS.f k t315 bt331.1).bind fun bt333 => (if bt333.1 < 0 then (some false) else ((laws_eqIntS.f k t318 t308).bind fun t335 => (if t335 = true then ((laws_markIntS.f k t318 1).bind fun bt336 => ((laws_heldIntS.f k bt336.2 1).bind fun t338 => (if t338 < 0 then (some false) else (if t338 = bt336.1 then ((laws_toIntS.f k l0).bind fun t339 => ((laws_toDeltaS.f k l1).bind fun t342 => ((impl_ApplyDeltas.f k t339 t342).bind fun bt345 => ((laws_eqIntS.f k bt345.1 t308).bind fun t349 => (if t349 = true then (if (bt345.2 != t309) = true then (some false) else ((laws_heldIntS.f k bt336.2 1).bind fun t350 => (if t350 < 0 then (some false) else (if t350 = bt336.1 then (some true) else (some false))))) else (some false)))))) else (some false))))) else (some false)))))) = some r := by rw [if_pos rfl] at H; exact H
              clear H
              have H := H1
              clear H1
              replace H := Option.bind_eq_some_iff.mp H
              obtain ⟨⟨t331, t332⟩, A210, H⟩ := H
              replace H : ((laws_markDeltaS.f k t315 t331).bind fun bt333 => (if bt333.1 < 0 then (some false) else ((laws_eqIntS.f k t318 t308).bind fun t335 => (if t335 = true then ((laws_markIntS.f k t318 1).bind fun bt336 => ((laws_heldIntS.f k bt336.2 1).bind fun t338 => (if t338 < 0 then (some false) else (if t338 = bt336.1 then ((laws_toIntS.f k l0).bind fun t339 => ((laws_toDeltaS.f k l1).bind fun t342 => ((impl_ApplyDeltas.f k t339 t342).bind fun bt345 => ((laws_eqIntS.f k bt345.1 t308).bind fun t349 => (if t349 = true then (if (bt345.2 != t309) = true then (some false) else ((laws_heldIntS.f k bt336.2 1).bind fun t350 => (if t350 < 0 then (some false) else (if t350 = bt336.1 then (some true) else (some false))))) else (some false)))))) else (some false))))) else (some false))))) = some r := H
              have A21 := Aside0.mk A210
              clear A210
              replace H := Option.bind_eq_some_iff.mp H
              obtain ⟨⟨t333, t334⟩, A220, H⟩ := H
              replace H : (if t333 < 0 then (some false) else ((laws_eqIntS.f k t318 t308).bind fun t335 => (if t335 = true then ((laws_markIntS.f k t318 1).bind fun bt336 => ((laws_heldIntS.f k bt336.2 1).bind fun t338 => (if t338 < 0 then (some false) else (if t338 = bt336.1 then ((laws_toIntS.f k l0).bind fun t339 => ((laws_toDeltaS.f k l1).bind fun t342 => ((impl_ApplyDeltas.f k t339 t342).bind fun bt345 => ((laws_eqIntS.f k bt345.1 t308).bind fun t349 => (if t349 = true then (if (bt345.2 != t309) = true then (some false) else ((laws_heldIntS.f k bt336.2 1).bind fun t350 => (if t350 < 0 then (some false) else (if t350 = bt336.1 then (some true) else (some false))))) else (some false)))))) else (some false))))) else (some false)))) = some r := H
              have A22 := Aside0.mk A220
              clear A220
              by_cases c23 : t333 < 0
              · rw [if_pos c23] at H
                have c23b0 : decide (t333 < 0) = true := decide_eq_true c23
                clear c23
                exact absurd (hrt_ ▸ H) (by simp)
              · rw [if_neg c23] at H
                have c23b0 : decide (t333 < 0) = false := decide_eq_false c23
                clear c23
                replace H := Option.bind_eq_some_iff.mp H
                obtain ⟨t335, A240, H⟩ := H
                replace H : (if t335 = true then ((laws_markIntS.f k t318 1).bind fun bt336 => ((laws_heldIntS.f k bt336.2 1).bind fun t338 => (if t338 < 0 then (some false) else (if t338 = bt336.1 then ((laws_toIntS.f k l0).bind fun t339 => ((laws_toDeltaS.f k l1).bind fun t342 => ((impl_ApplyDeltas.f k t339 t342).bind fun bt345 => ((laws_eqIntS.f k bt345.1 t308).bind fun t349 => (if t349 = true then (if (bt345.2 != t309) = true then (some false) else ((laws_heldIntS.f k bt336.2 1).bind fun t350 => (if t350 < 0 then (some false) else (if t350 = bt336.1 then (some true) else (some false))))) else (some false)))))) else (some false))))) else (some false)) = some r := H
                have A24 := Aside0.mk A240
                clear A240
                by_cases c25 : t335 = true
                · subst c25
                  have H1 : ((laws_markIntS.f k t318 1).bind fun bt336 => ((laws_heldIntS.f k bt336.2 1).bind fun t338 => (if t338 < 0 then (some false) else (if t338 = bt336.1 then ((laws_toIntS.f k l0).bind fun t339 => ((laws_toDeltaS.f k l1).bind fun t342 => ((impl_ApplyDeltas.f k t339 t342).bind fun bt345 => ((laws_eqIntS.f k bt345.1 t308).bind fun t349 => (if t349 = true then (if (bt345.2 != t309) = true then (some false) else ((laws_heldIntS.f k bt336.2 1).bind fun t350 => (if t350 < 0 then (some false) else (if t350 = bt336.1 then (some true) else (some false))))) else (some false)))))) else (some false))))) = some r := by rw [if_pos rfl] at H; exact H
                  clear H
                  have H := H1
                  clear H1
                  replace H := Option.bind_eq_some_iff.mp H
                  obtain ⟨⟨t336, t337⟩, A260, H⟩ := H
                  replace H : ((laws_heldIntS.f k t337 1).bind fun t338 => (if t338 < 0 then (some false) else (if t338 = t336 then ((laws_toIntS.f k l0).bind fun t339 => ((laws_toDeltaS.f k l1).bind fun t342 => ((impl_ApplyDeltas.f k t339 t342).bind fun bt345 => ((laws_eqIntS.f k bt345.1 t308).bind fun t349 => (if t349 = true then (if (bt345.2 != t309) = true then (some false) else ((laws_heldIntS.f k t337 1).bind fun t350 => (if t350 < 0 then (some false) else (if t350 = t336 then (some true) else (some false))))) else (some false)))))) else (some false)))) = some r := H
                  have A26 := Aside0.mk A260
                  clear A260
                  replace H := Option.bind_eq_some_iff.mp H
                  obtain ⟨t338, A270, H⟩ := H
                  replace H : (if t338 < 0 then (some false) else (if t338 = t336 then ((laws_toIntS.f k l0).bind fun t339 => ((laws_toDeltaS.f k l1).bind fun t342 => ((impl_ApplyDeltas.f k t339 t342).bind fun bt345 => ((laws_eqIntS.f k bt345.1 t308).bind fun t349 => (if t349 = true then (if (bt345.2 != t309) = true then (some false) else ((laws_heldIntS.f k t337 1).bind fun t350 => (if t350 < 0 then (some false) else (if t350 = t336 then (some true) else (some false))))) else (some false)))))) else (some false))) = some r := H
                  have A27 := Aside0.mk A270
                  clear A270
                  by_cases c28 : t338 < 0
                  · rw [if_pos c28] at H
                    have c28b0 : decide (t338 < 0) = true := decide_eq_true c28
                    clear c28
                    exact absurd (hrt_ ▸ H) (by simp)
                  · rw [if_neg c28] at H
                    have c28b0 : decide (t338 < 0) = false := decide_eq_false c28
                    clear c28
                    by_cases c29 : t338 = t336
                    · rw [if_pos c29] at H
                      have c29b0 : (t338 == t336) = true := beq_iff_eq.mpr c29
                      have c29b1 : (t338 != t336) = false := bne_eq_false_iff_eq.mpr c29
                      clear c29
                      replace H := Option.bind_eq_some_iff.mp H
                      obtain ⟨t339, A300, H⟩ := H
                      replace H : ((laws_toDeltaS.f k l1).bind fun t342 => ((impl_ApplyDeltas.f k t339 t342).bind fun bt345 => ((laws_eqIntS.f k bt345.1 t308).bind fun t349 => (if t349 = true then (if (bt345.2 != t309) = true then (some false) else ((laws_heldIntS.f k t337 1).bind fun t350 => (if t350 < 0 then (some false) else (if t350 = t336 then (some true) else (some false))))) else (some false))))) = some r := H
                      have A30 := Aside0.mk A300
                      clear A300
                      replace H := Option.bind_eq_some_iff.mp H
                      obtain ⟨t342, A310, H⟩ := H
                      replace H : ((impl_ApplyDeltas.f k t339 t342).bind fun bt345 => ((laws_eqIntS.f k bt345.1 t308).bind fun t349 => (if t349 = true then (if (bt345.2 != t309) = true then (some false) else ((laws_heldIntS.f k t337 1).bind fun t350 => (if t350 < 0 then (some false) else (if t350 = t336 then (some true) else (some false))))) else (some false)))) = some r := H
                      have A31 := Aside0.mk A310
                      clear A310
                      replace H := Option.bind_eq_some_iff.mp H
                      obtain ⟨⟨t345, t346⟩, A320, H⟩ := H
                      replace H : ((laws_eqIntS.f k t345 t308).bind fun t349 => (if t349 = true then (if (t346 != t309) = true then (some false) else ((laws_heldIntS.f k t337 1).bind fun t350 => (if t350 < 0 then (some false) else (if t350 = t336 then (some true) else (some false))))) else (some false))) = some r := H
                      have A32 := Aside0.mk A320
                      clear A320
                      replace H := Option.bind_eq_some_iff.mp H
                      obtain ⟨t349, A330, H⟩ := H
                      replace H : (if t349 = true then (if (t346 != t309) = true then (some false) else ((laws_heldIntS.f k t337 1).bind fun t350 => (if t350 < 0 then (some false) else (if t350 = t336 then (some true) else (some false))))) else (some false)) = some r := H
                      have A33 := Aside0.mk A330
                      clear A330
                      by_cases c34 : t349 = true
                      · subst c34
                        have H1 : (if (t346 != t309) = true then (some false) else ((laws_heldIntS.f k t337 1).bind fun t350 => (if t350 < 0 then (some false) else (if t350 = t336 then (some true) else (some false))))) = some r := by rw [if_pos rfl] at H; exact H
                        clear H
                        have H := H1
                        clear H1
                        by_cases c35 : (t346 != t309) = true
                        · rw [if_pos c35] at H
                          have c35b0 : (t346 != t309) = true := c35
                          (try (have c35b1 : decide (t346 = t309) = false := by simpa using c35))
                          (try (have c35b2 : (t346 == t309) = false := by simpa using c35))
                          (try (have c35b3 : ¬ (t346 = t309) := by simpa using c35))
                          clear c35
                          exact absurd (hrt_ ▸ H) (by simp)
                        · rw [if_neg c35] at H
                          have c35b0 : (t346 != t309) = false := by simpa using c35
                          (try (have c35b1 : decide (t346 = t309) = true := by simpa using c35))
                          (try (have c35b2 : (t346 == t309) = true := by simpa using c35))
                          clear c35
                          replace H := Option.bind_eq_some_iff.mp H
                          obtain ⟨t350, A360, H⟩ := H
                          replace H : (if t350 < 0 then (some false) else (if t350 = t336 then (some true) else (some false))) = some r := H
                          have A36 := Aside0.mk A360
                          clear A360
                          by_cases c37 : t350 < 0
                          · rw [if_pos c37] at H
                            have c37b0 : decide (t350 < 0) = true := decide_eq_true c37
                            clear c37
                            exact absurd (hrt_ ▸ H) (by simp)
                          · rw [if_neg c37] at H
                            have c37b0 : decide (t350 < 0) = false := decide_eq_false c37
                            clear c37
                            by_cases c38 : t350 = t336
                            · rw [if_pos c38] at H
                              have c38b0 : (t350 == t336) = true := beq_iff_eq.mpr c38
                              have c38b1 : (t350 != t336) = false := bne_eq_false_iff_eq.mpr c38
                              clear c38
                              obtain rfl := Option.some.inj H
                              go_enter Try.func6, Try.ntmps6
                              go_wp2_with (first | ((with_reducible refine gate_callee (f := 8) rfl ?_); refine goesL_ (some 22) rfl rfl Try.func8 (by kernel_rfl) rfl #[.slice A1 l1.length c1, .int .i64 1048576] rfl (by (try simp only [List.map_toArray, List.map_cons, List.map_nil]); first | done | rfl | (simp only [List.length_drop, List.length_take]; rfl)) ?_; (with_reducible refine (laws_szDeltaS.calls _ _ l1 1048576 t301 _ ?side1 ?side2 A4.out).mono ?_); (case side1 => repeat (first | exact HR1.out | (with_reducible refine Kd.C_alloc ?_ _) | (with_reducible refine Kd.C_drewN ?_ _) | (with_reducible refine Kd.C_drew ?_))); (case side2 => exact HC1.out); rintro e w' ⟨rfl, ⟨nd, rfl⟩⟩; refine ⟨_, rfl, ?_⟩) | ((with_reducible refine gate_callee (f := 20) rfl ?_); refine goesL_ (some 27) rfl rfl Try.func20 (by kernel_rfl) rfl #[.slice A0 l0.length c0] rfl (by (try simp only [List.map_toArray, List.map_cons, List.map_nil]); first | done | rfl | (simp only [List.length_drop, List.length_take]; rfl)) ?_; (with_reducible refine (laws_toIntS.calls k _ _ l0 t302 _ ?side1 ?side2 A6.out).mono ?_); (case side1 => repeat (first | exact HR0.out | (with_reducible refine Kd.C_alloc ?_ _) | (with_reducible refine Kd.C_drewN ?_ _) | (with_reducible refine Kd.C_drew ?_))); (case side2 => exact HC0.out); rintro e w39 ⟨v303, rfl, ho0, hb⟩; refine ⟨_, rfl, ?_⟩; have n0_ := Aside0.mk (Kd.R_lower ho0 (below_size (by repeat (first | (with_reducible first | exact HB.out | apply below_alloc | apply pw_below_drewN | apply below_drew1) | exact HB.out)))); have n1_ := Aside0.mk (below_step (by repeat (first | (with_reducible first | exact HB.out | apply below_alloc | apply pw_below_drewN | apply below_drew1) | exact HB.out)) hb); clear HB; have HO304 := n0_; have HB := n1_; clear n0_ n1_; (try clear hb); (try clear hb2); (try clear hk); (try clear hi); (try clear ho0)) | ((with_reducible refine gate_callee (f := 10) rfl ?_); refine goesL_ (some 29) rfl rfl Try.func10 (by kernel_rfl) rfl #[.slice A1 l1.length c1] rfl (by (try simp only [List.map_toArray, List.map_cons, List.map_nil]); first | done | rfl | (simp only [List.length_drop, List.length_take]; rfl)) ?_; (with_reducible refine (laws_toDeltaS.calls k _ _ l1 t305 _ ?side1 ?side2 A7.out).mono ?_); (case side1 => repeat (first | exact (Kd.C_below HR1.out HB.out) | (with_reducible refine Kd.C_alloc ?_ _) | (with_reducible refine Kd.C_drewN ?_ _) | (with_reducible refine Kd.C_drew ?_))); (case side2 => exact HC1.out); rintro e w40 ⟨v306, rfl, ho0, hb⟩; refine ⟨_, rfl, ?_⟩; have n0_ := Aside0.mk (Kd.R_below (by (with_reducible repeat (first | apply Kd.R_alloc | apply Kd.R_drewN | apply Kd.R_drew)); exact HO304.out) hb); have n1_ := Aside0.mk (Kd.R_lower ho0 (below_size (by repeat (first | (with_reducible first | exact HB.out | apply below_alloc | apply pw_below_drewN | apply below_drew1) | exact HB.out)))); have n2_ := Aside0.mk (below_step (by repeat (first | (with_reducible first | exact HB.out | apply below_alloc | apply pw_below_drewN | apply below_drew1) | exact HB.out)) hb); clear HO304; clear HB; have HO304 := n0_; have HO307 := n1_; have HB := n2_; clear n0_ n1_ n2_; (try clear hb); (try clear hb2); (try clear hk); (try clear hi); (try clear ho0); obtain ⟨Ao41, co41, eo41⟩ := Kd.R_slice HO304.out; subst eo41; obtain ⟨Ao42, co42, eo42⟩ := Kd.R_slice HO307.out; subst eo42) | ((with_reducible refine gate_callee (f := 19) rfl ?_); refine goesL_ (some 30) rfl rfl Try.func19 (by kernel_rfl) rfl #[.slice Ao41 t302.length co41, .slice Ao42 t305.length co42] rfl (by (try simp only [List.map_toArray, List.map_cons, List.map_nil]); first | done | rfl | (simp only [List.length_drop, List.length_take]; rfl)) ?_; (with_reducible refine (spec_ApplyDeltas.calls k _ _ t302 _ _ t305 t308 t309 _ ?side1 ?side2 ?side3 ?side4 A8.out).mono ?_); (case side1 => repeat (first | exact (Kd.R_reads' HO304.out).2.2 | (with_reducible refine Kd.C_alloc ?_ _) | (with_reducible refine Kd.C_drewN ?_ _) | (with_reducible refine Kd.C_drew ?_))); (case side2 => exact (Kd.R_reads' HO304.out).2.1); (case side3 => repeat (first | exact (Kd.R_reads' HO307.out).2.2 | (with_reducible refine Kd.C_alloc ?_ _) | (with_reducible refine Kd.C_drewN ?_ _) | (with_reducible refine Kd.C_drew ?_))); (case side4 => exact (Kd.R_reads' HO307.out).2.1); rintro e w43 ⟨v310, rfl, ho0, hb⟩; refine ⟨_, rfl, ?_⟩; have n0_ := Aside0.mk (Kd.R_elder' (by (with_reducible repeat (first | apply Kd.R_alloc | apply Kd.R_drewN | apply Kd.R_drew)); exact HO304.out) (Kd.R_base ho0) hb); have n1_ := Aside0.mk (Kd.R_below (by (with_reducible repeat (first | apply Kd.R_alloc | apply Kd.R_drewN | apply Kd.R_drew)); exact HO307.out) hb); have n2_ := Aside0.mk (Kd.R_lower (Kd.R_new' ho0 (Kd.R_lt (by (with_reducible repeat (first | apply Kd.R_alloc | apply Kd.R_drewN | apply Kd.R_drew)); exact HO304.out))) (below_size (by repeat (first | (with_reducible first | exact HB.out | apply below_alloc | apply pw_below_drewN | apply below_drew1) | exact HB.out)))); have n3_ := Aside0.mk (below_step (by repeat (first | (with_reducible first | exact HB.out | apply below_alloc | apply pw_below_drewN | apply below_drew1) | exact HB.out)) hb); clear HO304; clear HO307; clear HB; have HO304 := n0_; have HO307 := n1_; have HO311 := n2_; have HB := n3_; clear n0_ n1_ n2_ n3_; (try clear hb); (try clear hb2); (try clear hk); (try clear hi); (try clear ho0)) | ((with_reducible refine gate_callee (f := 20) rfl ?_); refine goesL_ (some 34) rfl rfl Try.func20 (by kernel_rfl) rfl #[.slice A0 l0.length c0] rfl (by (try simp only [List.map_toArray, List.map_cons, List.map_nil]); first | done | rfl | (simp only [List.length_drop, List.length_take]; rfl)) ?_; (with_reducible refine (laws_toIntS.calls k _ _ l0 t312 _ ?side1 ?side2 A9.out).mono ?_); (case side1 => repeat (first | exact (Kd.C_below HR0.out HB.out) | (with_reducible refine Kd.C_alloc ?_ _) | (with_reducible refine Kd.C_drewN ?_ _) | (with_reducible refine Kd.C_drew ?_))); (case side2 => exact HC0.out); rintro e w44 ⟨v313, rfl, ho0, hb⟩; refine ⟨_, rfl, ?_⟩; have n0_ := Aside0.mk (Kd.R_elder' (by (with_reducible repeat (first | apply Kd.R_alloc | apply Kd.R_drewN | apply Kd.R_drew)); exact HO311.out) (Kd.R_base ho0) hb); have n1_ := Aside0.mk (Kd.R_lower (Kd.R_new' ho0 (Kd.R_lt (by (with_reducible repeat (first | apply Kd.R_alloc | apply Kd.R_drewN | apply Kd.R_drew)); exact HO311.out))) (below_size (by repeat (first | (with_reducible first | exact HB.out | apply below_alloc | apply pw_below_drewN | apply below_drew1) | exact HB.out)))); have n2_ := Aside0.mk (below_step (by repeat (first | (with_reducible first | exact HB.out | apply below_alloc | apply pw_below_drewN | apply below_drew1) | exact HB.out)) hb); clear HO311; clear HB; (try clear HO304); (try clear HO307); have HO311 := n0_; have HO314 := n1_; have HB := n2_; clear n0_ n1_ n2_; (try clear hb); (try clear hb2); (try clear hk); (try clear hi); (try clear ho0)) | ((with_reducible refine gate_callee (f := 10) rfl ?_); refine goesL_ (some 36) rfl rfl Try.func10 (by kernel_rfl) rfl #[.slice A1 l1.length c1] rfl (by (try simp only [List.map_toArray, List.map_cons, List.map_nil]); first | done | rfl | (simp only [List.length_drop, List.length_take]; rfl)) ?_; (with_reducible refine (laws_toDeltaS.calls k _ _ l1 t315 _ ?side1 ?side2 A10.out).mono ?_); (case side1 => repeat (first | exact (Kd.C_below HR1.out HB.out) | (with_reducible refine Kd.C_alloc ?_ _) | (with_reducible refine Kd.C_drewN ?_ _) | (with_reducible refine Kd.C_drew ?_))); (case side2 => exact HC1.out); rintro e w45 ⟨v316, rfl, ho0, hb⟩; refine ⟨_, rfl, ?_⟩; have n0_ := Aside0.mk (Kd.R_below (by (with_reducible repeat (first | apply Kd.R_alloc | apply Kd.R_drewN | apply Kd.R_drew)); exact HO311.out) hb); have n1_ := Aside0.mk (Kd.R_below (by (with_reducible repeat (first | apply Kd.R_alloc | apply Kd.R_drewN | apply Kd.R_drew)); exact HO314.out) hb); have n2_ := Aside0.mk (Kd.R_lower ho0 (below_size (by repeat (first | (with_reducible first | exact HB.out | apply below_alloc | apply pw_below_drewN | apply below_drew1) | exact HB.out)))); have n3_ := Aside0.mk (below_step (by repeat (first | (with_reducible first | exact HB.out | apply below_alloc | apply pw_below_drewN | apply below_drew1) | exact HB.out)) hb); clear HO311; clear HO314; clear HB; have HO311 := n0_; have HO314 := n1_; have HO317 := n2_; have HB := n3_; clear n0_ n1_ n2_ n3_; (try clear hb); (try clear hb2); (try clear hk); (try clear hi); (try clear ho0); obtain ⟨Ao46, co46, eo46⟩ := Kd.R_slice HO314.out; subst eo46; obtain ⟨Ao47, co47, eo47⟩ := Kd.R_slice HO317.out; subst eo47) | ((with_reducible refine gate_callee (f := 21) rfl ?_); refine goesL_ (some 40) rfl rfl Try.func21 (by kernel_rfl) rfl #[.slice Ao46 t312.length co46, .slice Ao47 t315.length co47] rfl (by (try simp only [List.map_toArray, List.map_cons, List.map_nil]); first | done | rfl | (simp only [List.length_drop, List.length_take]; rfl)) ?_; (with_reducible refine (impl_ApplyDeltas.calls k _ _ t312 _ _ t315 t318 t319 _ ?side1 ?side2 ?side3 ?side4 A11.out).mono ?_); (case side1 => repeat (first | exact (Kd.R_reads' HO314.out).2.2 | (with_reducible refine Kd.C_alloc ?_ _) | (with_reducible refine Kd.C_drewN ?_ _) | (with_reducible refine Kd.C_drew ?_))); (case side2 => exact (Kd.R_reads' HO314.out).2.1); (case side3 => repeat (first | exact (Kd.R_reads' HO317.out).2.2 | (with_reducible refine Kd.C_alloc ?_ _) | (with_reducible refine Kd.C_drewN ?_ _) | (with_reducible refine Kd.C_drew ?_))); (case side4 => exact (Kd.R_reads' HO317.out).2.1); rintro e w48 ⟨v320, rfl, ho0, hb⟩; refine ⟨_, rfl, ?_⟩; have n0_ := Aside0.mk (Kd.R_elder' (by (with_reducible repeat (first | apply Kd.R_alloc | apply Kd.R_drewN | apply Kd.R_drew)); exact HO311.out) (Kd.R_base ho0) hb); have n1_ := Aside0.mk (Kd.R_elder' (by (with_reducible repeat (first | apply Kd.R_alloc | apply Kd.R_drewN | apply Kd.R_drew)); exact HO314.out) (Kd.R_base ho0) hb); have n2_ := Aside0.mk (Kd.R_below (by (with_reducible repeat (first | apply Kd.R_alloc | apply Kd.R_drewN | apply Kd.R_drew)); exact HO317.out) hb); have n3_ := Aside0.mk (Kd.R_lower (Kd.R_new' (Kd.R_new' ho0 (Kd.R_lt (by (with_reducible repeat (first | apply Kd.R_alloc | apply Kd.R_drewN | apply Kd.R_drew)); exact HO311.out))) (Kd.R_lt (by (with_reducible repeat (first | apply Kd.R_alloc | apply Kd.R_drewN | apply Kd.R_drew)); exact HO314.out))) (below_size (by repeat (first | (with_reducible first | exact HB.out | apply below_alloc | apply pw_below_drewN | apply below_drew1) | exact HB.out)))); have n4_ := Aside0.mk (below_step (by repeat (first | (with_reducible first | exact HB.out | apply below_alloc | apply pw_below_drewN | apply below_drew1) | exact HB.out)) hb); clear HO311; clear HO314; clear HO317; clear HB; have HO311 := n0_; have HO314 := n1_; have HO317 := n2_; have HO321 := n3_; have HB := n4_; clear n0_ n1_ n2_ n3_ n4_; (try clear hb); (try clear hb2); (try clear hk); (try clear hi); (try clear ho0); obtain ⟨Ao49, co49, eo49⟩ := Kd.R_slice HO321.out; subst eo49; obtain ⟨Ao50, co50, eo50⟩ := Kd.R_slice HO311.out; subst eo50) | ((with_reducible refine gate_callee (f := 22) rfl ?_); refine goesL_ (some 45) rfl rfl Try.func22 (by kernel_rfl) rfl #[.slice Ao49 t318.length co49, .slice Ao50 t308.length co50] rfl (by (try simp only [List.map_toArray, List.map_cons, List.map_nil]); first | done | rfl | (simp only [List.length_drop, List.length_take]; rfl)) ?_; (with_reducible refine (laws_eqIntS.calls k _ _ t318 _ _ t308 true _ ?side1 ?side2 ?side3 ?side4 A12.out).mono ?_); (case side1 => repeat (first | exact (Kd.R_reads' HO321.out).2.2 | (with_reducible refine Kd.C_alloc ?_ _) | (with_reducible refine Kd.C_drewN ?_ _) | (with_reducible refine Kd.C_drew ?_))); (case side2 => exact (Kd.R_reads' HO321.out).2.1); (case side3 => repeat (first | exact (Kd.R_reads' HO311.out).2.2 | (with_reducible refine Kd.C_alloc ?_ _) | (with_reducible refine Kd.C_drewN ?_ _) | (with_reducible refine Kd.C_drew ?_))); (case side4 => exact (Kd.R_reads' HO311.out).2.1); rintro e w' ⟨rfl, ⟨nd, rfl⟩⟩; refine ⟨_, rfl, ?_⟩) | ((with_reducible refine gate_callee (f := 20) rfl ?_); refine goesL_ (some 54) rfl rfl Try.func20 (by kernel_rfl) rfl #[.slice A0 l0.length c0] rfl (by (try simp only [List.map_toArray, List.map_cons, List.map_nil]); first | done | rfl | (simp only [List.length_drop, List.length_take]; rfl)) ?_; (with_reducible refine (laws_toIntS.calls k _ _ l0 t323 _ ?side1 ?side2 A15.out).mono ?_); (case side1 => repeat (first | exact (Kd.C_below HR0.out (by repeat (first | (with_reducible first | exact HB.out | apply below_alloc | apply pw_below_drewN | apply below_drew1) | exact HB.out))) | (with_reducible refine Kd.C_alloc ?_ _) | (with_reducible refine Kd.C_drewN ?_ _) | (with_reducible refine Kd.C_drew ?_))); (case side2 => exact HC0.out); rintro e w51 ⟨v324, rfl, ho0, hb⟩; refine ⟨_, rfl, ?_⟩; have n0_ := Aside0.mk (Kd.R_elder' (by (with_reducible repeat (first | apply Kd.R_alloc | apply Kd.R_drewN | apply Kd.R_drew)); exact HO311.out) (Kd.R_base ho0) hb); have n1_ := Aside0.mk (Kd.R_elder' (by (with_reducible repeat (first | apply Kd.R_alloc | apply Kd.R_drewN | apply Kd.R_drew)); exact HO314.out) (Kd.R_base ho0) hb); have n2_ := Aside0.mk (Kd.R_below (by (with_reducible repeat (first | apply Kd.R_alloc | apply Kd.R_drewN | apply Kd.R_drew)); exact HO317.out) hb); have n3_ := Aside0.mk (Kd.R_elder' (by (with_reducible repeat (first | apply Kd.R_alloc | apply Kd.R_drewN | apply Kd.R_drew)); exact HO321.out) (Kd.R_base ho0) hb); have n4_ := Aside0.mk (Kd.R_lower (Kd.R_new' (Kd.R_new' (Kd.R_new' ho0 (Kd.R_lt (by (with_reducible repeat (first | apply Kd.R_alloc | apply Kd.R_drewN | apply Kd.R_drew)); exact HO311.out))) (Kd.R_lt (by (with_reducible repeat (first | apply Kd.R_alloc | apply Kd.R_drewN | apply Kd.R_drew)); exact HO314.out))) (Kd.R_lt (by (with_reducible repeat (first | apply Kd.R_alloc | apply Kd.R_drewN | apply Kd.R_drew)); exact HO321.out))) (below_size (by repeat (first | (with_reducible first | exact HB.out | apply below_alloc | apply pw_below_drewN | apply below_drew1) | exact HB.out)))); have n5_ := Aside0.mk (below_step (by repeat (first | (with_reducible first | exact HB.out | apply below_alloc | apply pw_below_drewN | apply below_drew1) | exact HB.out)) hb); clear HO311; clear HO314; clear HO317; clear HO321; clear HB; have HO311 := n0_; have HO314 := n1_; have HO317 := n2_; have HO321 := n3_; have HO325 := n4_; have HB := n5_; clear n0_ n1_ n2_ n3_ n4_ n5_; (try clear hb); (try clear hb2); (try clear hk); (try clear hi); (try clear ho0); obtain ⟨Ao52, co52, eo52⟩ := Kd.R_slice HO325.out; subst eo52) | ((with_reducible refine gate_callee (f := 22) rfl ?_); refine goesL_ (some 55) rfl rfl Try.func22 (by kernel_rfl) rfl #[.slice Ao46 t312.length co46, .slice Ao52 t323.length co52] rfl (by (try simp only [List.map_toArray, List.map_cons, List.map_nil]); first | done | rfl | (simp only [List.length_drop, List.length_take]; rfl)) ?_; (with_reducible refine (laws_eqIntS.calls k _ _ t312 _ _ t323 true _ ?side1 ?side2 ?side3 ?side4 A16.out).mono ?_); (case side1 => repeat (first | exact (Kd.R_reads' HO314.out).2.2 | (with_reducible refine Kd.C_alloc ?_ _) | (with_reducible refine Kd.C_drewN ?_ _) | (with_reducible refine Kd.C_drew ?_))); (case side2 => exact (Kd.R_reads' HO314.out).2.1); (case side3 => repeat (first | exact (Kd.R_reads' HO325.out).2.2 | (with_reducible refine Kd.C_alloc ?_ _) | (with_reducible refine Kd.C_drewN ?_ _) | (with_reducible refine Kd.C_drew ?_))); (case side4 => exact (Kd.R_reads' HO325.out).2.1); rintro e w' ⟨rfl, ⟨nd, rfl⟩⟩; refine ⟨_, rfl, ?_⟩) | ((with_reducible refine gate_callee (f := 10) rfl ?_); refine goesL_ (some 59) rfl rfl Try.func10 (by kernel_rfl) rfl #[.slice A1 l1.length c1] rfl (by (try simp only [List.map_toArray, List.map_cons, List.map_nil]); first | done | rfl | (simp only [List.length_drop, List.length_take]; rfl)) ?_; (with_reducible refine (laws_toDeltaS.calls k _ _ l1 t327 _ ?side1 ?side2 A18.out).mono ?_); (case side1 => repeat (first | exact (Kd.C_below HR1.out (by repeat (first | (with_reducible first | exact HB.out | apply below_alloc | apply pw_below_drewN | apply below_drew1) | exact HB.out))) | (with_reducible refine Kd.C_alloc ?_ _) | (with_reducible refine Kd.C_drewN ?_ _) | (with_reducible refine Kd.C_drew ?_))); (case side2 => exact HC1.out); rintro e w53 ⟨v328, rfl, ho0, hb⟩; refine ⟨_, rfl, ?_⟩; have n0_ := Aside0.mk (Kd.R_below (by (with_reducible repeat (first | apply Kd.R_alloc | apply Kd.R_drewN | apply Kd.R_drew)); exact HO311.out) hb); have n1_ := Aside0.mk (Kd.R_below (by (with_reducible repeat (first | apply Kd.R_alloc | apply Kd.R_drewN | apply Kd.R_drew)); exact HO314.out) hb); have n2_ := Aside0.mk (Kd.R_elder' (by (with_reducible repeat (first | apply Kd.R_alloc | apply Kd.R_drewN | apply Kd.R_drew)); exact HO317.out) (Kd.R_base ho0) hb); have n3_ := Aside0.mk (Kd.R_below (by (with_reducible repeat (first | apply Kd.R_alloc | apply Kd.R_drewN | apply Kd.R_drew)); exact HO321.out) hb); have n4_ := Aside0.mk (Kd.R_lower (Kd.R_new' ho0 (Kd.R_lt (by (with_reducible repeat (first | apply Kd.R_alloc | apply Kd.R_drewN | apply Kd.R_drew)); exact HO317.out))) (below_size (by repeat (first | (with_reducible first | exact HB.out | apply below_alloc | apply pw_below_drewN | apply below_drew1) | exact HB.out)))); have n5_ := Aside0.mk (below_step (by repeat (first | (with_reducible first | exact HB.out | apply below_alloc | apply pw_below_drewN | apply below_drew1) | exact HB.out)) hb); clear HO311; clear HO314; clear HO317; clear HO321; clear HB; (try clear HO325); have HO311 := n0_; have HO314 := n1_; have HO317 := n2_; have HO321 := n3_; have HO329 := n4_; have HB := n5_; clear n0_ n1_ n2_ n3_ n4_ n5_; (try clear hb); (try clear hb2); (try clear hk); (try clear hi); (try clear ho0); obtain ⟨Ao54, co54, eo54⟩ := Kd.R_slice HO329.out; subst eo54) | ((with_reducible refine gate_callee (f := 12) rfl ?_); refine goesL_ (some 60) rfl rfl Try.func12 (by kernel_rfl) rfl #[.slice Ao47 t315.length co47, .slice Ao54 t327.length co54] rfl (by (try simp only [List.map_toArray, List.map_cons, List.map_nil]); first | done | rfl | (simp only [List.length_drop, List.length_take]; rfl)) ?_; (with_reducible refine (laws_eqDeltaS.calls k _ _ t315 _ _ t327 true _ ?side1 ?side2 ?side3 ?side4 A19.out).mono ?_); (case side1 => repeat (first | exact (Kd.R_reads' HO317.out).2.2 | (with_reducible refine Kd.C_alloc ?_ _) | (with_reducible refine Kd.C_drewN ?_ _) | (with_reducible refine Kd.C_drew ?_))); (case side2 => exact (Kd.R_reads' HO317.out).2.1); (case side3 => repeat (first | exact (Kd.R_reads' HO329.out).2.2 | (with_reducible refine Kd.C_alloc ?_ _) | (with_reducible refine Kd.C_drewN ?_ _) | (with_reducible refine Kd.C_drew ?_))); (case side4 => exact (Kd.R_reads' HO329.out).2.1); rintro e w55 ⟨rfl, hb⟩; refine ⟨_, rfl, ?_⟩; have n0_ := Aside0.mk (Kd.R_below (by (with_reducible repeat (first | apply Kd.R_alloc | apply Kd.R_drewN | apply Kd.R_drew)); exact HO311.out) hb); have n1_ := Aside0.mk (Kd.R_below (by (with_reducible repeat (first | apply Kd.R_alloc | apply Kd.R_drewN | apply Kd.R_drew)); exact HO314.out) hb); have n2_ := Aside0.mk (Kd.R_below (by (with_reducible repeat (first | apply Kd.R_alloc | apply Kd.R_drewN | apply Kd.R_drew)); exact HO317.out) hb); have n3_ := Aside0.mk (Kd.R_below (by (with_reducible repeat (first | apply Kd.R_alloc | apply Kd.R_drewN | apply Kd.R_drew)); exact HO321.out) hb); have n4_ := Aside0.mk (Kd.R_below (by (with_reducible repeat (first | apply Kd.R_alloc | apply Kd.R_drewN | apply Kd.R_drew)); exact HO329.out) hb); have n5_ := Aside0.mk (below_step (by repeat (first | (with_reducible first | exact HB.out | apply below_alloc | apply pw_below_drewN | apply below_drew1) | exact HB.out)) hb); clear HO311; clear HO314; clear HO317; clear HO321; clear HO329; clear HB; have HO311 := n0_; have HO314 := n1_; have HO317 := n2_; have HO321 := n3_; have HO329 := n4_; have HB := n5_; clear n0_ n1_ n2_ n3_ n4_ n5_; (try clear hb); (try clear hb2); (try clear hk); (try clear hi)) | ((with_reducible refine gate_callee (f := 23) rfl ?_); refine goesL_ (some 64) rfl rfl Try.func23 (by kernel_rfl) rfl #[.slice Ao46 t312.length co46, .int .i64 1] rfl (by (try simp only [List.map_toArray, List.map_cons, List.map_nil]); first | done | rfl | (simp only [List.length_drop, List.length_take]; rfl)) ?_; (with_reducible refine (laws_markIntS.calls k (fun k_ => some k_ = (.slice Ao46 t312.length co46 : Value).ownBlock) (.slice Ao46 t312.length co46) t312 1 t331 t332 w _ ?side1 ?side2 A21.out).mono ?_); (case side1 => repeat (first | (with_reducible first | exact HB.out | apply below_alloc | apply pw_below_drewN | apply below_drew1) | exact HB.out)); (case side2 => exact Kd.R_tight rfl HO314.out); rintro e w56 ⟨rfl, hy0, hb, hkp⟩; refine ⟨_, rfl, ?_⟩; have n0_ := Aside0.mk (Kd.R_mono (ok' := fun k_ => some k_ ≠ (.slice Ao46 t312.length co46 : Value).ownBlock ∧ some k_ ≠ (.slice Ao49 t318.length co49 : Value).ownBlock) (Kd.R_keptB (HO311.out) hkp (fun k_ hk_ hs_ => (hk_.1.1.2) hs_)) (fun k_ hk_ => ⟨hk_.1.1.1.2, hk_.1.1.2⟩)); have n1_ := Aside0.mk (Kd.R_reok rfl hy0 (fun k_ e_ => HO314.out.1 k_ e_)); have n2_ := Aside0.mk (Kd.R_mono (ok' := fun k_ => True) (Kd.R_keptB ((Kd.R_apart' HO317.out (Kd.R_typed HO314.out) (by decide))) hkp (fun k_ hk_ hs_ => (hk_.2) hs_)) (fun k_ hk_ => trivial)); have n3_ := Aside0.mk (Kd.R_mono (ok' := fun k_ => some k_ ≠ (.slice Ao50 t308.length co50 : Value).ownBlock ∧ some k_ ≠ (.slice Ao46 t312.length co46 : Value).ownBlock) (Kd.R_keptB (HO321.out) hkp (fun k_ hk_ hs_ => (hk_.1.2) hs_)) (fun k_ hk_ => ⟨hk_.1.1.1.2, hk_.1.1.2⟩)); have n4_ := Aside0.mk (hb); clear HO311; clear HO314; clear HO317; clear HO321; clear HB; (try clear HO329); have HO311 := n0_; have HO314 := n1_; have HO317 := n2_; have HO321 := n3_; have HB := n4_; clear n0_ n1_ n2_ n3_ n4_; (try clear hb); (try clear hkp); (try clear hy0)) | ((with_reducible refine gate_callee (f := 15) rfl ?_); refine goesL_ (some 67) rfl rfl Try.func15 (by kernel_rfl) rfl #[.slice Ao47 t315.length co47, .int .i64 t331] rfl (by (try simp only [List.map_toArray, List.map_cons, List.map_nil]); first | done | rfl | (simp only [List.length_drop, List.length_take]; rfl)) ?_; (with_reducible refine (laws_markDeltaS.calls k (fun k_ => some k_ = (.slice Ao47 t315.length co47 : Value).ownBlock) (.slice Ao47 t315.length co47) t315 t331 t333 t334 w _ ?side1 ?side2 A22.out).mono ?_); (case side1 => repeat (first | (with_reducible first | exact HB.out | apply below_alloc | apply pw_below_drewN | apply below_drew1) | exact HB.out)); (case side2 => exact Kd.R_tight rfl HO317.out); rintro e w57 ⟨rfl, hy0, hb, hkp⟩; refine ⟨_, rfl, ?_⟩; have n0_ := Aside0.mk (Kd.R_mono (ok' := fun k_ => some k_ ≠ (.slice Ao49 t318.length co49 : Value).ownBlock) (Kd.R_keptB ((Kd.R_apart' HO311.out (Kd.R_typed HO317.out) (by decide))) hkp (fun k_ hk_ hs_ => (hk_.2) hs_)) (fun k_ hk_ => hk_.1.1.2)); have n1_ := Aside0.mk (Kd.R_reok rfl hy0 (fun k_ e_ => HO317.out.1 k_ e_)); have n2_ := Aside0.mk (Kd.R_mono (ok' := fun k_ => some k_ ≠ (.slice Ao50 t308.length co50 : Value).ownBlock) (Kd.R_keptB ((Kd.R_apart' HO321.out (Kd.R_typed HO317.out) (by decide))) hkp (fun k_ hk_ hs_ => (hk_.2) hs_)) (fun k_ hk_ => hk_.1.1.1)); have n3_ := Aside0.mk (hb); clear HO311; clear HO317; clear HO321; clear HB; (try clear HO314); have HO311 := n0_; have HO317 := n1_; have HO321 := n2_; have HB := n3_; clear n0_ n1_ n2_ n3_; (try clear hb); (try clear hkp); (try clear hy0)) | (go_at_call 22; (with_reducible refine (laws_eqIntS.calls k _ _ t318 _ _ t308 true _ ?side1 ?side2 ?side3 ?side4 A24.out).mono ?_); (case side1 => repeat (first | exact (Kd.R_reads' HO321.out).2.2 | (with_reducible refine Kd.C_alloc ?_ _) | (with_reducible refine Kd.C_drewN ?_ _) | (with_reducible refine Kd.C_drew ?_))); (case side2 => exact (Kd.R_reads' HO321.out).2.1); (case side3 => repeat (first | exact (Kd.R_reads' HO311.out).2.2 | (with_reducible refine Kd.C_alloc ?_ _) | (with_reducible refine Kd.C_drewN ?_ _) | (with_reducible refine Kd.C_drew ?_))); (case side4 => exact (Kd.R_reads' HO311.out).2.1); rintro e w' ⟨rfl, ⟨nd, rfl⟩⟩) | ((with_reducible refine gate_callee (f := 23) rfl ?_); refine goesL_ (some 83) rfl rfl Try.func23 (by kernel_rfl) rfl #[.slice Ao49 t318.length co49, .int .i64 1] rfl (by (try simp only [List.map_toArray, List.map_cons, List.map_nil]); first | done | rfl | (simp only [List.length_drop, List.length_take]; rfl)) ?_; (with_reducible refine (laws_markIntS.calls k (fun k_ => some k_ = (.slice Ao49 t318.length co49 : Value).ownBlock) (.slice Ao49 t318.length co49) t318 1 t336 t337 w _ ?side1 ?side2 A26.out).mono ?_); (case side1 => repeat (first | (with_reducible first | exact HB.out | apply below_alloc | apply pw_below_drewN | apply below_drew1) | exact HB.out)); (case side2 => exact Kd.R_tight rfl HO321.out); rintro e w58 ⟨rfl, hy0, hb, hkp⟩; refine ⟨_, rfl, ?_⟩; have n0_ := Aside0.mk (Kd.R_mono (ok' := fun k_ => some k_ ≠ (.slice Ao49 t318.length co49 : Value).ownBlock) (Kd.R_keptB (HO311.out) hkp (fun k_ hk_ hs_ => (hk_) hs_)) (fun k_ hk_ => hk_.1)); have n1_ := Aside0.mk (Kd.R_reok rfl hy0 (fun k_ e_ => HO321.out.1 k_ e_)); have n2_ := Aside0.mk (hb); clear HO311; clear HO321; clear HB; (try clear HO317); have HO311 := n0_; have HO321 := n1_; have HB := n2_; clear n0_ n1_ n2_; (try clear hb); (try clear hkp); (try clear hy0)) | ((with_reducible refine gate_callee (f := 24) rfl ?_); refine goesL_ (some 86) rfl rfl Try.func24 (by kernel_rfl) rfl #[.slice Ao49 t337.length co49, .int .i64 1] rfl (by (try simp only [List.map_toArray, List.map_cons, List.map_nil]); first | done | (rw [show t337.length = t318.length from (Kd.R_reads' HO321.out).1.symm] <;> rfl) | rfl | (simp only [List.length_drop, List.length_take]; rfl)) ?_; (with_reducible refine (laws_heldIntS.calls k _ _ t337 1 t338 _ ?side1 ?side2 A27.out).mono ?_); (case side1 => repeat (first | exact (Kd.R_reads' HO321.out).2.2 | (with_reducible refine Kd.C_alloc ?_ _) | (with_reducible refine Kd.C_drewN ?_ _) | (with_reducible refine Kd.C_drew ?_))); (case side2 => rw [show t337.length = t318.length from (Kd.R_reads' HO321.out).1.symm]; exact (Kd.R_reads' HO321.out).2.1); rintro e w' ⟨rfl, ⟨nd, rfl⟩⟩; refine ⟨_, rfl, ?_⟩) | ((with_reducible refine gate_callee (f := 20) rfl ?_); refine goesL_ (some 94) rfl rfl Try.func20 (by kernel_rfl) rfl #[.slice A0 l0.length c0] rfl (by (try simp only [List.map_toArray, List.map_cons, List.map_nil]); first | done | rfl | (simp only [List.length_drop, List.length_take]; rfl)) ?_; (with_reducible refine (laws_toIntS.calls k _ _ l0 t339 _ ?side1 ?side2 A30.out).mono ?_); (case side1 => repeat (first | exact (Kd.C_below HR0.out (by repeat (first | (with_reducible first | exact HB.out | apply below_alloc | apply pw_below_drewN | apply below_drew1) | exact HB.out))) | (with_reducible refine Kd.C_alloc ?_ _) | (with_reducible refine Kd.C_drewN ?_ _) | (with_reducible refine Kd.C_drew ?_))); (case side2 => exact HC0.out); rintro e w59 ⟨v340, rfl, ho0, hb⟩; refine ⟨_, rfl, ?_⟩; have n0_ := Aside0.mk (Kd.R_elder' (by (with_reducible repeat (first | apply Kd.R_alloc | apply Kd.R_drewN | apply Kd.R_drew)); exact HO311.out) (Kd.R_base ho0) hb); have n1_ := Aside0.mk (Kd.R_elder' (by (with_reducible repeat (first | apply Kd.R_alloc | apply Kd.R_drewN | apply Kd.R_drew)); exact HO321.out) (Kd.R_base ho0) hb); have n2_ := Aside0.mk (Kd.R_lower (Kd.R_new' (Kd.R_new' ho0 (Kd.R_lt (by (with_reducible repeat (first | apply Kd.R_alloc | apply Kd.R_drewN | apply Kd.R_drew)); exact HO311.out))) (Kd.R_lt (by (with_reducible repeat (first | apply Kd.R_alloc | apply Kd.R_drewN | apply Kd.R_drew)); exact HO321.out))) (below_size (by repeat (first | (with_reducible first | exact HB.out | apply below_alloc | apply pw_below_drewN | apply below_drew1) | exact HB.out)))); have n3_ := Aside0.mk (below_step (by repeat (first | (with_reducible first | exact HB.out | apply below_alloc | apply pw_below_drewN | apply below_drew1) | exact HB.out)) hb); clear HO311; clear HO321; clear HB; have HO311 := n0_; have HO321 := n1_; have HO341 := n2_; have HB := n3_; clear n0_ n1_ n2_ n3_; (try clear hb); (try clear hb2); (try clear hk); (try clear hi); (try clear ho0)) | ((with_reducible refine gate_callee (f := 10) rfl ?_); refine goesL_ (some 96) rfl rfl Try.func10 (by kernel_rfl) rfl #[.slice A1 l1.length c1] rfl (by (try simp only [List.map_toArray, List.map_cons, List.map_nil]); first | done | rfl | (simp only [List.length_drop, List.length_take]; rfl)) ?_; (with_reducible refine (laws_toDeltaS.calls k _ _ l1 t342 _ ?side1 ?side2 A31.out).mono ?_); (case side1 => repeat (first | exact (Kd.C_below HR1.out HB.out) | (with_reducible refine Kd.C_alloc ?_ _) | (with_reducible refine Kd.C_drewN ?_ _) | (with_reducible refine Kd.C_drew ?_))); (case side2 => exact HC1.out); rintro e w60 ⟨v343, rfl, ho0, hb⟩; refine ⟨_, rfl, ?_⟩; have n0_ := Aside0.mk (Kd.R_below (by (with_reducible repeat (first | apply Kd.R_alloc | apply Kd.R_drewN | apply Kd.R_drew)); exact HO311.out) hb); have n1_ := Aside0.mk (Kd.R_below (by (with_reducible repeat (first | apply Kd.R_alloc | apply Kd.R_drewN | apply Kd.R_drew)); exact HO321.out) hb); have n2_ := Aside0.mk (Kd.R_below (by (with_reducible repeat (first | apply Kd.R_alloc | apply Kd.R_drewN | apply Kd.R_drew)); exact HO341.out) hb); have n3_ := Aside0.mk (Kd.R_lower ho0 (below_size (by repeat (first | (with_reducible first | exact HB.out | apply below_alloc | apply pw_below_drewN | apply below_drew1) | exact HB.out)))); have n4_ := Aside0.mk (below_step (by repeat (first | (with_reducible first | exact HB.out | apply below_alloc | apply pw_below_drewN | apply below_drew1) | exact HB.out)) hb); clear HO311; clear HO321; clear HO341; clear HB; have HO311 := n0_; have HO321 := n1_; have HO341 := n2_; have HO344 := n3_; have HB := n4_; clear n0_ n1_ n2_ n3_ n4_; (try clear hb); (try clear hb2); (try clear hk); (try clear hi); (try clear ho0); obtain ⟨Ao61, co61, eo61⟩ := Kd.R_slice HO341.out; subst eo61; obtain ⟨Ao62, co62, eo62⟩ := Kd.R_slice HO344.out; subst eo62) | ((with_reducible refine gate_callee (f := 21) rfl ?_); refine goesL_ (some 97) rfl rfl Try.func21 (by kernel_rfl) rfl #[.slice Ao61 t339.length co61, .slice Ao62 t342.length co62] rfl (by (try simp only [List.map_toArray, List.map_cons, List.map_nil]); first | done | rfl | (simp only [List.length_drop, List.length_take]; rfl)) ?_; (with_reducible refine (impl_ApplyDeltas.calls k _ _ t339 _ _ t342 t345 t346 _ ?side1 ?side2 ?side3 ?side4 A32.out).mono ?_); (case side1 => repeat (first | exact (Kd.R_reads' HO341.out).2.2 | (with_reducible refine Kd.C_alloc ?_ _) | (with_reducible refine Kd.C_drewN ?_ _) | (with_reducible refine Kd.C_drew ?_))); (case side2 => exact (Kd.R_reads' HO341.out).2.1); (case side3 => repeat (first | exact (Kd.R_reads' HO344.out).2.2 | (with_reducible refine Kd.C_alloc ?_ _) | (with_reducible refine Kd.C_drewN ?_ _) | (with_reducible refine Kd.C_drew ?_))); (case side4 => exact (Kd.R_reads' HO344.out).2.1); rintro e w63 ⟨v347, rfl, ho0, hb⟩; refine ⟨_, rfl, ?_⟩; have n0_ := Aside0.mk (Kd.R_elder' (by (with_reducible repeat (first | apply Kd.R_alloc | apply Kd.R_drewN | apply Kd.R_drew)); exact HO311.out) (Kd.R_base ho0) hb); have n1_ := Aside0.mk (Kd.R_elder' (by (with_reducible repeat (first | apply Kd.R_alloc | apply Kd.R_drewN | apply Kd.R_drew)); exact HO321.out) (Kd.R_base ho0) hb); have n2_ := Aside0.mk (Kd.R_elder' (by (with_reducible repeat (first | apply Kd.R_alloc | apply Kd.R_drewN | apply Kd.R_drew)); exact HO341.out) (Kd.R_base ho0) hb); have n3_ := Aside0.mk (Kd.R_below (by (with_reducible repeat (first | apply Kd.R_alloc | apply Kd.R_drewN | apply Kd.R_drew)); exact HO344.out) hb); have n4_ := Aside0.mk (Kd.R_lower (Kd.R_new' (Kd.R_new' (Kd.R_new' ho0 (Kd.R_lt (by (with_reducible repeat (first | apply Kd.R_alloc | apply Kd.R_drewN | apply Kd.R_drew)); exact HO311.out))) (Kd.R_lt (by (with_reducible repeat (first | apply Kd.R_alloc | apply Kd.R_drewN | apply Kd.R_drew)); exact HO321.out))) (Kd.R_lt (by (with_reducible repeat (first | apply Kd.R_alloc | apply Kd.R_drewN | apply Kd.R_drew)); exact HO341.out))) (below_size (by repeat (first | (with_reducible first | exact HB.out | apply below_alloc | apply pw_below_drewN | apply below_drew1) | exact HB.out)))); have n5_ := Aside0.mk (below_step (by repeat (first | (with_reducible first | exact HB.out | apply below_alloc | apply pw_below_drewN | apply below_drew1) | exact HB.out)) hb); clear HO311; clear HO321; clear HO341; clear HO344; clear HB; have HO311 := n0_; have HO321 := n1_; have HO341 := n2_; have HO344 := n3_; have HO348 := n4_; have HB := n5_; clear n0_ n1_ n2_ n3_ n4_ n5_; (try clear hb); (try clear hb2); (try clear hk); (try clear hi); (try clear ho0); obtain ⟨Ao64, co64, eo64⟩ := Kd.R_slice HO348.out; subst eo64) | ((with_reducible refine gate_callee (f := 22) rfl ?_); refine goesL_ (some 102) rfl rfl Try.func22 (by kernel_rfl) rfl #[.slice Ao64 t345.length co64, .slice Ao50 t308.length co50] rfl (by (try simp only [List.map_toArray, List.map_cons, List.map_nil]); first | done | rfl | (simp only [List.length_drop, List.length_take]; rfl)) ?_; (with_reducible refine (laws_eqIntS.calls k _ _ t345 _ _ t308 true _ ?side1 ?side2 ?side3 ?side4 A33.out).mono ?_); (case side1 => repeat (first | exact (Kd.R_reads' HO348.out).2.2 | (with_reducible refine Kd.C_alloc ?_ _) | (with_reducible refine Kd.C_drewN ?_ _) | (with_reducible refine Kd.C_drew ?_))); (case side2 => exact (Kd.R_reads' HO348.out).2.1); (case side3 => repeat (first | exact (Kd.R_reads' HO311.out).2.2 | (with_reducible refine Kd.C_alloc ?_ _) | (with_reducible refine Kd.C_drewN ?_ _) | (with_reducible refine Kd.C_drew ?_))); (case side4 => exact (Kd.R_reads' HO311.out).2.1); rintro e w' ⟨rfl, ⟨nd, rfl⟩⟩; refine ⟨_, rfl, ?_⟩) | ((with_reducible refine gate_callee (f := 24) rfl ?_); refine goesL_ (some 111) rfl rfl Try.func24 (by kernel_rfl) rfl #[.slice Ao49 t337.length co49, .int .i64 1] rfl (by (try simp only [List.map_toArray, List.map_cons, List.map_nil]); first | done | (rw [show t337.length = t318.length from (Kd.R_reads' HO321.out).1.symm] <;> rfl) | rfl | (simp only [List.length_drop, List.length_take]; rfl)) ?_; (with_reducible refine (laws_heldIntS.calls k _ _ t337 1 t350 _ ?side1 ?side2 A36.out).mono ?_); (case side1 => repeat (first | exact (Kd.R_reads' HO321.out).2.2 | (with_reducible refine Kd.C_alloc ?_ _) | (with_reducible refine Kd.C_drewN ?_ _) | (with_reducible refine Kd.C_drew ?_))); (case side2 => rw [show t337.length = t318.length from (Kd.R_reads' HO321.out).1.symm]; exact (Kd.R_reads' HO321.out).2.1); rintro e w' ⟨rfl, ⟨nd, rfl⟩⟩; refine ⟨_, rfl, ?_⟩))
                              go_ret
                              exact ⟨by first | rfl | (simp [errW_none, errW_some] <;> rfl) | (simp [*, errW_none, errW_some] <;> rfl), by repeat (first | (with_reducible first | exact HB.out | apply below_alloc | apply pw_below_drewN | apply below_drew1) | exact HB.out)⟩
                            · rw [if_neg c38] at H
                              have c38b0 : (t350 == t336) = false := beq_eq_false_iff_ne.mpr c38
                              have c38b1 : (t350 != t336) = true := bne_iff_ne.mpr c38
                              exact absurd (hrt_ ▸ H) (by simp)
                      · replace c34 := Bool.eq_false_iff.mpr c34
                        subst c34
                        have H1 : (some false) = some r := by rw [if_neg (show ¬ (false = true) by decide)] at H; exact H
                        clear H
                        have H := H1
                        clear H1
                        exact absurd (hrt_ ▸ H) (by simp)
                    · rw [if_neg c29] at H
                      have c29b0 : (t338 == t336) = false := beq_eq_false_iff_ne.mpr c29
                      have c29b1 : (t338 != t336) = true := bne_iff_ne.mpr c29
                      exact absurd (hrt_ ▸ H) (by simp)
                · replace c25 := Bool.eq_false_iff.mpr c25
                  subst c25
                  have H1 : (some false) = some r := by rw [if_neg (show ¬ (false = true) by decide)] at H; exact H
                  clear H
                  have H := H1
                  clear H1
                  exact absurd (hrt_ ▸ H) (by simp)
            · replace c20 := Bool.eq_false_iff.mpr c20
              subst c20
              have H1 : (some false) = some r := by rw [if_neg (show ¬ (false = true) by decide)] at H; exact H
              clear H
              have H := H1
              clear H1
              exact absurd (hrt_ ▸ H) (by simp)
          · replace c17 := Bool.eq_false_iff.mpr c17
            subst c17
            have H1 : (some false) = some r := by rw [if_neg (show ¬ (false = true) by decide)] at H; exact H
            clear H
            have H := H1
            clear H1
            exact absurd (hrt_ ▸ H) (by simp)
      · replace c13 := Bool.eq_false_iff.mpr c13
        subst c13
        have H1 : (some false) = some r := by rw [if_neg (show ¬ (false = true) by decide)] at H; exact H
        clear H
        have H := H1
        clear H1
        exact absurd (hrt_ ▸ H) (by simp)
def laws_FnExactApplyDeltas.Pure : Prop := ∀ (l0 : List Int) (l1 : List (S49)), (l0.length * 8 ≤ 140737488351232 ∧ l0.length ≤ maxLen ∧ ∀ x3 ∈ l0, (Lit.int .i64 x3).wf = true) → (l1.length * 16 ≤ 140737488351232 ∧ l1.length ≤ maxLen ∧ ∀ x49 ∈ l1, ((Lit.int .i64 x49.f0).wf = true) ∧ ((Lit.int .i64 x49.f1).wf = true)) → ∃ k, laws_FnExactApplyDeltas.f k l0 l1 = some true
end Go.Proofs.Ythhfmolgiojahaa.P
