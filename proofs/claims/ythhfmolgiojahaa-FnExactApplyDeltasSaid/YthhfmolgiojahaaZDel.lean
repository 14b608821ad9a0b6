-- Ours: printed or written for this claim; cut to what the theorem needs.
import Derived.Test.YthhfmolgiojahaaZPx1
import Derived.Test.YthhfmolgiojahaaZPx2
import Derived.Test.YthhfmolgiojahaaZU
set_option linter.unusedVariables false
namespace Go.Proofs.Ythhfmolgiojahaa.L
open Go.RowKit Go.Proofs.Ythhfmolgiojahaa.P Go.Proofs.YthhfmolgiojahaaW.PrintWords Go.Proofs.YthhfmolgiojahaaW.PrintLast Go.Proofs.Ythhfmolgiojahaa.U
abbrev LD := S49
abbrev ID := S45
theorem ID.ext' (a b : ID) : a = b ↔ a.f0 = b.f0 ∧ a.f1 = b.f1 := by
  cases a; cases b; simp
instance : DecidableEq ID := fun a b => decidable_of_iff _ (ID.ext' a b).symm
def toD (d : LD) : ID := ⟨d.f0, d.f1⟩
theorem rdL_at {xs : List LD} {i : Nat} (h : i < xs.length) : rd_T49 xs (i : Int) = xs[i] := by
  simp [rd_T49, List.getD_eq_getElem?_getD, List.getElem?_eq_getElem h]
theorem rdI_at {xs : List ID} {i : Nat} (h : i < xs.length) : rd_T45 xs (i : Int) = xs[i] := by
  simp [rd_T45, List.getD_eq_getElem?_getD, List.getElem?_eq_getElem h]
theorem toDeltaS_ev (xs : List LD) (h : xs.length ≤ 1048576) : Ev (fun k => laws_toDeltaS.f k xs) (xs.map toD) := by
  unfold laws_toDeltaS.f
  simp only [Int.toNat_natCast]
  refine Ev.pos (by omega) ?_
  refine Ev.pos (by omega) ?_
  exact ev_fill (fun k s i => laws_toDeltaS.l0 k xs s i) xs toD (fun s => by
      simp only [laws_toDeltaS.l0]
      exact Ev.neg (by omega) (Ev.some rfl)) (by
      intro i s r hi hs hn
      simp only [laws_toDeltaS.l0, laws_toDelta.f, Option.bind_some]
      refine Ev.pos (by omega) (Ev.pos (by omega) (Ev.pos (by omega) ?_))
      rw [wrap_up hi (by omega), rdL_at hi, Int.toNat_natCast]
      exact hn) (List.replicate xs.length z45) (by simp)
theorem eqDelta_eq (a b c d : Int) : laws_eqDelta.f a b c d = some (decide ((⟨a, b⟩ : ID) = ⟨c, d⟩)) := by
  unfold laws_eqDelta.f
  by_cases h : a = c <;> by_cases h2 : b = d <;> simp [h, h2]
theorem eqDeltaS_ev (xs ys : List ID) (h : xs.length ≤ 1048576) : Ev (fun k => laws_eqDeltaS.f k xs ys) (decide (xs = ys)) := by
  unfold laws_eqDeltaS.f
  by_cases hl : xs.length = ys.length
  · refine Ev.pos (by omega) ?_
    refine eq_loop xs ys hl (fun k i => laws_eqDeltaS.l0 k xs ys i) ?_ ?_ ?_
    · simp only [laws_eqDeltaS.l0]
      exact Ev.neg (by omega) (Ev.some rfl)
    · intro i h1 h2 hne
      simp only [laws_eqDeltaS.l0, eqDelta_eq, Option.bind_some]
      rw [rdI_at h1, rdI_at h2]
      exact Ev.pos (by omega) (Ev.pos (by omega) (Ev.pos (by omega) (Ev.neg (fun h => hne (of_decide_eq_true h)) (Ev.some rfl))))
    · intro i h1 h2 r he hn
      simp only [laws_eqDeltaS.l0, eqDelta_eq, Option.bind_some]
      rw [rdI_at h1, rdI_at h2, wrap_up h1 (by omega)]
      exact Ev.pos (by omega) (Ev.pos (by omega) (Ev.pos (by omega) (Ev.pos (decide_eq_true he) hn)))
  · exact Ev.neg (by omega) (Ev.some (by
      have : xs ≠ ys := fun e => hl (by rw [e])
      simp [this]))
theorem szDeltaS_cases (l : List LD) : (∃ v : Int, laws_szDeltaS.f l 1048576 = some v ∧ v < 0) ∨ (∃ v : Int, laws_szDeltaS.f l 1048576 = some v ∧ 0 ≤ v ∧ l.length ≤ 1048576) ∨ 4611686018427387904 < l.length := by
  rcases Nat.lt_or_ge 4611686018427387904 l.length with hb | hb
  · exact Or.inr (Or.inr hb)
  · have hw : wrap64 (1048576 - (l.length : Int)) = 1048576 - (l.length : Int) := wrap_id (by omega) (by omega)
    unfold laws_szDeltaS.f
    rw [hw]
    by_cases h : (1048576 : Int) - (l.length : Int) < 0
    · rw [if_pos h]; exact Or.inl ⟨-1, rfl, by omega⟩
    · rw [if_neg h]; exact Or.inr (Or.inl ⟨_, rfl, by omega, by omega⟩)
def delB (d : ID) : Bool := (decide (0 ≤ d.f0) && decide (d.f0 < 18)) && (decide (-16 ≤ d.f1) && decide (d.f1 ≤ 16))
def delsB (l : List ID) : Bool := decide (l.length ≤ 40) && l.all delB
theorem in_eq (a b c : Int) : impl_in.f a b c = some (decide (b ≤ a) && decide (a ≤ c)) := by
  unfold impl_in.f
  by_cases h : b ≤ a <;> simp [h]
theorem l1In_eq (a b c : Int) : spec_l1In.f a b c = some (decide (b ≤ a) && decide (a ≤ c)) := by
  unfold spec_l1In.f
  by_cases h : b ≤ a <;> simp [h]
theorem l4Block_eq (a : Int) : spec_l4Block.f a = some (decide (0 ≤ a) && decide (a < 18)) := by
  unfold spec_l4Block.f
  by_cases h : a ≥ 0 <;> simp [h]
theorem areDeltas1_eq (a b : Int) : impl_areDeltas_1.f a b = some (!delB ⟨a, b⟩) := by
  unfold impl_areDeltas_1.f impl_isBlock.f delB
  rw [in_eq]
  simp only [Option.bind_some]
  by_cases h : (decide (0 ≤ a) && decide (a ≤ 17)) = true
  · rw [if_pos h, in_eq]
    simp only [Bool.and_eq_true, decide_eq_true_eq] at h
    simp [h.1, show a < 18 by omega]
  · rw [if_neg h]
    have h2 : (decide (0 ≤ a) && decide (a < 18)) = false := by
      rw [Bool.eq_false_iff]
      intro h3
      simp only [Bool.and_eq_true, decide_eq_true_eq] at h h3
      omega
    rw [h2]; rfl
theorem spec_DeltasOk_ev (l : List ID) : Ev (fun k => spec_DeltasOk.f k l) (delsB l) := by
  unfold spec_DeltasOk.f delsB
  by_cases hl : l.length ≤ 40
  · refine Ev.neg (by omega) ?_
    simp only [hl, decide_true, Bool.true_and]
    have step : ∀ i (h : i < l.length), (fun k => spec_DeltasOk.l0 (k + 1) l (i : Int)) = fun k => if delB l[i] = true then spec_DeltasOk.l0 k l ((i + 1 : Nat) : Int) else some false := by
      intro i h
      funext k
      simp only [spec_DeltasOk.l0, l4Block_eq, l1In_eq, Option.bind_some]
      rw [if_pos (by omega), if_pos (by omega), rdI_at h, wrap_up h (by omega)]
      unfold delB
      cases (decide (0 ≤ l[i].f0) && decide (l[i].f0 < 18)) <;> simp
    refine all_loop l delB (fun k i => spec_DeltasOk.l0 k l i) ?_ ?_ ?_
    · simp only [spec_DeltasOk.l0]
      exact Ev.neg (by omega) (Ev.some rfl)
    · intro i h hq
      show Ev (fun k => spec_DeltasOk.l0 (k + 1) l (i : Int)) false
      rw [step i h]
      exact Ev.neg (by simp [hq]) (Ev.some rfl)
    · intro i h r hq hn
      show Ev (fun k => spec_DeltasOk.l0 (k + 1) l (i : Int)) r
      rw [step i h]
      exact Ev.pos hq hn
  · exact Ev.pos (by omega) (Ev.some (by simp [hl]))
theorem areDeltas_ev (l : List ID) : Ev (fun k => impl_areDeltas.f k l) (delsB l) := by
  unfold impl_areDeltas.f delsB
  by_cases hl : l.length ≤ 40
  · refine Ev.pos (by omega) ?_
    obtain ⟨r, h1, h2, _⟩ := index_any l (fun d => !delB d) (fun k i => slices_IndexFunc_impl_Delta_at_areDeltas_1.l0 k l (l.length : Int) i) (by
        simp only [slices_IndexFunc_impl_Delta_at_areDeltas_1.l0]
        exact Ev.neg (by omega) (Ev.some rfl)) (by
        intro i h hq
        simp only [slices_IndexFunc_impl_Delta_at_areDeltas_1.l0, areDeltas1_eq, Option.bind_some]
        rw [rdI_at h]
        exact Ev.pos (by omega) (Ev.pos (by omega) (Ev.pos (by omega) (Ev.pos hq (Ev.some rfl))))) (by
        intro i h r hq hn
        simp only [slices_IndexFunc_impl_Delta_at_areDeltas_1.l0, areDeltas1_eq, Option.bind_some]
        rw [rdI_at h, wrap_up h (by omega)]
        exact Ev.pos (by omega) (Ev.pos (by omega) (Ev.pos (by omega) (Ev.neg (by simpa using hq) hn))))
    unfold slices_ContainsFunc_impl_Delta_at_areDeltas_1.f slices_IndexFunc_impl_Delta_at_areDeltas_1.f
    refine Ev.bind (Ev.bind h1 (Ev.some h2)) (Ev.some ?_)
    rw [Bool.eq_iff_iff]
    simp [hl]
  · exact Ev.neg (by omega) (Ev.some (by simp [hl]))
end Go.Proofs.Ythhfmolgiojahaa.L
