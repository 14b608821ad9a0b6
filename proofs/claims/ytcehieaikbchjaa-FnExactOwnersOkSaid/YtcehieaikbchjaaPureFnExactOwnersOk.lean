/- The program's OwnersOk answers what the reference's answers, for every list of whole numbers, and leaves the list as it was. No conditions. -/
import Derived.Test.YtcehieaikbchjaaPx2
import Derived.Test.YtcehieaikbchjaaU
namespace Go.Proofs.Ytcehieaikbchjaa.Pure
open Go.RowKit Go.Proofs.Ytcehieaikbchjaa.P Go.Proofs.YtcehieaikbchjaaW.PrintWords Go.Proofs.YtcehieaikbchjaaW.PrintLast Go.Proofs.Ytcehieaikbchjaa.U

theorem toIntS_ev (xs : List Int) (h : xs.length ≤ 1048576) : Ev (fun k => laws_toIntS.f k xs) xs := by
  unfold laws_toIntS.f
  simp only [Int.toNat_natCast]
  refine Ev.pos (by omega) ?_
  refine Ev.pos (by omega) ?_
  have key := ev_fill (fun k s i => laws_toIntS.l0 k xs s i) xs id (fun s => by
      simp only [laws_toIntS.l0]
      refine Ev.neg (by omega) ?_
      exact Ev.some rfl) (by
      intro i s r hi hs hn
      simp only [laws_toIntS.l0]
      refine Ev.pos (by omega) ?_
      refine Ev.pos (by omega) ?_
      refine Ev.pos (by omega) ?_
      rw [wrap_up hi (by omega), rd_at hi, Int.toNat_natCast]
      exact hn) (List.replicate xs.length 0) (by simp)
  simpa using key
theorem eqIntS_ev (xs ys : List Int) (h : xs.length ≤ 1048576) : Ev (fun k => laws_eqIntS.f k xs ys) (decide (xs = ys)) := by
  unfold laws_eqIntS.f
  by_cases hl : xs.length = ys.length
  · refine Ev.pos (by omega) ?_
    have key := ev_for (fun k i => laws_eqIntS.l0 k xs ys i) xs.length (fun i => decide (xs.drop i = ys.drop i)) (by
      intro i hi next
      simp only [laws_eqIntS.l0]
      rcases Nat.lt_or_ge i xs.length with hlt | hge
      · refine Ev.pos (by omega) ?_
        refine Ev.pos (by omega) ?_
        refine Ev.pos (by omega) ?_
        rw [rd_at hlt, rd_at (show i < ys.length by omega), wrap_up hlt (by omega)]
        rw [List.drop_eq_getElem_cons hlt, List.drop_eq_getElem_cons (show i < ys.length by omega)]
        by_cases he : xs[i] = ys[i]
        · refine Ev.pos he ?_
          simp only [List.cons.injEq, he, true_and]
          exact next hlt
        · refine Ev.neg he ?_
          exact Ev.some (by simp only [List.cons.injEq, he, false_and, decide_false])
      · refine Ev.neg (by omega) ?_
        exact Ev.some (by simp [List.drop_of_length_le hge, List.drop_of_length_le (show ys.length ≤ i by omega)])) 0 (Nat.zero_le _)
    simpa using key
  · refine Ev.neg (by omega) ?_
    exact Ev.some (by
      have : xs ≠ ys := fun e => hl (by rw [e])
      simp [this])
/-- Is a number a host, or nobody? -/
def ownB (h : Int) : Bool := decide (-1 ≤ h) && decide (h ≤ 2)
def ownersB (o : List Int) : Bool := decide (o.length ≤ 30) && o.all ownB
theorem in_eq (a b c : Int) : impl_in.f a b c = some (decide (b ≤ a) && decide (a ≤ c)) := by
  unfold impl_in.f
  by_cases h : b ≤ a <;> simp [h]
theorem l1In_eq (a b c : Int) : spec_l1In.f a b c = some (decide (b ≤ a) && decide (a ≤ c)) := by
  unfold spec_l1In.f
  by_cases h : b ≤ a <;> simp [h]
theorem spec_ev (o : List Int) : Ev (fun k => spec_OwnersOk.f k o) (ownersB o) := by
  unfold spec_OwnersOk.f ownersB
  by_cases hl : o.length ≤ 30
  · refine Ev.neg (by omega) ?_
    have key := ev_for (fun k i => spec_OwnersOk.l0 k o i) o.length (fun i => (o.drop i).all ownB) (by
      intro i hi next
      simp only [spec_OwnersOk.l0]
      rcases Nat.lt_or_ge i o.length with hlt | hge
      · refine Ev.pos (by omega) ?_
        refine Ev.pos (by omega) ?_
        rw [rd_at hlt, wrap_up hlt (by omega), l1In_eq]
        simp only [Option.bind_some]
        rw [List.drop_eq_getElem_cons hlt, List.all_cons]
        cases hb : (decide (-1 ≤ o[i]) && decide (o[i] ≤ 2)) with
        | true =>
          refine Ev.pos rfl ?_
          have := next hlt
          simpa [ownB, hb] using this
        | false =>
          refine Ev.neg (by decide) ?_
          exact Ev.some (by simp [ownB, hb])
      · refine Ev.neg (by omega) ?_
        exact Ev.some (by simp [List.drop_of_length_le hge])) 0 (Nat.zero_le _)
    simpa [hl] using key
  · refine Ev.pos (by omega) ?_
    exact Ev.some (by simp [hl])
theorem index_ev (o : List Int) (hl : o.length ≤ 30) : Ev (fun k => slices_ContainsFunc_int_int_at_51.f k o) (!o.all ownB) := by
  have key := ev_for (fun k i => slices_IndexFunc_int_int_at_51.l0 k o (o.length : Int) i) o.length (fun i => match (o.drop i).findIdx? (fun x => !ownB x) with | some j => ((i + j : Nat) : Int) | none => -1) (by
      intro i hi next
      simp only [slices_IndexFunc_int_int_at_51.l0]
      rcases Nat.lt_or_ge i o.length with hlt | hge
      · refine Ev.pos (by omega) ?_
        refine Ev.pos (by omega) ?_
        refine Ev.pos (by omega) ?_
        rw [rd_at hlt, wrap_up hlt (by omega)]
        simp only [impl_areOwners_1.f, in_eq, Option.bind_some]
        rw [List.drop_eq_getElem_cons hlt, List.findIdx?_cons]
        cases hb : (decide (-1 ≤ o[i]) && decide (o[i] ≤ 2)) with
        | true =>
          have := next hlt
          refine Ev.neg (by decide) ?_
          have hb' : (!ownB o[i]) = false := by simp [ownB, hb]
          rw [hb']
          simp only [Bool.false_eq_true, if_false]
          cases hf : (o.drop (i + 1)).findIdx? (fun x => !ownB x) with
          | none => rw [hf] at this; exact this
          | some j => rw [hf] at this; simp only [Option.map_some]; rw [show i + (j + 1) = i + 1 + j by omega]; exact this
        | false =>
          have hb' : (!ownB o[i]) = true := by simp [ownB, hb]
          refine Ev.pos (by decide) ?_
          rw [hb']
          exact Ev.some (by simp)
      · refine Ev.neg (by omega) ?_
        exact Ev.some (by simp [List.drop_of_length_le hge])) 0 (Nat.zero_le _)
  unfold slices_ContainsFunc_int_int_at_51.f slices_IndexFunc_int_int_at_51.f
  refine Ev.bind key (Ev.some ?_)
  simp only [List.drop_zero, Nat.zero_add]
  cases hf : o.findIdx? (fun x => !ownB x) with
  | none =>
    have := List.findIdx?_eq_none_iff.1 hf
    have h2 : o.all ownB = true := List.all_eq_true.2 (fun x hx => by simpa using this x hx)
    simp [h2]
  | some j =>
    have h1 : o.all ownB = false := by
      rw [Bool.eq_false_iff]
      intro h
      have h3 := List.findIdx?_eq_some_iff_getElem.1 hf
      obtain ⟨hj, hp, _⟩ := h3
      have := List.all_eq_true.1 h _ (List.getElem_mem hj)
      simp [this] at hp
    simp [h1]
theorem impl_ev (o : List Int) : Ev (fun k => impl_OwnersOk.f k o) (ownersB o) := by
  unfold impl_OwnersOk.f impl_areOwners.f ownersB
  by_cases hl : o.length ≤ 30
  · refine Ev.bind (a := ownersB o) (Ev.pos (by omega) (Ev.bind (index_ev o hl) (Ev.some ?_))) (Ev.some ?_)
    · simp [ownersB, hl]
    · simp [ownersB]
  · refine Ev.bind (a := false) (Ev.neg (by omega) (Ev.some rfl)) (Ev.some (by simp [hl]))
theorem FnExactOwnersOk : laws_FnExactOwnersOk.Pure := by
  intro o _ _ _
  refine Ev.rounds ?_
  unfold laws_FnExactOwnersOk.f
  by_cases hl : (o.length : Int) > 1048576
  · refine Ev.pos hl ?_
    exact Ev.some rfl
  · refine Ev.neg hl ?_
    have ht := toIntS_ev o (by omega)
    refine Ev.bind ht (Ev.bind (spec_ev o) (Ev.bind ht (Ev.bind (impl_ev o) ?_)))
    refine Ev.neg (by simp) ?_
    refine Ev.bind ht (Ev.bind (eqIntS_ev o o (by omega)) ?_)
    simp only [decide_true, if_true]
    exact Ev.some rfl
end Go.Proofs.Ytcehieaikbchjaa.Pure
