-- Ours: printed or written for this claim; cut to what the theorem needs.
import Derived.Test.YtcehieaikbchjaaZPx1
import Derived.Test.YtcehieaikbchjaaZU
import Derived.Test.YtcehieaikbchjaaZLint
namespace Go.Proofs.Ytcehieaikbchjaa.L
open Go.RowKit Go.Proofs.Ytcehieaikbchjaa.P Go.Proofs.YtcehieaikbchjaaW.PrintWords Go.Proofs.YtcehieaikbchjaaW.PrintLast Go.Proofs.Ytcehieaikbchjaa.U
def ownB (h : Int) : Bool := decide (-1 ≤ h) && decide (h ≤ 2)
def ownersB (o : List Int) : Bool := decide (o.length ≤ 30) && o.all ownB
theorem in_eq (a b c : Int) : impl_in.f a b c = some (decide (b ≤ a) && decide (a ≤ c)) := by
  unfold impl_in.f
  by_cases h : b ≤ a <;> simp [h]
theorem l1In_eq (a b c : Int) : spec_l1In.f a b c = some (decide (b ≤ a) && decide (a ≤ c)) := by
  unfold spec_l1In.f
  by_cases h : b ≤ a <;> simp [h]
theorem spec_ev (o : List Int) : Ev (fun k => spec_OwnersOk.f k o) (ownersB o) := by
  unfold spec_OwnersOk.f ownersB
  by_cases hl : o.length ≤ 30
  · refine Ev.neg (by omega) ?_
    have key := ev_for (fun k i => spec_OwnersOk.l0 k o i) o.length (fun i => (o.drop i).all ownB) (by
      intro i hi next
      simp only [spec_OwnersOk.l0]
      rcases Nat.lt_or_ge i o.length with hlt | hge
      · refine Ev.pos (by omega) ?_
        refine Ev.pos (by omega) ?_
        rw [rd_at hlt, wrap_up hlt (by omega), l1In_eq]
        simp only [Option.bind_some]
        rw [List.drop_eq_getElem_cons hlt, List.all_cons]
        cases hb : (decide (-1 ≤ o[i]) && decide (o[i] ≤ 2)) with
        | true =>
          refine Ev.pos rfl ?_
          have := next hlt
          simpa [ownB, hb] using this
        | false =>
          refine Ev.neg (by decide) ?_
          exact Ev.some (by simp [ownB, hb])
      · refine Ev.neg (by omega) ?_
        exact Ev.some (by simp [List.drop_of_length_le hge])) 0 (Nat.zero_le _)
    simpa [hl] using key
  · refine Ev.pos (by omega) ?_
    exact Ev.some (by simp [hl])
theorem index_ev (o : List Int) (hl : o.length ≤ 30) : Ev (fun k => slices_ContainsFunc_int_at_areOwners_1.f k o) (!o.all ownB) := by
  have key := ev_for (fun k i => slices_IndexFunc_int_at_areOwners_1.l0 k o (o.length : Int) i) o.length (fun i => match (o.drop i).findIdx? (fun x => !ownB x) with | some j => ((i + j : Nat) : Int) | none => -1) (by
      intro i hi next
      simp only [slices_IndexFunc_int_at_areOwners_1.l0]
      rcases Nat.lt_or_ge i o.length with hlt | hge
      · refine Ev.pos (by omega) ?_
        refine Ev.pos (by omega) ?_
        refine Ev.pos (by omega) ?_
        rw [rd_at hlt, wrap_up hlt (by omega)]
        simp only [impl_areOwners_1.f, in_eq, Option.bind_some]
        rw [List.drop_eq_getElem_cons hlt, List.findIdx?_cons]
        cases hb : (decide (-1 ≤ o[i]) && decide (o[i] ≤ 2)) with
        | true =>
          have := next hlt
          refine Ev.neg (by decide) ?_
          have hb' : (!ownB o[i]) = false := by simp [ownB, hb]
          rw [hb']
          simp only [Bool.false_eq_true, if_false]
          cases hf : (o.drop (i + 1)).findIdx? (fun x => !ownB x) with
          | none => rw [hf] at this; exact this
          | some j => rw [hf] at this; simp only [Option.map_some]; rw [show i + (j + 1) = i + 1 + j by omega]; exact this
        | false =>
          have hb' : (!ownB o[i]) = true := by simp [ownB, hb]
          refine Ev.pos (by decide) ?_
          rw [hb']
          exact Ev.some (by simp)
      · refine Ev.neg (by omega) ?_
        exact Ev.some (by simp [List.drop_of_length_le hge])) 0 (Nat.zero_le _)
  unfold slices_ContainsFunc_int_at_areOwners_1.f slices_IndexFunc_int_at_areOwners_1.f
  refine Ev.bind key (Ev.some ?_)
  simp only [List.drop_zero, Nat.zero_add]
  cases hf : o.findIdx? (fun x => !ownB x) with
  | none =>
    have := List.findIdx?_eq_none_iff.1 hf
    have h2 : o.all ownB = true := List.all_eq_true.2 (fun x hx => by simpa using this x hx)
    simp [h2]
  | some j =>
    have h1 : o.all ownB = false := by
      rw [Bool.eq_false_iff]
      intro h
      have h3 := List.findIdx?_eq_some_iff_getElem.1 hf
      obtain ⟨hj, hp, _⟩ := h3
      have := List.all_eq_true.1 h _ (List.getElem_mem hj)
      simp [this] at hp
    simp [h1]
end Go.Proofs.Ytcehieaikbchjaa.L
