/- The program's Shares answers what the reference's answers, for every list of whole numbers; what it answers shares no memory with what it was given. No conditions. -/
import Derived.Test.YtcehieaikbchjaaPx3
import Derived.Test.YtcehieaikbchjaaOwn
namespace Go.Proofs.Ytcehieaikbchjaa.Pure
open Go.RowKit Go.Proofs.Ytcehieaikbchjaa.P Go.Proofs.YtcehieaikbchjaaW.PrintWords Go.Proofs.YtcehieaikbchjaaW.PrintLast Go.Proofs.Ytcehieaikbchjaa.U Go.Proofs.Ytcehieaikbchjaa.L
/-- One owner counted. -/
def count1 (s : List Int) (h : Int) : List Int := if h ≥ 0 then s.set h.toNat (wrap64 (rd s h + 1)) else s
theorem count1_length (s : List Int) (h : Int) : (count1 s h).length = s.length := by unfold count1; split <;> simp
theorem spec_loop (o : List Int) (hl : o.length ≤ 30) (ho : o.all ownB = true) : ∀ s : List Int, s.length = 3 → Ev (fun k => spec_Shares.l0 k o s 0) (o.foldl count1 s) := by
  intro s hs
  have key := ev_forS (fun k s i => spec_Shares.l0 k o s i) o.length (fun _ s => s.length = 3) (fun i s => (o.drop i).foldl count1 s) (by
    intro i s hi hs next
    simp only [spec_Shares.l0]
    rcases Nat.lt_or_ge i o.length with hlt | hge
    · have hb := List.all_eq_true.1 ho _ (List.getElem_mem hlt)
      simp only [ownB, Bool.and_eq_true, decide_eq_true_eq] at hb
      refine Ev.pos (by omega) ?_
      refine Ev.pos (by omega) ?_
      rw [rd_at hlt, wrap_up hlt (by omega), List.drop_eq_getElem_cons hlt, List.foldl_cons]
      by_cases h0 : o[i] ≥ 0
      · refine Ev.pos h0 ?_
        refine Ev.pos (by omega) ?_
        refine Ev.pos (by omega) ?_
        have := next hlt (count1 s o[i]) (by rw [count1_length]; exact hs)
        unfold count1 at this ⊢
        rw [if_pos h0] at this ⊢
        exact this
      · refine Ev.neg h0 ?_
        have := next hlt (count1 s o[i]) (by rw [count1_length]; exact hs)
        unfold count1 at this ⊢
        rw [if_neg h0] at this ⊢
        exact this
    · refine Ev.neg (by omega) ?_
      exact Ev.some (by simp [List.drop_of_length_le hge])) 0 s (Nat.zero_le _) hs
  simpa using key
theorem impl_loop (o : List Int) (hl : o.length ≤ 30) (ho : o.all ownB = true) : ∀ s : List Int, s.length = 3 → Ev (fun k => impl_shares.l0 k s o (o.length : Int) 0) (o.foldl count1 s) := by
  intro s hs
  have key := ev_forS (fun k s i => impl_shares.l0 k s o (o.length : Int) i) o.length (fun _ s => s.length = 3) (fun i s => (o.drop i).foldl count1 s) (by
    intro i s hi hs next
    simp only [impl_shares.l0]
    rcases Nat.lt_or_ge i o.length with hlt | hge
    · have hb := List.all_eq_true.1 ho _ (List.getElem_mem hlt)
      simp only [ownB, Bool.and_eq_true, decide_eq_true_eq] at hb
      refine Ev.pos (by omega) ?_
      refine Ev.pos (by omega) ?_
      refine Ev.pos (by omega) ?_
      rw [rd_at hlt, wrap_up hlt (by omega), List.drop_eq_getElem_cons hlt, List.foldl_cons]
      by_cases h0 : o[i] ≥ 0
      · refine Ev.pos h0 ?_
        refine Ev.pos (by omega) ?_
        refine Ev.pos (by omega) ?_
        have := next hlt (count1 s o[i]) (by rw [count1_length]; exact hs)
        unfold count1 at this ⊢
        rw [if_pos h0] at this ⊢
        exact this
      · refine Ev.neg h0 ?_
        have := next hlt (count1 s o[i]) (by rw [count1_length]; exact hs)
        unfold count1 at this ⊢
        rw [if_neg h0] at this ⊢
        exact this
    · refine Ev.neg (by omega) ?_
      exact Ev.some (by simp [List.drop_of_length_le hge])) 0 s (Nat.zero_le _) hs
  simpa using key
def sharesV (o : List Int) : List Int := if ownersB o = true then o.foldl count1 (List.replicate 3 0) else []
theorem fold_length (o : List Int) : ∀ s : List Int, (o.foldl count1 s).length = s.length := by
  induction o with
  | nil => intro s; rfl
  | cons a o ih => intro s; rw [List.foldl_cons, ih, count1_length]
theorem sharesV_length (o : List Int) : (sharesV o).length ≤ 3 := by
  unfold sharesV
  split
  · rw [fold_length]; simp
  · simp
theorem spec_Shares_ev (o : List Int) : Ev (fun k => spec_Shares.f k o) (sharesV o) := by
  unfold spec_Shares.f sharesV
  refine Ev.bind (spec_ev o) ?_
  by_cases h : ownersB o = true
  · refine Ev.pos h ?_
    rw [if_pos h]
    unfold ownersB at h
    simp only [Bool.and_eq_true, decide_eq_true_eq] at h
    refine Ev.pos (by omega) ?_
    exact spec_loop o h.1 h.2 _ (by simp)
  · refine Ev.neg h ?_
    rw [if_neg h]
    exact Ev.some rfl
theorem impl_areOwners_ev (o : List Int) : Ev (fun k => impl_areOwners.f k o) (ownersB o) := by
  unfold impl_areOwners.f ownersB
  by_cases hl : o.length ≤ 30
  · refine Ev.pos (by omega) ?_
    refine Ev.bind (index_ev o hl) (Ev.some ?_)
    simp [hl]
  · refine Ev.neg (by omega) ?_
    exact Ev.some (by simp [hl])
theorem impl_Shares_ev (o : List Int) : Ev (fun k => impl_Shares.f k o) (sharesV o) := by
  unfold impl_Shares.f sharesV
  refine Ev.bind (impl_areOwners_ev o) ?_
  by_cases h : ownersB o = true
  · refine Ev.pos h ?_
    rw [if_pos h]
    unfold ownersB at h
    simp only [Bool.and_eq_true, decide_eq_true_eq] at h
    unfold impl_shares.f
    refine Ev.bind (Ev.pos (by omega) (impl_loop o h.1 h.2 _ (by simp))) (Ev.some rfl)
  · refine Ev.neg h ?_
    rw [if_neg h]
    exact Ev.some rfl
theorem FnExactShares : laws_FnExactShares.Pure := by
  intro o _
  refine Ev.rounds ?_
  unfold laws_FnExactShares.f
  by_cases hl : (o.length : Int) > 1048576
  · exact Ev.pos hl (Ev.some rfl)
  · refine Ev.neg hl ?_
    have ht := toIntS_ev o (by omega)
    have hv := sharesV_length o
    have he : ∀ xs : List Int, xs.length ≤ 1048576 → Ev (fun k => laws_eqIntS.f k xs xs) true := fun xs h => by simpa using eqIntS_ev xs xs h
    have hd := heldIntS_ev (sharesV o).length 1 (by omega) (by omega) (by omega)
    refine Ev.bind ht (Ev.bind (spec_Shares_ev o) (Ev.bind ht (Ev.bind (impl_Shares_ev o) (Ev.bind (he _ (by omega)) (Ev.pos rfl ?_)))))
    refine Ev.bind ht (Ev.bind (he _ (by omega)) (Ev.pos rfl ?_))
    refine Ev.bind (markIntS_ev o 1 (by omega) (by omega) (by omega)) (Ev.neg (by omega) ?_)
    refine Ev.bind (he _ (by omega)) (Ev.pos rfl ?_)
    refine Ev.bind (markIntS_ev (sharesV o) 1 (by omega) (by omega) (by omega)) ?_
    refine Ev.bind hd (Ev.neg (by omega) (Ev.pos rfl ?_))
    refine Ev.bind ht (Ev.bind (impl_Shares_ev o) (Ev.bind (he _ (by omega)) (Ev.pos rfl ?_)))
    exact Ev.bind hd (Ev.neg (by omega) (Ev.pos rfl (Ev.some rfl)))
end Go.Proofs.Ytcehieaikbchjaa.Pure
