-- Ours: printed or written for this claim; cut to what the theorem needs.
import Derived.Test.YtpngfnhkibkebaaZPx0
import Derived.Test.YtpngfnhkibkebaaZPx2
import Derived.Test.YtpngfnhkibkebaaZPx1
import Derived.Test.YtpngfnhkibkebaaZPx3
import Derived.Test.YtpngfnhkibkebaaZPx5
import Derived.Test.YtpngfnhkibkebaaZPx4
import Derived.Test.YtpngfnhkibkebaaZPx7
import Derived.Test.YtpngfnhkibkebaaZPx6
import Derived.Test.YtpngfnhkibkebaaZQta
import Derived.Test.YtpngfnhkibkebaaZU
set_option linter.unusedVariables false
namespace Go.Proofs.Ytpngfnhkibkebaa.L
open Go.RowKit Go.Proofs.Ytpngfnhkibkebaa.P Go.Proofs.YtpngfnhkibkebaaW.PrintWords Go.Proofs.YtpngfnhkibkebaaW.PrintLast Go.Proofs.YtpngfnhkibkebaaW.PrintMore Go.Proofs.Ytpngfnhkibkebaa.U
def lStep (M U : List Int) (p : Int) (s : Int) (i : Nat) : Int := if (i : Int) = p then s else wrap64 (s - mx (rd M (i : Int)) (rd U (i : Int)))
def leftIn (t : Int) (L M U : List Int) (p : Int) : Int := mn (wrap64 (rd L p - rd U p)) ((List.range L.length).foldl (lStep M U p) (wrap64 (t - rd U p)))
def leftV (t : Int) (L M U : List Int) (p : Int) : Int := if quotaB t L M U = true ∧ 0 ≤ p ∧ p < L.length then leftIn t L M U p else 0
theorem drop_range (n i : Nat) (h : i < n) : (List.range n).drop i = i :: (List.range n).drop (i + 1) := by
  rw [List.drop_eq_getElem_cons (by simpa using h)]
  simp
theorem impl_left_loop (t : Int) (L M U : List Int) (p : Int) (h1 : L.length ≤ 8) (h2 : M.length = L.length) (h3 : U.length = L.length) (hp0 : 0 ≤ p) (hp : p < L.length) : Ev (fun k => impl_Quota_left.l0 k p (wrap64 (t - rd U p)) (L.length : Int) 0 t L M U) (leftIn t L M U p) := by
  have key := ev_forS (fun k s i => impl_Quota_left.l0 k p s (L.length : Int) i t L M U) L.length (fun _ _ => True) (fun i s => mn (wrap64 (rd L p - rd U p)) (((List.range L.length).drop i).foldl (lStep M U p) s)) (by
    intro i s hi _ next
    simp only [impl_Quota_left.l0]
    rcases Nat.lt_or_ge i L.length with hlt | hge
    · refine Ev.pos (by omega) ?_
      rw [drop_range _ _ hlt, List.foldl_cons, wrap_up hlt (by omega)]
      by_cases he : (i : Int) = p
      · refine Ev.pos he ?_
        have hs : lStep M U p s i = s := by unfold lStep; rw [if_pos he]
        rw [hs]
        exact next hlt s trivial
      · refine Ev.neg he ?_
        have hs : lStep M U p s i = wrap64 (s - mx (rd M (i : Int)) (rd U (i : Int))) := by unfold lStep; rw [if_neg he]
        rw [hs]
        simp only [kept_eq t L M U i (by omega) (by omega), Option.bind_some]
        exact next hlt _ trivial
    · refine Ev.neg (by omega) (Ev.pos hp0 (Ev.pos hp (Ev.pos (by omega) (Ev.some ?_))))
      rw [List.drop_of_length_le (by simpa using hge)]
      rfl) 0 (wrap64 (t - rd U p)) (Nat.zero_le _) trivial
  simpa [leftIn] using key
theorem mn_eq (a b : Int) : (if a < b then a else b) = mn a b := by
  unfold mn
  by_cases h : a < b
  · rw [if_pos h]; first | rw [if_pos (by omega)] | rw [if_neg (by omega)]
  · rw [if_neg h]
    by_cases h2 : b < a
    · first | rw [if_pos h2] | rw [if_neg (by omega)]
    · have : a = b := by omega
      subst this; simp
theorem spec_left_loop (t : Int) (L M U : List Int) (p : Int) (h1 : L.length ≤ 8) (h2 : M.length = L.length) (h3 : U.length = L.length) (hp0 : 0 ≤ p) (hp : p < L.length) : Ev (fun k => spec_QuotaLeft.l0 k p (wrap64 (t - rd U p)) 0 t L M U) (leftIn t L M U p) := by
  have key := ev_forS (fun k s i => spec_QuotaLeft.l0 k p s i t L M U) L.length (fun _ _ => True) (fun i s => mn (wrap64 (rd L p - rd U p)) (((List.range L.length).drop i).foldl (lStep M U p) s)) (by
    intro i s hi _ next
    simp only [spec_QuotaLeft.l0]
    rcases Nat.lt_or_ge i L.length with hlt | hge
    · refine Ev.pos (by omega) ?_
      rw [drop_range _ _ hlt, List.foldl_cons, wrap_up hlt (by omega)]
      by_cases he : (i : Int) = p
      · refine Ev.pos he ?_
        have hs : lStep M U p s i = s := by unfold lStep; rw [if_pos he]
        rw [hs]
        exact next hlt s trivial
      · refine Ev.neg he (Ev.pos (by omega) (Ev.pos (by omega) (Ev.pos (by omega) ?_)))
        have hs : lStep M U p s i = wrap64 (s - mx (rd M (i : Int)) (rd U (i : Int))) := by unfold lStep; rw [if_neg he]
        rw [hs]
        simp only [more_eq, Option.bind_some]
        exact next hlt _ trivial
    · refine Ev.neg (by omega) (Ev.pos hp0 (Ev.pos hp (Ev.pos (by omega) ?_)))
      rw [List.drop_of_length_le (by simpa using hge), List.foldl_nil, ← mn_eq]
      by_cases hc : wrap64 (rd L p - rd U p) < s
      · exact Ev.pos hc (Ev.some (by rw [if_pos hc]))
      · exact Ev.neg hc (Ev.some (by rw [if_neg hc]))) 0 (wrap64 (t - rd U p)) (Nat.zero_le _) trivial
  simpa [leftIn] using key
theorem impl_left_ev (t : Int) (L M U : List Int) (p : Int) (h : quotaB t L M U = true) : Ev (fun k => impl_Quota_left.f k t L M U p) (leftV t L M U p) := by
  obtain ⟨_, _, h1, h2, h3, _⟩ := quota_facts h
  unfold impl_Quota_left.f leftV
  rw [in_eq]
  simp only [Option.bind_some]
  rw [wrap_id (i := (L.length : Int) - 1) (by omega) (by omega)]
  by_cases hp : 0 ≤ p ∧ p < L.length
  · rw [if_pos ⟨h, hp⟩]
    refine Ev.pos (by simp; omega) (Ev.pos hp.1 (Ev.pos (by omega) ?_))
    exact impl_left_loop t L M U p h1 h2 h3 hp.1 hp.2
  · rw [if_neg (fun x => hp x.2)]
    exact Ev.neg (by simp; omega) (Ev.some rfl)
theorem impl_QuotaLeft_ev (t : Int) (L M U : List Int) (p : Int) : Ev (fun k => impl_QuotaLeft.f k t L M U p) (leftV t L M U p) := by
  unfold impl_QuotaLeft.f
  refine Ev.bind (isQuota_ev t L M U) ?_
  cases h : quotaB t L M U with
  | false => exact Ev.neg (by decide) (Ev.some (by unfold leftV; rw [if_neg (by simp [h])]))
  | true => exact Ev.pos rfl (Ev.bind (impl_left_ev t L M U p h) (Ev.some rfl))
theorem spec_QuotaLeft_ev (t : Int) (L M U : List Int) (p : Int) : Ev (fun k => spec_QuotaLeft.f k t L M U p) (leftV t L M U p) := by
  have hT : Ev (fun k => spec_QuotaLeft.j0 k p true t L M U) 0 := Ev.succ (by simp only [spec_QuotaLeft.j0]; exact Ev.pos (by simp) (Ev.some rfl))
  unfold spec_QuotaLeft.f
  refine Ev.bind (spec_QuotaOk_ev t L M U) ?_
  cases h : quotaB t L M U with
  | false =>
    refine Ev.neg (by decide) ?_
    unfold leftV
    rw [if_neg (by simp [h])]
    exact hT
  | true =>
    obtain ⟨_, _, h1, h2, h3, _⟩ := quota_facts h
    refine Ev.pos rfl ?_
    unfold leftV
    by_cases hp0 : p < 0
    · refine Ev.pos hp0 ?_
      rw [if_neg (by omega)]
      exact hT
    · refine Ev.neg hp0 ?_
      by_cases hp : p < L.length
      · rw [if_pos ⟨h, by omega, hp⟩, show decide (p ≥ (L.length : Int)) = false by simp; omega]
        refine Ev.succ ?_
        simp only [spec_QuotaLeft.j0]
        exact Ev.neg (by decide) (Ev.pos (by omega) (Ev.pos (by omega) (spec_left_loop t L M U p h1 h2 h3 (by omega) hp)))
      · rw [if_neg (by omega), show decide (p ≥ (L.length : Int)) = true by simp; omega]
        exact hT
end Go.Proofs.Ytpngfnhkibkebaa.L
