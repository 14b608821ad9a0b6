-- Ours: printed or written for this claim; cut to what the theorem needs.
import Derived.Test.YtpngfnhkibkebaaZPx10
import Derived.Test.YtpngfnhkibkebaaZPx11
import Derived.Test.YtpngfnhkibkebaaZPx12
import Derived.Test.YtpngfnhkibkebaaZPx6
import Derived.Test.YtpngfnhkibkebaaZPx7
import Derived.Test.YtpngfnhkibkebaaZPx8
import Derived.Test.YtpngfnhkibkebaaZQta
import Derived.Test.YtpngfnhkibkebaaZMark
set_option linter.unusedVariables false
namespace Go.Proofs.Ytpngfnhkibkebaa.L
open Go.RowKit Go.Proofs.Ytpngfnhkibkebaa.P Go.Proofs.YtpngfnhkibkebaaW.PrintWords Go.Proofs.YtpngfnhkibkebaaW.PrintLast Go.Proofs.YtpngfnhkibkebaaW.PrintMore Go.Proofs.Ytpngfnhkibkebaa.U
def lStep (M U : List Int) (p : Int) (s : Int) (i : Nat) : Int := if (i : Int) = p then s else wrap64 (s - mx (rd M (i : Int)) (rd U (i : Int)))
def leftIn (t : Int) (L M U : List Int) (p : Int) : Int := mn (wrap64 (rd L p - rd U p)) ((List.range L.length).foldl (lStep M U p) (wrap64 (t - rd U p)))
def leftV (t : Int) (L M U : List Int) (p : Int) : Int := if quotaB t L M U = true ∧ 0 ≤ p ∧ p < L.length then leftIn t L M U p else 0
theorem drop_range (n i : Nat) (h : i < n) : (List.range n).drop i = i :: (List.range n).drop (i + 1) := by
  rw [List.drop_eq_getElem_cons (by simpa using h)]
  simp
theorem impl_left_loop (t : Int) (L M U : List Int) (p : Int) (h1 : L.length ≤ 8) (h2 : M.length = L.length) (h3 : U.length = L.length) (hp0 : 0 ≤ p) (hp : p < L.length) : Ev (fun k => impl_Quota_left.l0 k p (wrap64 (t - rd U p)) (L.length : Int) 0 t L M U) (leftIn t L M U p) := by
  have key := ev_forS (fun k s i => impl_Quota_left.l0 k p s (L.length : Int) i t L M U) L.length (fun _ _ => True) (fun i s => mn (wrap64 (rd L p - rd U p)) (((List.range L.length).drop i).foldl (lStep M U p) s)) (by
    intro i s hi _ next
    simp only [impl_Quota_left.l0]
    rcases Nat.lt_or_ge i L.length with hlt | hge
    · refine Ev.pos (by omega) ?_
      rw [drop_range _ _ hlt, List.foldl_cons, wrap_up hlt (by omega)]
      by_cases he : (i : Int) = p
      · refine Ev.pos he ?_
        have hs : lStep M U p s i = s := by unfold lStep; rw [if_pos he]
        rw [hs]
        exact next hlt s trivial
      · refine Ev.neg he ?_
        have hs : lStep M U p s i = wrap64 (s - mx (rd M (i : Int)) (rd U (i : Int))) := by unfold lStep; rw [if_neg he]
        rw [hs]
        simp only [kept_eq t L M U i (by omega) (by omega), Option.bind_some]
        exact next hlt _ trivial
    · refine Ev.neg (by omega) (Ev.pos hp0 (Ev.pos hp (Ev.pos (by omega) (Ev.some ?_))))
      rw [List.drop_of_length_le (by simpa using hge)]
      rfl) 0 (wrap64 (t - rd U p)) (Nat.zero_le _) trivial
  simpa [leftIn] using key
theorem mn_eq (a b : Int) : (if a < b then a else b) = mn a b := by
  unfold mn
  by_cases h : a < b
  · rw [if_pos h]; first | rw [if_pos (by omega)] | rw [if_neg (by omega)]
  · rw [if_neg h]
    by_cases h2 : b < a
    · first | rw [if_pos h2] | rw [if_neg (by omega)]
    · have : a = b := by omega
      subst this; simp
theorem spec_left_loop (t : Int) (L M U : List Int) (p : Int) (h1 : L.length ≤ 8) (h2 : M.length = L.length) (h3 : U.length = L.length) (hp0 : 0 ≤ p) (hp : p < L.length) : Ev (fun k => spec_QuotaLeft.l0 k p (wrap64 (t - rd U p)) 0 t L M U) (leftIn t L M U p) := by
  have key := ev_forS (fun k s i => spec_QuotaLeft.l0 k p s i t L M U) L.length (fun _ _ => True) (fun i s => mn (wrap64 (rd L p - rd U p)) (((List.range L.length).drop i).foldl (lStep M U p) s)) (by
    intro i s hi _ next
    simp only [spec_QuotaLeft.l0]
    rcases Nat.lt_or_ge i L.length with hlt | hge
    · refine Ev.pos (by omega) ?_
      rw [drop_range _ _ hlt, List.foldl_cons, wrap_up hlt (by omega)]
      by_cases he : (i : Int) = p
      · refine Ev.pos he ?_
        have hs : lStep M U p s i = s := by unfold lStep; rw [if_pos he]
        rw [hs]
        exact next hlt s trivial
      · refine Ev.neg he (Ev.pos (by omega) (Ev.pos (by omega) (Ev.pos (by omega) ?_)))
        have hs : lStep M U p s i = wrap64 (s - mx (rd M (i : Int)) (rd U (i : Int))) := by unfold lStep; rw [if_neg he]
        rw [hs]
        simp only [more_eq, Option.bind_some]
        exact next hlt _ trivial
    · refine Ev.neg (by omega) (Ev.pos hp0 (Ev.pos hp (Ev.pos (by omega) ?_)))
      rw [List.drop_of_length_le (by simpa using hge), List.foldl_nil, ← mn_eq]
      by_cases hc : wrap64 (rd L p - rd U p) < s
      · exact Ev.pos hc (Ev.some (by rw [if_pos hc]))
      · exact Ev.neg hc (Ev.some (by rw [if_neg hc]))) 0 (wrap64 (t - rd U p)) (Nat.zero_le _) trivial
  simpa [leftIn] using key
theorem impl_left_ev (t : Int) (L M U : List Int) (p : Int) (h : quotaB t L M U = true) : Ev (fun k => impl_Quota_left.f k t L M U p) (leftV t L M U p) := by
  obtain ⟨_, _, h1, h2, h3, _⟩ := quota_facts h
  unfold impl_Quota_left.f leftV
  rw [in_eq]
  simp only [Option.bind_some]
  rw [wrap_id (i := (L.length : Int) - 1) (by omega) (by omega)]
  by_cases hp : 0 ≤ p ∧ p < L.length
  · rw [if_pos ⟨h, hp⟩]
    refine Ev.pos (by simp; omega) (Ev.pos hp.1 (Ev.pos (by omega) ?_))
    exact impl_left_loop t L M U p h1 h2 h3 hp.1 hp.2
  · rw [if_neg (fun x => hp x.2)]
    exact Ev.neg (by simp; omega) (Ev.some rfl)
theorem spec_QuotaLeft_ev (t : Int) (L M U : List Int) (p : Int) : Ev (fun k => spec_QuotaLeft.f k t L M U p) (leftV t L M U p) := by
  have hT : Ev (fun k => spec_QuotaLeft.j0 k p true t L M U) 0 := Ev.succ (by simp only [spec_QuotaLeft.j0]; exact Ev.pos (by simp) (Ev.some rfl))
  unfold spec_QuotaLeft.f
  refine Ev.bind (spec_QuotaOk_ev t L M U) ?_
  cases h : quotaB t L M U with
  | false =>
    refine Ev.neg (by decide) ?_
    unfold leftV
    rw [if_neg (by simp [h])]
    exact hT
  | true =>
    obtain ⟨_, _, h1, h2, h3, _⟩ := quota_facts h
    refine Ev.pos rfl ?_
    unfold leftV
    by_cases hp0 : p < 0
    · refine Ev.pos hp0 ?_
      rw [if_neg (by omega)]
      exact hT
    · refine Ev.neg hp0 ?_
      by_cases hp : p < L.length
      · rw [if_pos ⟨h, by omega, hp⟩, show decide (p ≥ (L.length : Int)) = false by simp; omega]
        refine Ev.succ ?_
        simp only [spec_QuotaLeft.j0]
        exact Ev.neg (by decide) (Ev.pos (by omega) (Ev.pos (by omega) (spec_left_loop t L M U p h1 h2 h3 (by omega) hp)))
      · rw [if_neg (by omega), show decide (p ≥ (L.length : Int)) = true by simp; omega]
        exact hT
theorem clone_eq (l : List Int) (h : l.length ≤ 1048576) : slices_Clone_int.f l = some l := by
  unfold slices_Clone_int.f
  simp only [Option.bind_some, List.length_nil, List.nil_append]
  rw [if_pos (by omega)]
theorem copied_eq (t : Int) (L M U : List Int) (h1 : L.length ≤ 1048576) (h2 : M.length ≤ 1048576) (h3 : U.length ≤ 1048576) : impl_Quota_copied.f t L M U = some (t, L, M, U) := by
  unfold impl_Quota_copied.f
  rw [clone_eq L h1, clone_eq M h2, clone_eq U h3]
  rfl
theorem l24Copy_eq (t : Int) (L M U : List Int) (h1 : L.length ≤ 1048576) (h2 : M.length ≤ 1048576) (h3 : U.length ≤ 1048576) : spec_l24Copy.f t L M U = some (t, L, M, U) := by
  unfold spec_l24Copy.f
  simp only [Option.bind_some, List.length_nil, List.nil_append]
  rw [if_pos (by omega), if_pos (by omega), if_pos (by omega)]
abbrev QR := Int × List Int × List Int × List Int × Bool
def takeV (t : Int) (L M U : List Int) (p d : Int) : QR :=
  if quotaB t L M U = true then (if 1 ≤ d ∧ d ≤ leftV t L M U p then (t, L, M, U.set p.toNat (wrap64 (rd U p + d)), true) else (t, L, M, U, false)) else (0, [], [], [], false)
theorem takeV_len (t : Int) (L M U : List Int) (p d : Int) : (takeV t L M U p d).2.1.length ≤ 8 ∧ (takeV t L M U p d).2.2.1.length ≤ 8 ∧ (takeV t L M U p d).2.2.2.1.length ≤ 8 := by
  unfold takeV
  by_cases h : quotaB t L M U = true
  · obtain ⟨_, _, h1, h2, h3, _⟩ := quota_facts h
    rw [if_pos h]
    split <;> simp <;> omega
  · rw [if_neg h]; simp
theorem takeV_no {t : Int} {L M U : List Int} (p d : Int) (h : quotaB t L M U = false) : (0, [], [], [], false) = takeV t L M U p d := by
  unfold takeV; rw [if_neg (by simp [h])]
theorem takeV_good {t : Int} {L M U : List Int} {p d : Int} (h : quotaB t L M U = true) (hc : 1 ≤ d ∧ d ≤ leftV t L M U p) : (t, L, M, U.set p.toNat (wrap64 (rd U p + d)), true) = takeV t L M U p d := by
  unfold takeV; rw [if_pos h, if_pos hc]
theorem takeV_bad {t : Int} {L M U : List Int} {p d : Int} (h : quotaB t L M U = true) (hc : ¬ (1 ≤ d ∧ d ≤ leftV t L M U p)) : (t, L, M, U, false) = takeV t L M U p d := by
  unfold takeV; rw [if_pos h, if_neg hc]
theorem left_pos {t : Int} {L M U : List Int} {p d : Int} (h : quotaB t L M U = true) (h0 : 1 ≤ d) (h1 : d ≤ leftV t L M U p) : 0 ≤ p ∧ p < U.length := by
  obtain ⟨_, _, _, _, h3, _⟩ := quota_facts h
  unfold leftV at h1
  by_cases hp : quotaB t L M U = true ∧ 0 ≤ p ∧ p < L.length
  · omega
  · rw [if_neg hp] at h1; omega
theorem impl_QuotaTake_ev (t : Int) (L M U : List Int) (p d : Int) : Ev (fun k => impl_QuotaTake.f k t L M U p d) (takeV t L M U p d) := by
  unfold impl_QuotaTake.f
  refine Ev.bind (isQuota_ev t L M U) ?_
  cases h : quotaB t L M U with
  | false => exact Ev.neg (by decide) (Ev.some (takeV_no p d h))
  | true =>
    obtain ⟨_, _, h1, h2, h3, _⟩ := quota_facts h
    refine Ev.pos rfl ?_
    simp only [copied_eq t L M U (by omega) (by omega) (by omega), Option.bind_some]
    by_cases hd : d < 1
    · exact Ev.pos hd (Ev.some (takeV_bad h (by omega)))
    · refine Ev.neg hd (Ev.bind (impl_left_ev t L M U p h) ?_)
      by_cases hd2 : d ≤ leftV t L M U p
      · have hp := left_pos h (by omega) hd2
        exact Ev.neg (by omega) (Ev.pos hp.1 (Ev.pos hp.2 (Ev.some (takeV_good h ⟨by omega, hd2⟩))))
      · exact Ev.pos (by omega) (Ev.some (takeV_bad h (by omega)))
theorem spec_QuotaTake_ev (t : Int) (L M U : List Int) (p d : Int) : Ev (fun k => spec_QuotaTake.f k t L M U p d) (takeV t L M U p d) := by
  unfold spec_QuotaTake.f
  refine Ev.bind (spec_QuotaOk_ev t L M U) ?_
  cases h : quotaB t L M U with
  | false => exact Ev.neg (by decide) (Ev.some (takeV_no p d h))
  | true =>
    obtain ⟨_, _, h1, h2, h3, _⟩ := quota_facts h
    refine Ev.pos rfl ?_
    simp only [l24Copy_eq t L M U (by omega) (by omega) (by omega), Option.bind_some]
    by_cases hd : d < 1
    · exact Ev.pos hd (Ev.some (takeV_bad h (by omega)))
    · refine Ev.neg hd (Ev.bind (spec_QuotaLeft_ev t L M U p) ?_)
      by_cases hd2 : d ≤ leftV t L M U p
      · have hp := left_pos h (by omega) hd2
        exact Ev.neg (by omega) (Ev.pos hp.1 (Ev.pos hp.2 (Ev.some (takeV_good h ⟨by omega, hd2⟩))))
      · exact Ev.pos (by omega) (Ev.some (takeV_bad h (by omega)))
theorem markQuota_ev (t : Int) (L M U : List Int) (h1 : L.length ≤ 1048576) (h2 : M.length ≤ 1048576) (h3 : U.length ≤ 1048576) : Ev (fun k => laws_markQuota.f k t L M U 1) (1 + L.length + M.length + U.length, upFrom 1 L.length, upFrom (1 + L.length) M.length, upFrom (1 + L.length + M.length) U.length) := by
  unfold laws_markQuota.f
  exact Ev.bind (markIntS_ev L 1 h1 (by omega) (by omega)) (Ev.bind (markIntS_ev M _ h2 (by simp only []; omega) (by simp only []; omega)) (Ev.bind (markIntS_ev U _ h3 (by simp only []; omega) (by simp only []; omega)) (Ev.some rfl)))
theorem heldQuota_ev (t : Int) (a b c : Nat) (h1 : a ≤ 1048576) (h2 : b ≤ 1048576) (h3 : c ≤ 1048576) : Ev (fun k => laws_heldQuota.f k t (upFrom 1 a) (upFrom (1 + a) b) (upFrom (1 + a + b) c) 1) (1 + a + b + c) := by
  unfold laws_heldQuota.f
  refine Ev.bind (heldIntS_ev a 1 h1 (by omega) (by omega)) (Ev.neg (by omega) ?_)
  refine Ev.bind (heldIntS_ev b _ h2 (by omega) (by omega)) (Ev.neg (by omega) ?_)
  refine Ev.bind (heldIntS_ev c _ h3 (by omega) (by omega)) (Ev.neg (by omega) (Ev.some rfl))
end Go.Proofs.Ytpngfnhkibkebaa.L
