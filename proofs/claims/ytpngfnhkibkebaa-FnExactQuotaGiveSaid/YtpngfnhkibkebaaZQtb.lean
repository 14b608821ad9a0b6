-- Ours: printed or written for this claim; cut to what the theorem needs.
import Derived.Test.YtpngfnhkibkebaaZPx10
import Derived.Test.YtpngfnhkibkebaaZPx11
import Derived.Test.YtpngfnhkibkebaaZPx0
import Derived.Test.YtpngfnhkibkebaaZPx2
import Derived.Test.YtpngfnhkibkebaaZPx1
import Derived.Test.YtpngfnhkibkebaaZPx9
import Derived.Test.YtpngfnhkibkebaaZPx7
import Derived.Test.YtpngfnhkibkebaaZPx8
import Derived.Test.YtpngfnhkibkebaaZQta
import Derived.Test.YtpngfnhkibkebaaZMark
set_option linter.unusedVariables false
namespace Go.Proofs.Ytpngfnhkibkebaa.L
open Go.RowKit Go.Proofs.Ytpngfnhkibkebaa.P Go.Proofs.YtpngfnhkibkebaaW.PrintWords Go.Proofs.YtpngfnhkibkebaaW.PrintLast Go.Proofs.YtpngfnhkibkebaaW.PrintMore Go.Proofs.Ytpngfnhkibkebaa.U
theorem clone_eq (l : List Int) (h : l.length ≤ 1048576) : slices_Clone_int.f l = some l := by
  unfold slices_Clone_int.f
  simp only [Option.bind_some, List.length_nil, List.nil_append]
  rw [if_pos (by omega)]
theorem copied_eq (t : Int) (L M U : List Int) (h1 : L.length ≤ 1048576) (h2 : M.length ≤ 1048576) (h3 : U.length ≤ 1048576) : impl_Quota_copied.f t L M U = some (t, L, M, U) := by
  unfold impl_Quota_copied.f
  rw [clone_eq L h1, clone_eq M h2, clone_eq U h3]
  rfl
theorem l24Copy_eq (t : Int) (L M U : List Int) (h1 : L.length ≤ 1048576) (h2 : M.length ≤ 1048576) (h3 : U.length ≤ 1048576) : spec_l24Copy.f t L M U = some (t, L, M, U) := by
  unfold spec_l24Copy.f
  simp only [Option.bind_some, List.length_nil, List.nil_append]
  rw [if_pos (by omega), if_pos (by omega), if_pos (by omega)]
abbrev QR := Int × List Int × List Int × List Int × Bool
def giveV (t : Int) (L M U : List Int) (p d : Int) : QR :=
  if quotaB t L M U = true then (if 0 ≤ p ∧ p < U.length ∧ 1 ≤ d ∧ d ≤ rd U p then (t, L, M, U.set p.toNat (wrap64 (rd U p - d)), true) else (t, L, M, U, false)) else (0, [], [], [], false)
theorem giveV_len (t : Int) (L M U : List Int) (p d : Int) : (giveV t L M U p d).2.1.length ≤ 8 ∧ (giveV t L M U p d).2.2.1.length ≤ 8 ∧ (giveV t L M U p d).2.2.2.1.length ≤ 8 := by
  unfold giveV
  by_cases h : quotaB t L M U = true
  · obtain ⟨_, _, h1, h2, h3, _⟩ := quota_facts h
    rw [if_pos h]
    split <;> simp <;> omega
  · rw [if_neg h]; simp
theorem giveV_no {t : Int} {L M U : List Int} (p d : Int) (h : quotaB t L M U = false) : (0, [], [], [], false) = giveV t L M U p d := by
  unfold giveV; rw [if_neg (by simp [h])]
theorem giveV_good {t : Int} {L M U : List Int} {p d : Int} (h : quotaB t L M U = true) (hc : 0 ≤ p ∧ p < U.length ∧ 1 ≤ d ∧ d ≤ rd U p) : (t, L, M, U.set p.toNat (wrap64 (rd U p - d)), true) = giveV t L M U p d := by
  unfold giveV; rw [if_pos h, if_pos hc]
theorem giveV_bad {t : Int} {L M U : List Int} {p d : Int} (h : quotaB t L M U = true) (hc : ¬ (0 ≤ p ∧ p < U.length ∧ 1 ≤ d ∧ d ≤ rd U p)) : (t, L, M, U, false) = giveV t L M U p d := by
  unfold giveV; rw [if_pos h, if_neg hc]
theorem impl_QuotaGive_ev (t : Int) (L M U : List Int) (p d : Int) : Ev (fun k => impl_QuotaGive.f k t L M U p d) (giveV t L M U p d) := by
  unfold impl_QuotaGive.f
  refine Ev.bind (isQuota_ev t L M U) ?_
  cases h : quotaB t L M U with
  | false => exact Ev.neg (by decide) (Ev.some (giveV_no p d h))
  | true =>
    obtain ⟨_, _, h1, h2, h3, _⟩ := quota_facts h
    refine Ev.pos rfl ?_
    simp only [copied_eq t L M U (by omega) (by omega) (by omega), in_eq, Option.bind_some]
    rw [wrap_id (i := (U.length : Int) - 1) (by omega) (by omega)]
    by_cases hp : 0 ≤ p ∧ p < U.length
    · refine Ev.pos (by simp; omega) (Ev.pos hp.1 (Ev.pos hp.2 ?_))
      by_cases hd : 1 ≤ d ∧ d ≤ rd U p
      · exact Ev.pos (by simp; omega) (Ev.pos hp.2 (Ev.some (giveV_good h ⟨hp.1, hp.2, hd.1, hd.2⟩)))
      · exact Ev.neg (by simp; omega) (Ev.some (giveV_bad h (by omega)))
    · exact Ev.neg (by simp; omega) (Ev.some (giveV_bad h (by omega)))
theorem spec_QuotaGive_ev (t : Int) (L M U : List Int) (p d : Int) : Ev (fun k => spec_QuotaGive.f k t L M U p d) (giveV t L M U p d) := by
  unfold spec_QuotaGive.f
  refine Ev.bind (spec_QuotaOk_ev t L M U) ?_
  cases h : quotaB t L M U with
  | false => exact Ev.neg (by decide) (Ev.some (giveV_no p d h))
  | true =>
    obtain ⟨_, _, h1, h2, h3, _⟩ := quota_facts h
    refine Ev.pos rfl ?_
    simp only [l24Copy_eq t L M U (by omega) (by omega) (by omega), Option.bind_some]
    by_cases hp0 : p < 0
    · exact Ev.pos hp0 (Ev.some (giveV_bad h (by omega)))
    · refine Ev.neg hp0 ?_
      by_cases hp : p < U.length
      · refine Ev.neg (by omega) ?_
        by_cases hd : d < 1
        · exact Ev.pos hd (Ev.some (giveV_bad h (by omega)))
        · refine Ev.neg hd (Ev.pos (by omega) (Ev.pos hp ?_))
          by_cases hd2 : d ≤ rd U p
          · exact Ev.neg (by omega) (Ev.pos hp (Ev.some (giveV_good h ⟨by omega, hp, by omega, hd2⟩)))
          · exact Ev.pos (by omega) (Ev.some (giveV_bad h (by omega)))
      · exact Ev.pos (by omega) (Ev.some (giveV_bad h (by omega)))
theorem markQuota_ev (t : Int) (L M U : List Int) (h1 : L.length ≤ 1048576) (h2 : M.length ≤ 1048576) (h3 : U.length ≤ 1048576) : Ev (fun k => laws_markQuota.f k t L M U 1) (1 + L.length + M.length + U.length, upFrom 1 L.length, upFrom (1 + L.length) M.length, upFrom (1 + L.length + M.length) U.length) := by
  unfold laws_markQuota.f
  exact Ev.bind (markIntS_ev L 1 h1 (by omega) (by omega)) (Ev.bind (markIntS_ev M _ h2 (by simp only []; omega) (by simp only []; omega)) (Ev.bind (markIntS_ev U _ h3 (by simp only []; omega) (by simp only []; omega)) (Ev.some rfl)))
theorem heldQuota_ev (t : Int) (a b c : Nat) (h1 : a ≤ 1048576) (h2 : b ≤ 1048576) (h3 : c ≤ 1048576) : Ev (fun k => laws_heldQuota.f k t (upFrom 1 a) (upFrom (1 + a) b) (upFrom (1 + a + b) c) 1) (1 + a + b + c) := by
  unfold laws_heldQuota.f
  refine Ev.bind (heldIntS_ev a 1 h1 (by omega) (by omega)) (Ev.neg (by omega) ?_)
  refine Ev.bind (heldIntS_ev b _ h2 (by omega) (by omega)) (Ev.neg (by omega) ?_)
  refine Ev.bind (heldIntS_ev c _ h3 (by omega) (by omega)) (Ev.neg (by omega) (Ev.some rfl))
end Go.Proofs.Ytpngfnhkibkebaa.L
