-- Ours: printed or written for this claim; cut to what the theorem needs.
import Derived.Test.YtpngfnhkibkebaaZPx5
import Derived.Test.YtpngfnhkibkebaaZQta
namespace Go.Proofs.Ytpngfnhkibkebaa.Pure
open Go.RowKit Go.Proofs.Ytpngfnhkibkebaa.P Go.Proofs.YtpngfnhkibkebaaW.PrintWords Go.Proofs.YtpngfnhkibkebaaW.PrintLast Go.Proofs.Ytpngfnhkibkebaa.U Go.Proofs.Ytpngfnhkibkebaa.L
theorem FnExactQuotaOk : laws_FnExactQuotaOk.Pure := by
  intro t L M U ⟨_, ⟨hL, _⟩, ⟨hM, _⟩, ⟨hU, _⟩⟩
  refine Ev.rounds ?_
  unfold laws_FnExactQuotaOk.f
  rcases szQuota_cases t L M U hL hM hU with ⟨v, hv, h0⟩ | ⟨v, hv, h0, h1, h2, h3⟩
  · rw [hv]
    simp only [Option.bind_some]
    exact Ev.pos h0 (Ev.some rfl)
  · rw [hv]
    simp only [Option.bind_some]
    have ht := toQuota_ev t L M U h1 h2 h3
    have hi : Ev (fun k => impl_QuotaOk.f k t L M U) (quotaB t L M U) := by
      unfold impl_QuotaOk.f
      exact Ev.bind (isQuota_ev t L M U) (Ev.some rfl)
    refine Ev.neg (by omega) (Ev.bind ht (Ev.bind (spec_QuotaOk_ev t L M U) (Ev.bind ht (Ev.bind hi (Ev.neg (by simp) ?_)))))
    exact Ev.bind ht (Ev.bind (eqQuota_ev t L M U h1 h2 h3) (Ev.pos rfl (Ev.some rfl)))
end Go.Proofs.Ytpngfnhkibkebaa.Pure
