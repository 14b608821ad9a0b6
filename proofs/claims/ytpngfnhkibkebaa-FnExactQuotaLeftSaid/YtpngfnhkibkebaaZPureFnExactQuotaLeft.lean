-- Ours: printed or written for this claim; cut to what the theorem needs.
import Derived.Test.YtpngfnhkibkebaaZPx7
import Derived.Test.YtpngfnhkibkebaaZQtb
namespace Go.Proofs.Ytpngfnhkibkebaa.Pure
open Go.RowKit Go.Proofs.Ytpngfnhkibkebaa.P Go.Proofs.YtpngfnhkibkebaaW.PrintWords Go.Proofs.YtpngfnhkibkebaaW.PrintLast Go.Proofs.Ytpngfnhkibkebaa.U Go.Proofs.Ytpngfnhkibkebaa.L
theorem FnExactQuotaLeft : laws_FnExactQuotaLeft.Pure := by
  intro t L M U p ⟨_, ⟨hL, _⟩, ⟨hM, _⟩, ⟨hU, _⟩⟩ _
  refine Ev.rounds ?_
  unfold laws_FnExactQuotaLeft.f
  rcases szQuota_cases t L M U hL hM hU with ⟨v, hv, h0⟩ | ⟨v, hv, h0, h1, h2, h3⟩
  · rw [hv]
    simp only [Option.bind_some]
    exact Ev.pos h0 (Ev.some rfl)
  · rw [hv]
    simp only [Option.bind_some]
    have ht := toQuota_ev t L M U h1 h2 h3
    refine Ev.neg (by omega) (Ev.bind ht (Ev.bind (spec_QuotaLeft_ev t L M U p) (Ev.bind ht (Ev.bind (impl_QuotaLeft_ev t L M U p) (Ev.pos rfl ?_)))))
    exact Ev.bind ht (Ev.bind (eqQuota_ev t L M U h1 h2 h3) (Ev.pos rfl (Ev.some rfl)))
end Go.Proofs.Ytpngfnhkibkebaa.Pure
