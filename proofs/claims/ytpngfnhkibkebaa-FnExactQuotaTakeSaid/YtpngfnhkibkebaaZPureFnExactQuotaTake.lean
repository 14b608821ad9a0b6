-- Ours: printed or written for this claim; cut to what the theorem needs.
import Derived.Test.YtpngfnhkibkebaaZPx13
import Derived.Test.YtpngfnhkibkebaaZQtb
namespace Go.Proofs.Ytpngfnhkibkebaa.Pure
open Go.RowKit Go.Proofs.Ytpngfnhkibkebaa.P Go.Proofs.YtpngfnhkibkebaaW.PrintWords Go.Proofs.YtpngfnhkibkebaaW.PrintLast Go.Proofs.Ytpngfnhkibkebaa.U Go.Proofs.Ytpngfnhkibkebaa.L
theorem FnExactQuotaTake : laws_FnExactQuotaTake.Pure := by
  intro t L M U p d ⟨_, ⟨hL, _⟩, ⟨hM, _⟩, ⟨hU, _⟩⟩ _ _
  refine Ev.rounds ?_
  unfold laws_FnExactQuotaTake.f
  rcases szQuota_cases t L M U hL hM hU with ⟨v, hv, h0⟩ | ⟨v, hv, h0, h1, h2, h3⟩
  · rw [hv]
    simp only [Option.bind_some]
    exact Ev.pos h0 (Ev.some rfl)
  · rw [hv]
    simp only [Option.bind_some]
    have ht := toQuota_ev t L M U h1 h2 h3
    have hs := spec_QuotaTake_ev t L M U p d
    have hi := impl_QuotaTake_ev t L M U p d
    have hr := takeV_len t L M U p d
    generalize takeV t L M U p d = r at hs hi hr
    obtain ⟨rt, rL, rM, rU, rb⟩ := r
    simp only at hr
    have he := eqQuota_ev rt rL rM rU (by omega) (by omega) (by omega)
    have hm := markQuota_ev rt rL rM rU (by omega) (by omega) (by omega)
    have hh := heldQuota_ev rt rL.length rM.length rU.length (by omega) (by omega) (by omega)
    refine Ev.neg (by omega) (Ev.bind ht (Ev.bind hs (Ev.bind ht (Ev.bind hi (Ev.bind he (Ev.pos rfl (Ev.neg (by simp) ?_)))))))
    refine Ev.bind ht (Ev.bind (eqQuota_ev t L M U h1 h2 h3) (Ev.pos rfl (Ev.bind (markQuota_ev t L M U h1 h2 h3) (Ev.neg (by omega) ?_))))
    refine Ev.bind he (Ev.pos rfl (Ev.bind hm (Ev.bind hh (Ev.neg (by omega) (Ev.pos rfl ?_)))))
    exact Ev.bind ht (Ev.bind hi (Ev.bind he (Ev.pos rfl (Ev.neg (by simp) (Ev.bind hh (Ev.neg (by omega) (Ev.pos rfl (Ev.some rfl))))))))
end Go.Proofs.Ytpngfnhkibkebaa.Pure
