-- Ours: printed or written for this claim; cut to what the theorem needs.
import Derived.Test.YtoohnmeapmccjaaZPx8
import Derived.Test.YtoohnmeapmccjaaZWat
namespace Go.Proofs.Ytoohnmeapmccjaa.Pure
open Go.RowKit Go.Proofs.Ytoohnmeapmccjaa.P Go.Proofs.YtoohnmeapmccjaaW.PrintWords Go.Proofs.YtoohnmeapmccjaaW.PrintLast Go.Proofs.Ytoohnmeapmccjaa.U Go.Proofs.Ytoohnmeapmccjaa.L
theorem FnExactWatchTick : laws_FnExactWatchTick.Pure := by
  intro n A B ⟨_, ⟨hA, _⟩, ⟨hB, _⟩⟩
  refine Ev.rounds ?_
  unfold laws_FnExactWatchTick.f
  rcases szWatch_cases n A B hA hB with ⟨v, hv, h0⟩ | ⟨v, hv, h0, h1, h2⟩
  · rw [hv]
    simp only [Option.bind_some]
    exact Ev.pos h0 (Ev.some rfl)
  · rw [hv]
    simp only [Option.bind_some]
    have ht := toWatch_ev n A B h1 h2
    have hs := spec_WatchTick_ev n A B
    have hi := impl_WatchTick_ev n A B
    have hr := tickV_len n A B
    generalize tickV n A B = r at hs hi hr
    obtain ⟨rn, rA, rB, rb⟩ := r
    simp only at hr
    have he := eqWatch_ev rn rA rB (by omega) (by omega)
    have hm := markWatch_ev rn rA rB (by omega) (by omega)
    have hh := heldWatch_ev rn rA.length rB.length (by omega) (by omega)
    refine Ev.neg (by omega) (Ev.bind ht (Ev.bind hs (Ev.bind ht (Ev.bind hi (Ev.bind he (Ev.pos rfl (Ev.neg (by simp) ?_)))))))
    refine Ev.bind ht (Ev.bind (eqWatch_ev n A B h1 h2) (Ev.pos rfl (Ev.bind (markWatch_ev n A B h1 h2) (Ev.neg (by simp only []; omega) ?_))))
    refine Ev.bind he (Ev.pos rfl (Ev.bind hm (Ev.bind hh (Ev.neg (by omega) (Ev.pos rfl ?_)))))
    exact Ev.bind ht (Ev.bind hi (Ev.bind he (Ev.pos rfl (Ev.neg (by simp) (Ev.bind hh (Ev.neg (by omega) (Ev.pos rfl (Ev.some rfl))))))))
end Go.Proofs.Ytoohnmeapmccjaa.Pure
