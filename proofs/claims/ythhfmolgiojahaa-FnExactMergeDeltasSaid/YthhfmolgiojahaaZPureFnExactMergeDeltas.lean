-- Ours: printed or written for this claim; cut to what the theorem needs.
import Derived.Test.YthhfmolgiojahaaZPx6
import Derived.Test.YthhfmolgiojahaaZMrg
namespace Go.Proofs.Ythhfmolgiojahaa.Pure
open Go.RowKit Go.Proofs.Ythhfmolgiojahaa.P Go.Proofs.YthhfmolgiojahaaW.PrintWords Go.Proofs.YthhfmolgiojahaaW.PrintLast Go.Proofs.Ythhfmolgiojahaa.U Go.Proofs.Ythhfmolgiojahaa.L
theorem FnExactMergeDeltas : laws_FnExactMergeDeltas.Pure := by
  intro l ⟨hlen, _, _⟩
  refine Ev.rounds ?_
  unfold laws_FnExactMergeDeltas.f
  rcases szDeltaS_cases l with ⟨v, hv, h0⟩ | ⟨v, hv, h0, h1⟩ | hb
  · rw [hv]
    simp only [Option.bind_some]
    exact Ev.pos h0 (Ev.some rfl)
  · rw [hv]
    simp only [Option.bind_some]
    have ht := toDeltaS_ev l h1
    have hs := spec_MergeDeltas_ev (l.map toD)
    have hi := impl_MergeDeltas_ev (l.map toD)
    have hr := mergeV_length (l.map toD)
    have he0 : Ev (fun k => laws_eqDeltaS.f k (l.map toD) (l.map toD)) true := by simpa using eqDeltaS_ev (l.map toD) (l.map toD) (by simpa using h1)
    have hm0 := markDeltaS_ev (l.map toD) 1 (by simpa using h1) (by omega) (by omega)
    generalize l.map toD = x at ht hs hi hr he0 hm0
    generalize mergeV x = r at hs hi hr
    have he : Ev (fun k => laws_eqDeltaS.f k r r) true := by simpa using eqDeltaS_ev r r (by omega)
    have hm := markDeltaS_ev r 1 (by omega) (by omega) (by omega)
    have hh := heldDeltaS_ev r 1 (by omega) (by omega) (by omega)
    refine Ev.neg (by omega) (Ev.bind ht (Ev.bind hs (Ev.bind ht (Ev.bind hi (Ev.bind he (Ev.pos rfl ?_))))))
    refine Ev.bind ht (Ev.bind he0 (Ev.pos rfl (Ev.bind hm0 (Ev.neg (by simp only []; omega) ?_))))
    refine Ev.bind he (Ev.pos rfl (Ev.bind hm (Ev.bind hh (Ev.neg (by omega) (Ev.pos rfl ?_)))))
    exact Ev.bind ht (Ev.bind hi (Ev.bind he (Ev.pos rfl (Ev.bind hh (Ev.neg (by omega) (Ev.pos rfl (Ev.some rfl)))))))
  · omega
end Go.Proofs.Ythhfmolgiojahaa.Pure
