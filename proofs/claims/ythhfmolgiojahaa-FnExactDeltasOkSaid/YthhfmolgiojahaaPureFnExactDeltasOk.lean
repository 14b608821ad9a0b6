/- The program's DeltasOk answers what the reference's answers, for every list of changes, and leaves the list as it was. No conditions. -/
import Derived.Test.YthhfmolgiojahaaPx2
import Derived.Test.YthhfmolgiojahaaDel
namespace Go.Proofs.Ythhfmolgiojahaa.Pure
open Go.RowKit Go.Proofs.Ythhfmolgiojahaa.P Go.Proofs.YthhfmolgiojahaaW.PrintWords Go.Proofs.YthhfmolgiojahaaW.PrintLast Go.Proofs.Ythhfmolgiojahaa.U Go.Proofs.Ythhfmolgiojahaa.L
theorem FnExactDeltasOk : laws_FnExactDeltasOk.Pure := by
  intro l hl
  refine Ev.rounds ?_
  unfold laws_FnExactDeltasOk.f
  rcases szDeltaS_cases l with ⟨v, hv, h0⟩ | ⟨v, hv, h0, hb⟩ | hb
  · rw [hv]
    simp only [Option.bind_some]
    exact Ev.pos h0 (Ev.some rfl)
  · rw [hv]
    simp only [Option.bind_some]
    have ht := toDeltaS_ev l hb
    have hi : Ev (fun k => impl_DeltasOk.f k (l.map toD)) (delsB (l.map toD)) := by
      unfold impl_DeltasOk.f
      exact Ev.bind (areDeltas_ev _) (Ev.some rfl)
    refine Ev.neg (by omega) (Ev.bind ht (Ev.bind (spec_DeltasOk_ev _) (Ev.bind ht (Ev.bind hi (Ev.neg (by simp) ?_)))))
    refine Ev.bind ht (Ev.bind (eqDeltaS_ev _ _ (by simpa using hb)) (Ev.pos (by simp) (Ev.some rfl)))
  · have := hl.1
    omega
end Go.Proofs.Ythhfmolgiojahaa.Pure
