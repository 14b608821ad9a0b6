-- Ours: printed or written for this claim; cut to what the theorem needs.
import Derived.Test.YtipolbckgifnbaaZPx7
import Derived.Test.YtipolbckgifnbaaZMir
namespace Go.Proofs.Ytipolbckgifnbaa.Pure
open Go.RowKit Go.Proofs.Ytipolbckgifnbaa.P Go.Proofs.YtipolbckgifnbaaW.PrintWords Go.Proofs.YtipolbckgifnbaaW.PrintLast Go.Proofs.Ytipolbckgifnbaa.U Go.Proofs.Ytipolbckgifnbaa.L
theorem FnExactReadCopy : laws_FnExactReadCopy.Pure:=by
  intro s _
  refine Ev.rounds ?_
  unfold laws_FnExactReadCopy.f
  by_cases h : (s.size : Int) > 1048576
  · exact Ev.pos h (Ev.some rfl)
  · refine Ev.neg h (Ev.bind (spec_ReadCopy_ev s (by omega)) (Ev.bind (impl_ReadCopy_ev s (by omega)) (Ev.bind (eqCopy_self _ _) (Ev.pos rfl (Ev.neg (by simp) (Ev.some rfl))))))
end Go.Proofs.Ytipolbckgifnbaa.Pure
