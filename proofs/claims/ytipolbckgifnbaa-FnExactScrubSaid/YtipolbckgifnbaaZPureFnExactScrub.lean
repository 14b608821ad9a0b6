-- Ours: printed or written for this claim; cut to what the theorem needs.
import Derived.Test.YtipolbckgifnbaaZPx7
import Derived.Test.YtipolbckgifnbaaZMir
namespace Go.Proofs.Ytipolbckgifnbaa.Pure
open Go.RowKit Go.Proofs.Ytipolbckgifnbaa.P Go.Proofs.YtipolbckgifnbaaW.PrintWords Go.Proofs.YtipolbckgifnbaaW.PrintLast Go.Proofs.Ytipolbckgifnbaa.U Go.Proofs.Ytipolbckgifnbaa.L
theorem FnExactScrub : laws_FnExactScrub.Pure:=by
  intro a b _ _
  refine Ev.rounds ?_
  unfold laws_FnExactScrub.f
  by_cases h : (a.size : Int) > 1048576
  · exact Ev.pos h (Ev.some rfl)
  by_cases h2 : (b.size : Int) > 1048576
  · exact Ev.neg h (Ev.pos h2 (Ev.some rfl))
  · exact Ev.neg h (Ev.neg h2 (Ev.bind (spec_Scrub_ev a b (by omega) (by omega)) (Ev.bind (impl_Scrub_ev a b (by omega) (by omega)) (Ev.pos rfl (Ev.pos rfl (Ev.neg (by simp) (Ev.some rfl)))))))
end Go.Proofs.Ytipolbckgifnbaa.Pure
