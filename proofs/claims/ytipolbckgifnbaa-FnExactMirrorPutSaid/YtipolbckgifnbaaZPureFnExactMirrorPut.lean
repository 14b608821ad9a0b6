-- Ours: printed or written for this claim; cut to what the theorem needs.
import Derived.Test.YtipolbckgifnbaaZPx9
import Derived.Test.YtipolbckgifnbaaZMir
namespace Go.Proofs.Ytipolbckgifnbaa.Pure
open Go.RowKit Go.Proofs.Ytipolbckgifnbaa.P Go.Proofs.YtipolbckgifnbaaW.PrintWords Go.Proofs.YtipolbckgifnbaaW.PrintLast Go.Proofs.Ytipolbckgifnbaa.U Go.Proofs.Ytipolbckgifnbaa.L
theorem FnExactMirrorPut : laws_FnExactMirrorPut.Pure:=by
  intro a b t c _ _ _ _
  refine Ev.rounds ?_
  unfold laws_FnExactMirrorPut.f
  by_cases h : (a.size : Int) > 1048576
  · exact Ev.pos h (Ev.some rfl)
  by_cases h2 : (b.size : Int) > 1048576
  · exact Ev.neg h (Ev.pos h2 (Ev.some rfl))
  by_cases h3 : (t.size : Int) > 1048576
  · exact Ev.neg h (Ev.neg h2 (Ev.pos h3 (Ev.some rfl)))
  · exact Ev.neg h (Ev.neg h2 (Ev.neg h3 (Ev.bind (spec_MirrorPut_ev a b t c (by omega) (by omega)) (Ev.bind (impl_MirrorPut_ev a b t c (by omega) (by omega)) (Ev.pos rfl (Ev.pos rfl (Ev.some rfl)))))))
end Go.Proofs.Ytipolbckgifnbaa.Pure
