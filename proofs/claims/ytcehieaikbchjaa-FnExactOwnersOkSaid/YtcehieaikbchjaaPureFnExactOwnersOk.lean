/- The program's OwnersOk answers what the reference's answers, for every list of whole numbers, and leaves the list as it was. No conditions. -/
import Derived.Test.YtcehieaikbchjaaPx2
import Derived.Test.YtcehieaikbchjaaOwn
namespace Go.Proofs.Ytcehieaikbchjaa.Pure
open Go.RowKit Go.Proofs.Ytcehieaikbchjaa.P Go.Proofs.YtcehieaikbchjaaW.PrintWords Go.Proofs.YtcehieaikbchjaaW.PrintLast Go.Proofs.Ytcehieaikbchjaa.U Go.Proofs.Ytcehieaikbchjaa.L

theorem FnExactOwnersOk : laws_FnExactOwnersOk.Pure := by
  intro o _
  refine Ev.rounds ?_
  unfold laws_FnExactOwnersOk.f
  by_cases hl : (o.length : Int) > 1048576
  · refine Ev.pos hl ?_
    exact Ev.some rfl
  · refine Ev.neg hl ?_
    have ht := toIntS_ev o (by omega)
    refine Ev.bind ht (Ev.bind (spec_ev o) (Ev.bind ht (Ev.bind (impl_ev o) ?_)))
    refine Ev.neg (by simp) ?_
    refine Ev.bind ht (Ev.bind (eqIntS_ev o o (by omega)) ?_)
    simp only [decide_true, if_true]
    exact Ev.some rfl
end Go.Proofs.Ytcehieaikbchjaa.Pure
