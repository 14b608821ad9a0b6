-- Ours: printed or written for this claim; cut to what the theorem needs.
import Derived.Test.YtoohnmeapmccjaaZPx2
import Derived.Test.YtoohnmeapmccjaaZPx7
import Derived.Test.YtoohnmeapmccjaaZU
set_option linter.unusedVariables false
namespace Go.Proofs.Ytoohnmeapmccjaa.L
open Go.RowKit Go.Proofs.Ytoohnmeapmccjaa.P Go.Proofs.YtoohnmeapmccjaaW.PrintWords Go.Proofs.YtoohnmeapmccjaaW.PrintLast Go.Proofs.Ytoohnmeapmccjaa.U
theorem clone_eq (l : List Int) (h : l.length ≤ 1048576) : slices_Clone_int.f l = some l:=by
  unfold slices_Clone_int.f
  simp only [Option.bind_some,List.length_nil,List.nil_append]
  rw [if_pos (by omega)]
end Go.Proofs.Ytoohnmeapmccjaa.L
