-- Ours: printed or written for this claim; cut to what the theorem needs.
import Derived.Test.YtnldanonpdijgaaZPx0
import Derived.Test.YtnldanonpdijgaaZPx1
import Derived.Test.YtnldanonpdijgaaZPx3
import Derived.Test.YtnldanonpdijgaaZPx6
import Derived.Test.YtnldanonpdijgaaZPx8
import Derived.Test.YtnldanonpdijgaaZPx2
import Derived.Test.YtnldanonpdijgaaZPx7
import Derived.Test.YtnldanonpdijgaaZLsOk
namespace Go.Proofs.Ytnldanonpdijgaa.Pure
open Go.RowKit Go.Proofs.Ytnldanonpdijgaa.P Go.Proofs.YtnldanonpdijgaaW.PrintWords Go.Proofs.YtnldanonpdijgaaW.PrintLast Go.Proofs.Ytnldanonpdijgaa.U Go.Proofs.Ytnldanonpdijgaa.L
theorem ls_facts {h m n : Int} {R : List Int} {o e : Int} {H : List IH} (hw : lsB h m n R o e H = true) : (1 ≤ h ∧ h ≤ 1000) ∧ (1 ≤ m ∧ m ≤ 1000) ∧ (0 ≤ n ∧ n ≤ 100000) ∧ 1 ≤ R.length ∧ R.length ≤ 4 ∧ H.length = R.length:=by
  unfold lsB at hw
  simp only [Bool.and_eq_true,inn_iff,decide_eq_true_eq] at hw
  omega
end Go.Proofs.Ytnldanonpdijgaa.Pure
