/-
  No cell of these rows narrows 'for every input' (looked for: loops, veiled, ifaces, maps, wideKeys, modest, calm, conditions, laid).
  DERIVED. THE GIVEN ROWS OF THIS SEAT. 5 by the template 'for every input the law returns true; each argument reads behind the call as it read before'; 0 by the template 'total and deterministic' (their statements: YtcehieaikbchjaaTotals.lean).
  GIVEN WITH THE SEED: the statements are not yours to turn. If you find one false, say at which input.
  Laid BY PROGRAM, IN A SANDBOX (cutbox-rows.mjs): the forced cells as the released guide's own fill.sh prints them over the translation d63db8ad56011ded… (all of the seat's roots in one cut). By AI agents, Wed Nov 11 2026. No macro, syntax, notation, axiom, sorry.
-/
import Derived.Test.YtcehieaikbchjaaChecked
import GoSem.Claim
import GoSem.ClaimJoined
import GoSem.ClaimMapViews
import Derived.JoinedTies
import Derived.KernelRfl
namespace Go.Proofs.Ytcehieaikbchjaa
/- THE CELL 'sum', in the pinned program and in every row, IS THE sha256 OF THE DUMP (.gsa) THAT YtcehieaikbchjaaProg.lean LOADS. Nothing in Lean hashes anything: it is a label: what it is worth is what the hold of that sum in a sandbox is worth. -/
noncomputable def Try.pinned : Pinned := { name := "ytcehieaikbchjaa", sum := "d63db8ad56011ded32bf6116db905fab05584f5270171f89a64601cc430d05d1", checked := Try.checked }
namespace Rows
def none {H : Type} : Left H := { results := [], args := [] }

/-- 'laws.FnExactOwnersOk': WHATEVER THE INPUT: true; the input reads as it did. -/
def fnExactOwnersOkSpec : ChangeSpec := { name := "fnExactOwnersOk", fn := fun _ => fun
  | [d] => { results := [.lit (.bool true)], args := [d] }
  | _ => none }
def fnExactOwnersOkRow : OpenClaim := { program := "ytcehieaikbchjaa", sum := "d63db8ad56011ded32bf6116db905fab05584f5270171f89a64601cc430d05d1", func := "loop.example/g00761/laws.FnExactOwnersOk", spec := "fnExactOwnersOk", unfollowed := true, recurses := true, apart := false }
def FnExactOwnersOkSaid : Prop := fnExactOwnersOkRow.holds Try.pinned (OpenSpec.ofChange fnExactOwnersOkSpec)

/-- ITS FALSE NEIGHBOUR: 'it returns false'. Refute it at one input. -/
def fnExactOwnersOkWrong : ChangeSpec := { name := "fnExactOwnersOk", fn := fun _ => fun
  | [d] => { results := [.lit (.bool false)], args := [d] }
  | _ => none }
def FnExactOwnersOkWrongFalsely : Prop := fnExactOwnersOkRow.holds Try.pinned (OpenSpec.ofChange fnExactOwnersOkWrong)

/-- 'laws.FnExactShares': WHATEVER THE INPUT: true; the input reads as it did. -/
def fnExactSharesSpec : ChangeSpec := { name := "fnExactShares", fn := fun _ => fun
  | [d] => { results := [.lit (.bool true)], args := [d] }
  | _ => none }
def fnExactSharesRow : OpenClaim := { program := "ytcehieaikbchjaa", sum := "d63db8ad56011ded32bf6116db905fab05584f5270171f89a64601cc430d05d1", func := "loop.example/g00761/laws.FnExactShares", spec := "fnExactShares", unfollowed := true, recurses := true, apart := false }
def FnExactSharesSaid : Prop := fnExactSharesRow.holds Try.pinned (OpenSpec.ofChange fnExactSharesSpec)

/-- ITS FALSE NEIGHBOUR: 'it returns false'. Refute it at one input. -/
def fnExactSharesWrong : ChangeSpec := { name := "fnExactShares", fn := fun _ => fun
  | [d] => { results := [.lit (.bool false)], args := [d] }
  | _ => none }
def FnExactSharesWrongFalsely : Prop := fnExactSharesRow.holds Try.pinned (OpenSpec.ofChange fnExactSharesWrong)

/-- 'laws.FnExactMoveAll': WHATEVER THE INPUT: true; the input reads as it did. -/
def fnExactMoveAllSpec : ChangeSpec := { name := "fnExactMoveAll", fn := fun _ => fun
  | [d1, d2] => { results := [.lit (.bool true)], args := [d1, d2] }
  | _ => none }
def fnExactMoveAllRow : OpenClaim := { program := "ytcehieaikbchjaa", sum := "d63db8ad56011ded32bf6116db905fab05584f5270171f89a64601cc430d05d1", func := "loop.example/g00761/laws.FnExactMoveAll", spec := "fnExactMoveAll", unfollowed := true, recurses := true, apart := false }
def FnExactMoveAllSaid : Prop := fnExactMoveAllRow.holds Try.pinned (OpenSpec.ofChange fnExactMoveAllSpec)

/-- ITS FALSE NEIGHBOUR: 'it returns false'. Refute it at one input. -/
def fnExactMoveAllWrong : ChangeSpec := { name := "fnExactMoveAll", fn := fun _ => fun
  | [d1, d2] => { results := [.lit (.bool false)], args := [d1, d2] }
  | _ => none }
def FnExactMoveAllWrongFalsely : Prop := fnExactMoveAllRow.holds Try.pinned (OpenSpec.ofChange fnExactMoveAllWrong)

/-- 'laws.FnExactRebalance': WHATEVER THE INPUT: true; the input reads as it did. -/
def fnExactRebalanceSpec : ChangeSpec := { name := "fnExactRebalance", fn := fun _ => fun
  | [d1, d2] => { results := [.lit (.bool true)], args := [d1, d2] }
  | _ => none }
def fnExactRebalanceRow : OpenClaim := { program := "ytcehieaikbchjaa", sum := "d63db8ad56011ded32bf6116db905fab05584f5270171f89a64601cc430d05d1", func := "loop.example/g00761/laws.FnExactRebalance", spec := "fnExactRebalance", unfollowed := true, recurses := true, apart := false }
def FnExactRebalanceSaid : Prop := fnExactRebalanceRow.holds Try.pinned (OpenSpec.ofChange fnExactRebalanceSpec)

/-- ITS FALSE NEIGHBOUR: 'it returns false'. Refute it at one input. -/
def fnExactRebalanceWrong : ChangeSpec := { name := "fnExactRebalance", fn := fun _ => fun
  | [d1, d2] => { results := [.lit (.bool false)], args := [d1, d2] }
  | _ => none }
def FnExactRebalanceWrongFalsely : Prop := fnExactRebalanceRow.holds Try.pinned (OpenSpec.ofChange fnExactRebalanceWrong)

/-- 'laws.FnBalance': WHATEVER THE INPUT: true; the input reads as it did. -/
def fnBalanceSpec : ChangeSpec := { name := "fnBalance", fn := fun _ => fun
  | [d] => { results := [.lit (.bool true)], args := [d] }
  | _ => none }
def fnBalanceRow : OpenClaim := { program := "ytcehieaikbchjaa", sum := "d63db8ad56011ded32bf6116db905fab05584f5270171f89a64601cc430d05d1", func := "loop.example/g00761/laws.FnBalance", spec := "fnBalance", unfollowed := true, recurses := true, apart := false }
def FnBalanceSaid : Prop := fnBalanceRow.holds Try.pinned (OpenSpec.ofChange fnBalanceSpec)

/-- ITS FALSE NEIGHBOUR: 'it returns false'. Refute it at one input. -/
def fnBalanceWrong : ChangeSpec := { name := "fnBalance", fn := fun _ => fun
  | [d] => { results := [.lit (.bool false)], args := [d] }
  | _ => none }
def FnBalanceWrongFalsely : Prop := fnBalanceRow.holds Try.pinned (OpenSpec.ofChange fnBalanceWrong)

/- THE SECOND FORM. 'bulk': how many values and letters a reading holds, each counted each time it is reached (what is shared counts as often as it is met; a slice's spare places count too). A statement '..UptoSaid' is the law's where the arguments, and the package variables that the reading takes, are together of bulk at most 1048576: NARROWER than '..Said'. Prove '..Said' where nothing that the law and all that it calls make is longer than what came in: it says more and counts as full. Else prove '..UptoSaid'. A law counts once. -/
mutual
def uptoBulk {H : Type} : DataW H → Nat
  | .lit (.string bytes) => bytes.length + 1
  | .lit _ => 1
  | .nil => 1
  | .ptr d => uptoBulk d + 1
  | .slice elems spare => uptoBulkAll elems + uptoBulkAll spare + 1
  | .agg parts => uptoBulkAll parts + 1
  | .iface _ d => uptoBulk d + 1
  | .map entries => uptoBulkEntries entries + 1
  | .held _ => 1
def uptoBulkAll {H : Type} : List (DataW H) → Nat
  | [] => 0
  | d :: r => uptoBulk d + uptoBulkAll r
def uptoBulkEntries {H : Type} : List (Lit × DataW H) → Nat
  | [] => 0
  | x :: r => uptoBulkEntry x + uptoBulkEntries r
def uptoBulkEntry {H : Type} : Lit × DataW H → Nat
  | (.string bytes, d) => bytes.length + uptoBulk d + 1
  | (_, d) => uptoBulk d + 1
 end
def uptoSmall : (H : Type) → List (DataW H) → Bool := fun _ ds => decide (uptoBulkAll ds ≤ 1048576)
def OpenSpec.upto (s : _root_.Go.ChangeSpec) : _root_.Go.OpenSpec := { _root_.Go.OpenSpec.ofChange s with cond := some uptoSmall }

/-- 'laws.FnExactOwnersOk', WHERE WHAT IT READS IS OF BULK AT MOST 1048576: true; the input reads as it did. -/
def fnExactOwnersOkUptoRow : OpenClaim := { program := "ytcehieaikbchjaa", sum := "d63db8ad56011ded32bf6116db905fab05584f5270171f89a64601cc430d05d1", func := "loop.example/g00761/laws.FnExactOwnersOk", spec := "fnExactOwnersOk", unfollowed := true, recurses := true, apart := false, narrowed := true }
def FnExactOwnersOkUptoSaid : Prop := fnExactOwnersOkUptoRow.holds Try.pinned (OpenSpec.upto fnExactOwnersOkSpec)

/-- 'laws.FnExactShares', WHERE WHAT IT READS IS OF BULK AT MOST 1048576: true; the input reads as it did. -/
def fnExactSharesUptoRow : OpenClaim := { program := "ytcehieaikbchjaa", sum := "d63db8ad56011ded32bf6116db905fab05584f5270171f89a64601cc430d05d1", func := "loop.example/g00761/laws.FnExactShares", spec := "fnExactShares", unfollowed := true, recurses := true, apart := false, narrowed := true }
def FnExactSharesUptoSaid : Prop := fnExactSharesUptoRow.holds Try.pinned (OpenSpec.upto fnExactSharesSpec)

/-- 'laws.FnExactMoveAll', WHERE WHAT IT READS IS OF BULK AT MOST 1048576: true; the input reads as it did. -/
def fnExactMoveAllUptoRow : OpenClaim := { program := "ytcehieaikbchjaa", sum := "d63db8ad56011ded32bf6116db905fab05584f5270171f89a64601cc430d05d1", func := "loop.example/g00761/laws.FnExactMoveAll", spec := "fnExactMoveAll", unfollowed := true, recurses := true, apart := false, narrowed := true }
def FnExactMoveAllUptoSaid : Prop := fnExactMoveAllUptoRow.holds Try.pinned (OpenSpec.upto fnExactMoveAllSpec)

/-- 'laws.FnExactRebalance', WHERE WHAT IT READS IS OF BULK AT MOST 1048576: true; the input reads as it did. -/
def fnExactRebalanceUptoRow : OpenClaim := { program := "ytcehieaikbchjaa", sum := "d63db8ad56011ded32bf6116db905fab05584f5270171f89a64601cc430d05d1", func := "loop.example/g00761/laws.FnExactRebalance", spec := "fnExactRebalance", unfollowed := true, recurses := true, apart := false, narrowed := true }
def FnExactRebalanceUptoSaid : Prop := fnExactRebalanceUptoRow.holds Try.pinned (OpenSpec.upto fnExactRebalanceSpec)

/-- 'laws.FnBalance', WHERE WHAT IT READS IS OF BULK AT MOST 1048576: true; the input reads as it did. -/
def fnBalanceUptoRow : OpenClaim := { program := "ytcehieaikbchjaa", sum := "d63db8ad56011ded32bf6116db905fab05584f5270171f89a64601cc430d05d1", func := "loop.example/g00761/laws.FnBalance", spec := "fnBalance", unfollowed := true, recurses := true, apart := false, narrowed := true }
def FnBalanceUptoSaid : Prop := fnBalanceUptoRow.holds Try.pinned (OpenSpec.upto fnBalanceSpec)

end Rows
end Go.Proofs.Ytcehieaikbchjaa
