/-
  No cell of these rows narrows 'for every input' (looked for: loops, veiled, ifaces, maps, wideKeys, modest, calm, conditions, laid).
  DERIVED. THE GIVEN ROWS OF THIS SEAT. 5 by the template 'for every input the law returns true; each argument reads behind the call as it read before'; 0 by the template 'total and deterministic' (their statements: YthhfmolgiojahaaTotals.lean).
  GIVEN WITH THE SEED: the statements are not yours to turn. If you find one false, say at which input.
  Laid BY PROGRAM, IN A SANDBOX (cutbox-rows.mjs): the forced cells as the released guide's own fill.sh prints them over the translation 75561de74bf59715… (all of the seat's roots in one cut). By AI agents, Wed Nov 11 2026. No macro, syntax, notation, axiom, sorry.
-/
import Derived.Test.YthhfmolgiojahaaChecked
import GoSem.Claim
import GoSem.ClaimJoined
import GoSem.ClaimMapViews
import Derived.JoinedTies
import Derived.KernelRfl
namespace Go.Proofs.Ythhfmolgiojahaa
/- THE CELL 'sum', in the pinned program and in every row, IS THE sha256 OF THE DUMP (.gsa) THAT YthhfmolgiojahaaProg.lean LOADS. Nothing in Lean hashes anything: it is a label: what it is worth is what the hold of that sum in a sandbox is worth. -/
noncomputable def Try.pinned : Pinned := { name := "ythhfmolgiojahaa", sum := "75561de74bf5971579ad10db5fbd49c1ed312f99be505d4e81640cc33c504605", checked := Try.checked }
namespace Rows
def none {H : Type} : Left H := { results := [], args := [] }

/-- 'laws.FnExactDeltasOk': WHATEVER THE INPUT: true; the input reads as it did. -/
def fnExactDeltasOkSpec : ChangeSpec := { name := "fnExactDeltasOk", fn := fun _ => fun
  | [d] => { results := [.lit (.bool true)], args := [d] }
  | _ => none }
def fnExactDeltasOkRow : OpenClaim := { program := "ythhfmolgiojahaa", sum := "75561de74bf5971579ad10db5fbd49c1ed312f99be505d4e81640cc33c504605", func := "loop.example/g00761/laws.FnExactDeltasOk", spec := "fnExactDeltasOk", unfollowed := true, recurses := true, apart := false }
def FnExactDeltasOkSaid : Prop := fnExactDeltasOkRow.holds Try.pinned (OpenSpec.ofChange fnExactDeltasOkSpec)

/-- ITS FALSE NEIGHBOUR: 'it returns false'. Refute it at one input. -/
def fnExactDeltasOkWrong : ChangeSpec := { name := "fnExactDeltasOk", fn := fun _ => fun
  | [d] => { results := [.lit (.bool false)], args := [d] }
  | _ => none }
def FnExactDeltasOkWrongFalsely : Prop := fnExactDeltasOkRow.holds Try.pinned (OpenSpec.ofChange fnExactDeltasOkWrong)

/-- 'laws.FnExactGroupDeltas': WHATEVER THE INPUT: true; the input reads as it did. -/
def fnExactGroupDeltasSpec : ChangeSpec := { name := "fnExactGroupDeltas", fn := fun _ => fun
  | [d1, d2] => { results := [.lit (.bool true)], args := [d1, d2] }
  | _ => none }
def fnExactGroupDeltasRow : OpenClaim := { program := "ythhfmolgiojahaa", sum := "75561de74bf5971579ad10db5fbd49c1ed312f99be505d4e81640cc33c504605", func := "loop.example/g00761/laws.FnExactGroupDeltas", spec := "fnExactGroupDeltas", unfollowed := true, recurses := true, apart := false }
def FnExactGroupDeltasSaid : Prop := fnExactGroupDeltasRow.holds Try.pinned (OpenSpec.ofChange fnExactGroupDeltasSpec)

/-- ITS FALSE NEIGHBOUR: 'it returns false'. Refute it at one input. -/
def fnExactGroupDeltasWrong : ChangeSpec := { name := "fnExactGroupDeltas", fn := fun _ => fun
  | [d1, d2] => { results := [.lit (.bool false)], args := [d1, d2] }
  | _ => none }
def FnExactGroupDeltasWrongFalsely : Prop := fnExactGroupDeltasRow.holds Try.pinned (OpenSpec.ofChange fnExactGroupDeltasWrong)

/-- 'laws.FnExactMergeDeltas': WHATEVER THE INPUT: true; the input reads as it did. -/
def fnExactMergeDeltasSpec : ChangeSpec := { name := "fnExactMergeDeltas", fn := fun _ => fun
  | [d] => { results := [.lit (.bool true)], args := [d] }
  | _ => none }
def fnExactMergeDeltasRow : OpenClaim := { program := "ythhfmolgiojahaa", sum := "75561de74bf5971579ad10db5fbd49c1ed312f99be505d4e81640cc33c504605", func := "loop.example/g00761/laws.FnExactMergeDeltas", spec := "fnExactMergeDeltas", unfollowed := true, recurses := true, apart := false }
def FnExactMergeDeltasSaid : Prop := fnExactMergeDeltasRow.holds Try.pinned (OpenSpec.ofChange fnExactMergeDeltasSpec)

/-- ITS FALSE NEIGHBOUR: 'it returns false'. Refute it at one input. -/
def fnExactMergeDeltasWrong : ChangeSpec := { name := "fnExactMergeDeltas", fn := fun _ => fun
  | [d] => { results := [.lit (.bool false)], args := [d] }
  | _ => none }
def FnExactMergeDeltasWrongFalsely : Prop := fnExactMergeDeltasRow.holds Try.pinned (OpenSpec.ofChange fnExactMergeDeltasWrong)

/-- 'laws.FnExactApplyDeltas': WHATEVER THE INPUT: true; the input reads as it did. -/
def fnExactApplyDeltasSpec : ChangeSpec := { name := "fnExactApplyDeltas", fn := fun _ => fun
  | [d1, d2] => { results := [.lit (.bool true)], args := [d1, d2] }
  | _ => none }
def fnExactApplyDeltasRow : OpenClaim := { program := "ythhfmolgiojahaa", sum := "75561de74bf5971579ad10db5fbd49c1ed312f99be505d4e81640cc33c504605", func := "loop.example/g00761/laws.FnExactApplyDeltas", spec := "fnExactApplyDeltas", unfollowed := true, recurses := true, apart := false }
def FnExactApplyDeltasSaid : Prop := fnExactApplyDeltasRow.holds Try.pinned (OpenSpec.ofChange fnExactApplyDeltasSpec)

/-- ITS FALSE NEIGHBOUR: 'it returns false'. Refute it at one input. -/
def fnExactApplyDeltasWrong : ChangeSpec := { name := "fnExactApplyDeltas", fn := fun _ => fun
  | [d1, d2] => { results := [.lit (.bool false)], args := [d1, d2] }
  | _ => none }
def FnExactApplyDeltasWrongFalsely : Prop := fnExactApplyDeltasRow.holds Try.pinned (OpenSpec.ofChange fnExactApplyDeltasWrong)

/-- 'laws.FnDeltas': WHATEVER THE INPUT: true; the input reads as it did. -/
def fnDeltasSpec : ChangeSpec := { name := "fnDeltas", fn := fun _ => fun
  | [d] => { results := [.lit (.bool true)], args := [d] }
  | _ => none }
def fnDeltasRow : OpenClaim := { program := "ythhfmolgiojahaa", sum := "75561de74bf5971579ad10db5fbd49c1ed312f99be505d4e81640cc33c504605", func := "loop.example/g00761/laws.FnDeltas", spec := "fnDeltas", unfollowed := true, recurses := true, apart := false }
def FnDeltasSaid : Prop := fnDeltasRow.holds Try.pinned (OpenSpec.ofChange fnDeltasSpec)

/-- ITS FALSE NEIGHBOUR: 'it returns false'. Refute it at one input. -/
def fnDeltasWrong : ChangeSpec := { name := "fnDeltas", fn := fun _ => fun
  | [d] => { results := [.lit (.bool false)], args := [d] }
  | _ => none }
def FnDeltasWrongFalsely : Prop := fnDeltasRow.holds Try.pinned (OpenSpec.ofChange fnDeltasWrong)

/- THE SECOND FORM. 'bulk': how many values and letters a reading holds, each counted each time it is reached (what is shared counts as often as it is met; a slice's spare places count too). A statement '..UptoSaid' is the law's where the arguments, and the package variables that the reading takes, are together of bulk at most 1048576: NARROWER than '..Said'. Prove '..Said' where nothing that the law and all that it calls make is longer than what came in: it says more and counts as full. Else prove '..UptoSaid'. A law counts once. -/
mutual
def uptoBulk {H : Type} : DataW H → Nat
  | .lit (.string bytes) => bytes.length + 1
  | .lit _ => 1
  | .nil => 1
  | .ptr d => uptoBulk d + 1
  | .slice elems spare => uptoBulkAll elems + uptoBulkAll spare + 1
  | .agg parts => uptoBulkAll parts + 1
  | .iface _ d => uptoBulk d + 1
  | .map entries => uptoBulkEntries entries + 1
  | .held _ => 1
def uptoBulkAll {H : Type} : List (DataW H) → Nat
  | [] => 0
  | d :: r => uptoBulk d + uptoBulkAll r
def uptoBulkEntries {H : Type} : List (Lit × DataW H) → Nat
  | [] => 0
  | x :: r => uptoBulkEntry x + uptoBulkEntries r
def uptoBulkEntry {H : Type} : Lit × DataW H → Nat
  | (.string bytes, d) => bytes.length + uptoBulk d + 1
  | (_, d) => uptoBulk d + 1
 end
def uptoSmall : (H : Type) → List (DataW H) → Bool := fun _ ds => decide (uptoBulkAll ds ≤ 1048576)
def OpenSpec.upto (s : _root_.Go.ChangeSpec) : _root_.Go.OpenSpec := { _root_.Go.OpenSpec.ofChange s with cond := some uptoSmall }

/-- 'laws.FnExactDeltasOk', WHERE WHAT IT READS IS OF BULK AT MOST 1048576: true; the input reads as it did. -/
def fnExactDeltasOkUptoRow : OpenClaim := { program := "ythhfmolgiojahaa", sum := "75561de74bf5971579ad10db5fbd49c1ed312f99be505d4e81640cc33c504605", func := "loop.example/g00761/laws.FnExactDeltasOk", spec := "fnExactDeltasOk", unfollowed := true, recurses := true, apart := false, narrowed := true }
def FnExactDeltasOkUptoSaid : Prop := fnExactDeltasOkUptoRow.holds Try.pinned (OpenSpec.upto fnExactDeltasOkSpec)

/-- 'laws.FnExactGroupDeltas', WHERE WHAT IT READS IS OF BULK AT MOST 1048576: true; the input reads as it did. -/
def fnExactGroupDeltasUptoRow : OpenClaim := { program := "ythhfmolgiojahaa", sum := "75561de74bf5971579ad10db5fbd49c1ed312f99be505d4e81640cc33c504605", func := "loop.example/g00761/laws.FnExactGroupDeltas", spec := "fnExactGroupDeltas", unfollowed := true, recurses := true, apart := false, narrowed := true }
def FnExactGroupDeltasUptoSaid : Prop := fnExactGroupDeltasUptoRow.holds Try.pinned (OpenSpec.upto fnExactGroupDeltasSpec)

/-- 'laws.FnExactMergeDeltas', WHERE WHAT IT READS IS OF BULK AT MOST 1048576: true; the input reads as it did. -/
def fnExactMergeDeltasUptoRow : OpenClaim := { program := "ythhfmolgiojahaa", sum := "75561de74bf5971579ad10db5fbd49c1ed312f99be505d4e81640cc33c504605", func := "loop.example/g00761/laws.FnExactMergeDeltas", spec := "fnExactMergeDeltas", unfollowed := true, recurses := true, apart := false, narrowed := true }
def FnExactMergeDeltasUptoSaid : Prop := fnExactMergeDeltasUptoRow.holds Try.pinned (OpenSpec.upto fnExactMergeDeltasSpec)

/-- 'laws.FnExactApplyDeltas', WHERE WHAT IT READS IS OF BULK AT MOST 1048576: true; the input reads as it did. -/
def fnExactApplyDeltasUptoRow : OpenClaim := { program := "ythhfmolgiojahaa", sum := "75561de74bf5971579ad10db5fbd49c1ed312f99be505d4e81640cc33c504605", func := "loop.example/g00761/laws.FnExactApplyDeltas", spec := "fnExactApplyDeltas", unfollowed := true, recurses := true, apart := false, narrowed := true }
def FnExactApplyDeltasUptoSaid : Prop := fnExactApplyDeltasUptoRow.holds Try.pinned (OpenSpec.upto fnExactApplyDeltasSpec)

/-- 'laws.FnDeltas', WHERE WHAT IT READS IS OF BULK AT MOST 1048576: true; the input reads as it did. -/
def fnDeltasUptoRow : OpenClaim := { program := "ythhfmolgiojahaa", sum := "75561de74bf5971579ad10db5fbd49c1ed312f99be505d4e81640cc33c504605", func := "loop.example/g00761/laws.FnDeltas", spec := "fnDeltas", unfollowed := true, recurses := true, apart := false, narrowed := true }
def FnDeltasUptoSaid : Prop := fnDeltasUptoRow.holds Try.pinned (OpenSpec.upto fnDeltasSpec)

end Rows
end Go.Proofs.Ythhfmolgiojahaa
