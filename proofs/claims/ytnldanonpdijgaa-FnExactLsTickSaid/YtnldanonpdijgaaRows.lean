/-
  No cell of these rows narrows 'for every input' (looked for: loops, veiled, ifaces, maps, wideKeys, modest, calm, conditions, laid).
  DERIVED. THE GIVEN ROWS OF THIS SEAT. 11 by the template 'for every input the law returns true; each argument reads behind the call as it read before'; 0 by the template 'total and deterministic' (their statements: YtnldanonpdijgaaTotals.lean).
  GIVEN WITH THE SEED: the statements are not yours to turn. If you find one false, say at which input.
  Laid BY PROGRAM, IN A SANDBOX (cutbox-rows.mjs): the forced cells as the released guide's own fill.sh prints them over the translation 91dcff6a50eee94d… (all of the seat's roots in one cut). By AI agents, Wed Nov 11 2026. No macro, syntax, notation, axiom, sorry.
-/
import Derived.Test.YtnldanonpdijgaaChecked
import GoSem.Claim
import GoSem.ClaimJoined
import GoSem.ClaimMapViews
import Derived.JoinedTies
import Derived.KernelRfl
namespace Go.Proofs.Ytnldanonpdijgaa
/- THE CELL 'sum', in the pinned program and in every row, IS THE sha256 OF THE DUMP (.gsa) THAT YtnldanonpdijgaaProg.lean LOADS. Nothing in Lean hashes anything: it is a label: what it is worth is what the hold of that sum in a sandbox is worth. -/
noncomputable def Try.pinned : Pinned := { name := "ytnldanonpdijgaa", sum := "91dcff6a50eee94d0c4598d3d6f64634d023f07c68f96755447d52b043817d96", checked := Try.checked }
namespace Rows
def none {H : Type} : Left H := { results := [], args := [] }

/-- 'laws.FnExactLsOk': WHATEVER THE INPUT: true; the input reads as it did. -/
def fnExactLsOkSpec : ChangeSpec := { name := "fnExactLsOk", fn := fun _ => fun
  | [d] => { results := [.lit (.bool true)], args := [d] }
  | _ => none }
def fnExactLsOkRow : OpenClaim := { program := "ytnldanonpdijgaa", sum := "91dcff6a50eee94d0c4598d3d6f64634d023f07c68f96755447d52b043817d96", func := "loop.example/g00761/laws.FnExactLsOk", spec := "fnExactLsOk", unfollowed := true, recurses := true, apart := false }
def FnExactLsOkSaid : Prop := fnExactLsOkRow.holds Try.pinned (OpenSpec.ofChange fnExactLsOkSpec)

/-- ITS FALSE NEIGHBOUR: 'it returns false'. Refute it at one input. -/
def fnExactLsOkWrong : ChangeSpec := { name := "fnExactLsOk", fn := fun _ => fun
  | [d] => { results := [.lit (.bool false)], args := [d] }
  | _ => none }
def FnExactLsOkWrongFalsely : Prop := fnExactLsOkRow.holds Try.pinned (OpenSpec.ofChange fnExactLsOkWrong)

/-- 'laws.FnExactLsClock': WHATEVER THE INPUT: true; the input reads as it did. -/
def fnExactLsClockSpec : ChangeSpec := { name := "fnExactLsClock", fn := fun _ => fun
  | [d1, d2] => { results := [.lit (.bool true)], args := [d1, d2] }
  | _ => none }
def fnExactLsClockRow : OpenClaim := { program := "ytnldanonpdijgaa", sum := "91dcff6a50eee94d0c4598d3d6f64634d023f07c68f96755447d52b043817d96", func := "loop.example/g00761/laws.FnExactLsClock", spec := "fnExactLsClock", unfollowed := true, recurses := true, apart := false }
def FnExactLsClockSaid : Prop := fnExactLsClockRow.holds Try.pinned (OpenSpec.ofChange fnExactLsClockSpec)

/-- ITS FALSE NEIGHBOUR: 'it returns false'. Refute it at one input. -/
def fnExactLsClockWrong : ChangeSpec := { name := "fnExactLsClock", fn := fun _ => fun
  | [d1, d2] => { results := [.lit (.bool false)], args := [d1, d2] }
  | _ => none }
def FnExactLsClockWrongFalsely : Prop := fnExactLsClockRow.holds Try.pinned (OpenSpec.ofChange fnExactLsClockWrong)

/-- 'laws.FnExactLsSafe': WHATEVER THE INPUT: true; the input reads as it did. -/
def fnExactLsSafeSpec : ChangeSpec := { name := "fnExactLsSafe", fn := fun _ => fun
  | [d] => { results := [.lit (.bool true)], args := [d] }
  | _ => none }
def fnExactLsSafeRow : OpenClaim := { program := "ytnldanonpdijgaa", sum := "91dcff6a50eee94d0c4598d3d6f64634d023f07c68f96755447d52b043817d96", func := "loop.example/g00761/laws.FnExactLsSafe", spec := "fnExactLsSafe", unfollowed := true, recurses := true, apart := false }
def FnExactLsSafeSaid : Prop := fnExactLsSafeRow.holds Try.pinned (OpenSpec.ofChange fnExactLsSafeSpec)

/-- ITS FALSE NEIGHBOUR: 'it returns false'. Refute it at one input. -/
def fnExactLsSafeWrong : ChangeSpec := { name := "fnExactLsSafe", fn := fun _ => fun
  | [d] => { results := [.lit (.bool false)], args := [d] }
  | _ => none }
def FnExactLsSafeWrongFalsely : Prop := fnExactLsSafeRow.holds Try.pinned (OpenSpec.ofChange fnExactLsSafeWrong)

/-- 'laws.FnExactLsHolders': WHATEVER THE INPUT: true; the input reads as it did. -/
def fnExactLsHoldersSpec : ChangeSpec := { name := "fnExactLsHolders", fn := fun _ => fun
  | [d] => { results := [.lit (.bool true)], args := [d] }
  | _ => none }
def fnExactLsHoldersRow : OpenClaim := { program := "ytnldanonpdijgaa", sum := "91dcff6a50eee94d0c4598d3d6f64634d023f07c68f96755447d52b043817d96", func := "loop.example/g00761/laws.FnExactLsHolders", spec := "fnExactLsHolders", unfollowed := true, recurses := true, apart := false }
def FnExactLsHoldersSaid : Prop := fnExactLsHoldersRow.holds Try.pinned (OpenSpec.ofChange fnExactLsHoldersSpec)

/-- ITS FALSE NEIGHBOUR: 'it returns false'. Refute it at one input. -/
def fnExactLsHoldersWrong : ChangeSpec := { name := "fnExactLsHolders", fn := fun _ => fun
  | [d] => { results := [.lit (.bool false)], args := [d] }
  | _ => none }
def FnExactLsHoldersWrongFalsely : Prop := fnExactLsHoldersRow.holds Try.pinned (OpenSpec.ofChange fnExactLsHoldersWrong)

/-- 'laws.FnClockLease': WHATEVER THE INPUT: true; the input reads as it did. -/
def fnClockLeaseSpec : ChangeSpec := { name := "fnClockLease", fn := fun _ => fun
  | [d] => { results := [.lit (.bool true)], args := [d] }
  | _ => none }
def fnClockLeaseRow : OpenClaim := { program := "ytnldanonpdijgaa", sum := "91dcff6a50eee94d0c4598d3d6f64634d023f07c68f96755447d52b043817d96", func := "loop.example/g00761/laws.FnClockLease", spec := "fnClockLease", unfollowed := true, recurses := true, apart := false }
def FnClockLeaseSaid : Prop := fnClockLeaseRow.holds Try.pinned (OpenSpec.ofChange fnClockLeaseSpec)

/-- ITS FALSE NEIGHBOUR: 'it returns false'. Refute it at one input. -/
def fnClockLeaseWrong : ChangeSpec := { name := "fnClockLease", fn := fun _ => fun
  | [d] => { results := [.lit (.bool false)], args := [d] }
  | _ => none }
def FnClockLeaseWrongFalsely : Prop := fnClockLeaseRow.holds Try.pinned (OpenSpec.ofChange fnClockLeaseWrong)

/-- 'laws.FnExactLsNew': WHATEVER THE INPUT: true; the input reads as it did. -/
def fnExactLsNewSpec : ChangeSpec := { name := "fnExactLsNew", fn := fun _ => fun
  | [d1, d2, d3] => { results := [.lit (.bool true)], args := [d1, d2, d3] }
  | _ => none }
def fnExactLsNewRow : OpenClaim := { program := "ytnldanonpdijgaa", sum := "91dcff6a50eee94d0c4598d3d6f64634d023f07c68f96755447d52b043817d96", func := "loop.example/g00761/laws.FnExactLsNew", spec := "fnExactLsNew", unfollowed := true, recurses := true, apart := false }
def FnExactLsNewSaid : Prop := fnExactLsNewRow.holds Try.pinned (OpenSpec.ofChange fnExactLsNewSpec)

/-- ITS FALSE NEIGHBOUR: 'it returns false'. Refute it at one input. -/
def fnExactLsNewWrong : ChangeSpec := { name := "fnExactLsNew", fn := fun _ => fun
  | [d1, d2, d3] => { results := [.lit (.bool false)], args := [d1, d2, d3] }
  | _ => none }
def FnExactLsNewWrongFalsely : Prop := fnExactLsNewRow.holds Try.pinned (OpenSpec.ofChange fnExactLsNewWrong)

/-- 'laws.FnExactLsTick': WHATEVER THE INPUT: true; the input reads as it did. -/
def fnExactLsTickSpec : ChangeSpec := { name := "fnExactLsTick", fn := fun _ => fun
  | [d1, d2] => { results := [.lit (.bool true)], args := [d1, d2] }
  | _ => none }
def fnExactLsTickRow : OpenClaim := { program := "ytnldanonpdijgaa", sum := "91dcff6a50eee94d0c4598d3d6f64634d023f07c68f96755447d52b043817d96", func := "loop.example/g00761/laws.FnExactLsTick", spec := "fnExactLsTick", unfollowed := true, recurses := true, apart := false }
def FnExactLsTickSaid : Prop := fnExactLsTickRow.holds Try.pinned (OpenSpec.ofChange fnExactLsTickSpec)

/-- ITS FALSE NEIGHBOUR: 'it returns false'. Refute it at one input. -/
def fnExactLsTickWrong : ChangeSpec := { name := "fnExactLsTick", fn := fun _ => fun
  | [d1, d2] => { results := [.lit (.bool false)], args := [d1, d2] }
  | _ => none }
def FnExactLsTickWrongFalsely : Prop := fnExactLsTickRow.holds Try.pinned (OpenSpec.ofChange fnExactLsTickWrong)

/-- 'laws.FnExactLsLook': WHATEVER THE INPUT: true; the input reads as it did. -/
def fnExactLsLookSpec : ChangeSpec := { name := "fnExactLsLook", fn := fun _ => fun
  | [d1, d2] => { results := [.lit (.bool true)], args := [d1, d2] }
  | _ => none }
def fnExactLsLookRow : OpenClaim := { program := "ytnldanonpdijgaa", sum := "91dcff6a50eee94d0c4598d3d6f64634d023f07c68f96755447d52b043817d96", func := "loop.example/g00761/laws.FnExactLsLook", spec := "fnExactLsLook", unfollowed := true, recurses := true, apart := false }
def FnExactLsLookSaid : Prop := fnExactLsLookRow.holds Try.pinned (OpenSpec.ofChange fnExactLsLookSpec)

/-- ITS FALSE NEIGHBOUR: 'it returns false'. Refute it at one input. -/
def fnExactLsLookWrong : ChangeSpec := { name := "fnExactLsLook", fn := fun _ => fun
  | [d1, d2] => { results := [.lit (.bool false)], args := [d1, d2] }
  | _ => none }
def FnExactLsLookWrongFalsely : Prop := fnExactLsLookRow.holds Try.pinned (OpenSpec.ofChange fnExactLsLookWrong)

/-- 'laws.FnExactLsRenew': WHATEVER THE INPUT: true; the input reads as it did. -/
def fnExactLsRenewSpec : ChangeSpec := { name := "fnExactLsRenew", fn := fun _ => fun
  | [d1, d2] => { results := [.lit (.bool true)], args := [d1, d2] }
  | _ => none }
def fnExactLsRenewRow : OpenClaim := { program := "ytnldanonpdijgaa", sum := "91dcff6a50eee94d0c4598d3d6f64634d023f07c68f96755447d52b043817d96", func := "loop.example/g00761/laws.FnExactLsRenew", spec := "fnExactLsRenew", unfollowed := true, recurses := true, apart := false }
def FnExactLsRenewSaid : Prop := fnExactLsRenewRow.holds Try.pinned (OpenSpec.ofChange fnExactLsRenewSpec)

/-- ITS FALSE NEIGHBOUR: 'it returns false'. Refute it at one input. -/
def fnExactLsRenewWrong : ChangeSpec := { name := "fnExactLsRenew", fn := fun _ => fun
  | [d1, d2] => { results := [.lit (.bool false)], args := [d1, d2] }
  | _ => none }
def FnExactLsRenewWrongFalsely : Prop := fnExactLsRenewRow.holds Try.pinned (OpenSpec.ofChange fnExactLsRenewWrong)

/-- 'laws.FnExactLsTake': WHATEVER THE INPUT: true; the input reads as it did. -/
def fnExactLsTakeSpec : ChangeSpec := { name := "fnExactLsTake", fn := fun _ => fun
  | [d1, d2] => { results := [.lit (.bool true)], args := [d1, d2] }
  | _ => none }
def fnExactLsTakeRow : OpenClaim := { program := "ytnldanonpdijgaa", sum := "91dcff6a50eee94d0c4598d3d6f64634d023f07c68f96755447d52b043817d96", func := "loop.example/g00761/laws.FnExactLsTake", spec := "fnExactLsTake", unfollowed := true, recurses := true, apart := false }
def FnExactLsTakeSaid : Prop := fnExactLsTakeRow.holds Try.pinned (OpenSpec.ofChange fnExactLsTakeSpec)

/-- ITS FALSE NEIGHBOUR: 'it returns false'. Refute it at one input. -/
def fnExactLsTakeWrong : ChangeSpec := { name := "fnExactLsTake", fn := fun _ => fun
  | [d1, d2] => { results := [.lit (.bool false)], args := [d1, d2] }
  | _ => none }
def FnExactLsTakeWrongFalsely : Prop := fnExactLsTakeRow.holds Try.pinned (OpenSpec.ofChange fnExactLsTakeWrong)

/-- 'laws.FnExactLsDrop': WHATEVER THE INPUT: true; the input reads as it did. -/
def fnExactLsDropSpec : ChangeSpec := { name := "fnExactLsDrop", fn := fun _ => fun
  | [d1, d2] => { results := [.lit (.bool true)], args := [d1, d2] }
  | _ => none }
def fnExactLsDropRow : OpenClaim := { program := "ytnldanonpdijgaa", sum := "91dcff6a50eee94d0c4598d3d6f64634d023f07c68f96755447d52b043817d96", func := "loop.example/g00761/laws.FnExactLsDrop", spec := "fnExactLsDrop", unfollowed := true, recurses := true, apart := false }
def FnExactLsDropSaid : Prop := fnExactLsDropRow.holds Try.pinned (OpenSpec.ofChange fnExactLsDropSpec)

/-- ITS FALSE NEIGHBOUR: 'it returns false'. Refute it at one input. -/
def fnExactLsDropWrong : ChangeSpec := { name := "fnExactLsDrop", fn := fun _ => fun
  | [d1, d2] => { results := [.lit (.bool false)], args := [d1, d2] }
  | _ => none }
def FnExactLsDropWrongFalsely : Prop := fnExactLsDropRow.holds Try.pinned (OpenSpec.ofChange fnExactLsDropWrong)

/- THE SECOND FORM. 'bulk': how many values and letters a reading holds, each counted each time it is reached (what is shared counts as often as it is met; a slice's spare places count too). A statement '..UptoSaid' is the law's where the arguments, and the package variables that the reading takes, are together of bulk at most 1048576: NARROWER than '..Said'. Prove '..Said' where nothing that the law and all that it calls make is longer than what came in: it says more and counts as full. Else prove '..UptoSaid'. A law counts once. -/
mutual
def uptoBulk {H : Type} : DataW H → Nat
  | .lit (.string bytes) => bytes.length + 1
  | .lit _ => 1
  | .nil => 1
  | .ptr d => uptoBulk d + 1
  | .slice elems spare => uptoBulkAll elems + uptoBulkAll spare + 1
  | .agg parts => uptoBulkAll parts + 1
  | .iface _ d => uptoBulk d + 1
  | .map entries => uptoBulkEntries entries + 1
  | .held _ => 1
def uptoBulkAll {H : Type} : List (DataW H) → Nat
  | [] => 0
  | d :: r => uptoBulk d + uptoBulkAll r
def uptoBulkEntries {H : Type} : List (Lit × DataW H) → Nat
  | [] => 0
  | x :: r => uptoBulkEntry x + uptoBulkEntries r
def uptoBulkEntry {H : Type} : Lit × DataW H → Nat
  | (.string bytes, d) => bytes.length + uptoBulk d + 1
  | (_, d) => uptoBulk d + 1
 end
def uptoSmall : (H : Type) → List (DataW H) → Bool := fun _ ds => decide (uptoBulkAll ds ≤ 1048576)
def OpenSpec.upto (s : _root_.Go.ChangeSpec) : _root_.Go.OpenSpec := { _root_.Go.OpenSpec.ofChange s with cond := some uptoSmall }

/-- 'laws.FnExactLsOk', WHERE WHAT IT READS IS OF BULK AT MOST 1048576: true; the input reads as it did. -/
def fnExactLsOkUptoRow : OpenClaim := { program := "ytnldanonpdijgaa", sum := "91dcff6a50eee94d0c4598d3d6f64634d023f07c68f96755447d52b043817d96", func := "loop.example/g00761/laws.FnExactLsOk", spec := "fnExactLsOk", unfollowed := true, recurses := true, apart := false, narrowed := true }
def FnExactLsOkUptoSaid : Prop := fnExactLsOkUptoRow.holds Try.pinned (OpenSpec.upto fnExactLsOkSpec)

/-- 'laws.FnExactLsClock', WHERE WHAT IT READS IS OF BULK AT MOST 1048576: true; the input reads as it did. -/
def fnExactLsClockUptoRow : OpenClaim := { program := "ytnldanonpdijgaa", sum := "91dcff6a50eee94d0c4598d3d6f64634d023f07c68f96755447d52b043817d96", func := "loop.example/g00761/laws.FnExactLsClock", spec := "fnExactLsClock", unfollowed := true, recurses := true, apart := false, narrowed := true }
def FnExactLsClockUptoSaid : Prop := fnExactLsClockUptoRow.holds Try.pinned (OpenSpec.upto fnExactLsClockSpec)

/-- 'laws.FnExactLsSafe', WHERE WHAT IT READS IS OF BULK AT MOST 1048576: true; the input reads as it did. -/
def fnExactLsSafeUptoRow : OpenClaim := { program := "ytnldanonpdijgaa", sum := "91dcff6a50eee94d0c4598d3d6f64634d023f07c68f96755447d52b043817d96", func := "loop.example/g00761/laws.FnExactLsSafe", spec := "fnExactLsSafe", unfollowed := true, recurses := true, apart := false, narrowed := true }
def FnExactLsSafeUptoSaid : Prop := fnExactLsSafeUptoRow.holds Try.pinned (OpenSpec.upto fnExactLsSafeSpec)

/-- 'laws.FnExactLsHolders', WHERE WHAT IT READS IS OF BULK AT MOST 1048576: true; the input reads as it did. -/
def fnExactLsHoldersUptoRow : OpenClaim := { program := "ytnldanonpdijgaa", sum := "91dcff6a50eee94d0c4598d3d6f64634d023f07c68f96755447d52b043817d96", func := "loop.example/g00761/laws.FnExactLsHolders", spec := "fnExactLsHolders", unfollowed := true, recurses := true, apart := false, narrowed := true }
def FnExactLsHoldersUptoSaid : Prop := fnExactLsHoldersUptoRow.holds Try.pinned (OpenSpec.upto fnExactLsHoldersSpec)

/-- 'laws.FnClockLease', WHERE WHAT IT READS IS OF BULK AT MOST 1048576: true; the input reads as it did. -/
def fnClockLeaseUptoRow : OpenClaim := { program := "ytnldanonpdijgaa", sum := "91dcff6a50eee94d0c4598d3d6f64634d023f07c68f96755447d52b043817d96", func := "loop.example/g00761/laws.FnClockLease", spec := "fnClockLease", unfollowed := true, recurses := true, apart := false, narrowed := true }
def FnClockLeaseUptoSaid : Prop := fnClockLeaseUptoRow.holds Try.pinned (OpenSpec.upto fnClockLeaseSpec)

/-- 'laws.FnExactLsNew', WHERE WHAT IT READS IS OF BULK AT MOST 1048576: true; the input reads as it did. -/
def fnExactLsNewUptoRow : OpenClaim := { program := "ytnldanonpdijgaa", sum := "91dcff6a50eee94d0c4598d3d6f64634d023f07c68f96755447d52b043817d96", func := "loop.example/g00761/laws.FnExactLsNew", spec := "fnExactLsNew", unfollowed := true, recurses := true, apart := false, narrowed := true }
def FnExactLsNewUptoSaid : Prop := fnExactLsNewUptoRow.holds Try.pinned (OpenSpec.upto fnExactLsNewSpec)

/-- 'laws.FnExactLsTick', WHERE WHAT IT READS IS OF BULK AT MOST 1048576: true; the input reads as it did. -/
def fnExactLsTickUptoRow : OpenClaim := { program := "ytnldanonpdijgaa", sum := "91dcff6a50eee94d0c4598d3d6f64634d023f07c68f96755447d52b043817d96", func := "loop.example/g00761/laws.FnExactLsTick", spec := "fnExactLsTick", unfollowed := true, recurses := true, apart := false, narrowed := true }
def FnExactLsTickUptoSaid : Prop := fnExactLsTickUptoRow.holds Try.pinned (OpenSpec.upto fnExactLsTickSpec)

/-- 'laws.FnExactLsLook', WHERE WHAT IT READS IS OF BULK AT MOST 1048576: true; the input reads as it did. -/
def fnExactLsLookUptoRow : OpenClaim := { program := "ytnldanonpdijgaa", sum := "91dcff6a50eee94d0c4598d3d6f64634d023f07c68f96755447d52b043817d96", func := "loop.example/g00761/laws.FnExactLsLook", spec := "fnExactLsLook", unfollowed := true, recurses := true, apart := false, narrowed := true }
def FnExactLsLookUptoSaid : Prop := fnExactLsLookUptoRow.holds Try.pinned (OpenSpec.upto fnExactLsLookSpec)

/-- 'laws.FnExactLsRenew', WHERE WHAT IT READS IS OF BULK AT MOST 1048576: true; the input reads as it did. -/
def fnExactLsRenewUptoRow : OpenClaim := { program := "ytnldanonpdijgaa", sum := "91dcff6a50eee94d0c4598d3d6f64634d023f07c68f96755447d52b043817d96", func := "loop.example/g00761/laws.FnExactLsRenew", spec := "fnExactLsRenew", unfollowed := true, recurses := true, apart := false, narrowed := true }
def FnExactLsRenewUptoSaid : Prop := fnExactLsRenewUptoRow.holds Try.pinned (OpenSpec.upto fnExactLsRenewSpec)

/-- 'laws.FnExactLsTake', WHERE WHAT IT READS IS OF BULK AT MOST 1048576: true; the input reads as it did. -/
def fnExactLsTakeUptoRow : OpenClaim := { program := "ytnldanonpdijgaa", sum := "91dcff6a50eee94d0c4598d3d6f64634d023f07c68f96755447d52b043817d96", func := "loop.example/g00761/laws.FnExactLsTake", spec := "fnExactLsTake", unfollowed := true, recurses := true, apart := false, narrowed := true }
def FnExactLsTakeUptoSaid : Prop := fnExactLsTakeUptoRow.holds Try.pinned (OpenSpec.upto fnExactLsTakeSpec)

/-- 'laws.FnExactLsDrop', WHERE WHAT IT READS IS OF BULK AT MOST 1048576: true; the input reads as it did. -/
def fnExactLsDropUptoRow : OpenClaim := { program := "ytnldanonpdijgaa", sum := "91dcff6a50eee94d0c4598d3d6f64634d023f07c68f96755447d52b043817d96", func := "loop.example/g00761/laws.FnExactLsDrop", spec := "fnExactLsDrop", unfollowed := true, recurses := true, apart := false, narrowed := true }
def FnExactLsDropUptoSaid : Prop := fnExactLsDropUptoRow.holds Try.pinned (OpenSpec.upto fnExactLsDropSpec)

end Rows
end Go.Proofs.Ytnldanonpdijgaa
