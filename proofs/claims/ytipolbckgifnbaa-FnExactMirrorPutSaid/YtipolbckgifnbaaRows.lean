/-
  No cell of these rows narrows 'for every input' (looked for: loops, veiled, ifaces, maps, wideKeys, modest, calm, conditions, laid).
  DERIVED. THE GIVEN ROWS OF THIS SEAT. 6 by the template 'for every input the law returns true; each argument reads behind the call as it read before'; 0 by the template 'total and deterministic' (their statements: YtipolbckgifnbaaTotals.lean).
  GIVEN WITH THE SEED: the statements are not yours to turn. If you find one false, say at which input.
  Laid BY PROGRAM, IN A SANDBOX (cutbox-rows.mjs): the forced cells as the released guide's own fill.sh prints them over the translation e96f05fb5e50ca5f… (all of the seat's roots in one cut). By AI agents, Wed Nov 11 2026. No macro, syntax, notation, axiom, sorry.
-/
import Derived.Test.YtipolbckgifnbaaChecked
import GoSem.Claim
import GoSem.ClaimJoined
import GoSem.ClaimMapViews
import Derived.JoinedTies
import Derived.KernelRfl
namespace Go.Proofs.Ytipolbckgifnbaa
/- THE CELL 'sum', in the pinned program and in every row, IS THE sha256 OF THE DUMP (.gsa) THAT YtipolbckgifnbaaProg.lean LOADS. Nothing in Lean hashes anything: it is a label: what it is worth is what the hold of that sum in a sandbox is worth. -/
noncomputable def Try.pinned : Pinned := { name := "ytipolbckgifnbaa", sum := "e96f05fb5e50ca5f5cb165ffd53e455d43fa2abb217e149826366325eac24acf", checked := Try.checked }
namespace Rows
def none {H : Type} : Left H := { results := [], args := [] }

/-- 'laws.FnExactShowCopy': WHATEVER THE INPUT: true; the input reads as it did. -/
def fnExactShowCopySpec : ChangeSpec := { name := "fnExactShowCopy", fn := fun _ => fun
  | [d] => { results := [.lit (.bool true)], args := [d] }
  | _ => none }
def fnExactShowCopyRow : OpenClaim := { program := "ytipolbckgifnbaa", sum := "e96f05fb5e50ca5f5cb165ffd53e455d43fa2abb217e149826366325eac24acf", func := "loop.example/g00761/laws.FnExactShowCopy", spec := "fnExactShowCopy", apart := false }
def FnExactShowCopySaid : Prop := fnExactShowCopyRow.holds Try.pinned (OpenSpec.ofChange fnExactShowCopySpec)

/-- ITS FALSE NEIGHBOUR: 'it returns false'. Refute it at one input. -/
def fnExactShowCopyWrong : ChangeSpec := { name := "fnExactShowCopy", fn := fun _ => fun
  | [d] => { results := [.lit (.bool false)], args := [d] }
  | _ => none }
def FnExactShowCopyWrongFalsely : Prop := fnExactShowCopyRow.holds Try.pinned (OpenSpec.ofChange fnExactShowCopyWrong)

/-- 'laws.FnExactReadCopy': WHATEVER THE INPUT: true; the input reads as it did. -/
def fnExactReadCopySpec : ChangeSpec := { name := "fnExactReadCopy", fn := fun _ => fun
  | [d] => { results := [.lit (.bool true)], args := [d] }
  | _ => none }
def fnExactReadCopyRow : OpenClaim := { program := "ytipolbckgifnbaa", sum := "e96f05fb5e50ca5f5cb165ffd53e455d43fa2abb217e149826366325eac24acf", func := "loop.example/g00761/laws.FnExactReadCopy", spec := "fnExactReadCopy", apart := false }
def FnExactReadCopySaid : Prop := fnExactReadCopyRow.holds Try.pinned (OpenSpec.ofChange fnExactReadCopySpec)

/-- ITS FALSE NEIGHBOUR: 'it returns false'. Refute it at one input. -/
def fnExactReadCopyWrong : ChangeSpec := { name := "fnExactReadCopy", fn := fun _ => fun
  | [d] => { results := [.lit (.bool false)], args := [d] }
  | _ => none }
def FnExactReadCopyWrongFalsely : Prop := fnExactReadCopyRow.holds Try.pinned (OpenSpec.ofChange fnExactReadCopyWrong)

/-- 'laws.FnExactMirrorRead': WHATEVER THE INPUT: true; the input reads as it did. -/
def fnExactMirrorReadSpec : ChangeSpec := { name := "fnExactMirrorRead", fn := fun _ => fun
  | [d1, d2] => { results := [.lit (.bool true)], args := [d1, d2] }
  | _ => none }
def fnExactMirrorReadRow : OpenClaim := { program := "ytipolbckgifnbaa", sum := "e96f05fb5e50ca5f5cb165ffd53e455d43fa2abb217e149826366325eac24acf", func := "loop.example/g00761/laws.FnExactMirrorRead", spec := "fnExactMirrorRead", apart := false }
def FnExactMirrorReadSaid : Prop := fnExactMirrorReadRow.holds Try.pinned (OpenSpec.ofChange fnExactMirrorReadSpec)

/-- ITS FALSE NEIGHBOUR: 'it returns false'. Refute it at one input. -/
def fnExactMirrorReadWrong : ChangeSpec := { name := "fnExactMirrorRead", fn := fun _ => fun
  | [d1, d2] => { results := [.lit (.bool false)], args := [d1, d2] }
  | _ => none }
def FnExactMirrorReadWrongFalsely : Prop := fnExactMirrorReadRow.holds Try.pinned (OpenSpec.ofChange fnExactMirrorReadWrong)

/-- 'laws.FnExactScrub': WHATEVER THE INPUT: true; the input reads as it did. -/
def fnExactScrubSpec : ChangeSpec := { name := "fnExactScrub", fn := fun _ => fun
  | [d1, d2] => { results := [.lit (.bool true)], args := [d1, d2] }
  | _ => none }
def fnExactScrubRow : OpenClaim := { program := "ytipolbckgifnbaa", sum := "e96f05fb5e50ca5f5cb165ffd53e455d43fa2abb217e149826366325eac24acf", func := "loop.example/g00761/laws.FnExactScrub", spec := "fnExactScrub", apart := false }
def FnExactScrubSaid : Prop := fnExactScrubRow.holds Try.pinned (OpenSpec.ofChange fnExactScrubSpec)

/-- ITS FALSE NEIGHBOUR: 'it returns false'. Refute it at one input. -/
def fnExactScrubWrong : ChangeSpec := { name := "fnExactScrub", fn := fun _ => fun
  | [d1, d2] => { results := [.lit (.bool false)], args := [d1, d2] }
  | _ => none }
def FnExactScrubWrongFalsely : Prop := fnExactScrubRow.holds Try.pinned (OpenSpec.ofChange fnExactScrubWrong)

/-- 'laws.FnExactMirrorPut': WHATEVER THE INPUT: true; the input reads as it did. -/
def fnExactMirrorPutSpec : ChangeSpec := { name := "fnExactMirrorPut", fn := fun _ => fun
  | [d1, d2, d3, d4] => { results := [.lit (.bool true)], args := [d1, d2, d3, d4] }
  | _ => none }
def fnExactMirrorPutRow : OpenClaim := { program := "ytipolbckgifnbaa", sum := "e96f05fb5e50ca5f5cb165ffd53e455d43fa2abb217e149826366325eac24acf", func := "loop.example/g00761/laws.FnExactMirrorPut", spec := "fnExactMirrorPut", apart := false }
def FnExactMirrorPutSaid : Prop := fnExactMirrorPutRow.holds Try.pinned (OpenSpec.ofChange fnExactMirrorPutSpec)

/-- ITS FALSE NEIGHBOUR: 'it returns false'. Refute it at one input. -/
def fnExactMirrorPutWrong : ChangeSpec := { name := "fnExactMirrorPut", fn := fun _ => fun
  | [d1, d2, d3, d4] => { results := [.lit (.bool false)], args := [d1, d2, d3, d4] }
  | _ => none }
def FnExactMirrorPutWrongFalsely : Prop := fnExactMirrorPutRow.holds Try.pinned (OpenSpec.ofChange fnExactMirrorPutWrong)

/-- 'laws.FnMirror': WHATEVER THE INPUT: true; the input reads as it did. -/
def fnMirrorSpec : ChangeSpec := { name := "fnMirror", fn := fun _ => fun
  | [d] => { results := [.lit (.bool true)], args := [d] }
  | _ => none }
def fnMirrorRow : OpenClaim := { program := "ytipolbckgifnbaa", sum := "e96f05fb5e50ca5f5cb165ffd53e455d43fa2abb217e149826366325eac24acf", func := "loop.example/g00761/laws.FnMirror", spec := "fnMirror", apart := false }
def FnMirrorSaid : Prop := fnMirrorRow.holds Try.pinned (OpenSpec.ofChange fnMirrorSpec)

/-- ITS FALSE NEIGHBOUR: 'it returns false'. Refute it at one input. -/
def fnMirrorWrong : ChangeSpec := { name := "fnMirror", fn := fun _ => fun
  | [d] => { results := [.lit (.bool false)], args := [d] }
  | _ => none }
def FnMirrorWrongFalsely : Prop := fnMirrorRow.holds Try.pinned (OpenSpec.ofChange fnMirrorWrong)

/- THE SECOND FORM. 'bulk': how many values and letters a reading holds, each counted each time it is reached (what is shared counts as often as it is met; a slice's spare places count too). A statement '..UptoSaid' is the law's where the arguments, and the package variables that the reading takes, are together of bulk at most 1048576: NARROWER than '..Said'. Prove '..Said' where nothing that the law and all that it calls make is longer than what came in: it says more and counts as full. Else prove '..UptoSaid'. A law counts once. -/
mutual
def uptoBulk {H : Type} : DataW H → Nat
  | .lit (.string bytes) => bytes.length + 1
  | .lit _ => 1
  | .nil => 1
  | .ptr d => uptoBulk d + 1
  | .slice elems spare => uptoBulkAll elems + uptoBulkAll spare + 1
  | .agg parts => uptoBulkAll parts + 1
  | .iface _ d => uptoBulk d + 1
  | .map entries => uptoBulkEntries entries + 1
  | .held _ => 1
def uptoBulkAll {H : Type} : List (DataW H) → Nat
  | [] => 0
  | d :: r => uptoBulk d + uptoBulkAll r
def uptoBulkEntries {H : Type} : List (Lit × DataW H) → Nat
  | [] => 0
  | x :: r => uptoBulkEntry x + uptoBulkEntries r
def uptoBulkEntry {H : Type} : Lit × DataW H → Nat
  | (.string bytes, d) => bytes.length + uptoBulk d + 1
  | (_, d) => uptoBulk d + 1
 end
def uptoSmall : (H : Type) → List (DataW H) → Bool := fun _ ds => decide (uptoBulkAll ds ≤ 1048576)
def OpenSpec.upto (s : _root_.Go.ChangeSpec) : _root_.Go.OpenSpec := { _root_.Go.OpenSpec.ofChange s with cond := some uptoSmall }

/-- 'laws.FnExactShowCopy', WHERE WHAT IT READS IS OF BULK AT MOST 1048576: true; the input reads as it did. -/
def fnExactShowCopyUptoRow : OpenClaim := { program := "ytipolbckgifnbaa", sum := "e96f05fb5e50ca5f5cb165ffd53e455d43fa2abb217e149826366325eac24acf", func := "loop.example/g00761/laws.FnExactShowCopy", spec := "fnExactShowCopy", apart := false, narrowed := true }
def FnExactShowCopyUptoSaid : Prop := fnExactShowCopyUptoRow.holds Try.pinned (OpenSpec.upto fnExactShowCopySpec)

/-- 'laws.FnExactReadCopy', WHERE WHAT IT READS IS OF BULK AT MOST 1048576: true; the input reads as it did. -/
def fnExactReadCopyUptoRow : OpenClaim := { program := "ytipolbckgifnbaa", sum := "e96f05fb5e50ca5f5cb165ffd53e455d43fa2abb217e149826366325eac24acf", func := "loop.example/g00761/laws.FnExactReadCopy", spec := "fnExactReadCopy", apart := false, narrowed := true }
def FnExactReadCopyUptoSaid : Prop := fnExactReadCopyUptoRow.holds Try.pinned (OpenSpec.upto fnExactReadCopySpec)

/-- 'laws.FnExactMirrorRead', WHERE WHAT IT READS IS OF BULK AT MOST 1048576: true; the input reads as it did. -/
def fnExactMirrorReadUptoRow : OpenClaim := { program := "ytipolbckgifnbaa", sum := "e96f05fb5e50ca5f5cb165ffd53e455d43fa2abb217e149826366325eac24acf", func := "loop.example/g00761/laws.FnExactMirrorRead", spec := "fnExactMirrorRead", apart := false, narrowed := true }
def FnExactMirrorReadUptoSaid : Prop := fnExactMirrorReadUptoRow.holds Try.pinned (OpenSpec.upto fnExactMirrorReadSpec)

/-- 'laws.FnExactScrub', WHERE WHAT IT READS IS OF BULK AT MOST 1048576: true; the input reads as it did. -/
def fnExactScrubUptoRow : OpenClaim := { program := "ytipolbckgifnbaa", sum := "e96f05fb5e50ca5f5cb165ffd53e455d43fa2abb217e149826366325eac24acf", func := "loop.example/g00761/laws.FnExactScrub", spec := "fnExactScrub", apart := false, narrowed := true }
def FnExactScrubUptoSaid : Prop := fnExactScrubUptoRow.holds Try.pinned (OpenSpec.upto fnExactScrubSpec)

/-- 'laws.FnExactMirrorPut', WHERE WHAT IT READS IS OF BULK AT MOST 1048576: true; the input reads as it did. -/
def fnExactMirrorPutUptoRow : OpenClaim := { program := "ytipolbckgifnbaa", sum := "e96f05fb5e50ca5f5cb165ffd53e455d43fa2abb217e149826366325eac24acf", func := "loop.example/g00761/laws.FnExactMirrorPut", spec := "fnExactMirrorPut", apart := false, narrowed := true }
def FnExactMirrorPutUptoSaid : Prop := fnExactMirrorPutUptoRow.holds Try.pinned (OpenSpec.upto fnExactMirrorPutSpec)

/-- 'laws.FnMirror', WHERE WHAT IT READS IS OF BULK AT MOST 1048576: true; the input reads as it did. -/
def fnMirrorUptoRow : OpenClaim := { program := "ytipolbckgifnbaa", sum := "e96f05fb5e50ca5f5cb165ffd53e455d43fa2abb217e149826366325eac24acf", func := "loop.example/g00761/laws.FnMirror", spec := "fnMirror", apart := false, narrowed := true }
def FnMirrorUptoSaid : Prop := fnMirrorUptoRow.holds Try.pinned (OpenSpec.upto fnMirrorSpec)

end Rows
end Go.Proofs.Ytipolbckgifnbaa
