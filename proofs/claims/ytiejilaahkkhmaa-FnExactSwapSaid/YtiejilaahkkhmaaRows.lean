/-
  No cell of these rows narrows 'for every input' (looked for: loops, veiled, ifaces, maps, wideKeys, modest, calm, conditions, laid).
  DERIVED. THE GIVEN ROWS OF THIS SEAT. 8 by the template 'for every input the law returns true; each argument reads behind the call as it read before'; 0 by the template 'total and deterministic' (their statements: YtiejilaahkkhmaaTotals.lean).
  GIVEN WITH THE SEED: the statements are not yours to turn. If you find one false, say at which input.
  Laid BY PROGRAM, IN A SANDBOX (cutbox-rows.mjs): the forced cells as the released guide's own fill.sh prints them over the translation dc4f2d8f47705cc1… (all of the seat's roots in one cut). By AI agents, Wed Nov 11 2026. No macro, syntax, notation, axiom, sorry.
-/
import Derived.Test.YtiejilaahkkhmaaChecked
import GoSem.Claim
import GoSem.ClaimJoined
import GoSem.ClaimMapViews
import Derived.JoinedTies
import Derived.KernelRfl
namespace Go.Proofs.Ytiejilaahkkhmaa
/- THE CELL 'sum', in the pinned program and in every row, IS THE sha256 OF THE DUMP (.gsa) THAT YtiejilaahkkhmaaProg.lean LOADS. Nothing in Lean hashes anything: it is a label: what it is worth is what the hold of that sum in a sandbox is worth. -/
noncomputable def Try.pinned : Pinned := { name := "ytiejilaahkkhmaa", sum := "dc4f2d8f47705cc15006ce6a0fdb05f012cefc9c3822c2caf62f49fc2a4a9915", checked := Try.checked }
namespace Rows
def none {H : Type} : Left H := { results := [], args := [] }

/-- 'laws.FnLanded': WHATEVER THE INPUT: true; the input reads as it did. -/
def fnLandedSpec : ChangeSpec := { name := "fnLanded", fn := fun _ => fun
  | [d] => { results := [.lit (.bool true)], args := [d] }
  | _ => none }
def fnLandedRow : OpenClaim := { program := "ytiejilaahkkhmaa", sum := "dc4f2d8f47705cc15006ce6a0fdb05f012cefc9c3822c2caf62f49fc2a4a9915", func := "loop.example/g00761/laws.FnLanded", spec := "fnLanded", unfollowed := true, recurses := true, apart := false }
def FnLandedSaid : Prop := fnLandedRow.holds Try.pinned (OpenSpec.ofChange fnLandedSpec)

/-- ITS FALSE NEIGHBOUR: 'it returns false'. Refute it at one input. -/
def fnLandedWrong : ChangeSpec := { name := "fnLanded", fn := fun _ => fun
  | [d] => { results := [.lit (.bool false)], args := [d] }
  | _ => none }
def FnLandedWrongFalsely : Prop := fnLandedRow.holds Try.pinned (OpenSpec.ofChange fnLandedWrong)

/-- 'laws.FnSwap': WHATEVER THE INPUT: true; the input reads as it did. -/
def fnSwapSpec : ChangeSpec := { name := "fnSwap", fn := fun _ => fun
  | [d] => { results := [.lit (.bool true)], args := [d] }
  | _ => none }
def fnSwapRow : OpenClaim := { program := "ytiejilaahkkhmaa", sum := "dc4f2d8f47705cc15006ce6a0fdb05f012cefc9c3822c2caf62f49fc2a4a9915", func := "loop.example/g00761/laws.FnSwap", spec := "fnSwap", unfollowed := true, recurses := true, apart := false }
def FnSwapSaid : Prop := fnSwapRow.holds Try.pinned (OpenSpec.ofChange fnSwapSpec)

/-- ITS FALSE NEIGHBOUR: 'it returns false'. Refute it at one input. -/
def fnSwapWrong : ChangeSpec := { name := "fnSwap", fn := fun _ => fun
  | [d] => { results := [.lit (.bool false)], args := [d] }
  | _ => none }
def FnSwapWrongFalsely : Prop := fnSwapRow.holds Try.pinned (OpenSpec.ofChange fnSwapWrong)

/-- 'laws.FnExactLose': WHATEVER THE INPUT: true; the input reads as it did. -/
def fnExactLoseSpec : ChangeSpec := { name := "fnExactLose", fn := fun _ => fun
  | [d1, d2] => { results := [.lit (.bool true)], args := [d1, d2] }
  | _ => none }
def fnExactLoseRow : OpenClaim := { program := "ytiejilaahkkhmaa", sum := "dc4f2d8f47705cc15006ce6a0fdb05f012cefc9c3822c2caf62f49fc2a4a9915", func := "loop.example/g00761/laws.FnExactLose", spec := "fnExactLose", unfollowed := true, recurses := true, apart := false }
def FnExactLoseSaid : Prop := fnExactLoseRow.holds Try.pinned (OpenSpec.ofChange fnExactLoseSpec)

/-- ITS FALSE NEIGHBOUR: 'it returns false'. Refute it at one input. -/
def fnExactLoseWrong : ChangeSpec := { name := "fnExactLose", fn := fun _ => fun
  | [d1, d2] => { results := [.lit (.bool false)], args := [d1, d2] }
  | _ => none }
def FnExactLoseWrongFalsely : Prop := fnExactLoseRow.holds Try.pinned (OpenSpec.ofChange fnExactLoseWrong)

/-- 'laws.FnExactPut': WHATEVER THE INPUT: true; the input reads as it did. -/
def fnExactPutSpec : ChangeSpec := { name := "fnExactPut", fn := fun _ => fun
  | [d1, d2, d3, d4, d5] => { results := [.lit (.bool true)], args := [d1, d2, d3, d4, d5] }
  | _ => none }
def fnExactPutRow : OpenClaim := { program := "ytiejilaahkkhmaa", sum := "dc4f2d8f47705cc15006ce6a0fdb05f012cefc9c3822c2caf62f49fc2a4a9915", func := "loop.example/g00761/laws.FnExactPut", spec := "fnExactPut", unfollowed := true, recurses := true, apart := false }
def FnExactPutSaid : Prop := fnExactPutRow.holds Try.pinned (OpenSpec.ofChange fnExactPutSpec)

/-- ITS FALSE NEIGHBOUR: 'it returns false'. Refute it at one input. -/
def fnExactPutWrong : ChangeSpec := { name := "fnExactPut", fn := fun _ => fun
  | [d1, d2, d3, d4, d5] => { results := [.lit (.bool false)], args := [d1, d2, d3, d4, d5] }
  | _ => none }
def FnExactPutWrongFalsely : Prop := fnExactPutRow.holds Try.pinned (OpenSpec.ofChange fnExactPutWrong)

/-- 'laws.FnExactFence': WHATEVER THE INPUT: true; the input reads as it did. -/
def fnExactFenceSpec : ChangeSpec := { name := "fnExactFence", fn := fun _ => fun
  | [d1, d2] => { results := [.lit (.bool true)], args := [d1, d2] }
  | _ => none }
def fnExactFenceRow : OpenClaim := { program := "ytiejilaahkkhmaa", sum := "dc4f2d8f47705cc15006ce6a0fdb05f012cefc9c3822c2caf62f49fc2a4a9915", func := "loop.example/g00761/laws.FnExactFence", spec := "fnExactFence", unfollowed := true, recurses := true, apart := false }
def FnExactFenceSaid : Prop := fnExactFenceRow.holds Try.pinned (OpenSpec.ofChange fnExactFenceSpec)

/-- ITS FALSE NEIGHBOUR: 'it returns false'. Refute it at one input. -/
def fnExactFenceWrong : ChangeSpec := { name := "fnExactFence", fn := fun _ => fun
  | [d1, d2] => { results := [.lit (.bool false)], args := [d1, d2] }
  | _ => none }
def FnExactFenceWrongFalsely : Prop := fnExactFenceRow.holds Try.pinned (OpenSpec.ofChange fnExactFenceWrong)

/-- 'laws.FnExactFlush': WHATEVER THE INPUT: true; the input reads as it did. -/
def fnExactFlushSpec : ChangeSpec := { name := "fnExactFlush", fn := fun _ => fun
  | [d1, d2, d3] => { results := [.lit (.bool true)], args := [d1, d2, d3] }
  | _ => none }
def fnExactFlushRow : OpenClaim := { program := "ytiejilaahkkhmaa", sum := "dc4f2d8f47705cc15006ce6a0fdb05f012cefc9c3822c2caf62f49fc2a4a9915", func := "loop.example/g00761/laws.FnExactFlush", spec := "fnExactFlush", unfollowed := true, recurses := true, apart := false }
def FnExactFlushSaid : Prop := fnExactFlushRow.holds Try.pinned (OpenSpec.ofChange fnExactFlushSpec)

/-- ITS FALSE NEIGHBOUR: 'it returns false'. Refute it at one input. -/
def fnExactFlushWrong : ChangeSpec := { name := "fnExactFlush", fn := fun _ => fun
  | [d1, d2, d3] => { results := [.lit (.bool false)], args := [d1, d2, d3] }
  | _ => none }
def FnExactFlushWrongFalsely : Prop := fnExactFlushRow.holds Try.pinned (OpenSpec.ofChange fnExactFlushWrong)

/-- 'laws.FnExactSwap': WHATEVER THE INPUT: true; the input reads as it did. -/
def fnExactSwapSpec : ChangeSpec := { name := "fnExactSwap", fn := fun _ => fun
  | [d1, d2, d3, d4, d5, d6] => { results := [.lit (.bool true)], args := [d1, d2, d3, d4, d5, d6] }
  | _ => none }
def fnExactSwapRow : OpenClaim := { program := "ytiejilaahkkhmaa", sum := "dc4f2d8f47705cc15006ce6a0fdb05f012cefc9c3822c2caf62f49fc2a4a9915", func := "loop.example/g00761/laws.FnExactSwap", spec := "fnExactSwap", unfollowed := true, recurses := true, apart := false }
def FnExactSwapSaid : Prop := fnExactSwapRow.holds Try.pinned (OpenSpec.ofChange fnExactSwapSpec)

/-- ITS FALSE NEIGHBOUR: 'it returns false'. Refute it at one input. -/
def fnExactSwapWrong : ChangeSpec := { name := "fnExactSwap", fn := fun _ => fun
  | [d1, d2, d3, d4, d5, d6] => { results := [.lit (.bool false)], args := [d1, d2, d3, d4, d5, d6] }
  | _ => none }
def FnExactSwapWrongFalsely : Prop := fnExactSwapRow.holds Try.pinned (OpenSpec.ofChange fnExactSwapWrong)

/-- 'laws.FnExactLand': WHATEVER THE INPUT: true; the input reads as it did. -/
def fnExactLandSpec : ChangeSpec := { name := "fnExactLand", fn := fun _ => fun
  | [d1, d2] => { results := [.lit (.bool true)], args := [d1, d2] }
  | _ => none }
def fnExactLandRow : OpenClaim := { program := "ytiejilaahkkhmaa", sum := "dc4f2d8f47705cc15006ce6a0fdb05f012cefc9c3822c2caf62f49fc2a4a9915", func := "loop.example/g00761/laws.FnExactLand", spec := "fnExactLand", unfollowed := true, recurses := true, apart := false }
def FnExactLandSaid : Prop := fnExactLandRow.holds Try.pinned (OpenSpec.ofChange fnExactLandSpec)

/-- ITS FALSE NEIGHBOUR: 'it returns false'. Refute it at one input. -/
def fnExactLandWrong : ChangeSpec := { name := "fnExactLand", fn := fun _ => fun
  | [d1, d2] => { results := [.lit (.bool false)], args := [d1, d2] }
  | _ => none }
def FnExactLandWrongFalsely : Prop := fnExactLandRow.holds Try.pinned (OpenSpec.ofChange fnExactLandWrong)

/- THE SECOND FORM. 'bulk': how many values and letters a reading holds, each counted each time it is reached (what is shared counts as often as it is met; a slice's spare places count too). A statement '..UptoSaid' is the law's where the arguments, and the package variables that the reading takes, are together of bulk at most 1048576: NARROWER than '..Said'. Prove '..Said' where nothing that the law and all that it calls make is longer than what came in: it says more and counts as full. Else prove '..UptoSaid'. A law counts once. -/
mutual
def uptoBulk {H : Type} : DataW H → Nat
  | .lit (.string bytes) => bytes.length + 1
  | .lit _ => 1
  | .nil => 1
  | .ptr d => uptoBulk d + 1
  | .slice elems spare => uptoBulkAll elems + uptoBulkAll spare + 1
  | .agg parts => uptoBulkAll parts + 1
  | .iface _ d => uptoBulk d + 1
  | .map entries => uptoBulkEntries entries + 1
  | .held _ => 1
def uptoBulkAll {H : Type} : List (DataW H) → Nat
  | [] => 0
  | d :: r => uptoBulk d + uptoBulkAll r
def uptoBulkEntries {H : Type} : List (Lit × DataW H) → Nat
  | [] => 0
  | x :: r => uptoBulkEntry x + uptoBulkEntries r
def uptoBulkEntry {H : Type} : Lit × DataW H → Nat
  | (.string bytes, d) => bytes.length + uptoBulk d + 1
  | (_, d) => uptoBulk d + 1
 end
def uptoSmall : (H : Type) → List (DataW H) → Bool := fun _ ds => decide (uptoBulkAll ds ≤ 1048576)
def OpenSpec.upto (s : _root_.Go.ChangeSpec) : _root_.Go.OpenSpec := { _root_.Go.OpenSpec.ofChange s with cond := some uptoSmall }

/-- 'laws.FnLanded', WHERE WHAT IT READS IS OF BULK AT MOST 1048576: true; the input reads as it did. -/
def fnLandedUptoRow : OpenClaim := { program := "ytiejilaahkkhmaa", sum := "dc4f2d8f47705cc15006ce6a0fdb05f012cefc9c3822c2caf62f49fc2a4a9915", func := "loop.example/g00761/laws.FnLanded", spec := "fnLanded", unfollowed := true, recurses := true, apart := false, narrowed := true }
def FnLandedUptoSaid : Prop := fnLandedUptoRow.holds Try.pinned (OpenSpec.upto fnLandedSpec)

/-- 'laws.FnSwap', WHERE WHAT IT READS IS OF BULK AT MOST 1048576: true; the input reads as it did. -/
def fnSwapUptoRow : OpenClaim := { program := "ytiejilaahkkhmaa", sum := "dc4f2d8f47705cc15006ce6a0fdb05f012cefc9c3822c2caf62f49fc2a4a9915", func := "loop.example/g00761/laws.FnSwap", spec := "fnSwap", unfollowed := true, recurses := true, apart := false, narrowed := true }
def FnSwapUptoSaid : Prop := fnSwapUptoRow.holds Try.pinned (OpenSpec.upto fnSwapSpec)

/-- 'laws.FnExactLose', WHERE WHAT IT READS IS OF BULK AT MOST 1048576: true; the input reads as it did. -/
def fnExactLoseUptoRow : OpenClaim := { program := "ytiejilaahkkhmaa", sum := "dc4f2d8f47705cc15006ce6a0fdb05f012cefc9c3822c2caf62f49fc2a4a9915", func := "loop.example/g00761/laws.FnExactLose", spec := "fnExactLose", unfollowed := true, recurses := true, apart := false, narrowed := true }
def FnExactLoseUptoSaid : Prop := fnExactLoseUptoRow.holds Try.pinned (OpenSpec.upto fnExactLoseSpec)

/-- 'laws.FnExactPut', WHERE WHAT IT READS IS OF BULK AT MOST 1048576: true; the input reads as it did. -/
def fnExactPutUptoRow : OpenClaim := { program := "ytiejilaahkkhmaa", sum := "dc4f2d8f47705cc15006ce6a0fdb05f012cefc9c3822c2caf62f49fc2a4a9915", func := "loop.example/g00761/laws.FnExactPut", spec := "fnExactPut", unfollowed := true, recurses := true, apart := false, narrowed := true }
def FnExactPutUptoSaid : Prop := fnExactPutUptoRow.holds Try.pinned (OpenSpec.upto fnExactPutSpec)

/-- 'laws.FnExactFence', WHERE WHAT IT READS IS OF BULK AT MOST 1048576: true; the input reads as it did. -/
def fnExactFenceUptoRow : OpenClaim := { program := "ytiejilaahkkhmaa", sum := "dc4f2d8f47705cc15006ce6a0fdb05f012cefc9c3822c2caf62f49fc2a4a9915", func := "loop.example/g00761/laws.FnExactFence", spec := "fnExactFence", unfollowed := true, recurses := true, apart := false, narrowed := true }
def FnExactFenceUptoSaid : Prop := fnExactFenceUptoRow.holds Try.pinned (OpenSpec.upto fnExactFenceSpec)

/-- 'laws.FnExactFlush', WHERE WHAT IT READS IS OF BULK AT MOST 1048576: true; the input reads as it did. -/
def fnExactFlushUptoRow : OpenClaim := { program := "ytiejilaahkkhmaa", sum := "dc4f2d8f47705cc15006ce6a0fdb05f012cefc9c3822c2caf62f49fc2a4a9915", func := "loop.example/g00761/laws.FnExactFlush", spec := "fnExactFlush", unfollowed := true, recurses := true, apart := false, narrowed := true }
def FnExactFlushUptoSaid : Prop := fnExactFlushUptoRow.holds Try.pinned (OpenSpec.upto fnExactFlushSpec)

/-- 'laws.FnExactSwap', WHERE WHAT IT READS IS OF BULK AT MOST 1048576: true; the input reads as it did. -/
def fnExactSwapUptoRow : OpenClaim := { program := "ytiejilaahkkhmaa", sum := "dc4f2d8f47705cc15006ce6a0fdb05f012cefc9c3822c2caf62f49fc2a4a9915", func := "loop.example/g00761/laws.FnExactSwap", spec := "fnExactSwap", unfollowed := true, recurses := true, apart := false, narrowed := true }
def FnExactSwapUptoSaid : Prop := fnExactSwapUptoRow.holds Try.pinned (OpenSpec.upto fnExactSwapSpec)

/-- 'laws.FnExactLand', WHERE WHAT IT READS IS OF BULK AT MOST 1048576: true; the input reads as it did. -/
def fnExactLandUptoRow : OpenClaim := { program := "ytiejilaahkkhmaa", sum := "dc4f2d8f47705cc15006ce6a0fdb05f012cefc9c3822c2caf62f49fc2a4a9915", func := "loop.example/g00761/laws.FnExactLand", spec := "fnExactLand", unfollowed := true, recurses := true, apart := false, narrowed := true }
def FnExactLandUptoSaid : Prop := fnExactLandUptoRow.holds Try.pinned (OpenSpec.upto fnExactLandSpec)

end Rows
end Go.Proofs.Ytiejilaahkkhmaa
