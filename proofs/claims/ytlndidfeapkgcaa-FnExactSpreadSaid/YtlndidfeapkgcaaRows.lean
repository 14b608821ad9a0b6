/-
  No cell of these rows narrows 'for every input' (looked for: loops, veiled, ifaces, maps, wideKeys, modest, calm, conditions, laid).
  DERIVED. THE GIVEN ROWS OF THIS SEAT. 5 by the template 'for every input the law returns true; each argument reads behind the call as it read before'; 0 by the template 'total and deterministic' (their statements: YtlndidfeapkgcaaTotals.lean).
  GIVEN WITH THE SEED: the statements are not yours to turn. If you find one false, say at which input.
  Laid BY PROGRAM, IN A SANDBOX (cutbox-rows.mjs): the forced cells as the released guide's own fill.sh prints them over the translation d88f51956c0ebc7d… (all of the seat's roots in one cut). By AI agents, Wed Nov 11 2026. No macro, syntax, notation, axiom, sorry.
-/
import Derived.Test.YtlndidfeapkgcaaChecked
import GoSem.Claim
import GoSem.ClaimJoined
import GoSem.ClaimMapViews
import Derived.JoinedTies
import Derived.KernelRfl
namespace Go.Proofs.Ytlndidfeapkgcaa
/- THE CELL 'sum', in the pinned program and in every row, IS THE sha256 OF THE DUMP (.gsa) THAT YtlndidfeapkgcaaProg.lean LOADS. Nothing in Lean hashes anything: it is a label: what it is worth is what the hold of that sum in a sandbox is worth. -/
noncomputable def Try.pinned : Pinned := { name := "ytlndidfeapkgcaa", sum := "d88f51956c0ebc7d172115ede26901078fd8a9f850cd6c1ff1c68bb5db05f097", checked := Try.checked }
namespace Rows
def none {H : Type} : Left H := { results := [], args := [] }

/-- 'laws.FnExactMixed': WHATEVER THE INPUT: true; the input reads as it did. -/
def fnExactMixedSpec : ChangeSpec := { name := "fnExactMixed", fn := fun _ => fun
  | [d1, d2, d3] => { results := [.lit (.bool true)], args := [d1, d2, d3] }
  | _ => none }
def fnExactMixedRow : OpenClaim := { program := "ytlndidfeapkgcaa", sum := "d88f51956c0ebc7d172115ede26901078fd8a9f850cd6c1ff1c68bb5db05f097", func := "loop.example/g00761/laws.FnExactMixed", spec := "fnExactMixed", apart := false }
def FnExactMixedSaid : Prop := fnExactMixedRow.holds Try.pinned (OpenSpec.ofChange fnExactMixedSpec)

/-- ITS FALSE NEIGHBOUR: 'it returns false'. Refute it at one input. -/
def fnExactMixedWrong : ChangeSpec := { name := "fnExactMixed", fn := fun _ => fun
  | [d1, d2, d3] => { results := [.lit (.bool false)], args := [d1, d2, d3] }
  | _ => none }
def FnExactMixedWrongFalsely : Prop := fnExactMixedRow.holds Try.pinned (OpenSpec.ofChange fnExactMixedWrong)

/-- 'laws.FnExactSpread': WHATEVER THE INPUT: true; the input reads as it did. -/
def fnExactSpreadSpec : ChangeSpec := { name := "fnExactSpread", fn := fun _ => fun
  | [d1, d2] => { results := [.lit (.bool true)], args := [d1, d2] }
  | _ => none }
def fnExactSpreadRow : OpenClaim := { program := "ytlndidfeapkgcaa", sum := "d88f51956c0ebc7d172115ede26901078fd8a9f850cd6c1ff1c68bb5db05f097", func := "loop.example/g00761/laws.FnExactSpread", spec := "fnExactSpread", apart := false }
def FnExactSpreadSaid : Prop := fnExactSpreadRow.holds Try.pinned (OpenSpec.ofChange fnExactSpreadSpec)

/-- ITS FALSE NEIGHBOUR: 'it returns false'. Refute it at one input. -/
def fnExactSpreadWrong : ChangeSpec := { name := "fnExactSpread", fn := fun _ => fun
  | [d1, d2] => { results := [.lit (.bool false)], args := [d1, d2] }
  | _ => none }
def FnExactSpreadWrongFalsely : Prop := fnExactSpreadRow.holds Try.pinned (OpenSpec.ofChange fnExactSpreadWrong)

/-- 'laws.FnExactGather': WHATEVER THE INPUT: true; the input reads as it did. -/
def fnExactGatherSpec : ChangeSpec := { name := "fnExactGather", fn := fun _ => fun
  | [d] => { results := [.lit (.bool true)], args := [d] }
  | _ => none }
def fnExactGatherRow : OpenClaim := { program := "ytlndidfeapkgcaa", sum := "d88f51956c0ebc7d172115ede26901078fd8a9f850cd6c1ff1c68bb5db05f097", func := "loop.example/g00761/laws.FnExactGather", spec := "fnExactGather", apart := false }
def FnExactGatherSaid : Prop := fnExactGatherRow.holds Try.pinned (OpenSpec.ofChange fnExactGatherSpec)

/-- ITS FALSE NEIGHBOUR: 'it returns false'. Refute it at one input. -/
def fnExactGatherWrong : ChangeSpec := { name := "fnExactGather", fn := fun _ => fun
  | [d] => { results := [.lit (.bool false)], args := [d] }
  | _ => none }
def FnExactGatherWrongFalsely : Prop := fnExactGatherRow.holds Try.pinned (OpenSpec.ofChange fnExactGatherWrong)

/-- 'laws.FnTorn': WHATEVER THE INPUT: true; the input reads as it did. -/
def fnTornSpec : ChangeSpec := { name := "fnTorn", fn := fun _ => fun
  | [d] => { results := [.lit (.bool true)], args := [d] }
  | _ => none }
def fnTornRow : OpenClaim := { program := "ytlndidfeapkgcaa", sum := "d88f51956c0ebc7d172115ede26901078fd8a9f850cd6c1ff1c68bb5db05f097", func := "loop.example/g00761/laws.FnTorn", spec := "fnTorn", apart := false }
def FnTornSaid : Prop := fnTornRow.holds Try.pinned (OpenSpec.ofChange fnTornSpec)

/-- ITS FALSE NEIGHBOUR: 'it returns false'. Refute it at one input. -/
def fnTornWrong : ChangeSpec := { name := "fnTorn", fn := fun _ => fun
  | [d] => { results := [.lit (.bool false)], args := [d] }
  | _ => none }
def FnTornWrongFalsely : Prop := fnTornRow.holds Try.pinned (OpenSpec.ofChange fnTornWrong)

/-- 'laws.FnGather': WHATEVER THE INPUT: true; the input reads as it did. -/
def fnGatherSpec : ChangeSpec := { name := "fnGather", fn := fun _ => fun
  | [d] => { results := [.lit (.bool true)], args := [d] }
  | _ => none }
def fnGatherRow : OpenClaim := { program := "ytlndidfeapkgcaa", sum := "d88f51956c0ebc7d172115ede26901078fd8a9f850cd6c1ff1c68bb5db05f097", func := "loop.example/g00761/laws.FnGather", spec := "fnGather", apart := false }
def FnGatherSaid : Prop := fnGatherRow.holds Try.pinned (OpenSpec.ofChange fnGatherSpec)

/-- ITS FALSE NEIGHBOUR: 'it returns false'. Refute it at one input. -/
def fnGatherWrong : ChangeSpec := { name := "fnGather", fn := fun _ => fun
  | [d] => { results := [.lit (.bool false)], args := [d] }
  | _ => none }
def FnGatherWrongFalsely : Prop := fnGatherRow.holds Try.pinned (OpenSpec.ofChange fnGatherWrong)

/- THE SECOND FORM. 'bulk': how many values and letters a reading holds, each counted each time it is reached (what is shared counts as often as it is met; a slice's spare places count too). A statement '..UptoSaid' is the law's where the arguments, and the package variables that the reading takes, are together of bulk at most 1048576: NARROWER than '..Said'. Prove '..Said' where nothing that the law and all that it calls make is longer than what came in: it says more and counts as full. Else prove '..UptoSaid'. A law counts once. -/
mutual
def uptoBulk {H : Type} : DataW H → Nat
  | .lit (.string bytes) => bytes.length + 1
  | .lit _ => 1
  | .nil => 1
  | .ptr d => uptoBulk d + 1
  | .slice elems spare => uptoBulkAll elems + uptoBulkAll spare + 1
  | .agg parts => uptoBulkAll parts + 1
  | .iface _ d => uptoBulk d + 1
  | .map entries => uptoBulkEntries entries + 1
  | .held _ => 1
def uptoBulkAll {H : Type} : List (DataW H) → Nat
  | [] => 0
  | d :: r => uptoBulk d + uptoBulkAll r
def uptoBulkEntries {H : Type} : List (Lit × DataW H) → Nat
  | [] => 0
  | x :: r => uptoBulkEntry x + uptoBulkEntries r
def uptoBulkEntry {H : Type} : Lit × DataW H → Nat
  | (.string bytes, d) => bytes.length + uptoBulk d + 1
  | (_, d) => uptoBulk d + 1
 end
def uptoSmall : (H : Type) → List (DataW H) → Bool := fun _ ds => decide (uptoBulkAll ds ≤ 1048576)
def OpenSpec.upto (s : _root_.Go.ChangeSpec) : _root_.Go.OpenSpec := { _root_.Go.OpenSpec.ofChange s with cond := some uptoSmall }

/-- 'laws.FnExactMixed', WHERE WHAT IT READS IS OF BULK AT MOST 1048576: true; the input reads as it did. -/
def fnExactMixedUptoRow : OpenClaim := { program := "ytlndidfeapkgcaa", sum := "d88f51956c0ebc7d172115ede26901078fd8a9f850cd6c1ff1c68bb5db05f097", func := "loop.example/g00761/laws.FnExactMixed", spec := "fnExactMixed", apart := false, narrowed := true }
def FnExactMixedUptoSaid : Prop := fnExactMixedUptoRow.holds Try.pinned (OpenSpec.upto fnExactMixedSpec)

/-- 'laws.FnExactSpread', WHERE WHAT IT READS IS OF BULK AT MOST 1048576: true; the input reads as it did. -/
def fnExactSpreadUptoRow : OpenClaim := { program := "ytlndidfeapkgcaa", sum := "d88f51956c0ebc7d172115ede26901078fd8a9f850cd6c1ff1c68bb5db05f097", func := "loop.example/g00761/laws.FnExactSpread", spec := "fnExactSpread", apart := false, narrowed := true }
def FnExactSpreadUptoSaid : Prop := fnExactSpreadUptoRow.holds Try.pinned (OpenSpec.upto fnExactSpreadSpec)

/-- 'laws.FnExactGather', WHERE WHAT IT READS IS OF BULK AT MOST 1048576: true; the input reads as it did. -/
def fnExactGatherUptoRow : OpenClaim := { program := "ytlndidfeapkgcaa", sum := "d88f51956c0ebc7d172115ede26901078fd8a9f850cd6c1ff1c68bb5db05f097", func := "loop.example/g00761/laws.FnExactGather", spec := "fnExactGather", apart := false, narrowed := true }
def FnExactGatherUptoSaid : Prop := fnExactGatherUptoRow.holds Try.pinned (OpenSpec.upto fnExactGatherSpec)

/-- 'laws.FnTorn', WHERE WHAT IT READS IS OF BULK AT MOST 1048576: true; the input reads as it did. -/
def fnTornUptoRow : OpenClaim := { program := "ytlndidfeapkgcaa", sum := "d88f51956c0ebc7d172115ede26901078fd8a9f850cd6c1ff1c68bb5db05f097", func := "loop.example/g00761/laws.FnTorn", spec := "fnTorn", apart := false, narrowed := true }
def FnTornUptoSaid : Prop := fnTornUptoRow.holds Try.pinned (OpenSpec.upto fnTornSpec)

/-- 'laws.FnGather', WHERE WHAT IT READS IS OF BULK AT MOST 1048576: true; the input reads as it did. -/
def fnGatherUptoRow : OpenClaim := { program := "ytlndidfeapkgcaa", sum := "d88f51956c0ebc7d172115ede26901078fd8a9f850cd6c1ff1c68bb5db05f097", func := "loop.example/g00761/laws.FnGather", spec := "fnGather", apart := false, narrowed := true }
def FnGatherUptoSaid : Prop := fnGatherUptoRow.holds Try.pinned (OpenSpec.upto fnGatherSpec)

end Rows
end Go.Proofs.Ytlndidfeapkgcaa
