/-
  No cell of these rows narrows 'for every input' (looked for: loops, veiled, ifaces, maps, wideKeys, modest, calm, conditions, laid).
  DERIVED. THE GIVEN ROWS OF THIS SEAT. 6 by the template 'for every input the law returns true; each argument reads behind the call as it read before'; 0 by the template 'total and deterministic' (their statements: YtpngfnhkibkebaaTotals.lean).
  GIVEN WITH THE SEED: the statements are not yours to turn. If you find one false, say at which input.
  Laid BY PROGRAM, IN A SANDBOX (cutbox-rows.mjs): the forced cells as the released guide's own fill.sh prints them over the translation 6f92be357db7074e… (all of the seat's roots in one cut). By AI agents, Wed Nov 11 2026. No macro, syntax, notation, axiom, sorry.
-/
import Derived.Test.YtpngfnhkibkebaaChecked
import GoSem.Claim
import GoSem.ClaimJoined
import GoSem.ClaimMapViews
import Derived.JoinedTies
import Derived.KernelRfl
namespace Go.Proofs.Ytpngfnhkibkebaa
/- THE CELL 'sum', in the pinned program and in every row, IS THE sha256 OF THE DUMP (.gsa) THAT YtpngfnhkibkebaaProg.lean LOADS. Nothing in Lean hashes anything: it is a label: what it is worth is what the hold of that sum in a sandbox is worth. -/
noncomputable def Try.pinned : Pinned := { name := "ytpngfnhkibkebaa", sum := "6f92be357db7074e69d709eeb17e5db075beae1aef04d007201673b12c8f3f57", checked := Try.checked }
namespace Rows
def none {H : Type} : Left H := { results := [], args := [] }

/-- 'laws.FnExactQuotaOk': WHATEVER THE INPUT: true; the input reads as it did. -/
def fnExactQuotaOkSpec : ChangeSpec := { name := "fnExactQuotaOk", fn := fun _ => fun
  | [d] => { results := [.lit (.bool true)], args := [d] }
  | _ => none }
def fnExactQuotaOkRow : OpenClaim := { program := "ytpngfnhkibkebaa", sum := "6f92be357db7074e69d709eeb17e5db075beae1aef04d007201673b12c8f3f57", func := "loop.example/g00761/laws.FnExactQuotaOk", spec := "fnExactQuotaOk", apart := false }
def FnExactQuotaOkSaid : Prop := fnExactQuotaOkRow.holds Try.pinned (OpenSpec.ofChange fnExactQuotaOkSpec)

/-- ITS FALSE NEIGHBOUR: 'it returns false'. Refute it at one input. -/
def fnExactQuotaOkWrong : ChangeSpec := { name := "fnExactQuotaOk", fn := fun _ => fun
  | [d] => { results := [.lit (.bool false)], args := [d] }
  | _ => none }
def FnExactQuotaOkWrongFalsely : Prop := fnExactQuotaOkRow.holds Try.pinned (OpenSpec.ofChange fnExactQuotaOkWrong)

/-- 'laws.FnExactQuotaLeft': WHATEVER THE INPUT: true; the input reads as it did. -/
def fnExactQuotaLeftSpec : ChangeSpec := { name := "fnExactQuotaLeft", fn := fun _ => fun
  | [d1, d2] => { results := [.lit (.bool true)], args := [d1, d2] }
  | _ => none }
def fnExactQuotaLeftRow : OpenClaim := { program := "ytpngfnhkibkebaa", sum := "6f92be357db7074e69d709eeb17e5db075beae1aef04d007201673b12c8f3f57", func := "loop.example/g00761/laws.FnExactQuotaLeft", spec := "fnExactQuotaLeft", apart := false }
def FnExactQuotaLeftSaid : Prop := fnExactQuotaLeftRow.holds Try.pinned (OpenSpec.ofChange fnExactQuotaLeftSpec)

/-- ITS FALSE NEIGHBOUR: 'it returns false'. Refute it at one input. -/
def fnExactQuotaLeftWrong : ChangeSpec := { name := "fnExactQuotaLeft", fn := fun _ => fun
  | [d1, d2] => { results := [.lit (.bool false)], args := [d1, d2] }
  | _ => none }
def FnExactQuotaLeftWrongFalsely : Prop := fnExactQuotaLeftRow.holds Try.pinned (OpenSpec.ofChange fnExactQuotaLeftWrong)

/-- 'laws.FnQuota': WHATEVER THE INPUT: true; the input reads as it did. -/
def fnQuotaSpec : ChangeSpec := { name := "fnQuota", fn := fun _ => fun
  | [d] => { results := [.lit (.bool true)], args := [d] }
  | _ => none }
def fnQuotaRow : OpenClaim := { program := "ytpngfnhkibkebaa", sum := "6f92be357db7074e69d709eeb17e5db075beae1aef04d007201673b12c8f3f57", func := "loop.example/g00761/laws.FnQuota", spec := "fnQuota", apart := false }
def FnQuotaSaid : Prop := fnQuotaRow.holds Try.pinned (OpenSpec.ofChange fnQuotaSpec)

/-- ITS FALSE NEIGHBOUR: 'it returns false'. Refute it at one input. -/
def fnQuotaWrong : ChangeSpec := { name := "fnQuota", fn := fun _ => fun
  | [d] => { results := [.lit (.bool false)], args := [d] }
  | _ => none }
def FnQuotaWrongFalsely : Prop := fnQuotaRow.holds Try.pinned (OpenSpec.ofChange fnQuotaWrong)

/-- 'laws.FnExactQuotaGive': WHATEVER THE INPUT: true; the input reads as it did. -/
def fnExactQuotaGiveSpec : ChangeSpec := { name := "fnExactQuotaGive", fn := fun _ => fun
  | [d1, d2, d3] => { results := [.lit (.bool true)], args := [d1, d2, d3] }
  | _ => none }
def fnExactQuotaGiveRow : OpenClaim := { program := "ytpngfnhkibkebaa", sum := "6f92be357db7074e69d709eeb17e5db075beae1aef04d007201673b12c8f3f57", func := "loop.example/g00761/laws.FnExactQuotaGive", spec := "fnExactQuotaGive", apart := false }
def FnExactQuotaGiveSaid : Prop := fnExactQuotaGiveRow.holds Try.pinned (OpenSpec.ofChange fnExactQuotaGiveSpec)

/-- ITS FALSE NEIGHBOUR: 'it returns false'. Refute it at one input. -/
def fnExactQuotaGiveWrong : ChangeSpec := { name := "fnExactQuotaGive", fn := fun _ => fun
  | [d1, d2, d3] => { results := [.lit (.bool false)], args := [d1, d2, d3] }
  | _ => none }
def FnExactQuotaGiveWrongFalsely : Prop := fnExactQuotaGiveRow.holds Try.pinned (OpenSpec.ofChange fnExactQuotaGiveWrong)

/-- 'laws.FnExactQuotaSet': WHATEVER THE INPUT: true; the input reads as it did. -/
def fnExactQuotaSetSpec : ChangeSpec := { name := "fnExactQuotaSet", fn := fun _ => fun
  | [d1, d2, d3, d4] => { results := [.lit (.bool true)], args := [d1, d2, d3, d4] }
  | _ => none }
def fnExactQuotaSetRow : OpenClaim := { program := "ytpngfnhkibkebaa", sum := "6f92be357db7074e69d709eeb17e5db075beae1aef04d007201673b12c8f3f57", func := "loop.example/g00761/laws.FnExactQuotaSet", spec := "fnExactQuotaSet", apart := false }
def FnExactQuotaSetSaid : Prop := fnExactQuotaSetRow.holds Try.pinned (OpenSpec.ofChange fnExactQuotaSetSpec)

/-- ITS FALSE NEIGHBOUR: 'it returns false'. Refute it at one input. -/
def fnExactQuotaSetWrong : ChangeSpec := { name := "fnExactQuotaSet", fn := fun _ => fun
  | [d1, d2, d3, d4] => { results := [.lit (.bool false)], args := [d1, d2, d3, d4] }
  | _ => none }
def FnExactQuotaSetWrongFalsely : Prop := fnExactQuotaSetRow.holds Try.pinned (OpenSpec.ofChange fnExactQuotaSetWrong)

/-- 'laws.FnExactQuotaTake': WHATEVER THE INPUT: true; the input reads as it did. -/
def fnExactQuotaTakeSpec : ChangeSpec := { name := "fnExactQuotaTake", fn := fun _ => fun
  | [d1, d2, d3] => { results := [.lit (.bool true)], args := [d1, d2, d3] }
  | _ => none }
def fnExactQuotaTakeRow : OpenClaim := { program := "ytpngfnhkibkebaa", sum := "6f92be357db7074e69d709eeb17e5db075beae1aef04d007201673b12c8f3f57", func := "loop.example/g00761/laws.FnExactQuotaTake", spec := "fnExactQuotaTake", apart := false }
def FnExactQuotaTakeSaid : Prop := fnExactQuotaTakeRow.holds Try.pinned (OpenSpec.ofChange fnExactQuotaTakeSpec)

/-- ITS FALSE NEIGHBOUR: 'it returns false'. Refute it at one input. -/
def fnExactQuotaTakeWrong : ChangeSpec := { name := "fnExactQuotaTake", fn := fun _ => fun
  | [d1, d2, d3] => { results := [.lit (.bool false)], args := [d1, d2, d3] }
  | _ => none }
def FnExactQuotaTakeWrongFalsely : Prop := fnExactQuotaTakeRow.holds Try.pinned (OpenSpec.ofChange fnExactQuotaTakeWrong)

/- THE SECOND FORM. 'bulk': how many values and letters a reading holds, each counted each time it is reached (what is shared counts as often as it is met; a slice's spare places count too). A statement '..UptoSaid' is the law's where the arguments, and the package variables that the reading takes, are together of bulk at most 1048576: NARROWER than '..Said'. Prove '..Said' where nothing that the law and all that it calls make is longer than what came in: it says more and counts as full. Else prove '..UptoSaid'. A law counts once. -/
mutual
def uptoBulk {H : Type} : DataW H → Nat
  | .lit (.string bytes) => bytes.length + 1
  | .lit _ => 1
  | .nil => 1
  | .ptr d => uptoBulk d + 1
  | .slice elems spare => uptoBulkAll elems + uptoBulkAll spare + 1
  | .agg parts => uptoBulkAll parts + 1
  | .iface _ d => uptoBulk d + 1
  | .map entries => uptoBulkEntries entries + 1
  | .held _ => 1
def uptoBulkAll {H : Type} : List (DataW H) → Nat
  | [] => 0
  | d :: r => uptoBulk d + uptoBulkAll r
def uptoBulkEntries {H : Type} : List (Lit × DataW H) → Nat
  | [] => 0
  | x :: r => uptoBulkEntry x + uptoBulkEntries r
def uptoBulkEntry {H : Type} : Lit × DataW H → Nat
  | (.string bytes, d) => bytes.length + uptoBulk d + 1
  | (_, d) => uptoBulk d + 1
 end
def uptoSmall : (H : Type) → List (DataW H) → Bool := fun _ ds => decide (uptoBulkAll ds ≤ 1048576)
def OpenSpec.upto (s : _root_.Go.ChangeSpec) : _root_.Go.OpenSpec := { _root_.Go.OpenSpec.ofChange s with cond := some uptoSmall }

/-- 'laws.FnExactQuotaOk', WHERE WHAT IT READS IS OF BULK AT MOST 1048576: true; the input reads as it did. -/
def fnExactQuotaOkUptoRow : OpenClaim := { program := "ytpngfnhkibkebaa", sum := "6f92be357db7074e69d709eeb17e5db075beae1aef04d007201673b12c8f3f57", func := "loop.example/g00761/laws.FnExactQuotaOk", spec := "fnExactQuotaOk", apart := false, narrowed := true }
def FnExactQuotaOkUptoSaid : Prop := fnExactQuotaOkUptoRow.holds Try.pinned (OpenSpec.upto fnExactQuotaOkSpec)

/-- 'laws.FnExactQuotaLeft', WHERE WHAT IT READS IS OF BULK AT MOST 1048576: true; the input reads as it did. -/
def fnExactQuotaLeftUptoRow : OpenClaim := { program := "ytpngfnhkibkebaa", sum := "6f92be357db7074e69d709eeb17e5db075beae1aef04d007201673b12c8f3f57", func := "loop.example/g00761/laws.FnExactQuotaLeft", spec := "fnExactQuotaLeft", apart := false, narrowed := true }
def FnExactQuotaLeftUptoSaid : Prop := fnExactQuotaLeftUptoRow.holds Try.pinned (OpenSpec.upto fnExactQuotaLeftSpec)

/-- 'laws.FnQuota', WHERE WHAT IT READS IS OF BULK AT MOST 1048576: true; the input reads as it did. -/
def fnQuotaUptoRow : OpenClaim := { program := "ytpngfnhkibkebaa", sum := "6f92be357db7074e69d709eeb17e5db075beae1aef04d007201673b12c8f3f57", func := "loop.example/g00761/laws.FnQuota", spec := "fnQuota", apart := false, narrowed := true }
def FnQuotaUptoSaid : Prop := fnQuotaUptoRow.holds Try.pinned (OpenSpec.upto fnQuotaSpec)

/-- 'laws.FnExactQuotaGive', WHERE WHAT IT READS IS OF BULK AT MOST 1048576: true; the input reads as it did. -/
def fnExactQuotaGiveUptoRow : OpenClaim := { program := "ytpngfnhkibkebaa", sum := "6f92be357db7074e69d709eeb17e5db075beae1aef04d007201673b12c8f3f57", func := "loop.example/g00761/laws.FnExactQuotaGive", spec := "fnExactQuotaGive", apart := false, narrowed := true }
def FnExactQuotaGiveUptoSaid : Prop := fnExactQuotaGiveUptoRow.holds Try.pinned (OpenSpec.upto fnExactQuotaGiveSpec)

/-- 'laws.FnExactQuotaSet', WHERE WHAT IT READS IS OF BULK AT MOST 1048576: true; the input reads as it did. -/
def fnExactQuotaSetUptoRow : OpenClaim := { program := "ytpngfnhkibkebaa", sum := "6f92be357db7074e69d709eeb17e5db075beae1aef04d007201673b12c8f3f57", func := "loop.example/g00761/laws.FnExactQuotaSet", spec := "fnExactQuotaSet", apart := false, narrowed := true }
def FnExactQuotaSetUptoSaid : Prop := fnExactQuotaSetUptoRow.holds Try.pinned (OpenSpec.upto fnExactQuotaSetSpec)

/-- 'laws.FnExactQuotaTake', WHERE WHAT IT READS IS OF BULK AT MOST 1048576: true; the input reads as it did. -/
def fnExactQuotaTakeUptoRow : OpenClaim := { program := "ytpngfnhkibkebaa", sum := "6f92be357db7074e69d709eeb17e5db075beae1aef04d007201673b12c8f3f57", func := "loop.example/g00761/laws.FnExactQuotaTake", spec := "fnExactQuotaTake", apart := false, narrowed := true }
def FnExactQuotaTakeUptoSaid : Prop := fnExactQuotaTakeUptoRow.holds Try.pinned (OpenSpec.upto fnExactQuotaTakeSpec)

end Rows
end Go.Proofs.Ytpngfnhkibkebaa
