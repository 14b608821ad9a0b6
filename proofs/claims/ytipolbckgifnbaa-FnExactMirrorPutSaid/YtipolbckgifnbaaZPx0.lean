-- Ours: printed or written for this claim; cut to what the theorem needs.
import Derived.Test.YtipolbckgifnbaaProg
import Derived.Below
import Derived.Deep.Draws
import Derived.Deep.AppendLies
import Derived.Maps.AppendAt
import Derived.OwnWalk
import Derived.Laws.BytesArg
import Derived.Laws.MakeOwn
import Derived.Laws.OwnMore
import Derived.Deep.OwnRows
import Derived.Tactics
import Derived.Lib.ConvBytes
import Derived.Laws.Slices
import Derived.WalkKit
import Derived.KernelRfl
import Derived.RowKit3
import Derived.Deep.LoopGhost
import Derived.Deep.QuietTactic
import Derived.BigQuiet
import Derived.WideLaws
import Derived.Deep.DeepCutAuto
import Derived.Deep.CutBlock
import Derived.Deep.RegionHeld3
import Derived.Laws.Rows
import Derived.Lib.AppendStr
import Derived.ArgAppend
import Derived.Laws.IdiomCopy
import Derived.OrdersHeld
import Derived.Laws.BitsLemmas
import Derived.RowKit
import Derived.Lib.SliceRun
import Derived.StillTail
import Derived.StillTactics
import Derived.Test.YtipolbckgifnbaaZWWords
import Derived.Test.YtipolbckgifnbaaZWLast
import Derived.Test.YtipolbckgifnbaaZWTab
import Derived.Test.YtipolbckgifnbaaZWApart
import Derived.Test.YtipolbckgifnbaaZWFoot
import Derived.Test.YtipolbckgifnbaaZWKept
import Derived.Test.YtipolbckgifnbaaZWShare
import Derived.Test.YtipolbckgifnbaaZWN
import Derived.Laws.StructEq
import Derived.Test.YtipolbckgifnbaaZWRepsOne
import Derived.Test.YtipolbckgifnbaaZWGuard
import Derived.Test.YtipolbckgifnbaaZWMore
namespace Go.Proofs.Ytipolbckgifnbaa.P
open Go.RowKit Go.Proofs.YtipolbckgifnbaaW.PrintWords Go.Proofs.YtipolbckgifnbaaW.PrintLast Go.Proofs.YtipolbckgifnbaaW.PrintMore
attribute [local go_sem] max2_int min2_int max_two min_two max_three min_three max_four min_four
set_option linter.unusedVariables false
set_option linter.unusedSimpArgs false
def errW : Option Int → Value
  | none => .nilIface
  | some c => .iface 0 (.int .i64 c)
theorem errW_none : errW none = .nilIface:=rfl
theorem errW_some (c : Int) : errW (some c) = .iface 0 (.int .i64 c):=rfl
theorem info3 : (Try.prog.info? 3).map (fun i => (i.zero,i.size,i.bytes)) = some (some (.int .i64 0),1,8):=by kernel_rfl
theorem info5 : (Try.prog.info? 5).map (fun i => (i.zero,i.size,i.bytes)) = some (some (.int .u8 0),1,1):=by kernel_rfl
theorem gate_at_ {P : Program} {ops : Array Oper} {o : Oper} {rest : List Oper} {a : Act} {W : World} {Q : Exit → Act → World → Prop} {s : String} (_h : o.pos = s) (h : wpList P ops Q (o :: rest) a W) : wpList P ops Q (o :: rest) a W:=h
def setAll_ : World → Nat → Nat → List Value → World
  | W,_,_,[] => W
  | W,g,j,v :: vs => setAll_ (W.setCell ⟨g,j,none⟩ v) g (j + 1) vs
theorem setAll_grown (W : World) (g j : Nat) (vs : List Value) : W.grownBy (setAll_ W g j vs) (some g):=by
  induction vs generalizing W j with
  | nil => exact World.grownBy.refl W _
  | cons v vs ih => exact World.grownBy.trans (show W.grownBy (W.setCell ⟨g,j,none⟩ v) (some g) from ⟨rfl,rfl,rfl,by simp [World.setCell],fun i _ hr => Below.heap_setCell W ⟨g,j,none⟩ v i (fun e => hr (by rw [e]))⟩) (ih _ _)
theorem setAll_blk_at {g : Nat} {t : TypeId} (vs : List Value) : ∀ (pre cs : List Value) (W : World),W.heap[g]? = some (.cells (pre ++ cs).toArray t (0,0)) → cs.length = vs.length → (setAll_ W g pre.length vs).heap[g]? = some (.cells (pre ++ vs).toArray t (0,0)):=by
  induction vs with
  | nil => intro pre cs W h hl;obtain rfl : cs = []:=List.eq_nil_of_length_eq_zero hl;exact h
  | cons v vs ih =>
    intro pre cs W h hl
    cases cs with
    | nil => simp at hl
    | cons c cs =>
      have h1 : (W.setCell ⟨g,pre.length,none⟩ v).heap[g]? = some (.cells ((pre ++ [v]) ++ cs).toArray t (0,0)):=blk_put h pre.length v (by simp)
      have:=ih (pre ++ [v]) cs _ h1 (by simpa using hl)
      simpa [setAll_] using this
theorem setAll_blk {W : World} {g : Nat} {t : TypeId} {cs vs : List Value} (h : W.heap[g]? = some (.cells cs.toArray t (0,0))) (hl : cs.length = vs.length) : (setAll_ W g 0 vs).heap[g]? = some (.cells vs.toArray t (0,0)):=setAll_blk_at vs [] cs W h hl
theorem ne_some_ {a b : Nat} (h : a ≠ b) : some a ≠ some b:=fun e => h (Option.some.inj e)
theorem below_gr_ {w W W1 : World} {g : Nat} (h : Below w.heap.size w W) (hg : W.grownBy W1 (some g)) (hw : w.heap.size ≤ g) : Below w.heap.size w W1:=h.grown hg h.size (fun k hk => by injection hk with hk;subst hk;exact hw)
end Go.Proofs.Ytipolbckgifnbaa.P
