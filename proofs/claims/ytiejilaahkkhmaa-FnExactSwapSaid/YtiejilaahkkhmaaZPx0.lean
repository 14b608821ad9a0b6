-- Ours: printed or written for this claim; cut to what the theorem needs.
import Derived.Test.YtiejilaahkkhmaaProg
import Derived.Below
import Derived.Deep.Draws
import Derived.Deep.AppendLies
import Derived.Maps.AppendAt
import Derived.OwnWalk
import Derived.Laws.BytesArg
import Derived.Laws.MakeOwn
import Derived.Laws.OwnMore
import Derived.Deep.OwnRows
import Derived.Tactics
import Derived.Lib.ConvBytes
import Derived.Laws.Slices
import Derived.WalkKit
import Derived.KernelRfl
import Derived.RowKit3
import Derived.Deep.LoopGhost
import Derived.Deep.QuietTactic
import Derived.BigQuiet
import Derived.WideLaws
import Derived.Deep.DeepCutAuto
import Derived.Deep.CutBlock
import Derived.Deep.RegionHeld3
import Derived.Laws.Rows
import Derived.Lib.AppendStr
import Derived.ArgAppend
import Derived.Laws.IdiomCopy
import Derived.OrdersHeld
import Derived.Laws.BitsLemmas
import Derived.RowKit
import Derived.Lib.SliceRun
import Derived.StillTail
import Derived.StillTactics
import Derived.Test.YtiejilaahkkhmaaZWWords
import Derived.Test.YtiejilaahkkhmaaZWLast
import Derived.Test.YtiejilaahkkhmaaZWTab
import Derived.Test.YtiejilaahkkhmaaZWApart
import Derived.Test.YtiejilaahkkhmaaZWFoot
import Derived.Test.YtiejilaahkkhmaaZWKept
import Derived.Test.YtiejilaahkkhmaaZWShare
import Derived.Test.YtiejilaahkkhmaaZWN
import Derived.Laws.StructEq
import Derived.Test.YtiejilaahkkhmaaZWRepsOne
import Derived.Test.YtiejilaahkkhmaaZWGuard
import Derived.Test.YtiejilaahkkhmaaZWMore
namespace Go.Proofs.Ytiejilaahkkhmaa.P
open Go.RowKit Go.Proofs.YtiejilaahkkhmaaW.PrintWords Go.Proofs.YtiejilaahkkhmaaW.PrintLast Go.Proofs.YtiejilaahkkhmaaW.PrintMore
attribute [local go_sem] max2_int min2_int max_two min_two max_three min_three max_four min_four
set_option linter.unusedVariables false
set_option linter.unusedSimpArgs false
def errW : Option Int → Value
  | none => .nilIface
  | some c => .iface 0 (.int .i64 c)
theorem errW_none : errW none = .nilIface:=rfl
theorem errW_some (c : Int) : errW (some c) = .iface 0 (.int .i64 c):=rfl
theorem info3 : (Try.prog.info? 3).map (fun i => (i.zero,i.size,i.bytes)) = some (some (.int .i64 0),1,8):=by kernel_rfl
theorem info9 : (Try.prog.info? 9).map (fun i => (i.zero,i.size,i.bytes)) = some (some (.string ⟨#[]⟩),1,16):=by kernel_rfl
theorem info36 : (Try.prog.info? 36).map (fun i => (i.zero,i.size,i.bytes)) = some (some (.agg #[(.int .i64 0),(.int .i64 0),(.int .i64 0),(.string ⟨#[]⟩)]),4,40):=by kernel_rfl
structure S36 where
  f0 : Int
  f1 : Int
  f2 : Int
  f3 : ByteArray
def z36 : S36:=⟨(0 : Int),(0 : Int),(0 : Int),(⟨#[]⟩ : ByteArray)⟩
def k36 : Kd S36:=Kd.iso (Kd.pair (Kd.int .i64) (Kd.pair (Kd.int .i64) (Kd.pair (Kd.int .i64) Kd.string))) (fun x : S36 => (x.f0,x.f1,x.f2,x.f3))
theorem k36_open {w : World} {x : S36} {cs : List Value} (h : k36.K w x cs) : cs = [.int .i64 x.f0,.int .i64 x.f1,.int .i64 x.f2,.string x.f3]:=by
  obtain ⟨_,_,rfl,rfl,⟨_,_,rfl,rfl,⟨_,_,rfl,rfl,rfl⟩⟩⟩:=h
  exact rfl
theorem k36_openM {w : World} {base : Nat} {ok : Nat → Prop} {x : S36} {cs : List Value} (h : k36.M w base ok x cs) : cs = [.int .i64 x.f0,.int .i64 x.f1,.int .i64 x.f2,.string x.f3]:=by
  obtain ⟨_,_,rfl,rfl,⟨_,_,rfl,rfl,⟨_,_,rfl,rfl,rfl⟩⟩⟩:=h
  exact rfl
theorem k36_mkM (w : World) (base : Nat) (ok : Nat → Prop) (x : S36)  : k36.M w base ok x [.int .i64 x.f0,.int .i64 x.f1,.int .i64 x.f2,.string x.f3]:=⟨[.int .i64 x.f0],[.int .i64 x.f1,.int .i64 x.f2,.string x.f3],rfl,rfl,⟨[.int .i64 x.f1],[.int .i64 x.f2,.string x.f3],rfl,rfl,⟨[.int .i64 x.f2],[.string x.f3],rfl,rfl,rfl⟩⟩⟩
def rd_T36 (xs : List S36) (i : Int) : S36:=xs.getD i.toNat z36
theorem at_T36 {w : World} {A : Option Addr} {n : Nat} {xs : List S36} (h : Kd.C k36 w A n xs) (i : Int) (h0 : 0 ≤ i) (h1 : i < n) : ∃ ad ,A = some ad ∧ w.cell? (ad.add (i.toNat * 4)) = some (.int .i64 (rd_T36 xs i).f0) ∧ w.cell? ⟨(ad.add (i.toNat * 4)).block,(ad.add (i.toNat * 4)).off + 1,none⟩ = some (.int .i64 (rd_T36 xs i).f1) ∧ w.cell? ⟨(ad.add (i.toNat * 4)).block,(ad.add (i.toNat * 4)).off + 2,none⟩ = some (.int .i64 (rd_T36 xs i).f2) ∧ w.cell? ⟨(ad.add (i.toNat * 4)).block,(ad.add (i.toNat * 4)).off + 3,none⟩ = some (.string (rd_T36 xs i).f3):=by
  obtain ⟨ad,c,e,_,hK,hc0⟩:=Kd.C_get h z36 i h0 h1
  have hc : ∀ j u,c[j]? = some u → w.cell? (ad.add (i.toNat * 4 + j)) = some u:=hc0
  obtain rfl:=k36_open hK
  exact ⟨ad,e,hc 0 _ rfl,by rw [← add_field _ _ 1 (by omega)];exact hc 1 _ rfl,by rw [← add_field _ _ 2 (by omega)];exact hc 2 _ rfl,by rw [← add_field _ _ 3 (by omega)];exact hc 3 _ rfl⟩
structure S95 where
  f0 : Int
  f1 : Int
  f2 : Int
  f3 : ByteArray
def z95 : S95:=⟨(0 : Int),(0 : Int),(0 : Int),(⟨#[]⟩ : ByteArray)⟩
def k95 : Kd S95:=Kd.iso (Kd.pair (Kd.int .i64) (Kd.pair (Kd.int .i64) (Kd.pair (Kd.int .i64) Kd.string))) (fun x : S95 => (x.f0,x.f1,x.f2,x.f3))
theorem k95_open {w : World} {x : S95} {cs : List Value} (h : k95.K w x cs) : cs = [.int .i64 x.f0,.int .i64 x.f1,.int .i64 x.f2,.string x.f3]:=by
  obtain ⟨_,_,rfl,rfl,⟨_,_,rfl,rfl,⟨_,_,rfl,rfl,rfl⟩⟩⟩:=h
  exact rfl
def rd_T95 (xs : List S95) (i : Int) : S95:=xs.getD i.toNat z95
theorem at_T95 {w : World} {A : Option Addr} {n : Nat} {xs : List S95} (h : Kd.C k95 w A n xs) (i : Int) (h0 : 0 ≤ i) (h1 : i < n) : ∃ ad ,A = some ad ∧ w.cell? (ad.add (i.toNat * 4)) = some (.int .i64 (rd_T95 xs i).f0) ∧ w.cell? ⟨(ad.add (i.toNat * 4)).block,(ad.add (i.toNat * 4)).off + 1,none⟩ = some (.int .i64 (rd_T95 xs i).f1) ∧ w.cell? ⟨(ad.add (i.toNat * 4)).block,(ad.add (i.toNat * 4)).off + 2,none⟩ = some (.int .i64 (rd_T95 xs i).f2) ∧ w.cell? ⟨(ad.add (i.toNat * 4)).block,(ad.add (i.toNat * 4)).off + 3,none⟩ = some (.string (rd_T95 xs i).f3):=by
  obtain ⟨ad,c,e,_,hK,hc0⟩:=Kd.C_get h z95 i h0 h1
  have hc : ∀ j u,c[j]? = some u → w.cell? (ad.add (i.toNat * 4 + j)) = some u:=hc0
  obtain rfl:=k95_open hK
  exact ⟨ad,e,hc 0 _ rfl,by rw [← add_field _ _ 1 (by omega)];exact hc 1 _ rfl,by rw [← add_field _ _ 2 (by omega)];exact hc 2 _ rfl,by rw [← add_field _ _ 3 (by omega)];exact hc 3 _ rfl⟩
structure S45 where
  f0 : (List ByteArray)
  f1 : (List Int)
  f2 : (List S95)
def k45 : Kd S45:=Kd.iso (Kd.pair (Kd.slice 9 Kd.string) (Kd.pair (Kd.slice 3 (Kd.int .i64)) (Kd.slice 95 k95))) (fun x : S45 => (x.f0,x.f1,x.f2))
theorem k45_open {w : World} {x : S45} {cs : List Value} (h : k45.K w x cs) : ∃ A0 c0 A1 c1 A2 c2,cs = [.slice A0 x.f0.length c0,.slice A1 x.f1.length c1,.slice A2 x.f2.length c2] ∧ x.f0.length ≤ c0 ∧ Kd.string.C w A0 x.f0.length x.f0 ∧ x.f1.length ≤ c1 ∧ (Kd.int .i64).C w A1 x.f1.length x.f1 ∧ x.f2.length ≤ c2 ∧ k95.C w A2 x.f2.length x.f2:=by
  obtain ⟨_,_,rfl,⟨A0,c0,rfl,l0,g0⟩,⟨_,_,rfl,⟨A1,c1,rfl,l1,g1⟩,⟨A2,c2,rfl,l2,g2⟩⟩⟩:=h
  exact ⟨A0,c0,A1,c1,A2,c2,rfl,l0,g0,l1,g1,l2,g2⟩
theorem C_none_ {α : Type} {d : Kd α} {w : World} {xs : List α} (h : Kd.C d w none xs.length xs) : xs = []:=by
  cases xs with
  | nil => rfl
  | cons x t =>
    obtain ⟨ad,c,he,_⟩:=Kd.C_get h x 0 (by decide) (by simp only [List.length_cons];omega)
    cases he
theorem gate_at_ {P : Program} {ops : Array Oper} {o : Oper} {rest : List Oper} {a : Act} {W : World} {Q : Exit → Act → World → Prop} {s : String} (_h : o.pos = s) (h : wpList P ops Q (o :: rest) a W) : wpList P ops Q (o :: rest) a W:=h
def setAll_ : World → Nat → Nat → List Value → World
  | W,_,_,[] => W
  | W,g,j,v :: vs => setAll_ (W.setCell ⟨g,j,none⟩ v) g (j + 1) vs
theorem setAll_grown (W : World) (g j : Nat) (vs : List Value) : W.grownBy (setAll_ W g j vs) (some g):=by
  induction vs generalizing W j with
  | nil => exact World.grownBy.refl W _
  | cons v vs ih => exact World.grownBy.trans (show W.grownBy (W.setCell ⟨g,j,none⟩ v) (some g) from ⟨rfl,rfl,rfl,by simp [World.setCell],fun i _ hr => Below.heap_setCell W ⟨g,j,none⟩ v i (fun e => hr (by rw [e]))⟩) (ih _ _)
theorem setAll_blk_at {g : Nat} {t : TypeId} (vs : List Value) : ∀ (pre cs : List Value) (W : World),W.heap[g]? = some (.cells (pre ++ cs).toArray t (0,0)) → cs.length = vs.length → (setAll_ W g pre.length vs).heap[g]? = some (.cells (pre ++ vs).toArray t (0,0)):=by
  induction vs with
  | nil => intro pre cs W h hl;obtain rfl : cs = []:=List.eq_nil_of_length_eq_zero hl;exact h
  | cons v vs ih =>
    intro pre cs W h hl
    cases cs with
    | nil => simp at hl
    | cons c cs =>
      have h1 : (W.setCell ⟨g,pre.length,none⟩ v).heap[g]? = some (.cells ((pre ++ [v]) ++ cs).toArray t (0,0)):=blk_put h pre.length v (by simp)
      have:=ih (pre ++ [v]) cs _ h1 (by simpa using hl)
      simpa [setAll_] using this
theorem setAll_blk {W : World} {g : Nat} {t : TypeId} {cs vs : List Value} (h : W.heap[g]? = some (.cells cs.toArray t (0,0))) (hl : cs.length = vs.length) : (setAll_ W g 0 vs).heap[g]? = some (.cells vs.toArray t (0,0)):=setAll_blk_at vs [] cs W h hl
theorem ne_some_ {a b : Nat} (h : a ≠ b) : some a ≠ some b:=fun e => h (Option.some.inj e)
theorem below_gr_ {w W W1 : World} {g : Nat} (h : Below w.heap.size w W) (hg : W.grownBy W1 (some g)) (hw : w.heap.size ≤ g) : Below w.heap.size w W1:=h.grown hg h.size (fun k hk => by injection hk with hk;subst hk;exact hw)
theorem kdgr_R {α : Type} {d : Kd α} {e : Nat} {W W1 : World} {base g : Nat} {ok : Nat → Prop} {v : Value} {xs : List α} (h : d.R e W base ok v xs) (hok : ∀ k,ok k → k ≠ g) (hg : W.grownBy W1 (some g)) : d.R e W1 base ok v xs:=Kd.R_step h (fun k ho hlt => hg.block k hlt (fun e => hok k ho (Option.some.inj e)))
end Go.Proofs.Ytiejilaahkkhmaa.P
