-- Ours: printed or written for this claim; cut to what the theorem needs.
import Derived.Test.YtnldanonpdijgaaProg
import Derived.Below
import Derived.Deep.Draws
import Derived.Deep.AppendLies
import Derived.Maps.AppendAt
import Derived.OwnWalk
import Derived.Laws.BytesArg
import Derived.Laws.MakeOwn
import Derived.Laws.OwnMore
import Derived.Deep.OwnRows
import Derived.Tactics
import Derived.Lib.ConvBytes
import Derived.Laws.Slices
import Derived.WalkKit
import Derived.KernelRfl
import Derived.RowKit3
import Derived.Deep.LoopGhost
import Derived.Deep.QuietTactic
import Derived.BigQuiet
import Derived.WideLaws
import Derived.Deep.DeepCutAuto
import Derived.Deep.CutBlock
import Derived.Deep.RegionHeld3
import Derived.Laws.Rows
import Derived.Lib.AppendStr
import Derived.ArgAppend
import Derived.Laws.IdiomCopy
import Derived.OrdersHeld
import Derived.Laws.BitsLemmas
import Derived.RowKit
import Derived.Lib.SliceRun
import Derived.StillTail
import Derived.StillTactics
import Derived.Test.YtnldanonpdijgaaZWWords
import Derived.Test.YtnldanonpdijgaaZWLast
import Derived.Test.YtnldanonpdijgaaZWTab
import Derived.Test.YtnldanonpdijgaaZWApart
import Derived.Test.YtnldanonpdijgaaZWFoot
import Derived.Test.YtnldanonpdijgaaZWKept
import Derived.Test.YtnldanonpdijgaaZWShare
import Derived.Test.YtnldanonpdijgaaZWN
import Derived.Laws.StructEq
import Derived.Test.YtnldanonpdijgaaZWRepsOne
import Derived.Test.YtnldanonpdijgaaZWGuard
import Derived.Test.YtnldanonpdijgaaZWMore
namespace Go.Proofs.Ytnldanonpdijgaa.P
open Go.RowKit Go.Proofs.YtnldanonpdijgaaW.PrintWords Go.Proofs.YtnldanonpdijgaaW.PrintLast Go.Proofs.YtnldanonpdijgaaW.PrintMore
attribute [local go_sem] max2_int min2_int max_two min_two max_three min_three max_four min_four
set_option linter.unusedVariables false
set_option linter.unusedSimpArgs false
def errW : Option Int → Value
  | none => .nilIface
  | some c => .iface 0 (.int .i64 c)
theorem errW_none : errW none = .nilIface:=rfl
theorem errW_some (c : Int) : errW (some c) = .iface 0 (.int .i64 c):=rfl
theorem info3 : (Try.prog.info? 3).map (fun i => (i.zero,i.size,i.bytes)) = some (some (.int .i64 0),1,8):=by kernel_rfl
theorem info50 : (Try.prog.info? 50).map (fun i => (i.zero,i.size,i.bytes)) = some (some (.agg #[(.bool false),(.int .i64 0),(.bool false),(.int .i64 0),(.int .i64 0),(.int .i64 0)]),6,48):=by kernel_rfl
structure S68 where
  f0 : Bool
  f1 : Int
  f2 : Bool
  f3 : Int
  f4 : Int
  f5 : Int
def z68 : S68:=⟨false,(0 : Int),false,(0 : Int),(0 : Int),(0 : Int)⟩
def k68 : Kd S68:=Kd.iso (Kd.pair Kd.bool (Kd.pair (Kd.int .i64) (Kd.pair Kd.bool (Kd.pair (Kd.int .i64) (Kd.pair (Kd.int .i64) (Kd.int .i64)))))) (fun x : S68 => (x.f0,x.f1,x.f2,x.f3,x.f4,x.f5))
theorem k68_open {w : World} {x : S68} {cs : List Value} (h : k68.K w x cs) : cs = [.bool x.f0,.int .i64 x.f1,.bool x.f2,.int .i64 x.f3,.int .i64 x.f4,.int .i64 x.f5]:=by
  obtain ⟨_,_,rfl,rfl,⟨_,_,rfl,rfl,⟨_,_,rfl,rfl,⟨_,_,rfl,rfl,⟨_,_,rfl,rfl,rfl⟩⟩⟩⟩⟩:=h
  exact rfl
def rd_T68 (xs : List S68) (i : Int) : S68:=xs.getD i.toNat z68
theorem at_T68 {w : World} {A : Option Addr} {n : Nat} {xs : List S68} (h : Kd.C k68 w A n xs) (i : Int) (h0 : 0 ≤ i) (h1 : i < n) : ∃ ad ,A = some ad ∧ w.cell? (ad.add (i.toNat * 6)) = some (.bool (rd_T68 xs i).f0) ∧ w.cell? ⟨(ad.add (i.toNat * 6)).block,(ad.add (i.toNat * 6)).off + 1,none⟩ = some (.int .i64 (rd_T68 xs i).f1) ∧ w.cell? ⟨(ad.add (i.toNat * 6)).block,(ad.add (i.toNat * 6)).off + 2,none⟩ = some (.bool (rd_T68 xs i).f2) ∧ w.cell? ⟨(ad.add (i.toNat * 6)).block,(ad.add (i.toNat * 6)).off + 3,none⟩ = some (.int .i64 (rd_T68 xs i).f3) ∧ w.cell? ⟨(ad.add (i.toNat * 6)).block,(ad.add (i.toNat * 6)).off + 4,none⟩ = some (.int .i64 (rd_T68 xs i).f4) ∧ w.cell? ⟨(ad.add (i.toNat * 6)).block,(ad.add (i.toNat * 6)).off + 5,none⟩ = some (.int .i64 (rd_T68 xs i).f5):=by
  obtain ⟨ad,c,e,_,hK,hc0⟩:=Kd.C_get h z68 i h0 h1
  have hc : ∀ j u,c[j]? = some u → w.cell? (ad.add (i.toNat * 6 + j)) = some u:=hc0
  obtain rfl:=k68_open hK
  exact ⟨ad,e,hc 0 _ rfl,by rw [← add_field _ _ 1 (by omega)];exact hc 1 _ rfl,by rw [← add_field _ _ 2 (by omega)];exact hc 2 _ rfl,by rw [← add_field _ _ 3 (by omega)];exact hc 3 _ rfl,by rw [← add_field _ _ 4 (by omega)];exact hc 4 _ rfl,by rw [← add_field _ _ 5 (by omega)];exact hc 5 _ rfl⟩
structure S50 where
  f0 : Bool
  f1 : Int
  f2 : Bool
  f3 : Int
  f4 : Int
  f5 : Int
def z50 : S50:=⟨false,(0 : Int),false,(0 : Int),(0 : Int),(0 : Int)⟩
def k50 : Kd S50:=Kd.iso (Kd.pair Kd.bool (Kd.pair (Kd.int .i64) (Kd.pair Kd.bool (Kd.pair (Kd.int .i64) (Kd.pair (Kd.int .i64) (Kd.int .i64)))))) (fun x : S50 => (x.f0,x.f1,x.f2,x.f3,x.f4,x.f5))
theorem k50_open {w : World} {x : S50} {cs : List Value} (h : k50.K w x cs) : cs = [.bool x.f0,.int .i64 x.f1,.bool x.f2,.int .i64 x.f3,.int .i64 x.f4,.int .i64 x.f5]:=by
  obtain ⟨_,_,rfl,rfl,⟨_,_,rfl,rfl,⟨_,_,rfl,rfl,⟨_,_,rfl,rfl,⟨_,_,rfl,rfl,rfl⟩⟩⟩⟩⟩:=h
  exact rfl
theorem k50_openM {w : World} {base : Nat} {ok : Nat → Prop} {x : S50} {cs : List Value} (h : k50.M w base ok x cs) : cs = [.bool x.f0,.int .i64 x.f1,.bool x.f2,.int .i64 x.f3,.int .i64 x.f4,.int .i64 x.f5]:=by
  obtain ⟨_,_,rfl,rfl,⟨_,_,rfl,rfl,⟨_,_,rfl,rfl,⟨_,_,rfl,rfl,⟨_,_,rfl,rfl,rfl⟩⟩⟩⟩⟩:=h
  exact rfl
theorem k50_mkM (w : World) (base : Nat) (ok : Nat → Prop) (x : S50)  : k50.M w base ok x [.bool x.f0,.int .i64 x.f1,.bool x.f2,.int .i64 x.f3,.int .i64 x.f4,.int .i64 x.f5]:=⟨[.bool x.f0],[.int .i64 x.f1,.bool x.f2,.int .i64 x.f3,.int .i64 x.f4,.int .i64 x.f5],rfl,rfl,⟨[.int .i64 x.f1],[.bool x.f2,.int .i64 x.f3,.int .i64 x.f4,.int .i64 x.f5],rfl,rfl,⟨[.bool x.f2],[.int .i64 x.f3,.int .i64 x.f4,.int .i64 x.f5],rfl,rfl,⟨[.int .i64 x.f3],[.int .i64 x.f4,.int .i64 x.f5],rfl,rfl,⟨[.int .i64 x.f4],[.int .i64 x.f5],rfl,rfl,rfl⟩⟩⟩⟩⟩
def rd_T50 (xs : List S50) (i : Int) : S50:=xs.getD i.toNat z50
theorem at_T50 {w : World} {A : Option Addr} {n : Nat} {xs : List S50} (h : Kd.C k50 w A n xs) (i : Int) (h0 : 0 ≤ i) (h1 : i < n) : ∃ ad ,A = some ad ∧ w.cell? (ad.add (i.toNat * 6)) = some (.bool (rd_T50 xs i).f0) ∧ w.cell? ⟨(ad.add (i.toNat * 6)).block,(ad.add (i.toNat * 6)).off + 1,none⟩ = some (.int .i64 (rd_T50 xs i).f1) ∧ w.cell? ⟨(ad.add (i.toNat * 6)).block,(ad.add (i.toNat * 6)).off + 2,none⟩ = some (.bool (rd_T50 xs i).f2) ∧ w.cell? ⟨(ad.add (i.toNat * 6)).block,(ad.add (i.toNat * 6)).off + 3,none⟩ = some (.int .i64 (rd_T50 xs i).f3) ∧ w.cell? ⟨(ad.add (i.toNat * 6)).block,(ad.add (i.toNat * 6)).off + 4,none⟩ = some (.int .i64 (rd_T50 xs i).f4) ∧ w.cell? ⟨(ad.add (i.toNat * 6)).block,(ad.add (i.toNat * 6)).off + 5,none⟩ = some (.int .i64 (rd_T50 xs i).f5):=by
  obtain ⟨ad,c,e,_,hK,hc0⟩:=Kd.C_get h z50 i h0 h1
  have hc : ∀ j u,c[j]? = some u → w.cell? (ad.add (i.toNat * 6 + j)) = some u:=hc0
  obtain rfl:=k50_open hK
  exact ⟨ad,e,hc 0 _ rfl,by rw [← add_field _ _ 1 (by omega)];exact hc 1 _ rfl,by rw [← add_field _ _ 2 (by omega)];exact hc 2 _ rfl,by rw [← add_field _ _ 3 (by omega)];exact hc 3 _ rfl,by rw [← add_field _ _ 4 (by omega)];exact hc 4 _ rfl,by rw [← add_field _ _ 5 (by omega)];exact hc 5 _ rfl⟩
structure S25 where
  f0 : Int
  f1 : Int
  f2 : Int
  f3 : (List Int)
  f4 : Int
  f5 : Int
  f6 : (List S68)
def k25 : Kd S25:=Kd.iso (Kd.pair (Kd.int .i64) (Kd.pair (Kd.int .i64) (Kd.pair (Kd.int .i64) (Kd.pair (Kd.slice 3 (Kd.int .i64)) (Kd.pair (Kd.int .i64) (Kd.pair (Kd.int .i64) (Kd.slice 68 k68))))))) (fun x : S25 => (x.f0,x.f1,x.f2,x.f3,x.f4,x.f5,x.f6))
theorem k25_open {w : World} {x : S25} {cs : List Value} (h : k25.K w x cs) : ∃ A3 c3 A6 c6,cs = [.int .i64 x.f0,.int .i64 x.f1,.int .i64 x.f2,.slice A3 x.f3.length c3,.int .i64 x.f4,.int .i64 x.f5,.slice A6 x.f6.length c6] ∧ x.f3.length ≤ c3 ∧ (Kd.int .i64).C w A3 x.f3.length x.f3 ∧ x.f6.length ≤ c6 ∧ k68.C w A6 x.f6.length x.f6:=by
  obtain ⟨_,_,rfl,rfl,⟨_,_,rfl,rfl,⟨_,_,rfl,rfl,⟨_,_,rfl,⟨A3,c3,rfl,l3,g3⟩,⟨_,_,rfl,rfl,⟨_,_,rfl,rfl,⟨A6,c6,rfl,l6,g6⟩⟩⟩⟩⟩⟩⟩:=h
  exact ⟨A3,c3,A6,c6,rfl,l3,g3,l6,g6⟩
theorem C_none_ {α : Type} {d : Kd α} {w : World} {xs : List α} (h : Kd.C d w none xs.length xs) : xs = []:=by
  cases xs with
  | nil => rfl
  | cons x t =>
    obtain ⟨ad,c,he,_⟩:=Kd.C_get h x 0 (by decide) (by simp only [List.length_cons];omega)
    cases he
theorem gate_at_ {P : Program} {ops : Array Oper} {o : Oper} {rest : List Oper} {a : Act} {W : World} {Q : Exit → Act → World → Prop} {s : String} (_h : o.pos = s) (h : wpList P ops Q (o :: rest) a W) : wpList P ops Q (o :: rest) a W:=h
def setAll_ : World → Nat → Nat → List Value → World
  | W,_,_,[] => W
  | W,g,j,v :: vs => setAll_ (W.setCell ⟨g,j,none⟩ v) g (j + 1) vs
theorem setAll_grown (W : World) (g j : Nat) (vs : List Value) : W.grownBy (setAll_ W g j vs) (some g):=by
  induction vs generalizing W j with
  | nil => exact World.grownBy.refl W _
  | cons v vs ih => exact World.grownBy.trans (show W.grownBy (W.setCell ⟨g,j,none⟩ v) (some g) from ⟨rfl,rfl,rfl,by simp [World.setCell],fun i _ hr => Below.heap_setCell W ⟨g,j,none⟩ v i (fun e => hr (by rw [e]))⟩) (ih _ _)
theorem setAll_blk_at {g : Nat} {t : TypeId} (vs : List Value) : ∀ (pre cs : List Value) (W : World),W.heap[g]? = some (.cells (pre ++ cs).toArray t (0,0)) → cs.length = vs.length → (setAll_ W g pre.length vs).heap[g]? = some (.cells (pre ++ vs).toArray t (0,0)):=by
  induction vs with
  | nil => intro pre cs W h hl;obtain rfl : cs = []:=List.eq_nil_of_length_eq_zero hl;exact h
  | cons v vs ih =>
    intro pre cs W h hl
    cases cs with
    | nil => simp at hl
    | cons c cs =>
      have h1 : (W.setCell ⟨g,pre.length,none⟩ v).heap[g]? = some (.cells ((pre ++ [v]) ++ cs).toArray t (0,0)):=blk_put h pre.length v (by simp)
      have:=ih (pre ++ [v]) cs _ h1 (by simpa using hl)
      simpa [setAll_] using this
theorem setAll_blk {W : World} {g : Nat} {t : TypeId} {cs vs : List Value} (h : W.heap[g]? = some (.cells cs.toArray t (0,0))) (hl : cs.length = vs.length) : (setAll_ W g 0 vs).heap[g]? = some (.cells vs.toArray t (0,0)):=setAll_blk_at vs [] cs W h hl
theorem ne_some_ {a b : Nat} (h : a ≠ b) : some a ≠ some b:=fun e => h (Option.some.inj e)
theorem below_gr_ {w W W1 : World} {g : Nat} (h : Below w.heap.size w W) (hg : W.grownBy W1 (some g)) (hw : w.heap.size ≤ g) : Below w.heap.size w W1:=h.grown hg h.size (fun k hk => by injection hk with hk;subst hk;exact hw)
theorem kdgr_R {α : Type} {d : Kd α} {e : Nat} {W W1 : World} {base g : Nat} {ok : Nat → Prop} {v : Value} {xs : List α} (h : d.R e W base ok v xs) (hok : ∀ k,ok k → k ≠ g) (hg : W.grownBy W1 (some g)) : d.R e W1 base ok v xs:=Kd.R_step h (fun k ho hlt => hg.block k hlt (fun e => hok k ho (Option.some.inj e)))
end Go.Proofs.Ytnldanonpdijgaa.P
