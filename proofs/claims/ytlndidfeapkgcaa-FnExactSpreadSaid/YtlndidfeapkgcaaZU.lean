-- Ours: printed or written for this claim; cut to what the theorem needs.
import Derived.Test.YtlndidfeapkgcaaZWWords
import Derived.Test.YtlndidfeapkgcaaZWMore
namespace Go.Proofs.Ytlndidfeapkgcaa.U
open Go.RowKit Go.Proofs.YtlndidfeapkgcaaW.PrintWords
theorem wrap_id {i : Int} (h0 : -9223372036854775808 ≤ i) (h : i ≤ 9223372036854775807) : wrap64 i = i:=by
  unfold wrap64
  omega
theorem wrap_up {i n : Nat} (h : i < n) (hn : n ≤ 9223372036854775807) : wrap64 ((i : Int) + 1) = ((i + 1 : Nat) : Int):=by
  unfold wrap64
  omega
theorem rd_at {xs : List Int} {i : Nat} (h : i < xs.length) : rd xs (i : Int) = xs[i]:=by
  simp [rd,List.getD_eq_getElem?_getD,List.getElem?_eq_getElem h]
theorem rdOf_at {α : Type} {d : α} {xs : List α} {i : Nat} (h : i < xs.length) : rdOf d xs (i : Int) = xs[i]:=by
  simp [rdOf,List.getD_eq_getElem?_getD,List.getElem?_eq_getElem h]
theorem Ev.succ {α : Type} {g : Nat → Option α} {r : α} (h : Ev (fun k => g (k + 1)) r) : Ev g r:=Ev.step (f:=fun k => g (k + 1)) (fun _ => rfl) h
theorem Ev.some {α : Type} {x r : α} (h : x = r) : Ev (fun _ => Option.some x) r:=⟨0,fun _ _ => by rw [h]⟩
theorem Ev.pos {α : Type} {c : Prop} [Decidable c] {f g : Nat → Option α} {r : α} (h : c) (k : Ev f r) : Ev (fun n => if c then f n else g n) r:=Ev.congr (fun _ => if_pos h) k
theorem Ev.neg {α : Type} {c : Prop} [Decidable c] {f g : Nat → Option α} {r : α} (h : ¬ c) (k : Ev g r) : Ev (fun n => if c then f n else g n) r:=Ev.congr (fun _ => if_neg h) k
theorem ev_for {ρ : Type} (l : Nat → Int → Option ρ) (n : Nat) (G : Nat → ρ)
    (h : ∀ i,i ≤ n → (i < n → Ev (fun k => l k ((i + 1 : Nat) : Int)) (G (i + 1))) → Ev (fun k => l (k + 1) (i : Int)) (G i)) :
    ∀ i,i ≤ n → Ev (fun k => l k (i : Int)) (G i):=by
  have key : ∀ d i,i + d = n → Ev (fun k => l k (i : Int)) (G i):=by
    intro d
    induction d with
    | zero => intro i hi;exact Ev.succ (h i (by omega) (fun hlt => by omega))
    | succ d ih => intro i hi;exact Ev.succ (h i (by omega) (fun _ => ih (i + 1) (by omega)))
  exact fun i hi => key (n - i) i (by omega)
theorem ev_forS {σ ρ : Type} (l : Nat → σ → Int → Option ρ) (n : Nat) (Inv : Nat → σ → Prop) (G : Nat → σ → ρ)
    (h : ∀ i s,i ≤ n → Inv i s → (i < n → ∀ s',Inv (i + 1) s' → Ev (fun k => l k s' ((i + 1 : Nat) : Int)) (G (i + 1) s')) → Ev (fun k => l (k + 1) s (i : Int)) (G i s)) :
    ∀ i s,i ≤ n → Inv i s → Ev (fun k => l k s (i : Int)) (G i s):=by
  have key : ∀ d i s,i + d = n → Inv i s → Ev (fun k => l k s (i : Int)) (G i s):=by
    intro d
    induction d with
    | zero => intro i s hi hs;exact Ev.succ (h i s (by omega) hs (fun hlt => by omega))
    | succ d ih => intro i s hi hs;exact Ev.succ (h i s (by omega) hs (fun _ s' hs' => ih (i + 1) s' (by omega) hs'))
  exact fun i s hi hs => key (n - i) i s (by omega) hs
end Go.Proofs.Ytlndidfeapkgcaa.U
