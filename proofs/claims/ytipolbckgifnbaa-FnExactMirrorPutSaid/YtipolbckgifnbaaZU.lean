-- Ours: printed or written for this claim; cut to what the theorem needs.
import Derived.Test.YtipolbckgifnbaaZWWords
import Derived.Test.YtipolbckgifnbaaZWMore
namespace Go.Proofs.Ytipolbckgifnbaa.U
open Go.RowKit Go.Proofs.YtipolbckgifnbaaW.PrintWords
theorem wrap_id {i : Int} (h0 : -9223372036854775808 ≤ i) (h : i ≤ 9223372036854775807) : wrap64 i = i:=by
  unfold wrap64
  omega
theorem wrap_up {i n : Nat} (h : i < n) (hn : n ≤ 9223372036854775807) : wrap64 ((i : Int) + 1) = ((i + 1 : Nat) : Int):=by
  unfold wrap64
  omega
theorem Ev.succ {α : Type} {g : Nat → Option α} {r : α} (h : Ev (fun k => g (k + 1)) r) : Ev g r:=Ev.step (f:=fun k => g (k + 1)) (fun _ => rfl) h
theorem Ev.some {α : Type} {x r : α} (h : x = r) : Ev (fun _ => Option.some x) r:=⟨0,fun _ _ => by rw [h]⟩
theorem Ev.eq {α : Type} {x : Option α} {r : α} (h : x = Option.some r) : Ev (fun _ => x) r:=⟨0,fun _ _ => h⟩
theorem Ev.pos {α : Type} {c : Prop} [Decidable c] {f g : Nat → Option α} {r : α} (h : c) (k : Ev f r) : Ev (fun n => if c then f n else g n) r:=Ev.congr (fun _ => if_pos h) k
theorem Ev.neg {α : Type} {c : Prop} [Decidable c] {f g : Nat → Option α} {r : α} (h : ¬ c) (k : Ev g r) : Ev (fun n => if c then f n else g n) r:=Ev.congr (fun _ => if_neg h) k
theorem ev_forS {σ ρ : Type} (l : Nat → σ → Int → Option ρ) (n : Nat) (Inv : Nat → σ → Prop) (G : Nat → σ → ρ)
    (h : ∀ i s,i ≤ n → Inv i s → (i < n → ∀ s',Inv (i + 1) s' → Ev (fun k => l k s' ((i + 1 : Nat) : Int)) (G (i + 1) s')) → Ev (fun k => l (k + 1) s (i : Int)) (G i s)) :
    ∀ i s,i ≤ n → Inv i s → Ev (fun k => l k s (i : Int)) (G i s):=by
  have key : ∀ d i s,i + d = n → Inv i s → Ev (fun k => l k s (i : Int)) (G i s):=by
    intro d
    induction d with
    | zero => intro i s hi hs;exact Ev.succ (h i s (by omega) hs (fun hlt => by omega))
    | succ d ih => intro i s hi hs;exact Ev.succ (h i s (by omega) hs (fun _ s' hs' => ih (i + 1) s' (by omega) hs'))
  exact fun i s hi hs => key (n - i) i s (by omega) hs
end Go.Proofs.Ytipolbckgifnbaa.U
