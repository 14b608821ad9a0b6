-- Ours: printed or written for this claim; cut to what the theorem needs.
import Derived.Test.YtnldanonpdijgaaZWWords
import Derived.Test.YtnldanonpdijgaaZWMore
namespace Go.Proofs.Ytnldanonpdijgaa.U
open Go.RowKit Go.Proofs.YtnldanonpdijgaaW.PrintWords
theorem wrap_id {i : Int} (h0 : -9223372036854775808 ≤ i) (h : i ≤ 9223372036854775807) : wrap64 i = i:=by
  unfold wrap64
  omega
theorem wrap_up {i n : Nat} (h : i < n) (hn : n ≤ 9223372036854775807) : wrap64 ((i : Int) + 1) = ((i + 1 : Nat) : Int):=by
  unfold wrap64
  omega
theorem rd_at {xs : List Int} {i : Nat} (h : i < xs.length) : rd xs (i : Int) = xs[i]:=by
  simp [rd,List.getD_eq_getElem?_getD,List.getElem?_eq_getElem h]
theorem Ev.succ {α : Type} {g : Nat → Option α} {r : α} (h : Ev (fun k => g (k + 1)) r) : Ev g r:=Ev.step (f:=fun k => g (k + 1)) (fun _ => rfl) h
theorem Ev.some {α : Type} {x r : α} (h : x = r) : Ev (fun _ => Option.some x) r:=⟨0,fun _ _ => by rw [h]⟩
theorem Ev.eq {α : Type} {x : Option α} {r : α} (h : x = Option.some r) : Ev (fun _ => x) r:=⟨0,fun _ _ => h⟩
theorem Ev.pos {α : Type} {c : Prop} [Decidable c] {f g : Nat → Option α} {r : α} (h : c) (k : Ev f r) : Ev (fun n => if c then f n else g n) r:=Ev.congr (fun _ => if_pos h) k
theorem Ev.neg {α : Type} {c : Prop} [Decidable c] {f g : Nat → Option α} {r : α} (h : ¬ c) (k : Ev g r) : Ev (fun n => if c then f n else g n) r:=Ev.congr (fun _ => if_neg h) k
theorem ev_for {ρ : Type} (l : Nat → Int → Option ρ) (n : Nat) (G : Nat → ρ)
    (h : ∀ i,i ≤ n → (i < n → Ev (fun k => l k ((i + 1 : Nat) : Int)) (G (i + 1))) → Ev (fun k => l (k + 1) (i : Int)) (G i)) :
    ∀ i,i ≤ n → Ev (fun k => l k (i : Int)) (G i):=by
  have key : ∀ d i,i + d = n → Ev (fun k => l k (i : Int)) (G i):=by
    intro d
    induction d with
    | zero => intro i hi;exact Ev.succ (h i (by omega) (fun hlt => by omega))
    | succ d ih => intro i hi;exact Ev.succ (h i (by omega) (fun _ => ih (i + 1) (by omega)))
  exact fun i hi => key (n - i) i (by omega)
theorem ev_forS {σ ρ : Type} (l : Nat → σ → Int → Option ρ) (n : Nat) (Inv : Nat → σ → Prop) (G : Nat → σ → ρ)
    (h : ∀ i s,i ≤ n → Inv i s → (i < n → ∀ s',Inv (i + 1) s' → Ev (fun k => l k s' ((i + 1 : Nat) : Int)) (G (i + 1) s')) → Ev (fun k => l (k + 1) s (i : Int)) (G i s)) :
    ∀ i s,i ≤ n → Inv i s → Ev (fun k => l k s (i : Int)) (G i s):=by
  have key : ∀ d i s,i + d = n → Inv i s → Ev (fun k => l k s (i : Int)) (G i s):=by
    intro d
    induction d with
    | zero => intro i s hi hs;exact Ev.succ (h i s (by omega) hs (fun hlt => by omega))
    | succ d ih => intro i s hi hs;exact Ev.succ (h i s (by omega) hs (fun _ s' hs' => ih (i + 1) s' (by omega) hs'))
  exact fun i s hi hs => key (n - i) i s (by omega) hs
theorem ev_fill {α β : Type} (l : Nat → List β → Int → Option (List β)) (xs : List α) (f : α → β)
    (hend : ∀ s,Ev (fun k => l (k + 1) s (xs.length : Int)) s)
    (hstep : ∀ i s r (hi : i < xs.length),s.length = xs.length → Ev (fun k => l k (s.set i (f xs[i])) ((i + 1 : Nat) : Int)) r → Ev (fun k => l (k + 1) s (i : Int)) r) :
    ∀ s,s.length = xs.length → Ev (fun k => l k s 0) (xs.map f):=by
  intro s0 h0
  have key:=ev_forS l xs.length (fun i s => s.length = xs.length ∧ s.take i = (xs.map f).take i) (fun _ _ => xs.map f) (by
    intro i s hi ⟨hs,ht⟩ next
    rcases Nat.lt_or_ge i xs.length with hlt|hge
    · refine hstep i s _ hlt hs (next hlt _ ⟨by simpa using hs,?_⟩)
      rw [List.take_set,List.take_succ_eq_append_getElem (by omega),List.take_succ_eq_append_getElem (by simpa using hlt),ht]
      rw [List.set_append_right _ _ (by simp;omega)]
      simp
      simp [Nat.min_eq_left (Nat.le_of_lt hlt)]
    · have : i = xs.length:=by omega
      subst this
      have h1 : s = xs.map f:=by
        have h2 : s.take xs.length = s:=List.take_of_length_le (by omega)
        have h3 : (xs.map f).take xs.length = xs.map f:=List.take_of_length_le (by simp)
        rw [← h2,ht,h3]
      have h4:=hend s
      rw [h1] at h4 ⊢
      exact h4)
  exact key 0 s0 (Nat.zero_le _) ⟨h0,by simp⟩
theorem index_any {α : Type} (xs : List α) (q : α → Bool) (l : Nat → Int → Option Int)
    (hend : Ev (fun k => l (k + 1) (xs.length : Int)) (-1))
    (hyes : ∀ i (h : i < xs.length),q xs[i] = true → Ev (fun k => l (k + 1) (i : Int)) (i : Int))
    (hno : ∀ i (h : i < xs.length) r,q xs[i] = false → Ev (fun k => l k ((i + 1 : Nat) : Int)) r → Ev (fun k => l (k + 1) (i : Int)) r) :
    ∃ r,Ev (fun k => l k 0) r ∧ decide (r ≥ 0) = xs.any q ∧ -1 ≤ r ∧ r < xs.length ∧ (∀ j : Nat,r = (j : Int) → ∃ h : j < xs.length,q xs[j] = true) ∧ ∀ (j : Nat) (h : j < xs.length),((j : Int) < r ∨ r = -1) → q xs[j] = false:=by
  have key : ∀ d i,i + d = xs.length → ∃ r,Ev (fun k => l k (i : Int)) r ∧ decide (r ≥ 0) = (xs.drop i).any q ∧ (r = -1 ∨ (i : Int) ≤ r) ∧ r < xs.length ∧ (∀ j : Nat,r = (j : Int) → ∃ h : j < xs.length,q xs[j] = true) ∧ ∀ (j : Nat) (h : j < xs.length),i ≤ j → ((j : Int) < r ∨ r = -1) → q xs[j] = false:=by
    intro d
    induction d with
    | zero =>
      intro i hi
      have : i = xs.length:=by omega
      subst this
      exact ⟨-1,Ev.succ hend,by simp,Or.inl rfl,by omega,fun j hj => by omega,fun j h hij => by omega⟩
    | succ d ih =>
      intro i hi
      have hlt : i < xs.length:=by omega
      rw [List.drop_eq_getElem_cons hlt,List.any_cons]
      cases hq : q xs[i] with
      | true =>
        refine ⟨i,Ev.succ (hyes i hlt hq),by simp,Or.inr (by omega),by omega,fun j hj => ?_,fun j h hij hj => by omega⟩
        have : j = i:=by omega
        subst this
        exact ⟨hlt,hq⟩
      | false =>
        obtain ⟨r,h1,h2,h3,h4,h5,h6⟩:=ih (i + 1) (by omega)
        refine ⟨r,Ev.succ (hno i hlt r hq h1),by simpa using h2,by omega,h4,h5,fun j h hij hj => ?_⟩
        rcases Nat.lt_or_ge i j with hlt2|hge
        · exact h6 j h (by omega) hj
        · have : j = i:=by omega
          subst this
          exact hq
  obtain ⟨r,h1,h2,h3,h4,h5,h6⟩:=key xs.length 0 (by omega)
  exact ⟨r,h1,by simpa using h2,by omega,h4,h5,fun j h hj => h6 j h (by omega) hj⟩
end Go.Proofs.Ytnldanonpdijgaa.U
