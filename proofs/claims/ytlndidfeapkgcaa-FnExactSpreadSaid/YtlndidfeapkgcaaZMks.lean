-- Ours: printed or written for this claim; cut to what the theorem needs.
import Derived.Test.YtlndidfeapkgcaaZU
namespace Go.Proofs.Ytlndidfeapkgcaa.L
open Go.RowKit Go.Proofs.YtlndidfeapkgcaaW.PrintWords Go.Proofs.Ytlndidfeapkgcaa.U
def marks {β : Type} (mk : Int → β → β) (m : Int) : Int → List β → List β
  | _,[] => []
  | a,x :: r => mk a x :: marks mk m (a + m) r
theorem marks_length {β : Type} (mk : Int → β → β) (m a : Int) (l : List β) : (marks mk m a l).length = l.length:=by
  induction l generalizing a with
  | nil => rfl
  | cons x r ih => simp [marks,ih]
theorem marks_get {β : Type} (mk : Int → β → β) (m a : Int) (l : List β) (i : Nat) (h : i < l.length) (h2 : i < (marks mk m a l).length) : (marks mk m a l)[i] = mk (a + m * i) l[i]:=by
  induction l generalizing a i with
  | nil => simp at h
  | cons x r ih =>
    cases i with
    | zero => simp [marks]
    | succ i =>
      simp only [marks,List.getElem_cons_succ]
      rw [ih (a + m) i (by simpa using h)]
      congr 1
      push_cast
      rw [Int.mul_add]
      omega
theorem mark_loop {β : Type} (mk : Int → β → β) (m : Int) (hm : 0 ≤ m) (xs : List β) (l : Nat → List β → Int → Int → Option (Int × List β)) (B : Int)
    (hend : ∀ s a,s.length = xs.length → Ev (fun k => l (k + 1) s a (xs.length : Int)) (a,s))
    (hstep : ∀ i (s : List β) a r (h : i < xs.length) (hs : s.length = xs.length),s[i] = xs[i] → 0 ≤ a → a ≤ B → Ev (fun k => l k (s.set i (mk a xs[i])) (a + m) ((i + 1 : Nat) : Int)) r → Ev (fun k => l (k + 1) s a (i : Int)) r)
    (a : Int) (h0 : 0 ≤ a) (h1 : a + m * xs.length ≤ B) : Ev (fun k => l k xs a 0) (a + m * xs.length,marks mk m a xs):=by
  have key:=ev_forS (fun k (p : List β × Int) (i : Int) => l k p.1 p.2 i) xs.length (fun i p => p.2 = a + m * i ∧ p.1.length = xs.length ∧ p.1.take i = (marks mk m a xs).take i ∧ p.1.drop i = xs.drop i) (fun _ _ => (a + m * xs.length,marks mk m a xs)) (by
    intro i p hi ⟨hp,hs,ht,hd⟩ next
    obtain ⟨s,b⟩:=p
    simp only at hp hs ht hd next ⊢
    subst hp
    rcases Nat.lt_or_ge i xs.length with hlt|hge
    · have hsi : s[i] = xs[i]:=by
        have e:=congrArg List.head? hd
        rw [List.head?_drop,List.head?_drop,List.getElem?_eq_getElem hlt,List.getElem?_eq_getElem (by omega)] at e
        exact Option.some.inj e
      have hmi : m * (i : Int) ≤ m * (xs.length : Int):=Int.mul_le_mul_of_nonneg_left (by omega) hm
      have hmn : 0 ≤ m * (i : Int):=Int.mul_nonneg hm (by omega)
      refine hstep i s _ _ hlt hs hsi (by omega) (by omega) ?_
      have n:=next hlt (s.set i (mk (a + m * i) xs[i]),a + m * i + m)
      refine n ⟨?_,?_,?_,?_⟩
      · simp only;push_cast;rw [Int.mul_add];omega
      · simpa using hs
      · simp only
        rw [List.take_set,List.take_succ_eq_append_getElem (by omega),List.take_succ_eq_append_getElem (by rw [marks_length];exact hlt),ht,marks_get mk m a xs i hlt]
        rw [List.set_append_right _ _ (by simp;omega)]
        simp [marks_length,Nat.min_eq_left (Nat.le_of_lt hlt)]
      · simp only
        rw [List.drop_set,if_pos (by omega)]
        have e:=congrArg (List.drop 1) hd
        simpa [List.drop_drop,Nat.add_comm] using e
    · have : i = xs.length:=by omega
      subst this
      have h2 : s.take xs.length = s:=List.take_of_length_le (by omega)
      have h3 : (marks mk m a xs).take xs.length = marks mk m a xs:=List.take_of_length_le (by rw [marks_length];exact Nat.le_refl _)
      rw [← h3,← ht,h2]
      exact hend s _ hs) 0 (xs,a) (Nat.zero_le _) ⟨by simp,rfl,by simp,by simp⟩
  simpa using key
theorem held_loop {β : Type} (mk : Int → β → β) (m : Int) (hm : 0 ≤ m) (xs : List β) (a : Int) (l : Nat → Int → Int → Option Int) (B : Int)
    (hend : ∀ b,Ev (fun k => l (k + 1) b (xs.length : Int)) b)
    (hstep : ∀ i b r (h : i < xs.length) (h2 : i < (marks mk m a xs).length),b = a + m * i → 0 ≤ b → b ≤ B → (marks mk m a xs)[i] = mk b xs[i] → Ev (fun k => l k (b + m) ((i + 1 : Nat) : Int)) r → Ev (fun k => l (k + 1) b (i : Int)) r)
    (h0 : 0 ≤ a) (h1 : a + m * xs.length ≤ B) : Ev (fun k => l k a 0) (a + m * xs.length):=by
  have key:=ev_for (fun k (i : Int) => l k (a + m * i) i) xs.length (fun _ => a + m * xs.length) (by
    intro i hi next
    rcases Nat.lt_or_ge i xs.length with hlt|hge
    · have hmi : m * (i : Int) ≤ m * (xs.length : Int):=Int.mul_le_mul_of_nonneg_left (by omega) hm
      have hmn : 0 ≤ m * (i : Int):=Int.mul_nonneg hm (by omega)
      refine hstep i _ _ hlt (by rw [marks_length];exact hlt) rfl (by omega) (by omega) ?_ ?_
      · rw [marks_get mk m _ xs i hlt]
      · have n:=next hlt
        have e : a + m * ((i + 1 : Nat) : Int) = a + m * (i : Int) + m:=by push_cast;rw [Int.mul_add];omega
        simp only [e] at n
        exact n
    · have : i = xs.length:=by omega
      subst this
      exact hend _) 0 (Nat.zero_le _)
  simpa using key
end Go.Proofs.Ytlndidfeapkgcaa.L
