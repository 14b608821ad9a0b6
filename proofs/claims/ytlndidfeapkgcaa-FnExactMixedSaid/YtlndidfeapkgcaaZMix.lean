-- Ours: printed or written for this claim; cut to what the theorem needs.
import Derived.Test.YtlndidfeapkgcaaZPx1
import Derived.Test.YtlndidfeapkgcaaZPx2
import Derived.Test.YtlndidfeapkgcaaZU
set_option linter.unusedVariables false
namespace Go.Proofs.Ytlndidfeapkgcaa.L
open Go.RowKit Go.Proofs.Ytlndidfeapkgcaa.P Go.Proofs.YtlndidfeapkgcaaW.PrintWords Go.Proofs.YtlndidfeapkgcaaW.PrintLast Go.Proofs.YtlndidfeapkgcaaW.PrintMore Go.Proofs.Ytlndidfeapkgcaa.U
def bitB (v : Int) (i : Nat) : Bool := Go.bits .and .i64 (shr .i64 v (i : Int)) 1 == 1
def mixAt (a b : List ByteArray) (v : Int) (i : Nat) : ByteArray :=
  if 0 ≤ v ∧ bitB v i = true then (if h : i < b.length then b[i] else (⟨#[]⟩ : ByteArray)) else (if h : i < a.length then a[i] else (⟨#[]⟩ : ByteArray))
def mixN (a b : List ByteArray) : Nat := min (max a.length b.length) 60
def mixV (a b : List ByteArray) (v : Int) : List ByteArray := (List.range (mixN a b)).map (mixAt a b v)
theorem mixV_length (a b : List ByteArray) (v : Int) : (mixV a b v).length ≤ 60 := by
  simp only [mixV, List.length_map, List.length_range, mixN]
  omega
theorem drop_range (n i : Nat) (h : i < n) : (List.range n).drop i = i :: (List.range n).drop (i + 1) := by
  rw [List.drop_eq_getElem_cons (by simpa using h)]
  simp
theorem impl_j (a b : List ByteArray) (v : Int) (i : Nat) (x7 : List ByteArray) (m : Int) (c : Bool) (r : List ByteArray) (h7 : x7.length < 1000) (hi : i < 60)
    (hn : Ev (fun k => impl_Mixed.l0 k a b v (x7 ++ [if c = true then (if h : i < b.length then b[i] else (⟨#[]⟩ : ByteArray)) else (if h : i < a.length then a[i] else (⟨#[]⟩ : ByteArray))]) m ((i + 1 : Nat) : Int)) r) :
    Ev (fun k => impl_Mixed.j1 k a b v x7 (i : Int) a m (i : Int) c) r := by
  refine Ev.succ ?_
  simp only [impl_Mixed.j1]
  rw [wrap_up (n := 60) hi (by omega)]
  cases c with
  | true =>
    refine Ev.pos rfl ?_
    simp only [if_true] at hn
    by_cases hb : i < b.length
    · rw [dif_pos hb] at hn
      rw [rdOf_at hb]
      exact Ev.pos (by omega) (Ev.pos (by omega) (Ev.pos (by omega) hn))
    · rw [dif_neg hb] at hn
      exact Ev.neg (by omega) (Ev.pos (by omega) hn)
  | false =>
    refine Ev.neg (by decide) ?_
    simp only [Bool.false_eq_true, if_false] at hn
    by_cases hb : i < a.length
    · rw [dif_pos hb] at hn
      rw [rdOf_at hb]
      exact Ev.pos (by omega) (Ev.pos (by omega) (Ev.pos (by omega) hn))
    · rw [dif_neg hb] at hn
      exact Ev.neg (by omega) (Ev.pos (by omega) hn)
theorem spec_j (a b : List ByteArray) (v : Int) (i : Nat) (x7 : List ByteArray) (c : Bool) (r : List ByteArray) (h7 : x7.length < 1000) (hi : i < 60)
    (hn : Ev (fun k => spec_Mixed.l0 k a b v (x7 ++ [if c = true then (if h : i < b.length then b[i] else (⟨#[]⟩ : ByteArray)) else (if h : i < a.length then a[i] else (⟨#[]⟩ : ByteArray))]) ((i + 1 : Nat) : Int)) r) :
    Ev (fun k => spec_Mixed.j2 k a b v x7 (i : Int) (⟨#[]⟩ : ByteArray) c) r := by
  refine Ev.succ ?_
  simp only [spec_Mixed.j2]
  rw [wrap_up (n := 60) hi (by omega)]
  cases c with
  | true =>
    refine Ev.pos rfl ?_
    simp only [if_true] at hn
    by_cases hb : i < b.length
    · rw [dif_pos hb] at hn
      rw [rdOf_at hb]
      exact Ev.pos (by omega) (Ev.pos (by omega) (Ev.pos (by omega) hn))
    · rw [dif_neg hb] at hn
      exact Ev.neg (by omega) (Ev.pos (by omega) hn)
  | false =>
    refine Ev.neg (by decide) ?_
    simp only [Bool.false_eq_true, if_false] at hn
    by_cases hb : i < a.length
    · rw [dif_pos hb] at hn
      rw [rdOf_at hb]
      exact Ev.pos (by omega) (Ev.pos (by omega) (Ev.pos (by omega) hn))
    · rw [dif_neg hb] at hn
      exact Ev.neg (by omega) (Ev.pos (by omega) hn)
theorem mixAt_eq (a b : List ByteArray) (v : Int) (i : Nat) (c : Bool) (h : c = true ↔ 0 ≤ v ∧ bitB v i = true) : (if c = true then (if h : i < b.length then b[i] else (⟨#[]⟩ : ByteArray)) else (if h : i < a.length then a[i] else (⟨#[]⟩ : ByteArray))) = mixAt a b v i := by
  unfold mixAt
  by_cases hc : c = true
  · rw [if_pos hc, if_pos (h.1 hc)]
  · rw [if_neg hc, if_neg (fun x => hc (h.2 x))]
theorem impl_Mixed_ev (a b : List ByteArray) (v : Int) (ha : a.length ≤ 1048576) (hb : b.length ≤ 1048576) : Ev (fun k => impl_Mixed.f k a b v) (mixV a b v) := by
  unfold impl_Mixed.f
  have hN : mn (mx (a.length : Int) (b.length : Int)) 60 = ((mixN a b : Nat) : Int) := by
    unfold mn mx mixN
    by_cases h1 : (a.length : Int) < b.length
    · rw [if_pos h1]
      by_cases h2 : (60 : Int) < b.length
      · rw [if_pos h2]; omega
      · rw [if_neg h2]; omega
    · rw [if_neg h1]
      by_cases h2 : (60 : Int) < a.length
      · rw [if_pos h2]; omega
      · rw [if_neg h2]; omega
  rw [hN]
  have h60 : mixN a b ≤ 60 := by unfold mixN; omega
  have key := ev_forS (fun k s i => impl_Mixed.l0 k a b v s ((mixN a b : Nat) : Int) i) (mixN a b) (fun i s => s.length = i) (fun i s => s ++ ((List.range (mixN a b)).drop i).map (mixAt a b v)) (by
    intro i s hi hs next
    simp only [impl_Mixed.l0]
    rcases Nat.lt_or_ge i (mixN a b) with hlt | hge
    · refine Ev.pos (by omega) ?_
      rw [drop_range _ _ hlt, List.map_cons, show s ++ mixAt a b v i :: ((List.range (mixN a b)).drop (i + 1)).map (mixAt a b v) = (s ++ [mixAt a b v i]) ++ ((List.range (mixN a b)).drop (i + 1)).map (mixAt a b v) by simp]
      have nx := next hlt (s ++ [mixAt a b v i]) (by simp [hs])
      by_cases hv : v ≥ 0
      · refine Ev.pos hv (Ev.pos (by omega) ?_)
        refine impl_j a b v i s _ _ _ (by omega) (by omega) ?_
        rw [mixAt_eq a b v i _ (by simp [bitB]; omega)]
        exact nx
      · refine Ev.neg hv ?_
        refine impl_j a b v i s _ _ _ (by omega) (by omega) ?_
        rw [mixAt_eq a b v i _ (by simp; omega)]
        exact nx
    · refine Ev.neg (by omega) (Ev.some ?_)
      rw [List.drop_of_length_le (by simpa using hge)]
      simp) 0 [] (Nat.zero_le _) rfl
  simpa [mixV] using key
theorem spec_Mixed_ev (a b : List ByteArray) (v : Int) (ha : a.length ≤ 1048576) (hb : b.length ≤ 1048576) : Ev (fun k => spec_Mixed.f k a b v) (mixV a b v) := by
  unfold spec_Mixed.f
  have h60 : mixN a b ≤ 60 := by unfold mixN; omega
  have stop : ∀ (i : Nat) (s : List ByteArray), Ev (fun k => spec_Mixed.j1 k a b v s (i : Int) false) s := fun i s => Ev.succ (by simp only [spec_Mixed.j1]; exact Ev.neg (by decide) (Ev.some rfl))
  have key := ev_forS (fun k s i => spec_Mixed.l0 k a b v s i) (mixN a b) (fun i s => s.length = i) (fun i s => s ++ ((List.range (mixN a b)).drop i).map (mixAt a b v)) (by
    intro i s hi hs next
    simp only [spec_Mixed.l0]
    rcases Nat.lt_or_ge i (mixN a b) with hlt | hge
    · refine Ev.pos (by omega) ?_
      have nx := next hlt (s ++ [mixAt a b v i]) (by simp [hs])
      have go : Ev (fun k => spec_Mixed.j1 k a b v s (i : Int) true) ((s ++ [mixAt a b v i]) ++ ((List.range (mixN a b)).drop (i + 1)).map (mixAt a b v)) := by
        refine Ev.succ ?_
        simp only [spec_Mixed.j1]
        have hw : IntKind.u64.wrap (i : Int) = (i : Int) := by
          have : (i : Int) % 18446744073709551616 = i := Int.emod_eq_of_lt (by omega) (by omega)
          simpa [IntKind.wrap, IntKind.bits, IntKind.signed] using this
        rw [hw]
        refine Ev.pos (by trivial) ?_
        by_cases hv : v ≥ 0
        · refine Ev.pos hv (Ev.pos (by omega) ?_)
          refine spec_j a b v i s _ _ (by omega) (by omega) ?_
          rw [mixAt_eq a b v i _ (by simp [bitB]; omega)]
          exact nx
        · refine Ev.neg hv ?_
          refine spec_j a b v i s _ _ (by omega) (by omega) ?_
          rw [mixAt_eq a b v i _ (by simp; omega)]
          exact nx
      rw [drop_range _ _ hlt, List.map_cons, show s ++ mixAt a b v i :: ((List.range (mixN a b)).drop (i + 1)).map (mixAt a b v) = (s ++ [mixAt a b v i]) ++ ((List.range (mixN a b)).drop (i + 1)).map (mixAt a b v) by simp]
      by_cases h1 : i < a.length
      · exact Ev.pos (by omega) go
      · have : i < b.length := by unfold mixN at hlt; omega
        rw [show decide ((i : Int) < (b.length : Int)) = true by simp; omega]
        exact Ev.neg (by omega) go
    · rw [List.drop_of_length_le (by simpa using hge), List.map_nil, List.append_nil]
      by_cases h2 : i < 60
      · have h3 : ¬ i < a.length ∧ ¬ i < b.length := by unfold mixN at hge; omega
        rw [show decide ((i : Int) < (b.length : Int)) = false by simp; omega]
        exact Ev.pos (by omega) (Ev.neg (by omega) (stop i s))
      · exact Ev.neg (by omega) (stop i s)) 0 [] (Nat.zero_le _) rfl
  simpa [mixV] using key
end Go.Proofs.Ytlndidfeapkgcaa.L
