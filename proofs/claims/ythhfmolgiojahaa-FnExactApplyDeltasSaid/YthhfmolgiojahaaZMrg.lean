-- Ours: printed or written for this claim; cut to what the theorem needs.
import Derived.Test.YthhfmolgiojahaaZPx3
import Derived.Test.YthhfmolgiojahaaZPx4
import Derived.Test.YthhfmolgiojahaaZPx5
import Derived.Test.YthhfmolgiojahaaZDel
import Derived.Test.YthhfmolgiojahaaZMks
set_option linter.unusedVariables false
namespace Go.Proofs.Ythhfmolgiojahaa.L
open Go.RowKit Go.Proofs.Ythhfmolgiojahaa.P Go.Proofs.YthhfmolgiojahaaW.PrintWords Go.Proofs.YthhfmolgiojahaaW.PrintLast Go.Proofs.YthhfmolgiojahaaW.PrintMore Go.Proofs.Ythhfmolgiojahaa.U
def mkD (a : Int) (_ : ID) : ID := ⟨a, a + 1⟩
theorem markDeltaS_ev (xs : List ID) (a : Int) (h : xs.length ≤ 1048576) (h0 : 0 ≤ a) (h1 : a ≤ 1000000000000) : Ev (fun k => laws_markDeltaS.f k xs a) (a + 2 * xs.length, marks mkD 2 a xs) := by
  unfold laws_markDeltaS.f
  refine mark_loop mkD 2 (by omega) xs (fun k s a i => laws_markDeltaS.l0 k s a i) 2000000000000 ?_ ?_ a h0 (by omega)
  · intro s b hs
    simp only [laws_markDeltaS.l0]
    exact Ev.neg (by omega) (Ev.some rfl)
  · intro i s b r hi hs hx hb0 hb1 next
    simp only [laws_markDeltaS.l0, Option.bind_some]
    refine Ev.pos (by omega) (Ev.pos (by omega) ?_)
    rw [Int.toNat_natCast, rdI_at (xs := s.set i _) (i := i) (by simp; omega), List.getElem_set_self, List.set_set, wrap_id (i := b + 1) (by omega) (by omega), wrap_id (i := b + 1 + 1) (by omega) (by omega), wrap_up hi (by omega), Int.add_assoc b 1 1]
    exact next
def sStep (b : Int) (s : Int) (d : ID) : Int := if d.f0 = b then wrap64 (s + d.f1) else s
def sumB (l : List ID) (b : Int) : Int := l.foldl (sStep b) 0
theorem delB_facts {d : ID} (h : delB d = true) : 0 ≤ d.f0 ∧ d.f0 < 18 ∧ -16 ≤ d.f1 ∧ d.f1 ≤ 16 := by
  unfold delB at h
  simp only [Bool.and_eq_true, decide_eq_true_eq] at h
  omega
theorem delsB_facts {l : List ID} (h : delsB l = true) : l.length ≤ 40 ∧ ∀ d ∈ l, delB d = true := by
  unfold delsB at h
  simp only [Bool.and_eq_true, decide_eq_true_eq, List.all_eq_true] at h
  exact h
theorem sum_bound (b : Int) : ∀ (l : List ID) (s : Int) (n : Int), (∀ d ∈ l, delB d = true) → 0 ≤ n → n + 16 * l.length ≤ 100000 → -n ≤ s → s ≤ n → -(n + 16 * l.length) ≤ l.foldl (sStep b) s ∧ l.foldl (sStep b) s ≤ n + 16 * l.length
  | [], s, n, _, _, _, h1, h2 => by simp; omega
  | d :: l, s, n, hd, h0, hn, h1, h2 => by
    have hf := delB_facts (hd d (by simp))
    simp only [List.length_cons] at hn
    push_cast at hn
    have hstep : -(n + 16) ≤ sStep b s d ∧ sStep b s d ≤ n + 16 := by
      unfold sStep
      split
      · rw [wrap_id (by omega) (by omega)]; omega
      · omega
    have := sum_bound b l (sStep b s d) (n + 16) (fun e he => hd e (by simp [he])) (by omega) (by omega) hstep.1 hstep.2
    simp only [List.foldl_cons, List.length_cons]
    push_cast
    omega
theorem sumB_bound {l : List ID} (h : delsB l = true) (b : Int) : -640 ≤ sumB l b ∧ sumB l b ≤ 640 := by
  obtain ⟨h1, h2⟩ := delsB_facts h
  have := sum_bound b l 0 0 h2 (by omega) (by omega) (by omega) (by omega)
  unfold sumB
  omega
theorem l20Sum_ev (l : List ID) (b : Int) (h : l.length ≤ 1048576) : Ev (fun k => spec_l20Sum.f k l b) (sumB l b) := by
  unfold spec_l20Sum.f
  have key := ev_forS (fun k s i => spec_l20Sum.l0 k l b s i) l.length (fun _ _ => True) (fun i s => (l.drop i).foldl (sStep b) s) (by
    intro i s hi _ next
    simp only [spec_l20Sum.l0]
    rcases Nat.lt_or_ge i l.length with hlt | hge
    · refine Ev.pos (by omega) (Ev.pos (by omega) ?_)
      rw [List.drop_eq_getElem_cons hlt, List.foldl_cons, rdI_at hlt, wrap_up hlt (by omega)]
      by_cases hb : l[i].f0 = b
      · refine Ev.pos hb ?_
        have e : sStep b s l[i] = wrap64 (s + l[i].f1) := by unfold sStep; rw [if_pos hb]
        rw [e]
        exact next hlt _ trivial
      · refine Ev.neg hb ?_
        have e : sStep b s l[i] = s := by unfold sStep; rw [if_neg hb]
        rw [e]
        exact next hlt _ trivial
    · refine Ev.neg (by omega) (Ev.some ?_)
      rw [List.drop_of_length_le hge]
      rfl) 0 0 (Nat.zero_le _) trivial
  simpa [sumB] using key
def cl (v : Int) : Int := mn (mx v (-16)) 16
theorem cl_cases (v : Int) : (16 < v ∧ cl v = 16) ∨ (v < -16 ∧ cl v = -16) ∨ (-16 ≤ v ∧ v ≤ 16 ∧ cl v = v) := by
  unfold cl mn mx
  by_cases h1 : v < -16
  · rw [if_pos h1]; simp [h1]
  · rw [if_neg h1]
    by_cases h2 : 16 < v
    · rw [if_pos h2]; simp [h2]
    · rw [if_neg h2]; right; right; omega
def cuts (b : Int) : Nat → Int → List ID
  | 0, _ => []
  | n + 1, v => if v = 0 then [] else ⟨b, cl v⟩ :: cuts b n (v - cl v)
theorem cuts_length (b : Int) (n : Nat) (v : Int) : (cuts b n v).length ≤ n := by
  induction n generalizing v with
  | zero => simp [cuts]
  | succ n ih =>
    unfold cuts
    split
    · simp
    · have := ih (v - cl v); simp; omega
theorem impl_cut (xs : List Int) (x29 x30 : Int) (b : Int) (r : List ID) : ∀ (n : Nat) (v : Int) (x6 : List ID), -16 * (n : Int) ≤ v → v ≤ 16 * n → n ≤ 41 → x6.length + n ≤ 1000000 →
    Ev (fun k => impl_mergeDeltas.l1 k (x6 ++ cuts b n v) xs x29 (wrap64 (x30 + 1))) r → Ev (fun k => impl_mergeDeltas.l2 k x6 b v xs x29 x30) r
  | 0, v, x6, h1, h2, _, h3, he => by
    refine Ev.succ ?_
    simp only [impl_mergeDeltas.l2]
    simp only [cuts, List.append_nil] at he
    exact Ev.pos (by omega) he
  | n + 1, v, x6, h1, h2, hn, h3, he => by
    refine Ev.succ ?_
    simp only [impl_mergeDeltas.l2]
    unfold cuts at he
    by_cases hv : v = 0
    · rw [if_pos hv] at he
      simp only [List.append_nil] at he
      exact Ev.pos hv he
    · rw [if_neg hv] at he
      refine Ev.neg hv (Ev.pos (by omega) ?_)
      have hc := cl_cases v
      have hb : -16 * (n : Int) ≤ v - cl v ∧ v - cl v ≤ 16 * n := by push_cast at h1 h2; omega
      have hw : wrap64 (v - mn (mx v (-16)) 16) = v - cl v := by
        show wrap64 (v - cl v) = v - cl v
        exact wrap_id (by omega) (by omega)
      rw [hw]
      refine impl_cut xs x29 x30 b r n (v - cl v) _ hb.1 hb.2 (by omega) (by simp; omega) ?_
      simpa [cl] using he
def merged (l : List ID) : List ID := (List.range 18).flatMap (fun (b : Nat) => cuts (b : Int) 41 (sumB l b))
theorem drop_range (n i : Nat) (h : i < n) : (List.range n).drop i = i :: (List.range n).drop (i + 1) := by
  rw [List.drop_eq_getElem_cons (by simpa using h)]
  simp
theorem acc_get (b : Nat) (hb : b < 18) : ∀ (l : List ID) (s : List Int) (hs : s.length = 18), (∀ d ∈ l, delB d = true) →
    ∃ h : b < (l.foldl (fun (s : List Int) (d : ID) => s.set d.f0.toNat (wrap64 (rd s d.f0 + d.f1))) s).length, (l.foldl (fun (s : List Int) (d : ID) => s.set d.f0.toNat (wrap64 (rd s d.f0 + d.f1))) s)[b] = l.foldl (sStep b) s[b]
  | [], s, hs, _ => ⟨by simp; omega, by simp⟩
  | d :: l, s, hs, hd => by
    have hf := delB_facts (hd d (by simp))
    obtain ⟨h, e⟩ := acc_get b hb l (s.set d.f0.toNat (wrap64 (rd s d.f0 + d.f1))) (by simpa using hs) (fun e he => hd e (by simp [he]))
    refine ⟨by simpa using h, ?_⟩
    simp only [List.foldl_cons]
    rw [e]
    congr 1
    unfold sStep
    obtain ⟨j, hj⟩ : ∃ j : Nat, d.f0 = (j : Int) := ⟨d.f0.toNat, by omega⟩
    rw [hj] at hf ⊢
    rw [Int.toNat_natCast, List.getElem_set]
    by_cases hjb : j = b
    · subst hjb
      rw [if_pos rfl, if_pos rfl, rd_at (by omega)]
    · rw [if_neg hjb, if_neg (by omega)]
theorem impl_mergeDeltas_ev (l : List ID) (h : delsB l = true) : Ev (fun k => impl_mergeDeltas.f k l) (merged l) := by
  obtain ⟨hl, hd⟩ := delsB_facts h
  unfold impl_mergeDeltas.f
  refine Ev.pos (by omega) ?_
  have key := ev_forS (fun k s i => impl_mergeDeltas.l0 k s l (l.length : Int) i) l.length (fun i s => s.length = 18 ∧ (l.drop i).foldl (fun (s : List Int) (d : ID) => s.set d.f0.toNat (wrap64 (rd s d.f0 + d.f1))) s = l.foldl (fun (s : List Int) (d : ID) => s.set d.f0.toNat (wrap64 (rd s d.f0 + d.f1))) (List.replicate 18 0)) (fun _ _ => merged l) (by
    intro i s hi ⟨hs, hf⟩ next
    simp only [impl_mergeDeltas.l0]
    rcases Nat.lt_or_ge i l.length with hlt | hge
    · have hx := delB_facts (hd l[i] (List.getElem_mem hlt))
      rw [rdI_at hlt, wrap_up hlt (by omega)]
      refine Ev.pos (by omega) (Ev.pos (by omega) (Ev.pos (by omega) (Ev.pos hx.1 (Ev.pos (by omega) ?_))))
      refine next hlt _ ⟨by simpa using hs, ?_⟩
      rw [← hf, List.drop_eq_getElem_cons hlt, List.foldl_cons]
    · refine Ev.neg (by omega) ?_
      rw [List.drop_of_length_le hge] at hf
      simp only [List.foldl_nil] at hf
      have hg : ∀ b (hb : b < 18) (h2 : b < s.length), s[b] = sumB l b := by
        intro b hb h2
        obtain ⟨h3, e⟩ := acc_get b hb l (List.replicate 18 0) (by simp) hd
        subst hf
        rw [e, List.getElem_replicate]
        rfl
      have key2 := ev_forS (fun k x6 j => impl_mergeDeltas.l1 k x6 s (s.length : Int) j) 18 (fun j x6 => x6.length ≤ 41 * j) (fun j x6 => x6 ++ ((List.range 18).drop j).flatMap (fun (b : Nat) => cuts (b : Int) 41 (sumB l b))) (by
        intro j x6 hj hx6 next2
        simp only [impl_mergeDeltas.l1]
        rcases Nat.lt_or_ge j 18 with hlt2 | hge2
        · refine Ev.pos (by omega) (Ev.pos (by omega) (Ev.pos (by omega) ?_))
          rw [rd_at (by omega), hg j hlt2 (by omega)]
          have hb := sumB_bound h (j : Int)
          refine impl_cut s _ j j _ 41 (sumB l j) x6 (by omega) (by omega) (by omega) (by omega) ?_
          rw [wrap_up hlt2 (by omega), drop_range _ _ hlt2, List.flatMap_cons, ← List.append_assoc]
          refine next2 hlt2 _ ?_
          have := cuts_length (j : Int) 41 (sumB l j)
          simp only [List.length_append]
          omega
        · refine Ev.neg (by omega) (Ev.some ?_)
          rw [List.drop_of_length_le (by simpa using hge2)]
          simp) 0 [] (Nat.zero_le _) (by simp)
      simpa [merged] using key2) 0 (List.replicate 18 0) (Nat.zero_le _) ⟨by simp, by simp⟩
  simpa using key
theorem merged_length (l : List ID) : (merged l).length ≤ 738 := by
  have key : ∀ (r : List Nat), (r.flatMap (fun (b : Nat) => cuts (b : Int) 41 (sumB l b))).length ≤ 41 * r.length := by
    intro r
    induction r with
    | nil => simp
    | cons b r ih =>
      have := cuts_length (b : Int) 41 (sumB l b)
      rw [List.flatMap_cons, List.length_append, List.length_cons]
      omega
  have := key (List.range 18)
  simpa [merged] using this
end Go.Proofs.Ythhfmolgiojahaa.L
