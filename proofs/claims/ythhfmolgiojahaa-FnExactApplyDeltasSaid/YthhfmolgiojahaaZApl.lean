-- Ours: printed or written for this claim; cut to what the theorem needs.
import Derived.Test.YthhfmolgiojahaaZPx7
import Derived.Test.YthhfmolgiojahaaZPx8
import Derived.Test.YthhfmolgiojahaaZMrg
set_option linter.unusedVariables false
namespace Go.Proofs.Ythhfmolgiojahaa.L
open Go.RowKit Go.Proofs.Ythhfmolgiojahaa.P Go.Proofs.YthhfmolgiojahaaW.PrintWords Go.Proofs.YthhfmolgiojahaaW.PrintLast Go.Proofs.YthhfmolgiojahaaW.PrintMore Go.Proofs.Ythhfmolgiojahaa.U
def in16 (v : Int) : Bool := decide (0 ≤ v) && decide (v ≤ 16)
def countsB (c : List Int) : Bool := decide (c.length = 18) && c.all in16
theorem l20Counts_ev (c : List Int) : Ev (fun k => spec_l20Counts.f k c) (countsB c) := by
  unfold spec_l20Counts.f countsB
  by_cases hl : c.length = 18
  · refine Ev.pos (by omega) ?_
    simp only [hl, decide_true, Bool.true_and]
    refine all_loop c in16 (fun k i => spec_l20Counts.l0 k c i) ?_ ?_ ?_
    · simp only [spec_l20Counts.l0]
      exact Ev.neg (by omega) (Ev.some rfl)
    · intro i h hq
      simp only [spec_l20Counts.l0, l1In_eq, Option.bind_some]
      rw [rd_at h]
      exact Ev.pos (by omega) (Ev.pos (by omega) (Ev.neg (by unfold in16 at hq; simp [hq]) (Ev.some rfl)))
    · intro i h r hq hn
      simp only [spec_l20Counts.l0, l1In_eq, Option.bind_some]
      rw [rd_at h, wrap_up h (by omega)]
      exact Ev.pos (by omega) (Ev.pos (by omega) (Ev.pos hq hn))
  · exact Ev.neg (by omega) (Ev.some (by simp [hl]))
theorem notIn16_ev (c : List Int) (hl : c.length ≤ 1048576) : Ev (fun k => slices_ContainsFunc_int_at_ApplyDeltas_1.f k c) (!c.all in16) := by
  obtain ⟨r, h1, h2, _⟩ := index_any c (fun d => !in16 d) (fun k i => slices_IndexFunc_int_at_ApplyDeltas_1.l0 k c (c.length : Int) i) (by
      simp only [slices_IndexFunc_int_at_ApplyDeltas_1.l0]
      exact Ev.neg (by omega) (Ev.some rfl)) (by
      intro i h hq
      simp only [slices_IndexFunc_int_at_ApplyDeltas_1.l0, impl_ApplyDeltas_1.f, in_eq, Option.bind_some]
      rw [rd_at h]
      exact Ev.pos (by omega) (Ev.pos (by omega) (Ev.pos (by omega) (Ev.pos hq (Ev.some rfl))))) (by
      intro i h r hq hn
      simp only [slices_IndexFunc_int_at_ApplyDeltas_1.l0, impl_ApplyDeltas_1.f, in_eq, Option.bind_some]
      rw [rd_at h, wrap_up h (by omega)]
      exact Ev.pos (by omega) (Ev.pos (by omega) (Ev.pos (by omega) (Ev.neg (by unfold in16 at hq; simpa using hq) hn))))
  unfold slices_ContainsFunc_int_at_ApplyDeltas_1.f slices_IndexFunc_int_at_ApplyDeltas_1.f
  refine Ev.bind h1 (Ev.some ?_)
  rw [h2, List.all_eq_not_any_not, Bool.not_not]
theorem clone_eq (l : List Int) (h : l.length ≤ 1048576) : slices_Clone_int.f l = some l := by
  unfold slices_Clone_int.f
  simp only [Option.bind_some, List.length_nil, List.nil_append]
  rw [if_pos (by omega)]
def summed (c : List Int) (l : List ID) : List Int := (List.range 18).map (fun (b : Nat) => rd c (b : Int) + sumB l (b : Int))
def applyV (c : List Int) (l : List ID) : List Int × Bool := if countsB c = true ∧ delsB l = true ∧ countsB (summed c l) = true then (summed c l, true) else (c, false)
theorem counts_facts {c : List Int} (h : countsB c = true) : c.length = 18 ∧ ∀ b (hb : b < c.length), 0 ≤ c[b] ∧ c[b] ≤ 16 := by
  unfold countsB in16 at h
  simp only [Bool.and_eq_true, decide_eq_true_eq, List.all_eq_true] at h
  exact ⟨h.1, fun b hb => h.2 _ (List.getElem_mem hb)⟩
theorem summed_length (c : List Int) (l : List ID) : (summed c l).length = 18 := by simp [summed]
theorem summed_get (c : List Int) (l : List ID) (b : Nat) (hb : b < 18) (hc : c.length = 18) (h : b < (summed c l).length) : (summed c l)[b] = c[b]'(by omega) + sumB l (b : Int) := by
  simp only [summed, List.getElem_map, List.getElem_range]
  rw [rd_at (by omega)]
theorem applyV_length (c : List Int) (l : List ID) (h : c.length ≤ 1048576) : (applyV c l).1.length ≤ 1048576 := by
  unfold applyV
  split
  · simp [summed_length]
  · simpa using h
theorem spec_apply_loop (c : List Int) (l : List ID) (hc : countsB c = true) (hd : delsB l = true) (x6 : List Int) : Ev (fun k => spec_ApplyDeltas.l0 k l x6 c 0) (if countsB (summed c l) = true then (summed c l, true) else (x6, false)) := by
  obtain ⟨hcl, hcb⟩ := counts_facts hc
  have hl := (delsB_facts hd).1
  have key := ev_forS (fun k s i => spec_ApplyDeltas.l0 k l x6 s i) 18 (fun i s => s.length = 18 ∧ ∀ b (h : b < s.length) (h2 : b < c.length), s[b] = if b < i then c[b] + sumB l (b : Int) else c[b]) (fun _ _ => if countsB (summed c l) = true then (summed c l, true) else (x6, false)) (by
    intro i s hi ⟨hs, hg⟩ next
    simp only [spec_ApplyDeltas.l0]
    rcases Nat.lt_or_ge i 18 with hlt | hge
    · refine Ev.pos (by omega) (Ev.pos (by omega) (Ev.pos (by omega) (Ev.bind (l20Sum_ev l _ (by omega)) ?_)))
      have hb := sumB_bound hd (i : Int)
      have hv := hcb i (by omega)
      rw [wrap_up hlt (by omega), rd_at (by omega), hg i (by omega) (by omega), if_neg (by omega), wrap_id (by omega) (by omega), Int.toNat_natCast]
      refine next hlt _ ⟨by simpa using hs, fun b h h2 => ?_⟩
      rw [List.getElem_set]
      by_cases hbi : i = b
      · subst hbi
        rw [if_pos rfl, if_pos (by omega)]
      · rw [if_neg hbi, hg b (by simpa using h) h2]
        by_cases hlt2 : b < i
        · rw [if_pos hlt2, if_pos (by omega)]
        · rw [if_neg hlt2, if_neg (by omega)]
    · have e : s = summed c l := List.ext_getElem (by rw [hs, summed_length]) (fun b h h2 => by
        rw [hg b h (by omega), if_pos (by omega), summed_get c l b (by omega) hcl])
      subst e
      refine Ev.neg (by omega) (Ev.bind (l20Counts_ev _) ?_)
      by_cases hk : countsB (summed c l) = true
      · exact Ev.pos hk (Ev.some (by rw [if_pos hk]))
      · exact Ev.neg hk (Ev.some (by rw [if_neg hk]))) 0 c (Nat.zero_le _) ⟨hcl, fun b h h2 => by simp⟩
  simpa using key
theorem spec_ApplyDeltas_ev (c : List Int) (l : List ID) (h : c.length ≤ 1048576) : Ev (fun k => spec_ApplyDeltas.f k c l) (applyV c l) := by
  have hT : Ev (fun k => spec_ApplyDeltas.j0 k c l c true) (c, false) := Ev.succ (by simp only [spec_ApplyDeltas.j0]; exact Ev.pos (by simp) (Ev.some rfl))
  unfold spec_ApplyDeltas.f
  simp only [Option.bind_some, List.length_nil, List.nil_append]
  refine Ev.pos (by omega) (Ev.bind (l20Counts_ev c) ?_)
  by_cases hc : countsB c = true
  · refine Ev.pos hc (Ev.bind (spec_DeltasOk_ev l) ?_)
    by_cases hd : delsB l = true
    · rw [hd]
      refine Ev.succ ?_
      simp only [spec_ApplyDeltas.j0, Option.bind_some, List.length_nil, List.nil_append]
      refine Ev.neg (by decide) (Ev.pos (by omega) ?_)
      have := spec_apply_loop c l hc hd c
      unfold applyV
      simpa [hc, hd] using this
    · have e : applyV c l = (c, false) := by unfold applyV; rw [if_neg (fun x => hd x.2.1)]
      rw [e, Bool.eq_false_iff.2 hd]
      exact hT
  · have e : applyV c l = (c, false) := by unfold applyV; rw [if_neg (fun x => hc x.1)]
    rw [e]
    exact Ev.neg hc hT
def aStep (s : List Int) (d : ID) : List Int := s.set d.f0.toNat (wrap64 (rd s d.f0 + d.f1))
theorem aStep_cuts (b : Nat) : ∀ (n : Nat) (v : Int) (s : List Int) (hb : b < s.length), -16 * (n : Int) ≤ v → v ≤ 16 * n → n ≤ 41 → -100000 - 16 * (41 - (n : Int)) ≤ s[b] → s[b] ≤ 100000 + 16 * (41 - (n : Int)) → (cuts (b : Int) n v).foldl aStep s = s.set b (s[b] + v)
  | 0, v, s, hb, h1, h2, _, h3, h4 => by
    have : v = 0 := by omega
    subst this
    simp [cuts]
  | n + 1, v, s, hb, h1, h2, hn, h3, h4 => by
    unfold cuts
    by_cases hv : v = 0
    · subst hv
      simp
    · rw [if_neg hv, List.foldl_cons]
      have hc := cl_cases v
      have e : aStep s ⟨(b : Int), cl v⟩ = s.set b (s[b] + cl v) := by
        unfold aStep
        simp only [Int.toNat_natCast]
        rw [rd_at hb, wrap_id (by omega) (by omega)]
      rw [e]
      have hb' : b < (s.set b (s[b] + cl v)).length := by simpa using hb
      have hg : (s.set b (s[b] + cl v))[b] = s[b] + cl v := List.getElem_set_self _
      push_cast at h1 h2 h3 h4
      rw [aStep_cuts b n (v - cl v) _ hb' (by omega) (by omega) (by omega) (by rw [hg]; omega) (by rw [hg]; omega), hg, List.set_set, Int.add_assoc, show cl v + (v - cl v) = v by omega]
theorem piece_ok (b : Nat) (hb : b < 18) (n : Nat) (v : Int) : ∀ d ∈ cuts (b : Int) n v, d.f0 = (b : Int) := by
  induction n generalizing v with
  | zero => simp [cuts]
  | succ n ih =>
    unfold cuts
    intro d hd
    split at hd
    · simp at hd
    · rcases List.mem_cons.1 hd with rfl | hd
      · rfl
      · exact ih _ d hd
theorem merged_ok (l : List ID) : ∀ d ∈ merged l, 0 ≤ d.f0 ∧ d.f0 < 18 := by
  intro d hd
  unfold merged at hd
  rw [List.mem_flatMap] at hd
  obtain ⟨b, hb, hd⟩ := hd
  have := piece_ok b (by simpa using hb) _ _ d hd
  have hb2 : b < 18 := by simpa using hb
  omega
theorem fold_summed (c : List Int) (l : List ID) (hc : countsB c = true) (hd : delsB l = true) : (merged l).foldl aStep c = summed c l := by
  obtain ⟨hcl, hcb⟩ := counts_facts hc
  have key : ∀ d i, i + d = 18 → ∀ s : List Int, s.length = 18 → (∀ b (h : b < s.length) (h2 : b < c.length), s[b] = if b < i then c[b] + sumB l (b : Int) else c[b]) → (((List.range 18).drop i).flatMap (fun (b : Nat) => cuts (b : Int) 41 (sumB l b))).foldl aStep s = summed c l := by
    intro d
    induction d with
    | zero =>
      intro i hi s hs hg
      rw [List.drop_of_length_le (by simp; omega)]
      exact List.ext_getElem (by simp [hs, summed_length]) (fun b h h2 => by
        have h' : b < s.length := by simpa using h
        rw [summed_get c l b (by omega) hcl]
        have := hg b h' (by omega)
        rw [if_pos (by omega)] at this
        simpa using this)
    | succ d ih =>
      intro i hi s hs hg
      have hlt : i < 18 := by omega
      have hb := sumB_bound hd (i : Int)
      have hv := hcb i (by omega)
      have hsi := hg i (by omega) (by omega)
      rw [if_neg (by omega)] at hsi
      rw [drop_range _ _ hlt, List.flatMap_cons, List.foldl_append, aStep_cuts i 41 (sumB l i) s (by omega) (by omega) (by omega) (by omega) (by omega) (by omega)]
      refine ih (i + 1) (by omega) _ (by simpa using hs) (fun b h h2 => ?_)
      rw [List.getElem_set]
      by_cases hbi : i = b
      · subst hbi
        rw [if_pos rfl, if_pos (by omega), hsi]
      · rw [if_neg hbi, hg b (by simpa using h) h2]
        by_cases hlt2 : b < i
        · rw [if_pos hlt2, if_pos (by omega)]
        · rw [if_neg hlt2, if_neg (by omega)]
  have := key 18 0 (by omega) c hcl (fun b h h2 => by simp)
  simpa [merged] using this
theorem impl_apply_loop (c : List Int) (l : List ID) (hc : countsB c = true) (hd : delsB l = true) : Ev (fun k => impl_ApplyDeltas.l0 k c c (merged l) ((merged l).length : Int) 0) (if countsB (summed c l) = true then (summed c l, true) else (c, false)) := by
  obtain ⟨hcl, hcb⟩ := counts_facts hc
  have hok := merged_ok l
  have hml := merged_length l
  have hfold := fold_summed c l hc hd
  generalize merged l = m at hok hml hfold ⊢
  have key := ev_forS (fun k s i => impl_ApplyDeltas.l0 k c s m (m.length : Int) i) m.length (fun i s => s.length = 18 ∧ (m.drop i).foldl aStep s = summed c l) (fun _ _ => if countsB (summed c l) = true then (summed c l, true) else (c, false)) (by
    intro i s hi ⟨hs, hf⟩ next
    simp only [impl_ApplyDeltas.l0]
    rcases Nat.lt_or_ge i m.length with hlt | hge
    · have hx := hok m[i] (List.getElem_mem hlt)
      rw [rdI_at hlt, wrap_up hlt (by omega)]
      refine Ev.pos (by omega) (Ev.pos (by omega) (Ev.pos (by omega) (Ev.pos hx.1 (Ev.pos (by omega) ?_))))
      refine next hlt _ ⟨by simpa using hs, ?_⟩
      rw [← hf, List.drop_eq_getElem_cons hlt, List.foldl_cons]
      rfl
    · refine Ev.neg (by omega) ?_
      rw [List.drop_of_length_le hge] at hf
      simp only [List.foldl_nil] at hf
      rw [← hf]
      refine Ev.bind (notIn16_ev _ (by omega)) ?_
      by_cases hk : s.all in16 = true
      · refine Ev.neg (by simp [hk]) (Ev.some ?_)
        rw [if_pos (by simp [countsB, hs, hk])]
      · rw [clone_eq c (by omega)]
        simp only [Option.bind_some]
        refine Ev.pos (by simpa using hk) (Ev.some ?_)
        rw [if_neg (by simp only [countsB, Bool.and_eq_true]; exact fun x => hk x.2)]) 0 c (Nat.zero_le _) ⟨hcl, by simpa using hfold⟩
  simpa using key
theorem impl_ApplyDeltas_ev (c : List Int) (l : List ID) (h : c.length ≤ 1048576) : Ev (fun k => impl_ApplyDeltas.f k c l) (applyV c l) := by
  have hT : Ev (fun k => impl_ApplyDeltas.j0 k c l c true) (c, false) := Ev.succ (by simp only [impl_ApplyDeltas.j0]; exact Ev.pos (by simp) (Ev.some rfl))
  unfold impl_ApplyDeltas.f
  rw [clone_eq c h]
  simp only [Option.bind_some]
  refine Ev.bind (areDeltas_ev l) ?_
  by_cases hd : delsB l = true
  · refine Ev.pos hd ?_
    by_cases hl : c.length = 18
    · refine Ev.pos (by omega) (Ev.bind (notIn16_ev c h) ?_)
      by_cases hk : c.all in16 = true
      · have hc : countsB c = true := by simp [countsB, hl, hk]
        rw [hk]
        refine Ev.succ ?_
        simp only [impl_ApplyDeltas.j0]
        refine Ev.neg (by decide) (Ev.bind (impl_mergeDeltas_ev l hd) ?_)
        have := impl_apply_loop c l hc hd
        unfold applyV
        simpa [hc, hd] using this
      · have e : applyV c l = (c, false) := by unfold applyV; rw [if_neg (fun x => by simp [countsB, hl] at x; exact hk (by simpa using x.1))]
        rw [e, Bool.eq_false_iff.2 hk]
        exact hT
    · have e : applyV c l = (c, false) := by unfold applyV; rw [if_neg (fun x => by simp [countsB, hl] at x)]
      rw [e]
      exact Ev.neg (by omega) hT
  · have e : applyV c l = (c, false) := by unfold applyV; rw [if_neg (fun x => hd x.2.1)]
    rw [e]
    exact Ev.neg hd hT
end Go.Proofs.Ythhfmolgiojahaa.L
