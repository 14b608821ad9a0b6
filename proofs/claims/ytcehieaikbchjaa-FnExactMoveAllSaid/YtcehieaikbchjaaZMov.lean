-- Ours: printed or written for this claim; cut to what the theorem needs.
import Derived.Test.YtcehieaikbchjaaZPx0
import Derived.Test.YtcehieaikbchjaaZPx3
import Derived.Test.YtcehieaikbchjaaZPx4
import Derived.Test.YtcehieaikbchjaaZPx5
import Derived.Test.YtcehieaikbchjaaZPx6
import Derived.Test.YtcehieaikbchjaaZPx7
import Derived.Test.YtcehieaikbchjaaZOwn
import Derived.Test.YtcehieaikbchjaaZMks
set_option linter.unusedVariables false
namespace Go.Proofs.Ytcehieaikbchjaa.L
open Go.RowKit Go.Proofs.Ytcehieaikbchjaa.P Go.Proofs.YtcehieaikbchjaaW.PrintWords Go.Proofs.YtcehieaikbchjaaW.PrintLast Go.Proofs.YtcehieaikbchjaaW.PrintMore Go.Proofs.Ytcehieaikbchjaa.U
abbrev LM := S52
abbrev IM := S47
theorem IM.ext' (a b : IM) : a = b ↔ a.f0 = b.f0 ∧ a.f1 = b.f1 ∧ a.f2 = b.f2 := by
  cases a; cases b; simp
instance : DecidableEq IM := fun a b => decidable_of_iff _ (IM.ext' a b).symm
def toM (d : LM) : IM := ⟨d.f0, d.f1, d.f2⟩
theorem rdL_at {xs : List LM} {i : Nat} (h : i < xs.length) : rd_T52 xs (i : Int) = xs[i] := by
  simp [rd_T52, List.getD_eq_getElem?_getD, List.getElem?_eq_getElem h]
theorem rdI_at {xs : List IM} {i : Nat} (h : i < xs.length) : rd_T47 xs (i : Int) = xs[i] := by
  simp [rd_T47, List.getD_eq_getElem?_getD, List.getElem?_eq_getElem h]
theorem rdI_set {xs : List IM} {x : IM} {i : Nat} (h : i < xs.length) : rd_T47 (xs.set i x) (i : Int) = x := by
  rw [rdI_at (by simpa using h), List.getElem_set_self]
theorem toMoveS_ev (xs : List LM) (h : xs.length ≤ 1048576) : Ev (fun k => laws_toMoveS.f k xs) (xs.map toM) := by
  unfold laws_toMoveS.f
  simp only [Int.toNat_natCast]
  refine Ev.pos (by omega) ?_
  refine Ev.pos (by omega) ?_
  exact ev_fill (fun k s i => laws_toMoveS.l0 k xs s i) xs toM (fun s => by
      simp only [laws_toMoveS.l0]
      exact Ev.neg (by omega) (Ev.some rfl)) (by
      intro i s r hi hs hn
      simp only [laws_toMoveS.l0, laws_toMove.f, Option.bind_some]
      refine Ev.pos (by omega) (Ev.pos (by omega) (Ev.pos (by omega) ?_))
      rw [wrap_up hi (by omega), rdL_at hi, Int.toNat_natCast]
      exact hn) (List.replicate xs.length z47) (by simp)
theorem eqMove_eq (a b c d e f : Int) : laws_eqMove.f a b c d e f = some (decide ((⟨a, b, c⟩ : IM) = ⟨d, e, f⟩)) := by
  unfold laws_eqMove.f
  by_cases h : a = d <;> by_cases h2 : b = e <;> by_cases h3 : c = f <;> simp [h, h2, h3]
theorem eqMoveS_ev (xs ys : List IM) (h : xs.length ≤ 1048576) : Ev (fun k => laws_eqMoveS.f k xs ys) (decide (xs = ys)) := by
  unfold laws_eqMoveS.f
  by_cases hl : xs.length = ys.length
  · refine Ev.pos (by omega) ?_
    refine eq_loop xs ys hl (fun k i => laws_eqMoveS.l0 k xs ys i) ?_ ?_ ?_
    · simp only [laws_eqMoveS.l0]
      exact Ev.neg (by omega) (Ev.some rfl)
    · intro i h1 h2 hne
      simp only [laws_eqMoveS.l0, eqMove_eq, Option.bind_some]
      rw [rdI_at h1, rdI_at h2]
      exact Ev.pos (by omega) (Ev.pos (by omega) (Ev.pos (by omega) (Ev.neg (fun h => hne (of_decide_eq_true h)) (Ev.some rfl))))
    · intro i h1 h2 r he hn
      simp only [laws_eqMoveS.l0, eqMove_eq, Option.bind_some]
      rw [rdI_at h1, rdI_at h2, wrap_up h1 (by omega)]
      exact Ev.pos (by omega) (Ev.pos (by omega) (Ev.pos (by omega) (Ev.pos (decide_eq_true he) hn)))
  · exact Ev.neg (by omega) (Ev.some (by
      have : xs ≠ ys := fun e => hl (by rw [e])
      simp [this]))
theorem szMoveS_cases (l : List LM) (hl : l.length * 24 ≤ 140737488351232) : (∃ v : Int, laws_szMoveS.f l 1048576 = some v ∧ v < 0) ∨ (∃ v : Int, laws_szMoveS.f l 1048576 = some v ∧ 0 ≤ v ∧ l.length ≤ 1048576) := by
  have hw : wrap64 (1048576 - (l.length : Int)) = 1048576 - (l.length : Int) := wrap_id (by omega) (by omega)
  unfold laws_szMoveS.f
  rw [hw]
  by_cases h : (1048576 : Int) - (l.length : Int) < 0
  · rw [if_pos h]; exact Or.inl ⟨-1, rfl, by omega⟩
  · rw [if_neg h]; exact Or.inr ⟨_, rfl, by omega, by omega⟩
def mkM (a : Int) (_ : IM) : IM := ⟨a, a + 1, a + 2⟩
theorem markMoveS_ev (xs : List IM) (a : Int) (h : xs.length ≤ 1048576) (h0 : 0 ≤ a) (h1 : a ≤ 1000000000000) : Ev (fun k => laws_markMoveS.f k xs a) (a + 3 * xs.length, marks mkM 3 a xs) := by
  unfold laws_markMoveS.f
  refine mark_loop mkM 3 (by omega) xs (fun k s a i => laws_markMoveS.l0 k s a i) 2000000000000 ?_ ?_ a h0 (by omega)
  · intro s b hs
    simp only [laws_markMoveS.l0]
    exact Ev.neg (by omega) (Ev.some rfl)
  · intro i s b r hi hs hx hb0 hb1 next
    simp only [laws_markMoveS.l0, Option.bind_some, Int.toNat_natCast]
    refine Ev.pos (by omega) (Ev.pos (by omega) ?_)
    have e1 : wrap64 (b + 1) = b + 1 := wrap_id (by omega) (by omega)
    have e2 : wrap64 (b + 1 + 1) = b + 2 := by rw [wrap_id (by omega) (by omega)]; omega
    have e3 : wrap64 (b + 2 + 1) = b + 3 := by rw [wrap_id (by omega) (by omega)]; omega
    simp only [rdI_set (show i < s.length by omega), List.set_set, e1, e2, e3, wrap_up hi (show xs.length ≤ 9223372036854775807 by omega)]
    exact next
def moveGo (c : List Int) : List IM → List Int → List Int × Bool
  | [], s => (s, true)
  | m :: r, s => if 0 ≤ m.f0 ∧ m.f0 < s.length ∧ rd s m.f0 = m.f1 ∧ 0 ≤ m.f2 ∧ m.f2 ≤ 2 then moveGo c r (s.set m.f0.toNat m.f2) else (c, false)
theorem moveGo_good (c : List Int) (m : IM) (r : List IM) (s : List Int) (h : 0 ≤ m.f0 ∧ m.f0 < s.length ∧ rd s m.f0 = m.f1 ∧ 0 ≤ m.f2 ∧ m.f2 ≤ 2) : moveGo c (m :: r) s = moveGo c r (s.set m.f0.toNat m.f2) := by
  rw [moveGo, if_pos h]
theorem moveGo_bad (c : List Int) (m : IM) (r : List IM) (s : List Int) (h : ¬ (0 ≤ m.f0 ∧ m.f0 < s.length ∧ rd s m.f0 = m.f1 ∧ 0 ≤ m.f2 ∧ m.f2 ≤ 2)) : (c, false) = moveGo c (m :: r) s := by
  rw [moveGo, if_neg h]
theorem moveGo_length (c : List Int) : ∀ (l : List IM) (s : List Int), s.length = c.length → (moveGo c l s).1.length = c.length
  | [], s, h => h
  | m :: r, s, h => by
    rw [moveGo]
    split
    · exact moveGo_length c r _ (by simpa using h)
    · rfl
def moveV (o : List Int) (l : List IM) : List Int × Bool := if ownersB o = true then moveGo o l o else (o, false)
theorem moveV_length (o : List Int) (l : List IM) : (moveV o l).1.length = o.length := by
  unfold moveV
  split
  · exact moveGo_length o l o rfl
  · rfl
theorem clone_eq (l : List Int) (h : l.length ≤ 1048576) : slices_Clone_int.f l = some l := by
  unfold slices_Clone_int.f
  simp only [Option.bind_some, List.length_nil, List.nil_append]
  rw [if_pos (by omega)]
theorem areOwners_ev (o : List Int) : Ev (fun k => impl_areOwners.f k o) (ownersB o) := by
  unfold impl_areOwners.f ownersB
  by_cases hl : o.length ≤ 30
  · exact Ev.pos (by omega) (Ev.bind (index_ev o hl) (Ev.some (by simp [hl])))
  · exact Ev.neg (by omega) (Ev.some (by simp [hl]))
theorem spec_MoveAll_ev (o : List Int) (l : List IM) (ho : o.length ≤ 1048576) (hl : l.length ≤ 1048576) : Ev (fun k => spec_MoveAll.f k o l) (moveV o l) := by
  unfold spec_MoveAll.f moveV
  simp only [Option.bind_some, List.length_nil, List.nil_append]
  refine Ev.pos (by omega) (Ev.bind (spec_ev o) ?_)
  cases h : ownersB o with
  | false => exact Ev.neg (by decide) (Ev.some (by simp))
  | true =>
    refine Ev.pos rfl ?_
    have key := ev_forS (fun k s i => spec_MoveAll.l0 k o l s i) l.length (fun _ s => s.length = o.length) (fun i s => moveGo o (l.drop i) s) (by
      intro i s hi hs next
      simp only [spec_MoveAll.l0, Option.bind_some, List.length_nil, List.nil_append, l1In_eq]
      rcases Nat.lt_or_ge i l.length with hlt | hge
      · refine Ev.pos (by omega) (Ev.pos (by omega) ?_)
        rw [List.drop_eq_getElem_cons hlt, rdI_at hlt, wrap_up hlt (by omega)]
        generalize l[i] = m at *
        have bad : ¬ (0 ≤ m.f0 ∧ m.f0 < s.length ∧ rd s m.f0 = m.f1 ∧ 0 ≤ m.f2 ∧ m.f2 ≤ 2) → Ev (fun _ : Nat => if o.length < 17592186044416 then some (o, false) else none) (moveGo o (m :: l.drop (i + 1)) s) := fun hb => Ev.pos (by omega) (Ev.some (moveGo_bad o m _ s hb))
        by_cases h0 : m.f0 < 0
        · exact Ev.pos h0 (by simpa using bad (by omega))
        · refine Ev.neg h0 ?_
          by_cases h1 : m.f0 < s.length
          · refine Ev.neg (by omega) (Ev.pos (by omega) (Ev.pos (by omega) ?_))
            by_cases h2 : rd s m.f0 = m.f1
            · refine Ev.pos h2 ?_
              by_cases h3 : 0 ≤ m.f2 ∧ m.f2 ≤ 2
              · refine Ev.pos (by simp; omega) ?_
                rw [moveGo_good o m _ s ⟨by omega, h1, h2, h3.1, h3.2⟩]
                exact next hlt _ (by simpa using hs)
              · exact Ev.neg (by simp; omega) (by simpa using bad (by omega))
            · exact Ev.neg h2 (by simpa using bad (fun x => h2 x.2.2.1))
          · exact Ev.pos (by omega) (by simpa using bad (by omega))
      · refine Ev.neg (by omega) (Ev.some ?_)
        rw [List.drop_of_length_le hge]
        rfl) 0 o (Nat.zero_le _) rfl
    simpa using key
theorem impl_MoveAll_ev (o : List Int) (l : List IM) (ho : o.length ≤ 1048576) (hl : l.length ≤ 1048576) : Ev (fun k => impl_MoveAll.f k o l) (moveV o l) := by
  unfold impl_MoveAll.f moveV
  rw [clone_eq o ho]
  simp only [Option.bind_some]
  refine Ev.bind (areOwners_ev o) ?_
  cases h : ownersB o with
  | false => exact Ev.neg (by decide) (Ev.some (by simp))
  | true =>
    refine Ev.pos rfl ?_
    have key := ev_forS (fun k s i => impl_MoveAll.l0 k o s l (l.length : Int) i) l.length (fun _ s => s.length = o.length) (fun i s => moveGo o (l.drop i) s) (by
      intro i s hi hs next
      simp only [impl_MoveAll.l0, clone_eq o ho, Option.bind_some, in_eq, impl_isHost.f]
      rcases Nat.lt_or_ge i l.length with hlt | hge
      · refine Ev.pos (by omega) (Ev.pos (by omega) (Ev.pos (by omega) ?_))
        rw [List.drop_eq_getElem_cons hlt, rdI_at hlt, wrap_up hlt (by omega), wrap_id (i := (s.length : Int) - 1) (by omega) (by omega)]
        generalize l[i] = m at *
        have bad : ¬ (0 ≤ m.f0 ∧ m.f0 < s.length ∧ rd s m.f0 = m.f1 ∧ 0 ≤ m.f2 ∧ m.f2 ≤ 2) → Ev (fun _ : Nat => some (o, false)) (moveGo o (m :: l.drop (i + 1)) s) := fun hb => Ev.some (moveGo_bad o m _ s hb)
        by_cases h1 : 0 ≤ m.f0 ∧ m.f0 < s.length
        · refine Ev.pos (by simp; omega) (Ev.pos (by omega) (Ev.pos (by omega) ?_))
          by_cases h2 : rd s m.f0 = m.f1
          · refine Ev.pos h2 ?_
            by_cases h3 : 0 ≤ m.f2 ∧ m.f2 ≤ 2
            · refine Ev.pos (by simp; omega) ?_
              rw [moveGo_good o m _ s ⟨by omega, h1.2, h2, h3.1, h3.2⟩]
              exact next hlt _ (by simpa using hs)
            · exact Ev.neg (by simp; omega) (bad (by omega))
          · exact Ev.neg h2 (bad (fun x => h2 x.2.2.1))
        · exact Ev.neg (by simp; omega) (bad (by omega))
      · refine Ev.neg (by omega) (Ev.some ?_)
        rw [List.drop_of_length_le hge]
        rfl) 0 o (Nat.zero_le _) rfl
    simpa using key
end Go.Proofs.Ytcehieaikbchjaa.L
