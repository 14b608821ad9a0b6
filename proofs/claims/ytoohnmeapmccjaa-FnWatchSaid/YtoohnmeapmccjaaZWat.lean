-- Ours: printed or written for this claim; cut to what the theorem needs.
import Derived.Test.YtoohnmeapmccjaaZPx3
import Derived.Test.YtoohnmeapmccjaaZPx7
import Derived.Test.YtoohnmeapmccjaaZPx0
import Derived.Test.YtoohnmeapmccjaaZPx6
import Derived.Test.YtoohnmeapmccjaaZU
import Derived.Test.YtoohnmeapmccjaaZSzi
set_option linter.unusedVariables false
namespace Go.Proofs.Ytoohnmeapmccjaa.L
open Go.RowKit Go.Proofs.Ytoohnmeapmccjaa.P Go.Proofs.YtoohnmeapmccjaaW.PrintWords Go.Proofs.YtoohnmeapmccjaaW.PrintLast Go.Proofs.YtoohnmeapmccjaaW.PrintMore Go.Proofs.Ytoohnmeapmccjaa.U
theorem in_eq (a b c : Int) : impl_in.f a b c = some (decide (b ≤ a) && decide (a ≤ c)):=by
  unfold impl_in.f
  by_cases h : b ≤ a <;> simp [h]
theorem l1In_eq (a b c : Int) : spec_l1In.f a b c = some (decide (b ≤ a) && decide (a ≤ c)):=by
  unfold spec_l1In.f
  by_cases h : b ≤ a <;> simp [h]
def inB (c v : Int) : Bool:=decide (0 ≤ v) && decide (v ≤ c)
def watchB (n : Int) (A B : List Int) : Bool:=inB 1000000 n && ((decide (A.length = 3) && decide (B.length = 3)) && (A.all (inB 1000000) && B.all (inB n)))
theorem watch_facts {n : Int} {A B : List Int} (h : watchB n A B = true) : 0 ≤ n ∧ n ≤ 1000000 ∧ A.length = 3 ∧ B.length = 3:=by
  unfold watchB inB at h
  simp only [Bool.and_eq_true,decide_eq_true_eq] at h
  omega
theorem spec_WatchOk_ev (n : Int) (A B : List Int) : Ev (fun k => spec_WatchOk.f k n A B) (watchB n A B):=by
  have hT : Ev (fun k => spec_WatchOk.j0 k true n A B) false:=Ev.succ (by simp only [spec_WatchOk.j0];exact Ev.pos (by simp) (Ev.some rfl))
  unfold spec_WatchOk.f watchB
  rw [l1In_eq]
  simp only [Option.bind_some]
  cases hn : (decide (0 ≤ n) && decide (n ≤ 1000000)) with
  | false =>
    refine Ev.neg (by decide) ?_
    rw [show inB 1000000 n = false from hn]
    exact hT
  | true =>
    rw [show inB 1000000 n = true from hn]
    refine Ev.pos rfl ?_
    by_cases hA : A.length = 3
    · refine Ev.pos (by omega) ?_
      by_cases hB : B.length = 3
      · rw [show ((B.length : Int) != 3) = false by simp;omega]
        refine Ev.succ ?_
        simp only [spec_WatchOk.j0]
        refine Ev.neg (by decide) ?_
        simp only [hA,hB,decide_true,Bool.true_and]
        have key:=ev_for (fun k i => spec_WatchOk.l0 k i n A B) 3 (fun i => (A.drop i).all (inB 1000000) && (B.drop i).all (inB n)) (by
          intro i hi next
          simp only [spec_WatchOk.l0,l1In_eq,Option.bind_some]
          rcases Nat.lt_or_ge i 3 with hlt|hge
          · refine Ev.pos (by omega) (Ev.pos (by omega) (Ev.pos (by omega) ?_))
            rw [rd_at (show i < A.length by omega),rd_at (show i < B.length by omega),wrap_up hlt (by omega),List.drop_eq_getElem_cons (show i < A.length by omega),List.drop_eq_getElem_cons (show i < B.length by omega),List.all_cons,List.all_cons]
            cases h1 : (decide (0 ≤ A[i]) && decide (A[i] ≤ 1000000)) with
            | false =>
              rw [show inB 1000000 A[i] = false from h1]
              exact Ev.neg (by decide) (Ev.some (by simp))
            | true =>
              rw [show inB 1000000 A[i] = true from h1]
              refine Ev.pos rfl (Ev.pos (by omega) ?_)
              cases h2 : (decide (0 ≤ B[i]) && decide (B[i] ≤ n)) with
              | false =>
                rw [show inB n B[i] = false from h2]
                exact Ev.neg (by decide) (Ev.some (by simp))
              | true =>
                rw [show inB n B[i] = true from h2]
                exact Ev.pos rfl (by simpa using next hlt)
          · refine Ev.neg (by omega) (Ev.some ?_)
            rw [List.drop_of_length_le (by omega),List.drop_of_length_le (by omega)]
            rfl) 0 (Nat.zero_le _)
        simpa using key
      · rw [show ((B.length : Int) != 3) = true by simp;omega]
        simpa [hA,hB] using hT
    · exact Ev.neg (by omega) (by simpa [hA] using hT)
theorem c1_ev (A : List Int) (hl : A.length ≤ 1048576) : Ev (fun k => slices_ContainsFunc_int_at_isWatch_1.f k A) (!A.all (inB 1000000)):=by
  obtain ⟨r,h1,h2,_⟩:=index_any A (fun d => !inB 1000000 d) (fun k i => slices_IndexFunc_int_at_isWatch_1.l0 k A (A.length : Int) i) (by
      simp only [slices_IndexFunc_int_at_isWatch_1.l0]
      exact Ev.neg (by omega) (Ev.some rfl)) (by
      intro i h hq
      simp only [slices_IndexFunc_int_at_isWatch_1.l0,impl_isWatch_1.f,in_eq,Option.bind_some]
      rw [rd_at h]
      exact Ev.pos (by omega) (Ev.pos (by omega) (Ev.pos (by omega) (Ev.pos hq (Ev.some rfl))))) (by
      intro i h r hq hn
      simp only [slices_IndexFunc_int_at_isWatch_1.l0,impl_isWatch_1.f,in_eq,Option.bind_some]
      rw [rd_at h,wrap_up h (by omega)]
      exact Ev.pos (by omega) (Ev.pos (by omega) (Ev.pos (by omega) (Ev.neg (by unfold inB at hq;simpa using hq) hn))))
  unfold slices_ContainsFunc_int_at_isWatch_1.f slices_IndexFunc_int_at_isWatch_1.f
  refine Ev.bind h1 (Ev.some ?_)
  rw [h2,List.all_eq_not_any_not,Bool.not_not]
theorem c2_ev (n : Int) (A B : List Int) (hl : B.length ≤ 1048576) : Ev (fun k => slices_ContainsFunc_int_at_isWatch_2.f k B n A B) (!B.all (inB n)):=by
  obtain ⟨r,h1,h2,_⟩:=index_any B (fun d => !inB n d) (fun k i => slices_IndexFunc_int_at_isWatch_2.l0 k B (B.length : Int) i n A B) (by
      simp only [slices_IndexFunc_int_at_isWatch_2.l0]
      exact Ev.neg (by omega) (Ev.some rfl)) (by
      intro i h hq
      simp only [slices_IndexFunc_int_at_isWatch_2.l0,impl_isWatch_2_at.f,in_eq,Option.bind_some]
      rw [rd_at h]
      exact Ev.pos (by omega) (Ev.pos (by omega) (Ev.pos (by omega) (Ev.pos hq (Ev.some rfl))))) (by
      intro i h r hq hn
      simp only [slices_IndexFunc_int_at_isWatch_2.l0,impl_isWatch_2_at.f,in_eq,Option.bind_some]
      rw [rd_at h,wrap_up h (by omega)]
      exact Ev.pos (by omega) (Ev.pos (by omega) (Ev.pos (by omega) (Ev.neg (by unfold inB at hq;simpa using hq) hn))))
  unfold slices_ContainsFunc_int_at_isWatch_2.f slices_IndexFunc_int_at_isWatch_2.f
  refine Ev.bind h1 (Ev.some ?_)
  rw [h2,List.all_eq_not_any_not,Bool.not_not]
theorem isWatch_ev (n : Int) (A B : List Int) : Ev (fun k => impl_isWatch.f k n A B) (watchB n A B):=by
  unfold impl_isWatch.f watchB
  rw [in_eq]
  simp only [Option.bind_some]
  cases hn : (decide (0 ≤ n) && decide (n ≤ 1000000)) with
  | false =>
    rw [show inB 1000000 n = false from hn]
    exact Ev.neg (by decide) (Ev.some rfl)
  | true =>
    rw [show inB 1000000 n = true from hn]
    refine Ev.pos rfl ?_
    by_cases hA : A.length = 3
    · refine Ev.pos (by omega) ?_
      by_cases hB : B.length = 3
      · refine Ev.pos (by omega) (Ev.bind (c1_ev A (by omega)) ?_)
        cases h1 : A.all (inB 1000000) with
        | false => exact Ev.pos rfl (Ev.some (by simp))
        | true => exact Ev.neg (by decide) (Ev.bind (c2_ev n A B (by omega)) (Ev.some (by simp [hA,hB])))
      · exact Ev.neg (by omega) (Ev.some (by simp [hB]))
    · exact Ev.neg (by omega) (Ev.some (by simp [hA]))
theorem copied_eq (n : Int) (A B : List Int) (h1 : A.length ≤ 1048576) (h2 : B.length ≤ 1048576) : impl_Watch_copied.f n A B = some (n,A,B):=by
  unfold impl_Watch_copied.f
  rw [clone_eq A h1,clone_eq B h2]
  rfl
def tickV (n : Int) (A B : List Int) : Int × List Int × List Int × Bool:=if watchB n A B = true then (if n = 1000000 then (n,A,B,false) else (n + 1,A,B,true)) else (0,[],[],false)
theorem impl_WatchTick_ev (n : Int) (A B : List Int) : Ev (fun k => impl_WatchTick.f k n A B) (tickV n A B):=by
  unfold impl_WatchTick.f
  refine Ev.bind (isWatch_ev n A B) ?_
  cases h : watchB n A B with
  | false => exact Ev.neg (by decide) (Ev.some (by simp [tickV,h]))
  | true =>
    have hf:=watch_facts h
    refine Ev.pos rfl ?_
    rw [copied_eq n A B (by omega) (by omega)]
    simp only [Option.bind_some]
    by_cases hn : n = 1000000
    · exact Ev.pos hn (Ev.some (by unfold tickV;rw [if_pos h,if_pos hn]))
    · exact Ev.neg hn (Ev.some (by rw [wrap_id (by omega) (by omega)];unfold tickV;rw [if_pos h,if_neg hn]))
end Go.Proofs.Ytoohnmeapmccjaa.L
