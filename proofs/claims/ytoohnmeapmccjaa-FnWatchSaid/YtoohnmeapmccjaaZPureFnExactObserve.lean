-- Ours: printed or written for this claim; cut to what the theorem needs.
import Derived.Test.YtoohnmeapmccjaaZPx0
import Derived.Test.YtoohnmeapmccjaaZPx3
import Derived.Test.YtoohnmeapmccjaaZPx5
import Derived.Test.YtoohnmeapmccjaaZPx7
import Derived.Test.YtoohnmeapmccjaaZPx6
import Derived.Test.YtoohnmeapmccjaaZPx2
import Derived.Test.YtoohnmeapmccjaaZWat
namespace Go.Proofs.Ytoohnmeapmccjaa.Pure
open Go.RowKit Go.Proofs.Ytoohnmeapmccjaa.P Go.Proofs.YtoohnmeapmccjaaW.PrintWords Go.Proofs.YtoohnmeapmccjaaW.PrintLast Go.Proofs.Ytoohnmeapmccjaa.U Go.Proofs.Ytoohnmeapmccjaa.L
def obsV (n : Int) (A B : List Int) (h t : Int) : Int × List Int × List Int :=
  if watchB n A B = true then (if inB 2 h = true ∧ inB 1000000 t = true ∧ ¬ rd A h = t then (n,A.set h.toNat t,B.set h.toNat n) else (n,A,B)) else (0,[],[])
theorem isHost_eq (h : Int) : impl_isHost.f h = some (inB 2 h):=by
  unfold impl_isHost.f
  rw [in_eq];rfl
theorem inB_iff {c v : Int} : inB c v = true ↔ 0 ≤ v ∧ v ≤ c:=by unfold inB;simp
theorem impl_Observe_ev (n : Int) (A B : List Int) (h t : Int) : Ev (fun k => impl_Observe.f k n A B h t) (obsV n A B h t):=by
  unfold impl_Observe.f obsV
  refine Ev.bind (isWatch_ev n A B) ?_
  cases hw : watchB n A B with
  | false => exact Ev.neg (by decide) (Ev.some rfl)
  | true =>
    have hf:=watch_facts hw
    refine Ev.pos rfl ?_
    rw [copied_eq n A B (by omega) (by omega),isHost_eq]
    simp only [Option.bind_some]
    rw [if_pos trivial]
    cases h1 : inB 2 h with
    | false => exact Ev.neg (by decide) (Ev.some (by simp))
    | true =>
      have hb:=inB_iff.mp h1
      refine Ev.pos rfl ?_
      rw [in_eq]
      simp only [Option.bind_some]
      cases h2 : inB 1000000 t with
      | false =>
        rw [show (decide (0 ≤ t) && decide (t ≤ 1000000)) = false from h2]
        exact Ev.neg (by decide) (Ev.some (by simp))
      | true =>
        rw [show (decide (0 ≤ t) && decide (t ≤ 1000000)) = true from h2]
        refine Ev.pos rfl (Ev.pos (by omega) (Ev.pos (by omega) ?_))
        by_cases he : t = rd A h
        · exact Ev.pos he (Ev.some (by rw [if_neg (by simp [he])]))
        · exact Ev.neg he (Ev.pos (by omega) (Ev.some (by simp [show ¬ rd A h = t from fun hc => he hc.symm])))
end Go.Proofs.Ytoohnmeapmccjaa.Pure
