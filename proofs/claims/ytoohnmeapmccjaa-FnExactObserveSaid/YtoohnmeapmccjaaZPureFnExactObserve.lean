-- Ours: printed or written for this claim; cut to what the theorem needs.
import Derived.Test.YtoohnmeapmccjaaZPx10
import Derived.Test.YtoohnmeapmccjaaZPx11
import Derived.Test.YtoohnmeapmccjaaZPx2
import Derived.Test.YtoohnmeapmccjaaZPx3
import Derived.Test.YtoohnmeapmccjaaZWat
namespace Go.Proofs.Ytoohnmeapmccjaa.Pure
open Go.RowKit Go.Proofs.Ytoohnmeapmccjaa.P Go.Proofs.YtoohnmeapmccjaaW.PrintWords Go.Proofs.YtoohnmeapmccjaaW.PrintLast Go.Proofs.Ytoohnmeapmccjaa.U Go.Proofs.Ytoohnmeapmccjaa.L
def obsV (n : Int) (A B : List Int) (h t : Int) : Int × List Int × List Int :=
  if watchB n A B = true then (if inB 2 h = true ∧ inB 1000000 t = true ∧ ¬ rd A h = t then (n,A.set h.toNat t,B.set h.toNat n) else (n,A,B)) else (0,[],[])
theorem obsV_len (n : Int) (A B : List Int) (h t : Int) : (obsV n A B h t).2.1.length ≤ 8 ∧ (obsV n A B h t).2.2.length ≤ 8:=by
  unfold obsV
  by_cases hw : watchB n A B = true
  · have:=watch_facts hw
    rw [if_pos hw]
    split <;> simp <;> omega
  · rw [if_neg hw];simp
theorem l3Host_eq (h : Int) : spec_l3Host.f h = some (inB 2 h):=by
  unfold spec_l3Host.f inB
  by_cases h0 : 0 ≤ h
  · rw [if_pos h0];simp [h0];omega
  · rw [if_neg h0];simp [h0]
theorem isHost_eq (h : Int) : impl_isHost.f h = some (inB 2 h):=by
  unfold impl_isHost.f
  rw [in_eq];rfl
theorem inB_iff {c v : Int} : inB c v = true ↔ 0 ≤ v ∧ v ≤ c:=by unfold inB;simp
theorem impl_Observe_ev (n : Int) (A B : List Int) (h t : Int) : Ev (fun k => impl_Observe.f k n A B h t) (obsV n A B h t):=by
  unfold impl_Observe.f obsV
  refine Ev.bind (isWatch_ev n A B) ?_
  cases hw : watchB n A B with
  | false => exact Ev.neg (by decide) (Ev.some rfl)
  | true =>
    have hf:=watch_facts hw
    refine Ev.pos rfl ?_
    rw [copied_eq n A B (by omega) (by omega),isHost_eq]
    simp only [Option.bind_some]
    rw [if_pos trivial]
    cases h1 : inB 2 h with
    | false => exact Ev.neg (by decide) (Ev.some (by simp))
    | true =>
      have hb:=inB_iff.mp h1
      refine Ev.pos rfl ?_
      rw [in_eq]
      simp only [Option.bind_some]
      cases h2 : inB 1000000 t with
      | false =>
        rw [show (decide (0 ≤ t) && decide (t ≤ 1000000)) = false from h2]
        exact Ev.neg (by decide) (Ev.some (by simp))
      | true =>
        rw [show (decide (0 ≤ t) && decide (t ≤ 1000000)) = true from h2]
        refine Ev.pos rfl (Ev.pos (by omega) (Ev.pos (by omega) ?_))
        by_cases he : t = rd A h
        · exact Ev.pos he (Ev.some (by rw [if_neg (by simp [he])]))
        · exact Ev.neg he (Ev.pos (by omega) (Ev.some (by simp [show ¬ rd A h = t from fun hc => he hc.symm])))
theorem spec_Observe_ev (n : Int) (A B : List Int) (h t : Int) : Ev (fun k => spec_Observe.f k n A B h t) (obsV n A B h t):=by
  unfold spec_Observe.f obsV
  refine Ev.bind (spec_WatchOk_ev n A B) ?_
  cases hw : watchB n A B with
  | false => exact Ev.neg (by decide) (Ev.some rfl)
  | true =>
    have hf:=watch_facts hw
    refine Ev.pos rfl ?_
    rw [l13Copy_eq n A B (by omega) (by omega)]
    simp only [Option.bind_some]
    unfold spec_l13Observe.f
    rw [l3Host_eq]
    simp only [Option.bind_some]
    rw [if_pos trivial]
    cases h1 : inB 2 h with
    | false => exact Ev.some (by simp)
    | true =>
      have hb:=inB_iff.mp h1
      rw [if_pos rfl,l1In_eq]
      simp only [Option.bind_some]
      cases h2 : inB 1000000 t with
      | false =>
        rw [show (decide (0 ≤ t) && decide (t ≤ 1000000)) = false from h2]
        exact Ev.some (by simp)
      | true =>
        rw [show (decide (0 ≤ t) && decide (t ≤ 1000000)) = true from h2]
        rw [if_pos rfl,if_pos (by omega),if_pos (by omega)]
        by_cases he : rd A h = t
        · rw [if_pos he]
          simp only [Option.bind_some]
          exact Ev.some (by simp [he])
        · rw [if_neg he,if_pos (by omega)]
          simp only [Option.bind_some]
          exact Ev.some (by simp [he])
theorem FnExactObserve : laws_FnExactObserve.Pure:=by
  intro n A B h t ⟨_,⟨hA,_⟩,⟨hB,_⟩⟩ _ _
  refine Ev.rounds ?_
  unfold laws_FnExactObserve.f
  rcases szWatch_cases n A B hA hB with ⟨v,hv,h0⟩|⟨v,hv,h0,h1,h2⟩
  · rw [hv]
    simp only [Option.bind_some]
    exact Ev.pos h0 (Ev.some rfl)
  · rw [hv]
    simp only [Option.bind_some]
    have ht:=toWatch_ev n A B h1 h2
    have hs:=spec_Observe_ev n A B h t
    have hi:=impl_Observe_ev n A B h t
    have hr:=obsV_len n A B h t
    generalize obsV n A B h t = r at hs hi hr
    obtain ⟨rn,rA,rB⟩:=r
    simp only at hr
    have he:=eqWatch_ev rn rA rB (by omega) (by omega)
    have hm:=markWatch_ev rn rA rB (by omega) (by omega)
    have hh:=heldWatch_ev rn rA.length rB.length (by omega) (by omega)
    refine Ev.neg (by omega) (Ev.bind ht (Ev.bind hs (Ev.bind ht (Ev.bind hi (Ev.bind he (Ev.pos rfl ?_))))))
    refine Ev.bind ht (Ev.bind (eqWatch_ev n A B h1 h2) (Ev.pos rfl (Ev.bind (markWatch_ev n A B h1 h2) (Ev.neg (by simp only [];omega) ?_))))
    refine Ev.bind he (Ev.pos rfl (Ev.bind hm (Ev.bind hh (Ev.neg (by omega) (Ev.pos rfl ?_)))))
    exact Ev.bind ht (Ev.bind hi (Ev.bind he (Ev.pos rfl (Ev.bind hh (Ev.neg (by omega) (Ev.pos rfl (Ev.some rfl)))))))
end Go.Proofs.Ytoohnmeapmccjaa.Pure
