-- Ours: printed or written for this claim; cut to what the theorem needs.
import Derived.Test.YtpngfnhkibkebaaZPx14
import Derived.Test.YtpngfnhkibkebaaZPx15
import Derived.Test.YtpngfnhkibkebaaZPx9
import Derived.Test.YtpngfnhkibkebaaZQtb
namespace Go.Proofs.Ytpngfnhkibkebaa.Pure
open Go.RowKit Go.Proofs.Ytpngfnhkibkebaa.P Go.Proofs.YtpngfnhkibkebaaW.PrintWords Go.Proofs.YtpngfnhkibkebaaW.PrintLast Go.Proofs.Ytpngfnhkibkebaa.U Go.Proofs.Ytpngfnhkibkebaa.L
def setV (t : Int) (L M U : List Int) (p g m : Int) : Int × List Int × List Int × List Int × Bool :=
  if quotaB t L M U = true then (if 0 ≤ p ∧ p < L.length ∧ quotaB t (L.set p.toNat g) (M.set p.toNat m) U = true then (t,L.set p.toNat g,M.set p.toNat m,U,true) else (t,L,M,U,false)) else (0,[],[],[],false)
theorem setV_len (t : Int) (L M U : List Int) (p g m : Int) : (setV t L M U p g m).2.1.length ≤ 8 ∧ (setV t L M U p g m).2.2.1.length ≤ 8 ∧ (setV t L M U p g m).2.2.2.1.length ≤ 8:=by
  unfold setV
  by_cases hw : quotaB t L M U = true
  · have:=quota_facts hw
    rw [if_pos hw]
    split <;> simp <;> omega
  · rw [if_neg hw];simp
theorem impl_QuotaSet_ev (t : Int) (L M U : List Int) (p g m : Int) : Ev (fun k => impl_QuotaSet.f k t L M U p g m) (setV t L M U p g m):=by
  unfold impl_QuotaSet.f setV
  refine Ev.bind (isQuota_ev _ _ _ _) ?_
  cases hw : quotaB t L M U with
  | false => exact Ev.neg (by decide) (Ev.some rfl)
  | true =>
  have hf:=quota_facts hw
  refine Ev.pos rfl ?_
  rw [if_pos rfl,copied_eq t L M U (by omega) (by omega) (by omega),in_eq,wrap_id (i:=(L.length : Int) - 1) (by omega) (by omega)]
  simp only [Option.bind_some]
  by_cases hp : 0 ≤ p ∧ p < L.length
  · rw [show (decide (0 ≤ p) && decide (p ≤ (L.length : Int) - 1)) = true by simp;omega]
    refine Ev.pos rfl (Ev.pos (by omega) (Ev.pos (by omega) (Ev.pos (by omega) (Ev.bind (isQuota_ev _ _ _ _) ?_))))
    cases hq : quotaB t (L.set p.toNat g) (M.set p.toNat m) U with
    | true => exact Ev.pos rfl (Ev.some (by simp [hp]))
    | false => exact Ev.neg (by decide) (Ev.some (by simp))
  · rw [show (decide (0 ≤ p) && decide (p ≤ (L.length : Int) - 1)) = false by simp;omega]
    exact Ev.neg (by decide) (Ev.some (by rw [if_neg (fun h => hp ⟨h.1,h.2.1⟩)]))
theorem spec_QuotaSet_ev (t : Int) (L M U : List Int) (p g m : Int) : Ev (fun k => spec_QuotaSet.f k t L M U p g m) (setV t L M U p g m):=by
  unfold spec_QuotaSet.f setV
  refine Ev.bind (spec_QuotaOk_ev _ _ _ _) ?_
  cases hw : quotaB t L M U with
  | false => exact Ev.neg (by decide) (Ev.some rfl)
  | true =>
  have hf:=quota_facts hw
  refine Ev.pos rfl ?_
  rw [if_pos rfl,l24Copy_eq t L M U (by omega) (by omega) (by omega)]
  simp only [Option.bind_some]
  have hT : Ev (fun k => spec_QuotaSet.j0 k p g m true t L M U t L M U) (t,L,M,U,false):=Ev.succ (by simp only [spec_QuotaSet.j0];exact Ev.pos trivial (Ev.some rfl))
  by_cases h0 : p < 0
  · refine Ev.pos h0 ?_
    rw [if_neg (by omega)]
    exact hT
  · refine Ev.neg h0 ?_
    by_cases h1 : p < L.length
    · rw [show decide (p ≥ (U.length : Int)) = false by simp;omega]
      refine Ev.succ ?_
      simp only [spec_QuotaSet.j0,Option.bind_some]
      rw [l24Copy_eq t L M U (by omega) (by omega) (by omega)]
      refine Ev.neg (by decide) (Ev.pos (by omega) (Ev.pos (by omega) (Ev.pos (by omega) (Ev.bind (spec_QuotaOk_ev _ _ _ _) ?_))))
      cases hq : quotaB t (L.set p.toNat g) (M.set p.toNat m) U with
      | true => exact Ev.pos rfl (Ev.some (by rw [if_pos ⟨by omega,h1,rfl⟩]))
      | false => exact Ev.neg (by decide) (Ev.some (by simp))
    · rw [show decide (p ≥ (U.length : Int)) = true by simp;omega,if_neg (by omega)]
      exact hT
theorem FnExactQuotaSet : laws_FnExactQuotaSet.Pure:=by
  intro t L M U p g m ⟨_,⟨hL,_⟩,⟨hM,_⟩,⟨hU,_⟩⟩ _ _ _
  refine Ev.rounds ?_
  unfold laws_FnExactQuotaSet.f
  rcases szQuota_cases t L M U hL hM hU with ⟨v,hv,h0⟩|⟨v,hv,h0,h1,h2,h3⟩
  · rw [hv]
    simp only [Option.bind_some]
    exact Ev.pos h0 (Ev.some rfl)
  · rw [hv]
    simp only [Option.bind_some]
    have ht:=toQuota_ev t L M U h1 h2 h3
    have hs:=spec_QuotaSet_ev t L M U p g m
    have hi:=impl_QuotaSet_ev t L M U p g m
    have hr:=setV_len t L M U p g m
    generalize setV t L M U p g m = r at hs hi hr
    obtain ⟨rt,rL,rM,rU,rb⟩:=r
    simp only at hr
    have he:=eqQuota_ev rt rL rM rU (by omega) (by omega) (by omega)
    have hm:=markQuota_ev rt rL rM rU (by omega) (by omega) (by omega)
    have hh:=heldQuota_ev rt rL.length rM.length rU.length (by omega) (by omega) (by omega)
    refine Ev.neg (by omega) (Ev.bind ht (Ev.bind hs (Ev.bind ht (Ev.bind hi (Ev.bind he (Ev.pos rfl (Ev.neg (by simp) ?_)))))))
    refine Ev.bind ht (Ev.bind (eqQuota_ev t L M U h1 h2 h3) (Ev.pos rfl (Ev.bind (markQuota_ev t L M U h1 h2 h3) (Ev.neg (by omega) ?_))))
    refine Ev.bind he (Ev.pos rfl (Ev.bind hm (Ev.bind hh (Ev.neg (by omega) (Ev.pos rfl ?_)))))
    exact Ev.bind ht (Ev.bind hi (Ev.bind he (Ev.pos rfl (Ev.neg (by simp) (Ev.bind hh (Ev.neg (by omega) (Ev.pos rfl (Ev.some rfl))))))))
end Go.Proofs.Ytpngfnhkibkebaa.Pure
