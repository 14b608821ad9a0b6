-- Ours: printed or written for this claim; cut to what the theorem needs.
import Derived.Test.YtpngfnhkibkebaaZPx1
import Derived.Test.YtpngfnhkibkebaaZPx2
import Derived.Test.YtpngfnhkibkebaaZPx3
import Derived.Test.YtpngfnhkibkebaaZPx4
import Derived.Test.YtpngfnhkibkebaaZPx5
import Derived.Test.YtpngfnhkibkebaaZLint
import Derived.Test.YtpngfnhkibkebaaZWMore
set_option linter.unusedVariables false
namespace Go.Proofs.Ytpngfnhkibkebaa.L
open Go.RowKit Go.Proofs.Ytpngfnhkibkebaa.P Go.Proofs.YtpngfnhkibkebaaW.PrintWords Go.Proofs.YtpngfnhkibkebaaW.PrintLast Go.Proofs.YtpngfnhkibkebaaW.PrintMore Go.Proofs.Ytpngfnhkibkebaa.U
theorem in_eq (a b c : Int) : impl_in.f a b c = some (decide (b ≤ a) && decide (a ≤ c)):=by
  unfold impl_in.f
  by_cases h : b ≤ a <;> simp [h]
theorem l1In_eq (a b c : Int) : spec_l1In.f a b c = some (decide (b ≤ a) && decide (a ≤ c)):=by
  unfold spec_l1In.f
  by_cases h : b ≤ a <;> simp [h]
theorem more_eq (a b : Int) : spec_l24More.f a b = some (mx a b):=by
  unfold spec_l24More.f mx
  by_cases h : a > b
  · rw [if_pos h,if_neg (by omega)]
  · rw [if_neg h]
    by_cases h2 : a < b
    · rw [if_pos h2]
    · rw [if_neg h2];congr 1;omega
theorem kept_eq (t : Int) (L M U : List Int) (i : Nat) (h1 : i < M.length) (h2 : i < U.length) : impl_Quota_kept.f t L M U (i : Int) = some (mx (rd M i) (rd U i)):=by
  unfold impl_Quota_kept.f
  rw [if_pos (by omega),if_pos (by omega),if_pos (by omega)]
def qE (t : Int) (x : Int × Int × Int) : Bool:=(decide (0 ≤ x.1) && decide (x.1 ≤ t)) && ((decide (0 ≤ x.2.1) && decide (x.2.1 ≤ x.1)) && (decide (0 ≤ x.2.2) && decide (x.2.2 ≤ x.1)))
def trip (L M U : List Int) : List (Int × Int × Int):=(List.range L.length).map fun (i : Nat) => (rd L (i : Int),rd M (i : Int),rd U (i : Int))
theorem trip_length (L M U : List Int) : (trip L M U).length = L.length:=by simp [trip]
theorem trip_get (L M U : List Int) (i : Nat) (h : i < (trip L M U).length) : (trip L M U)[i] = (rd L (i : Int),rd M (i : Int),rd U (i : Int)):=by simp [trip]
def qGo (t : Int) : List (Int × Int × Int) → Int → Bool
  | [],s => decide (s ≤ t)
  | x :: r,s => if qE t x = true then qGo t r (wrap64 (s + mx x.2.1 x.2.2)) else false
def quotaB (t : Int) (L M U : List Int) : Bool:=((decide (0 ≤ t) && decide (t ≤ 1000)) && (decide (L.length ≤ 8) && (decide (M.length = L.length) && decide (U.length = L.length)))) && qGo t (trip L M U) 0
theorem qGo_all (t : Int) : ∀ (l : List (Int × Int × Int)) (s : Int),qGo t l s = true → ∀ x ∈ l,qE t x = true
  | [],s,h,x,hx => by simp at hx
  | y :: l,s,h,x,hx => by
    unfold qGo at h
    split at h
    · rename_i hy
      rcases List.mem_cons.1 hx with rfl|hx
      · exact hy
      · exact qGo_all t l _ h x hx
    · cases h
theorem quota_facts {t : Int} {L M U : List Int} (h : quotaB t L M U = true) : 0 ≤ t ∧ t ≤ 1000 ∧ L.length ≤ 8 ∧ M.length = L.length ∧ U.length = L.length ∧ ∀ i (h1 : i < L.length),0 ≤ rd L i ∧ rd L i ≤ t ∧ 0 ≤ rd M i ∧ rd M i ≤ rd L i ∧ 0 ≤ rd U i ∧ rd U i ≤ rd L i:=by
  unfold quotaB at h
  simp only [Bool.and_eq_true,decide_eq_true_eq] at h
  obtain ⟨⟨⟨h1,h2⟩,h3,h4,h5⟩,h6⟩:=h
  refine ⟨h1,h2,h3,h4,h5,fun i hi => ?_⟩
  have hm:=qGo_all t _ 0 h6 ((trip L M U)[i]'(by rw [trip_length];exact hi)) (List.getElem_mem (by rw [trip_length];exact hi))
  rw [trip_get] at hm
  unfold qE at hm
  simp only [Bool.and_eq_true,decide_eq_true_eq] at hm
  omega
theorem spec_loop (t : Int) (L M U : List Int) (h1 : L.length ≤ 8) (h2 : M.length = L.length) (h3 : U.length = L.length) : Ev (fun k => spec_QuotaOk.l0 k (L.length : Int) 0 0 t L M U) (qGo t (trip L M U) 0):=by
  have key:=ev_forS (fun k s i => spec_QuotaOk.l0 k (L.length : Int) s i t L M U) L.length (fun _ _ => True) (fun i s => qGo t ((trip L M U).drop i) s) (by
    intro i s hi _ next
    simp only [spec_QuotaOk.l0,l1In_eq,more_eq,Option.bind_some]
    rcases Nat.lt_or_ge i L.length with hlt|hge
    · refine Ev.pos (by omega) (Ev.pos (by omega) (Ev.pos (by omega) ?_))
      rw [List.drop_eq_getElem_cons (by rw [trip_length];exact hlt),trip_get,wrap_up hlt (by omega)]
      unfold qGo qE
      cases ha : (decide (0 ≤ rd L (i : Int)) && decide (rd L (i : Int) ≤ t)) with
      | false => exact Ev.neg (by decide) (Ev.some (by simp))
      | true =>
        refine Ev.pos rfl (Ev.pos (by omega) ?_)
        cases hb : (decide (0 ≤ rd M (i : Int)) && decide (rd M (i : Int) ≤ rd L (i : Int))) with
        | false => exact Ev.neg (by decide) (Ev.some (by simp))
        | true =>
          refine Ev.pos rfl (Ev.pos (by omega) ?_)
          cases hc : (decide (0 ≤ rd U (i : Int)) && decide (rd U (i : Int) ≤ rd L (i : Int))) with
          | false => exact Ev.neg (by decide) (Ev.some (by simp))
          | true =>
            refine Ev.pos rfl ?_
            simpa using next hlt _ trivial
    · refine Ev.neg (by omega) (Ev.some ?_)
      rw [List.drop_of_length_le (by rw [trip_length];omega)]
      rfl) 0 0 (Nat.zero_le _) trivial
  simpa using key
theorem impl_loop (t : Int) (L M U : List Int) (h1 : L.length ≤ 8) (h2 : M.length = L.length) (h3 : U.length = L.length) : Ev (fun k => impl_isQuota.l0 k 0 L (L.length : Int) 0 t L M U) (qGo t (trip L M U) 0):=by
  have key:=ev_forS (fun k s i => impl_isQuota.l0 k s L (L.length : Int) i t L M U) L.length (fun _ _ => True) (fun i s => qGo t ((trip L M U).drop i) s) (by
    intro i s hi _ next
    rcases Nat.lt_or_ge i L.length with hlt|hge
    · simp only [impl_isQuota.l0,in_eq,kept_eq t L M U i (by omega) (by omega),Option.bind_some]
      refine Ev.pos (by omega) (Ev.pos (by omega) (Ev.pos (by omega) ?_))
      rw [List.drop_eq_getElem_cons (by rw [trip_length];exact hlt),trip_get,wrap_up hlt (by omega)]
      unfold qGo qE
      cases ha : (decide (0 ≤ rd L (i : Int)) && decide (rd L (i : Int) ≤ t)) with
      | false => exact Ev.neg (by decide) (Ev.some (by simp))
      | true =>
        refine Ev.pos rfl (Ev.pos (by omega) ?_)
        cases hb : (decide (0 ≤ rd M (i : Int)) && decide (rd M (i : Int) ≤ rd L (i : Int))) with
        | false => exact Ev.neg (by decide) (Ev.some (by simp))
        | true =>
          refine Ev.pos rfl (Ev.pos (by omega) ?_)
          cases hc : (decide (0 ≤ rd U (i : Int)) && decide (rd U (i : Int) ≤ rd L (i : Int))) with
          | false => exact Ev.neg (by decide) (Ev.some (by simp))
          | true =>
            refine Ev.pos rfl ?_
            simpa using next hlt _ trivial
    · simp only [impl_isQuota.l0]
      refine Ev.neg (by omega) (Ev.some ?_)
      rw [List.drop_of_length_le (by rw [trip_length];omega)]
      rfl) 0 0 (Nat.zero_le _) trivial
  simpa using key
theorem spec_QuotaOk_ev (t : Int) (L M U : List Int) : Ev (fun k => spec_QuotaOk.f k t L M U) (quotaB t L M U):=by
  have hT : Ev (fun k => spec_QuotaOk.j0 k (L.length : Int) true t L M U) false:=Ev.succ (by simp only [spec_QuotaOk.j0];exact Ev.pos (by simp) (Ev.some rfl))
  unfold spec_QuotaOk.f quotaB
  rw [l1In_eq]
  simp only [Option.bind_some]
  cases ha : (decide (0 ≤ t) && decide (t ≤ 1000)) with
  | false => exact Ev.neg (by decide) (by simpa using hT)
  | true =>
    refine Ev.pos rfl ?_
    by_cases h1 : L.length ≤ 8
    · refine Ev.neg (by omega) ?_
      by_cases h2 : M.length = L.length
      · refine Ev.pos (by omega) ?_
        by_cases h3 : U.length = L.length
        · have hb : ((U.length : Int) != (L.length : Int)) = false:=by simp;omega
          rw [hb]
          refine Ev.succ ?_
          simp only [spec_QuotaOk.j0]
          refine Ev.neg (by decide) ?_
          simpa [h1,h2,h3] using spec_loop t L M U h1 h2 h3
        · have hb : ((U.length : Int) != (L.length : Int)) = true:=by simp;omega
          rw [hb]
          simpa [h1,h2,h3] using hT
      · exact Ev.neg (by omega) (by simpa [h1,h2] using hT)
    · exact Ev.pos (by omega) (by simpa [h1] using hT)
theorem isQuota_ev (t : Int) (L M U : List Int) : Ev (fun k => impl_isQuota.f k t L M U) (quotaB t L M U):=by
  have hT : Ev (fun k => impl_isQuota.j0 k true t L M U) false:=Ev.succ (by simp only [impl_isQuota.j0];exact Ev.pos (by simp) (Ev.some rfl))
  unfold impl_isQuota.f quotaB
  rw [in_eq]
  simp only [Option.bind_some]
  cases ha : (decide (0 ≤ t) && decide (t ≤ 1000)) with
  | false => exact Ev.neg (by decide) (by simpa using hT)
  | true =>
    refine Ev.pos rfl ?_
    by_cases h1 : L.length ≤ 8
    · refine Ev.neg (by omega) ?_
      by_cases h2 : M.length = L.length
      · refine Ev.pos (by omega) ?_
        by_cases h3 : U.length = L.length
        · have hb : ((U.length : Int) != (L.length : Int)) = false:=by simp;omega
          rw [hb]
          refine Ev.succ ?_
          simp only [impl_isQuota.j0]
          refine Ev.neg (by decide) ?_
          simpa [h1,h2,h3] using impl_loop t L M U h1 h2 h3
        · have hb : ((U.length : Int) != (L.length : Int)) = true:=by simp;omega
          rw [hb]
          simpa [h1,h2,h3] using hT
      · exact Ev.neg (by omega) (by simpa [h1,h2] using hT)
    · exact Ev.pos (by omega) (by simpa [h1] using hT)
theorem toQuota_ev (t : Int) (L M U : List Int) (h1 : L.length ≤ 1048576) (h2 : M.length ≤ 1048576) (h3 : U.length ≤ 1048576) : Ev (fun k => laws_toQuota.f k t L M U) (t,L,M,U):=by
  unfold laws_toQuota.f
  exact Ev.bind (toIntS_ev L h1) (Ev.bind (toIntS_ev M h2) (Ev.bind (toIntS_ev U h3) (Ev.some rfl)))
theorem eqQuota_ev (t : Int) (L M U : List Int) (h1 : L.length ≤ 1048576) (h2 : M.length ≤ 1048576) (h3 : U.length ≤ 1048576) : Ev (fun k => laws_eqQuota.f k t L M U t L M U) true:=by
  unfold laws_eqQuota.f
  have he : ∀ xs : List Int,xs.length ≤ 1048576 → Ev (fun k => laws_eqIntS.f k xs xs) true:=fun xs h => by simpa using eqIntS_ev xs xs h
  exact Ev.pos rfl (Ev.bind (he L h1) (Ev.pos rfl (Ev.bind (he M h2) (Ev.pos rfl (Ev.bind (he U h3) (Ev.pos rfl (Ev.some rfl)))))))
theorem szIntS_cases (l : List Int) (a : Int) (h0 : 0 ≤ a) (h1 : a ≤ 1048576) (hl : l.length * 8 ≤ 140737488351232) : (∃ v : Int,laws_szIntS.f l a = some v ∧ v < 0) ∨ (∃ v : Int,laws_szIntS.f l a = some v ∧ 0 ≤ v ∧ v ≤ 1048576 ∧ l.length ≤ 1048576):=by
  unfold laws_szIntS.f
  rw [wrap_id (i:=a - (l.length : Int)) (by omega) (by omega)]
  by_cases h : a - (l.length : Int) < 0
  · rw [if_pos h];exact Or.inl ⟨-1,rfl,by omega⟩
  · rw [if_neg h];exact Or.inr ⟨_,rfl,by omega,by omega,by omega⟩
theorem szQuota_cases (t : Int) (L M U : List Int) (hL : L.length * 8 ≤ 140737488351232) (hM : M.length * 8 ≤ 140737488351232) (hU : U.length * 8 ≤ 140737488351232) :
    (∃ v : Int,laws_szQuota.f t L M U 1048576 = some v ∧ v < 0) ∨ (∃ v : Int,laws_szQuota.f t L M U 1048576 = some v ∧ 0 ≤ v ∧ L.length ≤ 1048576 ∧ M.length ≤ 1048576 ∧ U.length ≤ 1048576):=by
  unfold laws_szQuota.f
  rcases szIntS_cases L 1048576 (by omega) (by omega) hL with ⟨v,hv,h0⟩|⟨v,hv,h0,h1,h2⟩
  · rw [hv];simp only [Option.bind_some];rw [if_pos h0];exact Or.inl ⟨-1,rfl,by omega⟩
  · rw [hv];simp only [Option.bind_some];rw [if_neg (by omega)]
    rcases szIntS_cases M v h0 h1 hM with ⟨v2,hv2,h02⟩|⟨v2,hv2,h02,h12,h22⟩
    · rw [hv2];simp only [Option.bind_some];rw [if_pos h02];exact Or.inl ⟨-1,rfl,by omega⟩
    · rw [hv2];simp only [Option.bind_some];rw [if_neg (by omega)]
      rcases szIntS_cases U v2 h02 h12 hU with ⟨v3,hv3,h03⟩|⟨v3,hv3,h03,h13,h23⟩
      · rw [hv3];simp only [Option.bind_some];rw [if_pos h03];exact Or.inl ⟨-1,rfl,by omega⟩
      · rw [hv3];simp only [Option.bind_some];rw [if_neg (by omega)];exact Or.inr ⟨_,rfl,h03,h2,h22,h23⟩
end Go.Proofs.Ytpngfnhkibkebaa.L
