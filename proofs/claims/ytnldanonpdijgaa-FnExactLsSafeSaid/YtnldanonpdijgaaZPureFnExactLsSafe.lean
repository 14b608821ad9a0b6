-- Ours: printed or written for this claim; cut to what the theorem needs.
import Derived.Test.YtnldanonpdijgaaZPx11
import Derived.Test.YtnldanonpdijgaaZPx12
import Derived.Test.YtnldanonpdijgaaZPureFnExactLsClock
namespace Go.Proofs.Ytnldanonpdijgaa.Pure
open Go.RowKit Go.Proofs.Ytnldanonpdijgaa.P Go.Proofs.YtnldanonpdijgaaW.PrintWords Go.Proofs.YtnldanonpdijgaaW.PrintLast Go.Proofs.YtnldanonpdijgaaW.PrintMore Go.Proofs.Ytnldanonpdijgaa.U Go.Proofs.Ytnldanonpdijgaa.L
theorem min_ev (r : Int) (R : List Int) (hl : R.length ≤ 1048576) : Ev (fun k => slices_Min_int.f k (r :: R)) (R.foldl mn r):=by
  unfold slices_Min_int.f
  refine Ev.neg (by simp only [List.length_cons];omega) (Ev.pos (by simp only [List.length_cons];omega) ?_)
  have key:=ev_forS (fun k s i => slices_Min_int.l0 k (r :: R) s i) (R.length + 1) (fun i s => 1 ≤ i) (fun i s => ((r :: R).drop i).foldl mn s) (by
    intro i s hi h1 next
    simp only [slices_Min_int.l0]
    rcases Nat.lt_or_ge i (R.length + 1) with hlt|hge
    · have hlt2 : i < (r :: R).length:=by simpa using hlt
      rw [List.drop_eq_getElem_cons hlt2,rd_at hlt2,wrap_up hlt2 (by simp;omega)]
      exact Ev.pos (by omega) (Ev.pos (by omega) (next hlt _ (by omega)))
    · rw [List.drop_of_length_le (by simpa using hge)]
      exact Ev.neg (by simp;omega) (Ev.some rfl)) 1 r (by omega) (by omega)
  exact key
theorem max_ev (r : Int) (R : List Int) (hl : R.length ≤ 1048576) : Ev (fun k => slices_Max_int.f k (r :: R)) (R.foldl mx r):=by
  unfold slices_Max_int.f
  refine Ev.neg (by simp only [List.length_cons];omega) (Ev.pos (by simp only [List.length_cons];omega) ?_)
  have key:=ev_forS (fun k s i => slices_Max_int.l0 k (r :: R) s i) (R.length + 1) (fun i s => 1 ≤ i) (fun i s => ((r :: R).drop i).foldl mx s) (by
    intro i s hi h1 next
    simp only [slices_Max_int.l0]
    rcases Nat.lt_or_ge i (R.length + 1) with hlt|hge
    · have hlt2 : i < (r :: R).length:=by simpa using hlt
      rw [List.drop_eq_getElem_cons hlt2,rd_at hlt2,wrap_up hlt2 (by simp;omega)]
      exact Ev.pos (by omega) (Ev.pos (by omega) (next hlt _ (by omega)))
    · rw [List.drop_of_length_le (by simpa using hge)]
      exact Ev.neg (by simp;omega) (Ev.some rfl)) 1 r (by omega) (by omega)
  exact key
def safeV (h m n : Int) (R : List Int) (o e : Int) (H : List IH) : Bool:=if lsB h m n R o e H = true then decide (wrap64 (wrap64 (m - 1) * R.foldl mn (rd R 0)) ≥ wrap64 (h * R.foldl mx (rd R 0))) else false
theorem impl_LsSafe_ev (h m n : Int) (R : List Int) (o e : Int) (H : List IH) : Ev (fun k => impl_LsSafe.f k h m n R o e H) (safeV h m n R o e H):=by
  unfold impl_LsSafe.f safeV
  refine Ev.bind (isLs_ev _ _ _ _ _ _ _) ?_
  cases hw : lsB h m n R o e H with
  | false => exact Ev.neg (by decide) (Ev.some rfl)
  | true =>
  have hf:=ls_facts hw
  refine Ev.pos rfl ?_
  cases R with
  | nil => simp at hf
  | cons r R =>
    have hr : rd (r :: R) 0 = r:=rfl
    have h1:=min_ev r R (by simp at hf;omega)
    have h2:=max_ev r R (by simp at hf;omega)
    refine Ev.bind h1 (Ev.bind h2 (Ev.some ?_))
    rw [hr,if_pos rfl,List.foldl_cons,List.foldl_cons,show mn r r = r by unfold mn;simp,show mx r r = r by unfold mx;simp]
theorem spec_LsSafe_ev (h m n : Int) (R : List Int) (o e : Int) (H : List IH) : Ev (fun k => spec_LsSafe.f k h m n R o e H) (safeV h m n R o e H):=by
  unfold spec_LsSafe.f safeV
  refine Ev.bind (LsOk_ev _ _ _ _ _ _ _) ?_
  cases hw : lsB h m n R o e H with
  | false => exact Ev.neg (by decide) (Ev.some rfl)
  | true =>
  have hf:=ls_facts hw
  refine Ev.pos rfl (Ev.pos (by omega) ?_)
  have key:=ev_forS (fun k (s : Int × Int) i => spec_LsSafe.l0 k s.1 s.2 i h m n R o e H) R.length (fun i s => True) (fun i s => decide (wrap64 (wrap64 (m - 1) * (R.drop i).foldl mn s.1) ≥ wrap64 (h * (R.drop i).foldl mx s.2))) (by
    intro i s hi h1 next
    obtain ⟨a,b⟩:=s
    simp only [spec_LsSafe.l0]
    rcases Nat.lt_or_ge i R.length with hlt|hge
    · rw [List.drop_eq_getElem_cons hlt,rd_at hlt,List.foldl_cons,List.foldl_cons]
      have hj : ∀ a',Ev (fun k => spec_LsSafe.j1 k a' b (i : Int) h m n R o e H) (decide (wrap64 (wrap64 (m - 1) * (R.drop (i + 1)).foldl mn a') ≥ wrap64 (h * (R.drop (i + 1)).foldl mx (mx b R[i])))):=by
        intro a'
        refine Ev.succ ?_
        simp only [spec_LsSafe.j1]
        refine Ev.pos (by omega) (Ev.pos (by omega) ?_)
        rw [rd_at hlt,wrap_up hlt (by omega)]
        by_cases hb : R[i] > b
        · rw [show mx b R[i] = R[i] by unfold mx;rw [if_pos hb]]
          exact Ev.pos hb (next hlt (a',R[i]) trivial)
        · rw [show mx b R[i] = b by unfold mx;rw [if_neg hb]]
          exact Ev.neg hb (next hlt (a',b) trivial)
      refine Ev.pos (by omega) (Ev.pos (by omega) ?_)
      by_cases ha : R[i] < a
      · rw [show mn a R[i] = R[i] by unfold mn;rw [if_pos ha]]
        exact Ev.pos ha (hj _)
      · rw [show mn a R[i] = a by unfold mn;rw [if_neg ha]]
        exact Ev.neg ha (hj _)
    · rw [List.drop_of_length_le hge]
      exact Ev.neg (by omega) (Ev.some rfl)) 0 (rd R 0,rd R 0) (Nat.zero_le _) trivial
  simpa using key
theorem FnExactLsSafe : laws_FnExactLsSafe.Pure:=by
  intro h m n R o e H ⟨_,_,_,⟨hR,_⟩,_,_,⟨hH,_⟩⟩
  refine Ev.rounds ?_
  unfold laws_FnExactLsSafe.f
  rcases szLs_cases h m n R o e H hR hH with ⟨v,hv,h0⟩|⟨v,hv,h0,h1,h2⟩
  · rw [hv]
    simp only [Option.bind_some]
    exact Ev.pos h0 (Ev.some rfl)
  · rw [hv]
    simp only [Option.bind_some]
    have ht:=toLs_ev h m n R o e H h1 h2
    refine Ev.neg (by omega) (Ev.bind ht (Ev.bind (spec_LsSafe_ev _ _ _ _ _ _ _) (Ev.bind ht (Ev.bind (impl_LsSafe_ev _ _ _ _ _ _ _) (Ev.neg (by simp) ?_)))))
    exact Ev.bind ht (Ev.bind (eqLs_self _ _ _ _ _ _ _ h1 (by simpa using h2)) (Ev.pos rfl (Ev.some rfl)))
end Go.Proofs.Ytnldanonpdijgaa.Pure
