-- Ours: printed or written for this claim; cut to what the theorem needs.
import Derived.Test.YtnldanonpdijgaaZPx13
import Derived.Test.YtnldanonpdijgaaZPx14
import Derived.Test.YtnldanonpdijgaaZPx15
import Derived.Test.YtnldanonpdijgaaZPx16
import Derived.Test.YtnldanonpdijgaaZLst
namespace Go.Proofs.Ytnldanonpdijgaa.Pure
open Go.RowKit Go.Proofs.Ytnldanonpdijgaa.P Go.Proofs.YtnldanonpdijgaaW.PrintWords Go.Proofs.YtnldanonpdijgaaW.PrintLast Go.Proofs.Ytnldanonpdijgaa.U Go.Proofs.Ytnldanonpdijgaa.L
def has (h n : Int) (y : Int × IH) : Bool:=y.2.f0 && decide (wrap64 (clk n y.1 - y.2.f1) < h)
def holdF (h n : Int) : Nat → List (Int × IH) → List Int
  | _,[] => []
  | i,y :: t => if has h n y = true then (i : Int) :: holdF h n (i + 1) t else holdF h n (i + 1) t
theorem holdF_len (h n : Int) : ∀ (l : List (Int × IH)) (i : Nat),(holdF h n i l).length ≤ l.length:=by
  intro l
  induction l with
  | nil => intro i;simp [holdF]
  | cons y t ih =>
    intro i
    unfold holdF
    have:=ih (i + 1)
    split <;> simp <;> omega
def holdV (h m n : Int) (R : List Int) (o e : Int) (H : List IH) : List Int:=if lsB h m n R o e H = true then holdF h n 0 (R.zip H) else []
theorem holdV_len (h m n : Int) (R : List Int) (o e : Int) (H : List IH) : (holdV h m n R o e H).length ≤ 8:=by
  unfold holdV
  by_cases hw : lsB h m n R o e H = true
  · have hf:=ls_facts hw
    rw [if_pos hw]
    have:=holdF_len h n (R.zip H) 0
    simp at this
    omega
  · rw [if_neg hw];simp
theorem holds_eq (h m n : Int) (R : List Int) (o e : Int) (H : List IH) {i : Nat} (hi : i < R.length) (hi2 : i < H.length) : impl_Ls_holds.f h m n R o e H (i : Int) = some (has h n (R[i],H[i])):=by
  unfold impl_Ls_holds.f has
  rw [if_pos (by omega),if_pos (by omega),clock_eq h m n R o e H hi,rdI_at hi2]
  simp only [Option.bind_some]
  cases H[i].f0 <;> simp
theorem l18Has_eq (h m n : Int) (R : List Int) (o e : Int) (H : List IH) {i : Nat} (hi : i < R.length) (hi2 : i < H.length) : spec_l18Has.f h m n R o e H (i : Int) = some (has h n (R[i],H[i])):=by
  unfold spec_l18Has.f has
  rw [if_pos (by omega),if_pos (by omega),at_eq h m n R o e H hi,rdI_at hi2]
  simp only [Option.bind_some]
  cases H[i].f0 <;> simp
theorem impl_LsHolders_ev (h m n : Int) (R : List Int) (o e : Int) (H : List IH) : Ev (fun k => impl_LsHolders.f k h m n R o e H) (holdV h m n R o e H):=by
  unfold impl_LsHolders.f holdV
  refine Ev.bind (isLs_ev _ _ _ _ _ _ _) ?_
  cases hw : lsB h m n R o e H with
  | false => exact Ev.neg (by decide) (Ev.some rfl)
  | true =>
  have hf:=ls_facts hw
  refine Ev.pos rfl ?_
  rw [if_pos rfl,hf.2.2.2.2.2]
  have key:=ev_forS (fun k s i => impl_LsHolders.l0 k s (R.length : Int) i h m n R o e H) R.length (fun i s => s.length ≤ i) (fun i s => s ++ holdF h n i ((R.zip H).drop i)) (by
    intro i s hi hs next
    simp only [impl_LsHolders.l0]
    rcases Nat.lt_or_ge i R.length with hlt|hge
    · rw [holds_eq h m n R o e H hlt (by omega),wrap_up hlt (by omega),List.drop_eq_getElem_cons (show i < (R.zip H).length by simp;omega),List.getElem_zip]
      simp only [Option.bind_some,holdF]
      refine Ev.pos (by omega) ?_
      cases hh : has h n (R[i],H[i]'(by omega)) with
      | false =>
        refine Ev.neg (by decide) ?_
        simpa using next hlt s (by omega)
      | true =>
        refine Ev.pos rfl (Ev.pos (by omega) ?_)
        simpa using next hlt (s ++ [(i : Int)]) (by simp;omega)
    · rw [List.drop_of_length_le (by simp;omega)]
      exact Ev.neg (by omega) (Ev.some (by simp [holdF]))) 0 [] (Nat.zero_le _) (by simp)
  simpa using key
theorem spec_LsHolders_ev (h m n : Int) (R : List Int) (o e : Int) (H : List IH) : Ev (fun k => spec_LsHolders.f k h m n R o e H) (holdV h m n R o e H):=by
  unfold spec_LsHolders.f holdV
  have hend : ∀ s (i : Int),Ev (fun k => spec_LsHolders.j1 k s i false h m n R o e H) s:=by
    intro s i
    refine Ev.succ ?_
    simp only [spec_LsHolders.j1]
    exact Ev.neg (by decide) (Ev.some rfl)
  cases hw : lsB h m n R o e H with
  | false =>
    refine Ev.succ ?_
    simp only [spec_LsHolders.l0]
    by_cases h0 : (0 : Int) < (R.length : Int)
    · refine Ev.pos h0 (Ev.bind (LsOk_ev _ _ _ _ _ _ _) ?_)
      rw [hw]
      simpa using hend [] 0
    · exact Ev.neg h0 (by simpa using hend [] 0)
  | true =>
  have hf:=ls_facts hw
  rw [if_pos rfl]
  have key:=ev_forS (fun k s i => spec_LsHolders.l0 k s i h m n R o e H) R.length (fun i s => s.length ≤ i) (fun i s => s ++ holdF h n i ((R.zip H).drop i)) (by
    intro i s hi hs next
    simp only [spec_LsHolders.l0]
    rcases Nat.lt_or_ge i R.length with hlt|hge
    · refine Ev.pos (by omega) (Ev.bind (LsOk_ev _ _ _ _ _ _ _) ?_)
      rw [hw]
      refine Ev.succ ?_
      simp only [spec_LsHolders.j1]
      refine Ev.pos trivial ?_
      rw [l18Has_eq h m n R o e H hlt (by omega),wrap_up hlt (by omega),List.drop_eq_getElem_cons (show i < (R.zip H).length by simp;omega),List.getElem_zip]
      simp only [Option.bind_some,holdF]
      cases hh : has h n (R[i],H[i]'(by omega)) with
      | false =>
        refine Ev.neg (by decide) ?_
        simpa using next hlt s (by omega)
      | true =>
        refine Ev.pos rfl (Ev.pos (by omega) ?_)
        simpa using next hlt (s ++ [(i : Int)]) (by simp;omega)
    · rw [List.drop_of_length_le (by simp;omega)]
      exact Ev.neg (by omega) (by simpa [holdF] using hend s i)) 0 [] (Nat.zero_le _) (by simp)
  simpa using key
theorem FnExactLsHolders : laws_FnExactLsHolders.Pure:=by
  intro h m n R o e H ⟨_,_,_,⟨hR,_⟩,_,_,⟨hH,_⟩⟩
  refine Ev.rounds ?_
  unfold laws_FnExactLsHolders.f
  rcases szLs_cases h m n R o e H hR hH with ⟨v,hv,h0⟩|⟨v,hv,h0,h1,h2⟩
  · rw [hv]
    simp only [Option.bind_some]
    exact Ev.pos h0 (Ev.some rfl)
  · rw [hv]
    simp only [Option.bind_some]
    have ht:=toLs_ev h m n R o e H h1 h2
    have h2' : (H.map toH).length ≤ 1048576:=by simpa using h2
    generalize H.map toH = H' at ht h2'
    have hs:=spec_LsHolders_ev h m n R o e H'
    have hi:=impl_LsHolders_ev h m n R o e H'
    have hr:=holdV_len h m n R o e H'
    generalize holdV h m n R o e H' = r at hs hi hr
    have he : Ev (fun k => laws_eqIntS.f k r r) true:=by simpa using eqIntS_ev r r (by omega)
    have hm:=markIntS_ev r 1 (by omega) (by omega) (by omega)
    have hh:=heldIntS_ev r.length 1 (by omega) (by omega) (by omega)
    refine Ev.neg (by omega) (Ev.bind ht (Ev.bind hs (Ev.bind ht (Ev.bind hi (Ev.bind he (Ev.pos rfl ?_))))))
    refine Ev.bind ht (Ev.bind (eqLs_self _ _ _ _ _ _ _ h1 h2') (Ev.pos rfl (Ev.bind (markLs_ev _ _ _ _ _ _ _ h1 h2') (Ev.neg (by simp only [];omega) ?_))))
    refine Ev.bind he (Ev.pos rfl (Ev.bind hm (Ev.bind hh (Ev.neg (by omega) (Ev.pos rfl ?_)))))
    exact Ev.bind ht (Ev.bind hi (Ev.bind he (Ev.pos rfl (Ev.bind hh (Ev.neg (by omega) (Ev.pos rfl (Ev.some rfl)))))))
end Go.Proofs.Ytnldanonpdijgaa.Pure
