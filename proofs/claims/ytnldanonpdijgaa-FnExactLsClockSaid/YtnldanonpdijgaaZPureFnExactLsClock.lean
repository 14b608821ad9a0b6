-- Ours: printed or written for this claim; cut to what the theorem needs.
import Derived.Test.YtnldanonpdijgaaZPx10
import Derived.Test.YtnldanonpdijgaaZPx9
import Derived.Test.YtnldanonpdijgaaZLsOk
namespace Go.Proofs.Ytnldanonpdijgaa.Pure
open Go.RowKit Go.Proofs.Ytnldanonpdijgaa.P Go.Proofs.YtnldanonpdijgaaW.PrintWords Go.Proofs.YtnldanonpdijgaaW.PrintLast Go.Proofs.Ytnldanonpdijgaa.U Go.Proofs.Ytnldanonpdijgaa.L
theorem ls_facts {h m n : Int} {R : List Int} {o e : Int} {H : List IH} (hw : lsB h m n R o e H = true) : (1 ≤ h ∧ h ≤ 1000) ∧ (1 ≤ m ∧ m ≤ 1000) ∧ (0 ≤ n ∧ n ≤ 100000) ∧ 1 ≤ R.length ∧ R.length ≤ 4 ∧ H.length = R.length:=by
  unfold lsB at hw
  simp only [Bool.and_eq_true,inn_iff,decide_eq_true_eq] at hw
  omega
def clockV (h m n : Int) (R : List Int) (o e : Int) (H : List IH) (i : Int) : Int:=if lsB h m n R o e H = true then (if inn 0 ((R.length : Int) - 1) i = true then clk n (rd R i) else 0) else 0
theorem impl_LsClock_ev (h m n : Int) (R : List Int) (o e : Int) (H : List IH) (i : Int) : Ev (fun k => impl_LsClock.f k h m n R o e H i) (clockV h m n R o e H i):=by
  have hT : Ev (fun k => impl_LsClock.j0 k i true h m n R o e H) 0:=Ev.succ (by simp only [impl_LsClock.j0];exact Ev.pos trivial (Ev.some rfl))
  unfold impl_LsClock.f clockV
  refine Ev.bind (isLs_ev _ _ _ _ _ _ _) ?_
  cases hw : lsB h m n R o e H with
  | false => exact Ev.neg (by decide) hT
  | true =>
  have hf:=ls_facts hw
  refine Ev.pos rfl ?_
  rw [wrap_id (i:=(H.length : Int) - 1) (by omega) (by omega),in_eq,hf.2.2.2.2.2]
  simp only [Option.bind_some]
  cases hi : inn 0 ((R.length : Int) - 1) i with
  | false => exact hT
  | true =>
  have hb:=inn_iff.mp hi
  refine Ev.succ ?_
  simp only [impl_LsClock.j0]
  refine Ev.neg (by decide) (Ev.bind (Ev.eq ?_) (Ev.some rfl))
  unfold impl_Ls_clock.f
  rw [if_pos (by omega),if_pos (by omega)]
  rfl
theorem spec_LsClock_ev (h m n : Int) (R : List Int) (o e : Int) (H : List IH) (i : Int) : Ev (fun k => spec_LsClock.f k h m n R o e H i) (clockV h m n R o e H i):=by
  have hT : Ev (fun k => spec_LsClock.j0 k i true h m n R o e H) 0:=Ev.succ (by simp only [spec_LsClock.j0];exact Ev.pos trivial (Ev.some rfl))
  unfold spec_LsClock.f clockV
  refine Ev.bind (LsOk_ev _ _ _ _ _ _ _) ?_
  cases hw : lsB h m n R o e H with
  | false => exact Ev.neg (by decide) hT
  | true =>
  have hf:=ls_facts hw
  refine Ev.pos rfl ?_
  have he : spec_l18Host.f h m n R o e H i = some (inn 0 ((R.length : Int) - 1) i):=by
    unfold spec_l18Host.f inn
    by_cases h0 : 0 ≤ i
    · rw [if_pos h0]
      simp [h0]
      omega
    · rw [if_neg h0];simp [h0]
  rw [he]
  simp only [Option.bind_some]
  cases hi : inn 0 ((R.length : Int) - 1) i with
  | false => exact hT
  | true =>
  have hb:=inn_iff.mp hi
  refine Ev.succ ?_
  simp only [spec_LsClock.j0]
  refine Ev.neg (by decide) (Ev.bind (Ev.eq ?_) (Ev.some rfl))
  unfold spec_l18At.f
  rw [if_pos (by omega),if_pos (by omega)]
  rfl
theorem FnExactLsClock : laws_FnExactLsClock.Pure:=by
  intro h m n R o e H i ⟨_,_,_,⟨hR,_⟩,_,_,⟨hH,_⟩⟩ _
  refine Ev.rounds ?_
  unfold laws_FnExactLsClock.f
  rcases szLs_cases h m n R o e H hR hH with ⟨v,hv,h0⟩|⟨v,hv,h0,h1,h2⟩
  · rw [hv]
    simp only [Option.bind_some]
    exact Ev.pos h0 (Ev.some rfl)
  · rw [hv]
    simp only [Option.bind_some]
    have ht:=toLs_ev h m n R o e H h1 h2
    refine Ev.neg (by omega) (Ev.bind ht (Ev.bind (spec_LsClock_ev _ _ _ _ _ _ _ _) (Ev.bind ht (Ev.bind (impl_LsClock_ev _ _ _ _ _ _ _ _) (Ev.pos rfl ?_)))))
    exact Ev.bind ht (Ev.bind (eqLs_self _ _ _ _ _ _ _ h1 (by simpa using h2)) (Ev.pos rfl (Ev.some rfl)))
end Go.Proofs.Ytnldanonpdijgaa.Pure
