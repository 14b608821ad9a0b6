-- Ours: printed or written for this claim; cut to what the theorem needs.
import Derived.Test.YtnldanonpdijgaaZPx7
import Derived.Test.YtnldanonpdijgaaZPx9
import Derived.Test.YtnldanonpdijgaaZLsOk
namespace Go.Proofs.Ytnldanonpdijgaa.Pure
open Go.RowKit Go.Proofs.Ytnldanonpdijgaa.P Go.Proofs.YtnldanonpdijgaaW.PrintWords Go.Proofs.YtnldanonpdijgaaW.PrintLast Go.Proofs.Ytnldanonpdijgaa.U Go.Proofs.Ytnldanonpdijgaa.L
theorem FnExactLsOk : laws_FnExactLsOk.Pure:=by
  intro h m n R o e H ⟨_,_,_,⟨hR,_⟩,_,_,⟨hH,_⟩⟩
  refine Ev.rounds ?_
  unfold laws_FnExactLsOk.f
  rcases szLs_cases h m n R o e H hR hH with ⟨v,hv,h0⟩|⟨v,hv,h0,h1,h2⟩
  · rw [hv]
    simp only [Option.bind_some]
    exact Ev.pos h0 (Ev.some rfl)
  · rw [hv]
    simp only [Option.bind_some]
    have ht:=toLs_ev h m n R o e H h1 h2
    have hi : Ev (fun k => impl_LsOk.f k h m n R o e (H.map toH)) (lsB h m n R o e (H.map toH)):=by
      unfold impl_LsOk.f
      exact Ev.bind (isLs_ev _ _ _ _ _ _ _) (Ev.some rfl)
    refine Ev.neg (by omega) (Ev.bind ht (Ev.bind (LsOk_ev _ _ _ _ _ _ _) (Ev.bind ht (Ev.bind hi (Ev.neg (by simp) ?_)))))
    exact Ev.bind ht (Ev.bind (eqLs_self _ _ _ _ _ _ _ h1 (by simpa using h2)) (Ev.pos rfl (Ev.some rfl)))
end Go.Proofs.Ytnldanonpdijgaa.Pure
