-- Ours: printed or written for this claim; cut to what the theorem needs.
import Derived.Test.YtnldanonpdijgaaZPx30
import Derived.Test.YtnldanonpdijgaaZLst
namespace Go.Proofs.Ytnldanonpdijgaa.Pure
open Go.RowKit Go.Proofs.Ytnldanonpdijgaa.P Go.Proofs.YtnldanonpdijgaaW.PrintWords Go.Proofs.YtnldanonpdijgaaW.PrintLast Go.Proofs.Ytnldanonpdijgaa.U Go.Proofs.Ytnldanonpdijgaa.L
theorem FnExactLsTick : laws_FnExactLsTick.Pure:=by
  intro h m n R o e H t ⟨_,_,_,⟨hR,_⟩,_,_,⟨hH,_⟩⟩ _
  refine Ev.rounds ?_
  unfold laws_FnExactLsTick.f
  rcases szLs_cases h m n R o e H hR hH with ⟨v,hv,h0⟩|⟨v,hv,h0,h1,h2⟩
  · rw [hv]
    simp only [Option.bind_some]
    exact Ev.pos h0 (Ev.some rfl)
  · rw [hv]
    simp only [Option.bind_some]
    have ht:=toLs_ev h m n R o e H h1 h2
    have h2' : (H.map toH).length ≤ 1048576:=by simpa using h2
    generalize H.map toH = H' at ht h2'
    have hs:=spec_LsTick_ev h m n R o e H' t
    have hi:=impl_LsTick_ev h m n R o e H' t
    have hr:=tickV_len h m n R o e H' t
    generalize tickV h m n R o e H' t = r at hs hi hr
    obtain ⟨r1,r2,r3,rR,r4,r5,rH,rb⟩:=r
    simp only at hr
    have he:=eqLs_self r1 r2 r3 rR r4 r5 rH (by omega) (by omega)
    have hm:=markLs_ev r1 r2 r3 rR r4 r5 rH (by omega) (by omega)
    have hh:=heldLs_ev r1 r2 r3 rR.length r4 r5 rH (by omega) (by omega)
    refine Ev.neg (by omega) (Ev.bind ht (Ev.bind hs (Ev.bind ht (Ev.bind hi (Ev.bind he (Ev.pos rfl (Ev.neg (by simp) ?_)))))))
    refine Ev.bind ht (Ev.bind (eqLs_self _ _ _ _ _ _ _ h1 h2') (Ev.pos rfl (Ev.bind (markLs_ev _ _ _ _ _ _ _ h1 h2') (Ev.neg (by simp only [];omega) ?_))))
    refine Ev.bind he (Ev.pos rfl (Ev.bind hm (Ev.bind hh (Ev.neg (by omega) (Ev.pos rfl ?_)))))
    exact Ev.bind ht (Ev.bind hi (Ev.bind he (Ev.pos rfl (Ev.neg (by simp) (Ev.bind hh (Ev.neg (by omega) (Ev.pos rfl (Ev.some rfl))))))))
end Go.Proofs.Ytnldanonpdijgaa.Pure
