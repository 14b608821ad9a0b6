-- Ours: printed or written for this claim; cut to what the theorem needs.
import Derived.Test.YtlndidfeapkgcaaZPx7
import Derived.Test.YtlndidfeapkgcaaZSpr
import Derived.Test.YtlndidfeapkgcaaZStr
namespace Go.Proofs.Ytlndidfeapkgcaa.Pure
open Go.RowKit Go.Proofs.Ytlndidfeapkgcaa.P Go.Proofs.YtlndidfeapkgcaaW.PrintWords Go.Proofs.YtlndidfeapkgcaaW.PrintLast Go.Proofs.Ytlndidfeapkgcaa.U Go.Proofs.Ytlndidfeapkgcaa.L
theorem FnExactSpread : laws_FnExactSpread.Pure:=by
  intro q s _ _
  refine Ev.rounds ?_
  unfold laws_FnExactSpread.f
  by_cases h : (s.size : Int) > 1048576
  · exact Ev.pos h (Ev.some rfl)
  · have hs:=spec_Spread_ev q s (by omega)
    have hi:=impl_Spread_ev q s (by omega)
    have hl : (spreadV q s).1.length ≤ 5:=by
      unfold spreadV
      split
      · rename_i hc
        have:=nP_le hc.2
        simp [sharesV]
        omega
      · simp
    generalize spreadV q s = r at hs hi hl
    obtain ⟨r1,r2⟩:=r
    simp only at hl
    have he:=eqStringS_self r1 (by omega)
    have hm:=markStringS_ev r1 1 (by omega) (by omega) (by omega)
    have hh:=heldStringS_ev r1 1 (by omega) (by omega) (by omega)
    refine Ev.neg h (Ev.bind hs (Ev.bind hi (Ev.bind he (Ev.pos rfl (Ev.neg (by simp) (Ev.bind hm (Ev.bind hh (Ev.neg (by omega) (Ev.pos rfl ?_)))))))))
    exact Ev.bind hi (Ev.bind he (Ev.pos rfl (Ev.neg (by simp) (Ev.bind hh (Ev.neg (by omega) (Ev.pos rfl (Ev.some rfl)))))))
end Go.Proofs.Ytlndidfeapkgcaa.Pure
