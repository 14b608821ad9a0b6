-- Ours: printed or written for this claim; cut to what the theorem needs.
import Derived.Test.YtlndidfeapkgcaaZPx3
import Derived.Test.YtlndidfeapkgcaaZMix
import Derived.Test.YtlndidfeapkgcaaZStr
namespace Go.Proofs.Ytlndidfeapkgcaa.Pure
open Go.RowKit Go.Proofs.Ytlndidfeapkgcaa.P Go.Proofs.YtlndidfeapkgcaaW.PrintWords Go.Proofs.YtlndidfeapkgcaaW.PrintLast Go.Proofs.Ytlndidfeapkgcaa.U Go.Proofs.Ytlndidfeapkgcaa.L
theorem FnExactMixed : laws_FnExactMixed.Pure := by
  intro a b v ⟨ha, _, has⟩ ⟨hb, _, hbs⟩ _
  refine Ev.rounds ?_
  unfold laws_FnExactMixed.f
  rcases szStringS_ev a 1048576 (by omega) (by omega) ha has with ⟨s1, e1, n1⟩ | ⟨s1, e1, p1, q1, l1⟩
  · exact Ev.bind e1 (Ev.pos n1 (Ev.some rfl))
  · refine Ev.bind e1 (Ev.neg (by omega) ?_)
    rcases szStringS_ev b s1 p1 q1 hb hbs with ⟨s2, e2, n2⟩ | ⟨s2, e2, p2, q2, l2⟩
    · exact Ev.bind e2 (Ev.pos n2 (Ev.some rfl))
    · refine Ev.bind e2 (Ev.neg (by omega) ?_)
      have hs := spec_Mixed_ev a b v l1 l2
      have hi := impl_Mixed_ev a b v l1 l2
      have hr := mixV_length a b v
      generalize mixV a b v = r at hs hi hr
      have ta := toStringS_ev a l1
      have tb := toStringS_ev b l2
      have he := eqStringS_self r (by omega)
      have hm := markStringS_ev r 1 (by omega) (by omega) (by omega)
      have hh := heldStringS_ev r 1 (by omega) (by omega) (by omega)
      refine Ev.bind ta (Ev.bind tb (Ev.bind hs (Ev.bind ta (Ev.bind tb (Ev.bind hi (Ev.bind he (Ev.pos rfl ?_)))))))
      refine Ev.bind ta (Ev.bind (eqStringS_self a l1) (Ev.pos rfl (Ev.bind tb (Ev.bind (eqStringS_self b l2) (Ev.pos rfl ?_)))))
      refine Ev.bind (markStringS_ev a 1 l1 (by omega) (by omega)) (Ev.bind (markStringS_ev b _ l2 (by simp only []; omega) (by simp only []; omega)) (Ev.neg (by simp only []; omega) ?_))
      refine Ev.bind he (Ev.pos rfl (Ev.bind hm (Ev.bind hh (Ev.neg (by omega) (Ev.pos rfl ?_)))))
      exact Ev.bind ta (Ev.bind tb (Ev.bind hi (Ev.bind he (Ev.pos rfl (Ev.bind hh (Ev.neg (by omega) (Ev.pos rfl (Ev.some rfl))))))))
end Go.Proofs.Ytlndidfeapkgcaa.Pure
