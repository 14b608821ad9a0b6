-- Ours: printed or written for this claim; cut to what the theorem needs.
import Derived.Test.YtiejilaahkkhmaaZPx31
import Derived.Test.YtiejilaahkkhmaaZSwa
namespace Go.Proofs.Ytiejilaahkkhmaa.Pure
open Go.RowKit Go.Proofs.Ytiejilaahkkhmaa.P Go.Proofs.YtiejilaahkkhmaaW.PrintWords Go.Proofs.YtiejilaahkkhmaaW.PrintLast Go.Proofs.Ytiejilaahkkhmaa.U Go.Proofs.Ytiejilaahkkhmaa.L
theorem FnExactSwap : laws_FnExactSwap.Pure:=by
  intro A E D a1 a2 a3 a4 a5 ⟨⟨hA,_,hAs⟩,⟨hE,_⟩,⟨hD,_,hDs⟩⟩ _ _ _ _ _
  refine Ev.rounds ?_
  unfold laws_FnExactSwap.f
  by_cases hb : (a4.size : Int) > 1048576
  · exact Ev.pos hb (Ev.some rfl)
  refine Ev.neg hb ?_
  by_cases hb5 : (a5.size : Int) > 1048576
  · exact Ev.pos hb5 (Ev.some rfl)
  refine Ev.neg hb5 ?_
  rcases szDisk_ev A E D hA hAs hE hD (fun x hx => (hDs x hx).2.2.2) with ⟨v,hv,h0⟩|⟨v,hv,h0,h1,h2,h3⟩
  · exact Ev.bind hv (Ev.pos h0 (Ev.some rfl))
  · refine Ev.bind hv (Ev.neg (by omega) ?_)
    have ht:=toDisk_ev A E D h1 h2 h3
    have h3' : (D.map toW).length ≤ 1048576:=by simpa using h3
    generalize D.map toW = W at ht h3'
    have hs:=spec_Swap_ev A E W a1 a2 a3 a4 a5 h1 h3'
    have hi:=impl_Swap_ev A E W a1 a2 a3 a4 a5 h1 h3'
    have hr:=swaV_len A E W a1 a2 a3 a4 a5
    generalize swaV A E W a1 a2 a3 a4 a5 = r at hs hi hr
    obtain ⟨rA,rE,rD,rc⟩:=r
    simp only at hr
    have he:=eqDisk_self rA rE rD (by omega) (by omega) (by omega)
    have hm:=markDisk_ev rA rE rD (by omega) (by omega) (by omega)
    have hh:=heldDisk_ev rA rE rD (by omega) (by omega) (by omega)
    refine Ev.bind ht (Ev.bind hs (Ev.bind ht (Ev.bind hi (Ev.bind he (Ev.pos rfl (Ev.pos rfl ?_))))))
    refine Ev.bind ht (Ev.bind (eqDisk_self A E W h1 h2 h3') (Ev.pos rfl (Ev.bind (markDisk_ev A E W h1 h2 h3') (Ev.neg (by simp only [];omega) ?_))))
    refine Ev.bind he (Ev.pos rfl (Ev.bind hm (Ev.bind hh (Ev.neg (by omega) (Ev.pos rfl ?_)))))
    exact Ev.bind ht (Ev.bind hi (Ev.bind he (Ev.pos rfl (Ev.pos rfl (Ev.bind hh (Ev.neg (by omega) (Ev.pos rfl (Ev.some rfl))))))))
end Go.Proofs.Ytiejilaahkkhmaa.Pure
