-- Ours: printed or written for this claim; cut to what the theorem needs.
import Derived.Test.YtcehieaikbchjaaZPx8
import Derived.Test.YtcehieaikbchjaaZMov
import Derived.Test.YtcehieaikbchjaaZLint
import Derived.Test.YtcehieaikbchjaaZMark
namespace Go.Proofs.Ytcehieaikbchjaa.Pure
open Go.RowKit Go.Proofs.Ytcehieaikbchjaa.P Go.Proofs.YtcehieaikbchjaaW.PrintWords Go.Proofs.YtcehieaikbchjaaW.PrintLast Go.Proofs.Ytcehieaikbchjaa.U Go.Proofs.Ytcehieaikbchjaa.L
theorem FnExactMoveAll : laws_FnExactMoveAll.Pure := by
  intro c l _ ⟨hlen, _, _⟩
  refine Ev.rounds ?_
  unfold laws_FnExactMoveAll.f
  by_cases hc : c.length ≤ 1048576
  · refine Ev.neg (by omega) ?_
    rcases szMoveS_cases l hlen with ⟨v, hv, h0⟩ | ⟨v, hv, h0, h1⟩
    · rw [hv]
      simp only [Option.bind_some]
      exact Ev.pos h0 (Ev.some rfl)
    · rw [hv]
      simp only [Option.bind_some]
      have hti := toIntS_ev c hc
      have ht := toMoveS_ev l h1
      have hs := spec_MoveAll_ev c (l.map toM) hc (by simpa using h1)
      have hi := impl_MoveAll_ev c (l.map toM) hc (by simpa using h1)
      have hr := moveV_length c (l.map toM)
      have he0 : Ev (fun k => laws_eqMoveS.f k (l.map toM) (l.map toM)) true := by simpa using eqMoveS_ev (l.map toM) (l.map toM) (by simpa using h1)
      have hei : ∀ c : List Int, c.length ≤ 1048576 → Ev (fun k => laws_eqIntS.f k c c) true := fun c hc => by simpa using eqIntS_ev c c hc
      have hmi := markIntS_ev c 1 hc (by omega) (by omega)
      have hm0 := markMoveS_ev (l.map toM) (1 + (c.length : Int)) (by simpa using h1) (by omega) (by omega)
      have hxl : (l.map toM).length = l.length := by simp
      generalize l.map toM = x at ht hs hi hr he0 hm0 hxl
      generalize moveV c x = r at hs hi hr
      obtain ⟨r, b⟩ := r
      simp only at hr
      replace hr : r.length ≤ 1048576 := by omega
      have he := hei r hr
      have hm := markIntS_ev r 1 hr (by omega) (by omega)
      have hh := heldIntS_ev r.length 1 hr (by omega) (by omega)
      refine Ev.neg (by omega) (Ev.bind hti (Ev.bind ht (Ev.bind hs (Ev.bind hti (Ev.bind ht (Ev.bind hi (Ev.bind he (Ev.pos rfl (Ev.neg (by simp) ?_)))))))))
      refine Ev.bind hti (Ev.bind (hei c hc) (Ev.pos rfl (Ev.bind ht (Ev.bind he0 (Ev.pos rfl (Ev.bind hmi (Ev.bind hm0 (Ev.neg (by simp only []; omega) ?_))))))))
      refine Ev.bind he (Ev.pos rfl (Ev.bind hm (Ev.bind hh (Ev.neg (by omega) (Ev.pos rfl ?_)))))
      exact Ev.bind hti (Ev.bind ht (Ev.bind hi (Ev.bind he (Ev.pos rfl (Ev.neg (by simp) (Ev.bind hh (Ev.neg (by omega) (Ev.pos rfl (Ev.some rfl)))))))))
  · exact Ev.pos (by omega) (Ev.some rfl)
end Go.Proofs.Ytcehieaikbchjaa.Pure
