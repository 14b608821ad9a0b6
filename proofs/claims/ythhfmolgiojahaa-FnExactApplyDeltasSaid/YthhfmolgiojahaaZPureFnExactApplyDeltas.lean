-- Ours: printed or written for this claim; cut to what the theorem needs.
import Derived.Test.YthhfmolgiojahaaZPx9
import Derived.Test.YthhfmolgiojahaaZApl
import Derived.Test.YthhfmolgiojahaaZLint
import Derived.Test.YthhfmolgiojahaaZMark
namespace Go.Proofs.Ythhfmolgiojahaa.Pure
open Go.RowKit Go.Proofs.Ythhfmolgiojahaa.P Go.Proofs.YthhfmolgiojahaaW.PrintWords Go.Proofs.YthhfmolgiojahaaW.PrintLast Go.Proofs.Ythhfmolgiojahaa.U Go.Proofs.Ythhfmolgiojahaa.L
theorem FnExactApplyDeltas : laws_FnExactApplyDeltas.Pure := by
  intro c l _ ⟨hlen, _, _⟩
  refine Ev.rounds ?_
  unfold laws_FnExactApplyDeltas.f
  by_cases hc : c.length ≤ 1048576
  · refine Ev.neg (by omega) ?_
    rcases szDeltaS_cases l with ⟨v, hv, h0⟩ | ⟨v, hv, h0, h1⟩ | hb
    · rw [hv]
      simp only [Option.bind_some]
      exact Ev.pos h0 (Ev.some rfl)
    · rw [hv]
      simp only [Option.bind_some]
      have hti := toIntS_ev c hc
      have ht := toDeltaS_ev l h1
      have hs := spec_ApplyDeltas_ev c (l.map toD) hc
      have hi := impl_ApplyDeltas_ev c (l.map toD) hc
      have hr := applyV_length c (l.map toD) hc
      have he0 : Ev (fun k => laws_eqDeltaS.f k (l.map toD) (l.map toD)) true := by simpa using eqDeltaS_ev (l.map toD) (l.map toD) (by simpa using h1)
      have hei : ∀ c : List Int, c.length ≤ 1048576 → Ev (fun k => laws_eqIntS.f k c c) true := fun c hc => by simpa using eqIntS_ev c c hc
      have hmi := markIntS_ev c 1 hc (by omega) (by omega)
      have hm0 := markDeltaS_ev (l.map toD) (1 + (c.length : Int)) (by simpa using h1) (by omega) (by omega)
      have hxl : (l.map toD).length = l.length := by simp
      generalize l.map toD = x at ht hs hi hr he0 hm0 hxl
      generalize applyV c x = r at hs hi hr
      obtain ⟨r, b⟩ := r
      simp only at hr
      have he := hei r hr
      have hm := markIntS_ev r 1 hr (by omega) (by omega)
      have hh := heldIntS_ev r.length 1 hr (by omega) (by omega)
      refine Ev.neg (by omega) (Ev.bind hti (Ev.bind ht (Ev.bind hs (Ev.bind hti (Ev.bind ht (Ev.bind hi (Ev.bind he (Ev.pos rfl (Ev.neg (by simp) ?_)))))))))
      refine Ev.bind hti (Ev.bind (hei c hc) (Ev.pos rfl (Ev.bind ht (Ev.bind he0 (Ev.pos rfl (Ev.bind hmi (Ev.bind hm0 (Ev.neg (by simp only []; omega) ?_))))))))
      refine Ev.bind he (Ev.pos rfl (Ev.bind hm (Ev.bind hh (Ev.neg (by omega) (Ev.pos rfl ?_)))))
      exact Ev.bind hti (Ev.bind ht (Ev.bind hi (Ev.bind he (Ev.pos rfl (Ev.neg (by simp) (Ev.bind hh (Ev.neg (by omega) (Ev.pos rfl (Ev.some rfl)))))))))
    · omega
  · exact Ev.pos (by omega) (Ev.some rfl)
end Go.Proofs.Ythhfmolgiojahaa.Pure
