-- Ours: printed or written for this claim; cut to what the theorem needs.
import Derived.Test.YtipolbckgifnbaaZPx4
import Derived.Test.YtipolbckgifnbaaZFix
set_option linter.unusedVariables false
namespace Go.Proofs.Ytipolbckgifnbaa.Pure
open Go.RowKit Go.Proofs.Ytipolbckgifnbaa.P Go.Proofs.YtipolbckgifnbaaW.PrintWords Go.Proofs.YtipolbckgifnbaaW.PrintLast Go.Proofs.Ytipolbckgifnbaa.U Go.Proofs.Ytipolbckgifnbaa.L
def showV (e : Int) (s : ByteArray) : ByteArray:=if (0 ≤ e ∧ e ≤ 1000000) ∧ s.size ≤ 100 then packV (varV e ++ s) else (⟨#[]⟩ : ByteArray)
theorem varGo_len : ∀ (n : Nat) (x : Int),(varGo n x).length ≤ n + 1
  | 0,x => by simp [varGo]
  | n + 1,x => by
    unfold varGo
    split
    · have:=varGo_len n (x / 128);simp;omega
    · simp
theorem varV_size (x : Int) : (varV x).size ≤ 8:=by
  unfold varV
  split
  · have:=varGo_len 7 x
    simpa [strOfNums,ByteArray.size] using this
  · exact Nat.zero_le _
theorem impl_ev (e : Int) (s : ByteArray) : Ev (fun k => impl_ShowCopy.f k e s) (showV e s):=by
  have hT : Ev (fun k => impl_ShowCopy.j0 k true e s) (⟨#[]⟩ : ByteArray):=Ev.succ (by simp only [impl_ShowCopy.j0];exact Ev.pos (by simp) (Ev.some rfl))
  unfold impl_ShowCopy.f showV
  rw [inN_eq]
  simp only [Option.bind_some]
  by_cases he : 0 ≤ e ∧ e ≤ 1000000
  · refine Ev.pos (by simp;omega) ?_
    by_cases hs : s.size ≤ 100
    · rw [if_pos ⟨he,hs⟩,show decide ((s.size : Int) > 100) = false by simp;omega]
      refine Ev.succ ?_
      simp only [impl_ShowCopy.j0]
      have hz:=varV_size e
      refine Ev.neg (by decide) (Ev.bind (impl_Var_ev e) (Ev.pos (by omega) (Ev.bind (packed_ev _ (by rw [ByteArray.size_append];omega)) (Ev.some rfl))))
    · rw [if_neg (by omega),show decide ((s.size : Int) > 100) = true by simp;omega]
      exact hT
  · rw [if_neg (by omega)]
    exact Ev.neg (by simp;omega) hT
theorem spec_ev (e : Int) (s : ByteArray) : Ev (fun k => spec_ShowCopy.f k e s) (showV e s):=by
  have hT : Ev (fun k => spec_ShowCopy.j0 k true e s) (⟨#[]⟩ : ByteArray):=Ev.succ (by simp only [spec_ShowCopy.j0];exact Ev.pos (by simp) (Ev.some rfl))
  unfold spec_ShowCopy.f showV
  rw [l1InN_eq]
  simp only [Option.bind_some]
  by_cases he : 0 ≤ e ∧ e ≤ 1000000
  · refine Ev.pos (by simp;omega) ?_
    by_cases hs : s.size ≤ 100
    · rw [if_pos ⟨he,hs⟩,show decide ((s.size : Int) > 100) = false by simp;omega]
      refine Ev.succ ?_
      simp only [spec_ShowCopy.j0]
      have hz:=varV_size e
      refine Ev.neg (by decide) (Ev.bind (spec_Var_ev e) (Ev.pos (by omega) (Ev.bind (l4Sum_ev _ (by rw [ByteArray.size_append];omega)) (Ev.some rfl))))
    · rw [if_neg (by omega),show decide ((s.size : Int) > 100) = true by simp;omega]
      exact hT
  · rw [if_neg (by omega)]
    exact Ev.neg (by simp;omega) hT
end Go.Proofs.Ytipolbckgifnbaa.Pure
