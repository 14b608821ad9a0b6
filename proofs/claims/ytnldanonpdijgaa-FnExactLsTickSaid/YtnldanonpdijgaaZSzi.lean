-- Ours: printed or written for this claim; cut to what the theorem needs.
import Derived.Test.YtnldanonpdijgaaZPx1
import Derived.Test.YtnldanonpdijgaaZPx16
import Derived.Test.YtnldanonpdijgaaZU
set_option linter.unusedVariables false
namespace Go.Proofs.Ytnldanonpdijgaa.L
open Go.RowKit Go.Proofs.Ytnldanonpdijgaa.P Go.Proofs.YtnldanonpdijgaaW.PrintWords Go.Proofs.YtnldanonpdijgaaW.PrintLast Go.Proofs.Ytnldanonpdijgaa.U
theorem szIntS_cases (l : List Int) (a : Int) (h0 : 0 ≤ a) (h1 : a ≤ 1048576) (hl : l.length * 8 ≤ 140737488351232) : (∃ v : Int,laws_szIntS.f l a = some v ∧ v < 0) ∨ (∃ v : Int,laws_szIntS.f l a = some v ∧ 0 ≤ v ∧ v ≤ 1048576 ∧ l.length ≤ 1048576):=by
  unfold laws_szIntS.f
  rw [wrap_id (i:=a - (l.length : Int)) (by omega) (by omega)]
  by_cases h : a - (l.length : Int) < 0
  · rw [if_pos h];exact Or.inl ⟨-1,rfl,by omega⟩
  · rw [if_neg h];exact Or.inr ⟨_,rfl,by omega,by omega,by omega⟩
theorem clone_eq (l : List Int) (h : l.length ≤ 1048576) : slices_Clone_int.f l = some l:=by
  unfold slices_Clone_int.f
  simp only [Option.bind_some,List.length_nil,List.nil_append]
  rw [if_pos (by omega)]
end Go.Proofs.Ytnldanonpdijgaa.L
