-- Ours: printed or written for this claim; cut to what the theorem needs.
import Derived.Test.YtpngfnhkibkebaaZPx12
import Derived.Test.YtpngfnhkibkebaaZPx13
import Derived.Test.YtpngfnhkibkebaaZPx0
import Derived.Test.YtpngfnhkibkebaaZPx2
import Derived.Test.YtpngfnhkibkebaaZPx1
import Derived.Test.YtpngfnhkibkebaaZPx11
import Derived.Test.YtpngfnhkibkebaaZPx3
import Derived.Test.YtpngfnhkibkebaaZPx4
import Derived.Test.YtpngfnhkibkebaaZPx5
import Derived.Test.YtpngfnhkibkebaaZPx8
import Derived.Test.YtpngfnhkibkebaaZQta
import Derived.Test.YtpngfnhkibkebaaZMark
set_option linter.unusedVariables false
namespace Go.Proofs.Ytpngfnhkibkebaa.L
open Go.RowKit Go.Proofs.Ytpngfnhkibkebaa.P Go.Proofs.YtpngfnhkibkebaaW.PrintWords Go.Proofs.YtpngfnhkibkebaaW.PrintLast Go.Proofs.YtpngfnhkibkebaaW.PrintMore Go.Proofs.Ytpngfnhkibkebaa.U
theorem clone_eq (l : List Int) (h : l.length ≤ 1048576) : slices_Clone_int.f l = some l:=by
  unfold slices_Clone_int.f
  simp only [Option.bind_some,List.length_nil,List.nil_append]
  rw [if_pos (by omega)]
theorem copied_eq (t : Int) (L M U : List Int) (h1 : L.length ≤ 1048576) (h2 : M.length ≤ 1048576) (h3 : U.length ≤ 1048576) : impl_Quota_copied.f t L M U = some (t,L,M,U):=by
  unfold impl_Quota_copied.f
  rw [clone_eq L h1,clone_eq M h2,clone_eq U h3]
  rfl
theorem l24Copy_eq (t : Int) (L M U : List Int) (h1 : L.length ≤ 1048576) (h2 : M.length ≤ 1048576) (h3 : U.length ≤ 1048576) : spec_l24Copy.f t L M U = some (t,L,M,U):=by
  unfold spec_l24Copy.f
  simp only [Option.bind_some,List.length_nil,List.nil_append]
  rw [if_pos (by omega),if_pos (by omega),if_pos (by omega)]
theorem markQuota_ev (t : Int) (L M U : List Int) (h1 : L.length ≤ 1048576) (h2 : M.length ≤ 1048576) (h3 : U.length ≤ 1048576) : Ev (fun k => laws_markQuota.f k t L M U 1) (1 + L.length + M.length + U.length,upFrom 1 L.length,upFrom (1 + L.length) M.length,upFrom (1 + L.length + M.length) U.length):=by
  unfold laws_markQuota.f
  exact Ev.bind (markIntS_ev L 1 h1 (by omega) (by omega)) (Ev.bind (markIntS_ev M _ h2 (by simp only [];omega) (by simp only [];omega)) (Ev.bind (markIntS_ev U _ h3 (by simp only [];omega) (by simp only [];omega)) (Ev.some rfl)))
theorem heldQuota_ev (t : Int) (a b c : Nat) (h1 : a ≤ 1048576) (h2 : b ≤ 1048576) (h3 : c ≤ 1048576) : Ev (fun k => laws_heldQuota.f k t (upFrom 1 a) (upFrom (1 + a) b) (upFrom (1 + a + b) c) 1) (1 + a + b + c):=by
  unfold laws_heldQuota.f
  refine Ev.bind (heldIntS_ev a 1 h1 (by omega) (by omega)) (Ev.neg (by omega) ?_)
  refine Ev.bind (heldIntS_ev b _ h2 (by omega) (by omega)) (Ev.neg (by omega) ?_)
  refine Ev.bind (heldIntS_ev c _ h3 (by omega) (by omega)) (Ev.neg (by omega) (Ev.some rfl))
end Go.Proofs.Ytpngfnhkibkebaa.L
