-- Ours: printed or written for this claim; cut to what the theorem needs.
import Derived.Test.YtnldanonpdijgaaZPx15
import Derived.Test.YtnldanonpdijgaaZPx0
import Derived.Test.YtnldanonpdijgaaZPx16
import Derived.Test.YtnldanonpdijgaaZPx3
import Derived.Test.YtnldanonpdijgaaZPx6
import Derived.Test.YtnldanonpdijgaaZPx1
import Derived.Test.YtnldanonpdijgaaZPx2
import Derived.Test.YtnldanonpdijgaaZLsOk
import Derived.Test.YtnldanonpdijgaaZMark
import Derived.Test.YtnldanonpdijgaaZMks
import Derived.Test.YtnldanonpdijgaaZPureFnExactLsClock
set_option linter.unusedVariables false
namespace Go.Proofs.Ytnldanonpdijgaa.L
open Go.RowKit Go.Proofs.Ytnldanonpdijgaa.P Go.Proofs.YtnldanonpdijgaaW.PrintWords Go.Proofs.YtnldanonpdijgaaW.PrintLast Go.Proofs.YtnldanonpdijgaaW.PrintMore Go.Proofs.Ytnldanonpdijgaa.U
theorem rdI_set {xs : List IH} {i : Nat} (h : i < xs.length) (v : IH) : rd_T50 (xs.set i v) (i : Int) = v:=by
  rw [rdI_at (by simpa using h)];simp
def mkH (a : Int) (_ : IH) : IH:=⟨Int.tmod a 3 == 0,a + 1,Int.tmod (a + 2) 3 == 0,a + 3,a + 4,a + 5⟩
theorem six (b : Int) : b + 1 + 1 = b + 2 ∧ b + 2 + 1 = b + 3 ∧ b + 3 + 1 = b + 4 ∧ b + 4 + 1 = b + 5 ∧ b + 5 + 1 = b + 6:=by omega
theorem markHostS_ev (xs : List IH) (a : Int) (h : xs.length ≤ 1048576) (h0 : 0 ≤ a) (h1 : a ≤ 1000000000000) : Ev (fun k => laws_markLsHostS.f k xs a) (a + 6 * xs.length,marks mkH 6 a xs):=by
  unfold laws_markLsHostS.f
  refine mark_loop mkH 6 (by omega) xs (fun k s a i => laws_markLsHostS.l0 k s a i) 1900000000000 ?_ ?_ a h0 (by omega)
  · intro s b hs
    simp only [laws_markLsHostS.l0]
    exact Ev.neg (by omega) (Ev.some rfl)
  · intro i s b r hi hs hx hb0 hb1 next
    have hi2 : i < s.length:=by omega
    obtain ⟨e2,e3,e4,e5,e6⟩:=six b
    simp only [laws_markLsHostS.l0,Option.bind_some,Int.toNat_natCast]
    rw [wrap_id (i:=b + 1) (by omega) (by omega),e2,wrap_id (i:=b + 2) (by omega) (by omega),e3,wrap_id (i:=b + 3) (by omega) (by omega),e4,wrap_id (i:=b + 4) (by omega) (by omega),e5,wrap_id (i:=b + 5) (by omega) (by omega),e6,wrap_id (i:=b + 6) (by omega) (by omega),wrap_up hi (by omega)]
    refine Ev.pos (by omega) (Ev.pos (by omega) ?_)
    simp only [rdI_set hi2,List.set_set]
    exact next
theorem markLs_ev (h m n : Int) (R : List Int) (o e : Int) (H : List IH) (h1 : R.length ≤ 1048576) (h2 : H.length ≤ 1048576) : Ev (fun k => laws_markLs.f k h m n R o e H 1) (1 + R.length + 6 * H.length,upFrom 1 R.length,marks mkH 6 (1 + R.length) H):=by
  unfold laws_markLs.f
  exact Ev.bind (markIntS_ev R 1 h1 (by omega) (by omega)) (Ev.bind (markHostS_ev H _ h2 (by simp only [];omega) (by simp only [];omega)) (Ev.some rfl))
end Go.Proofs.Ytnldanonpdijgaa.L
