-- Ours: printed or written for this claim; cut to what the theorem needs.
import Derived.Test.YtnldanonpdijgaaZPx15
import Derived.Test.YtnldanonpdijgaaZPx17
import Derived.Test.YtnldanonpdijgaaZPx18
import Derived.Test.YtnldanonpdijgaaZPx28
import Derived.Test.YtnldanonpdijgaaZPx29
import Derived.Test.YtnldanonpdijgaaZLsOk
import Derived.Test.YtnldanonpdijgaaZMark
import Derived.Test.YtnldanonpdijgaaZMks
import Derived.Test.YtnldanonpdijgaaZPureFnExactLsClock
set_option linter.unusedVariables false
namespace Go.Proofs.Ytnldanonpdijgaa.L
open Go.RowKit Go.Proofs.Ytnldanonpdijgaa.P Go.Proofs.YtnldanonpdijgaaW.PrintWords Go.Proofs.YtnldanonpdijgaaW.PrintLast Go.Proofs.YtnldanonpdijgaaW.PrintMore Go.Proofs.Ytnldanonpdijgaa.U
theorem rdI_set {xs : List IH} {i : Nat} (h : i < xs.length) (v : IH) : rd_T50 (xs.set i v) (i : Int) = v:=by
  rw [rdI_at (by simpa using h)];simp
def mkH (a : Int) (_ : IH) : IH:=⟨Int.tmod a 3 == 0,a + 1,Int.tmod (a + 2) 3 == 0,a + 3,a + 4,a + 5⟩
theorem six (b : Int) : b + 1 + 1 = b + 2 ∧ b + 2 + 1 = b + 3 ∧ b + 3 + 1 = b + 4 ∧ b + 4 + 1 = b + 5 ∧ b + 5 + 1 = b + 6:=by omega
theorem markHostS_ev (xs : List IH) (a : Int) (h : xs.length ≤ 1048576) (h0 : 0 ≤ a) (h1 : a ≤ 1000000000000) : Ev (fun k => laws_markLsHostS.f k xs a) (a + 6 * xs.length,marks mkH 6 a xs):=by
  unfold laws_markLsHostS.f
  refine mark_loop mkH 6 (by omega) xs (fun k s a i => laws_markLsHostS.l0 k s a i) 1900000000000 ?_ ?_ a h0 (by omega)
  · intro s b hs
    simp only [laws_markLsHostS.l0]
    exact Ev.neg (by omega) (Ev.some rfl)
  · intro i s b r hi hs hx hb0 hb1 next
    have hi2 : i < s.length:=by omega
    obtain ⟨e2,e3,e4,e5,e6⟩:=six b
    simp only [laws_markLsHostS.l0,Option.bind_some,Int.toNat_natCast]
    rw [wrap_id (i:=b + 1) (by omega) (by omega),e2,wrap_id (i:=b + 2) (by omega) (by omega),e3,wrap_id (i:=b + 3) (by omega) (by omega),e4,wrap_id (i:=b + 4) (by omega) (by omega),e5,wrap_id (i:=b + 5) (by omega) (by omega),e6,wrap_id (i:=b + 6) (by omega) (by omega),wrap_up hi (by omega)]
    refine Ev.pos (by omega) (Ev.pos (by omega) ?_)
    simp only [rdI_set hi2,List.set_set]
    exact next
theorem heldHostS_ev (xs : List IH) (a : Int) (h : xs.length ≤ 1048576) (h0 : 0 ≤ a) (h1 : a ≤ 1000000000000) : Ev (fun k => laws_heldLsHostS.f k (marks mkH 6 a xs) a) (a + 6 * xs.length):=by
  unfold laws_heldLsHostS.f
  have hl:=marks_length mkH 6 a xs
  refine held_loop mkH 6 (by omega) xs a (fun k b i => laws_heldLsHostS.l0 k (marks mkH 6 a xs) b i) 1900000000000 ?_ ?_ h0 (by omega)
  · intro b
    simp only [laws_heldLsHostS.l0]
    exact Ev.neg (by omega) (Ev.some rfl)
  · intro i b r hi h2 _ hb0 hb1 hx next
    obtain ⟨e2,e3,e4,e5,e6⟩:=six b
    simp only [laws_heldLsHostS.l0]
    rw [rdI_at h2,hx,wrap_id (i:=b + 1) (by omega) (by omega),e2,wrap_id (i:=b + 2) (by omega) (by omega),e3,wrap_id (i:=b + 3) (by omega) (by omega),e4,wrap_id (i:=b + 4) (by omega) (by omega),e5,wrap_id (i:=b + 5) (by omega) (by omega),e6,wrap_id (i:=b + 6) (by omega) (by omega),wrap_up hi (by omega)]
    exact Ev.pos (by omega) (Ev.pos (by omega) (Ev.neg (by simp [mkH]) (Ev.pos rfl (Ev.neg (by simp [mkH]) (Ev.pos rfl (Ev.pos rfl (Ev.pos rfl next)))))))
theorem markLs_ev (h m n : Int) (R : List Int) (o e : Int) (H : List IH) (h1 : R.length ≤ 1048576) (h2 : H.length ≤ 1048576) : Ev (fun k => laws_markLs.f k h m n R o e H 1) (1 + R.length + 6 * H.length,upFrom 1 R.length,marks mkH 6 (1 + R.length) H):=by
  unfold laws_markLs.f
  exact Ev.bind (markIntS_ev R 1 h1 (by omega) (by omega)) (Ev.bind (markHostS_ev H _ h2 (by simp only [];omega) (by simp only [];omega)) (Ev.some rfl))
theorem heldLs_ev (h m n : Int) (a : Nat) (o e : Int) (H : List IH) (h1 : a ≤ 1048576) (h2 : H.length ≤ 1048576) : Ev (fun k => laws_heldLs.f k h m n (upFrom 1 a) o e (marks mkH 6 (1 + a) H) 1) (1 + a + 6 * H.length):=by
  unfold laws_heldLs.f
  refine Ev.bind (heldIntS_ev a 1 h1 (by omega) (by omega)) (Ev.neg (by omega) ?_)
  exact Ev.bind (heldHostS_ev H _ h2 (by omega) (by omega)) (Ev.neg (by omega) (Ev.some rfl))
theorem copied_eq (h m n : Int) (R : List Int) (o e : Int) (H : List IH) (h1 : R.length ≤ 1048576) (h2 : H.length ≤ 1048576) : impl_Ls_copied.f h m n R o e H = some (h,m,n,R,o,e,H):=by
  unfold impl_Ls_copied.f slices_Clone_impl_LsHost.f
  rw [clone_eq R h1]
  simp only [Option.bind_some,List.length_nil,List.nil_append]
  rw [if_pos (by omega)]
  rfl
theorem l18Copy_eq (h m n : Int) (R : List Int) (o e : Int) (H : List IH) (h1 : R.length ≤ 1048576) (h2 : H.length ≤ 1048576) : spec_l18Copy.f h m n R o e H = some (h,m,n,R,o,e,H):=by
  unfold spec_l18Copy.f
  simp only [Option.bind_some,List.length_nil,List.nil_append]
  rw [if_pos (by omega),if_pos (by omega)]
def tickV (h m n : Int) (R : List Int) (o e : Int) (H : List IH) (t : Int) : Int × Int × Int × List Int × Int × Int × List IH × Bool :=
  if lsB h m n R o e H = true then (if inn 1 1000 t = true ∧ ¬ n + t > 100000 then (h,m,n + t,R,o,e,H,true) else (h,m,n,R,o,e,H,false)) else (0,0,0,[],0,0,[],false)
theorem tickV_len (h m n : Int) (R : List Int) (o e : Int) (H : List IH) (t : Int) : (tickV h m n R o e H t).2.2.2.1.length ≤ 8 ∧ (tickV h m n R o e H t).2.2.2.2.2.2.1.length ≤ 8:=by
  unfold tickV
  by_cases hw : lsB h m n R o e H = true
  · have:=Pure.ls_facts hw
    rw [if_pos hw]
    split <;> simp <;> omega
  · rw [if_neg hw];simp
theorem impl_LsTick_ev (h m n : Int) (R : List Int) (o e : Int) (H : List IH) (t : Int) : Ev (fun k => impl_LsTick.f k h m n R o e H t) (tickV h m n R o e H t):=by
  unfold impl_LsTick.f tickV
  refine Ev.bind (isLs_ev _ _ _ _ _ _ _) ?_
  cases hw : lsB h m n R o e H with
  | false => exact Ev.neg (by decide) (Ev.some rfl)
  | true =>
  have hf:=Pure.ls_facts hw
  refine Ev.pos rfl ?_
  rw [copied_eq h m n R o e H (by omega) (by omega),in_eq]
  simp only [Option.bind_some]
  rw [if_pos trivial]
  cases ht : inn 1 1000 t with
  | false => exact Ev.neg (by decide) (Ev.some (by simp))
  | true =>
  have hb:=inn_iff.mp ht
  refine Ev.pos rfl ?_
  rw [wrap_id (i:=n + t) (by omega) (by omega)]
  by_cases hn : n + t > 100000
  · exact Ev.pos hn (Ev.some (by simp [hn]))
  · exact Ev.neg hn (Ev.some (by simp [hn]))
theorem spec_LsTick_ev (h m n : Int) (R : List Int) (o e : Int) (H : List IH) (t : Int) : Ev (fun k => spec_LsTick.f k h m n R o e H t) (tickV h m n R o e H t):=by
  unfold spec_LsTick.f tickV
  refine Ev.bind (LsOk_ev _ _ _ _ _ _ _) ?_
  cases hw : lsB h m n R o e H with
  | false => exact Ev.neg (by decide) (Ev.some rfl)
  | true =>
  have hf:=Pure.ls_facts hw
  refine Ev.pos rfl ?_
  rw [l18Copy_eq h m n R o e H (by omega) (by omega),l1In_eq]
  simp only [Option.bind_some]
  rw [if_pos trivial]
  cases ht : inn 1 1000 t with
  | false =>
    refine Ev.neg (by decide) (Ev.succ ?_)
    simp only [spec_LsTick.j0]
    exact Ev.pos trivial (Ev.some (by simp))
  | true =>
  have hb:=inn_iff.mp ht
  refine Ev.pos rfl (Ev.succ ?_)
  simp only [spec_LsTick.j0]
  rw [wrap_id (i:=n + t) (by omega) (by omega)]
  by_cases hn : n + t > 100000
  · exact Ev.pos (by simpa using hn) (Ev.some (by simp [hn]))
  · exact Ev.neg (by simpa using hn) (Ev.some (by simp [hn]))
end Go.Proofs.Ytnldanonpdijgaa.L
