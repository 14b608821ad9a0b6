-- Ours: printed or written for this claim; cut to what the theorem needs.
import Derived.Test.YtlndidfeapkgcaaZPx0
import Derived.Test.YtlndidfeapkgcaaZPx2
import Derived.Test.YtlndidfeapkgcaaZPx3
import Derived.Test.YtlndidfeapkgcaaZMks
set_option linter.unusedVariables false
namespace Go.Proofs.Ytlndidfeapkgcaa.L
open Go.RowKit Go.Proofs.Ytlndidfeapkgcaa.P Go.Proofs.YtlndidfeapkgcaaW.PrintWords Go.Proofs.YtlndidfeapkgcaaW.PrintLast Go.Proofs.Ytlndidfeapkgcaa.U
theorem eqStringS_self (xs : List ByteArray) (h : xs.length ≤ 1048576) : Ev (fun k => laws_eqStringS.f k xs xs) true:=by
  unfold laws_eqStringS.f
  refine Ev.pos rfl ?_
  exact ev_for (fun k i => laws_eqStringS.l0 k xs xs i) xs.length (fun _ => true) (by
    intro i hi next
    simp only [laws_eqStringS.l0]
    rcases Nat.lt_or_ge i xs.length with hlt|hge
    · rw [wrap_up hlt (by omega)]
      exact Ev.pos (by omega) (Ev.pos (by omega) (Ev.pos (by omega) (Ev.pos (by trivial) (next hlt))))
    · exact Ev.neg (by omega) (Ev.some rfl)) 0 (Nat.zero_le _)
theorem markText_go : ∀ (n : Nat) (x : Int) (s : ByteArray),x < 10 ^ n → s.size + n ≤ 1000 → ∃ r,Ev (fun k => laws_markText.l0 k x s) r
  | 0,x,s,h,hs => by
    refine ⟨(⟨#[109]⟩ : ByteArray) ++ s,Ev.succ ?_⟩
    simp only [laws_markText.l0]
    exact Ev.neg (by simp at h;omega) (Ev.pos (by omega) (Ev.some rfl))
  | n + 1,x,s,h,hs => by
    by_cases hx : x > 0
    · have hd : Int.tdiv x 10 = x / 10:=Int.tdiv_eq_ediv_of_nonneg (by omega)
      have hlt : x / 10 < 10 ^ n:=by
        have : (10 : Int) ^ (n + 1) = 10 * 10 ^ n:=by rw [Int.pow_succ];omega
        omega
      have hsz : (strOfNums [(wrap64 (48 + (Int.tmod x 10))) % 256]).size = 1:=rfl
      obtain ⟨r,hr⟩:=markText_go n (wrap64 (Int.tdiv x 10)) (strOfNums [(wrap64 (48 + (Int.tmod x 10))) % 256] ++ s) (by
        rw [hd]
        unfold wrap64
        omega) (by rw [ByteArray.size_append,hsz];omega)
      refine ⟨r,Ev.succ ?_⟩
      simp only [laws_markText.l0,Option.bind_some]
      exact Ev.pos hx (Ev.pos (by rw [hsz];omega) hr)
    · refine ⟨(⟨#[109]⟩ : ByteArray) ++ s,Ev.succ ?_⟩
      simp only [laws_markText.l0]
      exact Ev.neg hx (Ev.pos (by omega) (Ev.some rfl))
theorem markText_ex (a : Int) (h : a ≤ 2000000000000) : ∃ r,Ev (fun k => laws_markText.f k a) r:=by
  unfold laws_markText.f
  by_cases h0 : a ≤ 0
  · exact ⟨_,Ev.pos h0 (Ev.some rfl)⟩
  · obtain ⟨r,hr⟩:=markText_go 13 a (⟨#[]⟩ : ByteArray) (by simp;omega) (by decide)
    exact ⟨r,Ev.neg h0 hr⟩
open Classical in
noncomputable def markT (a : Int) : ByteArray:=if h : ∃ r,Ev (fun k => laws_markText.f k a) r then Classical.choose h else (⟨#[]⟩ : ByteArray)
theorem markT_ev (a : Int) (h : a ≤ 2000000000000) : Ev (fun k => laws_markText.f k a) (markT a):=by
  unfold markT
  rw [dif_pos (markText_ex a h)]
  exact Classical.choose_spec (markText_ex a h)
noncomputable def mkT (a : Int) (_ : ByteArray) : ByteArray:=markT a
theorem markStringS_ev (xs : List ByteArray) (a : Int) (h : xs.length ≤ 1048576) (h0 : 0 ≤ a) (h1 : a ≤ 1000000000000) : Ev (fun k => laws_markStringS.f k xs a) (a + 1 * xs.length,marks mkT 1 a xs):=by
  unfold laws_markStringS.f
  refine mark_loop mkT 1 (by omega) xs (fun k s a i => laws_markStringS.l0 k s a i) 2000000000000 ?_ ?_ a h0 (by omega)
  · intro s b hs
    simp only [laws_markStringS.l0]
    exact Ev.neg (by omega) (Ev.some rfl)
  · intro i s b r hi hs hx hb0 hb1 next
    simp only [laws_markStringS.l0]
    refine Ev.pos (by omega) (Ev.bind (markT_ev b hb1) (Ev.pos (by omega) ?_))
    rw [Int.toNat_natCast,wrap_id (i:=b + 1) (by omega) (by omega),wrap_up hi (by omega)]
    exact next
theorem heldStringS_ev (xs : List ByteArray) (a : Int) (h : xs.length ≤ 1048576) (h0 : 0 ≤ a) (h1 : a ≤ 1000000000000) : Ev (fun k => laws_heldStringS.f k (marks mkT 1 a xs) a) (a + 1 * xs.length):=by
  unfold laws_heldStringS.f
  have hl:=marks_length mkT 1 a xs
  refine held_loop mkT 1 (by omega) xs a (fun k b i => laws_heldStringS.l0 k (marks mkT 1 a xs) b i) 2000000000000 ?_ ?_ h0 (by omega)
  · intro b
    simp only [laws_heldStringS.l0]
    exact Ev.neg (by omega) (Ev.some rfl)
  · intro i b r hi h2 _ hb0 hb1 hx next
    simp only [laws_heldStringS.l0]
    rw [rdOf_at h2,hx,wrap_id (i:=b + 1) (by omega) (by omega),wrap_up hi (by omega)]
    exact Ev.pos (by omega) (Ev.pos (by omega) (Ev.bind (markT_ev b hb1) (Ev.pos rfl next)))
end Go.Proofs.Ytlndidfeapkgcaa.L
