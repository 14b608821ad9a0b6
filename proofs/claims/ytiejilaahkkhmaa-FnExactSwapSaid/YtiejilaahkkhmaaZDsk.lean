-- Ours: printed or written for this claim; cut to what the theorem needs.
import Derived.Test.YtiejilaahkkhmaaZPx15
import Derived.Test.YtiejilaahkkhmaaZPx23
import Derived.Test.YtiejilaahkkhmaaZPx24
import Derived.Test.YtiejilaahkkhmaaZPx25
import Derived.Test.YtiejilaahkkhmaaZPx26
import Derived.Test.YtiejilaahkkhmaaZPx27
import Derived.Test.YtiejilaahkkhmaaZLint
import Derived.Test.YtiejilaahkkhmaaZMark
import Derived.Test.YtiejilaahkkhmaaZStr
set_option linter.unusedVariables false
namespace Go.Proofs.Ytiejilaahkkhmaa.L
open Go.RowKit Go.Proofs.Ytiejilaahkkhmaa.P Go.Proofs.YtiejilaahkkhmaaW.PrintWords Go.Proofs.YtiejilaahkkhmaaW.PrintLast Go.Proofs.YtiejilaahkkhmaaW.PrintMore Go.Proofs.Ytiejilaahkkhmaa.U
abbrev LW:=S95
abbrev IW:=S36
def toW (d : LW) : IW:=⟨d.f0,d.f1,d.f2,d.f3⟩
theorem rdL_at {xs : List LW} {i : Nat} (h : i < xs.length) : rd_T95 xs (i : Int) = xs[i]:=by
  simp [rd_T95,List.getD_eq_getElem?_getD,List.getElem?_eq_getElem h]
theorem rdI_at {xs : List IW} {i : Nat} (h : i < xs.length) : rd_T36 xs (i : Int) = xs[i]:=by
  simp [rd_T36,List.getD_eq_getElem?_getD,List.getElem?_eq_getElem h]
theorem rdI_set {xs : List IW} {i : Nat} (h : i < xs.length) (v : IW) : rd_T36 (xs.set i v) (i : Int) = v:=by
  rw [rdI_at (by simpa using h)];simp
theorem toWriteS_ev (xs : List LW) (h : xs.length ≤ 1048576) : Ev (fun k => laws_toWriteS.f k xs) (xs.map toW):=by
  unfold laws_toWriteS.f
  simp only [Int.toNat_natCast]
  refine Ev.pos (by omega) ?_
  refine Ev.pos (by omega) ?_
  exact ev_fill (fun k s i => laws_toWriteS.l0 k xs s i) xs toW (fun s => by
      simp only [laws_toWriteS.l0]
      exact Ev.neg (by omega) (Ev.some rfl)) (by
      intro i s r hi hs hn
      simp only [laws_toWriteS.l0,laws_toWrite.f,Option.bind_some]
      refine Ev.pos (by omega) (Ev.pos (by omega) (Ev.pos (by omega) ?_))
      rw [wrap_up hi (by omega),rdL_at hi,Int.toNat_natCast]
      exact hn) (List.replicate xs.length z36) (by simp)
theorem eqWriteS_self (xs : List IW) (h : xs.length ≤ 1048576) : Ev (fun k => laws_eqWriteS.f k xs xs) true:=by
  unfold laws_eqWriteS.f
  refine Ev.pos rfl ?_
  exact ev_for (fun k i => laws_eqWriteS.l0 k xs xs i) xs.length (fun _ => true) (by
    intro i hi next
    simp only [laws_eqWriteS.l0,laws_eqWrite.f]
    rcases Nat.lt_or_ge i xs.length with hlt|hge
    · rw [wrap_up hlt (by omega)]
      exact Ev.pos (by omega) (Ev.pos (by omega) (Ev.pos (by omega) (Ev.bind (Ev.pos trivial (Ev.pos trivial (Ev.pos trivial (Ev.pos trivial (Ev.some rfl))))) (Ev.pos rfl (next hlt)))))
    · exact Ev.neg (by omega) (Ev.some rfl)) 0 (Nat.zero_le _)
theorem szWriteS_ev (l : List LW) (a : Int) (h0 : 0 ≤ a) (h1 : a ≤ 1048576) (hl : l.length * 40 ≤ 140737488351232) (hs : ∀ x ∈ l,x.f3.size ≤ 140737488351232) : (∃ v : Int,Ev (fun k => laws_szWriteS.f k l a) v ∧ v < 0) ∨ (∃ v : Int,Ev (fun k => laws_szWriteS.f k l a) v ∧ 0 ≤ v ∧ v ≤ 1048576 ∧ l.length ≤ 1048576):=by
  unfold laws_szWriteS.f
  rw [wrap_id (i:=a - (l.length : Int)) (by omega) (by omega)]
  by_cases h : a - (l.length : Int) < 0
  · exact Or.inl ⟨-1,Ev.pos h (Ev.some rfl),by omega⟩
  · have key : ∀ d i,i + d = l.length → ∀ b : Int,0 ≤ b → b ≤ 1048576 → ∃ v : Int,Ev (fun k => laws_szWriteS.l0 k l b (i : Int)) v ∧ v ≤ 1048576:=by
      intro d
      induction d with
      | zero =>
        intro i hi b hb0 hb1
        refine ⟨b,Ev.succ ?_,hb1⟩
        simp only [laws_szWriteS.l0]
        exact Ev.neg (by omega) (Ev.some rfl)
      | succ d ih =>
        intro i hi b hb0 hb1
        have hlt : i < l.length:=by omega
        have hsz:=hs l[i] (List.getElem_mem hlt)
        by_cases hn : b - (l[i].f3.size : Int) < 0
        · refine ⟨-1,Ev.succ ?_,by omega⟩
          simp only [laws_szWriteS.l0,laws_szWrite.f]
          rw [rdL_at hlt,wrap_id (i:=b - (l[i].f3.size : Int)) (by omega) (by omega),if_pos hn]
          exact Ev.pos (by omega) (Ev.pos (by omega) (Ev.bind (Ev.some rfl) (Ev.pos (by decide) (Ev.some rfl))))
        · obtain ⟨v,hv,hv2⟩:=ih (i + 1) (by omega) (b - (l[i].f3.size : Int)) (by omega) (by omega)
          refine ⟨v,Ev.succ ?_,hv2⟩
          simp only [laws_szWriteS.l0,laws_szWrite.f]
          rw [rdL_at hlt,wrap_id (i:=b - (l[i].f3.size : Int)) (by omega) (by omega),wrap_up hlt (by omega),if_neg hn]
          exact Ev.pos (by omega) (Ev.pos (by omega) (Ev.bind (Ev.some rfl) (Ev.neg hn hv)))
    obtain ⟨v,hv,hv2⟩:=key l.length 0 (by omega) (a - (l.length : Int)) (by omega) (by omega)
    by_cases hv0 : v < 0
    · exact Or.inl ⟨v,Ev.neg h hv,hv0⟩
    · exact Or.inr ⟨v,Ev.neg h hv,by omega,hv2,by omega⟩
noncomputable def mkW (a : Int) (_ : IW) : IW:=⟨a,a + 1,a + 2,markT (a + 3)⟩
theorem markWriteS_ev (xs : List IW) (a : Int) (h : xs.length ≤ 1048576) (h0 : 0 ≤ a) (h1 : a ≤ 1000000000000) : Ev (fun k => laws_markWriteS.f k xs a) (a + 4 * xs.length,marks mkW 4 a xs):=by
  unfold laws_markWriteS.f
  refine mark_loop mkW 4 (by omega) xs (fun k s a i => laws_markWriteS.l0 k s a i) 1900000000000 ?_ ?_ a h0 (by omega)
  · intro s b hs
    simp only [laws_markWriteS.l0]
    exact Ev.neg (by omega) (Ev.some rfl)
  · intro i s b r hi hs hx hb0 hb1 next
    have hi2 : i < s.length:=by omega
    simp only [laws_markWriteS.l0,Option.bind_some,Int.toNat_natCast]
    rw [wrap_id (i:=b + 1) (by omega) (by omega),wrap_id (i:=b + 1 + 1) (by omega) (by omega),wrap_id (i:=b + 1 + 1 + 1) (by omega) (by omega),wrap_id (i:=b + 1 + 1 + 1 + 1) (by omega) (by omega),wrap_up hi (by omega),show b + 1 + 1 + 1 = b + 3 by omega,show b + 3 + 1 = b + 4 by omega,show b + 1 + 1 = b + 2 by omega]
    refine Ev.pos (by omega) (Ev.pos (by omega) (Ev.bind (markT_ev (b + 3) (by omega)) ?_))
    simp only [rdI_set hi2,List.set_set]
    exact next
theorem heldWriteS_ev (xs : List IW) (a : Int) (h : xs.length ≤ 1048576) (h0 : 0 ≤ a) (h1 : a ≤ 1000000000000) : Ev (fun k => laws_heldWriteS.f k (marks mkW 4 a xs) a) (a + 4 * xs.length):=by
  unfold laws_heldWriteS.f
  have hl:=marks_length mkW 4 a xs
  refine held_loop mkW 4 (by omega) xs a (fun k b i => laws_heldWriteS.l0 k (marks mkW 4 a xs) b i) 1900000000000 ?_ ?_ h0 (by omega)
  · intro b
    simp only [laws_heldWriteS.l0]
    exact Ev.neg (by omega) (Ev.some rfl)
  · intro i b r hi h2 _ hb0 hb1 hx next
    simp only [laws_heldWriteS.l0]
    rw [rdI_at h2,hx,wrap_id (i:=b + 1) (by omega) (by omega),wrap_id (i:=b + 1 + 1) (by omega) (by omega),wrap_id (i:=b + 1 + 1 + 1) (by omega) (by omega),wrap_id (i:=b + 1 + 1 + 1 + 1) (by omega) (by omega),wrap_up hi (by omega),show b + 1 + 1 = b + 2 by omega,show b + 2 + 1 = b + 3 by omega,show b + 3 + 1 = b + 4 by omega]
    exact Ev.pos (by omega) (Ev.pos (by omega) (Ev.pos rfl (Ev.pos rfl (Ev.pos rfl (Ev.bind (markT_ev (b + 3) (by omega)) (Ev.pos rfl next))))))
theorem toDisk_ev (A : List ByteArray) (E : List Int) (D : List LW) (h1 : A.length ≤ 1048576) (h2 : E.length ≤ 1048576) (h3 : D.length ≤ 1048576) : Ev (fun k => laws_toDisk.f k A E D) (A,E,D.map toW):=by
  unfold laws_toDisk.f
  exact Ev.bind (toStringS_ev A h1) (Ev.bind (toIntS_ev E h2) (Ev.bind (toWriteS_ev D h3) (Ev.some rfl)))
theorem eqDisk_self (A : List ByteArray) (E : List Int) (D : List IW) (h1 : A.length ≤ 1048576) (h2 : E.length ≤ 1048576) (h3 : D.length ≤ 1048576) : Ev (fun k => laws_eqDisk.f k A E D A E D) true:=by
  unfold laws_eqDisk.f
  exact Ev.bind (eqStringS_self A h1) (Ev.pos rfl (Ev.bind (by simpa using eqIntS_ev E E h2) (Ev.pos rfl (Ev.bind (eqWriteS_self D h3) (Ev.pos rfl (Ev.some rfl))))))
theorem szDisk_ev (A : List ByteArray) (E : List Int) (D : List LW) (hA : A.length * 16 ≤ 140737488351232) (hAs : ∀ x ∈ A,x.size ≤ 140737488351232) (hE : E.length * 8 ≤ 140737488351232) (hD : D.length * 40 ≤ 140737488351232) (hDs : ∀ x ∈ D,x.f3.size ≤ 140737488351232) :
    (∃ v : Int,Ev (fun k => laws_szDisk.f k A E D 1048576) v ∧ v < 0) ∨ (∃ v : Int,Ev (fun k => laws_szDisk.f k A E D 1048576) v ∧ 0 ≤ v ∧ A.length ≤ 1048576 ∧ E.length ≤ 1048576 ∧ D.length ≤ 1048576):=by
  unfold laws_szDisk.f
  rcases szStringS_ev A 1048576 (by omega) (by omega) hA hAs with ⟨v,hv,h0⟩|⟨v,hv,h0,h1,h2⟩
  · exact Or.inl ⟨-1,Ev.bind hv (Ev.pos h0 (Ev.some rfl)),by omega⟩
  · have hE2 : (∃ v2 : Int,laws_szIntS.f E v = some v2 ∧ v2 < 0) ∨ (∃ v2 : Int,laws_szIntS.f E v = some v2 ∧ 0 ≤ v2 ∧ v2 ≤ 1048576 ∧ E.length ≤ 1048576):=by
      unfold laws_szIntS.f
      rw [wrap_id (i:=v - (E.length : Int)) (by omega) (by omega)]
      by_cases h : v - (E.length : Int) < 0
      · rw [if_pos h];exact Or.inl ⟨-1,rfl,by omega⟩
      · rw [if_neg h];exact Or.inr ⟨_,rfl,by omega,by omega,by omega⟩
    rcases hE2 with ⟨v2,hv2,h02⟩|⟨v2,hv2,h02,h12,h22⟩
    · exact Or.inl ⟨-1,Ev.bind hv (Ev.neg (by omega) (Ev.bind (Ev.eq hv2) (Ev.pos h02 (Ev.some rfl)))),by omega⟩
    · rcases szWriteS_ev D v2 h02 h12 hD hDs with ⟨v3,hv3,h03⟩|⟨v3,hv3,h03,h13,h23⟩
      · exact Or.inl ⟨-1,Ev.bind hv (Ev.neg (by omega) (Ev.bind (Ev.eq hv2) (Ev.neg (by omega) (Ev.bind hv3 (Ev.pos h03 (Ev.some rfl)))))),by omega⟩
      · exact Or.inr ⟨v3,Ev.bind hv (Ev.neg (by omega) (Ev.bind (Ev.eq hv2) (Ev.neg (by omega) (Ev.bind hv3 (Ev.neg (by omega) (Ev.some rfl)))))),h03,h2,h22,h23⟩
theorem markDisk_ev (A : List ByteArray) (E : List Int) (D : List IW) (h1 : A.length ≤ 1048576) (h2 : E.length ≤ 1048576) (h3 : D.length ≤ 1048576) :
    Ev (fun k => laws_markDisk.f k A E D 1) (1 + 1 * A.length + E.length + 4 * D.length,marks mkT 1 1 A,upFrom (1 + 1 * A.length) E.length,marks mkW 4 (1 + 1 * A.length + E.length) D):=by
  unfold laws_markDisk.f
  exact Ev.bind (markStringS_ev A 1 h1 (by omega) (by omega)) (Ev.bind (markIntS_ev E _ h2 (by simp only [];omega) (by simp only [];omega)) (Ev.bind (markWriteS_ev D _ h3 (by simp only [];omega) (by simp only [];omega)) (Ev.some rfl)))
theorem heldDisk_ev (A : List ByteArray) (E : List Int) (D : List IW) (h1 : A.length ≤ 1048576) (h2 : E.length ≤ 1048576) (h3 : D.length ≤ 1048576) :
    Ev (fun k => laws_heldDisk.f k (marks mkT 1 1 A) (upFrom (1 + 1 * A.length) E.length) (marks mkW 4 (1 + 1 * A.length + E.length) D) 1) (1 + 1 * A.length + E.length + 4 * D.length):=by
  unfold laws_heldDisk.f
  refine Ev.bind (heldStringS_ev A 1 h1 (by omega) (by omega)) (Ev.neg (by omega) ?_)
  refine Ev.bind (heldIntS_ev E.length _ h2 (by omega) (by omega)) (Ev.neg (by omega) ?_)
  exact Ev.bind (heldWriteS_ev D _ h3 (by omega) (by omega)) (Ev.neg (by omega) (Ev.some rfl))
end Go.Proofs.Ytiejilaahkkhmaa.L
