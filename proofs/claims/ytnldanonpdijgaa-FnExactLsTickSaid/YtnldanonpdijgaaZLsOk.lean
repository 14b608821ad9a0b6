-- Ours: printed or written for this claim; cut to what the theorem needs.
import Derived.Test.YtnldanonpdijgaaZPx1
import Derived.Test.YtnldanonpdijgaaZPx2
import Derived.Test.YtnldanonpdijgaaZPx3
import Derived.Test.YtnldanonpdijgaaZPx4
import Derived.Test.YtnldanonpdijgaaZPx5
import Derived.Test.YtnldanonpdijgaaZPx6
import Derived.Test.YtnldanonpdijgaaZPx8
import Derived.Test.YtnldanonpdijgaaZLint
import Derived.Test.YtnldanonpdijgaaZSzi
set_option linter.unusedVariables false
namespace Go.Proofs.Ytnldanonpdijgaa.L
open Go.RowKit Go.Proofs.Ytnldanonpdijgaa.P Go.Proofs.YtnldanonpdijgaaW.PrintWords Go.Proofs.YtnldanonpdijgaaW.PrintLast Go.Proofs.YtnldanonpdijgaaW.PrintMore Go.Proofs.Ytnldanonpdijgaa.U
abbrev LH:=S68
abbrev IH:=S50
def toH (d : LH) : IH:=⟨d.f0,d.f1,d.f2,d.f3,d.f4,d.f5⟩
theorem rdL_at {xs : List LH} {i : Nat} (h : i < xs.length) : rd_T68 xs (i : Int) = xs[i]:=by
  simp [rd_T68,List.getD_eq_getElem?_getD,List.getElem?_eq_getElem h]
theorem rdI_at {xs : List IH} {i : Nat} (h : i < xs.length) : rd_T50 xs (i : Int) = xs[i]:=by
  simp [rd_T50,List.getD_eq_getElem?_getD,List.getElem?_eq_getElem h]
def inn (a b v : Int) : Bool:=decide (a ≤ v) && decide (v ≤ b)
theorem inn_iff {a b v : Int} : inn a b v = true ↔ a ≤ v ∧ v ≤ b:=by unfold inn;simp
theorem in_eq (a b c : Int) : impl_in.f a b c = some (inn b c a):=by
  unfold impl_in.f inn
  by_cases h : b ≤ a <;> simp [h]
theorem l1In_eq (a b c : Int) : spec_l1In.f a b c = some (inn b c a):=by
  unfold spec_l1In.f inn
  by_cases h : b ≤ a <;> simp [h]
def clk (n r : Int) : Int:=wrap64 (Int.tdiv (wrap64 (n * r)) 100)
def hostB (n e : Int) (len : Nat) (r : Int) (x : IH) : Bool :=
  inn 0 (clk n r) x.f1 && (inn 0 (clk n r) x.f5 && (inn (-1) ((len : Int) - 1) x.f3 && (inn 0 e x.f4 && ((x.f0 || x.f1 == 0) && (x.f2 || (x.f3 == -1 && (x.f4 == 0 && x.f5 == 0)))))))
def lsB (h m n : Int) (R : List Int) (o e : Int) (H : List IH) : Bool :=
  inn 1 1000 h && (inn 1 1000 m && (inn 0 100000 n && (inn 1 4 (R.length : Int) && (decide (H.length = R.length) && (inn (-1) ((R.length : Int) - 1) o && (inn 0 100000 e && (R.zip H).all fun y => inn 50 150 y.1 && hostB n e R.length y.1 y.2))))))
theorem at_eq (h m n : Int) (R : List Int) (o e : Int) (H : List IH) {i : Nat} (hi : i < R.length) : spec_l18At.f h m n R o e H (i : Int) = some (clk n R[i]):=by
  unfold spec_l18At.f clk
  rw [if_pos (by omega),if_pos (by omega),rd_at hi]
theorem clock_eq (h m n : Int) (R : List Int) (o e : Int) (H : List IH) {i : Nat} (hi : i < R.length) : impl_Ls_clock.f h m n R o e H (i : Int) = some (clk n R[i]):=by
  unfold impl_Ls_clock.f clk
  rw [if_pos (by omega),if_pos (by omega),rd_at hi]
theorem hostOk_ev (h m n : Int) (R : List Int) (o e : Int) (H : List IH) (hl : H.length = R.length) (hb : R.length ≤ 4) {i : Nat} (hi : i < R.length) : Ev (fun k => impl_Ls_hostOk.f k h m n R o e H (i : Int)) (hostB n e R.length R[i] (H[i]'(by omega))):=by
  have hi2 : i < H.length:=by omega
  unfold impl_Ls_hostOk.f
  refine Ev.pos (by omega) (Ev.pos (by omega) ?_)
  rw [clock_eq h m n R o e H hi,rdI_at hi2]
  generalize H[i] = x
  obtain ⟨a,b,c,d,f,g⟩:=x
  have hT : Ev (fun k => impl_Ls_hostOk.j0 k true a b c d f g) false:=Ev.succ (by simp only [impl_Ls_hostOk.j0];exact Ev.pos trivial (Ev.some rfl))
  unfold hostB impl_Ls_isOwner.f
  simp only [Option.bind_some,in_eq]
  rw [wrap_id (i:=(H.length : Int) - 1) (by omega) (by omega),hl]
  cases h1 : inn 0 (clk n R[i]) b with
  | false => exact Ev.neg (by decide) hT
  | true =>
    refine Ev.pos rfl ?_
    cases h2 : inn 0 (clk n R[i]) g with
    | false => exact Ev.neg (by decide) hT
    | true =>
      refine Ev.pos rfl ?_
      cases h3 : inn (-1) ((R.length : Int) - 1) d with
      | false => exact Ev.neg (by decide) hT
      | true =>
        refine Ev.pos rfl ?_
        cases h4 : inn 0 e f with
        | false => exact hT
        | true =>
          refine Ev.succ ?_
          simp only [impl_Ls_hostOk.j0]
          refine Ev.neg (by decide) ?_
          refine Ev.eq ?_
          cases a <;> cases c <;> by_cases hb0 : b = 0 <;> by_cases hd : d = -1 <;> by_cases hf : f = 0 <;> simp [hb0,hd,hf]
theorem c1_ev (A : List Int) (hl : A.length ≤ 1048576) : Ev (fun k => slices_ContainsFunc_int_at_isLs_1.f k A) (!A.all (inn 50 150)):=by
  obtain ⟨r,h1,h2,_⟩:=index_any A (fun d => !inn 50 150 d) (fun k i => slices_IndexFunc_int_at_isLs_1.l0 k A (A.length : Int) i) (by
      simp only [slices_IndexFunc_int_at_isLs_1.l0]
      exact Ev.neg (by omega) (Ev.some rfl)) (by
      intro i h hq
      simp only [slices_IndexFunc_int_at_isLs_1.l0,impl_isLs_1.f,in_eq,Option.bind_some]
      rw [rd_at h]
      exact Ev.pos (by omega) (Ev.pos (by omega) (Ev.pos (by omega) (Ev.pos hq (Ev.some rfl))))) (by
      intro i h r hq hn
      simp only [slices_IndexFunc_int_at_isLs_1.l0,impl_isLs_1.f,in_eq,Option.bind_some]
      rw [rd_at h,wrap_up h (by omega)]
      exact Ev.pos (by omega) (Ev.pos (by omega) (Ev.pos (by omega) (Ev.neg (by simpa using hq) hn))))
  unfold slices_ContainsFunc_int_at_isLs_1.f slices_IndexFunc_int_at_isLs_1.f
  refine Ev.bind h1 (Ev.some ?_)
  rw [h2,List.all_eq_not_any_not,Bool.not_not]
theorem zip_all_and (f : Int → Bool) (g : Int → IH → Bool) : ∀ (R : List Int) (H : List IH),H.length = R.length → ((R.zip H).all fun y => f y.1 && g y.1 y.2) = (R.all f && (R.zip H).all fun y => g y.1 y.2):=by
  intro R
  induction R with
  | nil => intro H h;simp
  | cons r R ih =>
    intro H h
    cases H with
    | nil => simp at h
    | cons x H =>
      simp only [List.zip_cons_cons,List.all_cons]
      rw [ih H (by simpa using h)]
      cases f r <;> cases g r x <;> cases R.all f <;> rfl
theorem isLs_ev (h m n : Int) (R : List Int) (o e : Int) (H : List IH) : Ev (fun k => impl_isLs.f k h m n R o e H) (lsB h m n R o e H):=by
  have hT : Ev (fun k => impl_isLs.j0 k true h m n R o e H) false:=Ev.succ (by simp only [impl_isLs.j0];exact Ev.pos trivial (Ev.some rfl))
  have hT1 : Ev (fun k => impl_isLs.j1 k true h m n R o e H) false:=Ev.succ (by simp only [impl_isLs.j1];exact Ev.pos trivial (Ev.some rfl))
  unfold impl_isLs.f lsB
  simp only [Option.bind_some,in_eq]
  cases h1 : inn 1 1000 h with
  | false => exact Ev.neg (by decide) hT
  | true =>
  cases h2 : inn 1 1000 m with
  | false => exact Ev.pos rfl (Ev.neg (by decide) hT)
  | true =>
  cases h3 : inn 0 100000 n with
  | false => exact Ev.pos rfl (Ev.pos rfl (Ev.neg (by decide) hT))
  | true =>
  cases h4 : inn 1 4 (R.length : Int) with
  | false => exact Ev.pos rfl (Ev.pos rfl (Ev.pos rfl (Ev.neg (by decide) hT)))
  | true =>
  have hb:=inn_iff.mp h4
  refine Ev.pos rfl (Ev.pos rfl (Ev.pos rfl (Ev.pos rfl ?_)))
  by_cases hl : H.length = R.length
  · rw [show ((H.length : Int) != (R.length : Int)) = false by simp [hl]]
    refine Ev.succ ?_
    simp only [impl_isLs.j0,impl_Ls_isOwner.f,in_eq,Option.bind_some]
    refine Ev.neg (by decide) ?_
    rw [wrap_id (i:=(H.length : Int) - 1) (by omega) (by omega),hl]
    simp only [decide_true,Bool.true_and]
    rw [zip_all_and (inn 50 150) (fun r x => hostB n e R.length r x) R H hl]
    refine Ev.bind (c1_ev R (by omega)) ?_
    cases h5 : R.all (inn 50 150) with
    | false => exact Ev.pos rfl (by simpa using hT1)
    | true =>
    refine Ev.neg (by decide) ?_
    cases h6 : inn (-1) ((R.length : Int) - 1) o with
    | false => exact Ev.neg (by decide) hT1
    | true =>
    refine Ev.pos rfl ?_
    cases h7 : inn 0 100000 e with
    | false => exact hT1
    | true =>
    refine Ev.succ ?_
    simp only [impl_isLs.j1,hl]
    refine Ev.neg (by decide) ?_
    have key:=ev_for (fun k i => impl_isLs.l0 k (R.length : Int) i h m n R o e H) R.length (fun i => ((R.zip H).drop i).all fun y => hostB n e R.length y.1 y.2) (by
      intro i hi next
      simp only [impl_isLs.l0]
      rcases Nat.lt_or_ge i R.length with hlt|hge
      · refine Ev.pos (by omega) (Ev.bind (hostOk_ev h m n R o e H hl (by omega) hlt) ?_)
        rw [List.drop_eq_getElem_cons (show i < (R.zip H).length by simp;omega),List.all_cons,List.getElem_zip,wrap_up hlt (by omega)]
        cases h8 : hostB n e R.length R[i] (H[i]'(by omega)) with
        | false => exact Ev.neg (by decide) (Ev.some rfl)
        | true => exact Ev.pos rfl (next hlt)
      · refine Ev.neg (by omega) (Ev.some ?_)
        rw [List.drop_of_length_le (by simp;omega)]
        rfl) 0 (Nat.zero_le _)
    simpa using key
  · rw [show ((H.length : Int) != (R.length : Int)) = true by simp;omega]
    simpa [hl] using hT
theorem LsOk_ev (h m n : Int) (R : List Int) (o e : Int) (H : List IH) : Ev (fun k => spec_LsOk.f k h m n R o e H) (lsB h m n R o e H):=by
  have hT : Ev (fun k => spec_LsOk.j0 k true h m n R o e H) false:=Ev.succ (by simp only [spec_LsOk.j0];exact Ev.pos trivial (Ev.some rfl))
  unfold spec_LsOk.f lsB
  simp only [Option.bind_some,l1In_eq]
  cases h1 : inn 1 1000 h with
  | false => exact Ev.neg (by decide) hT
  | true =>
  cases h2 : inn 1 1000 m with
  | false => exact Ev.pos rfl (Ev.neg (by decide) hT)
  | true =>
  cases h3 : inn 0 100000 n with
  | false => exact Ev.pos rfl (Ev.pos rfl (Ev.neg (by decide) hT))
  | true =>
  cases h4 : inn 1 4 (R.length : Int) with
  | false => exact Ev.pos rfl (Ev.pos rfl (Ev.pos rfl (Ev.neg (by decide) hT)))
  | true =>
  have hb:=inn_iff.mp h4
  refine Ev.pos rfl (Ev.pos rfl (Ev.pos rfl (Ev.pos rfl ?_)))
  rw [wrap_id (i:=(R.length : Int) - 1) (by omega) (by omega)]
  by_cases hl : H.length = R.length
  · refine Ev.pos (by omega) ?_
    simp only [hl,decide_true,Bool.true_and]
    cases h6 : inn (-1) ((R.length : Int) - 1) o with
    | false => exact Ev.neg (by decide) hT
    | true =>
    refine Ev.pos rfl ?_
    cases h7 : inn 0 100000 e with
    | false => exact hT
    | true =>
    refine Ev.succ ?_
    simp only [spec_LsOk.j0]
    refine Ev.neg (by decide) ?_
    have key:=ev_for (fun k i => spec_LsOk.l0 k i h m n R o e H) R.length (fun i => ((R.zip H).drop i).all fun y => inn 50 150 y.1 && hostB n e R.length y.1 y.2) (by
      intro i hi next
      simp only [spec_LsOk.l0,l1In_eq,Option.bind_some]
      rcases Nat.lt_or_ge i R.length with hlt|hge
      · refine Ev.pos (by omega) (Ev.pos (by omega) ?_)
        have hlt2 : i < H.length:=by omega
        rw [List.drop_eq_getElem_cons (show i < (R.zip H).length by simp;omega),List.all_cons,List.getElem_zip,rd_at hlt,rdI_at hlt2,at_eq h m n R o e H hlt]
        simp only [Option.bind_some]
        rw [wrap_id (i:=(R.length : Int) - 1) (by omega) (by omega)]
        have hj2 : ∀ b : Bool,Ev (fun k => spec_LsOk.j2 k (i : Int) b h m n R o e H) (!b && ((R.zip H).drop (i + 1)).all fun y => inn 50 150 y.1 && hostB n e R.length y.1 y.2):=by
          intro b
          refine Ev.succ ?_
          simp only [spec_LsOk.j2]
          cases b with
          | true => exact Ev.pos rfl (Ev.some rfl)
          | false => exact Ev.neg (by decide) (by rw [wrap_up hlt (by omega)];exact next hlt)
        have hjT:=hj2 true
        have hjF:=hj2 false
        generalize (((R.zip H).drop (i + 1)).all fun y => inn 50 150 y.1 && hostB n e R.length y.1 y.2) = q at hj2 hjT hjF ⊢
        unfold hostB
        generalize H[i] = x at *
        obtain ⟨a,b,c,d,f,g⟩:=x
        cases h8 : inn 50 150 R[i] with
        | false => exact Ev.neg (by decide) (Ev.some rfl)
        | true =>
        refine Ev.pos rfl (Ev.pos (by omega) ?_)
        cases h9 : inn 0 (clk n R[i]) b with
        | false => exact Ev.neg (by decide) hjT
        | true =>
        refine Ev.pos rfl ?_
        cases h10 : inn 0 (clk n R[i]) g with
        | false => exact Ev.neg (by decide) hjT
        | true =>
        refine Ev.pos rfl ?_
        cases h11 : inn (-1) ((R.length : Int) - 1) d with
        | false => exact Ev.neg (by decide) hjT
        | true =>
        refine Ev.pos rfl ?_
        cases h12 : inn 0 e f with
        | false => exact Ev.neg (by decide) hjT
        | true =>
        refine Ev.pos rfl ?_
        have hin : Ev (fun k => if c = true then spec_LsOk.j2 k (i : Int) false h m n R o e H else if d = -1 then (if f = 0 then spec_LsOk.j2 k (i : Int) (g != 0) h m n R o e H else spec_LsOk.j2 k (i : Int) true h m n R o e H) else spec_LsOk.j2 k (i : Int) true h m n R o e H) ((c || (d == -1 && (f == 0 && g == 0))) && q):=by
          cases c with
          | true => exact Ev.pos rfl (by simpa using hjF)
          | false =>
            refine Ev.neg (by decide) ?_
            by_cases hd : d = -1
            · refine Ev.pos hd ?_
              by_cases hf : f = 0
              · refine Ev.pos hf ?_
                have:=hj2 (g != 0)
                rw [show (false || (d == -1 && (f == 0 && g == 0))) = !(g != 0) by simp [hd,hf,bne]]
                exact this
              · exact Ev.neg hf (by simpa [beq_eq_false_iff_ne.mpr hf] using hjT)
            · exact Ev.neg hd (by simpa [beq_eq_false_iff_ne.mpr hd] using hjT)
        cases a with
        | true => exact Ev.pos rfl (by simpa using hin)
        | false =>
          refine Ev.neg (by simp) ?_
          by_cases hb0 : b = 0
          · exact Ev.pos hb0 (by simpa [hb0] using hin)
          · exact Ev.neg hb0 (by simpa [beq_eq_false_iff_ne.mpr hb0] using hjT)
      · refine Ev.neg (by omega) (Ev.some ?_)
        rw [List.drop_of_length_le (by simp;omega)]
        rfl) 0 (Nat.zero_le _)
    simpa using key
  · exact Ev.neg (by omega) (by simpa [hl] using hT)
theorem toHostS_ev (xs : List LH) (h : xs.length ≤ 1048576) : Ev (fun k => laws_toLsHostS.f k xs) (xs.map toH):=by
  unfold laws_toLsHostS.f
  simp only [Int.toNat_natCast]
  refine Ev.pos (by omega) ?_
  refine Ev.pos (by omega) ?_
  exact ev_fill (fun k s i => laws_toLsHostS.l0 k xs s i) xs toH (fun s => by
      simp only [laws_toLsHostS.l0]
      exact Ev.neg (by omega) (Ev.some rfl)) (by
      intro i s r hi hs hn
      simp only [laws_toLsHostS.l0,laws_toLsHost.f,Option.bind_some]
      refine Ev.pos (by omega) (Ev.pos (by omega) (Ev.pos (by omega) ?_))
      rw [wrap_up hi (by omega),rdL_at hi,Int.toNat_natCast]
      exact hn) (List.replicate xs.length z50) (by simp)
theorem eqHostS_self (xs : List IH) (h : xs.length ≤ 1048576) : Ev (fun k => laws_eqLsHostS.f k xs xs) true:=by
  unfold laws_eqLsHostS.f
  refine Ev.pos rfl ?_
  exact ev_for (fun k i => laws_eqLsHostS.l0 k xs xs i) xs.length (fun _ => true) (by
    intro i hi next
    simp only [laws_eqLsHostS.l0,laws_eqLsHost.f]
    rcases Nat.lt_or_ge i xs.length with hlt|hge
    · rw [wrap_up hlt (by omega)]
      exact Ev.pos (by omega) (Ev.pos (by omega) (Ev.pos (by omega) (Ev.bind (Ev.neg (by simp) (Ev.pos trivial (Ev.neg (by simp) (Ev.pos trivial (Ev.pos trivial (Ev.pos trivial (Ev.some rfl))))))) (Ev.pos rfl (next hlt)))))
    · exact Ev.neg (by omega) (Ev.some rfl)) 0 (Nat.zero_le _)
theorem toLs_ev (h m n : Int) (R : List Int) (o e : Int) (H : List LH) (h1 : R.length ≤ 1048576) (h2 : H.length ≤ 1048576) : Ev (fun k => laws_toLs.f k h m n R o e H) (h,m,n,R,o,e,H.map toH):=by
  unfold laws_toLs.f
  exact Ev.bind (toIntS_ev R h1) (Ev.bind (toHostS_ev H h2) (Ev.some rfl))
theorem eqLs_self (h m n : Int) (R : List Int) (o e : Int) (H : List IH) (h1 : R.length ≤ 1048576) (h2 : H.length ≤ 1048576) : Ev (fun k => laws_eqLs.f k h m n R o e H h m n R o e H) true:=by
  unfold laws_eqLs.f
  exact Ev.pos rfl (Ev.pos rfl (Ev.pos rfl (Ev.bind (by simpa using eqIntS_ev R R h1) (Ev.pos rfl (Ev.pos rfl (Ev.pos rfl (Ev.bind (eqHostS_self H h2) (Ev.pos rfl (Ev.some rfl)))))))))
theorem szLs_cases (h m n : Int) (R : List Int) (o e : Int) (H : List LH) (hR : R.length * 8 ≤ 140737488351232) (hH : H.length * 48 ≤ 140737488351232) :
    (∃ v : Int,laws_szLs.f h m n R o e H 1048576 = some v ∧ v < 0) ∨ (∃ v : Int,laws_szLs.f h m n R o e H 1048576 = some v ∧ 0 ≤ v ∧ R.length ≤ 1048576 ∧ H.length ≤ 1048576):=by
  unfold laws_szLs.f laws_szLsHostS.f
  rcases szIntS_cases R 1048576 (by omega) (by omega) hR with ⟨v,hv,h0⟩|⟨v,hv,h0,h1,h2⟩
  · rw [hv];simp only [Option.bind_some];rw [if_pos h0];exact Or.inl ⟨-1,rfl,by omega⟩
  · rw [hv];simp only [Option.bind_some];rw [if_neg (by omega),wrap_id (i:=v - (H.length : Int)) (by omega) (by omega)]
    by_cases h3 : v - (H.length : Int) < 0
    · rw [if_pos h3];exact Or.inl ⟨-1,rfl,by omega⟩
    · rw [if_neg h3];simp only [Option.bind_some];rw [if_neg h3];exact Or.inr ⟨_,rfl,by omega,h2,by omega⟩
end Go.Proofs.Ytnldanonpdijgaa.L
