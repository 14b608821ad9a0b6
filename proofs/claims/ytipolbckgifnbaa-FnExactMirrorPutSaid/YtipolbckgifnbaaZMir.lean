-- Ours: printed or written for this claim; cut to what the theorem needs.
import Derived.Test.YtipolbckgifnbaaZPx5
import Derived.Test.YtipolbckgifnbaaZPx6
import Derived.Test.YtipolbckgifnbaaZPx7
import Derived.Test.YtipolbckgifnbaaZPx8
import Derived.Test.YtipolbckgifnbaaZPx9
import Derived.Test.YtipolbckgifnbaaZRv
import Derived.Test.YtipolbckgifnbaaZPureFnExactShowCopy
set_option linter.unusedVariables false
namespace Go.Proofs.Ytipolbckgifnbaa.L
open Go.RowKit Go.Proofs.Ytipolbckgifnbaa.P Go.Proofs.YtipolbckgifnbaaW.PrintWords Go.Proofs.YtipolbckgifnbaaW.PrintLast Go.Proofs.YtipolbckgifnbaaW.PrintMore Go.Proofs.Ytipolbckgifnbaa.U Go.Proofs.Ytipolbckgifnbaa.Pure
def copyV (s : ByteArray) : Int × ByteArray × Bool :=
  if s.size < 4 then (0,(⟨#[]⟩ : ByteArray),false)
  else if (rvV (s.extract 4 s.size)).2 = 0 then (0,(⟨#[]⟩ : ByteArray),false)
  else if (showV (rvV (s.extract 4 s.size)).1 (s.extract (4 + (rvV (s.extract 4 s.size)).2.toNat) s.size)).toList = s.toList then ((rvV (s.extract 4 s.size)).1,s.extract (4 + (rvV (s.extract 4 s.size)).2.toNat) s.size,true)
  else (0,(⟨#[]⟩ : ByteArray),false)
theorem copyV_no (s : ByteArray) (h : (copyV s).2.2 = false) : copyV s = (0,(⟨#[]⟩ : ByteArray),false):=by
  unfold copyV at h ⊢
  split
  · rfl
  · rename_i h4
    rw [if_neg h4] at h
    split
    · rfl
    · rename_i h5
      rw [if_neg h5] at h
      split
      · rename_i h6
        rw [if_pos h6] at h
        simp at h
      · rfl
theorem cut_cut (s : ByteArray) (n : Nat) (h : 4 ≤ s.size) : (s.extract 4 s.size).extract n (s.extract 4 s.size).size = s.extract (4 + n) s.size:=by
  rw [ByteArray.extract_extract,ByteArray.size_extract]
  congr 1
  omega
theorem cut_size (s : ByteArray) : (s.extract 4 s.size).size = s.size - 4:=by
  rw [ByteArray.size_extract,Nat.min_self]
theorem impl_ReadCopy_ev (s : ByteArray) (hs : s.size ≤ 1048576) : Ev (fun k => impl_ReadCopy.f k s) (copyV s):=by
  unfold impl_ReadCopy.f copyV
  by_cases h4 : s.size < 4
  · rw [if_pos h4]
    exact Ev.pos (by omega) (Ev.some rfl)
  · rw [if_neg h4]
    have hb:=rv_bound (s.extract 4 s.size)
    have hc:=cut_size s
    refine Ev.neg (by omega) (Ev.pos (by omega) (Ev.bind (impl_ReadVar_ev _ (by omega)) ?_))
    rw [cut_cut s _ (by omega)]
    generalize rvV (s.extract 4 s.size) = r at hb ⊢
    obtain ⟨v,n⟩:=r
    simp only at hb ⊢
    by_cases h0 : n = 0
    · rw [if_pos h0]
      exact Ev.pos h0 (Ev.pos hb.1 (Ev.pos hb.2 (Ev.some rfl)))
    · rw [if_neg h0]
      refine Ev.neg h0 (Ev.pos hb.1 (Ev.pos hb.2 (Ev.bind (impl_ev _ _) ?_)))
      by_cases he : (showV v (s.extract (4 + n.toNat) s.size)).toList = s.toList
      · exact Ev.pos he (Ev.some (if_pos he).symm)
      · exact Ev.neg he (Ev.some (if_neg he).symm)
theorem spec_Vars_ev (s : ByteArray) (hs : s.size ≤ 1048576) : Ev (fun k => spec_l4Vars.f k s 4 1) (if s.size < 4 then ([],-1) else if (rvV (s.extract 4 s.size)).2 = 0 then ([],-1) else ([(rvV (s.extract 4 s.size)).1],4 + (rvV (s.extract 4 s.size)).2)):=by
  unfold spec_l4Vars.f
  refine Ev.succ ?_
  simp only [spec_l4Vars.l0]
  refine Ev.pos (by decide) (Ev.neg (by decide) ?_)
  by_cases h4 : s.size < 4
  · rw [if_pos h4,show decide ((4 : Int) > (s.size : Int)) = true by simp;omega]
    refine Ev.succ ?_
    simp only [spec_l4Vars.j1]
    exact Ev.pos trivial (Ev.some rfl)
  · rw [if_neg h4,show decide ((4 : Int) > (s.size : Int)) = false by simp;omega]
    refine Ev.succ ?_
    simp only [spec_l4Vars.j1]
    have hb:=rv_bound (s.extract 4 s.size)
    have hc:=cut_size s
    refine Ev.neg (by decide) (Ev.pos (by decide) (Ev.pos (by omega) (Ev.bind (spec_ReadVar_ev (s.extract 4 s.size) (by omega)) ?_)))
    generalize rvV (s.extract 4 s.size) = r at hb ⊢
    obtain ⟨v,n⟩:=r
    simp only at hb ⊢
    by_cases h0 : n = 0
    · rw [if_pos h0]
      exact Ev.pos h0 (Ev.some rfl)
    · rw [if_neg h0,wrap_id (i:=4 + n) (by omega) (by omega)]
      refine Ev.neg h0 (Ev.pos (by simp) (Ev.succ ?_))
      simp only [spec_l4Vars.l0]
      exact Ev.neg (by unfold wrap64;omega) (Ev.some rfl)
theorem spec_ReadCopy_ev (s : ByteArray) (hs : s.size ≤ 1048576) : Ev (fun k => spec_ReadCopy.f k s) (copyV s):=by
  unfold spec_ReadCopy.f copyV
  refine Ev.bind (spec_Vars_ev s hs) ?_
  by_cases h4 : s.size < 4
  · simp only [if_pos h4]
    exact Ev.pos (by decide) (Ev.some rfl)
  · simp only [if_neg h4]
    have hb:=rv_bound (s.extract 4 s.size)
    have hc:=cut_size s
    generalize rvV (s.extract 4 s.size) = r at hb ⊢
    obtain ⟨v,n⟩:=r
    simp only at hb ⊢
    by_cases h0 : n = 0
    · simp only [if_pos h0]
      exact Ev.pos (by decide) (Ev.some rfl)
    · simp only [if_neg h0]
      refine Ev.neg (by omega) (Ev.pos (by simp) (Ev.pos (by omega) (Ev.pos (by omega) ?_)))
      rw [show (4 + n).toNat = 4 + n.toNat by omega,show rd [v] 0 = v from rfl]
      refine Ev.bind (spec_ev _ _) ?_
      by_cases he : (showV v (s.extract (4 + n.toNat) s.size)).toList = s.toList
      · exact Ev.pos he (Ev.some (if_pos he).symm)
      · exact Ev.neg he (Ev.some (if_neg he).symm)
def mrV (a b : ByteArray) : Int × ByteArray × Bool :=
  if (copyV a).2.2 = true then (if (copyV b).2.2 = true then (if (copyV a).1 ≥ (copyV b).1 then copyV a else copyV b) else copyV a) else copyV b
theorem mrV_no (a b : ByteArray) (h : (mrV a b).2.2 = false) : mrV a b = (0,(⟨#[]⟩ : ByteArray),false):=by
  have ha:=copyV_no a
  have hb:=copyV_no b
  unfold mrV at h ⊢
  split
  · rename_i h1
    rw [if_pos h1] at h
    split
    · rename_i h2
      rw [if_pos h2] at h
      split
      · rename_i h3
        rw [if_pos h3] at h
        exact ha h
      · rename_i h3
        rw [if_neg h3] at h
        exact hb h
    · rename_i h2
      rw [if_neg h2] at h
      exact ha h
  · rename_i h1
    rw [if_neg h1] at h
    exact hb h
theorem spec_MirrorRead_ev (a b : ByteArray) (h1 : a.size ≤ 1048576) (h2 : b.size ≤ 1048576) : Ev (fun k => spec_MirrorRead.f k a b) (mrV a b):=by
  unfold spec_MirrorRead.f mrV
  refine Ev.bind (spec_ReadCopy_ev a h1) (Ev.bind (spec_ReadCopy_ev b h2) ?_)
  generalize copyV a = x
  generalize copyV b = y
  obtain ⟨x1,x2,x3⟩:=x
  obtain ⟨y1,y2,y3⟩:=y
  simp only
  cases x3 <;> cases y3 <;> by_cases h : x1 ≥ y1 <;> refine Ev.eq ?_ <;> simp [h]
theorem impl_MirrorRead_ev (a b : ByteArray) (h1 : a.size ≤ 1048576) (h2 : b.size ≤ 1048576) : Ev (fun k => impl_MirrorRead.f k a b) (mrV a b):=by
  unfold impl_MirrorRead.f mrV
  refine Ev.bind (impl_ReadCopy_ev a h1) (Ev.bind (impl_ReadCopy_ev b h2) ?_)
  have ha:=copyV_no a
  have hb:=copyV_no b
  generalize copyV a = x at ha ⊢
  generalize copyV b = y at hb ⊢
  obtain ⟨x1,x2,x3⟩:=x
  obtain ⟨y1,y2,y3⟩:=y
  simp only at ha hb ⊢
  cases x3 with
  | false =>
    have ha:=ha rfl
    cases y3 with
    | false =>
      have hb:=hb rfl
      rw [← ha] at hb
      refine Ev.eq ?_
      simp [hb]
    | true => refine Ev.eq ?_;simp
  | true =>
    cases y3 with
    | false => refine Ev.eq ?_;simp
    | true =>
      refine Ev.eq ?_
      by_cases h : x1 ≥ y1
      · simp [h,show ¬ x1 < y1 by omega]
      · simp [show x1 < y1 by omega,show ¬ y1 ≤ x1 by omega]
def newV (m : Int × ByteArray × Bool) (t : ByteArray) : ByteArray:=showV (if m.2.2 = true then wrap64 (m.1 + 1) else 1) t
def turnB (a b o : ByteArray) (ok : Bool) : Bool:=ok && ((b.toList == o.toList) && !(a.toList == o.toList))
def putV (a b t : ByteArray) (c : Int) : ByteArray × ByteArray :=
  if (newV (mrV a b) t).toList = ([] : List UInt8) then (a,b) else if c < 1 then (a,b) else if c ≥ 2 then (newV (mrV a b) t,newV (mrV a b) t)
  else if turnB a b (showV (mrV a b).1 (mrV a b).2.1) (mrV a b).2.2 = true then (newV (mrV a b) t,b) else (a,newV (mrV a b) t)
theorem spec_MirrorPut_ev (a b t : ByteArray) (c : Int) (h1 : a.size ≤ 1048576) (h2 : b.size ≤ 1048576) : Ev (fun k => spec_MirrorPut.f k a b t c) (putV a b t c):=by
  unfold spec_MirrorPut.f putV
  refine Ev.bind (spec_MirrorRead_ev a b h1 h2) ?_
  generalize mrV a b = m
  obtain ⟨q,s,ok⟩:=m
  have hj2 : ∀ (n : ByteArray) (x : Bool),Ev (fun k => spec_MirrorPut.j2 k a b c n x) (if c ≥ 2 then (n,n) else if x = true then (n,b) else (a,n)):=by
    intro n x
    refine Ev.succ ?_
    simp only [spec_MirrorPut.j2]
    refine Ev.eq ?_
    by_cases hc : c ≥ 2 <;> cases x <;> simp [hc]
  have hj1T : ∀ n,Ev (fun k => spec_MirrorPut.j1 k a b c ok n true q s) (a,b):=fun n => Ev.succ (by simp only [spec_MirrorPut.j1];exact Ev.pos trivial (Ev.some rfl))
  have hj1F : ∀ n,Ev (fun k => spec_MirrorPut.j1 k a b c ok n false q s) (if c ≥ 2 then (n,n) else if turnB a b (showV q s) ok = true then (n,b) else (a,n)):=by
    intro n
    refine Ev.succ ?_
    simp only [spec_MirrorPut.j1]
    refine Ev.neg (by decide) (Ev.bind (spec_ev q s) ?_)
    have hx:=hj2 n (turnB a b (showV q s) ok)
    unfold turnB at hx ⊢
    cases ok with
    | false => exact Ev.neg (by decide) (by simpa using hx)
    | true =>
      refine Ev.pos rfl ?_
      by_cases hb : b.toList = (showV q s).toList
      · refine Ev.pos hb ?_
        simpa [hb,bne] using hx
      · refine Ev.neg hb ?_
        have e : (b.toList == (showV q s).toList) = false:=beq_eq_false_iff_ne.mpr hb
        rw [e] at hx ⊢
        simpa using hx
  have hj0 : ∀ (x : Int),x = (if ok = true then wrap64 (q + 1) else 1) → Ev (fun k => spec_MirrorPut.j0 k a b t c ok x q s) (if (newV (q,s,ok) t).toList = ([] : List UInt8) then (a,b) else if c < 1 then (a,b) else if c ≥ 2 then (newV (q,s,ok) t,newV (q,s,ok) t) else if turnB a b (showV q s) ok = true then (newV (q,s,ok) t,b) else (a,newV (q,s,ok) t)):=by
    intro x hx
    refine Ev.succ ?_
    simp only [spec_MirrorPut.j0]
    refine Ev.bind (spec_ev x t) ?_
    have hn : newV (q,s,ok) t = showV x t:=by unfold newV;rw [hx]
    rw [hn]
    by_cases he : (showV x t).toList = ([] : List UInt8)
    · rw [if_pos he]
      exact Ev.pos he (hj1T _)
    · rw [if_neg he]
      refine Ev.neg he ?_
      by_cases hc : c < 1
      · rw [if_pos hc,show decide (c < 1) = true by simpa using hc]
        exact hj1T _
      · rw [if_neg hc,show decide (c < 1) = false by simpa using hc]
        exact hj1F _
  simp only
  cases ok with
  | true => exact Ev.pos rfl (hj0 _ rfl)
  | false => exact Ev.neg (by decide) (hj0 _ rfl)
theorem impl_MirrorPut_ev (a b t : ByteArray) (c : Int) (h1 : a.size ≤ 1048576) (h2 : b.size ≤ 1048576) : Ev (fun k => impl_MirrorPut.f k a b t c) (putV a b t c):=by
  unfold impl_MirrorPut.f putV
  refine Ev.bind (impl_MirrorRead_ev a b h1 h2) ?_
  have hno:=mrV_no a b
  generalize mrV a b = m at hno ⊢
  obtain ⟨q,s,ok⟩:=m
  simp only at hno ⊢
  have hx : wrap64 (q + 1) = (if ok = true then wrap64 (q + 1) else 1):=by
    cases ok with
    | true => rfl
    | false =>
      have:=hno rfl
      simp only [Prod.mk.injEq] at this
      rw [this.1,if_neg (by decide)]
      unfold wrap64
      omega
  have hn : newV (q,s,ok) t = showV (wrap64 (q + 1)) t:=by
    unfold newV
    exact congrArg (fun z => showV z t) hx.symm
  rw [hn]
  refine Ev.bind (impl_ev _ t) ?_
  generalize showV (wrap64 (q + 1)) t = n
  by_cases he : n.toList = ([] : List UInt8)
  · exact Ev.pos he (Ev.some (if_pos he).symm)
  · rw [if_neg he]
    refine Ev.neg he (Ev.bind (impl_ev q s) ?_)
    have hj0 : ∀ x : Bool,Ev (fun k => impl_MirrorPut.j0 k a b c n x) (if c < 1 then (a,b) else if c ≥ 2 then (n,n) else if x = true then (n,b) else (a,n)):=by
      intro x
      have hj1 : ∀ y : Bool,Ev (fun k => impl_MirrorPut.j1 k a b c n x y) (if y = true then (if c ≥ 1 then (if x = true then (if c ≥ 2 then (n,n) else (n,b)) else (n,n)) else (if c ≥ 2 then (if x = true then (n,n) else (n,b)) else (n,b))) else (if c ≥ 1 then (if x = true then (if c ≥ 2 then (a,n) else (a,b)) else (a,n)) else (if c ≥ 2 then (if x = true then (a,n) else (a,b)) else (a,b)))):=by
        intro y
        refine Ev.succ ?_
        simp only [impl_MirrorPut.j1]
        refine Ev.eq ?_
        by_cases g1 : c ≥ 1 <;> by_cases g2 : c ≥ 2 <;> cases x <;> cases y <;> simp [g1,g2]
      refine Ev.succ ?_
      simp only [impl_MirrorPut.j0]
      by_cases g1 : c ≥ 1
      · refine Ev.pos g1 ?_
        rw [if_neg (show ¬ c < 1 by omega)]
        cases x with
        | true =>
          refine Ev.pos rfl ?_
          simpa [g1] using hj1 true
        | false =>
          refine Ev.neg (by decide) ?_
          by_cases g2 : c ≥ 2
          · refine Ev.pos g2 ?_
            simpa [g1,g2] using hj1 true
          · refine Ev.neg g2 ?_
            simpa [g1,g2] using hj1 false
      · refine Ev.neg g1 (Ev.neg (by omega) ?_)
        rw [if_pos (show c < 1 by omega)]
        simpa [g1,show ¬ c ≥ 2 by omega] using hj1 false
    unfold turnB
    cases ok with
    | false => exact Ev.neg (by decide) (by simpa using hj0 false)
    | true =>
      refine Ev.pos rfl ?_
      by_cases ha : a.toList = (showV q s).toList
      · exact Ev.pos ha (by simpa [ha] using hj0 false)
      · refine Ev.neg ha ?_
        simpa [ha] using hj0 (b.toList == (showV q s).toList)
end Go.Proofs.Ytipolbckgifnbaa.L
