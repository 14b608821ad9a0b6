-- Ours: printed or written for this claim; cut to what the theorem needs.
import Derived.Test.YtipolbckgifnbaaZPx5
import Derived.Test.YtipolbckgifnbaaZPx6
import Derived.Test.YtipolbckgifnbaaZPx7
import Derived.Test.YtipolbckgifnbaaZPx0
import Derived.Test.YtipolbckgifnbaaZPx3
import Derived.Test.YtipolbckgifnbaaZPx4
import Derived.Test.YtipolbckgifnbaaZRv
import Derived.Test.YtipolbckgifnbaaZPureFnExactShowCopy
set_option linter.unusedVariables false
namespace Go.Proofs.Ytipolbckgifnbaa.L
open Go.RowKit Go.Proofs.Ytipolbckgifnbaa.P Go.Proofs.YtipolbckgifnbaaW.PrintWords Go.Proofs.YtipolbckgifnbaaW.PrintLast Go.Proofs.YtipolbckgifnbaaW.PrintMore Go.Proofs.Ytipolbckgifnbaa.U Go.Proofs.Ytipolbckgifnbaa.Pure
def copyV (s : ByteArray) : Int × ByteArray × Bool :=
  if s.size < 4 then (0,(⟨#[]⟩ : ByteArray),false)
  else if (rvV (s.extract 4 s.size)).2 = 0 then (0,(⟨#[]⟩ : ByteArray),false)
  else if (showV (rvV (s.extract 4 s.size)).1 (s.extract (4 + (rvV (s.extract 4 s.size)).2.toNat) s.size)).toList = s.toList then ((rvV (s.extract 4 s.size)).1,s.extract (4 + (rvV (s.extract 4 s.size)).2.toNat) s.size,true)
  else (0,(⟨#[]⟩ : ByteArray),false)
theorem copyV_no (s : ByteArray) (h : (copyV s).2.2 = false) : copyV s = (0,(⟨#[]⟩ : ByteArray),false):=by
  unfold copyV at h ⊢
  split
  · rfl
  · rename_i h4
    rw [if_neg h4] at h
    split
    · rfl
    · rename_i h5
      rw [if_neg h5] at h
      split
      · rename_i h6
        rw [if_pos h6] at h
        simp at h
      · rfl
theorem cut_cut (s : ByteArray) (n : Nat) (h : 4 ≤ s.size) : (s.extract 4 s.size).extract n (s.extract 4 s.size).size = s.extract (4 + n) s.size:=by
  rw [ByteArray.extract_extract,ByteArray.size_extract]
  congr 1
  omega
theorem cut_size (s : ByteArray) : (s.extract 4 s.size).size = s.size - 4:=by
  rw [ByteArray.size_extract,Nat.min_self]
theorem impl_ReadCopy_ev (s : ByteArray) (hs : s.size ≤ 1048576) : Ev (fun k => impl_ReadCopy.f k s) (copyV s):=by
  unfold impl_ReadCopy.f copyV
  by_cases h4 : s.size < 4
  · rw [if_pos h4]
    exact Ev.pos (by omega) (Ev.some rfl)
  · rw [if_neg h4]
    have hb:=rv_bound (s.extract 4 s.size)
    have hc:=cut_size s
    refine Ev.neg (by omega) (Ev.pos (by omega) (Ev.bind (impl_ReadVar_ev _ (by omega)) ?_))
    rw [cut_cut s _ (by omega)]
    generalize rvV (s.extract 4 s.size) = r at hb ⊢
    obtain ⟨v,n⟩:=r
    simp only at hb ⊢
    by_cases h0 : n = 0
    · rw [if_pos h0]
      exact Ev.pos h0 (Ev.pos hb.1 (Ev.pos hb.2 (Ev.some rfl)))
    · rw [if_neg h0]
      refine Ev.neg h0 (Ev.pos hb.1 (Ev.pos hb.2 (Ev.bind (impl_ev _ _) ?_)))
      by_cases he : (showV v (s.extract (4 + n.toNat) s.size)).toList = s.toList
      · exact Ev.pos he (Ev.some (if_pos he).symm)
      · exact Ev.neg he (Ev.some (if_neg he).symm)
theorem spec_Vars_ev (s : ByteArray) (hs : s.size ≤ 1048576) : Ev (fun k => spec_l4Vars.f k s 4 1) (if s.size < 4 then ([],-1) else if (rvV (s.extract 4 s.size)).2 = 0 then ([],-1) else ([(rvV (s.extract 4 s.size)).1],4 + (rvV (s.extract 4 s.size)).2)):=by
  unfold spec_l4Vars.f
  refine Ev.succ ?_
  simp only [spec_l4Vars.l0]
  refine Ev.pos (by decide) (Ev.neg (by decide) ?_)
  by_cases h4 : s.size < 4
  · rw [if_pos h4,show decide ((4 : Int) > (s.size : Int)) = true by simp;omega]
    refine Ev.succ ?_
    simp only [spec_l4Vars.j1]
    exact Ev.pos trivial (Ev.some rfl)
  · rw [if_neg h4,show decide ((4 : Int) > (s.size : Int)) = false by simp;omega]
    refine Ev.succ ?_
    simp only [spec_l4Vars.j1]
    have hb:=rv_bound (s.extract 4 s.size)
    have hc:=cut_size s
    refine Ev.neg (by decide) (Ev.pos (by decide) (Ev.pos (by omega) (Ev.bind (spec_ReadVar_ev (s.extract 4 s.size) (by omega)) ?_)))
    generalize rvV (s.extract 4 s.size) = r at hb ⊢
    obtain ⟨v,n⟩:=r
    simp only at hb ⊢
    by_cases h0 : n = 0
    · rw [if_pos h0]
      exact Ev.pos h0 (Ev.some rfl)
    · rw [if_neg h0,wrap_id (i:=4 + n) (by omega) (by omega)]
      refine Ev.neg h0 (Ev.pos (by simp) (Ev.succ ?_))
      simp only [spec_l4Vars.l0]
      exact Ev.neg (by unfold wrap64;omega) (Ev.some rfl)
theorem spec_ReadCopy_ev (s : ByteArray) (hs : s.size ≤ 1048576) : Ev (fun k => spec_ReadCopy.f k s) (copyV s):=by
  unfold spec_ReadCopy.f copyV
  refine Ev.bind (spec_Vars_ev s hs) ?_
  by_cases h4 : s.size < 4
  · simp only [if_pos h4]
    exact Ev.pos (by decide) (Ev.some rfl)
  · simp only [if_neg h4]
    have hb:=rv_bound (s.extract 4 s.size)
    have hc:=cut_size s
    generalize rvV (s.extract 4 s.size) = r at hb ⊢
    obtain ⟨v,n⟩:=r
    simp only at hb ⊢
    by_cases h0 : n = 0
    · simp only [if_pos h0]
      exact Ev.pos (by decide) (Ev.some rfl)
    · simp only [if_neg h0]
      refine Ev.neg (by omega) (Ev.pos (by simp) (Ev.pos (by omega) (Ev.pos (by omega) ?_)))
      rw [show (4 + n).toNat = 4 + n.toNat by omega,show rd [v] 0 = v from rfl]
      refine Ev.bind (spec_ev _ _) ?_
      by_cases he : (showV v (s.extract (4 + n.toNat) s.size)).toList = s.toList
      · exact Ev.pos he (Ev.some (if_pos he).symm)
      · exact Ev.neg he (Ev.some (if_neg he).symm)
def mrV (a b : ByteArray) : Int × ByteArray × Bool :=
  if (copyV a).2.2 = true then (if (copyV b).2.2 = true then (if (copyV a).1 ≥ (copyV b).1 then copyV a else copyV b) else copyV a) else copyV b
theorem spec_MirrorRead_ev (a b : ByteArray) (h1 : a.size ≤ 1048576) (h2 : b.size ≤ 1048576) : Ev (fun k => spec_MirrorRead.f k a b) (mrV a b):=by
  unfold spec_MirrorRead.f mrV
  refine Ev.bind (spec_ReadCopy_ev a h1) (Ev.bind (spec_ReadCopy_ev b h2) ?_)
  generalize copyV a = x
  generalize copyV b = y
  obtain ⟨x1,x2,x3⟩:=x
  obtain ⟨y1,y2,y3⟩:=y
  simp only
  cases x3 <;> cases y3 <;> by_cases h : x1 ≥ y1 <;> refine Ev.eq ?_ <;> simp [h]
theorem impl_MirrorRead_ev (a b : ByteArray) (h1 : a.size ≤ 1048576) (h2 : b.size ≤ 1048576) : Ev (fun k => impl_MirrorRead.f k a b) (mrV a b):=by
  unfold impl_MirrorRead.f mrV
  refine Ev.bind (impl_ReadCopy_ev a h1) (Ev.bind (impl_ReadCopy_ev b h2) ?_)
  have ha:=copyV_no a
  have hb:=copyV_no b
  generalize copyV a = x at ha ⊢
  generalize copyV b = y at hb ⊢
  obtain ⟨x1,x2,x3⟩:=x
  obtain ⟨y1,y2,y3⟩:=y
  simp only at ha hb ⊢
  cases x3 with
  | false =>
    have ha:=ha rfl
    cases y3 with
    | false =>
      have hb:=hb rfl
      rw [← ha] at hb
      refine Ev.eq ?_
      simp [hb]
    | true => refine Ev.eq ?_;simp
  | true =>
    cases y3 with
    | false => refine Ev.eq ?_;simp
    | true =>
      refine Ev.eq ?_
      by_cases h : x1 ≥ y1
      · simp [h,show ¬ x1 < y1 by omega]
      · simp [show x1 < y1 by omega,show ¬ y1 ≤ x1 by omega]
def scrubV (a b : ByteArray) : ByteArray × ByteArray × Bool :=
  if (mrV a b).2.2 = true then (if a.toList = (showV (mrV a b).1 (mrV a b).2.1).toList then (showV (mrV a b).1 (mrV a b).2.1,showV (mrV a b).1 (mrV a b).2.1,(b.toList != (showV (mrV a b).1 (mrV a b).2.1).toList)) else (showV (mrV a b).1 (mrV a b).2.1,showV (mrV a b).1 (mrV a b).2.1,true)) else (a,b,false)
theorem spec_Scrub_ev (a b : ByteArray) (h1 : a.size ≤ 1048576) (h2 : b.size ≤ 1048576) : Ev (fun k => spec_Scrub.f k a b) (scrubV a b):=by
  unfold spec_Scrub.f scrubV
  refine Ev.bind (spec_MirrorRead_ev a b h1 h2) ?_
  by_cases h : (mrV a b).2.2 = true
  · rw [if_pos h]
    refine Ev.pos h (Ev.bind (spec_ev _ _) ?_)
    by_cases he : a.toList = (showV (mrV a b).1 (mrV a b).2.1).toList
    · exact Ev.pos he (Ev.some (if_pos he).symm)
    · exact Ev.neg he (Ev.some (if_neg he).symm)
  · rw [if_neg h];exact Ev.neg h (Ev.some rfl)
theorem impl_Scrub_ev (a b : ByteArray) (h1 : a.size ≤ 1048576) (h2 : b.size ≤ 1048576) : Ev (fun k => impl_Scrub.f k a b) (scrubV a b):=by
  unfold impl_Scrub.f scrubV
  refine Ev.bind (impl_MirrorRead_ev a b h1 h2) ?_
  by_cases h : (mrV a b).2.2 = true
  · rw [if_pos h]
    refine Ev.pos h (Ev.bind (impl_ev _ _) ?_)
    by_cases he : a.toList = (showV (mrV a b).1 (mrV a b).2.1).toList
    · exact Ev.pos he (Ev.some (if_pos he).symm)
    · exact Ev.neg he (Ev.some (if_neg he).symm)
  · rw [if_neg h];exact Ev.neg h (Ev.some rfl)
end Go.Proofs.Ytipolbckgifnbaa.L
