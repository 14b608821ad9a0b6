-- Ours: printed or written for this claim; cut to what the theorem needs.
import Derived.Test.YtiejilaahkkhmaaZPx21
import Derived.Test.YtiejilaahkkhmaaZPx22
import Derived.Test.YtiejilaahkkhmaaZDok
set_option linter.unusedVariables false
namespace Go.Proofs.Ytiejilaahkkhmaa.L
open Go.RowKit Go.Proofs.Ytiejilaahkkhmaa.P Go.Proofs.YtiejilaahkkhmaaW.PrintWords Go.Proofs.YtiejilaahkkhmaaW.PrintLast Go.Proofs.YtiejilaahkkhmaaW.PrintMore Go.Proofs.Ytiejilaahkkhmaa.U
def undB (h s : Int) (w : IW) : Bool:=decide (w.f0 = h) && decide (w.f2 = s)
def swaV (A : List ByteArray) (E : List Int) (D : List IW) (h e s : Int) (o t : ByteArray) : List ByteArray × List Int × List IW × Int :=
  if diskB A E D = true then (if askV A.length E h e s [o,t] = 0 then (if (rdOf ByteArray.empty A s).toList = o.toList then (if D.any (undB h s) = true then (A,E,D,4) else (A.set s.toNat t,E,D,0)) else (A,E,D,4)) else (A,E,D,askV A.length E h e s [o,t])) else ([],[],[],1)
theorem swaV_len (A : List ByteArray) (E : List Int) (D : List IW) (h e s : Int) (o t : ByteArray) : (swaV A E D h e s o t).1.length ≤ 40 ∧ (swaV A E D h e s o t).2.1.length ≤ 40 ∧ (swaV A E D h e s o t).2.2.1.length ≤ 41:=by
  unfold swaV
  by_cases hd : diskB A E D = true
  · have:=disk_facts hd
    rw [if_pos hd]
    split
    · split
      · split
        · simp only [];omega
        · simp only [List.length_set];omega
      · simp only [];omega
    · simp only [];omega
  · rw [if_neg hd];simp
theorem und_eq (w : IW) (h s : Int) : impl_under_1_at.f w.f0 w.f1 w.f2 w.f3 h s = some (undB h s w):=by
  unfold impl_under_1_at.f undB
  by_cases h0 : w.f0 = h
  · rw [if_pos h0,decide_eq_true h0,Bool.true_and];by_cases h1 : w.f2 = s <;> simp [h1]
  · rw [if_neg h0,decide_eq_false h0];rfl
theorem under_ev (D : List IW) (h s : Int) (hl : D.length ≤ 1048576) : Ev (fun k => impl_under.f k D h s) (D.any (undB h s)):=by
  obtain ⟨r,h1,h2,_⟩:=index_any D (undB h s) (fun k i => slices_IndexFunc_impl_Write_at_under_1.l0 k D (D.length : Int) i h s) (by
      simp only [slices_IndexFunc_impl_Write_at_under_1.l0]
      exact Ev.neg (by omega) (Ev.some rfl)) (by
      intro i h hq
      simp only [slices_IndexFunc_impl_Write_at_under_1.l0]
      rw [rdI_at h,und_eq]
      exact Ev.pos (by omega) (Ev.pos (by omega) (Ev.pos (by omega) (Ev.bind (Ev.some rfl) (Ev.pos hq (Ev.some rfl)))))) (by
      intro i h r hq hn
      simp only [slices_IndexFunc_impl_Write_at_under_1.l0]
      rw [rdI_at h,wrap_up h (by omega),und_eq]
      exact Ev.pos (by omega) (Ev.pos (by omega) (Ev.pos (by omega) (Ev.bind (Ev.some rfl) (Ev.neg (by simpa using hq) hn)))))
  unfold impl_under.f slices_ContainsFunc_impl_Write_at_under_1.f slices_IndexFunc_impl_Write_at_under_1.f
  exact Ev.bind (Ev.bind h1 (Ev.some rfl)) (Ev.some h2)
theorem impl_Swap_ev (A : List ByteArray) (E : List Int) (D : List IW) (h e s : Int) (o t : ByteArray) (hA : A.length ≤ 1048576) (hD : D.length ≤ 1048576) : Ev (fun k => impl_Swap.f k A E D h e s o t) (swaV A E D h e s o t):=by
  unfold impl_Swap.f
  refine Ev.bind (isDisk_ev A E D hA hD) ?_
  cases hd : diskB A E D with
  | false => exact Ev.neg (by decide) (Ev.some (by unfold swaV;rw [hd];rfl))
  | true =>
    have hf:=disk_facts hd
    refine Ev.pos rfl ?_
    rw [copied_eq A E D (by omega) (by omega) (by omega)]
    simp only [Option.bind_some]
    refine Ev.bind (asked_ev A E D h e s [o,t] (by omega) (by omega) (by simp)) ?_
    unfold swaV
    rw [if_pos hd]
    by_cases ha : askV A.length E h e s [o,t] = 0
    · rw [if_pos ha]
      have hs : secB A.length s = true:=by
        unfold askV at ha
        split at ha
        · rename_i hx;simp only [Bool.and_eq_true] at hx;exact hx.2.1
        · omega
      have:=secB_facts hs
      refine Ev.pos ha (Ev.pos (by omega) (Ev.pos (by omega) ?_))
      by_cases hq : (rdOf ByteArray.empty A s).toList = o.toList
      · refine Ev.pos hq (Ev.bind (under_ev D h s (by omega)) ?_)
        rw [if_pos hq]
        cases hu : D.any (undB h s) with
        | true => exact Ev.pos rfl (Ev.some (by simp))
        | false => exact Ev.neg (by decide) (Ev.some (by simp))
      · exact Ev.neg hq (Ev.some (by rw [if_neg hq]))
    · exact Ev.neg ha (Ev.some (by rw [if_neg ha]))
theorem spec_swa_l0 (A : List ByteArray) (E : List Int) (D : List IW) (h s : Int) (t : ByteArray) (hD : D.length ≤ 1048576) (hs : 0 ≤ s ∧ s < (A.length : Int)) : Ev (fun k => spec_l3Swap.l0 k h s t 0 A E D) (if D.any (undB h s) = true then (A,E,D,4) else (A.set s.toNat t,E,D,0)):=by
  have key:=ev_for (fun k i => spec_l3Swap.l0 k h s t i A E D) D.length (fun i => if (D.drop i).any (undB h s) = true then (A,E,D,4) else (A.set s.toNat t,E,D,0)) (by
    intro i hi next
    simp only [spec_l3Swap.l0]
    rcases Nat.lt_or_ge i D.length with hlt|hge
    · rw [rdI_at hlt,wrap_up hlt (by omega),List.drop_eq_getElem_cons hlt,List.any_cons]
      refine Ev.pos (by omega) (Ev.pos (by omega) ?_)
      by_cases h0 : D[i].f0 = h
      · refine Ev.pos h0 ?_
        by_cases h1 : D[i].f2 = s
        · exact Ev.pos h1 (Ev.some (by simp [undB,h0,h1]))
        · exact Ev.neg h1 (by simpa [undB,h0,h1] using next hlt)
      · exact Ev.neg h0 (by simpa [undB,h0] using next hlt)
    · rw [List.drop_of_length_le hge]
      exact Ev.neg (by omega) (Ev.pos (by omega) (Ev.pos (by omega) (Ev.some (by simp))))) 0 (Nat.zero_le _)
  simpa using key
theorem spec_Swap_ev (A : List ByteArray) (E : List Int) (D : List IW) (h e s : Int) (o t : ByteArray) (hA : A.length ≤ 1048576) (hD : D.length ≤ 1048576) : Ev (fun k => spec_Swap.f k A E D h e s o t) (swaV A E D h e s o t):=by
  unfold spec_Swap.f
  refine Ev.bind (spec_DiskOk_ev A E D hA hD) ?_
  cases hd : diskB A E D with
  | false => exact Ev.neg (by decide) (Ev.some (by unfold swaV;rw [hd];rfl))
  | true =>
    have hf:=disk_facts hd
    refine Ev.pos rfl ?_
    rw [l3Copy_eq A E D (by omega) (by omega) (by omega)]
    simp only [Option.bind_some]
    have hX : Ev (fun k => spec_l3Swap.j0 k h e s o t true A E D) (A,E,D,1):=Ev.succ (by simp only [spec_l3Swap.j0];exact Ev.pos trivial (Ev.some rfl))
    have key : Ev (fun k => spec_l3Swap.f k A E D h e s o t) (swaV A E D h e s o t):=by
      unfold spec_l3Swap.f swaV askV
      rw [l3There_eq,if_pos hd]
      simp only [Option.bind_some,List.all_cons,List.all_nil,Bool.and_true]
      cases h1 : hostB h with
      | false => exact Ev.neg (by simp) (by simpa using hX)
      | true =>
        have:=hostB_facts h1
        cases h2 : secB A.length s with
        | false => exact Ev.neg (by decide) (by simpa using hX)
        | true =>
          have hs:=secB_facts h2
          refine Ev.pos rfl ?_
          unfold sizeB
          by_cases h3 : (t.size : Int) > 700
          · rw [decide_eq_true h3];exact Ev.pos h3 (by simpa using hX)
          · rw [decide_eq_false h3]
            refine Ev.neg h3 ?_
            by_cases h4 : (o.size : Int) > 700
            · rw [decide_eq_true h4];simpa using hX
            · rw [decide_eq_false h4]
              refine Ev.succ ?_
              simp only [spec_l3Swap.j0,Bool.not_false,Bool.and_self,if_true]
              refine Ev.neg (by decide) (Ev.pos (by omega) (Ev.pos (by omega) ?_))
              by_cases he : rd E h = e
              · refine Ev.pos he (Ev.pos (by omega) (Ev.pos (by omega) ?_))
                rw [if_pos he.symm,if_pos rfl]
                by_cases hq : (rdOf ByteArray.empty A s).toList = o.toList
                · rw [if_pos hq];exact Ev.pos hq (spec_swa_l0 A E D h s t (by omega) hs)
                · exact Ev.neg hq (Ev.some (by rw [if_neg hq]))
              · exact Ev.neg he (Ev.some (by
                  have he2 : ¬ e = rd E h:=fun x => he x.symm
                  rw [if_neg he2];rfl))
    exact Ev.bind key (Ev.some rfl)
end Go.Proofs.Ytiejilaahkkhmaa.L
