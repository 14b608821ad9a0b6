-- Ours: printed or written for this claim; cut to what the theorem needs.
import Derived.Test.YtiejilaahkkhmaaZPx12
import Derived.Test.YtiejilaahkkhmaaZPx15
import Derived.Test.YtiejilaahkkhmaaZPx16
import Derived.Test.YtiejilaahkkhmaaZPx3
import Derived.Test.YtiejilaahkkhmaaZPx4
import Derived.Test.YtiejilaahkkhmaaZDsk
set_option linter.unusedVariables false
namespace Go.Proofs.Ytiejilaahkkhmaa.L
open Go.RowKit Go.Proofs.Ytiejilaahkkhmaa.P Go.Proofs.YtiejilaahkkhmaaW.PrintWords Go.Proofs.YtiejilaahkkhmaaW.PrintLast Go.Proofs.YtiejilaahkkhmaaW.PrintMore Go.Proofs.Ytiejilaahkkhmaa.U
theorem in_eq (a b c : Int) : impl_in.f a b c = some (decide (b ≤ a) && decide (a ≤ c)):=by
  unfold impl_in.f
  by_cases h : b ≤ a <;> simp [h]
theorem l1In_eq (a b c : Int) : spec_l1In.f a b c = some (decide (b ≤ a) && decide (a ≤ c)):=by
  unfold spec_l1In.f
  by_cases h : b ≤ a <;> simp [h]
def hostB (h : Int) : Bool:=decide (0 ≤ h) && decide (h ≤ 2)
def sizeB (s : ByteArray) : Bool:=!decide ((s.size : Int) > 700)
def epB (e : Int) : Bool:=decide (1 ≤ e) && decide (e ≤ 100000)
def secB (n : Nat) (s : Int) : Bool:=decide (0 ≤ s) && decide (s < (n : Int))
def wrB (n : Nat) (E : List Int) (w : IW) : Bool:=hostB w.f0 && (decide (w.f1 = rd E w.f0) && (secB n w.f2 && sizeB w.f3))
def diskB (A : List ByteArray) (E : List Int) (D : List IW) : Bool :=
  (decide (1 ≤ (A.length : Int)) && decide ((A.length : Int) ≤ 40)) && (decide ((E.length : Int) = 3) && (!decide ((D.length : Int) > 40) && (A.all sizeB && (E.all epB && D.all (wrB A.length E)))))
theorem disk_facts {A : List ByteArray} {E : List Int} {D : List IW} (h : diskB A E D = true) : 1 ≤ A.length ∧ A.length ≤ 40 ∧ E.length = 3 ∧ D.length ≤ 40 ∧ ∀ w ∈ D,wrB A.length E w = true:=by
  unfold diskB at h
  simp only [Bool.and_eq_true,decide_eq_true_eq,Bool.not_eq_true',decide_eq_false_iff_not,List.all_eq_true] at h
  exact ⟨by omega,by omega,by omega,by omega,h.2.2.2.2.2⟩
theorem l3Host_eq (h : Int) : spec_l3Host.f h = some (hostB h):=by
  unfold spec_l3Host.f hostB
  by_cases h0 : 0 ≤ h <;> simp [h0] <;> omega
theorem isHost_eq (h : Int) : impl_isHost.f h = some (hostB h):=by
  unfold impl_isHost.f
  rw [in_eq];rfl
theorem hasSector_eq (A : List ByteArray) (E : List Int) (D : List IW) (s : Int) (h : A.length ≤ 1048576) : impl_Disk_hasSector.f A E D s = some (secB A.length s):=by
  unfold impl_Disk_hasSector.f secB
  rw [wrap_id (i:=(A.length : Int) - 1) (by omega) (by omega),in_eq]
  simp only [Option.bind_some,Option.some.injEq]
  congr 1
  simp only [decide_eq_decide];omega
theorem hostB_facts {h : Int} (k : hostB h = true) : 0 ≤ h ∧ h ≤ 2:=by
  unfold hostB at k
  simpa using k
theorem secB_facts {n : Nat} {h : Int} (k : secB n h = true) : 0 ≤ h ∧ h < (n : Int):=by
  unfold secB at k
  simpa using k
theorem spec_l2_ev (A : List ByteArray) (E : List Int) (D : List IW) (hE : E.length = 3) (hD : D.length ≤ 1048576) : Ev (fun k => spec_DiskOk.l2 k 0 A E D) (D.all (wrB A.length E)):=by
  refine all_loop D (wrB A.length E) (fun k i => spec_DiskOk.l2 k i A E D) ?_ ?_ ?_
  · simp only [spec_DiskOk.l2]
    exact Ev.neg (by omega) (Ev.some rfl)
  · intro i h hq
    simp only [spec_DiskOk.l2,l3Host_eq,Option.bind_some]
    rw [rdI_at h]
    refine Ev.pos (by omega) (Ev.pos (by omega) ?_)
    unfold wrB at hq
    cases h1 : hostB D[i].f0 with
    | false => exact Ev.neg (by decide) (Ev.some rfl)
    | true =>
      have:=hostB_facts h1
      refine Ev.pos rfl (Ev.pos (by omega) (Ev.pos (by omega) ?_))
      rw [h1,Bool.true_and] at hq
      by_cases h2 : D[i].f1 = rd E D[i].f0
      · refine Ev.pos h2 ?_
        rw [decide_eq_true h2,Bool.true_and] at hq
        by_cases h3 : D[i].f2 < 0
        · exact Ev.pos h3 (Ev.some rfl)
        · refine Ev.neg h3 ?_
          by_cases h4 : D[i].f2 ≥ (A.length : Int)
          · exact Ev.pos h4 (Ev.some rfl)
          · refine Ev.neg h4 ?_
            have h5 : secB A.length D[i].f2 = true:=by unfold secB;simp;omega
            rw [h5,Bool.true_and] at hq
            unfold sizeB at hq
            exact Ev.pos (by simpa using hq) (Ev.some rfl)
      · exact Ev.neg h2 (Ev.some rfl)
  · intro i h r hq hn
    simp only [spec_DiskOk.l2,l3Host_eq,Option.bind_some]
    rw [rdI_at h,wrap_up h (by omega)]
    unfold wrB sizeB at hq
    simp only [Bool.and_eq_true,decide_eq_true_eq,Bool.not_eq_true',decide_eq_false_iff_not] at hq
    have h1:=hostB_facts hq.1
    have h2:=secB_facts hq.2.2.1
    rw [hq.1]
    exact Ev.pos (by omega) (Ev.pos (by omega) (Ev.pos rfl (Ev.pos (by omega) (Ev.pos (by omega) (Ev.pos hq.2.1 (Ev.neg (by omega) (Ev.neg (by omega) (Ev.neg hq.2.2.2 hn))))))))
theorem spec_l1_ev (A : List ByteArray) (E : List Int) (D : List IW) (hE : E.length = 3) (hD : D.length ≤ 1048576) : Ev (fun k => spec_DiskOk.l1 k 0 A E D) (E.all epB && D.all (wrB A.length E)):=by
  have h2:=spec_l2_ev A E D hE hD
  have key:=ev_for (fun k i => spec_DiskOk.l1 k i A E D) E.length (fun i => (E.drop i).all epB && D.all (wrB A.length E)) (by
    intro i hi next
    simp only [spec_DiskOk.l1,l1In_eq,Option.bind_some]
    rcases Nat.lt_or_ge i E.length with hlt|hge
    · rw [rd_at hlt,wrap_up hlt (by omega),List.drop_eq_getElem_cons hlt,List.all_cons]
      refine Ev.pos (by omega) (Ev.pos (by omega) ?_)
      cases h : (decide (1 ≤ E[i]) && decide (E[i] ≤ 100000)) with
      | false => rw [show epB E[i] = false from h];exact Ev.neg (by decide) (Ev.some rfl)
      | true => rw [show epB E[i] = true from h];exact Ev.pos rfl (by simpa using next hlt)
    · rw [List.drop_of_length_le hge]
      exact Ev.neg (by omega) (by simpa using h2)) 0 (Nat.zero_le _)
  simpa using key
theorem spec_l0_ev (A : List ByteArray) (E : List Int) (D : List IW) (hA : A.length ≤ 1048576) (hE : E.length = 3) (hD : D.length ≤ 1048576) : Ev (fun k => spec_DiskOk.l0 k 0 A E D) (A.all sizeB && (E.all epB && D.all (wrB A.length E))):=by
  have h1:=spec_l1_ev A E D hE hD
  have key:=ev_for (fun k i => spec_DiskOk.l0 k i A E D) A.length (fun i => (A.drop i).all sizeB && (E.all epB && D.all (wrB A.length E))) (by
    intro i hi next
    simp only [spec_DiskOk.l0]
    rcases Nat.lt_or_ge i A.length with hlt|hge
    · rw [rdOf_at hlt,wrap_up hlt (by omega),List.drop_eq_getElem_cons hlt,List.all_cons]
      refine Ev.pos (by omega) (Ev.pos (by omega) ?_)
      by_cases h : (A[i].size : Int) > 700
      · rw [show sizeB A[i] = false by unfold sizeB;simp;omega];exact Ev.pos h (Ev.some rfl)
      · rw [show sizeB A[i] = true by unfold sizeB;simp;omega];exact Ev.neg h (by simpa using next hlt)
    · rw [List.drop_of_length_le hge]
      exact Ev.neg (by omega) (by simpa using h1)) 0 (Nat.zero_le _)
  simpa using key
theorem spec_DiskOk_ev (A : List ByteArray) (E : List Int) (D : List IW) (hA : A.length ≤ 1048576) (hD : D.length ≤ 1048576) : Ev (fun k => spec_DiskOk.f k A E D) (diskB A E D):=by
  have hT : Ev (fun k => spec_DiskOk.j0 k true A E D) false:=Ev.succ (by simp only [spec_DiskOk.j0];exact Ev.pos trivial (Ev.some rfl))
  unfold spec_DiskOk.f diskB
  rw [l1In_eq]
  simp only [Option.bind_some]
  cases (decide (1 ≤ (A.length : Int)) && decide ((A.length : Int) ≤ 40)) with
  | false => exact Ev.neg (by decide) hT
  | true =>
    refine Ev.pos rfl ?_
    by_cases hE : (E.length : Int) = 3
    · refine Ev.pos hE ?_
      rw [decide_eq_true hE]
      by_cases h : (D.length : Int) > 40
      · rw [decide_eq_true h];exact hT
      · rw [decide_eq_false h]
        refine Ev.succ ?_
        simp only [spec_DiskOk.j0]
        exact Ev.neg (by decide) (by simpa using spec_l0_ev A E D hA (by omega) hD)
    · rw [decide_eq_false hE]
      exact Ev.neg hE hT
theorem c1_ev (A : List ByteArray) (hl : A.length ≤ 1048576) : Ev (fun k => slices_ContainsFunc_string_at_isDisk_1.f k A) (!A.all sizeB):=by
  obtain ⟨r,h1,h2,_⟩:=index_any A (fun d => !sizeB d) (fun k i => slices_IndexFunc_string_at_isDisk_1.l0 k A (A.length : Int) i) (by
      simp only [slices_IndexFunc_string_at_isDisk_1.l0]
      exact Ev.neg (by omega) (Ev.some rfl)) (by
      intro i h hq
      simp only [slices_IndexFunc_string_at_isDisk_1.l0,impl_isDisk_1.f,Option.bind_some]
      rw [rdOf_at h]
      unfold sizeB at hq
      exact Ev.pos (by omega) (Ev.pos (by omega) (Ev.pos (by omega) (Ev.pos (by simpa using hq) (Ev.some rfl))))) (by
      intro i h r hq hn
      simp only [slices_IndexFunc_string_at_isDisk_1.l0,impl_isDisk_1.f,Option.bind_some]
      rw [rdOf_at h,wrap_up h (by omega)]
      unfold sizeB at hq
      exact Ev.pos (by omega) (Ev.pos (by omega) (Ev.pos (by omega) (Ev.neg (by simpa using hq) hn))))
  unfold slices_ContainsFunc_string_at_isDisk_1.f slices_IndexFunc_string_at_isDisk_1.f
  refine Ev.bind h1 (Ev.some ?_)
  rw [h2,List.all_eq_not_any_not,Bool.not_not]
theorem c2_ev (E : List Int) (hl : E.length ≤ 1048576) : Ev (fun k => slices_ContainsFunc_int_at_isDisk_2.f k E) (!E.all epB):=by
  obtain ⟨r,h1,h2,_⟩:=index_any E (fun d => !epB d) (fun k i => slices_IndexFunc_int_at_isDisk_2.l0 k E (E.length : Int) i) (by
      simp only [slices_IndexFunc_int_at_isDisk_2.l0]
      exact Ev.neg (by omega) (Ev.some rfl)) (by
      intro i h hq
      simp only [slices_IndexFunc_int_at_isDisk_2.l0,impl_isDisk_2.f,in_eq,Option.bind_some]
      rw [rd_at h]
      exact Ev.pos (by omega) (Ev.pos (by omega) (Ev.pos (by omega) (Ev.pos hq (Ev.some rfl))))) (by
      intro i h r hq hn
      simp only [slices_IndexFunc_int_at_isDisk_2.l0,impl_isDisk_2.f,in_eq,Option.bind_some]
      rw [rd_at h,wrap_up h (by omega)]
      exact Ev.pos (by omega) (Ev.pos (by omega) (Ev.pos (by omega) (Ev.neg (by unfold epB at hq;simpa using hq) hn))))
  unfold slices_ContainsFunc_int_at_isDisk_2.f slices_IndexFunc_int_at_isDisk_2.f
  refine Ev.bind h1 (Ev.some ?_)
  rw [h2,List.all_eq_not_any_not,Bool.not_not]
theorem isDisk_3_eq (A : List ByteArray) (E : List Int) (D : List IW) (w : IW) (hA : A.length ≤ 1048576) (hE : E.length = 3) : impl_isDisk_3_at.f w.f0 w.f1 w.f2 w.f3 A E D = some (!wrB A.length E w):=by
  unfold impl_isDisk_3_at.f wrB
  rw [isHost_eq]
  simp only [Option.bind_some]
  cases h1 : hostB w.f0 with
  | false => simp
  | true =>
    have:=hostB_facts h1
    rw [if_pos rfl,if_pos (by omega),if_pos (by omega)]
    by_cases h2 : w.f1 = rd E w.f0
    · rw [if_pos h2,hasSector_eq A E D w.f2 hA,decide_eq_true h2]
      simp only [Option.bind_some]
      cases h3 : secB A.length w.f2 with
      | false => simp
      | true => simp [sizeB]
    · rw [if_neg h2,decide_eq_false h2];simp
theorem c3_ev (A : List ByteArray) (E : List Int) (D : List IW) (hA : A.length ≤ 1048576) (hE : E.length = 3) (hl : D.length ≤ 1048576) : Ev (fun k => slices_ContainsFunc_impl_Write_at_isDisk_3.f k D A E D) (!D.all (wrB A.length E)):=by
  obtain ⟨r,h1,h2,_⟩:=index_any D (fun d => !wrB A.length E d) (fun k i => slices_IndexFunc_impl_Write_at_isDisk_3.l0 k D (D.length : Int) i A E D) (by
      simp only [slices_IndexFunc_impl_Write_at_isDisk_3.l0]
      exact Ev.neg (by omega) (Ev.some rfl)) (by
      intro i h hq
      simp only [slices_IndexFunc_impl_Write_at_isDisk_3.l0]
      rw [rdI_at h,isDisk_3_eq A E D D[i] hA hE]
      exact Ev.pos (by omega) (Ev.pos (by omega) (Ev.pos (by omega) (Ev.bind (Ev.some rfl) (Ev.pos hq (Ev.some rfl)))))) (by
      intro i h r hq hn
      simp only [slices_IndexFunc_impl_Write_at_isDisk_3.l0]
      rw [rdI_at h,wrap_up h (by omega),isDisk_3_eq A E D D[i] hA hE]
      exact Ev.pos (by omega) (Ev.pos (by omega) (Ev.pos (by omega) (Ev.bind (Ev.some rfl) (Ev.neg (by simpa using hq) hn)))))
  unfold slices_ContainsFunc_impl_Write_at_isDisk_3.f slices_IndexFunc_impl_Write_at_isDisk_3.f
  refine Ev.bind h1 (Ev.some ?_)
  rw [h2,List.all_eq_not_any_not,Bool.not_not]
theorem isDisk_ev (A : List ByteArray) (E : List Int) (D : List IW) (hA : A.length ≤ 1048576) (hD : D.length ≤ 1048576) : Ev (fun k => impl_isDisk.f k A E D) (diskB A E D):=by
  have hT : Ev (fun k => impl_isDisk.j0 k true A E D) false:=Ev.succ (by simp only [impl_isDisk.j0];exact Ev.pos trivial (Ev.some rfl))
  unfold impl_isDisk.f diskB
  rw [in_eq]
  simp only [Option.bind_some]
  cases (decide (1 ≤ (A.length : Int)) && decide ((A.length : Int) ≤ 40)) with
  | false => exact Ev.neg (by decide) hT
  | true =>
    refine Ev.pos rfl ?_
    by_cases hE : (E.length : Int) = 3
    · refine Ev.pos hE ?_
      rw [decide_eq_true hE]
      by_cases h : (D.length : Int) > 40
      · rw [decide_eq_true h];exact hT
      · rw [decide_eq_false h]
        refine Ev.succ ?_
        simp only [impl_isDisk.j0]
        refine Ev.neg (by decide) (Ev.bind (c1_ev A hA) ?_)
        cases h1 : A.all sizeB with
        | false => exact Ev.pos rfl (Ev.some rfl)
        | true =>
          refine Ev.neg (by decide) (Ev.bind (c2_ev E (by omega)) ?_)
          cases h2 : E.all epB with
          | false => exact Ev.pos rfl (Ev.some rfl)
          | true => exact Ev.neg (by decide) (Ev.bind (c3_ev A E D hA (by omega) hD) (Ev.some (by simp)))
    · rw [decide_eq_false hE]
      exact Ev.neg hE hT
theorem copied_eq (A : List ByteArray) (E : List Int) (D : List IW) (h1 : A.length ≤ 1048576) (h2 : E.length ≤ 1048576) (h3 : D.length ≤ 1048576) : impl_Disk_copied.f A E D = some (A,E,D):=by
  unfold impl_Disk_copied.f slices_Clone_string.f slices_Clone_int.f slices_Clone_impl_Write.f
  simp only [Option.bind_some,List.length_nil,List.nil_append]
  rw [if_pos (by omega),if_pos (by omega),if_pos (by omega)]
  rfl
theorem l3Copy_eq (A : List ByteArray) (E : List Int) (D : List IW) (h1 : A.length ≤ 1048576) (h2 : E.length ≤ 1048576) (h3 : D.length ≤ 1048576) : spec_l3Copy.f A E D = some (A,E,D):=by
  unfold spec_l3Copy.f
  simp only [Option.bind_some,List.length_nil,List.nil_append]
  rw [if_pos (by omega),if_pos (by omega),if_pos (by omega)]
theorem l3There_eq (A : List ByteArray) (E : List Int) (D : List IW) (h s : Int) : spec_l3There.f A E D h s = some (hostB h && secB A.length s):=by
  unfold spec_l3There.f
  rw [l3Host_eq]
  simp only [Option.bind_some]
  cases hostB h with
  | false => simp
  | true =>
    unfold secB
    by_cases h0 : s ≥ 0
    · simp [h0]
    · simp [h0]
theorem ca_ev (T : List ByteArray) (hl : T.length ≤ 1048576) : Ev (fun k => slices_ContainsFunc_string_at_Disk_asked_1.f k T) (!T.all sizeB):=by
  obtain ⟨r,h1,h2,_⟩:=index_any T (fun d => !sizeB d) (fun k i => slices_IndexFunc_string_at_Disk_asked_1.l0 k T (T.length : Int) i) (by
      simp only [slices_IndexFunc_string_at_Disk_asked_1.l0]
      exact Ev.neg (by omega) (Ev.some rfl)) (by
      intro i h hq
      simp only [slices_IndexFunc_string_at_Disk_asked_1.l0,impl_Disk_asked_1.f,Option.bind_some]
      rw [rdOf_at h]
      unfold sizeB at hq
      exact Ev.pos (by omega) (Ev.pos (by omega) (Ev.pos (by omega) (Ev.pos (by simpa using hq) (Ev.some rfl))))) (by
      intro i h r hq hn
      simp only [slices_IndexFunc_string_at_Disk_asked_1.l0,impl_Disk_asked_1.f,Option.bind_some]
      rw [rdOf_at h,wrap_up h (by omega)]
      unfold sizeB at hq
      exact Ev.pos (by omega) (Ev.pos (by omega) (Ev.pos (by omega) (Ev.neg (by simpa using hq) hn))))
  unfold slices_ContainsFunc_string_at_Disk_asked_1.f slices_IndexFunc_string_at_Disk_asked_1.f
  refine Ev.bind h1 (Ev.some ?_)
  rw [h2,List.all_eq_not_any_not,Bool.not_not]
def askV (n : Nat) (E : List Int) (h e s : Int) (T : List ByteArray) : Int:=if (hostB h && (secB n s && T.all sizeB)) = true then (if e = rd E h then 0 else 2) else 1
theorem asked_ev (A : List ByteArray) (E : List Int) (D : List IW) (h e s : Int) (T : List ByteArray) (hA : A.length ≤ 1048576) (hE : E.length = 3) (hT : T.length ≤ 1048576) : Ev (fun k => impl_Disk_asked.f k A E D h e s T) (askV A.length E h e s T):=by
  have hX : Ev (fun k => impl_Disk_asked.j0 k h e true A E D) 1:=Ev.succ (by simp only [impl_Disk_asked.j0];exact Ev.pos trivial (Ev.some rfl))
  unfold impl_Disk_asked.f askV
  rw [isHost_eq]
  simp only [Option.bind_some]
  cases h1 : hostB h with
  | false => exact Ev.neg (by decide) (by simpa using hX)
  | true =>
    have:=hostB_facts h1
    refine Ev.pos rfl ?_
    rw [hasSector_eq A E D s hA]
    simp only [Option.bind_some]
    cases h2 : secB A.length s with
    | false => exact Ev.neg (by decide) (by simpa using hX)
    | true =>
      refine Ev.pos rfl (Ev.bind (ca_ev T hT) ?_)
      cases h3 : T.all sizeB with
      | false => simpa using hX
      | true =>
        refine Ev.succ ?_
        simp only [impl_Disk_asked.j0,Bool.not_true,Bool.and_self,if_true]
        refine Ev.neg (by decide) (Ev.pos (by omega) (Ev.pos (by omega) ?_))
        by_cases he : e = rd E h
        · exact Ev.pos he (Ev.some (by rw [if_pos he]))
        · exact Ev.neg he (Ev.some (by rw [if_neg he]))
end Go.Proofs.Ytiejilaahkkhmaa.L
