-- Ours: printed or written for this claim; cut to what the theorem needs.
import Derived.Test.YtiejilaahkkhmaaZPx17
import Derived.Test.YtiejilaahkkhmaaZPx29
import Derived.Test.YtiejilaahkkhmaaZDok
set_option linter.unusedVariables false
namespace Go.Proofs.Ytiejilaahkkhmaa.L
open Go.RowKit Go.Proofs.Ytiejilaahkkhmaa.P Go.Proofs.YtiejilaahkkhmaaW.PrintWords Go.Proofs.YtiejilaahkkhmaaW.PrintLast Go.Proofs.YtiejilaahkkhmaaW.PrintMore Go.Proofs.Ytiejilaahkkhmaa.U
abbrev FS:=List ByteArray × List IW
def fluF (h : Int) (p : FS) (w : IW) : FS:=if w.f0 = h then (p.1.set w.f2.toNat w.f3,p.2) else (p.1,p.2 ++ [w])
theorem fluF_len (h : Int) (l : List IW) (p : FS) : (l.foldl (fluF h) p).1.length = p.1.length ∧ (l.foldl (fluF h) p).2.length ≤ p.2.length + l.length:=by
  induction l generalizing p with
  | nil => simp
  | cons w l ih =>
    simp only [List.foldl_cons,List.length_cons]
    have:=ih (fluF h p w)
    unfold fluF at this ⊢
    split at this
    · rename_i hw;rw [if_pos hw];simp only [List.length_set] at this ⊢;omega
    · rename_i hw;rw [if_neg hw];simp only [List.length_append,List.length_cons,List.length_nil] at this ⊢;omega
def fluR (A : List ByteArray) (E : List Int) (D : List IW) (h : Int) : List ByteArray × List Int × List IW × Int:=((D.foldl (fluF h) (A,[])).1,E,(D.foldl (fluF h) (A,[])).2,0)
def fluV (A : List ByteArray) (E : List Int) (D : List IW) (h e : Int) : List ByteArray × List Int × List IW × Int :=
  if diskB A E D = true then (if hostB h = true then (if e = rd E h then fluR A E D h else (A,E,D,2)) else (A,E,D,1)) else ([],[],[],1)
theorem fluV_len (A : List ByteArray) (E : List Int) (D : List IW) (h e : Int) : (fluV A E D h e).1.length ≤ 40 ∧ (fluV A E D h e).2.1.length ≤ 40 ∧ (fluV A E D h e).2.2.1.length ≤ 41:=by
  unfold fluV
  by_cases hd : diskB A E D = true
  · have:=disk_facts hd
    rw [if_pos hd]
    split
    · split
      · unfold fluR
        have hl:=fluF_len h D (A,[])
        simp only [List.length_nil] at hl ⊢
        omega
      · simp only [];omega
    · simp only [];omega
  · rw [if_neg hd];simp
theorem impl_flu_l0 (A : List ByteArray) (E : List Int) (D : List IW) (h : Int) (hA : A.length ≤ 1048576) (hD : D.length ≤ 1048576) (hw : ∀ w ∈ D,secB A.length w.f2 = true) : Ev (fun k => impl_Flush.l0 k h [] D (D.length : Int) 0 A E D) (fluR A E D h):=by
  have key:=ev_forS (fun k (s : FS) i => impl_Flush.l0 k h s.2 D (D.length : Int) i s.1 E D) D.length (fun i s => s.1.length = A.length ∧ s.2.length ≤ i) (fun i s => (((D.drop i).foldl (fluF h) s).1,E,((D.drop i).foldl (fluF h) s).2,0)) (by
    intro i s hi ⟨hs1,hs2⟩ next
    simp only [impl_Flush.l0]
    rcases Nat.lt_or_ge i D.length with hlt|hge
    · have hsec:=secB_facts (hw D[i] (List.getElem_mem hlt))
      rw [rdI_at hlt,wrap_up hlt (by omega),List.drop_eq_getElem_cons hlt,List.foldl_cons]
      refine Ev.pos (by omega) (Ev.pos (by omega) (Ev.pos (by omega) ?_))
      by_cases hh : D[i].f0 = h
      · refine Ev.pos hh (Ev.pos (by omega) (Ev.pos (by omega) ?_))
        have n:=next hlt (s.1.set D[i].f2.toNat D[i].f3,s.2) ⟨by simpa using hs1,by simp only [];omega⟩
        rw [show fluF h s D[i] = (s.1.set D[i].f2.toNat D[i].f3,s.2) by unfold fluF;rw [if_pos hh]]
        exact n
      · refine Ev.neg hh (Ev.pos (by omega) ?_)
        have n:=next hlt (s.1,s.2 ++ [D[i]]) ⟨hs1,by simp only [List.length_append,List.length_cons,List.length_nil];omega⟩
        rw [show fluF h s D[i] = (s.1,s.2 ++ [D[i]]) by unfold fluF;rw [if_neg hh]]
        exact n
    · rw [List.drop_of_length_le hge]
      exact Ev.neg (by omega) (Ev.some rfl)) 0 (A,[]) (Nat.zero_le _) ⟨rfl,by simp⟩
  simpa [fluR] using key
theorem spec_flu_l0 (A : List ByteArray) (E : List Int) (D : List IW) (h : Int) (hA : A.length ≤ 1048576) (hD : D.length ≤ 1048576) (hw : ∀ w ∈ D,secB A.length w.f2 = true) : Ev (fun k => spec_l3Flush.l0 k h [] 0 A E D) (fluR A E D h):=by
  have key:=ev_forS (fun k (s : FS) i => spec_l3Flush.l0 k h s.2 i s.1 E D) D.length (fun i s => s.1.length = A.length ∧ s.2.length ≤ i) (fun i s => (((D.drop i).foldl (fluF h) s).1,E,((D.drop i).foldl (fluF h) s).2,0)) (by
    intro i s hi ⟨hs1,hs2⟩ next
    simp only [spec_l3Flush.l0]
    rcases Nat.lt_or_ge i D.length with hlt|hge
    · have hsec:=secB_facts (hw D[i] (List.getElem_mem hlt))
      rw [rdI_at hlt,wrap_up hlt (by omega),List.drop_eq_getElem_cons hlt,List.foldl_cons]
      refine Ev.pos (by omega) (Ev.pos (by omega) ?_)
      by_cases hh : D[i].f0 = h
      · refine Ev.pos hh (Ev.pos (by omega) (Ev.pos (by omega) ?_))
        have n:=next hlt (s.1.set D[i].f2.toNat D[i].f3,s.2) ⟨by simpa using hs1,by simp only [];omega⟩
        rw [show fluF h s D[i] = (s.1.set D[i].f2.toNat D[i].f3,s.2) by unfold fluF;rw [if_pos hh]]
        exact n
      · refine Ev.neg hh (Ev.pos (by omega) ?_)
        have n:=next hlt (s.1,s.2 ++ [D[i]]) ⟨hs1,by simp only [List.length_append,List.length_cons,List.length_nil];omega⟩
        rw [show fluF h s D[i] = (s.1,s.2 ++ [D[i]]) by unfold fluF;rw [if_neg hh]]
        exact n
    · rw [List.drop_of_length_le hge]
      exact Ev.neg (by omega) (Ev.some rfl)) 0 (A,[]) (Nat.zero_le _) ⟨rfl,by simp⟩
  simpa [fluR] using key
theorem disk_secs {A : List ByteArray} {E : List Int} {D : List IW} (h : diskB A E D = true) : ∀ w ∈ D,secB A.length w.f2 = true:=by
  intro w hw
  have:=(disk_facts h).2.2.2.2 w hw
  unfold wrB at this
  simp only [Bool.and_eq_true] at this
  exact this.2.2.1
theorem impl_Flush_ev (A : List ByteArray) (E : List Int) (D : List IW) (h e : Int) (hA : A.length ≤ 1048576) (hD : D.length ≤ 1048576) : Ev (fun k => impl_Flush.f k A E D h e) (fluV A E D h e):=by
  unfold impl_Flush.f
  refine Ev.bind (isDisk_ev A E D hA hD) ?_
  cases hd : diskB A E D with
  | false => exact Ev.neg (by decide) (Ev.some (by unfold fluV;rw [hd];rfl))
  | true =>
    have hf:=disk_facts hd
    refine Ev.pos rfl ?_
    rw [copied_eq A E D (by omega) (by omega) (by omega)]
    simp only [Option.bind_some]
    refine Ev.bind (asked_ev A E D h e 0 [] (by omega) (by omega) (by simp)) ?_
    unfold fluV askV
    rw [if_pos hd]
    have h0 : secB A.length 0 = true:=by unfold secB;simp;omega
    rw [h0]
    cases hh : hostB h with
    | false => exact Ev.neg (by simp) (Ev.some (by simp))
    | true =>
      by_cases he : e = rd E h
      · exact Ev.pos (by simp [he]) (by simpa [he] using impl_flu_l0 A E D h (by omega) (by omega) (disk_secs hd))
      · exact Ev.neg (by simp [he]) (Ev.some (by simp [he]))
theorem spec_Flush_ev (A : List ByteArray) (E : List Int) (D : List IW) (h e : Int) (hA : A.length ≤ 1048576) (hD : D.length ≤ 1048576) : Ev (fun k => spec_Flush.f k A E D h e) (fluV A E D h e):=by
  unfold spec_Flush.f
  refine Ev.bind (spec_DiskOk_ev A E D hA hD) ?_
  cases hd : diskB A E D with
  | false => exact Ev.neg (by decide) (Ev.some (by unfold fluV;rw [hd];rfl))
  | true =>
    have hf:=disk_facts hd
    refine Ev.pos rfl ?_
    rw [l3Copy_eq A E D (by omega) (by omega) (by omega)]
    simp only [Option.bind_some]
    have key : Ev (fun k => spec_l3Flush.f k A E D h e) (fluV A E D h e):=by
      unfold spec_l3Flush.f fluV
      rw [l3Host_eq,if_pos hd]
      simp only [Option.bind_some]
      cases hh : hostB h with
      | false => exact Ev.neg (by simp) (Ev.some (by simp))
      | true =>
        have:=hostB_facts hh
        refine Ev.pos rfl (Ev.pos (by omega) (Ev.pos (by omega) ?_))
        by_cases he : e = rd E h
        · exact Ev.pos he.symm (by simpa [he] using spec_flu_l0 A E D h (by omega) (by omega) (disk_secs hd))
        · exact Ev.neg (fun x => he x.symm) (Ev.some (by simp [he]))
    exact Ev.bind key (Ev.some rfl)
end Go.Proofs.Ytiejilaahkkhmaa.L
