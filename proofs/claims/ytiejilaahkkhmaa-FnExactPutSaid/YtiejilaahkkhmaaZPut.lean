-- Ours: printed or written for this claim; cut to what the theorem needs.
import Derived.Test.YtiejilaahkkhmaaZPx28
import Derived.Test.YtiejilaahkkhmaaZDok
set_option linter.unusedVariables false
namespace Go.Proofs.Ytiejilaahkkhmaa.L
open Go.RowKit Go.Proofs.Ytiejilaahkkhmaa.P Go.Proofs.YtiejilaahkkhmaaW.PrintWords Go.Proofs.YtiejilaahkkhmaaW.PrintLast Go.Proofs.YtiejilaahkkhmaaW.PrintMore Go.Proofs.Ytiejilaahkkhmaa.U
abbrev DR:=List ByteArray × List Int × List IW × Int
def putV (A : List ByteArray) (E : List Int) (D : List IW) (h e s : Int) (t : ByteArray) : DR :=
  if diskB A E D = true then (if askV A.length E h e s [t] = 0 then (if (D.length : Int) = 40 then (A,E,D,3) else (A,E,D ++ [⟨h,e,s,t⟩],0)) else (A,E,D,askV A.length E h e s [t])) else ([],[],[],1)
theorem putV_len (A : List ByteArray) (E : List Int) (D : List IW) (h e s : Int) (t : ByteArray) : (putV A E D h e s t).1.length ≤ 40 ∧ (putV A E D h e s t).2.1.length ≤ 40 ∧ (putV A E D h e s t).2.2.1.length ≤ 41:=by
  unfold putV
  by_cases hd : diskB A E D = true
  · have:=disk_facts hd
    rw [if_pos hd]
    split
    · split
      · simp only [];omega
      · simp only [List.length_append,List.length_cons,List.length_nil];omega
    · simp only [];omega
  · rw [if_neg hd];simp
theorem impl_Put_ev (A : List ByteArray) (E : List Int) (D : List IW) (h e s : Int) (t : ByteArray) (hA : A.length ≤ 1048576) (hD : D.length ≤ 1048576) : Ev (fun k => impl_Put.f k A E D h e s t) (putV A E D h e s t):=by
  unfold impl_Put.f
  refine Ev.bind (isDisk_ev A E D hA hD) ?_
  cases hd : diskB A E D with
  | false => exact Ev.neg (by decide) (Ev.some (by unfold putV;rw [hd];rfl))
  | true =>
    have hf:=disk_facts hd
    refine Ev.pos rfl ?_
    rw [copied_eq A E D (by omega) (by omega) (by omega)]
    simp only [Option.bind_some]
    refine Ev.bind (asked_ev A E D h e s [t] (by omega) (by omega) (by simp)) ?_
    unfold putV
    rw [if_pos hd]
    by_cases ha : askV A.length E h e s [t] = 0
    · refine Ev.pos ha ?_
      rw [if_pos ha]
      by_cases h4 : (D.length : Int) = 40
      · exact Ev.pos h4 (Ev.some (by rw [if_pos h4]))
      · exact Ev.neg h4 (Ev.pos (by omega) (Ev.some (by rw [if_neg h4])))
    · exact Ev.neg ha (Ev.some (by rw [if_neg ha]))
theorem spec_Put_ev (A : List ByteArray) (E : List Int) (D : List IW) (h e s : Int) (t : ByteArray) (hA : A.length ≤ 1048576) (hD : D.length ≤ 1048576) : Ev (fun k => spec_Put.f k A E D h e s t) (putV A E D h e s t):=by
  unfold spec_Put.f
  refine Ev.bind (spec_DiskOk_ev A E D hA hD) ?_
  cases hd : diskB A E D with
  | false => exact Ev.neg (by decide) (Ev.some (by unfold putV;rw [hd];rfl))
  | true =>
    have hf:=disk_facts hd
    refine Ev.pos rfl ?_
    rw [l3Copy_eq A E D (by omega) (by omega) (by omega)]
    simp only [Option.bind_some]
    have hX : Ev (fun k => spec_l3Put.j0 k h e s t true A E D) (A,E,D,1):=Ev.succ (by simp only [spec_l3Put.j0];exact Ev.pos trivial (Ev.some rfl))
    have key : Ev (fun k => spec_l3Put.f k A E D h e s t) (putV A E D h e s t):=by
      unfold spec_l3Put.f putV askV
      rw [l3There_eq,if_pos hd]
      simp only [Option.bind_some,List.all_cons,List.all_nil,Bool.and_true]
      cases h1 : hostB h with
      | false => exact Ev.neg (by simp) (by simpa using hX)
      | true =>
        have:=hostB_facts h1
        cases h2 : secB A.length s with
        | false => exact Ev.neg (by decide) (by simpa using hX)
        | true =>
          refine Ev.pos rfl ?_
          unfold sizeB
          by_cases h3 : (t.size : Int) > 700
          · rw [decide_eq_true h3];simpa using hX
          · rw [decide_eq_false h3]
            refine Ev.succ ?_
            simp only [spec_l3Put.j0,Bool.not_false,Bool.and_self,if_true]
            refine Ev.neg (by decide) (Ev.pos (by omega) (Ev.pos (by omega) ?_))
            by_cases he : rd E h = e
            · refine Ev.pos he ?_
              rw [if_pos he.symm,if_pos rfl]
              by_cases h4 : (D.length : Int) = 40
              · exact Ev.pos (by omega) (Ev.some (by rw [if_pos h4]))
              · exact Ev.neg (by omega) (Ev.pos (by omega) (Ev.some (by rw [if_neg h4])))
            · exact Ev.neg he (Ev.some (by
              have he2 : ¬ e = rd E h:=fun x => he x.symm
              rw [if_neg he2];rfl))
    exact Ev.bind key (Ev.some rfl)
end Go.Proofs.Ytiejilaahkkhmaa.L
