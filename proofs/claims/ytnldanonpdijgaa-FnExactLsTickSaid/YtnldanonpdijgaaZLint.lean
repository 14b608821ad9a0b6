-- Ours: printed or written for this claim; cut to what the theorem needs.
import Derived.Test.YtnldanonpdijgaaZPx3
import Derived.Test.YtnldanonpdijgaaZPx7
import Derived.Test.YtnldanonpdijgaaZU
namespace Go.Proofs.Ytnldanonpdijgaa.L
open Go.RowKit Go.Proofs.Ytnldanonpdijgaa.P Go.Proofs.YtnldanonpdijgaaW.PrintWords Go.Proofs.YtnldanonpdijgaaW.PrintLast Go.Proofs.Ytnldanonpdijgaa.U
theorem toIntS_ev (xs : List Int) (h : xs.length ≤ 1048576) : Ev (fun k => laws_toIntS.f k xs) xs:=by
  unfold laws_toIntS.f
  simp only [Int.toNat_natCast]
  refine Ev.pos (by omega) ?_
  refine Ev.pos (by omega) ?_
  have key:=ev_fill (fun k s i => laws_toIntS.l0 k xs s i) xs id (fun s => by
      simp only [laws_toIntS.l0]
      refine Ev.neg (by omega) ?_
      exact Ev.some rfl) (by
      intro i s r hi hs hn
      simp only [laws_toIntS.l0]
      refine Ev.pos (by omega) ?_
      refine Ev.pos (by omega) ?_
      refine Ev.pos (by omega) ?_
      rw [wrap_up hi (by omega),rd_at hi,Int.toNat_natCast]
      exact hn) (List.replicate xs.length 0) (by simp)
  simpa using key
theorem eqIntS_ev (xs ys : List Int) (h : xs.length ≤ 1048576) : Ev (fun k => laws_eqIntS.f k xs ys) (decide (xs = ys)):=by
  unfold laws_eqIntS.f
  by_cases hl : xs.length = ys.length
  · refine Ev.pos (by omega) ?_
    have key:=ev_for (fun k i => laws_eqIntS.l0 k xs ys i) xs.length (fun i => decide (xs.drop i = ys.drop i)) (by
      intro i hi next
      simp only [laws_eqIntS.l0]
      rcases Nat.lt_or_ge i xs.length with hlt|hge
      · refine Ev.pos (by omega) ?_
        refine Ev.pos (by omega) ?_
        refine Ev.pos (by omega) ?_
        rw [rd_at hlt,rd_at (show i < ys.length by omega),wrap_up hlt (by omega)]
        rw [List.drop_eq_getElem_cons hlt,List.drop_eq_getElem_cons (show i < ys.length by omega)]
        by_cases he : xs[i] = ys[i]
        · refine Ev.pos he ?_
          simp only [List.cons.injEq,he,true_and]
          exact next hlt
        · refine Ev.neg he ?_
          exact Ev.some (by simp only [List.cons.injEq,he,false_and,decide_false])
      · refine Ev.neg (by omega) ?_
        exact Ev.some (by simp [List.drop_of_length_le hge,List.drop_of_length_le (show ys.length ≤ i by omega)])) 0 (Nat.zero_le _)
    simpa using key
  · refine Ev.neg (by omega) ?_
    exact Ev.some (by
      have : xs ≠ ys:=fun e => hl (by rw [e])
      simp [this])
end Go.Proofs.Ytnldanonpdijgaa.L
