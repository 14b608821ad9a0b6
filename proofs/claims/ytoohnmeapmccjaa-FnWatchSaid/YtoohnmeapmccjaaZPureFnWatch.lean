-- Ours: printed or written for this claim; cut to what the theorem needs.
import Derived.Test.YtoohnmeapmccjaaZPx1
import Derived.Test.YtoohnmeapmccjaaZPx3
import Derived.Test.YtoohnmeapmccjaaZPx4
import Derived.Test.YtoohnmeapmccjaaZPx6
import Derived.Test.YtoohnmeapmccjaaZPx7
import Derived.Test.YtoohnmeapmccjaaZPureFnExactObserve
namespace Go.Proofs.Ytoohnmeapmccjaa.Pure
open Go.RowKit Go.Proofs.Ytoohnmeapmccjaa.P Go.Proofs.YtoohnmeapmccjaaW.PrintWords Go.Proofs.YtoohnmeapmccjaaW.PrintLast Go.Proofs.Ytoohnmeapmccjaa.U Go.Proofs.Ytoohnmeapmccjaa.L
theorem at_some (xs : List Int) (h : ∀ x ∈ xs,(Lit.int .u8 x).wf = true) (hl : xs.length ≤ 1048576) (i : Nat) (hi : i ≤ 1000) : ∃ v,laws_at.f xs (i : Int) = some v ∧ 0 ≤ v ∧ v < 256:=by
  unfold laws_at.f
  by_cases hlt : i < xs.length
  · rw [if_pos (by omega),if_pos (by omega),rd_at hlt]
    have hx:=h _ (List.getElem_mem hlt)
    have hb : 0 ≤ xs[i] ∧ xs[i] < 256:=by
      simp [Lit.wf] at hx
      exact ⟨hx.1,Int.lt_of_le_of_lt hx.2 (by decide)⟩
    exact ⟨_,rfl,by rw [wrap_id (by omega) (by omega)];exact hb⟩
  · rw [if_neg (by omega)]
    refine ⟨_,rfl,?_⟩
    rw [wrap_id (i:=(i : Int) * 37) (by omega) (by omega),wrap_id (i:=(xs.length : Int) * 11) (by omega) (by omega),wrap_id (by omega) (by omega)]
    rw [Int.tmod_eq_emod_of_nonneg (by omega)]
    omega
theorem wat_ok {n a b : Int} (h0 : 0 ≤ b) (h1 : b ≤ n) (h2 : n ≤ 1000) (h3 : 0 ≤ a) (h4 : a ≤ 1000) : watchB n [0,a,0] [0,b,0] = true:=by
  unfold watchB inB
  simp
  omega
theorem dead1 {n a b c : Int} (h0 : 0 ≤ b) (h1 : b ≤ n) (h2 : n ≤ 1000) (h3 : 0 ≤ a) (h4 : a ≤ 1000) : Ev (fun k => impl_Dead.f k n [0,a,0] [0,b,0] 1 c) (decide (0 ≤ c) && decide (n - b > c)):=by
  unfold impl_Dead.f
  refine Ev.bind (isWatch_ev _ _ _) (Ev.pos (wat_ok h0 h1 h2 h3 h4) ?_)
  rw [isHost_eq]
  simp only [Option.bind_some]
  refine Ev.pos (by decide) ?_
  by_cases hc : 0 ≤ c
  · refine Ev.pos hc (Ev.pos (by omega) (Ev.pos (by simp) (Ev.some ?_)))
    rw [show rd [0,b,0] 1 = b from rfl,wrap_id (by omega) (by omega)]
    simp [hc]
  · exact Ev.neg hc (Ev.some (by simp [hc]))
theorem dead3 {n a b c : Int} (h0 : 0 ≤ b) (h1 : b ≤ n) (h2 : n ≤ 1000) (h3 : 0 ≤ a) (h4 : a ≤ 1000) : Ev (fun k => impl_Dead.f k n [0,a,0] [0,b,0] 3 c) false:=by
  unfold impl_Dead.f
  refine Ev.bind (isWatch_ev _ _ _) (Ev.pos (wat_ok h0 h1 h2 h3 h4) ?_)
  rw [isHost_eq]
  simp only [Option.bind_some]
  exact Ev.neg (by decide) (Ev.some rfl)
theorem FnWatch : laws_FnWatch.Pure:=by
  intro xs ⟨_,_,hx⟩
  refine Ev.rounds ?_
  unfold laws_FnWatch.f laws_big.f
  simp only [Option.bind_some]
  by_cases hbig : (xs.length : Int) > 1048576
  · exact Ev.pos (by simpa using hbig) (Ev.some rfl)
  refine Ev.neg (by simpa using hbig) ?_
  have hat:=fun i hi => at_some xs hx (by omega) i hi
  have hnew : impl_NewWatch.f = some (0,[0,0,0],[0,0,0]):=by unfold impl_NewWatch.f;rw [if_pos (by omega)];rfl
  rw [hnew]
  obtain ⟨v0,hv0,hp0,hq0⟩:=hat 0 (by omega)
  rw [show laws_at.f xs 0 = some v0 from hv0]
  simp only [Option.bind_some]
  have hlim : 0 ≤ Int.tmod v0 6 ∧ Int.tmod v0 6 < 6:=by rw [Int.tmod_eq_emod_of_nonneg hp0];omega
  generalize Int.tmod v0 6 = c at hlim
  have key:=ev_forS (fun k (s : Int × Int × List Int × List Int) i => laws_FnWatch.l0 k xs c s.1 i s.2.1 s.2.2.1 s.2.2.2) 40
    (fun i s => ∃ n a b : Int,s = (n - b,n,[0,a,0],[0,b,0]) ∧ 0 ≤ b ∧ b ≤ n ∧ n ≤ i ∧ 0 ≤ a ∧ a ≤ i) (fun _ _ => true) (by
    intro i s hi ⟨n,a,b,hs,h1,h2,h3,h4,h5⟩ next
    subst hs
    simp only [laws_FnWatch.l0]
    rcases Nat.lt_or_ge i 40 with hlt|hge
    · refine Ev.pos (by omega) ?_
      rw [wrap_up hlt (by omega)]
      obtain ⟨v,hv,_,_⟩:=hat (i + 1) (by omega)
      rw [hv]
      simp only [Option.bind_some]
      by_cases hm : Int.tmod v 3 = 0
      · refine Ev.pos hm (Ev.bind (impl_Observe_ev _ _ _ _ _) ?_)
        have ho : obsV n [0,a,0] [0,b,0] 1 ((i + 1 : Nat) : Int) = (n,[0,((i + 1 : Nat) : Int),0],[0,n,0]):=by
          unfold obsV
          rw [if_pos (wat_ok h1 h2 (by omega) h4 (by omega)),if_pos ⟨by decide,by unfold inB;simp;omega,by rw [show rd [0,a,0] 1 = a from rfl];omega⟩]
          rfl
        rw [ho]
        refine Ev.succ ?_
        simp only [laws_FnWatch.j1]
        refine Ev.bind (dead1 (by omega) (Int.le_refl _) (by omega) (by omega) (by omega)) (Ev.neg ?_ ?_)
        · simp;omega
        · refine Ev.bind (spec_WatchOk_ev _ _ _) (Ev.pos (wat_ok (by omega) (by omega) (by omega) (by omega) (by omega)) ?_)
          rw [wrap_up hlt (by omega)]
          exact next hlt (0,n,_,_) ⟨n,_,n,by rw [Int.sub_self],by omega,by omega,by omega,by omega,by omega⟩
      · refine Ev.neg hm (Ev.bind (impl_WatchTick_ev _ _ _) ?_)
        have ho : tickV n [0,a,0] [0,b,0] = (n + 1,[0,a,0],[0,b,0],true):=by
          unfold tickV
          rw [if_pos (wat_ok h1 h2 (by omega) h4 (by omega)),if_neg (by omega)]
        rw [ho]
        refine Ev.pos rfl (Ev.succ ?_)
        simp only [laws_FnWatch.j1]
        rw [wrap_id (i:=n - b + 1) (by omega) (by omega)]
        refine Ev.bind (dead1 (by omega) (by omega) (by omega) (by omega) (by omega)) (Ev.neg ?_ ?_)
        · rw [show n - b + 1 = n + 1 - b by omega];simp;omega
        · refine Ev.bind (spec_WatchOk_ev _ _ _) (Ev.pos (wat_ok (by omega) (by omega) (by omega) (by omega) (by omega)) ?_)
          rw [wrap_up hlt (by omega)]
          exact next hlt (n - b + 1,n + 1,_,_) ⟨n + 1,a,b,by rw [show n - b + 1 = n + 1 - b by omega],by omega,by omega,by omega,by omega,by omega⟩
    · refine Ev.neg (by omega) (Ev.pos (by simp) (Ev.pos rfl (Ev.pos (by simp) (Ev.pos rfl ?_))))
      refine Ev.bind (dead3 (by omega) (by omega) (by omega) (by omega) (by omega)) (Ev.neg (by decide) ?_)
      exact Ev.bind (dead1 (by omega) (by omega) (by omega) (by omega) (by omega)) (Ev.some (by simp))) 0 (0,0,[0,0,0],[0,0,0]) (by omega) ⟨0,0,0,rfl,by omega,by omega,by omega,by omega,by omega⟩
  exact key
end Go.Proofs.Ytoohnmeapmccjaa.Pure
