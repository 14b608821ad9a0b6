-- Ours: printed or written for this claim; cut to what the theorem needs.
import Derived.Test.YtnldanonpdijgaaZPx0
import Derived.Test.YtnldanonpdijgaaZPx7
open Bool renaming true → T, false → F
namespace Go.Proofs.Ytnldanonpdijgaa.P
open Go.RowKit Go.Proofs.YtnldanonpdijgaaW.PrintWords Go.Proofs.YtnldanonpdijgaaW.PrintLast Go.Proofs.YtnldanonpdijgaaW.PrintMore
attribute [local go_sem] max2_int min2_int max_two min_two max_three min_three max_four min_four
set_option linter.unusedVariables false
set_option linter.unusedSimpArgs false
def laws_eqLsHostS.l0 : Nat → List (S50) → List (S50) → Int → Option (Bool)
  | 0,_,_,_ => none
  | k + 1,x0,x1,x5 => if x5 < (x0.length : Int) then (if 0 ≤ x5 then (if x5 < (x1.length : Int) then ((laws_eqLsHost.f ((rd_T50 x0 x5).f0) ((rd_T50 x0 x5).f1) ((rd_T50 x0 x5).f2) ((rd_T50 x0 x5).f3) ((rd_T50 x0 x5).f4) ((rd_T50 x0 x5).f5) ((rd_T50 x1 x5).f0) ((rd_T50 x1 x5).f1) ((rd_T50 x1 x5).f2) ((rd_T50 x1 x5).f3) ((rd_T50 x1 x5).f4) ((rd_T50 x1 x5).f5)).bind fun t180 => (if t180 = true then (laws_eqLsHostS.l0 k x0 x1 (wrap64 (x5 + 1))) else (some false))) else (none)) else (none)) else (some true)
def laws_eqLsHostS.f (k : Nat) (l0 : List (S50)) (l1 : List (S50)) : Option (Bool):=if (l0.length : Int) = (l1.length : Int) then (laws_eqLsHostS.l0 k l0 l1 0) else (some false)
set_option maxHeartbeats 8000000 in
set_option maxRecDepth 100000 in
theorem laws_eqLsHostS.calls (k : Nat) (A0 : Option Addr) (c0 : Nat) (l0 : List (S50)) (A1 : Option Addr) (c1 : Nat) (l1 : List (S50)) (r : Bool) (w : World) (hr0 : Kd.C k50 w A0 l0.length l0) (hc0 : l0.length ≤ c0) (hr1 : Kd.C k50 w A1 l1.length l1) (hc1 : l1.length ≤ c1) (h : laws_eqLsHostS.f k l0 l1 = some r) :
  Calls Try.prog 52 #[.slice A0 l0.length c0,.slice A1 l1.length c1] w fun e w' => e = .returned (.bool r) ∧ Below w.heap.size w w':=by
 have hu50:=Try.underlying50
 have HR0:=Aside0.mk hr0
 have HC0:=Aside0.mk hc0
 clear hr0 hc0
 have HR1:=Aside0.mk hr1
 have HC1:=Aside0.mk hc1
 clear hr1 hc1
 have HB:=Aside0.mk (Below.refl w.heap.size w)
 have H : (if (l0.length : Int) = (l1.length : Int) then (laws_eqLsHostS.l0 k l0 l1 0) else (some false)) = some r:=h
 clear h
 by_cases c3 : (l0.length : Int) = (l1.length : Int)
 ·
  rw [if_pos c3] at H
  have c3b0 : ((l0.length : Int) == (l1.length : Int)) = true:=beq_iff_eq.mpr c3
  have c3b1 : ((l0.length : Int) != (l1.length : Int)) = false:=bne_eq_false_iff_eq.mpr c3
  have c3b2 : (l0.length == l1.length) = true:=by first|simpa using c3|(simp at c3 ⊢;omega)
  clear c3
  have H':=Aside0.mk H
  clear H
  go_enter Try.func52,Try.ntmps52
  go_wp2
  go_loopg [5] k (fun kq v5 w' => ∃ (x5_1 : Int),v5 = .int .i64 x5_1 ∧ Aside0 (laws_eqLsHostS.l0 kq l0 l1 x5_1 = some r) ∧ Aside0 (kq ≤ k) ∧ Aside0 (Below w.heap.size w w'))
  case atStart => exact ⟨(0),(by first|rfl|(simp;done)|(simp [*];done)),H',⟨Nat.le_refl _⟩,⟨by repeat (first|(with_reducible first|exact HB.out|apply below_alloc|apply pw_below_drewN|apply below_drew1)|exact HB.out)⟩⟩
  case round =>
   clear H'
   try clear c1
   try clear p2
   try clear c3
   try clear c3b0
   try clear c3b1
   try clear c3b2
   obtain ⟨x5_1,rfl,HA,HK1,HB⟩:=hrel
   cases gk with
   | zero => exact absurd HA.out (by simp [laws_eqLsHostS.l0])
   | succ k1 =>
    have H:=HA.out
    clear HA
    simp only [laws_eqLsHostS.l0] at H
    by_cases c4 : x5_1 < (l0.length : Int)
    ·
     rw [if_pos c4] at H
     have c4b0 : decide (x5_1 < (l0.length : Int)) = true:=decide_eq_true c4
     clear c4
     by_cases c5 : 0 ≤ x5_1
     ·
      rw [if_pos c5] at H
      have c5b0 : decide (0 ≤ x5_1) = true:=decide_eq_true c5
      clear c5
      by_cases c6 : x5_1 < (l1.length : Int)
      ·
       rw [if_pos c6] at H
       have c6b0 : decide (x5_1 < (l1.length : Int)) = true:=decide_eq_true c6
       clear c6
       replace H:=Option.bind_eq_some_iff.mp H
       obtain ⟨t180,A70,H⟩:=H
       replace H : (if t180 = true then (laws_eqLsHostS.l0 k1 l0 l1 (wrap64 (x5_1 + 1))) else (some false)) = some r:=H
       have A7:=Aside0.mk A70
       clear A70
       by_cases c8 : t180 = true
       ·
        subst c8
        have H1 : (laws_eqLsHostS.l0 k1 l0 l1 (wrap64 (x5_1 + 1))) = some r:=by rw [if_pos rfl] at H;exact H
        clear H
        have H:=H1
        clear H1
        have H':=Aside0.mk H
        clear H
        try go_wp2
        have n0_:=Aside0.mk (below_drew1 HB.out)
        clear HB
        have HB:=n0_
        clear n0_
        have p178 : 0 ≤ (x5_1 : Int):=of_decide_eq_true (by first|(with_reducible assumption)|assumption)
        have q178 : x5_1 < (l0.length : Int):=of_decide_eq_true (by first|(with_reducible assumption)|assumption)
        obtain ⟨ad178,e178,hx178_0,hx178_1,hx178_2,hx178_3,hx178_4,hx178_5⟩:=at_T50 HR0.out x5_1 p178 q178
        have hw178_5:=hx178_5
        have hw178_4:=hx178_4
        have hw178_3:=hx178_3
        have hw178_2:=hx178_2
        have hw178_1:=hx178_1
        have hw178_0:=hx178_0
        cases e178
        replace hx178_0:=(HB.out.cell (World.block_lt_of_cell? w _ hx178_0)).trans hx178_0
        replace hx178_1:=(HB.out.cell (World.block_lt_of_cell? w _ hx178_1)).trans hx178_1
        replace hx178_2:=(HB.out.cell (World.block_lt_of_cell? w _ hx178_2)).trans hx178_2
        replace hx178_3:=(HB.out.cell (World.block_lt_of_cell? w _ hx178_3)).trans hx178_3
        replace hx178_4:=(HB.out.cell (World.block_lt_of_cell? w _ hx178_4)).trans hx178_4
        replace hx178_5:=(HB.out.cell (World.block_lt_of_cell? w _ hx178_5)).trans hx178_5
        replace p178:=eq_true p178
        replace q178:=eq_true q178
        have p179 : 0 ≤ (x5_1 : Int):=of_decide_eq_true (by first|(with_reducible assumption)|assumption)
        have q179 : x5_1 < (l1.length : Int):=of_decide_eq_true (by first|(with_reducible assumption)|assumption)
        obtain ⟨ad179,e179,hx179_0,hx179_1,hx179_2,hx179_3,hx179_4,hx179_5⟩:=at_T50 HR1.out x5_1 p179 q179
        have hw179_5:=hx179_5
        have hw179_4:=hx179_4
        have hw179_3:=hx179_3
        have hw179_2:=hx179_2
        have hw179_1:=hx179_1
        have hw179_0:=hx179_0
        cases e179
        replace hx179_0:=(HB.out.cell (World.block_lt_of_cell? w _ hx179_0)).trans hx179_0
        replace hx179_1:=(HB.out.cell (World.block_lt_of_cell? w _ hx179_1)).trans hx179_1
        replace hx179_2:=(HB.out.cell (World.block_lt_of_cell? w _ hx179_2)).trans hx179_2
        replace hx179_3:=(HB.out.cell (World.block_lt_of_cell? w _ hx179_3)).trans hx179_3
        replace hx179_4:=(HB.out.cell (World.block_lt_of_cell? w _ hx179_4)).trans hx179_4
        replace hx179_5:=(HB.out.cell (World.block_lt_of_cell? w _ hx179_5)).trans hx179_5
        replace p179:=eq_true p179
        replace q179:=eq_true q179
        refine start_ (n:=10) (S:=fun w' => w'.cell? (ad178.add ((x5_1).toNat * 6)) = some (.bool ((rd_T50 l0 x5_1).f0)) ∧ w'.cell? ⟨(ad178.add ((x5_1).toNat * 6)).block,(ad178.add ((x5_1).toNat * 6)).off + 1,none⟩ = some (.int .i64 ((rd_T50 l0 x5_1).f1)) ∧ w'.cell? ⟨(ad178.add ((x5_1).toNat * 6)).block,(ad178.add ((x5_1).toNat * 6)).off + 2,none⟩ = some (.bool ((rd_T50 l0 x5_1).f2)) ∧ w'.cell? ⟨(ad178.add ((x5_1).toNat * 6)).block,(ad178.add ((x5_1).toNat * 6)).off + 3,none⟩ = some (.int .i64 ((rd_T50 l0 x5_1).f3)) ∧ w'.cell? ⟨(ad178.add ((x5_1).toNat * 6)).block,(ad178.add ((x5_1).toNat * 6)).off + 4,none⟩ = some (.int .i64 ((rd_T50 l0 x5_1).f4)) ∧ w'.cell? ⟨(ad178.add ((x5_1).toNat * 6)).block,(ad178.add ((x5_1).toNat * 6)).off + 5,none⟩ = some (.int .i64 ((rd_T50 l0 x5_1).f5)) ∧ w'.cell? (ad179.add ((x5_1).toNat * 6)) = some (.bool ((rd_T50 l1 x5_1).f0)) ∧ w'.cell? ⟨(ad179.add ((x5_1).toNat * 6)).block,(ad179.add ((x5_1).toNat * 6)).off + 1,none⟩ = some (.int .i64 ((rd_T50 l1 x5_1).f1)) ∧ w'.cell? ⟨(ad179.add ((x5_1).toNat * 6)).block,(ad179.add ((x5_1).toNat * 6)).off + 2,none⟩ = some (.bool ((rd_T50 l1 x5_1).f2)) ∧ w'.cell? ⟨(ad179.add ((x5_1).toNat * 6)).block,(ad179.add ((x5_1).toNat * 6)).off + 3,none⟩ = some (.int .i64 ((rd_T50 l1 x5_1).f3)) ∧ w'.cell? ⟨(ad179.add ((x5_1).toNat * 6)).block,(ad179.add ((x5_1).toNat * 6)).off + 4,none⟩ = some (.int .i64 ((rd_T50 l1 x5_1).f4)) ∧ w'.cell? ⟨(ad179.add ((x5_1).toNat * 6)).block,(ad179.add ((x5_1).toNat * 6)).off + 5,none⟩ = some (.int .i64 ((rd_T50 l1 x5_1).f5))) (ds:=[]) #[F,F,F,F,F,F,F,F,F,F] (by kernel_rfl) rfl rfl ⟨((HB.out.cell (World.block_lt_of_cell? w _ hw178_0)).trans hw178_0),((HB.out.cell (World.block_lt_of_cell? w _ hw178_1)).trans hw178_1),((HB.out.cell (World.block_lt_of_cell? w _ hw178_2)).trans hw178_2),((HB.out.cell (World.block_lt_of_cell? w _ hw178_3)).trans hw178_3),((HB.out.cell (World.block_lt_of_cell? w _ hw178_4)).trans hw178_4),((HB.out.cell (World.block_lt_of_cell? w _ hw178_5)).trans hw178_5),((HB.out.cell (World.block_lt_of_cell? w _ hw179_0)).trans hw179_0),((HB.out.cell (World.block_lt_of_cell? w _ hw179_1)).trans hw179_1),((HB.out.cell (World.block_lt_of_cell? w _ hw179_2)).trans hw179_2),((HB.out.cell (World.block_lt_of_cell? w _ hw179_3)).trans hw179_3),((HB.out.cell (World.block_lt_of_cell? w _ hw179_4)).trans hw179_4),((HB.out.cell (World.block_lt_of_cell? w _ hw179_5)).trans hw179_5)⟩ (fun hHeld => ?_)
        generalize wr.drew = w9 at HB hx178_0 hx178_1 hx178_2 hx178_3 hx178_4 hx178_5 hx179_0 hx179_1 hx179_2 hx179_3 hx179_4 hx179_5 hHeld ⊢
        refine pure_ (i:=0) (N:=some 17) (v:=?_) (a':=?_) #[T,F,F,F,F,F,F,F,F,F] rfl rfl (by kernel_rfl) (fun _ _ _ h => h) (Or.inl ⟨by rfl,?_⟩) ?_ ?_
        rotate_left
        ·
         intro w'
         go_simp
         with_reducible rfl
        rotate_left
        ·
         simp only [Act.put,List.setIfInBounds_toArray,List.set_cons_zero,List.set_cons_succ,i64_w,i32_w]
         rfl
        refine pure_ (i:=1) (N:=some 18) (v:=?_) (a':=?_) #[T,T,F,F,F,F,F,F,F,F] rfl rfl (by kernel_rfl) (fun _ _ _ h => h) (Or.inl ⟨by rfl,?_⟩) ?_ ?_
        rotate_left
        ·
         intro w'
         go_simp
         with_reducible rfl
        rotate_left
        ·
         simp only [Act.put,List.setIfInBounds_toArray,List.set_cons_zero,List.set_cons_succ,i64_w,i32_w]
         rfl
        refine pure_ (i:=2) (N:=some 19) (v:=?_) (a':=?_) #[T,T,T,F,F,F,F,F,F,F] rfl rfl (by kernel_rfl) (fun _ _ _ h => h) (Or.inl ⟨by rfl,?_⟩) ?_ ?_
        rotate_left
        ·
         intro w'
         go_simp
         with_reducible rfl
        rotate_left
        ·
         simp only [Act.put,List.setIfInBounds_toArray,List.set_cons_zero,List.set_cons_succ,i64_w,i32_w]
         rfl
        refine pure_ (i:=4) (N:=some 21) (v:=?_) (a':=?_) #[T,T,T,F,T,F,F,F,F,F] rfl rfl (by kernel_rfl) (fun _ _ _ h => h) (Or.inl ⟨by rfl,?_⟩) ?_ ?_
        rotate_left
        ·
         intro w'
         go_simp
         with_reducible rfl
        rotate_left
        ·
         simp only [Act.put,List.setIfInBounds_toArray,List.set_cons_zero,List.set_cons_succ,i64_w,i32_w]
         rfl
        refine pure_ (i:=5) (N:=some 22) (v:=?_) (a':=?_) #[T,T,T,F,T,T,F,F,F,F] rfl rfl (by kernel_rfl) (fun _ _ _ h => h) (Or.inl ⟨by rfl,?_⟩) ?_ ?_
        rotate_left
        ·
         intro w'
         go_simp
         with_reducible rfl
        rotate_left
        ·
         simp only [Act.put,List.setIfInBounds_toArray,List.set_cons_zero,List.set_cons_succ,i64_w,i32_w]
         rfl
        refine pure_ (i:=6) (N:=some 23) (v:=?_) (a':=?_) #[T,T,T,F,T,T,T,F,F,F] rfl rfl (by kernel_rfl) (fun _ _ _ h => h) (Or.inl ⟨by rfl,?_⟩) ?_ ?_
        rotate_left
        ·
         intro w'
         go_simp
         with_reducible rfl
        rotate_left
        ·
         simp only [Act.put,List.setIfInBounds_toArray,List.set_cons_zero,List.set_cons_succ,i64_w,i32_w]
         rfl
        refine take_ (i:=3) (N:=some 20) (v:=?_) (a':=?_) #[T,T,T,T,T,T,T,F,F,F] rfl rfl (by kernel_rfl) (fun _ _ _ h => h) (Or.inl ⟨by rfl,?_⟩) hHeld ?_ ?_
        rotate_left
        ·
         rintro w' ⟨s0,s1,s2,s3,s4,s5,s6,s7,s8,s9,s10,s11⟩
         go_simp
         with_reducible rfl
        rotate_left
        ·
         simp only [Act.put,List.setIfInBounds_toArray,List.set_cons_zero,List.set_cons_succ,i64_w,i32_w]
         rfl
        refine take_ (i:=7) (N:=some 24) (v:=?_) (a':=?_) #[T,T,T,T,T,T,T,T,F,F] rfl rfl (by kernel_rfl) (fun _ _ _ h => h) (Or.inl ⟨by rfl,?_⟩) hHeld ?_ ?_
        rotate_left
        ·
         rintro w' ⟨s0,s1,s2,s3,s4,s5,s6,s7,s8,s9,s10,s11⟩
         go_simp
         with_reducible rfl
        rotate_left
        ·
         simp only [Act.put,List.setIfInBounds_toArray,List.set_cons_zero,List.set_cons_succ,i64_w,i32_w]
         rfl
        refine one_ (i:=8) (N:=some 25) #[T,T,T,T,T,T,T,T,T,F] rfl rfl (by kernel_rfl) (by decide) (fun K hK => ?_)
        refine goes_ Try.func78 (by kernel_rfl) rfl #[.agg #[.bool ((rd_T50 l0 x5_1).f0),.int .i64 ((rd_T50 l0 x5_1).f1),.bool ((rd_T50 l0 x5_1).f2),.int .i64 ((rd_T50 l0 x5_1).f3),.int .i64 ((rd_T50 l0 x5_1).f4),.int .i64 ((rd_T50 l0 x5_1).f5)],.agg #[.bool ((rd_T50 l1 x5_1).f0),.int .i64 ((rd_T50 l1 x5_1).f1),.bool ((rd_T50 l1 x5_1).f2),.int .i64 ((rd_T50 l1 x5_1).f3),.int .i64 ((rd_T50 l1 x5_1).f4),.int .i64 ((rd_T50 l1 x5_1).f5)]] (by rfl) rfl rfl (by (try simp only [List.map_toArray,List.map_cons,List.map_nil]);first|done|rfl|(simp only [List.length_drop,List.length_take];rfl)) ?_
        with_reducible refine (laws_eqLsHost.calls ((rd_T50 l0 x5_1).f0) ((rd_T50 l0 x5_1).f1) ((rd_T50 l0 x5_1).f2) ((rd_T50 l0 x5_1).f3) ((rd_T50 l0 x5_1).f4) ((rd_T50 l0 x5_1).f5) ((rd_T50 l1 x5_1).f0) ((rd_T50 l1 x5_1).f1) ((rd_T50 l1 x5_1).f2) ((rd_T50 l1 x5_1).f3) ((rd_T50 l1 x5_1).f4) ((rd_T50 l1 x5_1).f5) true _ A7.out).mono ?_
        rintro e w10 ⟨rfl,hb⟩
        refine ⟨_,rfl,?_⟩
        have n0_:=Aside0.mk (below_step (by repeat (first|(with_reducible first|exact HB.out|apply below_alloc|apply pw_below_drewN|apply below_drew1)|exact HB.out)) hb)
        clear HB
        have HB:=n0_
        clear n0_
        (try clear hb)
        (try clear hb2)
        (try clear hk)
        (try clear hi)
        refine hK.out _ _ ⟨((HB.out.cell (World.block_lt_of_cell? w _ hw178_0)).trans hw178_0),((HB.out.cell (World.block_lt_of_cell? w _ hw178_1)).trans hw178_1),((HB.out.cell (World.block_lt_of_cell? w _ hw178_2)).trans hw178_2),((HB.out.cell (World.block_lt_of_cell? w _ hw178_3)).trans hw178_3),((HB.out.cell (World.block_lt_of_cell? w _ hw178_4)).trans hw178_4),((HB.out.cell (World.block_lt_of_cell? w _ hw178_5)).trans hw178_5),((HB.out.cell (World.block_lt_of_cell? w _ hw179_0)).trans hw179_0),((HB.out.cell (World.block_lt_of_cell? w _ hw179_1)).trans hw179_1),((HB.out.cell (World.block_lt_of_cell? w _ hw179_2)).trans hw179_2),((HB.out.cell (World.block_lt_of_cell? w _ hw179_3)).trans hw179_3),((HB.out.cell (World.block_lt_of_cell? w _ hw179_4)).trans hw179_4),((HB.out.cell (World.block_lt_of_cell? w _ hw179_5)).trans hw179_5)⟩ (fun hHeld => ?_)
        clear hK K
        refine norm_ (a':=?_) ?_ ?_
        rotate_left
        ·
         show Act.put _ (some 25) _ = _
         simp only [Act.put,List.setIfInBounds_toArray,List.set_cons_zero,List.set_cons_succ,i64_w,i32_w]
         rfl
        refine pure_ (i:=9) (N:=some 26) (v:=?_) (a':=?_) #[T,T,T,T,T,T,T,T,T,T] rfl rfl (by kernel_rfl) (fun _ _ _ h => h) (Or.inl ⟨by rfl,?_⟩) ?_ ?_
        rotate_left
        ·
         intro w'
         go_simp
         with_reducible rfl
        rotate_left
        ·
         simp only [Act.put,List.setIfInBounds_toArray,List.set_cons_zero,List.set_cons_succ,i64_w,i32_w]
         rfl
        refine done_ (by kernel_rfl) ?_
        try go_wp2
        go_roundg k1
        case measure => have:=HK1.out;omega
        case rel => exact ⟨(wrap64 (x5_1 + 1)),(by first|rfl|(simp;done)|(simp [*];done)),H',⟨by have:=HK1.out;omega⟩,⟨by repeat (first|(with_reducible first|exact HB.out|apply below_alloc|apply pw_below_drewN|apply below_drew1)|exact HB.out)⟩⟩
       ·
        replace c8:=Bool.eq_false_iff.mpr c8
        subst c8
        have H1 : (some false) = some r:=by rw [if_neg (show ¬ (false = true) by decide)] at H;exact H
        clear H
        have H:=H1
        clear H1
        obtain rfl:=Option.some.inj H
        try go_wp2
        have n0_:=Aside0.mk (below_drew1 HB.out)
        clear HB
        have HB:=n0_
        clear n0_
        have p178 : 0 ≤ (x5_1 : Int):=of_decide_eq_true (by first|(with_reducible assumption)|assumption)
        have q178 : x5_1 < (l0.length : Int):=of_decide_eq_true (by first|(with_reducible assumption)|assumption)
        obtain ⟨ad178,e178,hx178_0,hx178_1,hx178_2,hx178_3,hx178_4,hx178_5⟩:=at_T50 HR0.out x5_1 p178 q178
        have hw178_5:=hx178_5
        have hw178_4:=hx178_4
        have hw178_3:=hx178_3
        have hw178_2:=hx178_2
        have hw178_1:=hx178_1
        have hw178_0:=hx178_0
        cases e178
        replace hx178_0:=(HB.out.cell (World.block_lt_of_cell? w _ hx178_0)).trans hx178_0
        replace hx178_1:=(HB.out.cell (World.block_lt_of_cell? w _ hx178_1)).trans hx178_1
        replace hx178_2:=(HB.out.cell (World.block_lt_of_cell? w _ hx178_2)).trans hx178_2
        replace hx178_3:=(HB.out.cell (World.block_lt_of_cell? w _ hx178_3)).trans hx178_3
        replace hx178_4:=(HB.out.cell (World.block_lt_of_cell? w _ hx178_4)).trans hx178_4
        replace hx178_5:=(HB.out.cell (World.block_lt_of_cell? w _ hx178_5)).trans hx178_5
        replace p178:=eq_true p178
        replace q178:=eq_true q178
        have p179 : 0 ≤ (x5_1 : Int):=of_decide_eq_true (by first|(with_reducible assumption)|assumption)
        have q179 : x5_1 < (l1.length : Int):=of_decide_eq_true (by first|(with_reducible assumption)|assumption)
        obtain ⟨ad179,e179,hx179_0,hx179_1,hx179_2,hx179_3,hx179_4,hx179_5⟩:=at_T50 HR1.out x5_1 p179 q179
        have hw179_5:=hx179_5
        have hw179_4:=hx179_4
        have hw179_3:=hx179_3
        have hw179_2:=hx179_2
        have hw179_1:=hx179_1
        have hw179_0:=hx179_0
        cases e179
        replace hx179_0:=(HB.out.cell (World.block_lt_of_cell? w _ hx179_0)).trans hx179_0
        replace hx179_1:=(HB.out.cell (World.block_lt_of_cell? w _ hx179_1)).trans hx179_1
        replace hx179_2:=(HB.out.cell (World.block_lt_of_cell? w _ hx179_2)).trans hx179_2
        replace hx179_3:=(HB.out.cell (World.block_lt_of_cell? w _ hx179_3)).trans hx179_3
        replace hx179_4:=(HB.out.cell (World.block_lt_of_cell? w _ hx179_4)).trans hx179_4
        replace hx179_5:=(HB.out.cell (World.block_lt_of_cell? w _ hx179_5)).trans hx179_5
        replace p179:=eq_true p179
        replace q179:=eq_true q179
        refine start_ (n:=10) (S:=fun w' => w'.cell? (ad178.add ((x5_1).toNat * 6)) = some (.bool ((rd_T50 l0 x5_1).f0)) ∧ w'.cell? ⟨(ad178.add ((x5_1).toNat * 6)).block,(ad178.add ((x5_1).toNat * 6)).off + 1,none⟩ = some (.int .i64 ((rd_T50 l0 x5_1).f1)) ∧ w'.cell? ⟨(ad178.add ((x5_1).toNat * 6)).block,(ad178.add ((x5_1).toNat * 6)).off + 2,none⟩ = some (.bool ((rd_T50 l0 x5_1).f2)) ∧ w'.cell? ⟨(ad178.add ((x5_1).toNat * 6)).block,(ad178.add ((x5_1).toNat * 6)).off + 3,none⟩ = some (.int .i64 ((rd_T50 l0 x5_1).f3)) ∧ w'.cell? ⟨(ad178.add ((x5_1).toNat * 6)).block,(ad178.add ((x5_1).toNat * 6)).off + 4,none⟩ = some (.int .i64 ((rd_T50 l0 x5_1).f4)) ∧ w'.cell? ⟨(ad178.add ((x5_1).toNat * 6)).block,(ad178.add ((x5_1).toNat * 6)).off + 5,none⟩ = some (.int .i64 ((rd_T50 l0 x5_1).f5)) ∧ w'.cell? (ad179.add ((x5_1).toNat * 6)) = some (.bool ((rd_T50 l1 x5_1).f0)) ∧ w'.cell? ⟨(ad179.add ((x5_1).toNat * 6)).block,(ad179.add ((x5_1).toNat * 6)).off + 1,none⟩ = some (.int .i64 ((rd_T50 l1 x5_1).f1)) ∧ w'.cell? ⟨(ad179.add ((x5_1).toNat * 6)).block,(ad179.add ((x5_1).toNat * 6)).off + 2,none⟩ = some (.bool ((rd_T50 l1 x5_1).f2)) ∧ w'.cell? ⟨(ad179.add ((x5_1).toNat * 6)).block,(ad179.add ((x5_1).toNat * 6)).off + 3,none⟩ = some (.int .i64 ((rd_T50 l1 x5_1).f3)) ∧ w'.cell? ⟨(ad179.add ((x5_1).toNat * 6)).block,(ad179.add ((x5_1).toNat * 6)).off + 4,none⟩ = some (.int .i64 ((rd_T50 l1 x5_1).f4)) ∧ w'.cell? ⟨(ad179.add ((x5_1).toNat * 6)).block,(ad179.add ((x5_1).toNat * 6)).off + 5,none⟩ = some (.int .i64 ((rd_T50 l1 x5_1).f5))) (ds:=[]) #[F,F,F,F,F,F,F,F,F,F] (by kernel_rfl) rfl rfl ⟨((HB.out.cell (World.block_lt_of_cell? w _ hw178_0)).trans hw178_0),((HB.out.cell (World.block_lt_of_cell? w _ hw178_1)).trans hw178_1),((HB.out.cell (World.block_lt_of_cell? w _ hw178_2)).trans hw178_2),((HB.out.cell (World.block_lt_of_cell? w _ hw178_3)).trans hw178_3),((HB.out.cell (World.block_lt_of_cell? w _ hw178_4)).trans hw178_4),((HB.out.cell (World.block_lt_of_cell? w _ hw178_5)).trans hw178_5),((HB.out.cell (World.block_lt_of_cell? w _ hw179_0)).trans hw179_0),((HB.out.cell (World.block_lt_of_cell? w _ hw179_1)).trans hw179_1),((HB.out.cell (World.block_lt_of_cell? w _ hw179_2)).trans hw179_2),((HB.out.cell (World.block_lt_of_cell? w _ hw179_3)).trans hw179_3),((HB.out.cell (World.block_lt_of_cell? w _ hw179_4)).trans hw179_4),((HB.out.cell (World.block_lt_of_cell? w _ hw179_5)).trans hw179_5)⟩ (fun hHeld => ?_)
        generalize wr.drew = w11 at HB hx178_0 hx178_1 hx178_2 hx178_3 hx178_4 hx178_5 hx179_0 hx179_1 hx179_2 hx179_3 hx179_4 hx179_5 hHeld ⊢
        refine pure_ (i:=0) (N:=some 17) (v:=?_) (a':=?_) #[T,F,F,F,F,F,F,F,F,F] rfl rfl (by kernel_rfl) (fun _ _ _ h => h) (Or.inl ⟨by rfl,?_⟩) ?_ ?_
        rotate_left
        ·
         intro w'
         go_simp
         with_reducible rfl
        rotate_left
        ·
         simp only [Act.put,List.setIfInBounds_toArray,List.set_cons_zero,List.set_cons_succ,i64_w,i32_w]
         rfl
        refine pure_ (i:=1) (N:=some 18) (v:=?_) (a':=?_) #[T,T,F,F,F,F,F,F,F,F] rfl rfl (by kernel_rfl) (fun _ _ _ h => h) (Or.inl ⟨by rfl,?_⟩) ?_ ?_
        rotate_left
        ·
         intro w'
         go_simp
         with_reducible rfl
        rotate_left
        ·
         simp only [Act.put,List.setIfInBounds_toArray,List.set_cons_zero,List.set_cons_succ,i64_w,i32_w]
         rfl
        refine pure_ (i:=2) (N:=some 19) (v:=?_) (a':=?_) #[T,T,T,F,F,F,F,F,F,F] rfl rfl (by kernel_rfl) (fun _ _ _ h => h) (Or.inl ⟨by rfl,?_⟩) ?_ ?_
        rotate_left
        ·
         intro w'
         go_simp
         with_reducible rfl
        rotate_left
        ·
         simp only [Act.put,List.setIfInBounds_toArray,List.set_cons_zero,List.set_cons_succ,i64_w,i32_w]
         rfl
        refine pure_ (i:=4) (N:=some 21) (v:=?_) (a':=?_) #[T,T,T,F,T,F,F,F,F,F] rfl rfl (by kernel_rfl) (fun _ _ _ h => h) (Or.inl ⟨by rfl,?_⟩) ?_ ?_
        rotate_left
        ·
         intro w'
         go_simp
         with_reducible rfl
        rotate_left
        ·
         simp only [Act.put,List.setIfInBounds_toArray,List.set_cons_zero,List.set_cons_succ,i64_w,i32_w]
         rfl
        refine pure_ (i:=5) (N:=some 22) (v:=?_) (a':=?_) #[T,T,T,F,T,T,F,F,F,F] rfl rfl (by kernel_rfl) (fun _ _ _ h => h) (Or.inl ⟨by rfl,?_⟩) ?_ ?_
        rotate_left
        ·
         intro w'
         go_simp
         with_reducible rfl
        rotate_left
        ·
         simp only [Act.put,List.setIfInBounds_toArray,List.set_cons_zero,List.set_cons_succ,i64_w,i32_w]
         rfl
        refine pure_ (i:=6) (N:=some 23) (v:=?_) (a':=?_) #[T,T,T,F,T,T,T,F,F,F] rfl rfl (by kernel_rfl) (fun _ _ _ h => h) (Or.inl ⟨by rfl,?_⟩) ?_ ?_
        rotate_left
        ·
         intro w'
         go_simp
         with_reducible rfl
        rotate_left
        ·
         simp only [Act.put,List.setIfInBounds_toArray,List.set_cons_zero,List.set_cons_succ,i64_w,i32_w]
         rfl
        refine take_ (i:=3) (N:=some 20) (v:=?_) (a':=?_) #[T,T,T,T,T,T,T,F,F,F] rfl rfl (by kernel_rfl) (fun _ _ _ h => h) (Or.inl ⟨by rfl,?_⟩) hHeld ?_ ?_
        rotate_left
        ·
         rintro w' ⟨s0,s1,s2,s3,s4,s5,s6,s7,s8,s9,s10,s11⟩
         go_simp
         with_reducible rfl
        rotate_left
        ·
         simp only [Act.put,List.setIfInBounds_toArray,List.set_cons_zero,List.set_cons_succ,i64_w,i32_w]
         rfl
        refine take_ (i:=7) (N:=some 24) (v:=?_) (a':=?_) #[T,T,T,T,T,T,T,T,F,F] rfl rfl (by kernel_rfl) (fun _ _ _ h => h) (Or.inl ⟨by rfl,?_⟩) hHeld ?_ ?_
        rotate_left
        ·
         rintro w' ⟨s0,s1,s2,s3,s4,s5,s6,s7,s8,s9,s10,s11⟩
         go_simp
         with_reducible rfl
        rotate_left
        ·
         simp only [Act.put,List.setIfInBounds_toArray,List.set_cons_zero,List.set_cons_succ,i64_w,i32_w]
         rfl
        refine one_ (i:=8) (N:=some 25) #[T,T,T,T,T,T,T,T,T,F] rfl rfl (by kernel_rfl) (by decide) (fun K hK => ?_)
        refine goes_ Try.func78 (by kernel_rfl) rfl #[.agg #[.bool ((rd_T50 l0 x5_1).f0),.int .i64 ((rd_T50 l0 x5_1).f1),.bool ((rd_T50 l0 x5_1).f2),.int .i64 ((rd_T50 l0 x5_1).f3),.int .i64 ((rd_T50 l0 x5_1).f4),.int .i64 ((rd_T50 l0 x5_1).f5)],.agg #[.bool ((rd_T50 l1 x5_1).f0),.int .i64 ((rd_T50 l1 x5_1).f1),.bool ((rd_T50 l1 x5_1).f2),.int .i64 ((rd_T50 l1 x5_1).f3),.int .i64 ((rd_T50 l1 x5_1).f4),.int .i64 ((rd_T50 l1 x5_1).f5)]] (by rfl) rfl rfl (by (try simp only [List.map_toArray,List.map_cons,List.map_nil]);first|done|rfl|(simp only [List.length_drop,List.length_take];rfl)) ?_
        with_reducible refine (laws_eqLsHost.calls ((rd_T50 l0 x5_1).f0) ((rd_T50 l0 x5_1).f1) ((rd_T50 l0 x5_1).f2) ((rd_T50 l0 x5_1).f3) ((rd_T50 l0 x5_1).f4) ((rd_T50 l0 x5_1).f5) ((rd_T50 l1 x5_1).f0) ((rd_T50 l1 x5_1).f1) ((rd_T50 l1 x5_1).f2) ((rd_T50 l1 x5_1).f3) ((rd_T50 l1 x5_1).f4) ((rd_T50 l1 x5_1).f5) false _ A7.out).mono ?_
        rintro e w12 ⟨rfl,hb⟩
        refine ⟨_,rfl,?_⟩
        have n0_:=Aside0.mk (below_step (by repeat (first|(with_reducible first|exact HB.out|apply below_alloc|apply pw_below_drewN|apply below_drew1)|exact HB.out)) hb)
        clear HB
        have HB:=n0_
        clear n0_
        (try clear hb)
        (try clear hb2)
        (try clear hk)
        (try clear hi)
        refine hK.out _ _ ⟨((HB.out.cell (World.block_lt_of_cell? w _ hw178_0)).trans hw178_0),((HB.out.cell (World.block_lt_of_cell? w _ hw178_1)).trans hw178_1),((HB.out.cell (World.block_lt_of_cell? w _ hw178_2)).trans hw178_2),((HB.out.cell (World.block_lt_of_cell? w _ hw178_3)).trans hw178_3),((HB.out.cell (World.block_lt_of_cell? w _ hw178_4)).trans hw178_4),((HB.out.cell (World.block_lt_of_cell? w _ hw178_5)).trans hw178_5),((HB.out.cell (World.block_lt_of_cell? w _ hw179_0)).trans hw179_0),((HB.out.cell (World.block_lt_of_cell? w _ hw179_1)).trans hw179_1),((HB.out.cell (World.block_lt_of_cell? w _ hw179_2)).trans hw179_2),((HB.out.cell (World.block_lt_of_cell? w _ hw179_3)).trans hw179_3),((HB.out.cell (World.block_lt_of_cell? w _ hw179_4)).trans hw179_4),((HB.out.cell (World.block_lt_of_cell? w _ hw179_5)).trans hw179_5)⟩ (fun hHeld => ?_)
        clear hK K
        refine norm_ (a':=?_) ?_ ?_
        rotate_left
        ·
         show Act.put _ (some 25) _ = _
         simp only [Act.put,List.setIfInBounds_toArray,List.set_cons_zero,List.set_cons_succ,i64_w,i32_w]
         rfl
        refine pure_ (i:=9) (N:=some 26) (v:=?_) (a':=?_) #[T,T,T,T,T,T,T,T,T,T] rfl rfl (by kernel_rfl) (fun _ _ _ h => h) (Or.inl ⟨by rfl,?_⟩) ?_ ?_
        rotate_left
        ·
         intro w'
         go_simp
         with_reducible rfl
        rotate_left
        ·
         simp only [Act.put,List.setIfInBounds_toArray,List.set_cons_zero,List.set_cons_succ,i64_w,i32_w]
         rfl
        refine done_ (by kernel_rfl) ?_
        try go_wp2
        go_ret
        exact ⟨by first|rfl|(simp [errW_none,errW_some] <;> rfl)|(simp [*,errW_none,errW_some] <;> rfl),by repeat (first|(with_reducible first|exact HB.out|apply below_alloc|apply pw_below_drewN|apply below_drew1)|exact HB.out)⟩
      ·
       rw [if_neg c6] at H
       exact absurd H (by simp)
     ·
      rw [if_neg c5] at H
      exact absurd H (by simp)
    ·
     rw [if_neg c4] at H
     have c4b0 : decide (x5_1 < (l0.length : Int)) = false:=decide_eq_false c4
     clear c4
     obtain rfl:=Option.some.inj H
     go_wp2
     go_ret
     exact ⟨by first|rfl|(simp [errW_none,errW_some] <;> rfl)|(simp [*,errW_none,errW_some] <;> rfl),by repeat (first|(with_reducible first|exact HB.out|apply below_alloc|apply pw_below_drewN|apply below_drew1)|exact HB.out)⟩
 ·
  rw [if_neg c3] at H
  have c3b0 : ((l0.length : Int) == (l1.length : Int)) = false:=beq_eq_false_iff_ne.mpr c3
  have c3b1 : ((l0.length : Int) != (l1.length : Int)) = true:=bne_iff_ne.mpr c3
  have c3b2 : (l0.length == l1.length) = false:=by first|simpa using c3|(simp at c3 ⊢;omega)
  obtain rfl:=Option.some.inj H
  go_enter Try.func52,Try.ntmps52
  go_wp2
  go_ret
  exact ⟨by first|rfl|(simp [errW_none,errW_some] <;> rfl)|(simp [*,errW_none,errW_some] <;> rfl),by repeat (first|(with_reducible first|exact HB.out|apply below_alloc|apply pw_below_drewN|apply below_drew1)|exact HB.out)⟩
def laws_eqLs.f (k : Nat) (a0_0 : Int) (a0_1 : Int) (a0_2 : Int) (l0_3 : List Int) (a0_4 : Int) (a0_5 : Int) (l0_6 : List (S50)) (a1_0 : Int) (a1_1 : Int) (a1_2 : Int) (l1_3 : List Int) (a1_4 : Int) (a1_5 : Int) (l1_6 : List (S50)) : Option (Bool):=if a0_0 = a1_0 then (if a0_1 = a1_1 then (if a0_2 = a1_2 then ((laws_eqIntS.f k l0_3 l1_3).bind fun t183 => (if t183 = true then (if a0_4 = a1_4 then (if a0_5 = a1_5 then ((laws_eqLsHostS.f k l0_6 l1_6).bind fun t184 => (if t184 = true then (some true) else (some false))) else (some false)) else (some false)) else (some false))) else (some false)) else (some false)) else (some false)
set_option maxHeartbeats 8000000 in
set_option maxRecDepth 100000 in
theorem laws_eqLs.calls (k : Nat) (a0_0 : Int) (a0_1 : Int) (a0_2 : Int) (A0_3 : Option Addr) (c0_3 : Nat) (l0_3 : List Int) (a0_4 : Int) (a0_5 : Int) (A0_6 : Option Addr) (c0_6 : Nat) (l0_6 : List (S50)) (a1_0 : Int) (a1_1 : Int) (a1_2 : Int) (A1_3 : Option Addr) (c1_3 : Nat) (l1_3 : List Int) (a1_4 : Int) (a1_5 : Int) (A1_6 : Option Addr) (c1_6 : Nat) (l1_6 : List (S50)) (r : Bool) (w : World) (hr0_3 : Kd.C (Kd.int .i64) w A0_3 l0_3.length l0_3) (hc0_3 : l0_3.length ≤ c0_3) (hr0_6 : Kd.C k50 w A0_6 l0_6.length l0_6) (hc0_6 : l0_6.length ≤ c0_6) (hr1_3 : Kd.C (Kd.int .i64) w A1_3 l1_3.length l1_3) (hc1_3 : l1_3.length ≤ c1_3) (hr1_6 : Kd.C k50 w A1_6 l1_6.length l1_6) (hc1_6 : l1_6.length ≤ c1_6) (h : laws_eqLs.f k a0_0 a0_1 a0_2 l0_3 a0_4 a0_5 l0_6 a1_0 a1_1 a1_2 l1_3 a1_4 a1_5 l1_6 = some r) :
  Calls Try.prog 18 #[.agg #[.int .i64 a0_0,.int .i64 a0_1,.int .i64 a0_2,.slice A0_3 l0_3.length c0_3,.int .i64 a0_4,.int .i64 a0_5,.slice A0_6 l0_6.length c0_6],.agg #[.int .i64 a1_0,.int .i64 a1_1,.int .i64 a1_2,.slice A1_3 l1_3.length c1_3,.int .i64 a1_4,.int .i64 a1_5,.slice A1_6 l1_6.length c1_6]] w fun e w' => e = .returned (.bool r) ∧ Below w.heap.size w w':=by
 have hu30:=Try.underlying30
 have HR0_3:=Aside0.mk hr0_3
 have HC0_3:=Aside0.mk hc0_3
 clear hr0_3 hc0_3
 have HR0_6:=Aside0.mk hr0_6
 have HC0_6:=Aside0.mk hc0_6
 clear hr0_6 hc0_6
 have HR1_3:=Aside0.mk hr1_3
 have HC1_3:=Aside0.mk hc1_3
 clear hr1_3 hc1_3
 have HR1_6:=Aside0.mk hr1_6
 have HC1_6:=Aside0.mk hc1_6
 clear hr1_6 hc1_6
 have HB:=Aside0.mk (Below.refl w.heap.size w)
 have H : (if a0_0 = a1_0 then (if a0_1 = a1_1 then (if a0_2 = a1_2 then ((laws_eqIntS.f k l0_3 l1_3).bind fun t183 => (if t183 = true then (if a0_4 = a1_4 then (if a0_5 = a1_5 then ((laws_eqLsHostS.f k l0_6 l1_6).bind fun t184 => (if t184 = true then (some true) else (some false))) else (some false)) else (some false)) else (some false))) else (some false)) else (some false)) else (some false)) = some r:=h
 clear h
 by_cases c3 : a0_0 = a1_0
 ·
  rw [if_pos c3] at H
  have c3b0 : (a0_0 == a1_0) = true:=beq_iff_eq.mpr c3
  have c3b1 : (a0_0 != a1_0) = false:=bne_eq_false_iff_eq.mpr c3
  clear c3
  by_cases c4 : a0_1 = a1_1
  ·
   rw [if_pos c4] at H
   have c4b0 : (a0_1 == a1_1) = true:=beq_iff_eq.mpr c4
   have c4b1 : (a0_1 != a1_1) = false:=bne_eq_false_iff_eq.mpr c4
   clear c4
   by_cases c5 : a0_2 = a1_2
   ·
    rw [if_pos c5] at H
    have c5b0 : (a0_2 == a1_2) = true:=beq_iff_eq.mpr c5
    have c5b1 : (a0_2 != a1_2) = false:=bne_eq_false_iff_eq.mpr c5
    clear c5
    replace H:=Option.bind_eq_some_iff.mp H
    obtain ⟨t183,A60,H⟩:=H
    replace H : (if t183 = true then (if a0_4 = a1_4 then (if a0_5 = a1_5 then ((laws_eqLsHostS.f k l0_6 l1_6).bind fun t184 => (if t184 = true then (some true) else (some false))) else (some false)) else (some false)) else (some false)) = some r:=H
    have A6:=Aside0.mk A60
    clear A60
    by_cases c7 : t183 = true
    ·
     subst c7
     have H1 : (if a0_4 = a1_4 then (if a0_5 = a1_5 then ((laws_eqLsHostS.f k l0_6 l1_6).bind fun t184 => (if t184 = true then (some true) else (some false))) else (some false)) else (some false)) = some r:=by rw [if_pos rfl] at H;exact H
     clear H
     have H:=H1
     clear H1
     by_cases c8 : a0_4 = a1_4
     ·
      rw [if_pos c8] at H
      have c8b0 : (a0_4 == a1_4) = true:=beq_iff_eq.mpr c8
      have c8b1 : (a0_4 != a1_4) = false:=bne_eq_false_iff_eq.mpr c8
      clear c8
      by_cases c9 : a0_5 = a1_5
      ·
       rw [if_pos c9] at H
       have c9b0 : (a0_5 == a1_5) = true:=beq_iff_eq.mpr c9
       have c9b1 : (a0_5 != a1_5) = false:=bne_eq_false_iff_eq.mpr c9
       clear c9
       replace H:=Option.bind_eq_some_iff.mp H
       obtain ⟨t184,A100,H⟩:=H
       replace H : (if t184 = true then (some true) else (some false)) = some r:=H
       have A10:=Aside0.mk A100
       clear A100
       by_cases c11 : t184 = true
       ·
        subst c11
        have H1 : (some true) = some r:=by rw [if_pos rfl] at H;exact H
        clear H
        have H:=H1
        clear H1
        obtain rfl:=Option.some.inj H
        go_enter Try.func18,Try.ntmps18
        go_wp2_with (first|((with_reducible refine gate_dst (N:=2) rfl ?_);refine box_event ?hg (N:=2) ?hd (cs:=#[.int .i64 a0_0,.int .i64 a0_1,.int .i64 a0_2,.slice A0_3 l0_3.length c0_3,.int .i64 a0_4,.int .i64 a0_5,.slice A0_6 l0_6.length c0_6]) (t:=30) ?hr ?_;(case hd => rfl);(case hg => rfl);(case hr => first|(go_simp;done)|(go_simp;rfl));intro gb181 hg w12 hbox hb;have n0_:=Aside0.mk (below_step (by repeat (first|(with_reducible first|exact HB.out|apply below_alloc|apply pw_below_drewN|apply below_drew1)|exact HB.out)) hb);have n1_:=Aside0.mk (hbox);have n2_:=Aside0.mk ((by rw [hg];exact (below_size (by repeat (first|(with_reducible first|exact HB.out|apply below_alloc|apply pw_below_drewN|apply below_drew1)|exact HB.out))) : w.heap.size ≤ gb181));have n3_:=Aside0.mk ((by rw [hg];exact (below_size (by repeat (first|(with_reducible first|exact HB.out|apply below_alloc|apply pw_below_drewN|apply below_drew1)|exact HB.out))) : w.heap.size ≤ gb181));clear HB;have HB:=n0_;have BK181:=n1_;have GW181:=n2_;have GE181:=n3_;clear n0_ n1_ n2_ n3_;clear hb hbox hg)|((with_reducible refine gate_dst (N:=3) rfl ?_);refine box_event ?hg (N:=3) ?hd (cs:=#[.int .i64 a1_0,.int .i64 a1_1,.int .i64 a1_2,.slice A1_3 l1_3.length c1_3,.int .i64 a1_4,.int .i64 a1_5,.slice A1_6 l1_6.length c1_6]) (t:=30) ?hr ?_;(case hd => rfl);(case hg => rfl);(case hr => first|(go_simp;done)|(go_simp;rfl));intro gb182 hg w13 hbox hb;have n0_:=Aside0.mk (blk_below (g:=gb181) (o:=.cells #[.int .i64 a0_0,.int .i64 a0_1,.int .i64 a0_2,.slice A0_3 l0_3.length c0_3,.int .i64 a0_4,.int .i64 a0_5,.slice A0_6 l0_6.length c0_6] 30 (0,0)) (by (with_reducible repeat (first|refine blk_drewN ?_ _|refine blk_drew ?_|refine blk_alloc ?_ _));exact BK181.out) hb);have n1_:=Aside0.mk (below_step (by repeat (first|(with_reducible first|exact HB.out|apply below_alloc|apply pw_below_drewN|apply below_drew1|refine below_set ?_ GE181.out)|exact HB.out)) hb);have n2_:=Aside0.mk (hbox);have n3_:=Aside0.mk ((by rw [hg];exact (below_size (by repeat (first|(with_reducible first|exact HB.out|apply below_alloc|apply pw_below_drewN|apply below_drew1|refine below_set ?_ GE181.out)|exact HB.out))) : w.heap.size ≤ gb182));have n4_:=Aside0.mk ((by rw [hg];exact (below_size (by repeat (first|(with_reducible first|exact HB.out|apply below_alloc|apply pw_below_drewN|apply below_drew1|refine below_set ?_ GE181.out)|exact HB.out))) : w.heap.size ≤ gb182));have n5_:=Aside0.mk ((by rw [hg];exact Nat.ne_of_lt (blk_lt (g:=gb181) (o:=.cells #[.int .i64 a0_0,.int .i64 a0_1,.int .i64 a0_2,.slice A0_3 l0_3.length c0_3,.int .i64 a0_4,.int .i64 a0_5,.slice A0_6 l0_6.length c0_6] 30 (0,0)) (by (with_reducible repeat (first|refine blk_drewN ?_ _|refine blk_drew ?_|refine blk_alloc ?_ _));exact BK181.out)) : gb181 ≠ gb182));have n6_:=Aside0.mk ((by rw [hg];exact Nat.ne_of_gt (blk_lt (g:=gb181) (o:=.cells #[.int .i64 a0_0,.int .i64 a0_1,.int .i64 a0_2,.slice A0_3 l0_3.length c0_3,.int .i64 a0_4,.int .i64 a0_5,.slice A0_6 l0_6.length c0_6] 30 (0,0)) (by (with_reducible repeat (first|refine blk_drewN ?_ _|refine blk_drew ?_|refine blk_alloc ?_ _));exact BK181.out)) : gb182 ≠ gb181));clear BK181;clear HB;have BK181:=n0_;have HB:=n1_;have BK182:=n2_;have GW182:=n3_;have GE182:=n4_;have NB181_182:=n5_;have NB182_181:=n6_;clear n0_ n1_ n2_ n3_ n4_ n5_ n6_;clear hb hbox hg;have hnb14:=NB181_182.out;have hnc14:=NB182_181.out;have hcz15_0 : w13.cell? ⟨gb181,0,none⟩ = some (.int .i64 a0_0):=(blk_cell BK181.out 0).trans rfl;have hcz15_1 : w13.cell? ⟨gb181,1,none⟩ = some (.int .i64 a0_1):=(blk_cell BK181.out 1).trans rfl;have hcz15_2 : w13.cell? ⟨gb181,2,none⟩ = some (.int .i64 a0_2):=(blk_cell BK181.out 2).trans rfl;have hcz15_3 : w13.cell? ⟨gb181,3,none⟩ = some (.slice A0_3 l0_3.length c0_3):=(blk_cell BK181.out 3).trans rfl;have hcz15_4 : w13.cell? ⟨gb181,4,none⟩ = some (.int .i64 a0_4):=(blk_cell BK181.out 4).trans rfl;have hcz15_5 : w13.cell? ⟨gb181,5,none⟩ = some (.int .i64 a0_5):=(blk_cell BK181.out 5).trans rfl;have hcz15_6 : w13.cell? ⟨gb181,6,none⟩ = some (.slice A0_6 l0_6.length c0_6):=(blk_cell BK181.out 6).trans rfl;have hfz15_0:=blk_frozen BK181.out 0;have hfz15_1:=blk_frozen BK181.out 1;have hfz15_2:=blk_frozen BK181.out 2;have hfz15_3:=blk_frozen BK181.out 3;have hfz15_4:=blk_frozen BK181.out 4;have hfz15_5:=blk_frozen BK181.out 5;have hfz15_6:=blk_frozen BK181.out 6;have hcz16_0 : w13.cell? ⟨gb182,0,none⟩ = some (.int .i64 a1_0):=(blk_cell BK182.out 0).trans rfl;have hcz16_1 : w13.cell? ⟨gb182,1,none⟩ = some (.int .i64 a1_1):=(blk_cell BK182.out 1).trans rfl;have hcz16_2 : w13.cell? ⟨gb182,2,none⟩ = some (.int .i64 a1_2):=(blk_cell BK182.out 2).trans rfl;have hcz16_3 : w13.cell? ⟨gb182,3,none⟩ = some (.slice A1_3 l1_3.length c1_3):=(blk_cell BK182.out 3).trans rfl;have hcz16_4 : w13.cell? ⟨gb182,4,none⟩ = some (.int .i64 a1_4):=(blk_cell BK182.out 4).trans rfl;have hcz16_5 : w13.cell? ⟨gb182,5,none⟩ = some (.int .i64 a1_5):=(blk_cell BK182.out 5).trans rfl;have hcz16_6 : w13.cell? ⟨gb182,6,none⟩ = some (.slice A1_6 l1_6.length c1_6):=(blk_cell BK182.out 6).trans rfl;have hfz16_0:=blk_frozen BK182.out 0;have hfz16_1:=blk_frozen BK182.out 1;have hfz16_2:=blk_frozen BK182.out 2;have hfz16_3:=blk_frozen BK182.out 3;have hfz16_4:=blk_frozen BK182.out 4;have hfz16_5:=blk_frozen BK182.out 5;have hfz16_6:=blk_frozen BK182.out 6)|((with_reducible refine gate_callee (f:=25) rfl ?_);refine goesL_ (some 24) rfl rfl Try.func25 (by kernel_rfl) rfl #[.slice A0_3 l0_3.length c0_3,.slice A1_3 l1_3.length c1_3] rfl (by (try simp only [List.map_toArray,List.map_cons,List.map_nil]);first|done|rfl|(simp only [List.length_drop,List.length_take];rfl)) ?_;(with_reducible refine (laws_eqIntS.calls k _ _ l0_3 _ _ l1_3 true _ ?side1 ?side2 ?side3 ?side4 A6.out).mono ?_);(case side1 => repeat (first|exact (Kd.C_below HR0_3.out HB.out)|(with_reducible refine Kd.C_alloc ?_ _)|(with_reducible refine Kd.C_drewN ?_ _)|(with_reducible refine Kd.C_drew ?_)));(case side2 => exact HC0_3.out);(case side3 => repeat (first|exact (Kd.C_below HR1_3.out HB.out)|(with_reducible refine Kd.C_alloc ?_ _)|(with_reducible refine Kd.C_drewN ?_ _)|(with_reducible refine Kd.C_drew ?_)));(case side4 => exact HC1_3.out);rintro e w' ⟨rfl,⟨nd,rfl⟩⟩;refine ⟨_,rfl,?_⟩)|((with_reducible refine gate_callee (f:=52) rfl ?_);refine goesL_ (some 40) rfl rfl Try.func52 (by kernel_rfl) rfl #[.slice A0_6 l0_6.length c0_6,.slice A1_6 l1_6.length c1_6] rfl (by (try simp only [List.map_toArray,List.map_cons,List.map_nil]);first|done|rfl|(simp only [List.length_drop,List.length_take];rfl)) ?_;(with_reducible refine (laws_eqLsHostS.calls k _ _ l0_6 _ _ l1_6 true _ ?side1 ?side2 ?side3 ?side4 A10.out).mono ?_);(case side1 => repeat (first|exact (Kd.C_below HR0_6.out (by repeat (first|(with_reducible first|exact HB.out|apply below_alloc|apply pw_below_drewN|apply below_drew1|refine below_set ?_ GE181.out|refine below_set ?_ GE182.out)|exact HB.out)))|(with_reducible refine Kd.C_alloc ?_ _)|(with_reducible refine Kd.C_drewN ?_ _)|(with_reducible refine Kd.C_drew ?_)));(case side2 => exact HC0_6.out);(case side3 => repeat (first|exact (Kd.C_below HR1_6.out (by repeat (first|(with_reducible first|exact HB.out|apply below_alloc|apply pw_below_drewN|apply below_drew1|refine below_set ?_ GE181.out|refine below_set ?_ GE182.out)|exact HB.out)))|(with_reducible refine Kd.C_alloc ?_ _)|(with_reducible refine Kd.C_drewN ?_ _)|(with_reducible refine Kd.C_drew ?_)));(case side4 => exact HC1_6.out);rintro e w17 ⟨rfl,hb⟩;refine ⟨_,rfl,?_⟩;have n0_:=Aside0.mk (blk_below (g:=gb181) (o:=.cells #[.int .i64 a0_0,.int .i64 a0_1,.int .i64 a0_2,.slice A0_3 l0_3.length c0_3,.int .i64 a0_4,.int .i64 a0_5,.slice A0_6 l0_6.length c0_6] 30 (0,0)) (by (with_reducible repeat (first|refine blk_drewN ?_ _|refine blk_drew ?_|refine blk_alloc ?_ _));exact BK181.out) hb);have n1_:=Aside0.mk (blk_below (g:=gb182) (o:=.cells #[.int .i64 a1_0,.int .i64 a1_1,.int .i64 a1_2,.slice A1_3 l1_3.length c1_3,.int .i64 a1_4,.int .i64 a1_5,.slice A1_6 l1_6.length c1_6] 30 (0,0)) (by (with_reducible repeat (first|refine blk_drewN ?_ _|refine blk_drew ?_|refine blk_alloc ?_ _));exact BK182.out) hb);have n2_:=Aside0.mk (below_step (by repeat (first|(with_reducible first|exact HB.out|apply below_alloc|apply pw_below_drewN|apply below_drew1|refine below_set ?_ GE181.out|refine below_set ?_ GE182.out)|exact HB.out)) hb);clear BK181;clear BK182;clear HB;have BK181:=n0_;have BK182:=n1_;have HB:=n2_;clear n0_ n1_ n2_;(try clear hb);(try clear hb2);(try clear hk);(try clear hi)))
        go_ret
        exact ⟨by first|rfl|(simp [errW_none,errW_some] <;> rfl)|(simp [*,errW_none,errW_some] <;> rfl),by repeat (first|(with_reducible first|exact HB.out|apply below_alloc|apply pw_below_drewN|apply below_drew1|refine below_set ?_ GE181.out|refine below_set ?_ GE182.out)|exact HB.out)⟩
       ·
        replace c11:=Bool.eq_false_iff.mpr c11
        subst c11
        have H1 : (some false) = some r:=by rw [if_neg (show ¬ (false = true) by decide)] at H;exact H
        clear H
        have H:=H1
        clear H1
        obtain rfl:=Option.some.inj H
        go_enter Try.func18,Try.ntmps18
        go_wp2_with (first|((with_reducible refine gate_dst (N:=2) rfl ?_);refine box_event ?hg (N:=2) ?hd (cs:=#[.int .i64 a0_0,.int .i64 a0_1,.int .i64 a0_2,.slice A0_3 l0_3.length c0_3,.int .i64 a0_4,.int .i64 a0_5,.slice A0_6 l0_6.length c0_6]) (t:=30) ?hr ?_;(case hd => rfl);(case hg => rfl);(case hr => first|(go_simp;done)|(go_simp;rfl));intro gb181 hg w18 hbox hb;have n0_:=Aside0.mk (below_step (by repeat (first|(with_reducible first|exact HB.out|apply below_alloc|apply pw_below_drewN|apply below_drew1)|exact HB.out)) hb);have n1_:=Aside0.mk (hbox);have n2_:=Aside0.mk ((by rw [hg];exact (below_size (by repeat (first|(with_reducible first|exact HB.out|apply below_alloc|apply pw_below_drewN|apply below_drew1)|exact HB.out))) : w.heap.size ≤ gb181));have n3_:=Aside0.mk ((by rw [hg];exact (below_size (by repeat (first|(with_reducible first|exact HB.out|apply below_alloc|apply pw_below_drewN|apply below_drew1)|exact HB.out))) : w.heap.size ≤ gb181));clear HB;have HB:=n0_;have BK181:=n1_;have GW181:=n2_;have GE181:=n3_;clear n0_ n1_ n2_ n3_;clear hb hbox hg)|((with_reducible refine gate_dst (N:=3) rfl ?_);refine box_event ?hg (N:=3) ?hd (cs:=#[.int .i64 a1_0,.int .i64 a1_1,.int .i64 a1_2,.slice A1_3 l1_3.length c1_3,.int .i64 a1_4,.int .i64 a1_5,.slice A1_6 l1_6.length c1_6]) (t:=30) ?hr ?_;(case hd => rfl);(case hg => rfl);(case hr => first|(go_simp;done)|(go_simp;rfl));intro gb182 hg w19 hbox hb;have n0_:=Aside0.mk (blk_below (g:=gb181) (o:=.cells #[.int .i64 a0_0,.int .i64 a0_1,.int .i64 a0_2,.slice A0_3 l0_3.length c0_3,.int .i64 a0_4,.int .i64 a0_5,.slice A0_6 l0_6.length c0_6] 30 (0,0)) (by (with_reducible repeat (first|refine blk_drewN ?_ _|refine blk_drew ?_|refine blk_alloc ?_ _));exact BK181.out) hb);have n1_:=Aside0.mk (below_step (by repeat (first|(with_reducible first|exact HB.out|apply below_alloc|apply pw_below_drewN|apply below_drew1|refine below_set ?_ GE181.out)|exact HB.out)) hb);have n2_:=Aside0.mk (hbox);have n3_:=Aside0.mk ((by rw [hg];exact (below_size (by repeat (first|(with_reducible first|exact HB.out|apply below_alloc|apply pw_below_drewN|apply below_drew1|refine below_set ?_ GE181.out)|exact HB.out))) : w.heap.size ≤ gb182));have n4_:=Aside0.mk ((by rw [hg];exact (below_size (by repeat (first|(with_reducible first|exact HB.out|apply below_alloc|apply pw_below_drewN|apply below_drew1|refine below_set ?_ GE181.out)|exact HB.out))) : w.heap.size ≤ gb182));have n5_:=Aside0.mk ((by rw [hg];exact Nat.ne_of_lt (blk_lt (g:=gb181) (o:=.cells #[.int .i64 a0_0,.int .i64 a0_1,.int .i64 a0_2,.slice A0_3 l0_3.length c0_3,.int .i64 a0_4,.int .i64 a0_5,.slice A0_6 l0_6.length c0_6] 30 (0,0)) (by (with_reducible repeat (first|refine blk_drewN ?_ _|refine blk_drew ?_|refine blk_alloc ?_ _));exact BK181.out)) : gb181 ≠ gb182));have n6_:=Aside0.mk ((by rw [hg];exact Nat.ne_of_gt (blk_lt (g:=gb181) (o:=.cells #[.int .i64 a0_0,.int .i64 a0_1,.int .i64 a0_2,.slice A0_3 l0_3.length c0_3,.int .i64 a0_4,.int .i64 a0_5,.slice A0_6 l0_6.length c0_6] 30 (0,0)) (by (with_reducible repeat (first|refine blk_drewN ?_ _|refine blk_drew ?_|refine blk_alloc ?_ _));exact BK181.out)) : gb182 ≠ gb181));clear BK181;clear HB;have BK181:=n0_;have HB:=n1_;have BK182:=n2_;have GW182:=n3_;have GE182:=n4_;have NB181_182:=n5_;have NB182_181:=n6_;clear n0_ n1_ n2_ n3_ n4_ n5_ n6_;clear hb hbox hg;have hnb20:=NB181_182.out;have hnc20:=NB182_181.out;have hcz21_0 : w19.cell? ⟨gb181,0,none⟩ = some (.int .i64 a0_0):=(blk_cell BK181.out 0).trans rfl;have hcz21_1 : w19.cell? ⟨gb181,1,none⟩ = some (.int .i64 a0_1):=(blk_cell BK181.out 1).trans rfl;have hcz21_2 : w19.cell? ⟨gb181,2,none⟩ = some (.int .i64 a0_2):=(blk_cell BK181.out 2).trans rfl;have hcz21_3 : w19.cell? ⟨gb181,3,none⟩ = some (.slice A0_3 l0_3.length c0_3):=(blk_cell BK181.out 3).trans rfl;have hcz21_4 : w19.cell? ⟨gb181,4,none⟩ = some (.int .i64 a0_4):=(blk_cell BK181.out 4).trans rfl;have hcz21_5 : w19.cell? ⟨gb181,5,none⟩ = some (.int .i64 a0_5):=(blk_cell BK181.out 5).trans rfl;have hcz21_6 : w19.cell? ⟨gb181,6,none⟩ = some (.slice A0_6 l0_6.length c0_6):=(blk_cell BK181.out 6).trans rfl;have hfz21_0:=blk_frozen BK181.out 0;have hfz21_1:=blk_frozen BK181.out 1;have hfz21_2:=blk_frozen BK181.out 2;have hfz21_3:=blk_frozen BK181.out 3;have hfz21_4:=blk_frozen BK181.out 4;have hfz21_5:=blk_frozen BK181.out 5;have hfz21_6:=blk_frozen BK181.out 6;have hcz22_0 : w19.cell? ⟨gb182,0,none⟩ = some (.int .i64 a1_0):=(blk_cell BK182.out 0).trans rfl;have hcz22_1 : w19.cell? ⟨gb182,1,none⟩ = some (.int .i64 a1_1):=(blk_cell BK182.out 1).trans rfl;have hcz22_2 : w19.cell? ⟨gb182,2,none⟩ = some (.int .i64 a1_2):=(blk_cell BK182.out 2).trans rfl;have hcz22_3 : w19.cell? ⟨gb182,3,none⟩ = some (.slice A1_3 l1_3.length c1_3):=(blk_cell BK182.out 3).trans rfl;have hcz22_4 : w19.cell? ⟨gb182,4,none⟩ = some (.int .i64 a1_4):=(blk_cell BK182.out 4).trans rfl;have hcz22_5 : w19.cell? ⟨gb182,5,none⟩ = some (.int .i64 a1_5):=(blk_cell BK182.out 5).trans rfl;have hcz22_6 : w19.cell? ⟨gb182,6,none⟩ = some (.slice A1_6 l1_6.length c1_6):=(blk_cell BK182.out 6).trans rfl;have hfz22_0:=blk_frozen BK182.out 0;have hfz22_1:=blk_frozen BK182.out 1;have hfz22_2:=blk_frozen BK182.out 2;have hfz22_3:=blk_frozen BK182.out 3;have hfz22_4:=blk_frozen BK182.out 4;have hfz22_5:=blk_frozen BK182.out 5;have hfz22_6:=blk_frozen BK182.out 6)|((with_reducible refine gate_callee (f:=25) rfl ?_);refine goesL_ (some 24) rfl rfl Try.func25 (by kernel_rfl) rfl #[.slice A0_3 l0_3.length c0_3,.slice A1_3 l1_3.length c1_3] rfl (by (try simp only [List.map_toArray,List.map_cons,List.map_nil]);first|done|rfl|(simp only [List.length_drop,List.length_take];rfl)) ?_;(with_reducible refine (laws_eqIntS.calls k _ _ l0_3 _ _ l1_3 true _ ?side1 ?side2 ?side3 ?side4 A6.out).mono ?_);(case side1 => repeat (first|exact (Kd.C_below HR0_3.out HB.out)|(with_reducible refine Kd.C_alloc ?_ _)|(with_reducible refine Kd.C_drewN ?_ _)|(with_reducible refine Kd.C_drew ?_)));(case side2 => exact HC0_3.out);(case side3 => repeat (first|exact (Kd.C_below HR1_3.out HB.out)|(with_reducible refine Kd.C_alloc ?_ _)|(with_reducible refine Kd.C_drewN ?_ _)|(with_reducible refine Kd.C_drew ?_)));(case side4 => exact HC1_3.out);rintro e w' ⟨rfl,⟨nd,rfl⟩⟩;refine ⟨_,rfl,?_⟩)|((with_reducible refine gate_callee (f:=52) rfl ?_);refine goesL_ (some 40) rfl rfl Try.func52 (by kernel_rfl) rfl #[.slice A0_6 l0_6.length c0_6,.slice A1_6 l1_6.length c1_6] rfl (by (try simp only [List.map_toArray,List.map_cons,List.map_nil]);first|done|rfl|(simp only [List.length_drop,List.length_take];rfl)) ?_;(with_reducible refine (laws_eqLsHostS.calls k _ _ l0_6 _ _ l1_6 false _ ?side1 ?side2 ?side3 ?side4 A10.out).mono ?_);(case side1 => repeat (first|exact (Kd.C_below HR0_6.out (by repeat (first|(with_reducible first|exact HB.out|apply below_alloc|apply pw_below_drewN|apply below_drew1|refine below_set ?_ GE181.out|refine below_set ?_ GE182.out)|exact HB.out)))|(with_reducible refine Kd.C_alloc ?_ _)|(with_reducible refine Kd.C_drewN ?_ _)|(with_reducible refine Kd.C_drew ?_)));(case side2 => exact HC0_6.out);(case side3 => repeat (first|exact (Kd.C_below HR1_6.out (by repeat (first|(with_reducible first|exact HB.out|apply below_alloc|apply pw_below_drewN|apply below_drew1|refine below_set ?_ GE181.out|refine below_set ?_ GE182.out)|exact HB.out)))|(with_reducible refine Kd.C_alloc ?_ _)|(with_reducible refine Kd.C_drewN ?_ _)|(with_reducible refine Kd.C_drew ?_)));(case side4 => exact HC1_6.out);rintro e w23 ⟨rfl,hb⟩;refine ⟨_,rfl,?_⟩;have n0_:=Aside0.mk (blk_below (g:=gb181) (o:=.cells #[.int .i64 a0_0,.int .i64 a0_1,.int .i64 a0_2,.slice A0_3 l0_3.length c0_3,.int .i64 a0_4,.int .i64 a0_5,.slice A0_6 l0_6.length c0_6] 30 (0,0)) (by (with_reducible repeat (first|refine blk_drewN ?_ _|refine blk_drew ?_|refine blk_alloc ?_ _));exact BK181.out) hb);have n1_:=Aside0.mk (blk_below (g:=gb182) (o:=.cells #[.int .i64 a1_0,.int .i64 a1_1,.int .i64 a1_2,.slice A1_3 l1_3.length c1_3,.int .i64 a1_4,.int .i64 a1_5,.slice A1_6 l1_6.length c1_6] 30 (0,0)) (by (with_reducible repeat (first|refine blk_drewN ?_ _|refine blk_drew ?_|refine blk_alloc ?_ _));exact BK182.out) hb);have n2_:=Aside0.mk (below_step (by repeat (first|(with_reducible first|exact HB.out|apply below_alloc|apply pw_below_drewN|apply below_drew1|refine below_set ?_ GE181.out|refine below_set ?_ GE182.out)|exact HB.out)) hb);clear BK181;clear BK182;clear HB;have BK181:=n0_;have BK182:=n1_;have HB:=n2_;clear n0_ n1_ n2_;(try clear hb);(try clear hb2);(try clear hk);(try clear hi)))
        go_ret
        exact ⟨by first|rfl|(simp [errW_none,errW_some] <;> rfl)|(simp [*,errW_none,errW_some] <;> rfl),by repeat (first|(with_reducible first|exact HB.out|apply below_alloc|apply pw_below_drewN|apply below_drew1|refine below_set ?_ GE181.out|refine below_set ?_ GE182.out)|exact HB.out)⟩
      ·
       rw [if_neg c9] at H
       have c9b0 : (a0_5 == a1_5) = false:=beq_eq_false_iff_ne.mpr c9
       have c9b1 : (a0_5 != a1_5) = true:=bne_iff_ne.mpr c9
       obtain rfl:=Option.some.inj H
       go_enter Try.func18,Try.ntmps18
       go_wp2_with (first|((with_reducible refine gate_dst (N:=2) rfl ?_);refine box_event ?hg (N:=2) ?hd (cs:=#[.int .i64 a0_0,.int .i64 a0_1,.int .i64 a0_2,.slice A0_3 l0_3.length c0_3,.int .i64 a0_4,.int .i64 a0_5,.slice A0_6 l0_6.length c0_6]) (t:=30) ?hr ?_;(case hd => rfl);(case hg => rfl);(case hr => first|(go_simp;done)|(go_simp;rfl));intro gb181 hg w24 hbox hb;have n0_:=Aside0.mk (below_step (by repeat (first|(with_reducible first|exact HB.out|apply below_alloc|apply pw_below_drewN|apply below_drew1)|exact HB.out)) hb);have n1_:=Aside0.mk (hbox);have n2_:=Aside0.mk ((by rw [hg];exact (below_size (by repeat (first|(with_reducible first|exact HB.out|apply below_alloc|apply pw_below_drewN|apply below_drew1)|exact HB.out))) : w.heap.size ≤ gb181));have n3_:=Aside0.mk ((by rw [hg];exact (below_size (by repeat (first|(with_reducible first|exact HB.out|apply below_alloc|apply pw_below_drewN|apply below_drew1)|exact HB.out))) : w.heap.size ≤ gb181));clear HB;have HB:=n0_;have BK181:=n1_;have GW181:=n2_;have GE181:=n3_;clear n0_ n1_ n2_ n3_;clear hb hbox hg)|((with_reducible refine gate_dst (N:=3) rfl ?_);refine box_event ?hg (N:=3) ?hd (cs:=#[.int .i64 a1_0,.int .i64 a1_1,.int .i64 a1_2,.slice A1_3 l1_3.length c1_3,.int .i64 a1_4,.int .i64 a1_5,.slice A1_6 l1_6.length c1_6]) (t:=30) ?hr ?_;(case hd => rfl);(case hg => rfl);(case hr => first|(go_simp;done)|(go_simp;rfl));intro gb182 hg w25 hbox hb;have n0_:=Aside0.mk (blk_below (g:=gb181) (o:=.cells #[.int .i64 a0_0,.int .i64 a0_1,.int .i64 a0_2,.slice A0_3 l0_3.length c0_3,.int .i64 a0_4,.int .i64 a0_5,.slice A0_6 l0_6.length c0_6] 30 (0,0)) (by (with_reducible repeat (first|refine blk_drewN ?_ _|refine blk_drew ?_|refine blk_alloc ?_ _));exact BK181.out) hb);have n1_:=Aside0.mk (below_step (by repeat (first|(with_reducible first|exact HB.out|apply below_alloc|apply pw_below_drewN|apply below_drew1|refine below_set ?_ GE181.out)|exact HB.out)) hb);have n2_:=Aside0.mk (hbox);have n3_:=Aside0.mk ((by rw [hg];exact (below_size (by repeat (first|(with_reducible first|exact HB.out|apply below_alloc|apply pw_below_drewN|apply below_drew1|refine below_set ?_ GE181.out)|exact HB.out))) : w.heap.size ≤ gb182));have n4_:=Aside0.mk ((by rw [hg];exact (below_size (by repeat (first|(with_reducible first|exact HB.out|apply below_alloc|apply pw_below_drewN|apply below_drew1|refine below_set ?_ GE181.out)|exact HB.out))) : w.heap.size ≤ gb182));have n5_:=Aside0.mk ((by rw [hg];exact Nat.ne_of_lt (blk_lt (g:=gb181) (o:=.cells #[.int .i64 a0_0,.int .i64 a0_1,.int .i64 a0_2,.slice A0_3 l0_3.length c0_3,.int .i64 a0_4,.int .i64 a0_5,.slice A0_6 l0_6.length c0_6] 30 (0,0)) (by (with_reducible repeat (first|refine blk_drewN ?_ _|refine blk_drew ?_|refine blk_alloc ?_ _));exact BK181.out)) : gb181 ≠ gb182));have n6_:=Aside0.mk ((by rw [hg];exact Nat.ne_of_gt (blk_lt (g:=gb181) (o:=.cells #[.int .i64 a0_0,.int .i64 a0_1,.int .i64 a0_2,.slice A0_3 l0_3.length c0_3,.int .i64 a0_4,.int .i64 a0_5,.slice A0_6 l0_6.length c0_6] 30 (0,0)) (by (with_reducible repeat (first|refine blk_drewN ?_ _|refine blk_drew ?_|refine blk_alloc ?_ _));exact BK181.out)) : gb182 ≠ gb181));clear BK181;clear HB;have BK181:=n0_;have HB:=n1_;have BK182:=n2_;have GW182:=n3_;have GE182:=n4_;have NB181_182:=n5_;have NB182_181:=n6_;clear n0_ n1_ n2_ n3_ n4_ n5_ n6_;clear hb hbox hg;have hnb26:=NB181_182.out;have hnc26:=NB182_181.out;have hcz27_0 : w25.cell? ⟨gb181,0,none⟩ = some (.int .i64 a0_0):=(blk_cell BK181.out 0).trans rfl;have hcz27_1 : w25.cell? ⟨gb181,1,none⟩ = some (.int .i64 a0_1):=(blk_cell BK181.out 1).trans rfl;have hcz27_2 : w25.cell? ⟨gb181,2,none⟩ = some (.int .i64 a0_2):=(blk_cell BK181.out 2).trans rfl;have hcz27_3 : w25.cell? ⟨gb181,3,none⟩ = some (.slice A0_3 l0_3.length c0_3):=(blk_cell BK181.out 3).trans rfl;have hcz27_4 : w25.cell? ⟨gb181,4,none⟩ = some (.int .i64 a0_4):=(blk_cell BK181.out 4).trans rfl;have hcz27_5 : w25.cell? ⟨gb181,5,none⟩ = some (.int .i64 a0_5):=(blk_cell BK181.out 5).trans rfl;have hcz27_6 : w25.cell? ⟨gb181,6,none⟩ = some (.slice A0_6 l0_6.length c0_6):=(blk_cell BK181.out 6).trans rfl;have hfz27_0:=blk_frozen BK181.out 0;have hfz27_1:=blk_frozen BK181.out 1;have hfz27_2:=blk_frozen BK181.out 2;have hfz27_3:=blk_frozen BK181.out 3;have hfz27_4:=blk_frozen BK181.out 4;have hfz27_5:=blk_frozen BK181.out 5;have hfz27_6:=blk_frozen BK181.out 6;have hcz28_0 : w25.cell? ⟨gb182,0,none⟩ = some (.int .i64 a1_0):=(blk_cell BK182.out 0).trans rfl;have hcz28_1 : w25.cell? ⟨gb182,1,none⟩ = some (.int .i64 a1_1):=(blk_cell BK182.out 1).trans rfl;have hcz28_2 : w25.cell? ⟨gb182,2,none⟩ = some (.int .i64 a1_2):=(blk_cell BK182.out 2).trans rfl;have hcz28_3 : w25.cell? ⟨gb182,3,none⟩ = some (.slice A1_3 l1_3.length c1_3):=(blk_cell BK182.out 3).trans rfl;have hcz28_4 : w25.cell? ⟨gb182,4,none⟩ = some (.int .i64 a1_4):=(blk_cell BK182.out 4).trans rfl;have hcz28_5 : w25.cell? ⟨gb182,5,none⟩ = some (.int .i64 a1_5):=(blk_cell BK182.out 5).trans rfl;have hcz28_6 : w25.cell? ⟨gb182,6,none⟩ = some (.slice A1_6 l1_6.length c1_6):=(blk_cell BK182.out 6).trans rfl;have hfz28_0:=blk_frozen BK182.out 0;have hfz28_1:=blk_frozen BK182.out 1;have hfz28_2:=blk_frozen BK182.out 2;have hfz28_3:=blk_frozen BK182.out 3;have hfz28_4:=blk_frozen BK182.out 4;have hfz28_5:=blk_frozen BK182.out 5;have hfz28_6:=blk_frozen BK182.out 6)|((with_reducible refine gate_callee (f:=25) rfl ?_);refine goesL_ (some 24) rfl rfl Try.func25 (by kernel_rfl) rfl #[.slice A0_3 l0_3.length c0_3,.slice A1_3 l1_3.length c1_3] rfl (by (try simp only [List.map_toArray,List.map_cons,List.map_nil]);first|done|rfl|(simp only [List.length_drop,List.length_take];rfl)) ?_;(with_reducible refine (laws_eqIntS.calls k _ _ l0_3 _ _ l1_3 true _ ?side1 ?side2 ?side3 ?side4 A6.out).mono ?_);(case side1 => repeat (first|exact (Kd.C_below HR0_3.out HB.out)|(with_reducible refine Kd.C_alloc ?_ _)|(with_reducible refine Kd.C_drewN ?_ _)|(with_reducible refine Kd.C_drew ?_)));(case side2 => exact HC0_3.out);(case side3 => repeat (first|exact (Kd.C_below HR1_3.out HB.out)|(with_reducible refine Kd.C_alloc ?_ _)|(with_reducible refine Kd.C_drewN ?_ _)|(with_reducible refine Kd.C_drew ?_)));(case side4 => exact HC1_3.out);rintro e w' ⟨rfl,⟨nd,rfl⟩⟩;refine ⟨_,rfl,?_⟩))
       go_ret
       exact ⟨by first|rfl|(simp [errW_none,errW_some] <;> rfl)|(simp [*,errW_none,errW_some] <;> rfl),by repeat (first|(with_reducible first|exact HB.out|apply below_alloc|apply pw_below_drewN|apply below_drew1|refine below_set ?_ GE181.out|refine below_set ?_ GE182.out)|exact HB.out)⟩
     ·
      rw [if_neg c8] at H
      have c8b0 : (a0_4 == a1_4) = false:=beq_eq_false_iff_ne.mpr c8
      have c8b1 : (a0_4 != a1_4) = true:=bne_iff_ne.mpr c8
      obtain rfl:=Option.some.inj H
      go_enter Try.func18,Try.ntmps18
      go_wp2_with (first|((with_reducible refine gate_dst (N:=2) rfl ?_);refine box_event ?hg (N:=2) ?hd (cs:=#[.int .i64 a0_0,.int .i64 a0_1,.int .i64 a0_2,.slice A0_3 l0_3.length c0_3,.int .i64 a0_4,.int .i64 a0_5,.slice A0_6 l0_6.length c0_6]) (t:=30) ?hr ?_;(case hd => rfl);(case hg => rfl);(case hr => first|(go_simp;done)|(go_simp;rfl));intro gb181 hg w29 hbox hb;have n0_:=Aside0.mk (below_step (by repeat (first|(with_reducible first|exact HB.out|apply below_alloc|apply pw_below_drewN|apply below_drew1)|exact HB.out)) hb);have n1_:=Aside0.mk (hbox);have n2_:=Aside0.mk ((by rw [hg];exact (below_size (by repeat (first|(with_reducible first|exact HB.out|apply below_alloc|apply pw_below_drewN|apply below_drew1)|exact HB.out))) : w.heap.size ≤ gb181));have n3_:=Aside0.mk ((by rw [hg];exact (below_size (by repeat (first|(with_reducible first|exact HB.out|apply below_alloc|apply pw_below_drewN|apply below_drew1)|exact HB.out))) : w.heap.size ≤ gb181));clear HB;have HB:=n0_;have BK181:=n1_;have GW181:=n2_;have GE181:=n3_;clear n0_ n1_ n2_ n3_;clear hb hbox hg)|((with_reducible refine gate_dst (N:=3) rfl ?_);refine box_event ?hg (N:=3) ?hd (cs:=#[.int .i64 a1_0,.int .i64 a1_1,.int .i64 a1_2,.slice A1_3 l1_3.length c1_3,.int .i64 a1_4,.int .i64 a1_5,.slice A1_6 l1_6.length c1_6]) (t:=30) ?hr ?_;(case hd => rfl);(case hg => rfl);(case hr => first|(go_simp;done)|(go_simp;rfl));intro gb182 hg w30 hbox hb;have n0_:=Aside0.mk (blk_below (g:=gb181) (o:=.cells #[.int .i64 a0_0,.int .i64 a0_1,.int .i64 a0_2,.slice A0_3 l0_3.length c0_3,.int .i64 a0_4,.int .i64 a0_5,.slice A0_6 l0_6.length c0_6] 30 (0,0)) (by (with_reducible repeat (first|refine blk_drewN ?_ _|refine blk_drew ?_|refine blk_alloc ?_ _));exact BK181.out) hb);have n1_:=Aside0.mk (below_step (by repeat (first|(with_reducible first|exact HB.out|apply below_alloc|apply pw_below_drewN|apply below_drew1|refine below_set ?_ GE181.out)|exact HB.out)) hb);have n2_:=Aside0.mk (hbox);have n3_:=Aside0.mk ((by rw [hg];exact (below_size (by repeat (first|(with_reducible first|exact HB.out|apply below_alloc|apply pw_below_drewN|apply below_drew1|refine below_set ?_ GE181.out)|exact HB.out))) : w.heap.size ≤ gb182));have n4_:=Aside0.mk ((by rw [hg];exact (below_size (by repeat (first|(with_reducible first|exact HB.out|apply below_alloc|apply pw_below_drewN|apply below_drew1|refine below_set ?_ GE181.out)|exact HB.out))) : w.heap.size ≤ gb182));have n5_:=Aside0.mk ((by rw [hg];exact Nat.ne_of_lt (blk_lt (g:=gb181) (o:=.cells #[.int .i64 a0_0,.int .i64 a0_1,.int .i64 a0_2,.slice A0_3 l0_3.length c0_3,.int .i64 a0_4,.int .i64 a0_5,.slice A0_6 l0_6.length c0_6] 30 (0,0)) (by (with_reducible repeat (first|refine blk_drewN ?_ _|refine blk_drew ?_|refine blk_alloc ?_ _));exact BK181.out)) : gb181 ≠ gb182));have n6_:=Aside0.mk ((by rw [hg];exact Nat.ne_of_gt (blk_lt (g:=gb181) (o:=.cells #[.int .i64 a0_0,.int .i64 a0_1,.int .i64 a0_2,.slice A0_3 l0_3.length c0_3,.int .i64 a0_4,.int .i64 a0_5,.slice A0_6 l0_6.length c0_6] 30 (0,0)) (by (with_reducible repeat (first|refine blk_drewN ?_ _|refine blk_drew ?_|refine blk_alloc ?_ _));exact BK181.out)) : gb182 ≠ gb181));clear BK181;clear HB;have BK181:=n0_;have HB:=n1_;have BK182:=n2_;have GW182:=n3_;have GE182:=n4_;have NB181_182:=n5_;have NB182_181:=n6_;clear n0_ n1_ n2_ n3_ n4_ n5_ n6_;clear hb hbox hg;have hnb31:=NB181_182.out;have hnc31:=NB182_181.out;have hcz32_0 : w30.cell? ⟨gb181,0,none⟩ = some (.int .i64 a0_0):=(blk_cell BK181.out 0).trans rfl;have hcz32_1 : w30.cell? ⟨gb181,1,none⟩ = some (.int .i64 a0_1):=(blk_cell BK181.out 1).trans rfl;have hcz32_2 : w30.cell? ⟨gb181,2,none⟩ = some (.int .i64 a0_2):=(blk_cell BK181.out 2).trans rfl;have hcz32_3 : w30.cell? ⟨gb181,3,none⟩ = some (.slice A0_3 l0_3.length c0_3):=(blk_cell BK181.out 3).trans rfl;have hcz32_4 : w30.cell? ⟨gb181,4,none⟩ = some (.int .i64 a0_4):=(blk_cell BK181.out 4).trans rfl;have hcz32_5 : w30.cell? ⟨gb181,5,none⟩ = some (.int .i64 a0_5):=(blk_cell BK181.out 5).trans rfl;have hcz32_6 : w30.cell? ⟨gb181,6,none⟩ = some (.slice A0_6 l0_6.length c0_6):=(blk_cell BK181.out 6).trans rfl;have hfz32_0:=blk_frozen BK181.out 0;have hfz32_1:=blk_frozen BK181.out 1;have hfz32_2:=blk_frozen BK181.out 2;have hfz32_3:=blk_frozen BK181.out 3;have hfz32_4:=blk_frozen BK181.out 4;have hfz32_5:=blk_frozen BK181.out 5;have hfz32_6:=blk_frozen BK181.out 6;have hcz33_0 : w30.cell? ⟨gb182,0,none⟩ = some (.int .i64 a1_0):=(blk_cell BK182.out 0).trans rfl;have hcz33_1 : w30.cell? ⟨gb182,1,none⟩ = some (.int .i64 a1_1):=(blk_cell BK182.out 1).trans rfl;have hcz33_2 : w30.cell? ⟨gb182,2,none⟩ = some (.int .i64 a1_2):=(blk_cell BK182.out 2).trans rfl;have hcz33_3 : w30.cell? ⟨gb182,3,none⟩ = some (.slice A1_3 l1_3.length c1_3):=(blk_cell BK182.out 3).trans rfl;have hcz33_4 : w30.cell? ⟨gb182,4,none⟩ = some (.int .i64 a1_4):=(blk_cell BK182.out 4).trans rfl;have hcz33_5 : w30.cell? ⟨gb182,5,none⟩ = some (.int .i64 a1_5):=(blk_cell BK182.out 5).trans rfl;have hcz33_6 : w30.cell? ⟨gb182,6,none⟩ = some (.slice A1_6 l1_6.length c1_6):=(blk_cell BK182.out 6).trans rfl;have hfz33_0:=blk_frozen BK182.out 0;have hfz33_1:=blk_frozen BK182.out 1;have hfz33_2:=blk_frozen BK182.out 2;have hfz33_3:=blk_frozen BK182.out 3;have hfz33_4:=blk_frozen BK182.out 4;have hfz33_5:=blk_frozen BK182.out 5;have hfz33_6:=blk_frozen BK182.out 6)|((with_reducible refine gate_callee (f:=25) rfl ?_);refine goesL_ (some 24) rfl rfl Try.func25 (by kernel_rfl) rfl #[.slice A0_3 l0_3.length c0_3,.slice A1_3 l1_3.length c1_3] rfl (by (try simp only [List.map_toArray,List.map_cons,List.map_nil]);first|done|rfl|(simp only [List.length_drop,List.length_take];rfl)) ?_;(with_reducible refine (laws_eqIntS.calls k _ _ l0_3 _ _ l1_3 true _ ?side1 ?side2 ?side3 ?side4 A6.out).mono ?_);(case side1 => repeat (first|exact (Kd.C_below HR0_3.out HB.out)|(with_reducible refine Kd.C_alloc ?_ _)|(with_reducible refine Kd.C_drewN ?_ _)|(with_reducible refine Kd.C_drew ?_)));(case side2 => exact HC0_3.out);(case side3 => repeat (first|exact (Kd.C_below HR1_3.out HB.out)|(with_reducible refine Kd.C_alloc ?_ _)|(with_reducible refine Kd.C_drewN ?_ _)|(with_reducible refine Kd.C_drew ?_)));(case side4 => exact HC1_3.out);rintro e w' ⟨rfl,⟨nd,rfl⟩⟩;refine ⟨_,rfl,?_⟩))
      go_ret
      exact ⟨by first|rfl|(simp [errW_none,errW_some] <;> rfl)|(simp [*,errW_none,errW_some] <;> rfl),by repeat (first|(with_reducible first|exact HB.out|apply below_alloc|apply pw_below_drewN|apply below_drew1|refine below_set ?_ GE181.out|refine below_set ?_ GE182.out)|exact HB.out)⟩
    ·
     replace c7:=Bool.eq_false_iff.mpr c7
     subst c7
     have H1 : (some false) = some r:=by rw [if_neg (show ¬ (false = true) by decide)] at H;exact H
     clear H
     have H:=H1
     clear H1
     obtain rfl:=Option.some.inj H
     go_enter Try.func18,Try.ntmps18
     go_wp2_with (first|((with_reducible refine gate_dst (N:=2) rfl ?_);refine box_event ?hg (N:=2) ?hd (cs:=#[.int .i64 a0_0,.int .i64 a0_1,.int .i64 a0_2,.slice A0_3 l0_3.length c0_3,.int .i64 a0_4,.int .i64 a0_5,.slice A0_6 l0_6.length c0_6]) (t:=30) ?hr ?_;(case hd => rfl);(case hg => rfl);(case hr => first|(go_simp;done)|(go_simp;rfl));intro gb181 hg w34 hbox hb;have n0_:=Aside0.mk (below_step (by repeat (first|(with_reducible first|exact HB.out|apply below_alloc|apply pw_below_drewN|apply below_drew1)|exact HB.out)) hb);have n1_:=Aside0.mk (hbox);have n2_:=Aside0.mk ((by rw [hg];exact (below_size (by repeat (first|(with_reducible first|exact HB.out|apply below_alloc|apply pw_below_drewN|apply below_drew1)|exact HB.out))) : w.heap.size ≤ gb181));have n3_:=Aside0.mk ((by rw [hg];exact (below_size (by repeat (first|(with_reducible first|exact HB.out|apply below_alloc|apply pw_below_drewN|apply below_drew1)|exact HB.out))) : w.heap.size ≤ gb181));clear HB;have HB:=n0_;have BK181:=n1_;have GW181:=n2_;have GE181:=n3_;clear n0_ n1_ n2_ n3_;clear hb hbox hg)|((with_reducible refine gate_dst (N:=3) rfl ?_);refine box_event ?hg (N:=3) ?hd (cs:=#[.int .i64 a1_0,.int .i64 a1_1,.int .i64 a1_2,.slice A1_3 l1_3.length c1_3,.int .i64 a1_4,.int .i64 a1_5,.slice A1_6 l1_6.length c1_6]) (t:=30) ?hr ?_;(case hd => rfl);(case hg => rfl);(case hr => first|(go_simp;done)|(go_simp;rfl));intro gb182 hg w35 hbox hb;have n0_:=Aside0.mk (blk_below (g:=gb181) (o:=.cells #[.int .i64 a0_0,.int .i64 a0_1,.int .i64 a0_2,.slice A0_3 l0_3.length c0_3,.int .i64 a0_4,.int .i64 a0_5,.slice A0_6 l0_6.length c0_6] 30 (0,0)) (by (with_reducible repeat (first|refine blk_drewN ?_ _|refine blk_drew ?_|refine blk_alloc ?_ _));exact BK181.out) hb);have n1_:=Aside0.mk (below_step (by repeat (first|(with_reducible first|exact HB.out|apply below_alloc|apply pw_below_drewN|apply below_drew1|refine below_set ?_ GE181.out)|exact HB.out)) hb);have n2_:=Aside0.mk (hbox);have n3_:=Aside0.mk ((by rw [hg];exact (below_size (by repeat (first|(with_reducible first|exact HB.out|apply below_alloc|apply pw_below_drewN|apply below_drew1|refine below_set ?_ GE181.out)|exact HB.out))) : w.heap.size ≤ gb182));have n4_:=Aside0.mk ((by rw [hg];exact (below_size (by repeat (first|(with_reducible first|exact HB.out|apply below_alloc|apply pw_below_drewN|apply below_drew1|refine below_set ?_ GE181.out)|exact HB.out))) : w.heap.size ≤ gb182));have n5_:=Aside0.mk ((by rw [hg];exact Nat.ne_of_lt (blk_lt (g:=gb181) (o:=.cells #[.int .i64 a0_0,.int .i64 a0_1,.int .i64 a0_2,.slice A0_3 l0_3.length c0_3,.int .i64 a0_4,.int .i64 a0_5,.slice A0_6 l0_6.length c0_6] 30 (0,0)) (by (with_reducible repeat (first|refine blk_drewN ?_ _|refine blk_drew ?_|refine blk_alloc ?_ _));exact BK181.out)) : gb181 ≠ gb182));have n6_:=Aside0.mk ((by rw [hg];exact Nat.ne_of_gt (blk_lt (g:=gb181) (o:=.cells #[.int .i64 a0_0,.int .i64 a0_1,.int .i64 a0_2,.slice A0_3 l0_3.length c0_3,.int .i64 a0_4,.int .i64 a0_5,.slice A0_6 l0_6.length c0_6] 30 (0,0)) (by (with_reducible repeat (first|refine blk_drewN ?_ _|refine blk_drew ?_|refine blk_alloc ?_ _));exact BK181.out)) : gb182 ≠ gb181));clear BK181;clear HB;have BK181:=n0_;have HB:=n1_;have BK182:=n2_;have GW182:=n3_;have GE182:=n4_;have NB181_182:=n5_;have NB182_181:=n6_;clear n0_ n1_ n2_ n3_ n4_ n5_ n6_;clear hb hbox hg;have hnb36:=NB181_182.out;have hnc36:=NB182_181.out;have hcz37_0 : w35.cell? ⟨gb181,0,none⟩ = some (.int .i64 a0_0):=(blk_cell BK181.out 0).trans rfl;have hcz37_1 : w35.cell? ⟨gb181,1,none⟩ = some (.int .i64 a0_1):=(blk_cell BK181.out 1).trans rfl;have hcz37_2 : w35.cell? ⟨gb181,2,none⟩ = some (.int .i64 a0_2):=(blk_cell BK181.out 2).trans rfl;have hcz37_3 : w35.cell? ⟨gb181,3,none⟩ = some (.slice A0_3 l0_3.length c0_3):=(blk_cell BK181.out 3).trans rfl;have hcz37_4 : w35.cell? ⟨gb181,4,none⟩ = some (.int .i64 a0_4):=(blk_cell BK181.out 4).trans rfl;have hcz37_5 : w35.cell? ⟨gb181,5,none⟩ = some (.int .i64 a0_5):=(blk_cell BK181.out 5).trans rfl;have hcz37_6 : w35.cell? ⟨gb181,6,none⟩ = some (.slice A0_6 l0_6.length c0_6):=(blk_cell BK181.out 6).trans rfl;have hfz37_0:=blk_frozen BK181.out 0;have hfz37_1:=blk_frozen BK181.out 1;have hfz37_2:=blk_frozen BK181.out 2;have hfz37_3:=blk_frozen BK181.out 3;have hfz37_4:=blk_frozen BK181.out 4;have hfz37_5:=blk_frozen BK181.out 5;have hfz37_6:=blk_frozen BK181.out 6;have hcz38_0 : w35.cell? ⟨gb182,0,none⟩ = some (.int .i64 a1_0):=(blk_cell BK182.out 0).trans rfl;have hcz38_1 : w35.cell? ⟨gb182,1,none⟩ = some (.int .i64 a1_1):=(blk_cell BK182.out 1).trans rfl;have hcz38_2 : w35.cell? ⟨gb182,2,none⟩ = some (.int .i64 a1_2):=(blk_cell BK182.out 2).trans rfl;have hcz38_3 : w35.cell? ⟨gb182,3,none⟩ = some (.slice A1_3 l1_3.length c1_3):=(blk_cell BK182.out 3).trans rfl;have hcz38_4 : w35.cell? ⟨gb182,4,none⟩ = some (.int .i64 a1_4):=(blk_cell BK182.out 4).trans rfl;have hcz38_5 : w35.cell? ⟨gb182,5,none⟩ = some (.int .i64 a1_5):=(blk_cell BK182.out 5).trans rfl;have hcz38_6 : w35.cell? ⟨gb182,6,none⟩ = some (.slice A1_6 l1_6.length c1_6):=(blk_cell BK182.out 6).trans rfl;have hfz38_0:=blk_frozen BK182.out 0;have hfz38_1:=blk_frozen BK182.out 1;have hfz38_2:=blk_frozen BK182.out 2;have hfz38_3:=blk_frozen BK182.out 3;have hfz38_4:=blk_frozen BK182.out 4;have hfz38_5:=blk_frozen BK182.out 5;have hfz38_6:=blk_frozen BK182.out 6)|((with_reducible refine gate_callee (f:=25) rfl ?_);refine goesL_ (some 24) rfl rfl Try.func25 (by kernel_rfl) rfl #[.slice A0_3 l0_3.length c0_3,.slice A1_3 l1_3.length c1_3] rfl (by (try simp only [List.map_toArray,List.map_cons,List.map_nil]);first|done|rfl|(simp only [List.length_drop,List.length_take];rfl)) ?_;(with_reducible refine (laws_eqIntS.calls k _ _ l0_3 _ _ l1_3 false _ ?side1 ?side2 ?side3 ?side4 A6.out).mono ?_);(case side1 => repeat (first|exact (Kd.C_below HR0_3.out HB.out)|(with_reducible refine Kd.C_alloc ?_ _)|(with_reducible refine Kd.C_drewN ?_ _)|(with_reducible refine Kd.C_drew ?_)));(case side2 => exact HC0_3.out);(case side3 => repeat (first|exact (Kd.C_below HR1_3.out HB.out)|(with_reducible refine Kd.C_alloc ?_ _)|(with_reducible refine Kd.C_drewN ?_ _)|(with_reducible refine Kd.C_drew ?_)));(case side4 => exact HC1_3.out);rintro e w' ⟨rfl,⟨nd,rfl⟩⟩;refine ⟨_,rfl,?_⟩))
     go_ret
     exact ⟨by first|rfl|(simp [errW_none,errW_some] <;> rfl)|(simp [*,errW_none,errW_some] <;> rfl),by repeat (first|(with_reducible first|exact HB.out|apply below_alloc|apply pw_below_drewN|apply below_drew1|refine below_set ?_ GE181.out|refine below_set ?_ GE182.out)|exact HB.out)⟩
   ·
    rw [if_neg c5] at H
    have c5b0 : (a0_2 == a1_2) = false:=beq_eq_false_iff_ne.mpr c5
    have c5b1 : (a0_2 != a1_2) = true:=bne_iff_ne.mpr c5
    obtain rfl:=Option.some.inj H
    go_enter Try.func18,Try.ntmps18
    go_wp2_with (first|((with_reducible refine gate_dst (N:=2) rfl ?_);refine box_event ?hg (N:=2) ?hd (cs:=#[.int .i64 a0_0,.int .i64 a0_1,.int .i64 a0_2,.slice A0_3 l0_3.length c0_3,.int .i64 a0_4,.int .i64 a0_5,.slice A0_6 l0_6.length c0_6]) (t:=30) ?hr ?_;(case hd => rfl);(case hg => rfl);(case hr => first|(go_simp;done)|(go_simp;rfl));intro gb181 hg w39 hbox hb;have n0_:=Aside0.mk (below_step (by repeat (first|(with_reducible first|exact HB.out|apply below_alloc|apply pw_below_drewN|apply below_drew1)|exact HB.out)) hb);have n1_:=Aside0.mk (hbox);have n2_:=Aside0.mk ((by rw [hg];exact (below_size (by repeat (first|(with_reducible first|exact HB.out|apply below_alloc|apply pw_below_drewN|apply below_drew1)|exact HB.out))) : w.heap.size ≤ gb181));have n3_:=Aside0.mk ((by rw [hg];exact (below_size (by repeat (first|(with_reducible first|exact HB.out|apply below_alloc|apply pw_below_drewN|apply below_drew1)|exact HB.out))) : w.heap.size ≤ gb181));clear HB;have HB:=n0_;have BK181:=n1_;have GW181:=n2_;have GE181:=n3_;clear n0_ n1_ n2_ n3_;clear hb hbox hg)|((with_reducible refine gate_dst (N:=3) rfl ?_);refine box_event ?hg (N:=3) ?hd (cs:=#[.int .i64 a1_0,.int .i64 a1_1,.int .i64 a1_2,.slice A1_3 l1_3.length c1_3,.int .i64 a1_4,.int .i64 a1_5,.slice A1_6 l1_6.length c1_6]) (t:=30) ?hr ?_;(case hd => rfl);(case hg => rfl);(case hr => first|(go_simp;done)|(go_simp;rfl));intro gb182 hg w40 hbox hb;have n0_:=Aside0.mk (blk_below (g:=gb181) (o:=.cells #[.int .i64 a0_0,.int .i64 a0_1,.int .i64 a0_2,.slice A0_3 l0_3.length c0_3,.int .i64 a0_4,.int .i64 a0_5,.slice A0_6 l0_6.length c0_6] 30 (0,0)) (by (with_reducible repeat (first|refine blk_drewN ?_ _|refine blk_drew ?_|refine blk_alloc ?_ _));exact BK181.out) hb);have n1_:=Aside0.mk (below_step (by repeat (first|(with_reducible first|exact HB.out|apply below_alloc|apply pw_below_drewN|apply below_drew1|refine below_set ?_ GE181.out)|exact HB.out)) hb);have n2_:=Aside0.mk (hbox);have n3_:=Aside0.mk ((by rw [hg];exact (below_size (by repeat (first|(with_reducible first|exact HB.out|apply below_alloc|apply pw_below_drewN|apply below_drew1|refine below_set ?_ GE181.out)|exact HB.out))) : w.heap.size ≤ gb182));have n4_:=Aside0.mk ((by rw [hg];exact (below_size (by repeat (first|(with_reducible first|exact HB.out|apply below_alloc|apply pw_below_drewN|apply below_drew1|refine below_set ?_ GE181.out)|exact HB.out))) : w.heap.size ≤ gb182));have n5_:=Aside0.mk ((by rw [hg];exact Nat.ne_of_lt (blk_lt (g:=gb181) (o:=.cells #[.int .i64 a0_0,.int .i64 a0_1,.int .i64 a0_2,.slice A0_3 l0_3.length c0_3,.int .i64 a0_4,.int .i64 a0_5,.slice A0_6 l0_6.length c0_6] 30 (0,0)) (by (with_reducible repeat (first|refine blk_drewN ?_ _|refine blk_drew ?_|refine blk_alloc ?_ _));exact BK181.out)) : gb181 ≠ gb182));have n6_:=Aside0.mk ((by rw [hg];exact Nat.ne_of_gt (blk_lt (g:=gb181) (o:=.cells #[.int .i64 a0_0,.int .i64 a0_1,.int .i64 a0_2,.slice A0_3 l0_3.length c0_3,.int .i64 a0_4,.int .i64 a0_5,.slice A0_6 l0_6.length c0_6] 30 (0,0)) (by (with_reducible repeat (first|refine blk_drewN ?_ _|refine blk_drew ?_|refine blk_alloc ?_ _));exact BK181.out)) : gb182 ≠ gb181));clear BK181;clear HB;have BK181:=n0_;have HB:=n1_;have BK182:=n2_;have GW182:=n3_;have GE182:=n4_;have NB181_182:=n5_;have NB182_181:=n6_;clear n0_ n1_ n2_ n3_ n4_ n5_ n6_;clear hb hbox hg;have hnb41:=NB181_182.out;have hnc41:=NB182_181.out;have hcz42_0 : w40.cell? ⟨gb181,0,none⟩ = some (.int .i64 a0_0):=(blk_cell BK181.out 0).trans rfl;have hcz42_1 : w40.cell? ⟨gb181,1,none⟩ = some (.int .i64 a0_1):=(blk_cell BK181.out 1).trans rfl;have hcz42_2 : w40.cell? ⟨gb181,2,none⟩ = some (.int .i64 a0_2):=(blk_cell BK181.out 2).trans rfl;have hcz42_3 : w40.cell? ⟨gb181,3,none⟩ = some (.slice A0_3 l0_3.length c0_3):=(blk_cell BK181.out 3).trans rfl;have hcz42_4 : w40.cell? ⟨gb181,4,none⟩ = some (.int .i64 a0_4):=(blk_cell BK181.out 4).trans rfl;have hcz42_5 : w40.cell? ⟨gb181,5,none⟩ = some (.int .i64 a0_5):=(blk_cell BK181.out 5).trans rfl;have hcz42_6 : w40.cell? ⟨gb181,6,none⟩ = some (.slice A0_6 l0_6.length c0_6):=(blk_cell BK181.out 6).trans rfl;have hfz42_0:=blk_frozen BK181.out 0;have hfz42_1:=blk_frozen BK181.out 1;have hfz42_2:=blk_frozen BK181.out 2;have hfz42_3:=blk_frozen BK181.out 3;have hfz42_4:=blk_frozen BK181.out 4;have hfz42_5:=blk_frozen BK181.out 5;have hfz42_6:=blk_frozen BK181.out 6;have hcz43_0 : w40.cell? ⟨gb182,0,none⟩ = some (.int .i64 a1_0):=(blk_cell BK182.out 0).trans rfl;have hcz43_1 : w40.cell? ⟨gb182,1,none⟩ = some (.int .i64 a1_1):=(blk_cell BK182.out 1).trans rfl;have hcz43_2 : w40.cell? ⟨gb182,2,none⟩ = some (.int .i64 a1_2):=(blk_cell BK182.out 2).trans rfl;have hcz43_3 : w40.cell? ⟨gb182,3,none⟩ = some (.slice A1_3 l1_3.length c1_3):=(blk_cell BK182.out 3).trans rfl;have hcz43_4 : w40.cell? ⟨gb182,4,none⟩ = some (.int .i64 a1_4):=(blk_cell BK182.out 4).trans rfl;have hcz43_5 : w40.cell? ⟨gb182,5,none⟩ = some (.int .i64 a1_5):=(blk_cell BK182.out 5).trans rfl;have hcz43_6 : w40.cell? ⟨gb182,6,none⟩ = some (.slice A1_6 l1_6.length c1_6):=(blk_cell BK182.out 6).trans rfl;have hfz43_0:=blk_frozen BK182.out 0;have hfz43_1:=blk_frozen BK182.out 1;have hfz43_2:=blk_frozen BK182.out 2;have hfz43_3:=blk_frozen BK182.out 3;have hfz43_4:=blk_frozen BK182.out 4;have hfz43_5:=blk_frozen BK182.out 5;have hfz43_6:=blk_frozen BK182.out 6))
    go_ret
    exact ⟨by first|rfl|(simp [errW_none,errW_some] <;> rfl)|(simp [*,errW_none,errW_some] <;> rfl),by repeat (first|(with_reducible first|exact HB.out|apply below_alloc|apply pw_below_drewN|apply below_drew1|refine below_set ?_ GE181.out|refine below_set ?_ GE182.out)|exact HB.out)⟩
  ·
   rw [if_neg c4] at H
   have c4b0 : (a0_1 == a1_1) = false:=beq_eq_false_iff_ne.mpr c4
   have c4b1 : (a0_1 != a1_1) = true:=bne_iff_ne.mpr c4
   obtain rfl:=Option.some.inj H
   go_enter Try.func18,Try.ntmps18
   go_wp2_with (first|((with_reducible refine gate_dst (N:=2) rfl ?_);refine box_event ?hg (N:=2) ?hd (cs:=#[.int .i64 a0_0,.int .i64 a0_1,.int .i64 a0_2,.slice A0_3 l0_3.length c0_3,.int .i64 a0_4,.int .i64 a0_5,.slice A0_6 l0_6.length c0_6]) (t:=30) ?hr ?_;(case hd => rfl);(case hg => rfl);(case hr => first|(go_simp;done)|(go_simp;rfl));intro gb181 hg w44 hbox hb;have n0_:=Aside0.mk (below_step (by repeat (first|(with_reducible first|exact HB.out|apply below_alloc|apply pw_below_drewN|apply below_drew1)|exact HB.out)) hb);have n1_:=Aside0.mk (hbox);have n2_:=Aside0.mk ((by rw [hg];exact (below_size (by repeat (first|(with_reducible first|exact HB.out|apply below_alloc|apply pw_below_drewN|apply below_drew1)|exact HB.out))) : w.heap.size ≤ gb181));have n3_:=Aside0.mk ((by rw [hg];exact (below_size (by repeat (first|(with_reducible first|exact HB.out|apply below_alloc|apply pw_below_drewN|apply below_drew1)|exact HB.out))) : w.heap.size ≤ gb181));clear HB;have HB:=n0_;have BK181:=n1_;have GW181:=n2_;have GE181:=n3_;clear n0_ n1_ n2_ n3_;clear hb hbox hg)|((with_reducible refine gate_dst (N:=3) rfl ?_);refine box_event ?hg (N:=3) ?hd (cs:=#[.int .i64 a1_0,.int .i64 a1_1,.int .i64 a1_2,.slice A1_3 l1_3.length c1_3,.int .i64 a1_4,.int .i64 a1_5,.slice A1_6 l1_6.length c1_6]) (t:=30) ?hr ?_;(case hd => rfl);(case hg => rfl);(case hr => first|(go_simp;done)|(go_simp;rfl));intro gb182 hg w45 hbox hb;have n0_:=Aside0.mk (blk_below (g:=gb181) (o:=.cells #[.int .i64 a0_0,.int .i64 a0_1,.int .i64 a0_2,.slice A0_3 l0_3.length c0_3,.int .i64 a0_4,.int .i64 a0_5,.slice A0_6 l0_6.length c0_6] 30 (0,0)) (by (with_reducible repeat (first|refine blk_drewN ?_ _|refine blk_drew ?_|refine blk_alloc ?_ _));exact BK181.out) hb);have n1_:=Aside0.mk (below_step (by repeat (first|(with_reducible first|exact HB.out|apply below_alloc|apply pw_below_drewN|apply below_drew1|refine below_set ?_ GE181.out)|exact HB.out)) hb);have n2_:=Aside0.mk (hbox);have n3_:=Aside0.mk ((by rw [hg];exact (below_size (by repeat (first|(with_reducible first|exact HB.out|apply below_alloc|apply pw_below_drewN|apply below_drew1|refine below_set ?_ GE181.out)|exact HB.out))) : w.heap.size ≤ gb182));have n4_:=Aside0.mk ((by rw [hg];exact (below_size (by repeat (first|(with_reducible first|exact HB.out|apply below_alloc|apply pw_below_drewN|apply below_drew1|refine below_set ?_ GE181.out)|exact HB.out))) : w.heap.size ≤ gb182));have n5_:=Aside0.mk ((by rw [hg];exact Nat.ne_of_lt (blk_lt (g:=gb181) (o:=.cells #[.int .i64 a0_0,.int .i64 a0_1,.int .i64 a0_2,.slice A0_3 l0_3.length c0_3,.int .i64 a0_4,.int .i64 a0_5,.slice A0_6 l0_6.length c0_6] 30 (0,0)) (by (with_reducible repeat (first|refine blk_drewN ?_ _|refine blk_drew ?_|refine blk_alloc ?_ _));exact BK181.out)) : gb181 ≠ gb182));have n6_:=Aside0.mk ((by rw [hg];exact Nat.ne_of_gt (blk_lt (g:=gb181) (o:=.cells #[.int .i64 a0_0,.int .i64 a0_1,.int .i64 a0_2,.slice A0_3 l0_3.length c0_3,.int .i64 a0_4,.int .i64 a0_5,.slice A0_6 l0_6.length c0_6] 30 (0,0)) (by (with_reducible repeat (first|refine blk_drewN ?_ _|refine blk_drew ?_|refine blk_alloc ?_ _));exact BK181.out)) : gb182 ≠ gb181));clear BK181;clear HB;have BK181:=n0_;have HB:=n1_;have BK182:=n2_;have GW182:=n3_;have GE182:=n4_;have NB181_182:=n5_;have NB182_181:=n6_;clear n0_ n1_ n2_ n3_ n4_ n5_ n6_;clear hb hbox hg;have hnb46:=NB181_182.out;have hnc46:=NB182_181.out;have hcz47_0 : w45.cell? ⟨gb181,0,none⟩ = some (.int .i64 a0_0):=(blk_cell BK181.out 0).trans rfl;have hcz47_1 : w45.cell? ⟨gb181,1,none⟩ = some (.int .i64 a0_1):=(blk_cell BK181.out 1).trans rfl;have hcz47_2 : w45.cell? ⟨gb181,2,none⟩ = some (.int .i64 a0_2):=(blk_cell BK181.out 2).trans rfl;have hcz47_3 : w45.cell? ⟨gb181,3,none⟩ = some (.slice A0_3 l0_3.length c0_3):=(blk_cell BK181.out 3).trans rfl;have hcz47_4 : w45.cell? ⟨gb181,4,none⟩ = some (.int .i64 a0_4):=(blk_cell BK181.out 4).trans rfl;have hcz47_5 : w45.cell? ⟨gb181,5,none⟩ = some (.int .i64 a0_5):=(blk_cell BK181.out 5).trans rfl;have hcz47_6 : w45.cell? ⟨gb181,6,none⟩ = some (.slice A0_6 l0_6.length c0_6):=(blk_cell BK181.out 6).trans rfl;have hfz47_0:=blk_frozen BK181.out 0;have hfz47_1:=blk_frozen BK181.out 1;have hfz47_2:=blk_frozen BK181.out 2;have hfz47_3:=blk_frozen BK181.out 3;have hfz47_4:=blk_frozen BK181.out 4;have hfz47_5:=blk_frozen BK181.out 5;have hfz47_6:=blk_frozen BK181.out 6;have hcz48_0 : w45.cell? ⟨gb182,0,none⟩ = some (.int .i64 a1_0):=(blk_cell BK182.out 0).trans rfl;have hcz48_1 : w45.cell? ⟨gb182,1,none⟩ = some (.int .i64 a1_1):=(blk_cell BK182.out 1).trans rfl;have hcz48_2 : w45.cell? ⟨gb182,2,none⟩ = some (.int .i64 a1_2):=(blk_cell BK182.out 2).trans rfl;have hcz48_3 : w45.cell? ⟨gb182,3,none⟩ = some (.slice A1_3 l1_3.length c1_3):=(blk_cell BK182.out 3).trans rfl;have hcz48_4 : w45.cell? ⟨gb182,4,none⟩ = some (.int .i64 a1_4):=(blk_cell BK182.out 4).trans rfl;have hcz48_5 : w45.cell? ⟨gb182,5,none⟩ = some (.int .i64 a1_5):=(blk_cell BK182.out 5).trans rfl;have hcz48_6 : w45.cell? ⟨gb182,6,none⟩ = some (.slice A1_6 l1_6.length c1_6):=(blk_cell BK182.out 6).trans rfl;have hfz48_0:=blk_frozen BK182.out 0;have hfz48_1:=blk_frozen BK182.out 1;have hfz48_2:=blk_frozen BK182.out 2;have hfz48_3:=blk_frozen BK182.out 3;have hfz48_4:=blk_frozen BK182.out 4;have hfz48_5:=blk_frozen BK182.out 5;have hfz48_6:=blk_frozen BK182.out 6))
   go_ret
   exact ⟨by first|rfl|(simp [errW_none,errW_some] <;> rfl)|(simp [*,errW_none,errW_some] <;> rfl),by repeat (first|(with_reducible first|exact HB.out|apply below_alloc|apply pw_below_drewN|apply below_drew1|refine below_set ?_ GE181.out|refine below_set ?_ GE182.out)|exact HB.out)⟩
 ·
  rw [if_neg c3] at H
  have c3b0 : (a0_0 == a1_0) = false:=beq_eq_false_iff_ne.mpr c3
  have c3b1 : (a0_0 != a1_0) = true:=bne_iff_ne.mpr c3
  obtain rfl:=Option.some.inj H
  go_enter Try.func18,Try.ntmps18
  go_wp2_with (first|((with_reducible refine gate_dst (N:=2) rfl ?_);refine box_event ?hg (N:=2) ?hd (cs:=#[.int .i64 a0_0,.int .i64 a0_1,.int .i64 a0_2,.slice A0_3 l0_3.length c0_3,.int .i64 a0_4,.int .i64 a0_5,.slice A0_6 l0_6.length c0_6]) (t:=30) ?hr ?_;(case hd => rfl);(case hg => rfl);(case hr => first|(go_simp;done)|(go_simp;rfl));intro gb181 hg w49 hbox hb;have n0_:=Aside0.mk (below_step (by repeat (first|(with_reducible first|exact HB.out|apply below_alloc|apply pw_below_drewN|apply below_drew1)|exact HB.out)) hb);have n1_:=Aside0.mk (hbox);have n2_:=Aside0.mk ((by rw [hg];exact (below_size (by repeat (first|(with_reducible first|exact HB.out|apply below_alloc|apply pw_below_drewN|apply below_drew1)|exact HB.out))) : w.heap.size ≤ gb181));have n3_:=Aside0.mk ((by rw [hg];exact (below_size (by repeat (first|(with_reducible first|exact HB.out|apply below_alloc|apply pw_below_drewN|apply below_drew1)|exact HB.out))) : w.heap.size ≤ gb181));clear HB;have HB:=n0_;have BK181:=n1_;have GW181:=n2_;have GE181:=n3_;clear n0_ n1_ n2_ n3_;clear hb hbox hg)|((with_reducible refine gate_dst (N:=3) rfl ?_);refine box_event ?hg (N:=3) ?hd (cs:=#[.int .i64 a1_0,.int .i64 a1_1,.int .i64 a1_2,.slice A1_3 l1_3.length c1_3,.int .i64 a1_4,.int .i64 a1_5,.slice A1_6 l1_6.length c1_6]) (t:=30) ?hr ?_;(case hd => rfl);(case hg => rfl);(case hr => first|(go_simp;done)|(go_simp;rfl));intro gb182 hg w50 hbox hb;have n0_:=Aside0.mk (blk_below (g:=gb181) (o:=.cells #[.int .i64 a0_0,.int .i64 a0_1,.int .i64 a0_2,.slice A0_3 l0_3.length c0_3,.int .i64 a0_4,.int .i64 a0_5,.slice A0_6 l0_6.length c0_6] 30 (0,0)) (by (with_reducible repeat (first|refine blk_drewN ?_ _|refine blk_drew ?_|refine blk_alloc ?_ _));exact BK181.out) hb);have n1_:=Aside0.mk (below_step (by repeat (first|(with_reducible first|exact HB.out|apply below_alloc|apply pw_below_drewN|apply below_drew1|refine below_set ?_ GE181.out)|exact HB.out)) hb);have n2_:=Aside0.mk (hbox);have n3_:=Aside0.mk ((by rw [hg];exact (below_size (by repeat (first|(with_reducible first|exact HB.out|apply below_alloc|apply pw_below_drewN|apply below_drew1|refine below_set ?_ GE181.out)|exact HB.out))) : w.heap.size ≤ gb182));have n4_:=Aside0.mk ((by rw [hg];exact (below_size (by repeat (first|(with_reducible first|exact HB.out|apply below_alloc|apply pw_below_drewN|apply below_drew1|refine below_set ?_ GE181.out)|exact HB.out))) : w.heap.size ≤ gb182));have n5_:=Aside0.mk ((by rw [hg];exact Nat.ne_of_lt (blk_lt (g:=gb181) (o:=.cells #[.int .i64 a0_0,.int .i64 a0_1,.int .i64 a0_2,.slice A0_3 l0_3.length c0_3,.int .i64 a0_4,.int .i64 a0_5,.slice A0_6 l0_6.length c0_6] 30 (0,0)) (by (with_reducible repeat (first|refine blk_drewN ?_ _|refine blk_drew ?_|refine blk_alloc ?_ _));exact BK181.out)) : gb181 ≠ gb182));have n6_:=Aside0.mk ((by rw [hg];exact Nat.ne_of_gt (blk_lt (g:=gb181) (o:=.cells #[.int .i64 a0_0,.int .i64 a0_1,.int .i64 a0_2,.slice A0_3 l0_3.length c0_3,.int .i64 a0_4,.int .i64 a0_5,.slice A0_6 l0_6.length c0_6] 30 (0,0)) (by (with_reducible repeat (first|refine blk_drewN ?_ _|refine blk_drew ?_|refine blk_alloc ?_ _));exact BK181.out)) : gb182 ≠ gb181));clear BK181;clear HB;have BK181:=n0_;have HB:=n1_;have BK182:=n2_;have GW182:=n3_;have GE182:=n4_;have NB181_182:=n5_;have NB182_181:=n6_;clear n0_ n1_ n2_ n3_ n4_ n5_ n6_;clear hb hbox hg;have hnb51:=NB181_182.out;have hnc51:=NB182_181.out;have hcz52_0 : w50.cell? ⟨gb181,0,none⟩ = some (.int .i64 a0_0):=(blk_cell BK181.out 0).trans rfl;have hcz52_1 : w50.cell? ⟨gb181,1,none⟩ = some (.int .i64 a0_1):=(blk_cell BK181.out 1).trans rfl;have hcz52_2 : w50.cell? ⟨gb181,2,none⟩ = some (.int .i64 a0_2):=(blk_cell BK181.out 2).trans rfl;have hcz52_3 : w50.cell? ⟨gb181,3,none⟩ = some (.slice A0_3 l0_3.length c0_3):=(blk_cell BK181.out 3).trans rfl;have hcz52_4 : w50.cell? ⟨gb181,4,none⟩ = some (.int .i64 a0_4):=(blk_cell BK181.out 4).trans rfl;have hcz52_5 : w50.cell? ⟨gb181,5,none⟩ = some (.int .i64 a0_5):=(blk_cell BK181.out 5).trans rfl;have hcz52_6 : w50.cell? ⟨gb181,6,none⟩ = some (.slice A0_6 l0_6.length c0_6):=(blk_cell BK181.out 6).trans rfl;have hfz52_0:=blk_frozen BK181.out 0;have hfz52_1:=blk_frozen BK181.out 1;have hfz52_2:=blk_frozen BK181.out 2;have hfz52_3:=blk_frozen BK181.out 3;have hfz52_4:=blk_frozen BK181.out 4;have hfz52_5:=blk_frozen BK181.out 5;have hfz52_6:=blk_frozen BK181.out 6;have hcz53_0 : w50.cell? ⟨gb182,0,none⟩ = some (.int .i64 a1_0):=(blk_cell BK182.out 0).trans rfl;have hcz53_1 : w50.cell? ⟨gb182,1,none⟩ = some (.int .i64 a1_1):=(blk_cell BK182.out 1).trans rfl;have hcz53_2 : w50.cell? ⟨gb182,2,none⟩ = some (.int .i64 a1_2):=(blk_cell BK182.out 2).trans rfl;have hcz53_3 : w50.cell? ⟨gb182,3,none⟩ = some (.slice A1_3 l1_3.length c1_3):=(blk_cell BK182.out 3).trans rfl;have hcz53_4 : w50.cell? ⟨gb182,4,none⟩ = some (.int .i64 a1_4):=(blk_cell BK182.out 4).trans rfl;have hcz53_5 : w50.cell? ⟨gb182,5,none⟩ = some (.int .i64 a1_5):=(blk_cell BK182.out 5).trans rfl;have hcz53_6 : w50.cell? ⟨gb182,6,none⟩ = some (.slice A1_6 l1_6.length c1_6):=(blk_cell BK182.out 6).trans rfl;have hfz53_0:=blk_frozen BK182.out 0;have hfz53_1:=blk_frozen BK182.out 1;have hfz53_2:=blk_frozen BK182.out 2;have hfz53_3:=blk_frozen BK182.out 3;have hfz53_4:=blk_frozen BK182.out 4;have hfz53_5:=blk_frozen BK182.out 5;have hfz53_6:=blk_frozen BK182.out 6))
  go_ret
  exact ⟨by first|rfl|(simp [errW_none,errW_some] <;> rfl)|(simp [*,errW_none,errW_some] <;> rfl),by repeat (first|(with_reducible first|exact HB.out|apply below_alloc|apply pw_below_drewN|apply below_drew1|refine below_set ?_ GE181.out|refine below_set ?_ GE182.out)|exact HB.out)⟩
end Go.Proofs.Ytnldanonpdijgaa.P
