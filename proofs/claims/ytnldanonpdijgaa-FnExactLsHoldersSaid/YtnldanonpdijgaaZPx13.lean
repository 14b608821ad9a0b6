-- Ours: printed or written for this claim; cut to what the theorem needs.
import Derived.Test.YtnldanonpdijgaaZPx0
import Derived.Test.YtnldanonpdijgaaZPx1
open Bool renaming true → T, false → F
namespace Go.Proofs.Ytnldanonpdijgaa.P
open Go.RowKit Go.Proofs.YtnldanonpdijgaaW.PrintWords Go.Proofs.YtnldanonpdijgaaW.PrintLast Go.Proofs.YtnldanonpdijgaaW.PrintMore
attribute [local go_sem] max2_int min2_int max_two min_two max_three min_three max_four min_four
set_option linter.unusedVariables false
set_option linter.unusedSimpArgs false
def spec_l18Has.f (a0_0 : Int) (a0_1 : Int) (a0_2 : Int) (l0_3 : List Int) (a0_4 : Int) (a0_5 : Int) (l0_6 : List (S50)) (a1 : Int) : Option (Bool):=if 0 ≤ a1 then (if a1 < (l0_6.length : Int) then (if (rd_T50 l0_6 a1).f0 = true then ((spec_l18At.f a0_0 a0_1 a0_2 l0_3 a0_4 a0_5 l0_6 a1).bind fun t329 => (some (decide ((wrap64 (t329 - ((rd_T50 l0_6 a1).f1))) < a0_0)))) else (some false)) else (none)) else (none)
set_option maxHeartbeats 8000000 in
set_option maxRecDepth 100000 in
theorem spec_l18Has.calls (a0_0 : Int) (a0_1 : Int) (a0_2 : Int) (A0_3 : Option Addr) (c0_3 : Nat) (l0_3 : List Int) (a0_4 : Int) (a0_5 : Int) (A0_6 : Option Addr) (c0_6 : Nat) (l0_6 : List (S50)) (a1 : Int) (r : Bool) (w : World) (hr0_3 : Kd.C (Kd.int .i64) w A0_3 l0_3.length l0_3) (hc0_3 : l0_3.length ≤ c0_3) (hr0_6 : Kd.C k50 w A0_6 l0_6.length l0_6) (hc0_6 : l0_6.length ≤ c0_6) (h : spec_l18Has.f a0_0 a0_1 a0_2 l0_3 a0_4 a0_5 l0_6 a1 = some r) :
  Calls Try.prog 58 #[.agg #[.int .i64 a0_0,.int .i64 a0_1,.int .i64 a0_2,.slice A0_3 l0_3.length c0_3,.int .i64 a0_4,.int .i64 a0_5,.slice A0_6 l0_6.length c0_6],.int .i64 a1] w fun e w' => e = .returned (.bool r) ∧ Below w.heap.size w w':=by
 have hu30:=Try.underlying30
 have HR0_3:=Aside0.mk hr0_3
 have HC0_3:=Aside0.mk hc0_3
 clear hr0_3 hc0_3
 have HR0_6:=Aside0.mk hr0_6
 have HC0_6:=Aside0.mk hc0_6
 clear hr0_6 hc0_6
 have HB:=Aside0.mk (Below.refl w.heap.size w)
 have H : (if 0 ≤ a1 then (if a1 < (l0_6.length : Int) then (if (rd_T50 l0_6 a1).f0 = true then ((spec_l18At.f a0_0 a0_1 a0_2 l0_3 a0_4 a0_5 l0_6 a1).bind fun t329 => (some (decide ((wrap64 (t329 - ((rd_T50 l0_6 a1).f1))) < a0_0)))) else (some false)) else (none)) else (none)) = some r:=h
 clear h
 by_cases c3 : 0 ≤ a1
 ·
  rw [if_pos c3] at H
  have c3b0 : decide (0 ≤ a1) = true:=decide_eq_true c3
  clear c3
  by_cases c4 : a1 < (l0_6.length : Int)
  ·
   rw [if_pos c4] at H
   have c4b0 : decide (a1 < (l0_6.length : Int)) = true:=decide_eq_true c4
   clear c4
   obtain ⟨bq5,hbq5⟩ : ∃ b_ : Bool,b_ = ((rd_T50 l0_6 a1).f0):=⟨_,rfl⟩
   replace H : (if bq5 = true then ((spec_l18At.f a0_0 a0_1 a0_2 l0_3 a0_4 a0_5 l0_6 a1).bind fun t329 => (some (decide ((wrap64 (t329 - ((rd_T50 l0_6 a1).f1))) < a0_0)))) else (some false)) = some r:=by rw [← hbq5] at H;exact H
   have Nbq5:=Aside0.mk hbq5
   clear hbq5
   by_cases c6 : bq5 = true
   ·
    subst c6
    have H1 : ((spec_l18At.f a0_0 a0_1 a0_2 l0_3 a0_4 a0_5 l0_6 a1).bind fun t329 => (some (decide ((wrap64 (t329 - ((rd_T50 l0_6 a1).f1))) < a0_0)))) = some r:=by rw [if_pos rfl] at H;exact H
    clear H
    have H:=H1
    clear H1
    replace H:=Option.bind_eq_some_iff.mp H
    obtain ⟨t329,A70,H⟩:=H
    replace H : (some (decide ((wrap64 (t329 - ((rd_T50 l0_6 a1).f1))) < a0_0))) = some r:=H
    have A7:=Aside0.mk A70
    clear A70
    obtain rfl:=Option.some.inj H
    go_enter Try.func58,Try.ntmps58
    try go_wp2_with (first|((with_reducible refine gate_dst (N:=2) rfl ?_);refine box_event ?hg (N:=2) ?hd (cs:=#[.int .i64 a0_0,.int .i64 a0_1,.int .i64 a0_2,.slice A0_3 l0_3.length c0_3,.int .i64 a0_4,.int .i64 a0_5,.slice A0_6 l0_6.length c0_6]) (t:=30) ?hr ?_;(case hd => rfl);(case hg => rfl);(case hr => first|(go_simp;done)|(go_simp;rfl));intro gb327 hg w8 hbox hb;have n0_:=Aside0.mk (below_step (by repeat (first|(with_reducible first|exact HB.out|apply below_alloc|apply pw_below_drewN|apply below_drew1)|exact HB.out)) hb);have n1_:=Aside0.mk (hbox);have n2_:=Aside0.mk ((by rw [hg];exact (below_size (by repeat (first|(with_reducible first|exact HB.out|apply below_alloc|apply pw_below_drewN|apply below_drew1)|exact HB.out))) : w.heap.size ≤ gb327));have n3_:=Aside0.mk ((by rw [hg];exact (below_size (by repeat (first|(with_reducible first|exact HB.out|apply below_alloc|apply pw_below_drewN|apply below_drew1)|exact HB.out))) : w.heap.size ≤ gb327));clear HB;have HB:=n0_;have BK327:=n1_;have GW327:=n2_;have GE327:=n3_;clear n0_ n1_ n2_ n3_;clear hb hbox hg))
    have n0_:=Aside0.mk (blk_drew BK327.out)
    have n1_:=Aside0.mk (below_drew1 HB.out)
    clear BK327
    clear HB
    have BK327:=n0_
    have HB:=n1_
    clear n0_ n1_
    have p328 : 0 ≤ (a1 : Int):=of_decide_eq_true (by first|(with_reducible assumption)|assumption)
    have q328 : a1 < (l0_6.length : Int):=of_decide_eq_true (by first|(with_reducible assumption)|assumption)
    obtain ⟨ad328,e328,hx328_0,hx328_1,hx328_2,hx328_3,hx328_4,hx328_5⟩:=at_T50 HR0_6.out a1 p328 q328
    have hw328_5:=hx328_5
    have hw328_4:=hx328_4
    have hw328_3:=hx328_3
    have hw328_2:=hx328_2
    (try rw [← Nbq5.out] at hw328_2)
    have hw328_1:=hx328_1
    have hw328_0:=hx328_0
    (try rw [← Nbq5.out] at hw328_0)
    (try rw [← Nbq5.out] at hx328_0)
    (try rw [← Nbq5.out] at hx328_2)
    cases e328
    replace hx328_0:=(HB.out.cell (World.block_lt_of_cell? w _ hx328_0)).trans hx328_0
    replace hx328_1:=(HB.out.cell (World.block_lt_of_cell? w _ hx328_1)).trans hx328_1
    replace hx328_2:=(HB.out.cell (World.block_lt_of_cell? w _ hx328_2)).trans hx328_2
    replace hx328_3:=(HB.out.cell (World.block_lt_of_cell? w _ hx328_3)).trans hx328_3
    replace hx328_4:=(HB.out.cell (World.block_lt_of_cell? w _ hx328_4)).trans hx328_4
    replace hx328_5:=(HB.out.cell (World.block_lt_of_cell? w _ hx328_5)).trans hx328_5
    replace p328:=eq_true p328
    replace q328:=eq_true q328
    have p330 : 0 ≤ (a1 : Int):=of_decide_eq_true (by first|(with_reducible assumption)|assumption)
    have q330 : a1 < (l0_6.length : Int):=of_decide_eq_true (by first|(with_reducible assumption)|assumption)
    obtain ⟨ad330,e330,hx330_0,hx330_1,hx330_2,hx330_3,hx330_4,hx330_5⟩:=at_T50 HR0_6.out a1 p330 q330
    have hw330_5:=hx330_5
    have hw330_4:=hx330_4
    have hw330_3:=hx330_3
    have hw330_2:=hx330_2
    (try rw [← Nbq5.out] at hw330_2)
    have hw330_1:=hx330_1
    have hw330_0:=hx330_0
    (try rw [← Nbq5.out] at hw330_0)
    (try rw [← Nbq5.out] at hx330_0)
    (try rw [← Nbq5.out] at hx330_2)
    obtain rfl : ad328 = ad330:=(by injection e330)
    replace hx330_0:=(HB.out.cell (World.block_lt_of_cell? w _ hx330_0)).trans hx330_0
    replace hx330_1:=(HB.out.cell (World.block_lt_of_cell? w _ hx330_1)).trans hx330_1
    replace hx330_2:=(HB.out.cell (World.block_lt_of_cell? w _ hx330_2)).trans hx330_2
    replace hx330_3:=(HB.out.cell (World.block_lt_of_cell? w _ hx330_3)).trans hx330_3
    replace hx330_4:=(HB.out.cell (World.block_lt_of_cell? w _ hx330_4)).trans hx330_4
    replace hx330_5:=(HB.out.cell (World.block_lt_of_cell? w _ hx330_5)).trans hx330_5
    replace p330:=eq_true p330
    replace q330:=eq_true q330
    refine start_ (n:=22) (S:=fun w' => w'.cell? ⟨gb327,0,none⟩ = some (.int .i64 a0_0) ∧ w'.cell? ⟨gb327,1,none⟩ = some (.int .i64 a0_1) ∧ w'.cell? ⟨gb327,2,none⟩ = some (.int .i64 a0_2) ∧ w'.cell? ⟨gb327,3,none⟩ = some (.slice A0_3 l0_3.length c0_3) ∧ w'.cell? ⟨gb327,4,none⟩ = some (.int .i64 a0_4) ∧ w'.cell? ⟨gb327,5,none⟩ = some (.int .i64 a0_5) ∧ w'.cell? ⟨gb327,6,none⟩ = some (.slice (some ad328) l0_6.length c0_6) ∧ w'.cell? (ad328.add ((a1).toNat * 6)) = some (.bool true) ∧ w'.cell? ⟨(ad328.add ((a1).toNat * 6)).block,(ad328.add ((a1).toNat * 6)).off + 1,none⟩ = some (.int .i64 ((rd_T50 l0_6 a1).f1)) ∧ w'.cell? ⟨(ad328.add ((a1).toNat * 6)).block,(ad328.add ((a1).toNat * 6)).off + 2,none⟩ = some (.bool ((rd_T50 l0_6 a1).f2)) ∧ w'.cell? ⟨(ad328.add ((a1).toNat * 6)).block,(ad328.add ((a1).toNat * 6)).off + 3,none⟩ = some (.int .i64 ((rd_T50 l0_6 a1).f3)) ∧ w'.cell? ⟨(ad328.add ((a1).toNat * 6)).block,(ad328.add ((a1).toNat * 6)).off + 4,none⟩ = some (.int .i64 ((rd_T50 l0_6 a1).f4)) ∧ w'.cell? ⟨(ad328.add ((a1).toNat * 6)).block,(ad328.add ((a1).toNat * 6)).off + 5,none⟩ = some (.int .i64 ((rd_T50 l0_6 a1).f5)) ∧ w'.cell? (ad328.add ((a1).toNat * 6)) = some (.bool (true)) ∧ w'.cell? ⟨(ad328.add ((a1).toNat * 6)).block,(ad328.add ((a1).toNat * 6)).off + 1,none⟩ = some (.int .i64 ((rd_T50 l0_6 a1).f1)) ∧ w'.cell? ⟨(ad328.add ((a1).toNat * 6)).block,(ad328.add ((a1).toNat * 6)).off + 2,none⟩ = some (.bool ((rd_T50 l0_6 a1).f2)) ∧ w'.cell? ⟨(ad328.add ((a1).toNat * 6)).block,(ad328.add ((a1).toNat * 6)).off + 3,none⟩ = some (.int .i64 ((rd_T50 l0_6 a1).f3)) ∧ w'.cell? ⟨(ad328.add ((a1).toNat * 6)).block,(ad328.add ((a1).toNat * 6)).off + 4,none⟩ = some (.int .i64 ((rd_T50 l0_6 a1).f4)) ∧ w'.cell? ⟨(ad328.add ((a1).toNat * 6)).block,(ad328.add ((a1).toNat * 6)).off + 5,none⟩ = some (.int .i64 ((rd_T50 l0_6 a1).f5))) (ds:=[]) #[F,F,F,F,F,F,F,F,F,F,F,F,F,F,F,F,F,F,F,F,F,F] (by kernel_rfl) rfl rfl ⟨(blk_cell BK327.out 0).trans rfl,(blk_cell BK327.out 1).trans rfl,(blk_cell BK327.out 2).trans rfl,(blk_cell BK327.out 3).trans rfl,(blk_cell BK327.out 4).trans rfl,(blk_cell BK327.out 5).trans rfl,(blk_cell BK327.out 6).trans rfl,((HB.out.cell (World.block_lt_of_cell? w _ hw328_0)).trans hw328_0),((HB.out.cell (World.block_lt_of_cell? w _ hw328_1)).trans hw328_1),((HB.out.cell (World.block_lt_of_cell? w _ hw328_2)).trans hw328_2),((HB.out.cell (World.block_lt_of_cell? w _ hw328_3)).trans hw328_3),((HB.out.cell (World.block_lt_of_cell? w _ hw328_4)).trans hw328_4),((HB.out.cell (World.block_lt_of_cell? w _ hw328_5)).trans hw328_5),((HB.out.cell (World.block_lt_of_cell? w _ hw330_0)).trans hw330_0),((HB.out.cell (World.block_lt_of_cell? w _ hw330_1)).trans hw330_1),((HB.out.cell (World.block_lt_of_cell? w _ hw330_2)).trans hw330_2),((HB.out.cell (World.block_lt_of_cell? w _ hw330_3)).trans hw330_3),((HB.out.cell (World.block_lt_of_cell? w _ hw330_4)).trans hw330_4),((HB.out.cell (World.block_lt_of_cell? w _ hw330_5)).trans hw330_5)⟩ (fun hHeld => ?_)
    generalize w8.drew = w9 at BK327 HB hx328_0 hx328_1 hx328_2 hx328_3 hx328_4 hx328_5 hx330_0 hx330_1 hx330_2 hx330_3 hx330_4 hx330_5 hHeld ⊢
    refine pure_ (i:=0) (N:=some 5) (v:=?_) (a':=?_) #[T,F,F,F,F,F,F,F,F,F,F,F,F,F,F,F,F,F,F,F,F,F] rfl rfl (by kernel_rfl) (fun _ _ _ h => h) (Or.inl ⟨by rfl,?_⟩) ?_ ?_
    rotate_left
    ·
     intro w'
     go_simp
     with_reducible rfl
    rotate_left
    ·
     simp only [Act.put,List.setIfInBounds_toArray,List.set_cons_zero,List.set_cons_succ,i64_w,i32_w]
     rfl
    refine pure_ (i:=2) (N:=some 7) (v:=?_) (a':=?_) #[T,F,T,F,F,F,F,F,F,F,F,F,F,F,F,F,F,F,F,F,F,F] rfl rfl (by kernel_rfl) (fun _ _ _ h => h) (Or.inl ⟨by rfl,?_⟩) ?_ ?_
    rotate_left
    ·
     intro w'
     go_simp
     with_reducible rfl
    rotate_left
    ·
     simp only [Act.put,List.setIfInBounds_toArray,List.set_cons_zero,List.set_cons_succ,i64_w,i32_w]
     rfl
    refine take_ (i:=1) (N:=some 6) (v:=?_) (a':=?_) #[T,T,T,F,F,F,F,F,F,F,F,F,F,F,F,F,F,F,F,F,F,F] rfl rfl (by kernel_rfl) (fun _ _ _ h => h) (Or.inl ⟨by rfl,?_⟩) hHeld ?_ ?_
    rotate_left
    ·
     rintro w' ⟨s0,s1,s2,s3,s4,s5,s6,s7,s8,s9,s10,s11,s12,s13,s14,s15,s16,s17,s18⟩
     go_simp
     with_reducible rfl
    rotate_left
    ·
     simp only [Act.put,List.setIfInBounds_toArray,List.set_cons_zero,List.set_cons_succ,i64_w,i32_w]
     rfl
    refine pure_ (i:=3) (N:=some 8) (v:=?_) (a':=?_) #[T,T,T,T,F,F,F,F,F,F,F,F,F,F,F,F,F,F,F,F,F,F] rfl rfl (by kernel_rfl) (fun _ _ _ h => h) (Or.inl ⟨by rfl,?_⟩) ?_ ?_
    rotate_left
    ·
     intro w'
     go_simp
     with_reducible rfl
    rotate_left
    ·
     simp only [Act.put,List.setIfInBounds_toArray,List.set_cons_zero,List.set_cons_succ,i64_w,i32_w]
     rfl
    refine pure_ (i:=4) (N:=some 9) (v:=?_) (a':=?_) #[T,T,T,T,T,F,F,F,F,F,F,F,F,F,F,F,F,F,F,F,F,F] rfl rfl (by kernel_rfl) (fun _ _ _ h => h) (Or.inl ⟨by rfl,?_⟩) ?_ ?_
    rotate_left
    ·
     intro w'
     go_simp
     with_reducible rfl
    rotate_left
    ·
     simp only [Act.put,List.setIfInBounds_toArray,List.set_cons_zero,List.set_cons_succ,i64_w,i32_w]
     rfl
    refine take_ (i:=5) (N:=some 10) (v:=?_) (a':=?_) #[T,T,T,T,T,T,F,F,F,F,F,F,F,F,F,F,F,F,F,F,F,F] rfl rfl (by kernel_rfl) (fun _ _ _ h => h) (Or.inl ⟨by rfl,?_⟩) hHeld ?_ ?_
    rotate_left
    ·
     rintro w' ⟨s0,s1,s2,s3,s4,s5,s6,s7,s8,s9,s10,s11,s12,s13,s14,s15,s16,s17,s18⟩
     go_simp
     with_reducible rfl
    rotate_left
    ·
     simp only [Act.put,List.setIfInBounds_toArray,List.set_cons_zero,List.set_cons_succ,i64_w,i32_w]
     rfl
    refine pure_ (i:=6) (N:=some 11) (v:=?_) (a':=?_) #[T,T,T,T,T,T,T,F,F,F,F,F,F,F,F,F,F,F,F,F,F,F] rfl rfl (by kernel_rfl) (fun _ _ _ h => h) (Or.inl ⟨by rfl,?_⟩) ?_ ?_
    rotate_left
    ·
     intro w'
     go_simp
     with_reducible rfl
    rotate_left
    ·
     simp only [Act.put,List.setIfInBounds_toArray,List.set_cons_zero,List.set_cons_succ,i64_w,i32_w]
     rfl
    refine pure_ (i:=8) (N:=some 13) (v:=?_) (a':=?_) #[T,T,T,T,T,T,T,F,T,F,F,F,F,F,F,F,F,F,F,F,F,F] rfl rfl (by kernel_rfl) (fun _ _ _ h => h) (Or.inl ⟨by rfl,?_⟩) ?_ ?_
    rotate_left
    ·
     intro w'
     go_simp
     with_reducible rfl
    rotate_left
    ·
     simp only [Act.put,List.setIfInBounds_toArray,List.set_cons_zero,List.set_cons_succ,i64_w,i32_w]
     rfl
    refine pure_ (i:=10) (N:=some 15) (v:=?_) (a':=?_) #[T,T,T,T,T,T,T,F,T,F,T,F,F,F,F,F,F,F,F,F,F,F] rfl rfl (by kernel_rfl) (fun _ _ _ h => h) (Or.inl ⟨by rfl,?_⟩) ?_ ?_
    rotate_left
    ·
     intro w'
     go_simp
     with_reducible rfl
    rotate_left
    ·
     simp only [Act.put,List.setIfInBounds_toArray,List.set_cons_zero,List.set_cons_succ,i64_w,i32_w]
     rfl
    refine pure_ (i:=12) (N:=some 17) (v:=?_) (a':=?_) #[T,T,T,T,T,T,T,F,T,F,T,F,T,F,F,F,F,F,F,F,F,F] rfl rfl (by kernel_rfl) (fun _ _ _ h => h) (Or.inl ⟨by rfl,?_⟩) ?_ ?_
    rotate_left
    ·
     intro w'
     go_simp
     with_reducible rfl
    rotate_left
    ·
     simp only [Act.put,List.setIfInBounds_toArray,List.set_cons_zero,List.set_cons_succ,i64_w,i32_w]
     rfl
    refine pure_ (i:=17) (N:=some 22) (v:=?_) (a':=?_) #[T,T,T,T,T,T,T,F,T,F,T,F,T,F,F,F,F,T,F,F,F,F] rfl rfl (by kernel_rfl) (fun _ _ _ h => h) (Or.inl ⟨by rfl,?_⟩) ?_ ?_
    rotate_left
    ·
     intro w'
     go_simp
     with_reducible rfl
    rotate_left
    ·
     simp only [Act.put,List.setIfInBounds_toArray,List.set_cons_zero,List.set_cons_succ,i64_w,i32_w]
     rfl
    refine take_ (i:=7) (N:=some 12) (v:=?_) (a':=?_) #[T,T,T,T,T,T,T,T,T,F,T,F,T,F,F,F,F,T,F,F,F,F] rfl rfl (by kernel_rfl) (fun _ _ _ h => h) (Or.inl ⟨by rfl,?_⟩) hHeld ?_ ?_
    rotate_left
    ·
     rintro w' ⟨s0,s1,s2,s3,s4,s5,s6,s7,s8,s9,s10,s11,s12,s13,s14,s15,s16,s17,s18⟩
     go_simp
     with_reducible rfl
    rotate_left
    ·
     simp only [Act.put,List.setIfInBounds_toArray,List.set_cons_zero,List.set_cons_succ,i64_w,i32_w]
     rfl
    refine take_ (i:=11) (N:=some 16) (v:=?_) (a':=?_) #[T,T,T,T,T,T,T,T,T,F,T,T,T,F,F,F,F,T,F,F,F,F] rfl rfl (by kernel_rfl) (fun _ _ _ h => h) (Or.inl ⟨by rfl,?_⟩) hHeld ?_ ?_
    rotate_left
    ·
     rintro w' ⟨s0,s1,s2,s3,s4,s5,s6,s7,s8,s9,s10,s11,s12,s13,s14,s15,s16,s17,s18⟩
     go_simp
     with_reducible rfl
    rotate_left
    ·
     simp only [Act.put,List.setIfInBounds_toArray,List.set_cons_zero,List.set_cons_succ,i64_w,i32_w]
     rfl
    refine pure_ (i:=13) (N:=some 18) (v:=?_) (a':=?_) #[T,T,T,T,T,T,T,T,T,F,T,T,T,T,F,F,F,T,F,F,F,F] rfl rfl (by kernel_rfl) (fun _ _ _ h => h) (Or.inl ⟨by rfl,?_⟩) ?_ ?_
    rotate_left
    ·
     intro w'
     go_simp
     with_reducible rfl
    rotate_left
    ·
     simp only [Act.put,List.setIfInBounds_toArray,List.set_cons_zero,List.set_cons_succ,i64_w,i32_w]
     rfl
    refine pure_ (i:=14) (N:=some 19) (v:=?_) (a':=?_) #[T,T,T,T,T,T,T,T,T,F,T,T,T,T,T,F,F,T,F,F,F,F] rfl rfl (by kernel_rfl) (fun _ _ _ h => h) (Or.inl ⟨by rfl,?_⟩) ?_ ?_
    rotate_left
    ·
     intro w'
     go_simp
     with_reducible rfl
    rotate_left
    ·
     simp only [Act.put,List.setIfInBounds_toArray,List.set_cons_zero,List.set_cons_succ,i64_w,i32_w]
     rfl
    refine take_ (i:=15) (N:=some 20) (v:=?_) (a':=?_) #[T,T,T,T,T,T,T,T,T,F,T,T,T,T,T,T,F,T,F,F,F,F] rfl rfl (by kernel_rfl) (fun _ _ _ h => h) (Or.inl ⟨by rfl,?_⟩) hHeld ?_ ?_
    rotate_left
    ·
     rintro w' ⟨s0,s1,s2,s3,s4,s5,s6,s7,s8,s9,s10,s11,s12,s13,s14,s15,s16,s17,s18⟩
     go_simp
     with_reducible rfl
    rotate_left
    ·
     simp only [Act.put,List.setIfInBounds_toArray,List.set_cons_zero,List.set_cons_succ,i64_w,i32_w]
     rfl
    refine take_ (i:=18) (N:=some 23) (v:=?_) (a':=?_) #[T,T,T,T,T,T,T,T,T,F,T,T,T,T,T,T,F,T,T,F,F,F] rfl rfl (by kernel_rfl) (fun _ _ _ h => h) (Or.inl ⟨by rfl,?_⟩) hHeld ?_ ?_
    rotate_left
    ·
     rintro w' ⟨s0,s1,s2,s3,s4,s5,s6,s7,s8,s9,s10,s11,s12,s13,s14,s15,s16,s17,s18⟩
     go_simp
     with_reducible rfl
    rotate_left
    ·
     simp only [Act.put,List.setIfInBounds_toArray,List.set_cons_zero,List.set_cons_succ,i64_w,i32_w]
     rfl
    refine one_ (i:=9) (N:=some 14) #[T,T,T,T,T,T,T,T,T,T,T,T,T,T,T,T,F,T,T,F,F,F] rfl rfl (by kernel_rfl) (by decide) (fun K hK => ?_)
    refine goes_ Try.func49 (by kernel_rfl) rfl #[.agg #[.int .i64 a0_0,.int .i64 a0_1,.int .i64 a0_2,.slice A0_3 l0_3.length c0_3,.int .i64 a0_4,.int .i64 a0_5,.slice (some ad328) l0_6.length c0_6],.int .i64 a1] (by rfl) rfl rfl (by (try simp only [List.map_toArray,List.map_cons,List.map_nil]);first|done|rfl|(simp only [List.length_drop,List.length_take];rfl)) ?_
    with_reducible refine (spec_l18At.calls a0_0 a0_1 a0_2 _ _ l0_3 a0_4 a0_5 _ _ l0_6 a1 t329 _ ?side1 ?side2 ?side3 ?side4 A7.out).mono ?_
    (case side1 => repeat (first|exact (Kd.C_below HR0_3.out HB.out)|(with_reducible refine Kd.C_alloc ?_ _)|(with_reducible refine Kd.C_drewN ?_ _)|(with_reducible refine Kd.C_drew ?_)))
    (case side2 => exact HC0_3.out)
    (case side3 => repeat (first|exact (Kd.C_below HR0_6.out HB.out)|(with_reducible refine Kd.C_alloc ?_ _)|(with_reducible refine Kd.C_drewN ?_ _)|(with_reducible refine Kd.C_drew ?_)))
    (case side4 => exact HC0_6.out)
    rintro e w10 ⟨rfl,hb⟩
    refine ⟨_,rfl,?_⟩
    have n0_:=Aside0.mk (blk_below (g:=gb327) (o:=.cells #[.int .i64 a0_0,.int .i64 a0_1,.int .i64 a0_2,.slice A0_3 l0_3.length c0_3,.int .i64 a0_4,.int .i64 a0_5,.slice (some ad328) l0_6.length c0_6] 30 (0,0)) (by (with_reducible repeat (first|refine blk_drewN ?_ _|refine blk_drew ?_|refine blk_alloc ?_ _));exact BK327.out) hb)
    have n1_:=Aside0.mk (below_step (by repeat (first|(with_reducible first|exact HB.out|apply below_alloc|apply pw_below_drewN|apply below_drew1|refine below_set ?_ GE327.out)|exact HB.out)) hb)
    clear BK327
    clear HB
    have BK327:=n0_
    have HB:=n1_
    clear n0_ n1_
    (try clear hb)
    (try clear hb2)
    (try clear hk)
    (try clear hi)
    refine hK.out _ _ ⟨(blk_cell BK327.out 0).trans rfl,(blk_cell BK327.out 1).trans rfl,(blk_cell BK327.out 2).trans rfl,(blk_cell BK327.out 3).trans rfl,(blk_cell BK327.out 4).trans rfl,(blk_cell BK327.out 5).trans rfl,(blk_cell BK327.out 6).trans rfl,((HB.out.cell (World.block_lt_of_cell? w _ hw328_0)).trans hw328_0),((HB.out.cell (World.block_lt_of_cell? w _ hw328_1)).trans hw328_1),((HB.out.cell (World.block_lt_of_cell? w _ hw328_2)).trans hw328_2),((HB.out.cell (World.block_lt_of_cell? w _ hw328_3)).trans hw328_3),((HB.out.cell (World.block_lt_of_cell? w _ hw328_4)).trans hw328_4),((HB.out.cell (World.block_lt_of_cell? w _ hw328_5)).trans hw328_5),((HB.out.cell (World.block_lt_of_cell? w _ hw330_0)).trans hw330_0),((HB.out.cell (World.block_lt_of_cell? w _ hw330_1)).trans hw330_1),((HB.out.cell (World.block_lt_of_cell? w _ hw330_2)).trans hw330_2),((HB.out.cell (World.block_lt_of_cell? w _ hw330_3)).trans hw330_3),((HB.out.cell (World.block_lt_of_cell? w _ hw330_4)).trans hw330_4),((HB.out.cell (World.block_lt_of_cell? w _ hw330_5)).trans hw330_5)⟩ (fun hHeld => ?_)
    clear hK K
    refine norm_ (a':=?_) ?_ ?_
    rotate_left
    ·
     show Act.put _ (some 14) _ = _
     simp only [Act.put,List.setIfInBounds_toArray,List.set_cons_zero,List.set_cons_succ,i64_w,i32_w]
     rfl
    refine pure_ (i:=16) (N:=some 21) (v:=?_) (a':=?_) #[T,T,T,T,T,T,T,T,T,T,T,T,T,T,T,T,T,T,T,F,F,F] rfl rfl (by kernel_rfl) (fun _ _ _ h => h) (Or.inl ⟨by rfl,?_⟩) ?_ ?_
    rotate_left
    ·
     intro w'
     go_simp
     with_reducible rfl
    rotate_left
    ·
     simp only [Act.put,List.setIfInBounds_toArray,List.set_cons_zero,List.set_cons_succ,i64_w,i32_w]
     rfl
    refine pure_ (i:=19) (N:=some 24) (v:=?_) (a':=?_) #[T,T,T,T,T,T,T,T,T,T,T,T,T,T,T,T,T,T,T,T,F,F] rfl rfl (by kernel_rfl) (fun _ _ _ h => h) (Or.inl ⟨by rfl,?_⟩) ?_ ?_
    rotate_left
    ·
     intro w'
     go_simp
     with_reducible rfl
    rotate_left
    ·
     simp only [Act.put,List.setIfInBounds_toArray,List.set_cons_zero,List.set_cons_succ,i64_w,i32_w]
     rfl
    refine pure_ (i:=20) (N:=some 25) (v:=?_) (a':=?_) #[T,T,T,T,T,T,T,T,T,T,T,T,T,T,T,T,T,T,T,T,T,F] rfl rfl (by kernel_rfl) (fun _ _ _ h => h) (Or.inl ⟨by rfl,?_⟩) ?_ ?_
    rotate_left
    ·
     intro w'
     go_simp
     with_reducible rfl
    rotate_left
    ·
     simp only [Act.put,List.setIfInBounds_toArray,List.set_cons_zero,List.set_cons_succ,i64_w,i32_w]
     rfl
    refine pure_ (i:=21) (N:=some 4) (v:=?_) (a':=?_) #[T,T,T,T,T,T,T,T,T,T,T,T,T,T,T,T,T,T,T,T,T,T] rfl rfl (by kernel_rfl) (fun _ _ _ h => h) (Or.inl ⟨by rfl,?_⟩) ?_ ?_
    rotate_left
    ·
     intro w'
     go_simp
     with_reducible rfl
    rotate_left
    ·
     simp only [Act.put,List.setIfInBounds_toArray,List.set_cons_zero,List.set_cons_succ,i64_w,i32_w]
     rfl
    refine done_ (by kernel_rfl) ?_
    try go_wp2
    go_ret
    exact ⟨by first|rfl|(simp [errW_none,errW_some] <;> rfl)|(simp [*,errW_none,errW_some] <;> rfl),by repeat (first|(with_reducible first|exact HB.out|apply below_alloc|apply pw_below_drewN|apply below_drew1|refine below_set ?_ GE327.out)|exact HB.out)⟩
   ·
    replace c6:=Bool.eq_false_iff.mpr c6
    subst c6
    have H1 : (some false) = some r:=by rw [if_neg (show ¬ (false = true) by decide)] at H;exact H
    clear H
    have H:=H1
    clear H1
    obtain rfl:=Option.some.inj H
    go_enter Try.func58,Try.ntmps58
    try go_wp2_with (first|((with_reducible refine gate_dst (N:=2) rfl ?_);refine box_event ?hg (N:=2) ?hd (cs:=#[.int .i64 a0_0,.int .i64 a0_1,.int .i64 a0_2,.slice A0_3 l0_3.length c0_3,.int .i64 a0_4,.int .i64 a0_5,.slice A0_6 l0_6.length c0_6]) (t:=30) ?hr ?_;(case hd => rfl);(case hg => rfl);(case hr => first|(go_simp;done)|(go_simp;rfl));intro gb327 hg w11 hbox hb;have n0_:=Aside0.mk (below_step (by repeat (first|(with_reducible first|exact HB.out|apply below_alloc|apply pw_below_drewN|apply below_drew1)|exact HB.out)) hb);have n1_:=Aside0.mk (hbox);have n2_:=Aside0.mk ((by rw [hg];exact (below_size (by repeat (first|(with_reducible first|exact HB.out|apply below_alloc|apply pw_below_drewN|apply below_drew1)|exact HB.out))) : w.heap.size ≤ gb327));have n3_:=Aside0.mk ((by rw [hg];exact (below_size (by repeat (first|(with_reducible first|exact HB.out|apply below_alloc|apply pw_below_drewN|apply below_drew1)|exact HB.out))) : w.heap.size ≤ gb327));clear HB;have HB:=n0_;have BK327:=n1_;have GW327:=n2_;have GE327:=n3_;clear n0_ n1_ n2_ n3_;clear hb hbox hg))
    have n0_:=Aside0.mk (blk_drew BK327.out)
    have n1_:=Aside0.mk (below_drew1 HB.out)
    clear BK327
    clear HB
    have BK327:=n0_
    have HB:=n1_
    clear n0_ n1_
    have p328 : 0 ≤ (a1 : Int):=of_decide_eq_true (by first|(with_reducible assumption)|assumption)
    have q328 : a1 < (l0_6.length : Int):=of_decide_eq_true (by first|(with_reducible assumption)|assumption)
    obtain ⟨ad328,e328,hx328_0,hx328_1,hx328_2,hx328_3,hx328_4,hx328_5⟩:=at_T50 HR0_6.out a1 p328 q328
    have hw328_5:=hx328_5
    have hw328_4:=hx328_4
    have hw328_3:=hx328_3
    have hw328_2:=hx328_2
    (try rw [← Nbq5.out] at hw328_2)
    have hw328_1:=hx328_1
    have hw328_0:=hx328_0
    (try rw [← Nbq5.out] at hw328_0)
    (try rw [← Nbq5.out] at hx328_0)
    (try rw [← Nbq5.out] at hx328_2)
    cases e328
    replace hx328_0:=(HB.out.cell (World.block_lt_of_cell? w _ hx328_0)).trans hx328_0
    replace hx328_1:=(HB.out.cell (World.block_lt_of_cell? w _ hx328_1)).trans hx328_1
    replace hx328_2:=(HB.out.cell (World.block_lt_of_cell? w _ hx328_2)).trans hx328_2
    replace hx328_3:=(HB.out.cell (World.block_lt_of_cell? w _ hx328_3)).trans hx328_3
    replace hx328_4:=(HB.out.cell (World.block_lt_of_cell? w _ hx328_4)).trans hx328_4
    replace hx328_5:=(HB.out.cell (World.block_lt_of_cell? w _ hx328_5)).trans hx328_5
    replace p328:=eq_true p328
    replace q328:=eq_true q328
    refine start_ (n:=22) (S:=fun w' => w'.cell? ⟨gb327,0,none⟩ = some (.int .i64 a0_0) ∧ w'.cell? ⟨gb327,1,none⟩ = some (.int .i64 a0_1) ∧ w'.cell? ⟨gb327,2,none⟩ = some (.int .i64 a0_2) ∧ w'.cell? ⟨gb327,3,none⟩ = some (.slice A0_3 l0_3.length c0_3) ∧ w'.cell? ⟨gb327,4,none⟩ = some (.int .i64 a0_4) ∧ w'.cell? ⟨gb327,5,none⟩ = some (.int .i64 a0_5) ∧ w'.cell? ⟨gb327,6,none⟩ = some (.slice (some ad328) l0_6.length c0_6) ∧ w'.cell? (ad328.add ((a1).toNat * 6)) = some (.bool false) ∧ w'.cell? ⟨(ad328.add ((a1).toNat * 6)).block,(ad328.add ((a1).toNat * 6)).off + 1,none⟩ = some (.int .i64 ((rd_T50 l0_6 a1).f1)) ∧ w'.cell? ⟨(ad328.add ((a1).toNat * 6)).block,(ad328.add ((a1).toNat * 6)).off + 2,none⟩ = some (.bool ((rd_T50 l0_6 a1).f2)) ∧ w'.cell? ⟨(ad328.add ((a1).toNat * 6)).block,(ad328.add ((a1).toNat * 6)).off + 3,none⟩ = some (.int .i64 ((rd_T50 l0_6 a1).f3)) ∧ w'.cell? ⟨(ad328.add ((a1).toNat * 6)).block,(ad328.add ((a1).toNat * 6)).off + 4,none⟩ = some (.int .i64 ((rd_T50 l0_6 a1).f4)) ∧ w'.cell? ⟨(ad328.add ((a1).toNat * 6)).block,(ad328.add ((a1).toNat * 6)).off + 5,none⟩ = some (.int .i64 ((rd_T50 l0_6 a1).f5))) (ds:=[]) #[F,F,F,F,F,F,F,F,F,F,F,F,F,F,F,F,F,F,F,F,F,F] (by kernel_rfl) rfl rfl ⟨(blk_cell BK327.out 0).trans rfl,(blk_cell BK327.out 1).trans rfl,(blk_cell BK327.out 2).trans rfl,(blk_cell BK327.out 3).trans rfl,(blk_cell BK327.out 4).trans rfl,(blk_cell BK327.out 5).trans rfl,(blk_cell BK327.out 6).trans rfl,((HB.out.cell (World.block_lt_of_cell? w _ hw328_0)).trans hw328_0),((HB.out.cell (World.block_lt_of_cell? w _ hw328_1)).trans hw328_1),((HB.out.cell (World.block_lt_of_cell? w _ hw328_2)).trans hw328_2),((HB.out.cell (World.block_lt_of_cell? w _ hw328_3)).trans hw328_3),((HB.out.cell (World.block_lt_of_cell? w _ hw328_4)).trans hw328_4),((HB.out.cell (World.block_lt_of_cell? w _ hw328_5)).trans hw328_5)⟩ (fun hHeld => ?_)
    generalize w11.drew = w12 at BK327 HB hx328_0 hx328_1 hx328_2 hx328_3 hx328_4 hx328_5 hHeld ⊢
    refine pure_ (i:=0) (N:=some 5) (v:=?_) (a':=?_) #[T,F,F,F,F,F,F,F,F,F,F,F,F,F,F,F,F,F,F,F,F,F] rfl rfl (by kernel_rfl) (fun _ _ _ h => h) (Or.inl ⟨by rfl,?_⟩) ?_ ?_
    rotate_left
    ·
     intro w'
     go_simp
     with_reducible rfl
    rotate_left
    ·
     simp only [Act.put,List.setIfInBounds_toArray,List.set_cons_zero,List.set_cons_succ,i64_w,i32_w]
     rfl
    refine pure_ (i:=2) (N:=some 7) (v:=?_) (a':=?_) #[T,F,T,F,F,F,F,F,F,F,F,F,F,F,F,F,F,F,F,F,F,F] rfl rfl (by kernel_rfl) (fun _ _ _ h => h) (Or.inl ⟨by rfl,?_⟩) ?_ ?_
    rotate_left
    ·
     intro w'
     go_simp
     with_reducible rfl
    rotate_left
    ·
     simp only [Act.put,List.setIfInBounds_toArray,List.set_cons_zero,List.set_cons_succ,i64_w,i32_w]
     rfl
    refine take_ (i:=1) (N:=some 6) (v:=?_) (a':=?_) #[T,T,T,F,F,F,F,F,F,F,F,F,F,F,F,F,F,F,F,F,F,F] rfl rfl (by kernel_rfl) (fun _ _ _ h => h) (Or.inl ⟨by rfl,?_⟩) hHeld ?_ ?_
    rotate_left
    ·
     rintro w' ⟨s0,s1,s2,s3,s4,s5,s6,s7,s8,s9,s10,s11,s12⟩
     go_simp
     with_reducible rfl
    rotate_left
    ·
     simp only [Act.put,List.setIfInBounds_toArray,List.set_cons_zero,List.set_cons_succ,i64_w,i32_w]
     rfl
    refine pure_ (i:=3) (N:=some 8) (v:=?_) (a':=?_) #[T,T,T,T,F,F,F,F,F,F,F,F,F,F,F,F,F,F,F,F,F,F] rfl rfl (by kernel_rfl) (fun _ _ _ h => h) (Or.inl ⟨by rfl,?_⟩) ?_ ?_
    rotate_left
    ·
     intro w'
     go_simp
     with_reducible rfl
    rotate_left
    ·
     simp only [Act.put,List.setIfInBounds_toArray,List.set_cons_zero,List.set_cons_succ,i64_w,i32_w]
     rfl
    refine pure_ (i:=4) (N:=some 9) (v:=?_) (a':=?_) #[T,T,T,T,T,F,F,F,F,F,F,F,F,F,F,F,F,F,F,F,F,F] rfl rfl (by kernel_rfl) (fun _ _ _ h => h) (Or.inl ⟨by rfl,?_⟩) ?_ ?_
    rotate_left
    ·
     intro w'
     go_simp
     with_reducible rfl
    rotate_left
    ·
     simp only [Act.put,List.setIfInBounds_toArray,List.set_cons_zero,List.set_cons_succ,i64_w,i32_w]
     rfl
    refine take_ (i:=5) (N:=some 10) (v:=?_) (a':=?_) #[T,T,T,T,T,T,F,F,F,F,F,F,F,F,F,F,F,F,F,F,F,F] rfl rfl (by kernel_rfl) (fun _ _ _ h => h) (Or.inl ⟨by rfl,?_⟩) hHeld ?_ ?_
    rotate_left
    ·
     rintro w' ⟨s0,s1,s2,s3,s4,s5,s6,s7,s8,s9,s10,s11,s12⟩
     go_simp
     with_reducible rfl
    rotate_left
    ·
     simp only [Act.put,List.setIfInBounds_toArray,List.set_cons_zero,List.set_cons_succ,i64_w,i32_w]
     rfl
    refine pure_ (i:=6) (N:=some 11) (v:=?_) (a':=?_) #[T,T,T,T,T,T,T,F,F,F,F,F,F,F,F,F,F,F,F,F,F,F] rfl rfl (by kernel_rfl) (fun _ _ _ h => h) (Or.inl ⟨by rfl,?_⟩) ?_ ?_
    rotate_left
    ·
     intro w'
     go_simp
     with_reducible rfl
    rotate_left
    ·
     simp only [Act.put,List.setIfInBounds_toArray,List.set_cons_zero,List.set_cons_succ,i64_w,i32_w]
     rfl
    refine pure_ (i:=7) (N:=some 12) (v:=undef) (a':=?_) #[T,T,T,T,T,T,T,T,F,F,F,F,F,F,F,F,F,F,F,F,F,F] rfl rfl (by kernel_rfl) (fun _ _ _ h => h) (Or.inr ⟨by rfl,rfl⟩) ?_ ?_
    rotate_left
    ·
     simp only [Act.put,List.setIfInBounds_toArray,List.set_cons_zero,List.set_cons_succ,i64_w,i32_w]
     rfl
    refine pure_ (i:=8) (N:=some 13) (v:=undef) (a':=?_) #[T,T,T,T,T,T,T,T,T,F,F,F,F,F,F,F,F,F,F,F,F,F] rfl rfl (by kernel_rfl) (fun _ _ _ h => h) (Or.inr ⟨by rfl,rfl⟩) ?_ ?_
    rotate_left
    ·
     simp only [Act.put,List.setIfInBounds_toArray,List.set_cons_zero,List.set_cons_succ,i64_w,i32_w]
     rfl
    refine pure_ (i:=9) (N:=some 14) (v:=undef) (a':=?_) #[T,T,T,T,T,T,T,T,T,T,F,F,F,F,F,F,F,F,F,F,F,F] rfl rfl (by kernel_rfl) (fun _ _ _ h => h) (Or.inr ⟨by rfl,rfl⟩) ?_ ?_
    rotate_left
    ·
     simp only [Act.put,List.setIfInBounds_toArray,List.set_cons_zero,List.set_cons_succ,i64_w,i32_w]
     rfl
    refine pure_ (i:=10) (N:=some 15) (v:=undef) (a':=?_) #[T,T,T,T,T,T,T,T,T,T,T,F,F,F,F,F,F,F,F,F,F,F] rfl rfl (by kernel_rfl) (fun _ _ _ h => h) (Or.inr ⟨by rfl,rfl⟩) ?_ ?_
    rotate_left
    ·
     simp only [Act.put,List.setIfInBounds_toArray,List.set_cons_zero,List.set_cons_succ,i64_w,i32_w]
     rfl
    refine pure_ (i:=11) (N:=some 16) (v:=undef) (a':=?_) #[T,T,T,T,T,T,T,T,T,T,T,T,F,F,F,F,F,F,F,F,F,F] rfl rfl (by kernel_rfl) (fun _ _ _ h => h) (Or.inr ⟨by rfl,rfl⟩) ?_ ?_
    rotate_left
    ·
     simp only [Act.put,List.setIfInBounds_toArray,List.set_cons_zero,List.set_cons_succ,i64_w,i32_w]
     rfl
    refine pure_ (i:=12) (N:=some 17) (v:=undef) (a':=?_) #[T,T,T,T,T,T,T,T,T,T,T,T,T,F,F,F,F,F,F,F,F,F] rfl rfl (by kernel_rfl) (fun _ _ _ h => h) (Or.inr ⟨by rfl,rfl⟩) ?_ ?_
    rotate_left
    ·
     simp only [Act.put,List.setIfInBounds_toArray,List.set_cons_zero,List.set_cons_succ,i64_w,i32_w]
     rfl
    refine pure_ (i:=13) (N:=some 18) (v:=undef) (a':=?_) #[T,T,T,T,T,T,T,T,T,T,T,T,T,T,F,F,F,F,F,F,F,F] rfl rfl (by kernel_rfl) (fun _ _ _ h => h) (Or.inr ⟨by rfl,rfl⟩) ?_ ?_
    rotate_left
    ·
     simp only [Act.put,List.setIfInBounds_toArray,List.set_cons_zero,List.set_cons_succ,i64_w,i32_w]
     rfl
    refine pure_ (i:=14) (N:=some 19) (v:=undef) (a':=?_) #[T,T,T,T,T,T,T,T,T,T,T,T,T,T,T,F,F,F,F,F,F,F] rfl rfl (by kernel_rfl) (fun _ _ _ h => h) (Or.inr ⟨by rfl,rfl⟩) ?_ ?_
    rotate_left
    ·
     simp only [Act.put,List.setIfInBounds_toArray,List.set_cons_zero,List.set_cons_succ,i64_w,i32_w]
     rfl
    refine pure_ (i:=15) (N:=some 20) (v:=undef) (a':=?_) #[T,T,T,T,T,T,T,T,T,T,T,T,T,T,T,T,F,F,F,F,F,F] rfl rfl (by kernel_rfl) (fun _ _ _ h => h) (Or.inr ⟨by rfl,rfl⟩) ?_ ?_
    rotate_left
    ·
     simp only [Act.put,List.setIfInBounds_toArray,List.set_cons_zero,List.set_cons_succ,i64_w,i32_w]
     rfl
    refine pure_ (i:=16) (N:=some 21) (v:=undef) (a':=?_) #[T,T,T,T,T,T,T,T,T,T,T,T,T,T,T,T,T,F,F,F,F,F] rfl rfl (by kernel_rfl) (fun _ _ _ h => h) (Or.inr ⟨by rfl,rfl⟩) ?_ ?_
    rotate_left
    ·
     simp only [Act.put,List.setIfInBounds_toArray,List.set_cons_zero,List.set_cons_succ,i64_w,i32_w]
     rfl
    refine pure_ (i:=17) (N:=some 22) (v:=undef) (a':=?_) #[T,T,T,T,T,T,T,T,T,T,T,T,T,T,T,T,T,T,F,F,F,F] rfl rfl (by kernel_rfl) (fun _ _ _ h => h) (Or.inr ⟨by rfl,rfl⟩) ?_ ?_
    rotate_left
    ·
     simp only [Act.put,List.setIfInBounds_toArray,List.set_cons_zero,List.set_cons_succ,i64_w,i32_w]
     rfl
    refine pure_ (i:=18) (N:=some 23) (v:=undef) (a':=?_) #[T,T,T,T,T,T,T,T,T,T,T,T,T,T,T,T,T,T,T,F,F,F] rfl rfl (by kernel_rfl) (fun _ _ _ h => h) (Or.inr ⟨by rfl,rfl⟩) ?_ ?_
    rotate_left
    ·
     simp only [Act.put,List.setIfInBounds_toArray,List.set_cons_zero,List.set_cons_succ,i64_w,i32_w]
     rfl
    refine pure_ (i:=19) (N:=some 24) (v:=undef) (a':=?_) #[T,T,T,T,T,T,T,T,T,T,T,T,T,T,T,T,T,T,T,T,F,F] rfl rfl (by kernel_rfl) (fun _ _ _ h => h) (Or.inr ⟨by rfl,rfl⟩) ?_ ?_
    rotate_left
    ·
     simp only [Act.put,List.setIfInBounds_toArray,List.set_cons_zero,List.set_cons_succ,i64_w,i32_w]
     rfl
    refine pure_ (i:=20) (N:=some 25) (v:=?_) (a':=?_) #[T,T,T,T,T,T,T,T,T,T,T,T,T,T,T,T,T,T,T,T,T,F] rfl rfl (by kernel_rfl) (fun _ _ _ h => h) (Or.inl ⟨by rfl,?_⟩) ?_ ?_
    rotate_left
    ·
     intro w'
     go_simp
     with_reducible rfl
    rotate_left
    ·
     simp only [Act.put,List.setIfInBounds_toArray,List.set_cons_zero,List.set_cons_succ,i64_w,i32_w]
     rfl
    refine pure_ (i:=21) (N:=some 4) (v:=?_) (a':=?_) #[T,T,T,T,T,T,T,T,T,T,T,T,T,T,T,T,T,T,T,T,T,T] rfl rfl (by kernel_rfl) (fun _ _ _ h => h) (Or.inl ⟨by rfl,?_⟩) ?_ ?_
    rotate_left
    ·
     intro w'
     go_simp
     with_reducible rfl
    rotate_left
    ·
     simp only [Act.put,List.setIfInBounds_toArray,List.set_cons_zero,List.set_cons_succ,i64_w,i32_w]
     rfl
    refine done_ (by kernel_rfl) ?_
    try go_wp2
    go_ret
    exact ⟨by first|rfl|(simp [errW_none,errW_some] <;> rfl)|(simp [*,errW_none,errW_some] <;> rfl),by repeat (first|(with_reducible first|exact HB.out|apply below_alloc|apply pw_below_drewN|apply below_drew1|refine below_set ?_ GE327.out)|exact HB.out)⟩
  ·
   rw [if_neg c4] at H
   exact absurd H (by simp)
 ·
  rw [if_neg c3] at H
  exact absurd H (by simp)
end Go.Proofs.Ytnldanonpdijgaa.P
