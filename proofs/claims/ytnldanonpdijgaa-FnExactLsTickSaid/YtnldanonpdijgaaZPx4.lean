-- Ours: printed or written for this claim; cut to what the theorem needs.
import Derived.Test.YtnldanonpdijgaaZPx0
import Derived.Test.YtnldanonpdijgaaZPx3
open Bool renaming true → T, false → F
namespace Go.Proofs.Ytnldanonpdijgaa.P
open Go.RowKit Go.Proofs.YtnldanonpdijgaaW.PrintWords Go.Proofs.YtnldanonpdijgaaW.PrintLast Go.Proofs.YtnldanonpdijgaaW.PrintMore
attribute [local go_sem] max2_int min2_int max_two min_two max_three min_three max_four min_four
set_option linter.unusedVariables false
set_option linter.unusedSimpArgs false
def impl_Ls_hostOk.j0 : Nat → Bool → Bool → Int → Bool → Int → Int → Int → Option (Bool)
  | 0,_,_,_,_,_,_,_ => none
  | k + 1,x45,x156000,x156001,x156002,x156003,x156004,x156005 => if x45 = true then (some false) else (if x156000 = true then (if x156002 = true then (some true) else (if x156003 = (-1) then (if x156004 = 0 then (some (x156005 == 0)) else (some false)) else (some false))) else (if x156001 = 0 then (if x156002 = true then (some true) else (if x156003 = (-1) then (if x156004 = 0 then (some (x156005 == 0)) else (some false)) else (some false))) else (some false)))
def impl_Ls_hostOk.f (k : Nat) (a0_0 : Int) (a0_1 : Int) (a0_2 : Int) (l0_3 : List Int) (a0_4 : Int) (a0_5 : Int) (l0_6 : List (S50)) (a1 : Int) : Option (Bool):=if 0 ≤ a1 then (if a1 < (l0_6.length : Int) then ((impl_Ls_clock.f a0_0 a0_1 a0_2 l0_3 a0_4 a0_5 l0_6 a1).bind fun t154 => ((impl_in.f ((rd_T50 l0_6 a1).f1) 0 t154).bind fun t156 => (if t156 = true then ((impl_in.f ((rd_T50 l0_6 a1).f5) 0 t154).bind fun t157 => (if t157 = true then ((impl_Ls_isOwner.f a0_0 a0_1 a0_2 l0_3 a0_4 a0_5 l0_6 ((rd_T50 l0_6 a1).f3)).bind fun t158 => (if t158 = true then ((impl_in.f ((rd_T50 l0_6 a1).f4) 0 a0_5).bind fun t159 => (impl_Ls_hostOk.j0 k (!t159) ((rd_T50 l0_6 a1).f0) ((rd_T50 l0_6 a1).f1) ((rd_T50 l0_6 a1).f2) ((rd_T50 l0_6 a1).f3) ((rd_T50 l0_6 a1).f4) ((rd_T50 l0_6 a1).f5))) else (impl_Ls_hostOk.j0 k true ((rd_T50 l0_6 a1).f0) ((rd_T50 l0_6 a1).f1) ((rd_T50 l0_6 a1).f2) ((rd_T50 l0_6 a1).f3) ((rd_T50 l0_6 a1).f4) ((rd_T50 l0_6 a1).f5)))) else (impl_Ls_hostOk.j0 k true ((rd_T50 l0_6 a1).f0) ((rd_T50 l0_6 a1).f1) ((rd_T50 l0_6 a1).f2) ((rd_T50 l0_6 a1).f3) ((rd_T50 l0_6 a1).f4) ((rd_T50 l0_6 a1).f5)))) else (impl_Ls_hostOk.j0 k true ((rd_T50 l0_6 a1).f0) ((rd_T50 l0_6 a1).f1) ((rd_T50 l0_6 a1).f2) ((rd_T50 l0_6 a1).f3) ((rd_T50 l0_6 a1).f4) ((rd_T50 l0_6 a1).f5))))) else (none)) else (none)
def impl_Ls_hostOk.T1 : Bool × List (List Nat × List Nat):=(true,[([],[]),([0],[0]),([1],[1]),([2],[2]),([],[]),([3,4],[3,4]),([5],[5]),([],[]),([],[]),([7,8],[7,8]),([],[]),([10,6,9,0,1,2,3,4,5,6,10],[6,10]),([9,11,0,1,2,3,4,5,6,7,8,9,10,11],[9])])
def impl_Ls_hostOk.B1 : List Nat:=[0,1,3,7,0,31,63,0,0,384,0,2047,4095]
theorem impl_Ls_hostOk.tab1 : rtab .any (opsOf Try.f77 1) = impl_Ls_hostOk.T1:=by kernel_rfl
theorem impl_Ls_hostOk.bits1 : waitsOk impl_Ls_hostOk.T1.2 impl_Ls_hostOk.B1 = true:=by kernel_rfl
set_option maxHeartbeats 8000000 in
set_option maxRecDepth 100000 in
theorem impl_Ls_hostOk.calls (k : Nat) (gq0 : Nat) (a0_0 : Int) (a0_1 : Int) (a0_2 : Int) (A0_3 : Option Addr) (c0_3 : Nat) (l0_3 : List Int) (a0_4 : Int) (a0_5 : Int) (A0_6 : Option Addr) (c0_6 : Nat) (l0_6 : List (S50)) (a1 : Int) (r : Bool) (w : World) (hb0_ : w.heap[gq0]? = some (.cells #[.int .i64 a0_0,.int .i64 a0_1,.int .i64 a0_2,.slice A0_3 l0_3.length c0_3,.int .i64 a0_4,.int .i64 a0_5,.slice A0_6 l0_6.length c0_6] 30 (0,0))) (hr0_3 : Kd.C (Kd.int .i64) w A0_3 l0_3.length l0_3) (hc0_3 : l0_3.length ≤ c0_3) (hr0_6 : Kd.C k50 w A0_6 l0_6.length l0_6) (hc0_6 : l0_6.length ≤ c0_6) (h : impl_Ls_hostOk.f k a0_0 a0_1 a0_2 l0_3 a0_4 a0_5 l0_6 a1 = some r) :
  Calls Try.prog 77 #[.pointer (some ⟨gq0,0,none⟩),.int .i64 a1] w fun e w' => e = .returned (.bool r) ∧ Below w.heap.size w w':=by
 have hu50:=Try.underlying50
 have HR0_3:=Aside0.mk hr0_3
 have HC0_3:=Aside0.mk hc0_3
 clear hr0_3 hc0_3
 have HR0_6:=Aside0.mk hr0_6
 have HC0_6:=Aside0.mk hc0_6
 clear hr0_6 hc0_6
 have BK0:=Aside0.mk hb0_
 clear hb0_
 have HB:=Aside0.mk (Below.refl w.heap.size w)
 have H : (if 0 ≤ a1 then (if a1 < (l0_6.length : Int) then ((impl_Ls_clock.f a0_0 a0_1 a0_2 l0_3 a0_4 a0_5 l0_6 a1).bind fun t154 => ((impl_in.f ((rd_T50 l0_6 a1).f1) 0 t154).bind fun t156 => (if t156 = true then ((impl_in.f ((rd_T50 l0_6 a1).f5) 0 t154).bind fun t157 => (if t157 = true then ((impl_Ls_isOwner.f a0_0 a0_1 a0_2 l0_3 a0_4 a0_5 l0_6 ((rd_T50 l0_6 a1).f3)).bind fun t158 => (if t158 = true then ((impl_in.f ((rd_T50 l0_6 a1).f4) 0 a0_5).bind fun t159 => (impl_Ls_hostOk.j0 k (!t159) ((rd_T50 l0_6 a1).f0) ((rd_T50 l0_6 a1).f1) ((rd_T50 l0_6 a1).f2) ((rd_T50 l0_6 a1).f3) ((rd_T50 l0_6 a1).f4) ((rd_T50 l0_6 a1).f5))) else (impl_Ls_hostOk.j0 k true ((rd_T50 l0_6 a1).f0) ((rd_T50 l0_6 a1).f1) ((rd_T50 l0_6 a1).f2) ((rd_T50 l0_6 a1).f3) ((rd_T50 l0_6 a1).f4) ((rd_T50 l0_6 a1).f5)))) else (impl_Ls_hostOk.j0 k true ((rd_T50 l0_6 a1).f0) ((rd_T50 l0_6 a1).f1) ((rd_T50 l0_6 a1).f2) ((rd_T50 l0_6 a1).f3) ((rd_T50 l0_6 a1).f4) ((rd_T50 l0_6 a1).f5)))) else (impl_Ls_hostOk.j0 k true ((rd_T50 l0_6 a1).f0) ((rd_T50 l0_6 a1).f1) ((rd_T50 l0_6 a1).f2) ((rd_T50 l0_6 a1).f3) ((rd_T50 l0_6 a1).f4) ((rd_T50 l0_6 a1).f5))))) else (none)) else (none)) = some r:=h
 clear h
 by_cases c3 : 0 ≤ a1
 ·
  rw [if_pos c3] at H
  have c3b0 : decide (0 ≤ a1) = true:=decide_eq_true c3
  clear c3
  by_cases c4 : a1 < (l0_6.length : Int)
  ·
   rw [if_pos c4] at H
   have c4b0 : decide (a1 < (l0_6.length : Int)) = true:=decide_eq_true c4
   clear c4
   replace H:=Option.bind_eq_some_iff.mp H
   obtain ⟨t154,A50,H⟩:=H
   replace H : ((impl_in.f ((rd_T50 l0_6 a1).f1) 0 t154).bind fun t156 => (if t156 = true then ((impl_in.f ((rd_T50 l0_6 a1).f5) 0 t154).bind fun t157 => (if t157 = true then ((impl_Ls_isOwner.f a0_0 a0_1 a0_2 l0_3 a0_4 a0_5 l0_6 ((rd_T50 l0_6 a1).f3)).bind fun t158 => (if t158 = true then ((impl_in.f ((rd_T50 l0_6 a1).f4) 0 a0_5).bind fun t159 => (impl_Ls_hostOk.j0 k (!t159) ((rd_T50 l0_6 a1).f0) ((rd_T50 l0_6 a1).f1) ((rd_T50 l0_6 a1).f2) ((rd_T50 l0_6 a1).f3) ((rd_T50 l0_6 a1).f4) ((rd_T50 l0_6 a1).f5))) else (impl_Ls_hostOk.j0 k true ((rd_T50 l0_6 a1).f0) ((rd_T50 l0_6 a1).f1) ((rd_T50 l0_6 a1).f2) ((rd_T50 l0_6 a1).f3) ((rd_T50 l0_6 a1).f4) ((rd_T50 l0_6 a1).f5)))) else (impl_Ls_hostOk.j0 k true ((rd_T50 l0_6 a1).f0) ((rd_T50 l0_6 a1).f1) ((rd_T50 l0_6 a1).f2) ((rd_T50 l0_6 a1).f3) ((rd_T50 l0_6 a1).f4) ((rd_T50 l0_6 a1).f5)))) else (impl_Ls_hostOk.j0 k true ((rd_T50 l0_6 a1).f0) ((rd_T50 l0_6 a1).f1) ((rd_T50 l0_6 a1).f2) ((rd_T50 l0_6 a1).f3) ((rd_T50 l0_6 a1).f4) ((rd_T50 l0_6 a1).f5)))) = some r:=H
   have A5:=Aside0.mk A50
   clear A50
   have HC6:=Aside0.mk H
   clear H
   go_enter Try.func77,Try.ntmps77
   try go_wp2
   have n0_:=Aside0.mk (blk_drew BK0.out)
   have n1_:=Aside0.mk (below_drew1 HB.out)
   clear BK0
   clear HB
   have BK0:=n0_
   have HB:=n1_
   clear n0_ n1_
   have p153 : 0 ≤ (a1 : Int):=of_decide_eq_true (by first|(with_reducible assumption)|assumption)
   have q153 : a1 < (l0_6.length : Int):=of_decide_eq_true (by first|(with_reducible assumption)|assumption)
   obtain ⟨ad153,e153,hx153_0,hx153_1,hx153_2,hx153_3,hx153_4,hx153_5⟩:=at_T50 HR0_6.out a1 p153 q153
   have hw153_5:=hx153_5
   have hw153_4:=hx153_4
   have hw153_3:=hx153_3
   have hw153_2:=hx153_2
   have hw153_1:=hx153_1
   have hw153_0:=hx153_0
   cases e153
   replace hx153_0:=(HB.out.cell (World.block_lt_of_cell? w _ hx153_0)).trans hx153_0
   replace hx153_1:=(HB.out.cell (World.block_lt_of_cell? w _ hx153_1)).trans hx153_1
   replace hx153_2:=(HB.out.cell (World.block_lt_of_cell? w _ hx153_2)).trans hx153_2
   replace hx153_3:=(HB.out.cell (World.block_lt_of_cell? w _ hx153_3)).trans hx153_3
   replace hx153_4:=(HB.out.cell (World.block_lt_of_cell? w _ hx153_4)).trans hx153_4
   replace hx153_5:=(HB.out.cell (World.block_lt_of_cell? w _ hx153_5)).trans hx153_5
   replace p153:=eq_true p153
   replace q153:=eq_true q153
   refine start_ (n:=13) (S:=fun w' => w'.cell? ⟨gq0,0,none⟩ = some (.int .i64 a0_0) ∧ w'.cell? ⟨gq0,1,none⟩ = some (.int .i64 a0_1) ∧ w'.cell? ⟨gq0,2,none⟩ = some (.int .i64 a0_2) ∧ w'.cell? ⟨gq0,3,none⟩ = some (.slice A0_3 l0_3.length c0_3) ∧ w'.cell? ⟨gq0,4,none⟩ = some (.int .i64 a0_4) ∧ w'.cell? ⟨gq0,5,none⟩ = some (.int .i64 a0_5) ∧ w'.cell? ⟨gq0,6,none⟩ = some (.slice (some ad153) l0_6.length c0_6) ∧ w'.cell? (ad153.add ((a1).toNat * 6)) = some (.bool ((rd_T50 l0_6 a1).f0)) ∧ w'.cell? ⟨(ad153.add ((a1).toNat * 6)).block,(ad153.add ((a1).toNat * 6)).off + 1,none⟩ = some (.int .i64 ((rd_T50 l0_6 a1).f1)) ∧ w'.cell? ⟨(ad153.add ((a1).toNat * 6)).block,(ad153.add ((a1).toNat * 6)).off + 2,none⟩ = some (.bool ((rd_T50 l0_6 a1).f2)) ∧ w'.cell? ⟨(ad153.add ((a1).toNat * 6)).block,(ad153.add ((a1).toNat * 6)).off + 3,none⟩ = some (.int .i64 ((rd_T50 l0_6 a1).f3)) ∧ w'.cell? ⟨(ad153.add ((a1).toNat * 6)).block,(ad153.add ((a1).toNat * 6)).off + 4,none⟩ = some (.int .i64 ((rd_T50 l0_6 a1).f4)) ∧ w'.cell? ⟨(ad153.add ((a1).toNat * 6)).block,(ad153.add ((a1).toNat * 6)).off + 5,none⟩ = some (.int .i64 ((rd_T50 l0_6 a1).f5))) (ds:=[]) #[F,F,F,F,F,F,F,F,F,F,F,F,F] (by kernel_rfl) rfl rfl ⟨(blk_cell BK0.out 0).trans rfl,(blk_cell BK0.out 1).trans rfl,(blk_cell BK0.out 2).trans rfl,(blk_cell BK0.out 3).trans rfl,(blk_cell BK0.out 4).trans rfl,(blk_cell BK0.out 5).trans rfl,(blk_cell BK0.out 6).trans rfl,((HB.out.cell (World.block_lt_of_cell? w _ hw153_0)).trans hw153_0),((HB.out.cell (World.block_lt_of_cell? w _ hw153_1)).trans hw153_1),((HB.out.cell (World.block_lt_of_cell? w _ hw153_2)).trans hw153_2),((HB.out.cell (World.block_lt_of_cell? w _ hw153_3)).trans hw153_3),((HB.out.cell (World.block_lt_of_cell? w _ hw153_4)).trans hw153_4),((HB.out.cell (World.block_lt_of_cell? w _ hw153_5)).trans hw153_5)⟩ (fun hHeld => ?_);refine with_tabW impl_Ls_hostOk.tab1 impl_Ls_hostOk.bits1 (fun HT_ HW_ => ?_)
   generalize w.drew = w7 at BK0 HB hx153_0 hx153_1 hx153_2 hx153_3 hx153_4 hx153_5 hHeld ⊢
   refine pure_ (i:=0) (N:=some 7) (v:=?_) (a':=?_) #[T,F,F,F,F,F,F,F,F,F,F,F,F] rfl rfl (any_of HT_.out (by kernel_rfl)) (fun _ _ _ h => h) (Or.inl ⟨by rfl,?_⟩) ?_ ?_
   rotate_left
   ·
    intro w'
    go_simp
    with_reducible rfl
   rotate_left
   ·
    simp only [Act.put,List.setIfInBounds_toArray,List.set_cons_zero,List.set_cons_succ,i64_w,i32_w]
    rfl
   refine pure_ (i:=1) (N:=some 8) (v:=?_) (a':=?_) #[T,T,F,F,F,F,F,F,F,F,F,F,F] rfl rfl (any_of HT_.out (by kernel_rfl)) (fun _ _ _ h => h) (Or.inl ⟨by rfl,?_⟩) ?_ ?_
   rotate_left
   ·
    intro w'
    go_simp
    with_reducible rfl
   rotate_left
   ·
    simp only [Act.put,List.setIfInBounds_toArray,List.set_cons_zero,List.set_cons_succ,i64_w,i32_w]
    rfl
   refine pure_ (i:=2) (N:=some 9) (v:=?_) (a':=?_) #[T,T,T,F,F,F,F,F,F,F,F,F,F] rfl rfl (any_of HT_.out (by kernel_rfl)) (fun _ _ _ h => h) (Or.inl ⟨by rfl,?_⟩) ?_ ?_
   rotate_left
   ·
    intro w'
    go_simp
    with_reducible rfl
   rotate_left
   ·
    simp only [Act.put,List.setIfInBounds_toArray,List.set_cons_zero,List.set_cons_succ,i64_w,i32_w]
    rfl
   refine pure_ (i:=4) (N:=some 11) (v:=?_) (a':=?_) #[T,T,T,F,T,F,F,F,F,F,F,F,F] rfl rfl (any_of HT_.out (by kernel_rfl)) (fun _ _ _ h => h) (Or.inl ⟨by rfl,?_⟩) ?_ ?_
   rotate_left
   ·
    intro w'
    go_simp
    with_reducible rfl
   rotate_left
   ·
    simp only [Act.put,List.setIfInBounds_toArray,List.set_cons_zero,List.set_cons_succ,i64_w,i32_w]
    rfl
   refine pure_ (i:=7) (N:=some 14) (v:=?_) (a':=?_) #[T,T,T,F,T,F,F,T,F,F,F,F,F] rfl rfl (any_of HT_.out (by kernel_rfl)) (fun _ _ _ h => h) (Or.inl ⟨by rfl,?_⟩) ?_ ?_
   rotate_left
   ·
    intro w'
    go_simp
    with_reducible rfl
   rotate_left
   ·
    simp only [Act.put,List.setIfInBounds_toArray,List.set_cons_zero,List.set_cons_succ,i64_w,i32_w]
    rfl
   refine pure_ (i:=8) (N:=some 15) (v:=?_) (a':=?_) #[T,T,T,F,T,F,F,T,T,F,F,F,F] rfl rfl (any_of HT_.out (by kernel_rfl)) (fun _ _ _ h => h) (Or.inl ⟨by rfl,?_⟩) ?_ ?_
   rotate_left
   ·
    intro w'
    go_simp
    with_reducible rfl
   rotate_left
   ·
    simp only [Act.put,List.setIfInBounds_toArray,List.set_cons_zero,List.set_cons_succ,i64_w,i32_w]
    rfl
   refine take_ (i:=3) (N:=some 10) (v:=?_) (a':=?_) #[T,T,T,T,T,F,F,T,T,F,F,F,F] rfl rfl (take_ofW HT_.out HW_.out (by kernel_rfl)) (fun _ _ _ h => h) (Or.inl ⟨by rfl,?_⟩) hHeld ?_ ?_
   rotate_left
   ·
    rintro w' ⟨s0,s1,s2,s3,s4,s5,s6,s7,s8,s9,s10,s11,s12⟩
    go_simp
    with_reducible rfl
   rotate_left
   ·
    simp only [Act.put,List.setIfInBounds_toArray,List.set_cons_zero,List.set_cons_succ,i64_w,i32_w]
    rfl
   refine pure_ (i:=5) (N:=some 12) (v:=?_) (a':=?_) #[T,T,T,T,T,T,F,T,T,F,F,F,F] rfl rfl (any_of HT_.out (by kernel_rfl)) (fun _ _ _ h => h) (Or.inl ⟨by rfl,?_⟩) ?_ ?_
   rotate_left
   ·
    intro w'
    go_simp
    with_reducible rfl
   rotate_left
   ·
    simp only [Act.put,List.setIfInBounds_toArray,List.set_cons_zero,List.set_cons_succ,i64_w,i32_w]
    rfl
   refine take_ (i:=6) (N:=some 13) (v:=?_) (a':=?_) #[T,T,T,T,T,T,T,T,T,F,F,F,F] rfl rfl (take_ofW HT_.out HW_.out (by kernel_rfl)) (fun _ _ _ h => h) (Or.inl ⟨by rfl,?_⟩) hHeld ?_ ?_
   rotate_left
   ·
    rintro w' ⟨s0,s1,s2,s3,s4,s5,s6,s7,s8,s9,s10,s11,s12⟩
    go_simp
    with_reducible rfl
   rotate_left
   ·
    simp only [Act.put,List.setIfInBounds_toArray,List.set_cons_zero,List.set_cons_succ,i64_w,i32_w]
    rfl
   refine join_ (σ:=Nat) 2 #[T,T,T,T,T,T,T,T,T,T,T,F,F] (fun s_ => [(16,.int .i64 t154),(5,.pointer (some ⟨s_,0,none⟩))]) (fun s_ w' => (w'.cell? ⟨gq0,0,none⟩ = some (.int .i64 a0_0) ∧ w'.cell? ⟨gq0,1,none⟩ = some (.int .i64 a0_1) ∧ w'.cell? ⟨gq0,2,none⟩ = some (.int .i64 a0_2) ∧ w'.cell? ⟨gq0,3,none⟩ = some (.slice A0_3 l0_3.length c0_3) ∧ w'.cell? ⟨gq0,4,none⟩ = some (.int .i64 a0_4) ∧ w'.cell? ⟨gq0,5,none⟩ = some (.int .i64 a0_5) ∧ w'.cell? ⟨gq0,6,none⟩ = some (.slice (some ad153) l0_6.length c0_6) ∧ w'.cell? (ad153.add ((a1).toNat * 6)) = some (.bool ((rd_T50 l0_6 a1).f0)) ∧ w'.cell? ⟨(ad153.add ((a1).toNat * 6)).block,(ad153.add ((a1).toNat * 6)).off + 1,none⟩ = some (.int .i64 ((rd_T50 l0_6 a1).f1)) ∧ w'.cell? ⟨(ad153.add ((a1).toNat * 6)).block,(ad153.add ((a1).toNat * 6)).off + 2,none⟩ = some (.bool ((rd_T50 l0_6 a1).f2)) ∧ w'.cell? ⟨(ad153.add ((a1).toNat * 6)).block,(ad153.add ((a1).toNat * 6)).off + 3,none⟩ = some (.int .i64 ((rd_T50 l0_6 a1).f3)) ∧ w'.cell? ⟨(ad153.add ((a1).toNat * 6)).block,(ad153.add ((a1).toNat * 6)).off + 4,none⟩ = some (.int .i64 ((rd_T50 l0_6 a1).f4)) ∧ w'.cell? ⟨(ad153.add ((a1).toNat * 6)).block,(ad153.add ((a1).toNat * 6)).off + 5,none⟩ = some (.int .i64 ((rd_T50 l0_6 a1).f5))) ∧ (w'.heap[gq0]? = some (.cells #[.int .i64 a0_0,.int .i64 a0_1,.int .i64 a0_2,.slice A0_3 l0_3.length c0_3,.int .i64 a0_4,.int .i64 a0_5,.slice (some ad153) l0_6.length c0_6] 30 (0,0))) ∧ (w'.heap[s_]? = some (.cells #[.bool false,.int .i64 0,.bool false,.int .i64 0,.int .i64 0,.int .i64 0] 50 (0,0))) ∧ (w.heap.size ≤ s_) ∧ (w.heap.size ≤ s_) ∧ (gq0 ≠ s_) ∧ (s_ ≠ gq0) ∧ (Below w.heap.size w w')) ?_ ?_
   rotate_left
   ·
    intro hCont
    refine two_ (i:=9) (j:=10) (Ni:=some 16) (Nj:=some 5) #[T,T,T,T,T,T,T,T,T,T,F,F,F] #[T,T,T,T,T,T,T,T,T,F,T,F,F] rfl rfl rfl rfl (two_of HT_.out (by kernel_rfl)) (by decide) (by decide) (fun K hK => ?_) (fun K hK => ?_)
    ·
     skip
     refine goes_ Try.func55 (by kernel_rfl) rfl #[.pointer (some ⟨gq0,0,none⟩),.int .i64 a1] (by rfl) rfl rfl (by (try simp only [List.map_toArray,List.map_cons,List.map_nil]);first|done|rfl|(simp only [List.length_drop,List.length_take];rfl)) ?_
     with_reducible refine (impl_Ls_clock.calls gq0 a0_0 a0_1 a0_2 A0_3 c0_3 l0_3 a0_4 a0_5 (some ad153) c0_6 l0_6 a1 t154 _ ?side1 ?side2 ?side3 ?side4 ?side5 A5.out).mono ?_
     (case side1 => exact (by (with_reducible repeat (first|refine blk_drewN ?_ _|refine blk_drew ?_|refine blk_alloc ?_ _));exact BK0.out))
     (case side2 => repeat (first|exact (Kd.C_below HR0_3.out HB.out)|(with_reducible refine Kd.C_alloc ?_ _)|(with_reducible refine Kd.C_drewN ?_ _)|(with_reducible refine Kd.C_drew ?_)))
     (case side3 => exact HC0_3.out)
     (case side4 => repeat (first|exact (Kd.C_below HR0_6.out HB.out)|(with_reducible refine Kd.C_alloc ?_ _)|(with_reducible refine Kd.C_drewN ?_ _)|(with_reducible refine Kd.C_drew ?_)))
     (case side5 => exact HC0_6.out)
     rintro e w' ⟨rfl,⟨nd,rfl⟩⟩
     refine ⟨_,rfl,?_⟩
     refine hK.out _ _ ⟨(blk_cell BK0.out 0).trans rfl,(blk_cell BK0.out 1).trans rfl,(blk_cell BK0.out 2).trans rfl,(blk_cell BK0.out 3).trans rfl,(blk_cell BK0.out 4).trans rfl,(blk_cell BK0.out 5).trans rfl,(blk_cell BK0.out 6).trans rfl,((HB.out.cell (World.block_lt_of_cell? w _ hw153_0)).trans hw153_0),((HB.out.cell (World.block_lt_of_cell? w _ hw153_1)).trans hw153_1),((HB.out.cell (World.block_lt_of_cell? w _ hw153_2)).trans hw153_2),((HB.out.cell (World.block_lt_of_cell? w _ hw153_3)).trans hw153_3),((HB.out.cell (World.block_lt_of_cell? w _ hw153_4)).trans hw153_4),((HB.out.cell (World.block_lt_of_cell? w _ hw153_5)).trans hw153_5)⟩ (fun hHeld => ?_)
     clear hK K
     refine norm_ (a':=?_) ?_ ?_
     rotate_left
     ·
      show Act.put _ (some 16) _ = _
      simp only [Act.put,List.setIfInBounds_toArray,List.set_cons_zero,List.set_cons_succ,i64_w,i32_w]
      rfl
     refine one_ (i:=10) (N:=some 5) #[T,T,T,T,T,T,T,T,T,T,T,F,F] rfl rfl (one_of HT_.out (by kernel_rfl)) (by decide) (fun K hK => ?_)
     refine box_step ?hg (N:=5) ?hd (cs:=#[.bool false,.int .i64 0,.bool false,.int .i64 0,.int .i64 0,.int .i64 0]) (t:=50) ?hr ?_;(case hd => rfl);(case hg => rfl);(case hr => first|(go_simp;done)|(go_simp;rfl))
     intro gb155 hg w8 hbox hb
     have n0_:=Aside0.mk (blk_below (g:=gq0) (o:=.cells #[.int .i64 a0_0,.int .i64 a0_1,.int .i64 a0_2,.slice A0_3 l0_3.length c0_3,.int .i64 a0_4,.int .i64 a0_5,.slice (some ad153) l0_6.length c0_6] 30 (0,0)) (by (with_reducible repeat (first|refine blk_drewN ?_ _|refine blk_drew ?_|refine blk_alloc ?_ _));exact BK0.out) hb)
     have n1_:=Aside0.mk (below_step (by repeat (first|(with_reducible first|exact HB.out|apply below_alloc|apply pw_below_drewN|apply below_drew1|refine below_set ?_ GE0.out)|exact HB.out)) hb)
     have n2_:=Aside0.mk (hbox)
     have n3_:=Aside0.mk ((by rw [hg];exact (below_size (by repeat (first|(with_reducible first|exact HB.out|apply below_alloc|apply pw_below_drewN|apply below_drew1|refine below_set ?_ GE0.out)|exact HB.out))) : w.heap.size ≤ gb155))
     have n4_:=Aside0.mk ((by rw [hg];exact (below_size (by repeat (first|(with_reducible first|exact HB.out|apply below_alloc|apply pw_below_drewN|apply below_drew1|refine below_set ?_ GE0.out)|exact HB.out))) : w.heap.size ≤ gb155))
     have n5_:=Aside0.mk ((by rw [hg];exact Nat.ne_of_lt (blk_lt (g:=gq0) (o:=.cells #[.int .i64 a0_0,.int .i64 a0_1,.int .i64 a0_2,.slice A0_3 l0_3.length c0_3,.int .i64 a0_4,.int .i64 a0_5,.slice (some ad153) l0_6.length c0_6] 30 (0,0)) (by (with_reducible repeat (first|refine blk_drewN ?_ _|refine blk_drew ?_|refine blk_alloc ?_ _));exact BK0.out)) : gq0 ≠ gb155))
     have n6_:=Aside0.mk ((by rw [hg];exact Nat.ne_of_gt (blk_lt (g:=gq0) (o:=.cells #[.int .i64 a0_0,.int .i64 a0_1,.int .i64 a0_2,.slice A0_3 l0_3.length c0_3,.int .i64 a0_4,.int .i64 a0_5,.slice (some ad153) l0_6.length c0_6] 30 (0,0)) (by (with_reducible repeat (first|refine blk_drewN ?_ _|refine blk_drew ?_|refine blk_alloc ?_ _));exact BK0.out)) : gb155 ≠ gq0))
     clear BK0
     clear HB
     have BK0:=n0_
     have HB:=n1_
     have BK155:=n2_
     have GW155:=n3_
     have GE155:=n4_
     have NB0_155:=n5_
     have NB155_0:=n6_
     clear n0_ n1_ n2_ n3_ n4_ n5_ n6_
     clear hb hbox hg
     refine hK.out _ _ ⟨(blk_cell BK0.out 0).trans rfl,(blk_cell BK0.out 1).trans rfl,(blk_cell BK0.out 2).trans rfl,(blk_cell BK0.out 3).trans rfl,(blk_cell BK0.out 4).trans rfl,(blk_cell BK0.out 5).trans rfl,(blk_cell BK0.out 6).trans rfl,((HB.out.cell (World.block_lt_of_cell? w _ hw153_0)).trans hw153_0),((HB.out.cell (World.block_lt_of_cell? w _ hw153_1)).trans hw153_1),((HB.out.cell (World.block_lt_of_cell? w _ hw153_2)).trans hw153_2),((HB.out.cell (World.block_lt_of_cell? w _ hw153_3)).trans hw153_3),((HB.out.cell (World.block_lt_of_cell? w _ hw153_4)).trans hw153_4),((HB.out.cell (World.block_lt_of_cell? w _ hw153_5)).trans hw153_5)⟩ (fun hHeld => ?_)
     clear hK K
     refine norm_ (a':=?_) ?_ ?_
     rotate_left
     ·
      show Act.put _ (some 5) _ = _
      simp only [Act.put,List.setIfInBounds_toArray,List.set_cons_zero,List.set_cons_succ,i64_w,i32_w]
      rfl
     exact norm_ (by simp only [putAll,Act.put,List.setIfInBounds_toArray,List.set_cons_zero,List.set_cons_succ]) (hCont (gb155) _ ⟨hHeld,(by (with_reducible repeat (first|refine blk_drewN ?_ _|refine blk_drew ?_|refine blk_alloc ?_ _));exact BK0.out),(by (with_reducible repeat (first|refine blk_drewN ?_ _|refine blk_drew ?_|refine blk_alloc ?_ _));exact BK155.out),GW155.out,GE155.out,NB0_155.out,NB155_0.out,(by repeat (first|(with_reducible first|exact HB.out|apply below_alloc|apply pw_below_drewN|apply below_drew1|refine below_set ?_ GE0.out|refine below_set ?_ GE155.out)|exact HB.out))⟩)
    ·
     skip
     refine box_step ?hg (N:=5) ?hd (cs:=#[.bool false,.int .i64 0,.bool false,.int .i64 0,.int .i64 0,.int .i64 0]) (t:=50) ?hr ?_;(case hd => rfl);(case hg => rfl);(case hr => first|(go_simp;done)|(go_simp;rfl))
     intro gb155 hg w8 hbox hb
     have n0_:=Aside0.mk (blk_below (g:=gq0) (o:=.cells #[.int .i64 a0_0,.int .i64 a0_1,.int .i64 a0_2,.slice A0_3 l0_3.length c0_3,.int .i64 a0_4,.int .i64 a0_5,.slice (some ad153) l0_6.length c0_6] 30 (0,0)) (by (with_reducible repeat (first|refine blk_drewN ?_ _|refine blk_drew ?_|refine blk_alloc ?_ _));exact BK0.out) hb)
     have n1_:=Aside0.mk (below_step (by repeat (first|(with_reducible first|exact HB.out|apply below_alloc|apply pw_below_drewN|apply below_drew1|refine below_set ?_ GE0.out)|exact HB.out)) hb)
     have n2_:=Aside0.mk (hbox)
     have n3_:=Aside0.mk ((by rw [hg];exact (below_size (by repeat (first|(with_reducible first|exact HB.out|apply below_alloc|apply pw_below_drewN|apply below_drew1|refine below_set ?_ GE0.out)|exact HB.out))) : w.heap.size ≤ gb155))
     have n4_:=Aside0.mk ((by rw [hg];exact (below_size (by repeat (first|(with_reducible first|exact HB.out|apply below_alloc|apply pw_below_drewN|apply below_drew1|refine below_set ?_ GE0.out)|exact HB.out))) : w.heap.size ≤ gb155))
     have n5_:=Aside0.mk ((by rw [hg];exact Nat.ne_of_lt (blk_lt (g:=gq0) (o:=.cells #[.int .i64 a0_0,.int .i64 a0_1,.int .i64 a0_2,.slice A0_3 l0_3.length c0_3,.int .i64 a0_4,.int .i64 a0_5,.slice (some ad153) l0_6.length c0_6] 30 (0,0)) (by (with_reducible repeat (first|refine blk_drewN ?_ _|refine blk_drew ?_|refine blk_alloc ?_ _));exact BK0.out)) : gq0 ≠ gb155))
     have n6_:=Aside0.mk ((by rw [hg];exact Nat.ne_of_gt (blk_lt (g:=gq0) (o:=.cells #[.int .i64 a0_0,.int .i64 a0_1,.int .i64 a0_2,.slice A0_3 l0_3.length c0_3,.int .i64 a0_4,.int .i64 a0_5,.slice (some ad153) l0_6.length c0_6] 30 (0,0)) (by (with_reducible repeat (first|refine blk_drewN ?_ _|refine blk_drew ?_|refine blk_alloc ?_ _));exact BK0.out)) : gb155 ≠ gq0))
     clear BK0
     clear HB
     have BK0:=n0_
     have HB:=n1_
     have BK155:=n2_
     have GW155:=n3_
     have GE155:=n4_
     have NB0_155:=n5_
     have NB155_0:=n6_
     clear n0_ n1_ n2_ n3_ n4_ n5_ n6_
     clear hb hbox hg
     refine hK.out _ _ ⟨(blk_cell BK0.out 0).trans rfl,(blk_cell BK0.out 1).trans rfl,(blk_cell BK0.out 2).trans rfl,(blk_cell BK0.out 3).trans rfl,(blk_cell BK0.out 4).trans rfl,(blk_cell BK0.out 5).trans rfl,(blk_cell BK0.out 6).trans rfl,((HB.out.cell (World.block_lt_of_cell? w _ hw153_0)).trans hw153_0),((HB.out.cell (World.block_lt_of_cell? w _ hw153_1)).trans hw153_1),((HB.out.cell (World.block_lt_of_cell? w _ hw153_2)).trans hw153_2),((HB.out.cell (World.block_lt_of_cell? w _ hw153_3)).trans hw153_3),((HB.out.cell (World.block_lt_of_cell? w _ hw153_4)).trans hw153_4),((HB.out.cell (World.block_lt_of_cell? w _ hw153_5)).trans hw153_5)⟩ (fun hHeld => ?_)
     clear hK K
     refine norm_ (a':=?_) ?_ ?_
     rotate_left
     ·
      show Act.put _ (some 5) _ = _
      simp only [Act.put,List.setIfInBounds_toArray,List.set_cons_zero,List.set_cons_succ,i64_w,i32_w]
      rfl
     refine one_ (i:=9) (N:=some 16) #[T,T,T,T,T,T,T,T,T,T,T,F,F] rfl rfl (one_of HT_.out (by kernel_rfl)) (by decide) (fun K hK => ?_)
     refine goes_ Try.func55 (by kernel_rfl) rfl #[.pointer (some ⟨gq0,0,none⟩),.int .i64 a1] (by rfl) rfl rfl (by (try simp only [List.map_toArray,List.map_cons,List.map_nil]);first|done|rfl|(simp only [List.length_drop,List.length_take];rfl)) ?_
     with_reducible refine (impl_Ls_clock.calls gq0 a0_0 a0_1 a0_2 A0_3 c0_3 l0_3 a0_4 a0_5 (some ad153) c0_6 l0_6 a1 t154 _ ?side1 ?side2 ?side3 ?side4 ?side5 A5.out).mono ?_
     (case side1 => exact (by (with_reducible repeat (first|refine blk_drewN ?_ _|refine blk_drew ?_|refine blk_alloc ?_ _));exact BK0.out))
     (case side2 => repeat (first|exact (Kd.C_below HR0_3.out HB.out)|(with_reducible refine Kd.C_alloc ?_ _)|(with_reducible refine Kd.C_drewN ?_ _)|(with_reducible refine Kd.C_drew ?_)))
     (case side3 => exact HC0_3.out)
     (case side4 => repeat (first|exact (Kd.C_below HR0_6.out HB.out)|(with_reducible refine Kd.C_alloc ?_ _)|(with_reducible refine Kd.C_drewN ?_ _)|(with_reducible refine Kd.C_drew ?_)))
     (case side5 => exact HC0_6.out)
     rintro e w' ⟨rfl,⟨nd,rfl⟩⟩
     refine ⟨_,rfl,?_⟩
     refine hK.out _ _ ⟨(blk_cell BK0.out 0).trans rfl,(blk_cell BK0.out 1).trans rfl,(blk_cell BK0.out 2).trans rfl,(blk_cell BK0.out 3).trans rfl,(blk_cell BK0.out 4).trans rfl,(blk_cell BK0.out 5).trans rfl,(blk_cell BK0.out 6).trans rfl,((HB.out.cell (World.block_lt_of_cell? w _ hw153_0)).trans hw153_0),((HB.out.cell (World.block_lt_of_cell? w _ hw153_1)).trans hw153_1),((HB.out.cell (World.block_lt_of_cell? w _ hw153_2)).trans hw153_2),((HB.out.cell (World.block_lt_of_cell? w _ hw153_3)).trans hw153_3),((HB.out.cell (World.block_lt_of_cell? w _ hw153_4)).trans hw153_4),((HB.out.cell (World.block_lt_of_cell? w _ hw153_5)).trans hw153_5)⟩ (fun hHeld => ?_)
     clear hK K
     refine norm_ (a':=?_) ?_ ?_
     rotate_left
     ·
      show Act.put _ (some 16) _ = _
      simp only [Act.put,List.setIfInBounds_toArray,List.set_cons_zero,List.set_cons_succ,i64_w,i32_w]
      rfl
     exact norm_ (by simp only [putAll,Act.put,List.setIfInBounds_toArray,List.set_cons_zero,List.set_cons_succ]) (hCont (gb155) _ ⟨hHeld,(by (with_reducible repeat (first|refine blk_drewN ?_ _|refine blk_drew ?_|refine blk_alloc ?_ _));exact BK0.out),(by (with_reducible repeat (first|refine blk_drewN ?_ _|refine blk_drew ?_|refine blk_alloc ?_ _));exact BK155.out),GW155.out,GE155.out,NB0_155.out,NB155_0.out,(by repeat (first|(with_reducible first|exact HB.out|apply below_alloc|apply pw_below_drewN|apply below_drew1|refine below_set ?_ GE0.out|refine below_set ?_ GE155.out)|exact HB.out))⟩)
   rintro gb155 w9 ⟨hS_,h0_,h1_,h2_,h3_,h4_,h5_,h6_⟩
   have n0_ : Aside0 (w9.heap[gq0]? = some (.cells #[.int .i64 a0_0,.int .i64 a0_1,.int .i64 a0_2,.slice A0_3 l0_3.length c0_3,.int .i64 a0_4,.int .i64 a0_5,.slice (some ad153) l0_6.length c0_6] 30 (0,0))):=⟨h0_⟩
   have n1_ : Aside0 (w9.heap[gb155]? = some (.cells #[.bool false,.int .i64 0,.bool false,.int .i64 0,.int .i64 0,.int .i64 0] 50 (0,0))):=⟨h1_⟩
   have n2_ : Aside0 (w.heap.size ≤ gb155):=⟨h2_⟩
   have n3_ : Aside0 (w.heap.size ≤ gb155):=⟨h3_⟩
   have n4_ : Aside0 (gq0 ≠ gb155):=⟨h4_⟩
   have n5_ : Aside0 (gb155 ≠ gq0):=⟨h5_⟩
   have n6_ : Aside0 (Below w.heap.size w w9):=⟨h6_⟩
   clear BK0
   clear HB
   clear h0_ h1_ h2_ h3_ h4_ h5_ h6_
   have BK0:=n0_
   have BK155:=n1_
   have GW155:=n2_
   have GE155:=n3_
   have NB0_155:=n4_
   have NB155_0:=n5_
   have HB:=n6_
   clear n0_ n1_ n2_ n3_ n4_ n5_ n6_
   have hHeld : w9.cell? ⟨gq0,0,none⟩ = some (.int .i64 a0_0) ∧ w9.cell? ⟨gq0,1,none⟩ = some (.int .i64 a0_1) ∧ w9.cell? ⟨gq0,2,none⟩ = some (.int .i64 a0_2) ∧ w9.cell? ⟨gq0,3,none⟩ = some (.slice A0_3 l0_3.length c0_3) ∧ w9.cell? ⟨gq0,4,none⟩ = some (.int .i64 a0_4) ∧ w9.cell? ⟨gq0,5,none⟩ = some (.int .i64 a0_5) ∧ w9.cell? ⟨gq0,6,none⟩ = some (.slice (some ad153) l0_6.length c0_6) ∧ w9.cell? (ad153.add ((a1).toNat * 6)) = some (.bool ((rd_T50 l0_6 a1).f0)) ∧ w9.cell? ⟨(ad153.add ((a1).toNat * 6)).block,(ad153.add ((a1).toNat * 6)).off + 1,none⟩ = some (.int .i64 ((rd_T50 l0_6 a1).f1)) ∧ w9.cell? ⟨(ad153.add ((a1).toNat * 6)).block,(ad153.add ((a1).toNat * 6)).off + 2,none⟩ = some (.bool ((rd_T50 l0_6 a1).f2)) ∧ w9.cell? ⟨(ad153.add ((a1).toNat * 6)).block,(ad153.add ((a1).toNat * 6)).off + 3,none⟩ = some (.int .i64 ((rd_T50 l0_6 a1).f3)) ∧ w9.cell? ⟨(ad153.add ((a1).toNat * 6)).block,(ad153.add ((a1).toNat * 6)).off + 4,none⟩ = some (.int .i64 ((rd_T50 l0_6 a1).f4)) ∧ w9.cell? ⟨(ad153.add ((a1).toNat * 6)).block,(ad153.add ((a1).toNat * 6)).off + 5,none⟩ = some (.int .i64 ((rd_T50 l0_6 a1).f5)):=hS_
   refine norm_ (a':=?_) ?_ ?_
   rotate_left
   ·
    simp only [putAll,Act.put,List.setIfInBounds_toArray,List.set_cons_zero,List.set_cons_succ]
    rfl
   refine one_ (i:=11) (N:=none) #[T,T,T,T,T,T,T,T,T,T,T,T,F] rfl rfl (one_of HT_.out (by kernel_rfl)) (by decide) (fun K hK => ?_)
   have hs10 : w9.cell? ⟨gb155,0,none⟩ = some (.bool false):=(blk_cell BK155.out 0).trans rfl
   have hfs10:=blk_frozen BK155.out 0
   have hns10_0:=NB0_155.out
   have hms10_0:=NB155_0.out
   have hs11 : w9.cell? ⟨gb155,1,none⟩ = some (.int .i64 0):=(blk_cell BK155.out 1).trans rfl
   have hfs11:=blk_frozen BK155.out 1
   have hns11_0:=NB0_155.out
   have hms11_0:=NB155_0.out
   have hs12 : w9.cell? ⟨gb155,2,none⟩ = some (.bool false):=(blk_cell BK155.out 2).trans rfl
   have hfs12:=blk_frozen BK155.out 2
   have hns12_0:=NB0_155.out
   have hms12_0:=NB155_0.out
   have hs13 : w9.cell? ⟨gb155,3,none⟩ = some (.int .i64 0):=(blk_cell BK155.out 3).trans rfl
   have hfs13:=blk_frozen BK155.out 3
   have hns13_0:=NB0_155.out
   have hms13_0:=NB155_0.out
   have hs14 : w9.cell? ⟨gb155,4,none⟩ = some (.int .i64 0):=(blk_cell BK155.out 4).trans rfl
   have hfs14:=blk_frozen BK155.out 4
   have hns14_0:=NB0_155.out
   have hms14_0:=NB155_0.out
   have hs15 : w9.cell? ⟨gb155,5,none⟩ = some (.int .i64 0):=(blk_cell BK155.out 5).trans rfl
   have hfs15:=blk_frozen BK155.out 5
   have hns15_0:=NB0_155.out
   have hms15_0:=NB155_0.out
   refine skip_ (w1:=?_) (by rfl) rfl ?_ ?_
   rotate_left
   ·
    go_simp
    rfl
   refine hK.out _ _ ⟨((cell_far (p:=⟨gb155,_,none⟩) NB0_155.out _).trans (((cell_far (p:=⟨gb155,_,none⟩) NB0_155.out _).trans (((cell_far (p:=⟨gb155,_,none⟩) NB0_155.out _).trans (((cell_far (p:=⟨gb155,_,none⟩) NB0_155.out _).trans (((cell_far (p:=⟨gb155,_,none⟩) NB0_155.out _).trans (((cell_far (p:=⟨gb155,_,none⟩) NB0_155.out _).trans (hHeld.1)))))))))))),((cell_far (p:=⟨gb155,_,none⟩) NB0_155.out _).trans (((cell_far (p:=⟨gb155,_,none⟩) NB0_155.out _).trans (((cell_far (p:=⟨gb155,_,none⟩) NB0_155.out _).trans (((cell_far (p:=⟨gb155,_,none⟩) NB0_155.out _).trans (((cell_far (p:=⟨gb155,_,none⟩) NB0_155.out _).trans (((cell_far (p:=⟨gb155,_,none⟩) NB0_155.out _).trans (hHeld.2.1)))))))))))),((cell_far (p:=⟨gb155,_,none⟩) NB0_155.out _).trans (((cell_far (p:=⟨gb155,_,none⟩) NB0_155.out _).trans (((cell_far (p:=⟨gb155,_,none⟩) NB0_155.out _).trans (((cell_far (p:=⟨gb155,_,none⟩) NB0_155.out _).trans (((cell_far (p:=⟨gb155,_,none⟩) NB0_155.out _).trans (((cell_far (p:=⟨gb155,_,none⟩) NB0_155.out _).trans (hHeld.2.2.1)))))))))))),((cell_far (p:=⟨gb155,_,none⟩) NB0_155.out _).trans (((cell_far (p:=⟨gb155,_,none⟩) NB0_155.out _).trans (((cell_far (p:=⟨gb155,_,none⟩) NB0_155.out _).trans (((cell_far (p:=⟨gb155,_,none⟩) NB0_155.out _).trans (((cell_far (p:=⟨gb155,_,none⟩) NB0_155.out _).trans (((cell_far (p:=⟨gb155,_,none⟩) NB0_155.out _).trans (hHeld.2.2.2.1)))))))))))),((cell_far (p:=⟨gb155,_,none⟩) NB0_155.out _).trans (((cell_far (p:=⟨gb155,_,none⟩) NB0_155.out _).trans (((cell_far (p:=⟨gb155,_,none⟩) NB0_155.out _).trans (((cell_far (p:=⟨gb155,_,none⟩) NB0_155.out _).trans (((cell_far (p:=⟨gb155,_,none⟩) NB0_155.out _).trans (((cell_far (p:=⟨gb155,_,none⟩) NB0_155.out _).trans (hHeld.2.2.2.2.1)))))))))))),((cell_far (p:=⟨gb155,_,none⟩) NB0_155.out _).trans (((cell_far (p:=⟨gb155,_,none⟩) NB0_155.out _).trans (((cell_far (p:=⟨gb155,_,none⟩) NB0_155.out _).trans (((cell_far (p:=⟨gb155,_,none⟩) NB0_155.out _).trans (((cell_far (p:=⟨gb155,_,none⟩) NB0_155.out _).trans (((cell_far (p:=⟨gb155,_,none⟩) NB0_155.out _).trans (hHeld.2.2.2.2.2.1)))))))))))),((cell_far (p:=⟨gb155,_,none⟩) NB0_155.out _).trans (((cell_far (p:=⟨gb155,_,none⟩) NB0_155.out _).trans (((cell_far (p:=⟨gb155,_,none⟩) NB0_155.out _).trans (((cell_far (p:=⟨gb155,_,none⟩) NB0_155.out _).trans (((cell_far (p:=⟨gb155,_,none⟩) NB0_155.out _).trans (((cell_far (p:=⟨gb155,_,none⟩) NB0_155.out _).trans (hHeld.2.2.2.2.2.2.1)))))))))))),((cell_far (p:=⟨gb155,_,none⟩) (by first|exact Nat.ne_of_lt (Nat.lt_of_lt_of_le (by have:=World.block_lt_of_cell? _ _ hw153_0;first|rwa [add_block] at this|exact this) GW155.out)|(rw [add_block];exact Nat.ne_of_lt (Nat.lt_of_lt_of_le (by have:=World.block_lt_of_cell? _ _ hw153_0;first|rwa [add_block] at this|exact this) GW155.out))|(show (Addr.add _ _).block ≠ _;rw [add_block];exact Nat.ne_of_lt (Nat.lt_of_lt_of_le (by have:=World.block_lt_of_cell? _ _ hw153_0;first|rwa [add_block] at this|exact this) GW155.out))|(dsimp only;exact Nat.ne_of_lt (Nat.lt_of_lt_of_le (by have:=World.block_lt_of_cell? _ _ hw153_0;first|rwa [add_block] at this|exact this) GW155.out))) _).trans (((cell_far (p:=⟨gb155,_,none⟩) (by first|exact Nat.ne_of_lt (Nat.lt_of_lt_of_le (by have:=World.block_lt_of_cell? _ _ hw153_0;first|rwa [add_block] at this|exact this) GW155.out)|(rw [add_block];exact Nat.ne_of_lt (Nat.lt_of_lt_of_le (by have:=World.block_lt_of_cell? _ _ hw153_0;first|rwa [add_block] at this|exact this) GW155.out))|(show (Addr.add _ _).block ≠ _;rw [add_block];exact Nat.ne_of_lt (Nat.lt_of_lt_of_le (by have:=World.block_lt_of_cell? _ _ hw153_0;first|rwa [add_block] at this|exact this) GW155.out))|(dsimp only;exact Nat.ne_of_lt (Nat.lt_of_lt_of_le (by have:=World.block_lt_of_cell? _ _ hw153_0;first|rwa [add_block] at this|exact this) GW155.out))) _).trans (((cell_far (p:=⟨gb155,_,none⟩) (by first|exact Nat.ne_of_lt (Nat.lt_of_lt_of_le (by have:=World.block_lt_of_cell? _ _ hw153_0;first|rwa [add_block] at this|exact this) GW155.out)|(rw [add_block];exact Nat.ne_of_lt (Nat.lt_of_lt_of_le (by have:=World.block_lt_of_cell? _ _ hw153_0;first|rwa [add_block] at this|exact this) GW155.out))|(show (Addr.add _ _).block ≠ _;rw [add_block];exact Nat.ne_of_lt (Nat.lt_of_lt_of_le (by have:=World.block_lt_of_cell? _ _ hw153_0;first|rwa [add_block] at this|exact this) GW155.out))|(dsimp only;exact Nat.ne_of_lt (Nat.lt_of_lt_of_le (by have:=World.block_lt_of_cell? _ _ hw153_0;first|rwa [add_block] at this|exact this) GW155.out))) _).trans (((cell_far (p:=⟨gb155,_,none⟩) (by first|exact Nat.ne_of_lt (Nat.lt_of_lt_of_le (by have:=World.block_lt_of_cell? _ _ hw153_0;first|rwa [add_block] at this|exact this) GW155.out)|(rw [add_block];exact Nat.ne_of_lt (Nat.lt_of_lt_of_le (by have:=World.block_lt_of_cell? _ _ hw153_0;first|rwa [add_block] at this|exact this) GW155.out))|(show (Addr.add _ _).block ≠ _;rw [add_block];exact Nat.ne_of_lt (Nat.lt_of_lt_of_le (by have:=World.block_lt_of_cell? _ _ hw153_0;first|rwa [add_block] at this|exact this) GW155.out))|(dsimp only;exact Nat.ne_of_lt (Nat.lt_of_lt_of_le (by have:=World.block_lt_of_cell? _ _ hw153_0;first|rwa [add_block] at this|exact this) GW155.out))) _).trans (((cell_far (p:=⟨gb155,_,none⟩) (by first|exact Nat.ne_of_lt (Nat.lt_of_lt_of_le (by have:=World.block_lt_of_cell? _ _ hw153_0;first|rwa [add_block] at this|exact this) GW155.out)|(rw [add_block];exact Nat.ne_of_lt (Nat.lt_of_lt_of_le (by have:=World.block_lt_of_cell? _ _ hw153_0;first|rwa [add_block] at this|exact this) GW155.out))|(show (Addr.add _ _).block ≠ _;rw [add_block];exact Nat.ne_of_lt (Nat.lt_of_lt_of_le (by have:=World.block_lt_of_cell? _ _ hw153_0;first|rwa [add_block] at this|exact this) GW155.out))|(dsimp only;exact Nat.ne_of_lt (Nat.lt_of_lt_of_le (by have:=World.block_lt_of_cell? _ _ hw153_0;first|rwa [add_block] at this|exact this) GW155.out))) _).trans (((cell_far (p:=⟨gb155,_,none⟩) (by first|exact Nat.ne_of_lt (Nat.lt_of_lt_of_le (by have:=World.block_lt_of_cell? _ _ hw153_0;first|rwa [add_block] at this|exact this) GW155.out)|(rw [add_block];exact Nat.ne_of_lt (Nat.lt_of_lt_of_le (by have:=World.block_lt_of_cell? _ _ hw153_0;first|rwa [add_block] at this|exact this) GW155.out))|(show (Addr.add _ _).block ≠ _;rw [add_block];exact Nat.ne_of_lt (Nat.lt_of_lt_of_le (by have:=World.block_lt_of_cell? _ _ hw153_0;first|rwa [add_block] at this|exact this) GW155.out))|(dsimp only;exact Nat.ne_of_lt (Nat.lt_of_lt_of_le (by have:=World.block_lt_of_cell? _ _ hw153_0;first|rwa [add_block] at this|exact this) GW155.out))) _).trans (hHeld.2.2.2.2.2.2.2.1)))))))))))),((cell_far (p:=⟨gb155,_,none⟩) (by first|exact Nat.ne_of_lt (Nat.lt_of_lt_of_le (by have:=World.block_lt_of_cell? _ _ hw153_1;first|rwa [add_block] at this|exact this) GW155.out)|(rw [add_block];exact Nat.ne_of_lt (Nat.lt_of_lt_of_le (by have:=World.block_lt_of_cell? _ _ hw153_1;first|rwa [add_block] at this|exact this) GW155.out))|(show (Addr.add _ _).block ≠ _;rw [add_block];exact Nat.ne_of_lt (Nat.lt_of_lt_of_le (by have:=World.block_lt_of_cell? _ _ hw153_1;first|rwa [add_block] at this|exact this) GW155.out))|(dsimp only;exact Nat.ne_of_lt (Nat.lt_of_lt_of_le (by have:=World.block_lt_of_cell? _ _ hw153_1;first|rwa [add_block] at this|exact this) GW155.out))) _).trans (((cell_far (p:=⟨gb155,_,none⟩) (by first|exact Nat.ne_of_lt (Nat.lt_of_lt_of_le (by have:=World.block_lt_of_cell? _ _ hw153_1;first|rwa [add_block] at this|exact this) GW155.out)|(rw [add_block];exact Nat.ne_of_lt (Nat.lt_of_lt_of_le (by have:=World.block_lt_of_cell? _ _ hw153_1;first|rwa [add_block] at this|exact this) GW155.out))|(show (Addr.add _ _).block ≠ _;rw [add_block];exact Nat.ne_of_lt (Nat.lt_of_lt_of_le (by have:=World.block_lt_of_cell? _ _ hw153_1;first|rwa [add_block] at this|exact this) GW155.out))|(dsimp only;exact Nat.ne_of_lt (Nat.lt_of_lt_of_le (by have:=World.block_lt_of_cell? _ _ hw153_1;first|rwa [add_block] at this|exact this) GW155.out))) _).trans (((cell_far (p:=⟨gb155,_,none⟩) (by first|exact Nat.ne_of_lt (Nat.lt_of_lt_of_le (by have:=World.block_lt_of_cell? _ _ hw153_1;first|rwa [add_block] at this|exact this) GW155.out)|(rw [add_block];exact Nat.ne_of_lt (Nat.lt_of_lt_of_le (by have:=World.block_lt_of_cell? _ _ hw153_1;first|rwa [add_block] at this|exact this) GW155.out))|(show (Addr.add _ _).block ≠ _;rw [add_block];exact Nat.ne_of_lt (Nat.lt_of_lt_of_le (by have:=World.block_lt_of_cell? _ _ hw153_1;first|rwa [add_block] at this|exact this) GW155.out))|(dsimp only;exact Nat.ne_of_lt (Nat.lt_of_lt_of_le (by have:=World.block_lt_of_cell? _ _ hw153_1;first|rwa [add_block] at this|exact this) GW155.out))) _).trans (((cell_far (p:=⟨gb155,_,none⟩) (by first|exact Nat.ne_of_lt (Nat.lt_of_lt_of_le (by have:=World.block_lt_of_cell? _ _ hw153_1;first|rwa [add_block] at this|exact this) GW155.out)|(rw [add_block];exact Nat.ne_of_lt (Nat.lt_of_lt_of_le (by have:=World.block_lt_of_cell? _ _ hw153_1;first|rwa [add_block] at this|exact this) GW155.out))|(show (Addr.add _ _).block ≠ _;rw [add_block];exact Nat.ne_of_lt (Nat.lt_of_lt_of_le (by have:=World.block_lt_of_cell? _ _ hw153_1;first|rwa [add_block] at this|exact this) GW155.out))|(dsimp only;exact Nat.ne_of_lt (Nat.lt_of_lt_of_le (by have:=World.block_lt_of_cell? _ _ hw153_1;first|rwa [add_block] at this|exact this) GW155.out))) _).trans (((cell_far (p:=⟨gb155,_,none⟩) (by first|exact Nat.ne_of_lt (Nat.lt_of_lt_of_le (by have:=World.block_lt_of_cell? _ _ hw153_1;first|rwa [add_block] at this|exact this) GW155.out)|(rw [add_block];exact Nat.ne_of_lt (Nat.lt_of_lt_of_le (by have:=World.block_lt_of_cell? _ _ hw153_1;first|rwa [add_block] at this|exact this) GW155.out))|(show (Addr.add _ _).block ≠ _;rw [add_block];exact Nat.ne_of_lt (Nat.lt_of_lt_of_le (by have:=World.block_lt_of_cell? _ _ hw153_1;first|rwa [add_block] at this|exact this) GW155.out))|(dsimp only;exact Nat.ne_of_lt (Nat.lt_of_lt_of_le (by have:=World.block_lt_of_cell? _ _ hw153_1;first|rwa [add_block] at this|exact this) GW155.out))) _).trans (((cell_far (p:=⟨gb155,_,none⟩) (by first|exact Nat.ne_of_lt (Nat.lt_of_lt_of_le (by have:=World.block_lt_of_cell? _ _ hw153_1;first|rwa [add_block] at this|exact this) GW155.out)|(rw [add_block];exact Nat.ne_of_lt (Nat.lt_of_lt_of_le (by have:=World.block_lt_of_cell? _ _ hw153_1;first|rwa [add_block] at this|exact this) GW155.out))|(show (Addr.add _ _).block ≠ _;rw [add_block];exact Nat.ne_of_lt (Nat.lt_of_lt_of_le (by have:=World.block_lt_of_cell? _ _ hw153_1;first|rwa [add_block] at this|exact this) GW155.out))|(dsimp only;exact Nat.ne_of_lt (Nat.lt_of_lt_of_le (by have:=World.block_lt_of_cell? _ _ hw153_1;first|rwa [add_block] at this|exact this) GW155.out))) _).trans (hHeld.2.2.2.2.2.2.2.2.1)))))))))))),((cell_far (p:=⟨gb155,_,none⟩) (by first|exact Nat.ne_of_lt (Nat.lt_of_lt_of_le (by have:=World.block_lt_of_cell? _ _ hw153_2;first|rwa [add_block] at this|exact this) GW155.out)|(rw [add_block];exact Nat.ne_of_lt (Nat.lt_of_lt_of_le (by have:=World.block_lt_of_cell? _ _ hw153_2;first|rwa [add_block] at this|exact this) GW155.out))|(show (Addr.add _ _).block ≠ _;rw [add_block];exact Nat.ne_of_lt (Nat.lt_of_lt_of_le (by have:=World.block_lt_of_cell? _ _ hw153_2;first|rwa [add_block] at this|exact this) GW155.out))|(dsimp only;exact Nat.ne_of_lt (Nat.lt_of_lt_of_le (by have:=World.block_lt_of_cell? _ _ hw153_2;first|rwa [add_block] at this|exact this) GW155.out))) _).trans (((cell_far (p:=⟨gb155,_,none⟩) (by first|exact Nat.ne_of_lt (Nat.lt_of_lt_of_le (by have:=World.block_lt_of_cell? _ _ hw153_2;first|rwa [add_block] at this|exact this) GW155.out)|(rw [add_block];exact Nat.ne_of_lt (Nat.lt_of_lt_of_le (by have:=World.block_lt_of_cell? _ _ hw153_2;first|rwa [add_block] at this|exact this) GW155.out))|(show (Addr.add _ _).block ≠ _;rw [add_block];exact Nat.ne_of_lt (Nat.lt_of_lt_of_le (by have:=World.block_lt_of_cell? _ _ hw153_2;first|rwa [add_block] at this|exact this) GW155.out))|(dsimp only;exact Nat.ne_of_lt (Nat.lt_of_lt_of_le (by have:=World.block_lt_of_cell? _ _ hw153_2;first|rwa [add_block] at this|exact this) GW155.out))) _).trans (((cell_far (p:=⟨gb155,_,none⟩) (by first|exact Nat.ne_of_lt (Nat.lt_of_lt_of_le (by have:=World.block_lt_of_cell? _ _ hw153_2;first|rwa [add_block] at this|exact this) GW155.out)|(rw [add_block];exact Nat.ne_of_lt (Nat.lt_of_lt_of_le (by have:=World.block_lt_of_cell? _ _ hw153_2;first|rwa [add_block] at this|exact this) GW155.out))|(show (Addr.add _ _).block ≠ _;rw [add_block];exact Nat.ne_of_lt (Nat.lt_of_lt_of_le (by have:=World.block_lt_of_cell? _ _ hw153_2;first|rwa [add_block] at this|exact this) GW155.out))|(dsimp only;exact Nat.ne_of_lt (Nat.lt_of_lt_of_le (by have:=World.block_lt_of_cell? _ _ hw153_2;first|rwa [add_block] at this|exact this) GW155.out))) _).trans (((cell_far (p:=⟨gb155,_,none⟩) (by first|exact Nat.ne_of_lt (Nat.lt_of_lt_of_le (by have:=World.block_lt_of_cell? _ _ hw153_2;first|rwa [add_block] at this|exact this) GW155.out)|(rw [add_block];exact Nat.ne_of_lt (Nat.lt_of_lt_of_le (by have:=World.block_lt_of_cell? _ _ hw153_2;first|rwa [add_block] at this|exact this) GW155.out))|(show (Addr.add _ _).block ≠ _;rw [add_block];exact Nat.ne_of_lt (Nat.lt_of_lt_of_le (by have:=World.block_lt_of_cell? _ _ hw153_2;first|rwa [add_block] at this|exact this) GW155.out))|(dsimp only;exact Nat.ne_of_lt (Nat.lt_of_lt_of_le (by have:=World.block_lt_of_cell? _ _ hw153_2;first|rwa [add_block] at this|exact this) GW155.out))) _).trans (((cell_far (p:=⟨gb155,_,none⟩) (by first|exact Nat.ne_of_lt (Nat.lt_of_lt_of_le (by have:=World.block_lt_of_cell? _ _ hw153_2;first|rwa [add_block] at this|exact this) GW155.out)|(rw [add_block];exact Nat.ne_of_lt (Nat.lt_of_lt_of_le (by have:=World.block_lt_of_cell? _ _ hw153_2;first|rwa [add_block] at this|exact this) GW155.out))|(show (Addr.add _ _).block ≠ _;rw [add_block];exact Nat.ne_of_lt (Nat.lt_of_lt_of_le (by have:=World.block_lt_of_cell? _ _ hw153_2;first|rwa [add_block] at this|exact this) GW155.out))|(dsimp only;exact Nat.ne_of_lt (Nat.lt_of_lt_of_le (by have:=World.block_lt_of_cell? _ _ hw153_2;first|rwa [add_block] at this|exact this) GW155.out))) _).trans (((cell_far (p:=⟨gb155,_,none⟩) (by first|exact Nat.ne_of_lt (Nat.lt_of_lt_of_le (by have:=World.block_lt_of_cell? _ _ hw153_2;first|rwa [add_block] at this|exact this) GW155.out)|(rw [add_block];exact Nat.ne_of_lt (Nat.lt_of_lt_of_le (by have:=World.block_lt_of_cell? _ _ hw153_2;first|rwa [add_block] at this|exact this) GW155.out))|(show (Addr.add _ _).block ≠ _;rw [add_block];exact Nat.ne_of_lt (Nat.lt_of_lt_of_le (by have:=World.block_lt_of_cell? _ _ hw153_2;first|rwa [add_block] at this|exact this) GW155.out))|(dsimp only;exact Nat.ne_of_lt (Nat.lt_of_lt_of_le (by have:=World.block_lt_of_cell? _ _ hw153_2;first|rwa [add_block] at this|exact this) GW155.out))) _).trans (hHeld.2.2.2.2.2.2.2.2.2.1)))))))))))),((cell_far (p:=⟨gb155,_,none⟩) (by first|exact Nat.ne_of_lt (Nat.lt_of_lt_of_le (by have:=World.block_lt_of_cell? _ _ hw153_3;first|rwa [add_block] at this|exact this) GW155.out)|(rw [add_block];exact Nat.ne_of_lt (Nat.lt_of_lt_of_le (by have:=World.block_lt_of_cell? _ _ hw153_3;first|rwa [add_block] at this|exact this) GW155.out))|(show (Addr.add _ _).block ≠ _;rw [add_block];exact Nat.ne_of_lt (Nat.lt_of_lt_of_le (by have:=World.block_lt_of_cell? _ _ hw153_3;first|rwa [add_block] at this|exact this) GW155.out))|(dsimp only;exact Nat.ne_of_lt (Nat.lt_of_lt_of_le (by have:=World.block_lt_of_cell? _ _ hw153_3;first|rwa [add_block] at this|exact this) GW155.out))) _).trans (((cell_far (p:=⟨gb155,_,none⟩) (by first|exact Nat.ne_of_lt (Nat.lt_of_lt_of_le (by have:=World.block_lt_of_cell? _ _ hw153_3;first|rwa [add_block] at this|exact this) GW155.out)|(rw [add_block];exact Nat.ne_of_lt (Nat.lt_of_lt_of_le (by have:=World.block_lt_of_cell? _ _ hw153_3;first|rwa [add_block] at this|exact this) GW155.out))|(show (Addr.add _ _).block ≠ _;rw [add_block];exact Nat.ne_of_lt (Nat.lt_of_lt_of_le (by have:=World.block_lt_of_cell? _ _ hw153_3;first|rwa [add_block] at this|exact this) GW155.out))|(dsimp only;exact Nat.ne_of_lt (Nat.lt_of_lt_of_le (by have:=World.block_lt_of_cell? _ _ hw153_3;first|rwa [add_block] at this|exact this) GW155.out))) _).trans (((cell_far (p:=⟨gb155,_,none⟩) (by first|exact Nat.ne_of_lt (Nat.lt_of_lt_of_le (by have:=World.block_lt_of_cell? _ _ hw153_3;first|rwa [add_block] at this|exact this) GW155.out)|(rw [add_block];exact Nat.ne_of_lt (Nat.lt_of_lt_of_le (by have:=World.block_lt_of_cell? _ _ hw153_3;first|rwa [add_block] at this|exact this) GW155.out))|(show (Addr.add _ _).block ≠ _;rw [add_block];exact Nat.ne_of_lt (Nat.lt_of_lt_of_le (by have:=World.block_lt_of_cell? _ _ hw153_3;first|rwa [add_block] at this|exact this) GW155.out))|(dsimp only;exact Nat.ne_of_lt (Nat.lt_of_lt_of_le (by have:=World.block_lt_of_cell? _ _ hw153_3;first|rwa [add_block] at this|exact this) GW155.out))) _).trans (((cell_far (p:=⟨gb155,_,none⟩) (by first|exact Nat.ne_of_lt (Nat.lt_of_lt_of_le (by have:=World.block_lt_of_cell? _ _ hw153_3;first|rwa [add_block] at this|exact this) GW155.out)|(rw [add_block];exact Nat.ne_of_lt (Nat.lt_of_lt_of_le (by have:=World.block_lt_of_cell? _ _ hw153_3;first|rwa [add_block] at this|exact this) GW155.out))|(show (Addr.add _ _).block ≠ _;rw [add_block];exact Nat.ne_of_lt (Nat.lt_of_lt_of_le (by have:=World.block_lt_of_cell? _ _ hw153_3;first|rwa [add_block] at this|exact this) GW155.out))|(dsimp only;exact Nat.ne_of_lt (Nat.lt_of_lt_of_le (by have:=World.block_lt_of_cell? _ _ hw153_3;first|rwa [add_block] at this|exact this) GW155.out))) _).trans (((cell_far (p:=⟨gb155,_,none⟩) (by first|exact Nat.ne_of_lt (Nat.lt_of_lt_of_le (by have:=World.block_lt_of_cell? _ _ hw153_3;first|rwa [add_block] at this|exact this) GW155.out)|(rw [add_block];exact Nat.ne_of_lt (Nat.lt_of_lt_of_le (by have:=World.block_lt_of_cell? _ _ hw153_3;first|rwa [add_block] at this|exact this) GW155.out))|(show (Addr.add _ _).block ≠ _;rw [add_block];exact Nat.ne_of_lt (Nat.lt_of_lt_of_le (by have:=World.block_lt_of_cell? _ _ hw153_3;first|rwa [add_block] at this|exact this) GW155.out))|(dsimp only;exact Nat.ne_of_lt (Nat.lt_of_lt_of_le (by have:=World.block_lt_of_cell? _ _ hw153_3;first|rwa [add_block] at this|exact this) GW155.out))) _).trans (((cell_far (p:=⟨gb155,_,none⟩) (by first|exact Nat.ne_of_lt (Nat.lt_of_lt_of_le (by have:=World.block_lt_of_cell? _ _ hw153_3;first|rwa [add_block] at this|exact this) GW155.out)|(rw [add_block];exact Nat.ne_of_lt (Nat.lt_of_lt_of_le (by have:=World.block_lt_of_cell? _ _ hw153_3;first|rwa [add_block] at this|exact this) GW155.out))|(show (Addr.add _ _).block ≠ _;rw [add_block];exact Nat.ne_of_lt (Nat.lt_of_lt_of_le (by have:=World.block_lt_of_cell? _ _ hw153_3;first|rwa [add_block] at this|exact this) GW155.out))|(dsimp only;exact Nat.ne_of_lt (Nat.lt_of_lt_of_le (by have:=World.block_lt_of_cell? _ _ hw153_3;first|rwa [add_block] at this|exact this) GW155.out))) _).trans (hHeld.2.2.2.2.2.2.2.2.2.2.1)))))))))))),((cell_far (p:=⟨gb155,_,none⟩) (by first|exact Nat.ne_of_lt (Nat.lt_of_lt_of_le (by have:=World.block_lt_of_cell? _ _ hw153_4;first|rwa [add_block] at this|exact this) GW155.out)|(rw [add_block];exact Nat.ne_of_lt (Nat.lt_of_lt_of_le (by have:=World.block_lt_of_cell? _ _ hw153_4;first|rwa [add_block] at this|exact this) GW155.out))|(show (Addr.add _ _).block ≠ _;rw [add_block];exact Nat.ne_of_lt (Nat.lt_of_lt_of_le (by have:=World.block_lt_of_cell? _ _ hw153_4;first|rwa [add_block] at this|exact this) GW155.out))|(dsimp only;exact Nat.ne_of_lt (Nat.lt_of_lt_of_le (by have:=World.block_lt_of_cell? _ _ hw153_4;first|rwa [add_block] at this|exact this) GW155.out))) _).trans (((cell_far (p:=⟨gb155,_,none⟩) (by first|exact Nat.ne_of_lt (Nat.lt_of_lt_of_le (by have:=World.block_lt_of_cell? _ _ hw153_4;first|rwa [add_block] at this|exact this) GW155.out)|(rw [add_block];exact Nat.ne_of_lt (Nat.lt_of_lt_of_le (by have:=World.block_lt_of_cell? _ _ hw153_4;first|rwa [add_block] at this|exact this) GW155.out))|(show (Addr.add _ _).block ≠ _;rw [add_block];exact Nat.ne_of_lt (Nat.lt_of_lt_of_le (by have:=World.block_lt_of_cell? _ _ hw153_4;first|rwa [add_block] at this|exact this) GW155.out))|(dsimp only;exact Nat.ne_of_lt (Nat.lt_of_lt_of_le (by have:=World.block_lt_of_cell? _ _ hw153_4;first|rwa [add_block] at this|exact this) GW155.out))) _).trans (((cell_far (p:=⟨gb155,_,none⟩) (by first|exact Nat.ne_of_lt (Nat.lt_of_lt_of_le (by have:=World.block_lt_of_cell? _ _ hw153_4;first|rwa [add_block] at this|exact this) GW155.out)|(rw [add_block];exact Nat.ne_of_lt (Nat.lt_of_lt_of_le (by have:=World.block_lt_of_cell? _ _ hw153_4;first|rwa [add_block] at this|exact this) GW155.out))|(show (Addr.add _ _).block ≠ _;rw [add_block];exact Nat.ne_of_lt (Nat.lt_of_lt_of_le (by have:=World.block_lt_of_cell? _ _ hw153_4;first|rwa [add_block] at this|exact this) GW155.out))|(dsimp only;exact Nat.ne_of_lt (Nat.lt_of_lt_of_le (by have:=World.block_lt_of_cell? _ _ hw153_4;first|rwa [add_block] at this|exact this) GW155.out))) _).trans (((cell_far (p:=⟨gb155,_,none⟩) (by first|exact Nat.ne_of_lt (Nat.lt_of_lt_of_le (by have:=World.block_lt_of_cell? _ _ hw153_4;first|rwa [add_block] at this|exact this) GW155.out)|(rw [add_block];exact Nat.ne_of_lt (Nat.lt_of_lt_of_le (by have:=World.block_lt_of_cell? _ _ hw153_4;first|rwa [add_block] at this|exact this) GW155.out))|(show (Addr.add _ _).block ≠ _;rw [add_block];exact Nat.ne_of_lt (Nat.lt_of_lt_of_le (by have:=World.block_lt_of_cell? _ _ hw153_4;first|rwa [add_block] at this|exact this) GW155.out))|(dsimp only;exact Nat.ne_of_lt (Nat.lt_of_lt_of_le (by have:=World.block_lt_of_cell? _ _ hw153_4;first|rwa [add_block] at this|exact this) GW155.out))) _).trans (((cell_far (p:=⟨gb155,_,none⟩) (by first|exact Nat.ne_of_lt (Nat.lt_of_lt_of_le (by have:=World.block_lt_of_cell? _ _ hw153_4;first|rwa [add_block] at this|exact this) GW155.out)|(rw [add_block];exact Nat.ne_of_lt (Nat.lt_of_lt_of_le (by have:=World.block_lt_of_cell? _ _ hw153_4;first|rwa [add_block] at this|exact this) GW155.out))|(show (Addr.add _ _).block ≠ _;rw [add_block];exact Nat.ne_of_lt (Nat.lt_of_lt_of_le (by have:=World.block_lt_of_cell? _ _ hw153_4;first|rwa [add_block] at this|exact this) GW155.out))|(dsimp only;exact Nat.ne_of_lt (Nat.lt_of_lt_of_le (by have:=World.block_lt_of_cell? _ _ hw153_4;first|rwa [add_block] at this|exact this) GW155.out))) _).trans (((cell_far (p:=⟨gb155,_,none⟩) (by first|exact Nat.ne_of_lt (Nat.lt_of_lt_of_le (by have:=World.block_lt_of_cell? _ _ hw153_4;first|rwa [add_block] at this|exact this) GW155.out)|(rw [add_block];exact Nat.ne_of_lt (Nat.lt_of_lt_of_le (by have:=World.block_lt_of_cell? _ _ hw153_4;first|rwa [add_block] at this|exact this) GW155.out))|(show (Addr.add _ _).block ≠ _;rw [add_block];exact Nat.ne_of_lt (Nat.lt_of_lt_of_le (by have:=World.block_lt_of_cell? _ _ hw153_4;first|rwa [add_block] at this|exact this) GW155.out))|(dsimp only;exact Nat.ne_of_lt (Nat.lt_of_lt_of_le (by have:=World.block_lt_of_cell? _ _ hw153_4;first|rwa [add_block] at this|exact this) GW155.out))) _).trans (hHeld.2.2.2.2.2.2.2.2.2.2.2.1)))))))))))),((cell_far (p:=⟨gb155,_,none⟩) (by first|exact Nat.ne_of_lt (Nat.lt_of_lt_of_le (by have:=World.block_lt_of_cell? _ _ hw153_5;first|rwa [add_block] at this|exact this) GW155.out)|(rw [add_block];exact Nat.ne_of_lt (Nat.lt_of_lt_of_le (by have:=World.block_lt_of_cell? _ _ hw153_5;first|rwa [add_block] at this|exact this) GW155.out))|(show (Addr.add _ _).block ≠ _;rw [add_block];exact Nat.ne_of_lt (Nat.lt_of_lt_of_le (by have:=World.block_lt_of_cell? _ _ hw153_5;first|rwa [add_block] at this|exact this) GW155.out))|(dsimp only;exact Nat.ne_of_lt (Nat.lt_of_lt_of_le (by have:=World.block_lt_of_cell? _ _ hw153_5;first|rwa [add_block] at this|exact this) GW155.out))) _).trans (((cell_far (p:=⟨gb155,_,none⟩) (by first|exact Nat.ne_of_lt (Nat.lt_of_lt_of_le (by have:=World.block_lt_of_cell? _ _ hw153_5;first|rwa [add_block] at this|exact this) GW155.out)|(rw [add_block];exact Nat.ne_of_lt (Nat.lt_of_lt_of_le (by have:=World.block_lt_of_cell? _ _ hw153_5;first|rwa [add_block] at this|exact this) GW155.out))|(show (Addr.add _ _).block ≠ _;rw [add_block];exact Nat.ne_of_lt (Nat.lt_of_lt_of_le (by have:=World.block_lt_of_cell? _ _ hw153_5;first|rwa [add_block] at this|exact this) GW155.out))|(dsimp only;exact Nat.ne_of_lt (Nat.lt_of_lt_of_le (by have:=World.block_lt_of_cell? _ _ hw153_5;first|rwa [add_block] at this|exact this) GW155.out))) _).trans (((cell_far (p:=⟨gb155,_,none⟩) (by first|exact Nat.ne_of_lt (Nat.lt_of_lt_of_le (by have:=World.block_lt_of_cell? _ _ hw153_5;first|rwa [add_block] at this|exact this) GW155.out)|(rw [add_block];exact Nat.ne_of_lt (Nat.lt_of_lt_of_le (by have:=World.block_lt_of_cell? _ _ hw153_5;first|rwa [add_block] at this|exact this) GW155.out))|(show (Addr.add _ _).block ≠ _;rw [add_block];exact Nat.ne_of_lt (Nat.lt_of_lt_of_le (by have:=World.block_lt_of_cell? _ _ hw153_5;first|rwa [add_block] at this|exact this) GW155.out))|(dsimp only;exact Nat.ne_of_lt (Nat.lt_of_lt_of_le (by have:=World.block_lt_of_cell? _ _ hw153_5;first|rwa [add_block] at this|exact this) GW155.out))) _).trans (((cell_far (p:=⟨gb155,_,none⟩) (by first|exact Nat.ne_of_lt (Nat.lt_of_lt_of_le (by have:=World.block_lt_of_cell? _ _ hw153_5;first|rwa [add_block] at this|exact this) GW155.out)|(rw [add_block];exact Nat.ne_of_lt (Nat.lt_of_lt_of_le (by have:=World.block_lt_of_cell? _ _ hw153_5;first|rwa [add_block] at this|exact this) GW155.out))|(show (Addr.add _ _).block ≠ _;rw [add_block];exact Nat.ne_of_lt (Nat.lt_of_lt_of_le (by have:=World.block_lt_of_cell? _ _ hw153_5;first|rwa [add_block] at this|exact this) GW155.out))|(dsimp only;exact Nat.ne_of_lt (Nat.lt_of_lt_of_le (by have:=World.block_lt_of_cell? _ _ hw153_5;first|rwa [add_block] at this|exact this) GW155.out))) _).trans (((cell_far (p:=⟨gb155,_,none⟩) (by first|exact Nat.ne_of_lt (Nat.lt_of_lt_of_le (by have:=World.block_lt_of_cell? _ _ hw153_5;first|rwa [add_block] at this|exact this) GW155.out)|(rw [add_block];exact Nat.ne_of_lt (Nat.lt_of_lt_of_le (by have:=World.block_lt_of_cell? _ _ hw153_5;first|rwa [add_block] at this|exact this) GW155.out))|(show (Addr.add _ _).block ≠ _;rw [add_block];exact Nat.ne_of_lt (Nat.lt_of_lt_of_le (by have:=World.block_lt_of_cell? _ _ hw153_5;first|rwa [add_block] at this|exact this) GW155.out))|(dsimp only;exact Nat.ne_of_lt (Nat.lt_of_lt_of_le (by have:=World.block_lt_of_cell? _ _ hw153_5;first|rwa [add_block] at this|exact this) GW155.out))) _).trans (((cell_far (p:=⟨gb155,_,none⟩) (by first|exact Nat.ne_of_lt (Nat.lt_of_lt_of_le (by have:=World.block_lt_of_cell? _ _ hw153_5;first|rwa [add_block] at this|exact this) GW155.out)|(rw [add_block];exact Nat.ne_of_lt (Nat.lt_of_lt_of_le (by have:=World.block_lt_of_cell? _ _ hw153_5;first|rwa [add_block] at this|exact this) GW155.out))|(show (Addr.add _ _).block ≠ _;rw [add_block];exact Nat.ne_of_lt (Nat.lt_of_lt_of_le (by have:=World.block_lt_of_cell? _ _ hw153_5;first|rwa [add_block] at this|exact this) GW155.out))|(dsimp only;exact Nat.ne_of_lt (Nat.lt_of_lt_of_le (by have:=World.block_lt_of_cell? _ _ hw153_5;first|rwa [add_block] at this|exact this) GW155.out))) _).trans (hHeld.2.2.2.2.2.2.2.2.2.2.2.2))))))))))))⟩ (fun hHeld => ?_)
   clear hK K
   refine pure_ (i:=12) (N:=some 6) (v:=?_) (a':=?_) #[T,T,T,T,T,T,T,T,T,T,T,T,T] rfl rfl (any_of HT_.out (by kernel_rfl)) (fun _ _ _ h => h) (Or.inl ⟨by rfl,?_⟩) ?_ ?_
   rotate_left
   ·
    intro w'
    go_simp
    with_reducible rfl
   rotate_left
   ·
    simp only [Act.put,List.setIfInBounds_toArray,List.set_cons_zero,List.set_cons_succ,i64_w,i32_w]
    rfl
   refine done_ (done_of HT_.out (by kernel_rfl)) ?_
   go_upto_region 2 with (fail)
   go_cut [45] (fun v45 wc => ∃ (kq : Nat) (x45_5 : Bool) (x1000_5 : Int) (x1001_5 : Int) (x1002_5 : Int) (x1004_5 : Int) (x1005_5 : Int),v45 = .bool x45_5 ∧ Aside0 (impl_Ls_hostOk.j0 kq x45_5 ((rd_T50 l0_6 a1).f0) ((rd_T50 l0_6 a1).f1) ((rd_T50 l0_6 a1).f2) ((rd_T50 l0_6 a1).f3) ((rd_T50 l0_6 a1).f4) ((rd_T50 l0_6 a1).f5) = some r) ∧ Aside0 (kq ≤ k) ∧ Aside0 (wc.heap[gq0]? = some (.cells #[.int .i64 x1000_5,.int .i64 x1001_5,.int .i64 x1002_5,(.slice A0_3 l0_3.length c0_3),.int .i64 x1004_5,.int .i64 x1005_5,(.slice (some ad153) l0_6.length c0_6)] 30 (0,0))) ∧ Aside0 (wc.heap[gb155]? = some (.cells #[.bool ((rd_T50 l0_6 a1).f0),.int .i64 ((rd_T50 l0_6 a1).f1),.bool ((rd_T50 l0_6 a1).f2),.int .i64 ((rd_T50 l0_6 a1).f3),.int .i64 ((rd_T50 l0_6 a1).f4),.int .i64 ((rd_T50 l0_6 a1).f5)] 50 (0,0))) ∧ Aside0 (Below w.heap.size w wc))
   case first =>
    have H:=HC6.out
    clear HC6
    replace H:=Option.bind_eq_some_iff.mp H
    obtain ⟨t156,A160,H⟩:=H
    replace H : (if t156 = true then ((impl_in.f ((rd_T50 l0_6 a1).f5) 0 t154).bind fun t157 => (if t157 = true then ((impl_Ls_isOwner.f a0_0 a0_1 a0_2 l0_3 a0_4 a0_5 l0_6 ((rd_T50 l0_6 a1).f3)).bind fun t158 => (if t158 = true then ((impl_in.f ((rd_T50 l0_6 a1).f4) 0 a0_5).bind fun t159 => (impl_Ls_hostOk.j0 k (!t159) ((rd_T50 l0_6 a1).f0) ((rd_T50 l0_6 a1).f1) ((rd_T50 l0_6 a1).f2) ((rd_T50 l0_6 a1).f3) ((rd_T50 l0_6 a1).f4) ((rd_T50 l0_6 a1).f5))) else (impl_Ls_hostOk.j0 k true ((rd_T50 l0_6 a1).f0) ((rd_T50 l0_6 a1).f1) ((rd_T50 l0_6 a1).f2) ((rd_T50 l0_6 a1).f3) ((rd_T50 l0_6 a1).f4) ((rd_T50 l0_6 a1).f5)))) else (impl_Ls_hostOk.j0 k true ((rd_T50 l0_6 a1).f0) ((rd_T50 l0_6 a1).f1) ((rd_T50 l0_6 a1).f2) ((rd_T50 l0_6 a1).f3) ((rd_T50 l0_6 a1).f4) ((rd_T50 l0_6 a1).f5)))) else (impl_Ls_hostOk.j0 k true ((rd_T50 l0_6 a1).f0) ((rd_T50 l0_6 a1).f1) ((rd_T50 l0_6 a1).f2) ((rd_T50 l0_6 a1).f3) ((rd_T50 l0_6 a1).f4) ((rd_T50 l0_6 a1).f5))) = some r:=H
    have A16:=Aside0.mk A160
    clear A160
    by_cases c17 : t156 = true
    ·
     subst c17
     have H1 : ((impl_in.f ((rd_T50 l0_6 a1).f5) 0 t154).bind fun t157 => (if t157 = true then ((impl_Ls_isOwner.f a0_0 a0_1 a0_2 l0_3 a0_4 a0_5 l0_6 ((rd_T50 l0_6 a1).f3)).bind fun t158 => (if t158 = true then ((impl_in.f ((rd_T50 l0_6 a1).f4) 0 a0_5).bind fun t159 => (impl_Ls_hostOk.j0 k (!t159) ((rd_T50 l0_6 a1).f0) ((rd_T50 l0_6 a1).f1) ((rd_T50 l0_6 a1).f2) ((rd_T50 l0_6 a1).f3) ((rd_T50 l0_6 a1).f4) ((rd_T50 l0_6 a1).f5))) else (impl_Ls_hostOk.j0 k true ((rd_T50 l0_6 a1).f0) ((rd_T50 l0_6 a1).f1) ((rd_T50 l0_6 a1).f2) ((rd_T50 l0_6 a1).f3) ((rd_T50 l0_6 a1).f4) ((rd_T50 l0_6 a1).f5)))) else (impl_Ls_hostOk.j0 k true ((rd_T50 l0_6 a1).f0) ((rd_T50 l0_6 a1).f1) ((rd_T50 l0_6 a1).f2) ((rd_T50 l0_6 a1).f3) ((rd_T50 l0_6 a1).f4) ((rd_T50 l0_6 a1).f5)))) = some r:=by rw [if_pos rfl] at H;exact H
     clear H
     have H:=H1
     clear H1
     replace H:=Option.bind_eq_some_iff.mp H
     obtain ⟨t157,A180,H⟩:=H
     replace H : (if t157 = true then ((impl_Ls_isOwner.f a0_0 a0_1 a0_2 l0_3 a0_4 a0_5 l0_6 ((rd_T50 l0_6 a1).f3)).bind fun t158 => (if t158 = true then ((impl_in.f ((rd_T50 l0_6 a1).f4) 0 a0_5).bind fun t159 => (impl_Ls_hostOk.j0 k (!t159) ((rd_T50 l0_6 a1).f0) ((rd_T50 l0_6 a1).f1) ((rd_T50 l0_6 a1).f2) ((rd_T50 l0_6 a1).f3) ((rd_T50 l0_6 a1).f4) ((rd_T50 l0_6 a1).f5))) else (impl_Ls_hostOk.j0 k true ((rd_T50 l0_6 a1).f0) ((rd_T50 l0_6 a1).f1) ((rd_T50 l0_6 a1).f2) ((rd_T50 l0_6 a1).f3) ((rd_T50 l0_6 a1).f4) ((rd_T50 l0_6 a1).f5)))) else (impl_Ls_hostOk.j0 k true ((rd_T50 l0_6 a1).f0) ((rd_T50 l0_6 a1).f1) ((rd_T50 l0_6 a1).f2) ((rd_T50 l0_6 a1).f3) ((rd_T50 l0_6 a1).f4) ((rd_T50 l0_6 a1).f5))) = some r:=H
     have A18:=Aside0.mk A180
     clear A180
     by_cases c19 : t157 = true
     ·
      subst c19
      have H1 : ((impl_Ls_isOwner.f a0_0 a0_1 a0_2 l0_3 a0_4 a0_5 l0_6 ((rd_T50 l0_6 a1).f3)).bind fun t158 => (if t158 = true then ((impl_in.f ((rd_T50 l0_6 a1).f4) 0 a0_5).bind fun t159 => (impl_Ls_hostOk.j0 k (!t159) ((rd_T50 l0_6 a1).f0) ((rd_T50 l0_6 a1).f1) ((rd_T50 l0_6 a1).f2) ((rd_T50 l0_6 a1).f3) ((rd_T50 l0_6 a1).f4) ((rd_T50 l0_6 a1).f5))) else (impl_Ls_hostOk.j0 k true ((rd_T50 l0_6 a1).f0) ((rd_T50 l0_6 a1).f1) ((rd_T50 l0_6 a1).f2) ((rd_T50 l0_6 a1).f3) ((rd_T50 l0_6 a1).f4) ((rd_T50 l0_6 a1).f5)))) = some r:=by rw [if_pos rfl] at H;exact H
      clear H
      have H:=H1
      clear H1
      replace H:=Option.bind_eq_some_iff.mp H
      obtain ⟨t158,A200,H⟩:=H
      replace H : (if t158 = true then ((impl_in.f ((rd_T50 l0_6 a1).f4) 0 a0_5).bind fun t159 => (impl_Ls_hostOk.j0 k (!t159) ((rd_T50 l0_6 a1).f0) ((rd_T50 l0_6 a1).f1) ((rd_T50 l0_6 a1).f2) ((rd_T50 l0_6 a1).f3) ((rd_T50 l0_6 a1).f4) ((rd_T50 l0_6 a1).f5))) else (impl_Ls_hostOk.j0 k true ((rd_T50 l0_6 a1).f0) ((rd_T50 l0_6 a1).f1) ((rd_T50 l0_6 a1).f2) ((rd_T50 l0_6 a1).f3) ((rd_T50 l0_6 a1).f4) ((rd_T50 l0_6 a1).f5))) = some r:=H
      have A20:=Aside0.mk A200
      clear A200
      by_cases c21 : t158 = true
      ·
       subst c21
       have H1 : ((impl_in.f ((rd_T50 l0_6 a1).f4) 0 a0_5).bind fun t159 => (impl_Ls_hostOk.j0 k (!t159) ((rd_T50 l0_6 a1).f0) ((rd_T50 l0_6 a1).f1) ((rd_T50 l0_6 a1).f2) ((rd_T50 l0_6 a1).f3) ((rd_T50 l0_6 a1).f4) ((rd_T50 l0_6 a1).f5))) = some r:=by rw [if_pos rfl] at H;exact H
       clear H
       have H:=H1
       clear H1
       replace H:=Option.bind_eq_some_iff.mp H
       obtain ⟨t159,A220,H⟩:=H
       replace H : (impl_Ls_hostOk.j0 k (!t159) ((rd_T50 l0_6 a1).f0) ((rd_T50 l0_6 a1).f1) ((rd_T50 l0_6 a1).f2) ((rd_T50 l0_6 a1).f3) ((rd_T50 l0_6 a1).f4) ((rd_T50 l0_6 a1).f5)) = some r:=H
       have A22:=Aside0.mk A220
       clear A220
       have H':=Aside0.mk H
       clear H
       try go_wp2
       have n0_ : Aside0 (((((((w9.setCell ⟨gb155,0,none⟩ (.bool ((rd_T50 l0_6 a1).f0))).setCell ⟨gb155,1,none⟩ (.int .i64 ((rd_T50 l0_6 a1).f1))).setCell ⟨gb155,2,none⟩ (.bool ((rd_T50 l0_6 a1).f2))).setCell ⟨gb155,3,none⟩ (.int .i64 ((rd_T50 l0_6 a1).f3))).setCell ⟨gb155,4,none⟩ (.int .i64 ((rd_T50 l0_6 a1).f4))).setCell ⟨gb155,5,none⟩ (.int .i64 ((rd_T50 l0_6 a1).f5))).heap[gq0]? = some (.cells #[.int .i64 a0_0,.int .i64 a0_1,.int .i64 a0_2,.slice A0_3 l0_3.length c0_3,.int .i64 a0_4,.int .i64 a0_5,.slice (some ad153) l0_6.length c0_6] 30 (0,0))):=⟨by (with_reducible repeat (first|refine blk_drewN ?_ _|refine blk_drew ?_|refine blk_alloc ?_ _));refine blk_far ?_ NB0_155.out _;(with_reducible repeat (first|refine blk_drewN ?_ _|refine blk_drew ?_|refine blk_alloc ?_ _));refine blk_far ?_ NB0_155.out _;(with_reducible repeat (first|refine blk_drewN ?_ _|refine blk_drew ?_|refine blk_alloc ?_ _));refine blk_far ?_ NB0_155.out _;(with_reducible repeat (first|refine blk_drewN ?_ _|refine blk_drew ?_|refine blk_alloc ?_ _));refine blk_far ?_ NB0_155.out _;(with_reducible repeat (first|refine blk_drewN ?_ _|refine blk_drew ?_|refine blk_alloc ?_ _));refine blk_far ?_ NB0_155.out _;(with_reducible repeat (first|refine blk_drewN ?_ _|refine blk_drew ?_|refine blk_alloc ?_ _));refine blk_far ?_ NB0_155.out _;(with_reducible repeat (first|refine blk_drewN ?_ _|refine blk_drew ?_|refine blk_alloc ?_ _));exact BK0.out⟩
       have n1_ : Aside0 (((((((w9.setCell ⟨gb155,0,none⟩ (.bool ((rd_T50 l0_6 a1).f0))).setCell ⟨gb155,1,none⟩ (.int .i64 ((rd_T50 l0_6 a1).f1))).setCell ⟨gb155,2,none⟩ (.bool ((rd_T50 l0_6 a1).f2))).setCell ⟨gb155,3,none⟩ (.int .i64 ((rd_T50 l0_6 a1).f3))).setCell ⟨gb155,4,none⟩ (.int .i64 ((rd_T50 l0_6 a1).f4))).setCell ⟨gb155,5,none⟩ (.int .i64 ((rd_T50 l0_6 a1).f5))).heap[gb155]? = some (.cells #[.bool ((rd_T50 l0_6 a1).f0),.int .i64 ((rd_T50 l0_6 a1).f1),.bool ((rd_T50 l0_6 a1).f2),.int .i64 ((rd_T50 l0_6 a1).f3),.int .i64 ((rd_T50 l0_6 a1).f4),.int .i64 ((rd_T50 l0_6 a1).f5)] 50 (0,0))):=⟨by (with_reducible repeat (first|refine blk_drewN ?_ _|refine blk_drew ?_|refine blk_alloc ?_ _));refine blk_put (cs:=#[.bool ((rd_T50 l0_6 a1).f0),.int .i64 ((rd_T50 l0_6 a1).f1),.bool ((rd_T50 l0_6 a1).f2),.int .i64 ((rd_T50 l0_6 a1).f3),.int .i64 ((rd_T50 l0_6 a1).f4),.int .i64 0]) ?_ 5 _ rfl;(with_reducible repeat (first|refine blk_drewN ?_ _|refine blk_drew ?_|refine blk_alloc ?_ _));refine blk_put (cs:=#[.bool ((rd_T50 l0_6 a1).f0),.int .i64 ((rd_T50 l0_6 a1).f1),.bool ((rd_T50 l0_6 a1).f2),.int .i64 ((rd_T50 l0_6 a1).f3),.int .i64 0,.int .i64 0]) ?_ 4 _ rfl;(with_reducible repeat (first|refine blk_drewN ?_ _|refine blk_drew ?_|refine blk_alloc ?_ _));refine blk_put (cs:=#[.bool ((rd_T50 l0_6 a1).f0),.int .i64 ((rd_T50 l0_6 a1).f1),.bool ((rd_T50 l0_6 a1).f2),.int .i64 0,.int .i64 0,.int .i64 0]) ?_ 3 _ rfl;(with_reducible repeat (first|refine blk_drewN ?_ _|refine blk_drew ?_|refine blk_alloc ?_ _));refine blk_put (cs:=#[.bool ((rd_T50 l0_6 a1).f0),.int .i64 ((rd_T50 l0_6 a1).f1),.bool false,.int .i64 0,.int .i64 0,.int .i64 0]) ?_ 2 _ rfl;(with_reducible repeat (first|refine blk_drewN ?_ _|refine blk_drew ?_|refine blk_alloc ?_ _));refine blk_put (cs:=#[.bool ((rd_T50 l0_6 a1).f0),.int .i64 0,.bool false,.int .i64 0,.int .i64 0,.int .i64 0]) ?_ 1 _ rfl;(with_reducible repeat (first|refine blk_drewN ?_ _|refine blk_drew ?_|refine blk_alloc ?_ _));refine blk_put (cs:=#[.bool false,.int .i64 0,.bool false,.int .i64 0,.int .i64 0,.int .i64 0]) ?_ 0 _ rfl;(with_reducible repeat (first|refine blk_drewN ?_ _|refine blk_drew ?_|refine blk_alloc ?_ _));exact BK155.out⟩
       have n2_ : Aside0 (Below w.heap.size w ((((((w9.setCell ⟨gb155,0,none⟩ (.bool ((rd_T50 l0_6 a1).f0))).setCell ⟨gb155,1,none⟩ (.int .i64 ((rd_T50 l0_6 a1).f1))).setCell ⟨gb155,2,none⟩ (.bool ((rd_T50 l0_6 a1).f2))).setCell ⟨gb155,3,none⟩ (.int .i64 ((rd_T50 l0_6 a1).f3))).setCell ⟨gb155,4,none⟩ (.int .i64 ((rd_T50 l0_6 a1).f4))).setCell ⟨gb155,5,none⟩ (.int .i64 ((rd_T50 l0_6 a1).f5)))):=⟨by repeat (first|(with_reducible first|exact HB.out|apply below_alloc|apply pw_below_drewN|apply below_drew1|refine below_set ?_ GE0.out|refine below_set ?_ GE155.out)|exact HB.out)⟩
       (try clear BK0)
       (try clear BK155)
       (try clear HB)
       generalize ((((((w9.setCell ⟨gb155,0,none⟩ (.bool ((rd_T50 l0_6 a1).f0))).setCell ⟨gb155,1,none⟩ (.int .i64 ((rd_T50 l0_6 a1).f1))).setCell ⟨gb155,2,none⟩ (.bool ((rd_T50 l0_6 a1).f2))).setCell ⟨gb155,3,none⟩ (.int .i64 ((rd_T50 l0_6 a1).f3))).setCell ⟨gb155,4,none⟩ (.int .i64 ((rd_T50 l0_6 a1).f4))).setCell ⟨gb155,5,none⟩ (.int .i64 ((rd_T50 l0_6 a1).f5))) = w23 at n0_ n1_ n2_ ⊢
       have BK0:=n0_
       have BK155:=n1_
       have HB:=n2_
       clear n0_ n1_ n2_
       have n0_:=Aside0.mk (blk_drew BK0.out)
       have n1_:=Aside0.mk (blk_drew BK155.out)
       have n2_:=Aside0.mk (below_drew1 HB.out)
       clear BK0
       clear BK155
       clear HB
       have BK0:=n0_
       have BK155:=n1_
       have HB:=n2_
       clear n0_ n1_ n2_
       refine start_ (n:=29) (S:=fun w' => w'.cell? ⟨gb155,0,none⟩ = some (.bool ((rd_T50 l0_6 a1).f0)) ∧ w'.cell? ⟨gb155,1,none⟩ = some (.int .i64 ((rd_T50 l0_6 a1).f1)) ∧ w'.cell? ⟨gb155,2,none⟩ = some (.bool ((rd_T50 l0_6 a1).f2)) ∧ w'.cell? ⟨gb155,3,none⟩ = some (.int .i64 ((rd_T50 l0_6 a1).f3)) ∧ w'.cell? ⟨gb155,4,none⟩ = some (.int .i64 ((rd_T50 l0_6 a1).f4)) ∧ w'.cell? ⟨gb155,5,none⟩ = some (.int .i64 ((rd_T50 l0_6 a1).f5)) ∧ w'.cell? ⟨gq0,0,none⟩ = some (.int .i64 a0_0) ∧ w'.cell? ⟨gq0,1,none⟩ = some (.int .i64 a0_1) ∧ w'.cell? ⟨gq0,2,none⟩ = some (.int .i64 a0_2) ∧ w'.cell? ⟨gq0,3,none⟩ = some (.slice A0_3 l0_3.length c0_3) ∧ w'.cell? ⟨gq0,4,none⟩ = some (.int .i64 a0_4) ∧ w'.cell? ⟨gq0,5,none⟩ = some (.int .i64 a0_5) ∧ w'.cell? ⟨gq0,6,none⟩ = some (.slice (some ad153) l0_6.length c0_6)) (ds:=[]) #[F,F,F,F,F,F,F,F,F,F,F,F,F,F,F,F,F,F,F,F,F,F,F,F,F,F,F,F,F] (by kernel_rfl) rfl rfl ⟨(blk_cell BK155.out 0).trans rfl,(blk_cell BK155.out 1).trans rfl,(blk_cell BK155.out 2).trans rfl,(blk_cell BK155.out 3).trans rfl,(blk_cell BK155.out 4).trans rfl,(blk_cell BK155.out 5).trans rfl,(blk_cell BK0.out 0).trans rfl,(blk_cell BK0.out 1).trans rfl,(blk_cell BK0.out 2).trans rfl,(blk_cell BK0.out 3).trans rfl,(blk_cell BK0.out 4).trans rfl,(blk_cell BK0.out 5).trans rfl,(blk_cell BK0.out 6).trans rfl⟩ (fun hHeld => ?_)
       generalize w23.drew = w24 at BK0 BK155 HB hHeld ⊢
       refine pure_ (i:=0) (N:=some 17) (v:=?_) (a':=?_) #[T,F,F,F,F,F,F,F,F,F,F,F,F,F,F,F,F,F,F,F,F,F,F,F,F,F,F,F,F] rfl rfl (by kernel_rfl) (fun _ _ _ h => h) (Or.inl ⟨by rfl,?_⟩) ?_ ?_
       rotate_left
       ·
        intro w'
        go_simp
        with_reducible rfl
       rotate_left
       ·
        simp only [Act.put,List.setIfInBounds_toArray,List.set_cons_zero,List.set_cons_succ,i64_w,i32_w]
        rfl
       refine pure_ (i:=2) (N:=some 19) (v:=?_) (a':=?_) #[T,F,T,F,F,F,F,F,F,F,F,F,F,F,F,F,F,F,F,F,F,F,F,F,F,F,F,F,F] rfl rfl (by kernel_rfl) (fun _ _ _ h => h) (Or.inl ⟨by rfl,?_⟩) ?_ ?_
       rotate_left
       ·
        intro w'
        go_simp
        with_reducible rfl
       rotate_left
       ·
        simp only [Act.put,List.setIfInBounds_toArray,List.set_cons_zero,List.set_cons_succ,i64_w,i32_w]
        rfl
       refine take_ (i:=1) (N:=some 18) (v:=?_) (a':=?_) #[T,T,T,F,F,F,F,F,F,F,F,F,F,F,F,F,F,F,F,F,F,F,F,F,F,F,F,F,F] rfl rfl (by kernel_rfl) (fun _ _ _ h => h) (Or.inl ⟨by rfl,?_⟩) hHeld ?_ ?_
       rotate_left
       ·
        rintro w' ⟨s0,s1,s2,s3,s4,s5,s6,s7,s8,s9,s10,s11,s12⟩
        go_simp
        with_reducible rfl
       rotate_left
       ·
        simp only [Act.put,List.setIfInBounds_toArray,List.set_cons_zero,List.set_cons_succ,i64_w,i32_w]
        rfl
       refine one_ (i:=3) (N:=some 20) #[T,T,T,T,F,F,F,F,F,F,F,F,F,F,F,F,F,F,F,F,F,F,F,F,F,F,F,F,F] rfl rfl (by kernel_rfl) (by decide) (fun K hK => ?_)
       refine goes_ Try.func54 (by kernel_rfl) rfl #[.int .i64 ((rd_T50 l0_6 a1).f1),.int .i64 0,.int .i64 t154] (by rfl) rfl rfl (by (try simp only [List.map_toArray,List.map_cons,List.map_nil]);first|done|rfl|(simp only [List.length_drop,List.length_take];rfl)) ?_
       with_reducible refine (impl_in.calls ((rd_T50 l0_6 a1).f1) 0 t154 true _ A16.out).mono ?_
       rintro e w' ⟨rfl,⟨nd,rfl⟩⟩
       refine ⟨_,rfl,?_⟩
       refine hK.out _ _ ⟨(blk_cell BK155.out 0).trans rfl,(blk_cell BK155.out 1).trans rfl,(blk_cell BK155.out 2).trans rfl,(blk_cell BK155.out 3).trans rfl,(blk_cell BK155.out 4).trans rfl,(blk_cell BK155.out 5).trans rfl,(blk_cell BK0.out 0).trans rfl,(blk_cell BK0.out 1).trans rfl,(blk_cell BK0.out 2).trans rfl,(blk_cell BK0.out 3).trans rfl,(blk_cell BK0.out 4).trans rfl,(blk_cell BK0.out 5).trans rfl,(blk_cell BK0.out 6).trans rfl⟩ (fun hHeld => ?_)
       clear hK K
       refine norm_ (a':=?_) ?_ ?_
       rotate_left
       ·
        show Act.put _ (some 20) _ = _
        simp only [Act.put,List.setIfInBounds_toArray,List.set_cons_zero,List.set_cons_succ,i64_w,i32_w]
        rfl
       refine pure_ (i:=4) (N:=some 21) (v:=?_) (a':=?_) #[T,T,T,T,T,F,F,F,F,F,F,F,F,F,F,F,F,F,F,F,F,F,F,F,F,F,F,F,F] rfl rfl (by kernel_rfl) (fun _ _ _ h => h) (Or.inl ⟨by rfl,?_⟩) ?_ ?_
       rotate_left
       ·
        intro w'
        go_simp
        with_reducible rfl
       rotate_left
       ·
        simp only [Act.put,List.setIfInBounds_toArray,List.set_cons_zero,List.set_cons_succ,i64_w,i32_w]
        rfl
       refine pure_ (i:=5) (N:=some 22) (v:=?_) (a':=?_) #[T,T,T,T,T,T,F,F,F,F,F,F,F,F,F,F,F,F,F,F,F,F,F,F,F,F,F,F,F] rfl rfl (by kernel_rfl) (fun _ _ _ h => h) (Or.inl ⟨by rfl,?_⟩) ?_ ?_
       rotate_left
       ·
        intro w'
        go_simp
        with_reducible rfl
       rotate_left
       ·
        simp only [Act.put,List.setIfInBounds_toArray,List.set_cons_zero,List.set_cons_succ,i64_w,i32_w]
        rfl
       refine pure_ (i:=6) (N:=some 23) (v:=?_) (a':=?_) #[T,T,T,T,T,T,T,F,F,F,F,F,F,F,F,F,F,F,F,F,F,F,F,F,F,F,F,F,F] rfl rfl (by kernel_rfl) (fun _ _ _ h => h) (Or.inl ⟨by rfl,?_⟩) ?_ ?_
       rotate_left
       ·
        intro w'
        go_simp
        with_reducible rfl
       rotate_left
       ·
        simp only [Act.put,List.setIfInBounds_toArray,List.set_cons_zero,List.set_cons_succ,i64_w,i32_w]
        rfl
       refine pure_ (i:=8) (N:=some 25) (v:=?_) (a':=?_) #[T,T,T,T,T,T,T,F,T,F,F,F,F,F,F,F,F,F,F,F,F,F,F,F,F,F,F,F,F] rfl rfl (by kernel_rfl) (fun _ _ _ h => h) (Or.inl ⟨by rfl,?_⟩) ?_ ?_
       rotate_left
       ·
        intro w'
        go_simp
        with_reducible rfl
       rotate_left
       ·
        simp only [Act.put,List.setIfInBounds_toArray,List.set_cons_zero,List.set_cons_succ,i64_w,i32_w]
        rfl
       refine take_ (i:=7) (N:=some 24) (v:=?_) (a':=?_) #[T,T,T,T,T,T,T,T,T,F,F,F,F,F,F,F,F,F,F,F,F,F,F,F,F,F,F,F,F] rfl rfl (by kernel_rfl) (fun _ _ _ h => h) (Or.inl ⟨by rfl,?_⟩) hHeld ?_ ?_
       rotate_left
       ·
        rintro w' ⟨s0,s1,s2,s3,s4,s5,s6,s7,s8,s9,s10,s11,s12⟩
        go_simp
        with_reducible rfl
       rotate_left
       ·
        simp only [Act.put,List.setIfInBounds_toArray,List.set_cons_zero,List.set_cons_succ,i64_w,i32_w]
        rfl
       refine one_ (i:=9) (N:=some 26) #[T,T,T,T,T,T,T,T,T,T,F,F,F,F,F,F,F,F,F,F,F,F,F,F,F,F,F,F,F] rfl rfl (by kernel_rfl) (by decide) (fun K hK => ?_)
       refine goes_ Try.func54 (by kernel_rfl) rfl #[.int .i64 ((rd_T50 l0_6 a1).f5),.int .i64 0,.int .i64 t154] (by rfl) rfl rfl (by (try simp only [List.map_toArray,List.map_cons,List.map_nil]);first|done|rfl|(simp only [List.length_drop,List.length_take];rfl)) ?_
       with_reducible refine (impl_in.calls ((rd_T50 l0_6 a1).f5) 0 t154 true _ A18.out).mono ?_
       rintro e w' ⟨rfl,⟨nd,rfl⟩⟩
       refine ⟨_,rfl,?_⟩
       refine hK.out _ _ ⟨(blk_cell BK155.out 0).trans rfl,(blk_cell BK155.out 1).trans rfl,(blk_cell BK155.out 2).trans rfl,(blk_cell BK155.out 3).trans rfl,(blk_cell BK155.out 4).trans rfl,(blk_cell BK155.out 5).trans rfl,(blk_cell BK0.out 0).trans rfl,(blk_cell BK0.out 1).trans rfl,(blk_cell BK0.out 2).trans rfl,(blk_cell BK0.out 3).trans rfl,(blk_cell BK0.out 4).trans rfl,(blk_cell BK0.out 5).trans rfl,(blk_cell BK0.out 6).trans rfl⟩ (fun hHeld => ?_)
       clear hK K
       refine norm_ (a':=?_) ?_ ?_
       rotate_left
       ·
        show Act.put _ (some 26) _ = _
        simp only [Act.put,List.setIfInBounds_toArray,List.set_cons_zero,List.set_cons_succ,i64_w,i32_w]
        rfl
       refine pure_ (i:=10) (N:=some 27) (v:=?_) (a':=?_) #[T,T,T,T,T,T,T,T,T,T,T,F,F,F,F,F,F,F,F,F,F,F,F,F,F,F,F,F,F] rfl rfl (by kernel_rfl) (fun _ _ _ h => h) (Or.inl ⟨by rfl,?_⟩) ?_ ?_
       rotate_left
       ·
        intro w'
        go_simp
        with_reducible rfl
       rotate_left
       ·
        simp only [Act.put,List.setIfInBounds_toArray,List.set_cons_zero,List.set_cons_succ,i64_w,i32_w]
        rfl
       refine pure_ (i:=11) (N:=some 28) (v:=?_) (a':=?_) #[T,T,T,T,T,T,T,T,T,T,T,T,F,F,F,F,F,F,F,F,F,F,F,F,F,F,F,F,F] rfl rfl (by kernel_rfl) (fun _ _ _ h => h) (Or.inl ⟨by rfl,?_⟩) ?_ ?_
       rotate_left
       ·
        intro w'
        go_simp
        with_reducible rfl
       rotate_left
       ·
        simp only [Act.put,List.setIfInBounds_toArray,List.set_cons_zero,List.set_cons_succ,i64_w,i32_w]
        rfl
       refine pure_ (i:=12) (N:=some 29) (v:=?_) (a':=?_) #[T,T,T,T,T,T,T,T,T,T,T,T,T,F,F,F,F,F,F,F,F,F,F,F,F,F,F,F,F] rfl rfl (by kernel_rfl) (fun _ _ _ h => h) (Or.inl ⟨by rfl,?_⟩) ?_ ?_
       rotate_left
       ·
        intro w'
        go_simp
        with_reducible rfl
       rotate_left
       ·
        simp only [Act.put,List.setIfInBounds_toArray,List.set_cons_zero,List.set_cons_succ,i64_w,i32_w]
        rfl
       refine pure_ (i:=13) (N:=some 30) (v:=?_) (a':=?_) #[T,T,T,T,T,T,T,T,T,T,T,T,T,T,F,F,F,F,F,F,F,F,F,F,F,F,F,F,F] rfl rfl (by kernel_rfl) (fun _ _ _ h => h) (Or.inl ⟨by rfl,?_⟩) ?_ ?_
       rotate_left
       ·
        intro w'
        go_simp
        with_reducible rfl
       rotate_left
       ·
        simp only [Act.put,List.setIfInBounds_toArray,List.set_cons_zero,List.set_cons_succ,i64_w,i32_w]
        rfl
       refine pure_ (i:=14) (N:=some 31) (v:=?_) (a':=?_) #[T,T,T,T,T,T,T,T,T,T,T,T,T,T,T,F,F,F,F,F,F,F,F,F,F,F,F,F,F] rfl rfl (by kernel_rfl) (fun _ _ _ h => h) (Or.inl ⟨by rfl,?_⟩) ?_ ?_
       rotate_left
       ·
        intro w'
        go_simp
        with_reducible rfl
       rotate_left
       ·
        simp only [Act.put,List.setIfInBounds_toArray,List.set_cons_zero,List.set_cons_succ,i64_w,i32_w]
        rfl
       refine take_ (i:=15) (N:=some 32) (v:=?_) (a':=?_) #[T,T,T,T,T,T,T,T,T,T,T,T,T,T,T,T,F,F,F,F,F,F,F,F,F,F,F,F,F] rfl rfl (by kernel_rfl) (fun _ _ _ h => h) (Or.inl ⟨by rfl,?_⟩) hHeld ?_ ?_
       rotate_left
       ·
        rintro w' ⟨s0,s1,s2,s3,s4,s5,s6,s7,s8,s9,s10,s11,s12⟩
        go_simp
        with_reducible rfl
       rotate_left
       ·
        simp only [Act.put,List.setIfInBounds_toArray,List.set_cons_zero,List.set_cons_succ,i64_w,i32_w]
        rfl
       refine one_ (i:=16) (N:=some 33) #[T,T,T,T,T,T,T,T,T,T,T,T,T,T,T,T,T,F,F,F,F,F,F,F,F,F,F,F,F] rfl rfl (by kernel_rfl) (by decide) (fun K hK => ?_)
       refine goes_ Try.func76 (by kernel_rfl) rfl #[.pointer (some ⟨gq0,0,none⟩),.int .i64 ((rd_T50 l0_6 a1).f3)] (by rfl) rfl rfl (by (try simp only [List.map_toArray,List.map_cons,List.map_nil]);first|done|rfl|(simp only [List.length_drop,List.length_take];rfl)) ?_
       with_reducible refine (impl_Ls_isOwner.calls gq0 a0_0 a0_1 a0_2 A0_3 c0_3 l0_3 a0_4 a0_5 (some ad153) c0_6 l0_6 ((rd_T50 l0_6 a1).f3) true _ ?side1 ?side2 ?side3 ?side4 ?side5 A20.out).mono ?_
       (case side1 => exact (by (with_reducible repeat (first|refine blk_drewN ?_ _|refine blk_drew ?_|refine blk_alloc ?_ _));exact BK0.out))
       (case side2 => repeat (first|exact (Kd.C_below HR0_3.out (by repeat (first|(with_reducible first|exact HB.out|apply below_alloc|apply pw_below_drewN|apply below_drew1|refine below_set ?_ GE0.out|refine below_set ?_ GE155.out)|exact HB.out)))|(with_reducible refine Kd.C_alloc ?_ _)|(with_reducible refine Kd.C_drewN ?_ _)|(with_reducible refine Kd.C_drew ?_)))
       (case side3 => exact HC0_3.out)
       (case side4 => repeat (first|exact (Kd.C_below HR0_6.out (by repeat (first|(with_reducible first|exact HB.out|apply below_alloc|apply pw_below_drewN|apply below_drew1|refine below_set ?_ GE0.out|refine below_set ?_ GE155.out)|exact HB.out)))|(with_reducible refine Kd.C_alloc ?_ _)|(with_reducible refine Kd.C_drewN ?_ _)|(with_reducible refine Kd.C_drew ?_)))
       (case side5 => exact HC0_6.out)
       rintro e w' ⟨rfl,⟨nd,rfl⟩⟩
       refine ⟨_,rfl,?_⟩
       refine hK.out _ _ ⟨(blk_cell BK155.out 0).trans rfl,(blk_cell BK155.out 1).trans rfl,(blk_cell BK155.out 2).trans rfl,(blk_cell BK155.out 3).trans rfl,(blk_cell BK155.out 4).trans rfl,(blk_cell BK155.out 5).trans rfl,(blk_cell BK0.out 0).trans rfl,(blk_cell BK0.out 1).trans rfl,(blk_cell BK0.out 2).trans rfl,(blk_cell BK0.out 3).trans rfl,(blk_cell BK0.out 4).trans rfl,(blk_cell BK0.out 5).trans rfl,(blk_cell BK0.out 6).trans rfl⟩ (fun hHeld => ?_)
       clear hK K
       refine norm_ (a':=?_) ?_ ?_
       rotate_left
       ·
        show Act.put _ (some 33) _ = _
        simp only [Act.put,List.setIfInBounds_toArray,List.set_cons_zero,List.set_cons_succ,i64_w,i32_w]
        rfl
       refine pure_ (i:=17) (N:=some 34) (v:=?_) (a':=?_) #[T,T,T,T,T,T,T,T,T,T,T,T,T,T,T,T,T,T,F,F,F,F,F,F,F,F,F,F,F] rfl rfl (by kernel_rfl) (fun _ _ _ h => h) (Or.inl ⟨by rfl,?_⟩) ?_ ?_
       rotate_left
       ·
        intro w'
        go_simp
        with_reducible rfl
       rotate_left
       ·
        simp only [Act.put,List.setIfInBounds_toArray,List.set_cons_zero,List.set_cons_succ,i64_w,i32_w]
        rfl
       refine pure_ (i:=18) (N:=some 35) (v:=?_) (a':=?_) #[T,T,T,T,T,T,T,T,T,T,T,T,T,T,T,T,T,T,T,F,F,F,F,F,F,F,F,F,F] rfl rfl (by kernel_rfl) (fun _ _ _ h => h) (Or.inl ⟨by rfl,?_⟩) ?_ ?_
       rotate_left
       ·
        intro w'
        go_simp
        with_reducible rfl
       rotate_left
       ·
        simp only [Act.put,List.setIfInBounds_toArray,List.set_cons_zero,List.set_cons_succ,i64_w,i32_w]
        rfl
       refine pure_ (i:=19) (N:=some 36) (v:=?_) (a':=?_) #[T,T,T,T,T,T,T,T,T,T,T,T,T,T,T,T,T,T,T,T,F,F,F,F,F,F,F,F,F] rfl rfl (by kernel_rfl) (fun _ _ _ h => h) (Or.inl ⟨by rfl,?_⟩) ?_ ?_
       rotate_left
       ·
        intro w'
        go_simp
        with_reducible rfl
       rotate_left
       ·
        simp only [Act.put,List.setIfInBounds_toArray,List.set_cons_zero,List.set_cons_succ,i64_w,i32_w]
        rfl
       refine pure_ (i:=20) (N:=some 37) (v:=?_) (a':=?_) #[T,T,T,T,T,T,T,T,T,T,T,T,T,T,T,T,T,T,T,T,T,F,F,F,F,F,F,F,F] rfl rfl (by kernel_rfl) (fun _ _ _ h => h) (Or.inl ⟨by rfl,?_⟩) ?_ ?_
       rotate_left
       ·
        intro w'
        go_simp
        with_reducible rfl
       rotate_left
       ·
        simp only [Act.put,List.setIfInBounds_toArray,List.set_cons_zero,List.set_cons_succ,i64_w,i32_w]
        rfl
       refine pure_ (i:=22) (N:=some 39) (v:=?_) (a':=?_) #[T,T,T,T,T,T,T,T,T,T,T,T,T,T,T,T,T,T,T,T,T,F,T,F,F,F,F,F,F] rfl rfl (by kernel_rfl) (fun _ _ _ h => h) (Or.inl ⟨by rfl,?_⟩) ?_ ?_
       rotate_left
       ·
        intro w'
        go_simp
        with_reducible rfl
       rotate_left
       ·
        simp only [Act.put,List.setIfInBounds_toArray,List.set_cons_zero,List.set_cons_succ,i64_w,i32_w]
        rfl
       refine pure_ (i:=23) (N:=some 40) (v:=?_) (a':=?_) #[T,T,T,T,T,T,T,T,T,T,T,T,T,T,T,T,T,T,T,T,T,F,T,T,F,F,F,F,F] rfl rfl (by kernel_rfl) (fun _ _ _ h => h) (Or.inl ⟨by rfl,?_⟩) ?_ ?_
       rotate_left
       ·
        intro w'
        go_simp
        with_reducible rfl
       rotate_left
       ·
        simp only [Act.put,List.setIfInBounds_toArray,List.set_cons_zero,List.set_cons_succ,i64_w,i32_w]
        rfl
       refine pure_ (i:=24) (N:=some 41) (v:=?_) (a':=?_) #[T,T,T,T,T,T,T,T,T,T,T,T,T,T,T,T,T,T,T,T,T,F,T,T,T,F,F,F,F] rfl rfl (by kernel_rfl) (fun _ _ _ h => h) (Or.inl ⟨by rfl,?_⟩) ?_ ?_
       rotate_left
       ·
        intro w'
        go_simp
        with_reducible rfl
       rotate_left
       ·
        simp only [Act.put,List.setIfInBounds_toArray,List.set_cons_zero,List.set_cons_succ,i64_w,i32_w]
        rfl
       refine take_ (i:=21) (N:=some 38) (v:=?_) (a':=?_) #[T,T,T,T,T,T,T,T,T,T,T,T,T,T,T,T,T,T,T,T,T,T,T,T,T,F,F,F,F] rfl rfl (by kernel_rfl) (fun _ _ _ h => h) (Or.inl ⟨by rfl,?_⟩) hHeld ?_ ?_
       rotate_left
       ·
        rintro w' ⟨s0,s1,s2,s3,s4,s5,s6,s7,s8,s9,s10,s11,s12⟩
        go_simp
        with_reducible rfl
       rotate_left
       ·
        simp only [Act.put,List.setIfInBounds_toArray,List.set_cons_zero,List.set_cons_succ,i64_w,i32_w]
        rfl
       refine take_ (i:=25) (N:=some 42) (v:=?_) (a':=?_) #[T,T,T,T,T,T,T,T,T,T,T,T,T,T,T,T,T,T,T,T,T,T,T,T,T,T,F,F,F] rfl rfl (by kernel_rfl) (fun _ _ _ h => h) (Or.inl ⟨by rfl,?_⟩) hHeld ?_ ?_
       rotate_left
       ·
        rintro w' ⟨s0,s1,s2,s3,s4,s5,s6,s7,s8,s9,s10,s11,s12⟩
        go_simp
        with_reducible rfl
       rotate_left
       ·
        simp only [Act.put,List.setIfInBounds_toArray,List.set_cons_zero,List.set_cons_succ,i64_w,i32_w]
        rfl
       refine one_ (i:=26) (N:=some 43) #[T,T,T,T,T,T,T,T,T,T,T,T,T,T,T,T,T,T,T,T,T,T,T,T,T,T,T,F,F] rfl rfl (by kernel_rfl) (by decide) (fun K hK => ?_)
       refine goes_ Try.func54 (by kernel_rfl) rfl #[.int .i64 ((rd_T50 l0_6 a1).f4),.int .i64 0,.int .i64 a0_5] (by rfl) rfl rfl (by (try simp only [List.map_toArray,List.map_cons,List.map_nil]);first|done|rfl|(simp only [List.length_drop,List.length_take];rfl)) ?_
       with_reducible refine (impl_in.calls ((rd_T50 l0_6 a1).f4) 0 a0_5 t159 _ A22.out).mono ?_
       rintro e w' ⟨rfl,⟨nd,rfl⟩⟩
       refine ⟨_,rfl,?_⟩
       refine hK.out _ _ ⟨(blk_cell BK155.out 0).trans rfl,(blk_cell BK155.out 1).trans rfl,(blk_cell BK155.out 2).trans rfl,(blk_cell BK155.out 3).trans rfl,(blk_cell BK155.out 4).trans rfl,(blk_cell BK155.out 5).trans rfl,(blk_cell BK0.out 0).trans rfl,(blk_cell BK0.out 1).trans rfl,(blk_cell BK0.out 2).trans rfl,(blk_cell BK0.out 3).trans rfl,(blk_cell BK0.out 4).trans rfl,(blk_cell BK0.out 5).trans rfl,(blk_cell BK0.out 6).trans rfl⟩ (fun hHeld => ?_)
       clear hK K
       refine norm_ (a':=?_) ?_ ?_
       rotate_left
       ·
        show Act.put _ (some 43) _ = _
        simp only [Act.put,List.setIfInBounds_toArray,List.set_cons_zero,List.set_cons_succ,i64_w,i32_w]
        rfl
       refine pure_ (i:=27) (N:=some 44) (v:=?_) (a':=?_) #[T,T,T,T,T,T,T,T,T,T,T,T,T,T,T,T,T,T,T,T,T,T,T,T,T,T,T,T,F] rfl rfl (by kernel_rfl) (fun _ _ _ h => h) (Or.inl ⟨by rfl,?_⟩) ?_ ?_
       rotate_left
       ·
        intro w'
        go_simp
        with_reducible rfl
       rotate_left
       ·
        simp only [Act.put,List.setIfInBounds_toArray,List.set_cons_zero,List.set_cons_succ,i64_w,i32_w]
        rfl
       refine pure_ (i:=28) (N:=some 45) (v:=?_) (a':=?_) #[T,T,T,T,T,T,T,T,T,T,T,T,T,T,T,T,T,T,T,T,T,T,T,T,T,T,T,T,T] rfl rfl (by kernel_rfl) (fun _ _ _ h => h) (Or.inl ⟨by rfl,?_⟩) ?_ ?_
       rotate_left
       ·
        intro w'
        go_simp
        with_reducible rfl
       rotate_left
       ·
        simp only [Act.put,List.setIfInBounds_toArray,List.set_cons_zero,List.set_cons_succ,i64_w,i32_w]
        rfl
       refine done_ (by kernel_rfl) ?_
       try go_wp2
       go_meet
       case rel => exact ⟨_,(!t159),(a0_0),(a0_1),(a0_2),(a0_4),(a0_5),(by first|rfl|(simp;done)|(simp [*];done)),H',⟨by first|omega|exact Nat.le_refl _⟩,⟨by (with_reducible repeat (first|refine blk_drewN ?_ _|refine blk_drew ?_|refine blk_alloc ?_ _));exact BK0.out⟩,⟨by (with_reducible repeat (first|refine blk_drewN ?_ _|refine blk_drew ?_|refine blk_alloc ?_ _));exact BK155.out⟩,⟨by repeat (first|(with_reducible first|exact HB.out|apply below_alloc|apply pw_below_drewN|apply below_drew1|refine below_set ?_ GE0.out|refine below_set ?_ GE155.out)|exact HB.out)⟩⟩
      ·
       replace c21:=Bool.eq_false_iff.mpr c21
       subst c21
       have H1 : (impl_Ls_hostOk.j0 k true ((rd_T50 l0_6 a1).f0) ((rd_T50 l0_6 a1).f1) ((rd_T50 l0_6 a1).f2) ((rd_T50 l0_6 a1).f3) ((rd_T50 l0_6 a1).f4) ((rd_T50 l0_6 a1).f5)) = some r:=by rw [if_neg (show ¬ (false = true) by decide)] at H;exact H
       clear H
       have H:=H1
       clear H1
       have H':=Aside0.mk H
       clear H
       try go_wp2
       have n0_ : Aside0 (((((((w9.setCell ⟨gb155,0,none⟩ (.bool ((rd_T50 l0_6 a1).f0))).setCell ⟨gb155,1,none⟩ (.int .i64 ((rd_T50 l0_6 a1).f1))).setCell ⟨gb155,2,none⟩ (.bool ((rd_T50 l0_6 a1).f2))).setCell ⟨gb155,3,none⟩ (.int .i64 ((rd_T50 l0_6 a1).f3))).setCell ⟨gb155,4,none⟩ (.int .i64 ((rd_T50 l0_6 a1).f4))).setCell ⟨gb155,5,none⟩ (.int .i64 ((rd_T50 l0_6 a1).f5))).heap[gq0]? = some (.cells #[.int .i64 a0_0,.int .i64 a0_1,.int .i64 a0_2,.slice A0_3 l0_3.length c0_3,.int .i64 a0_4,.int .i64 a0_5,.slice (some ad153) l0_6.length c0_6] 30 (0,0))):=⟨by (with_reducible repeat (first|refine blk_drewN ?_ _|refine blk_drew ?_|refine blk_alloc ?_ _));refine blk_far ?_ NB0_155.out _;(with_reducible repeat (first|refine blk_drewN ?_ _|refine blk_drew ?_|refine blk_alloc ?_ _));refine blk_far ?_ NB0_155.out _;(with_reducible repeat (first|refine blk_drewN ?_ _|refine blk_drew ?_|refine blk_alloc ?_ _));refine blk_far ?_ NB0_155.out _;(with_reducible repeat (first|refine blk_drewN ?_ _|refine blk_drew ?_|refine blk_alloc ?_ _));refine blk_far ?_ NB0_155.out _;(with_reducible repeat (first|refine blk_drewN ?_ _|refine blk_drew ?_|refine blk_alloc ?_ _));refine blk_far ?_ NB0_155.out _;(with_reducible repeat (first|refine blk_drewN ?_ _|refine blk_drew ?_|refine blk_alloc ?_ _));refine blk_far ?_ NB0_155.out _;(with_reducible repeat (first|refine blk_drewN ?_ _|refine blk_drew ?_|refine blk_alloc ?_ _));exact BK0.out⟩
       have n1_ : Aside0 (((((((w9.setCell ⟨gb155,0,none⟩ (.bool ((rd_T50 l0_6 a1).f0))).setCell ⟨gb155,1,none⟩ (.int .i64 ((rd_T50 l0_6 a1).f1))).setCell ⟨gb155,2,none⟩ (.bool ((rd_T50 l0_6 a1).f2))).setCell ⟨gb155,3,none⟩ (.int .i64 ((rd_T50 l0_6 a1).f3))).setCell ⟨gb155,4,none⟩ (.int .i64 ((rd_T50 l0_6 a1).f4))).setCell ⟨gb155,5,none⟩ (.int .i64 ((rd_T50 l0_6 a1).f5))).heap[gb155]? = some (.cells #[.bool ((rd_T50 l0_6 a1).f0),.int .i64 ((rd_T50 l0_6 a1).f1),.bool ((rd_T50 l0_6 a1).f2),.int .i64 ((rd_T50 l0_6 a1).f3),.int .i64 ((rd_T50 l0_6 a1).f4),.int .i64 ((rd_T50 l0_6 a1).f5)] 50 (0,0))):=⟨by (with_reducible repeat (first|refine blk_drewN ?_ _|refine blk_drew ?_|refine blk_alloc ?_ _));refine blk_put (cs:=#[.bool ((rd_T50 l0_6 a1).f0),.int .i64 ((rd_T50 l0_6 a1).f1),.bool ((rd_T50 l0_6 a1).f2),.int .i64 ((rd_T50 l0_6 a1).f3),.int .i64 ((rd_T50 l0_6 a1).f4),.int .i64 0]) ?_ 5 _ rfl;(with_reducible repeat (first|refine blk_drewN ?_ _|refine blk_drew ?_|refine blk_alloc ?_ _));refine blk_put (cs:=#[.bool ((rd_T50 l0_6 a1).f0),.int .i64 ((rd_T50 l0_6 a1).f1),.bool ((rd_T50 l0_6 a1).f2),.int .i64 ((rd_T50 l0_6 a1).f3),.int .i64 0,.int .i64 0]) ?_ 4 _ rfl;(with_reducible repeat (first|refine blk_drewN ?_ _|refine blk_drew ?_|refine blk_alloc ?_ _));refine blk_put (cs:=#[.bool ((rd_T50 l0_6 a1).f0),.int .i64 ((rd_T50 l0_6 a1).f1),.bool ((rd_T50 l0_6 a1).f2),.int .i64 0,.int .i64 0,.int .i64 0]) ?_ 3 _ rfl;(with_reducible repeat (first|refine blk_drewN ?_ _|refine blk_drew ?_|refine blk_alloc ?_ _));refine blk_put (cs:=#[.bool ((rd_T50 l0_6 a1).f0),.int .i64 ((rd_T50 l0_6 a1).f1),.bool false,.int .i64 0,.int .i64 0,.int .i64 0]) ?_ 2 _ rfl;(with_reducible repeat (first|refine blk_drewN ?_ _|refine blk_drew ?_|refine blk_alloc ?_ _));refine blk_put (cs:=#[.bool ((rd_T50 l0_6 a1).f0),.int .i64 0,.bool false,.int .i64 0,.int .i64 0,.int .i64 0]) ?_ 1 _ rfl;(with_reducible repeat (first|refine blk_drewN ?_ _|refine blk_drew ?_|refine blk_alloc ?_ _));refine blk_put (cs:=#[.bool false,.int .i64 0,.bool false,.int .i64 0,.int .i64 0,.int .i64 0]) ?_ 0 _ rfl;(with_reducible repeat (first|refine blk_drewN ?_ _|refine blk_drew ?_|refine blk_alloc ?_ _));exact BK155.out⟩
       have n2_ : Aside0 (Below w.heap.size w ((((((w9.setCell ⟨gb155,0,none⟩ (.bool ((rd_T50 l0_6 a1).f0))).setCell ⟨gb155,1,none⟩ (.int .i64 ((rd_T50 l0_6 a1).f1))).setCell ⟨gb155,2,none⟩ (.bool ((rd_T50 l0_6 a1).f2))).setCell ⟨gb155,3,none⟩ (.int .i64 ((rd_T50 l0_6 a1).f3))).setCell ⟨gb155,4,none⟩ (.int .i64 ((rd_T50 l0_6 a1).f4))).setCell ⟨gb155,5,none⟩ (.int .i64 ((rd_T50 l0_6 a1).f5)))):=⟨by repeat (first|(with_reducible first|exact HB.out|apply below_alloc|apply pw_below_drewN|apply below_drew1|refine below_set ?_ GE0.out|refine below_set ?_ GE155.out)|exact HB.out)⟩
       (try clear BK0)
       (try clear BK155)
       (try clear HB)
       generalize ((((((w9.setCell ⟨gb155,0,none⟩ (.bool ((rd_T50 l0_6 a1).f0))).setCell ⟨gb155,1,none⟩ (.int .i64 ((rd_T50 l0_6 a1).f1))).setCell ⟨gb155,2,none⟩ (.bool ((rd_T50 l0_6 a1).f2))).setCell ⟨gb155,3,none⟩ (.int .i64 ((rd_T50 l0_6 a1).f3))).setCell ⟨gb155,4,none⟩ (.int .i64 ((rd_T50 l0_6 a1).f4))).setCell ⟨gb155,5,none⟩ (.int .i64 ((rd_T50 l0_6 a1).f5))) = w25 at n0_ n1_ n2_ ⊢
       have BK0:=n0_
       have BK155:=n1_
       have HB:=n2_
       clear n0_ n1_ n2_
       have n0_:=Aside0.mk (blk_drew BK0.out)
       have n1_:=Aside0.mk (blk_drew BK155.out)
       have n2_:=Aside0.mk (below_drew1 HB.out)
       clear BK0
       clear BK155
       clear HB
       have BK0:=n0_
       have BK155:=n1_
       have HB:=n2_
       clear n0_ n1_ n2_
       refine start_ (n:=29) (S:=fun w' => w'.cell? ⟨gb155,0,none⟩ = some (.bool ((rd_T50 l0_6 a1).f0)) ∧ w'.cell? ⟨gb155,1,none⟩ = some (.int .i64 ((rd_T50 l0_6 a1).f1)) ∧ w'.cell? ⟨gb155,2,none⟩ = some (.bool ((rd_T50 l0_6 a1).f2)) ∧ w'.cell? ⟨gb155,3,none⟩ = some (.int .i64 ((rd_T50 l0_6 a1).f3)) ∧ w'.cell? ⟨gb155,4,none⟩ = some (.int .i64 ((rd_T50 l0_6 a1).f4)) ∧ w'.cell? ⟨gb155,5,none⟩ = some (.int .i64 ((rd_T50 l0_6 a1).f5))) (ds:=[]) #[F,F,F,F,F,F,F,F,F,F,F,F,F,F,F,F,F,F,F,F,F,F,F,F,F,F,F,F,F] (by kernel_rfl) rfl rfl ⟨(blk_cell BK155.out 0).trans rfl,(blk_cell BK155.out 1).trans rfl,(blk_cell BK155.out 2).trans rfl,(blk_cell BK155.out 3).trans rfl,(blk_cell BK155.out 4).trans rfl,(blk_cell BK155.out 5).trans rfl⟩ (fun hHeld => ?_)
       generalize w25.drew = w26 at BK0 BK155 HB hHeld ⊢
       refine pure_ (i:=0) (N:=some 17) (v:=?_) (a':=?_) #[T,F,F,F,F,F,F,F,F,F,F,F,F,F,F,F,F,F,F,F,F,F,F,F,F,F,F,F,F] rfl rfl (by kernel_rfl) (fun _ _ _ h => h) (Or.inl ⟨by rfl,?_⟩) ?_ ?_
       rotate_left
       ·
        intro w'
        go_simp
        with_reducible rfl
       rotate_left
       ·
        simp only [Act.put,List.setIfInBounds_toArray,List.set_cons_zero,List.set_cons_succ,i64_w,i32_w]
        rfl
       refine pure_ (i:=2) (N:=some 19) (v:=?_) (a':=?_) #[T,F,T,F,F,F,F,F,F,F,F,F,F,F,F,F,F,F,F,F,F,F,F,F,F,F,F,F,F] rfl rfl (by kernel_rfl) (fun _ _ _ h => h) (Or.inl ⟨by rfl,?_⟩) ?_ ?_
       rotate_left
       ·
        intro w'
        go_simp
        with_reducible rfl
       rotate_left
       ·
        simp only [Act.put,List.setIfInBounds_toArray,List.set_cons_zero,List.set_cons_succ,i64_w,i32_w]
        rfl
       refine take_ (i:=1) (N:=some 18) (v:=?_) (a':=?_) #[T,T,T,F,F,F,F,F,F,F,F,F,F,F,F,F,F,F,F,F,F,F,F,F,F,F,F,F,F] rfl rfl (by kernel_rfl) (fun _ _ _ h => h) (Or.inl ⟨by rfl,?_⟩) hHeld ?_ ?_
       rotate_left
       ·
        rintro w' ⟨s0,s1,s2,s3,s4,s5⟩
        go_simp
        with_reducible rfl
       rotate_left
       ·
        simp only [Act.put,List.setIfInBounds_toArray,List.set_cons_zero,List.set_cons_succ,i64_w,i32_w]
        rfl
       refine one_ (i:=3) (N:=some 20) #[T,T,T,T,F,F,F,F,F,F,F,F,F,F,F,F,F,F,F,F,F,F,F,F,F,F,F,F,F] rfl rfl (by kernel_rfl) (by decide) (fun K hK => ?_)
       refine goes_ Try.func54 (by kernel_rfl) rfl #[.int .i64 ((rd_T50 l0_6 a1).f1),.int .i64 0,.int .i64 t154] (by rfl) rfl rfl (by (try simp only [List.map_toArray,List.map_cons,List.map_nil]);first|done|rfl|(simp only [List.length_drop,List.length_take];rfl)) ?_
       with_reducible refine (impl_in.calls ((rd_T50 l0_6 a1).f1) 0 t154 true _ A16.out).mono ?_
       rintro e w' ⟨rfl,⟨nd,rfl⟩⟩
       refine ⟨_,rfl,?_⟩
       refine hK.out _ _ ⟨(blk_cell BK155.out 0).trans rfl,(blk_cell BK155.out 1).trans rfl,(blk_cell BK155.out 2).trans rfl,(blk_cell BK155.out 3).trans rfl,(blk_cell BK155.out 4).trans rfl,(blk_cell BK155.out 5).trans rfl⟩ (fun hHeld => ?_)
       clear hK K
       refine norm_ (a':=?_) ?_ ?_
       rotate_left
       ·
        show Act.put _ (some 20) _ = _
        simp only [Act.put,List.setIfInBounds_toArray,List.set_cons_zero,List.set_cons_succ,i64_w,i32_w]
        rfl
       refine pure_ (i:=4) (N:=some 21) (v:=?_) (a':=?_) #[T,T,T,T,T,F,F,F,F,F,F,F,F,F,F,F,F,F,F,F,F,F,F,F,F,F,F,F,F] rfl rfl (by kernel_rfl) (fun _ _ _ h => h) (Or.inl ⟨by rfl,?_⟩) ?_ ?_
       rotate_left
       ·
        intro w'
        go_simp
        with_reducible rfl
       rotate_left
       ·
        simp only [Act.put,List.setIfInBounds_toArray,List.set_cons_zero,List.set_cons_succ,i64_w,i32_w]
        rfl
       refine pure_ (i:=5) (N:=some 22) (v:=?_) (a':=?_) #[T,T,T,T,T,T,F,F,F,F,F,F,F,F,F,F,F,F,F,F,F,F,F,F,F,F,F,F,F] rfl rfl (by kernel_rfl) (fun _ _ _ h => h) (Or.inl ⟨by rfl,?_⟩) ?_ ?_
       rotate_left
       ·
        intro w'
        go_simp
        with_reducible rfl
       rotate_left
       ·
        simp only [Act.put,List.setIfInBounds_toArray,List.set_cons_zero,List.set_cons_succ,i64_w,i32_w]
        rfl
       refine pure_ (i:=6) (N:=some 23) (v:=?_) (a':=?_) #[T,T,T,T,T,T,T,F,F,F,F,F,F,F,F,F,F,F,F,F,F,F,F,F,F,F,F,F,F] rfl rfl (by kernel_rfl) (fun _ _ _ h => h) (Or.inl ⟨by rfl,?_⟩) ?_ ?_
       rotate_left
       ·
        intro w'
        go_simp
        with_reducible rfl
       rotate_left
       ·
        simp only [Act.put,List.setIfInBounds_toArray,List.set_cons_zero,List.set_cons_succ,i64_w,i32_w]
        rfl
       refine pure_ (i:=8) (N:=some 25) (v:=?_) (a':=?_) #[T,T,T,T,T,T,T,F,T,F,F,F,F,F,F,F,F,F,F,F,F,F,F,F,F,F,F,F,F] rfl rfl (by kernel_rfl) (fun _ _ _ h => h) (Or.inl ⟨by rfl,?_⟩) ?_ ?_
       rotate_left
       ·
        intro w'
        go_simp
        with_reducible rfl
       rotate_left
       ·
        simp only [Act.put,List.setIfInBounds_toArray,List.set_cons_zero,List.set_cons_succ,i64_w,i32_w]
        rfl
       refine take_ (i:=7) (N:=some 24) (v:=?_) (a':=?_) #[T,T,T,T,T,T,T,T,T,F,F,F,F,F,F,F,F,F,F,F,F,F,F,F,F,F,F,F,F] rfl rfl (by kernel_rfl) (fun _ _ _ h => h) (Or.inl ⟨by rfl,?_⟩) hHeld ?_ ?_
       rotate_left
       ·
        rintro w' ⟨s0,s1,s2,s3,s4,s5⟩
        go_simp
        with_reducible rfl
       rotate_left
       ·
        simp only [Act.put,List.setIfInBounds_toArray,List.set_cons_zero,List.set_cons_succ,i64_w,i32_w]
        rfl
       refine one_ (i:=9) (N:=some 26) #[T,T,T,T,T,T,T,T,T,T,F,F,F,F,F,F,F,F,F,F,F,F,F,F,F,F,F,F,F] rfl rfl (by kernel_rfl) (by decide) (fun K hK => ?_)
       refine goes_ Try.func54 (by kernel_rfl) rfl #[.int .i64 ((rd_T50 l0_6 a1).f5),.int .i64 0,.int .i64 t154] (by rfl) rfl rfl (by (try simp only [List.map_toArray,List.map_cons,List.map_nil]);first|done|rfl|(simp only [List.length_drop,List.length_take];rfl)) ?_
       with_reducible refine (impl_in.calls ((rd_T50 l0_6 a1).f5) 0 t154 true _ A18.out).mono ?_
       rintro e w' ⟨rfl,⟨nd,rfl⟩⟩
       refine ⟨_,rfl,?_⟩
       refine hK.out _ _ ⟨(blk_cell BK155.out 0).trans rfl,(blk_cell BK155.out 1).trans rfl,(blk_cell BK155.out 2).trans rfl,(blk_cell BK155.out 3).trans rfl,(blk_cell BK155.out 4).trans rfl,(blk_cell BK155.out 5).trans rfl⟩ (fun hHeld => ?_)
       clear hK K
       refine norm_ (a':=?_) ?_ ?_
       rotate_left
       ·
        show Act.put _ (some 26) _ = _
        simp only [Act.put,List.setIfInBounds_toArray,List.set_cons_zero,List.set_cons_succ,i64_w,i32_w]
        rfl
       refine pure_ (i:=10) (N:=some 27) (v:=?_) (a':=?_) #[T,T,T,T,T,T,T,T,T,T,T,F,F,F,F,F,F,F,F,F,F,F,F,F,F,F,F,F,F] rfl rfl (by kernel_rfl) (fun _ _ _ h => h) (Or.inl ⟨by rfl,?_⟩) ?_ ?_
       rotate_left
       ·
        intro w'
        go_simp
        with_reducible rfl
       rotate_left
       ·
        simp only [Act.put,List.setIfInBounds_toArray,List.set_cons_zero,List.set_cons_succ,i64_w,i32_w]
        rfl
       refine pure_ (i:=11) (N:=some 28) (v:=?_) (a':=?_) #[T,T,T,T,T,T,T,T,T,T,T,T,F,F,F,F,F,F,F,F,F,F,F,F,F,F,F,F,F] rfl rfl (by kernel_rfl) (fun _ _ _ h => h) (Or.inl ⟨by rfl,?_⟩) ?_ ?_
       rotate_left
       ·
        intro w'
        go_simp
        with_reducible rfl
       rotate_left
       ·
        simp only [Act.put,List.setIfInBounds_toArray,List.set_cons_zero,List.set_cons_succ,i64_w,i32_w]
        rfl
       refine pure_ (i:=12) (N:=some 29) (v:=?_) (a':=?_) #[T,T,T,T,T,T,T,T,T,T,T,T,T,F,F,F,F,F,F,F,F,F,F,F,F,F,F,F,F] rfl rfl (by kernel_rfl) (fun _ _ _ h => h) (Or.inl ⟨by rfl,?_⟩) ?_ ?_
       rotate_left
       ·
        intro w'
        go_simp
        with_reducible rfl
       rotate_left
       ·
        simp only [Act.put,List.setIfInBounds_toArray,List.set_cons_zero,List.set_cons_succ,i64_w,i32_w]
        rfl
       refine pure_ (i:=13) (N:=some 30) (v:=?_) (a':=?_) #[T,T,T,T,T,T,T,T,T,T,T,T,T,T,F,F,F,F,F,F,F,F,F,F,F,F,F,F,F] rfl rfl (by kernel_rfl) (fun _ _ _ h => h) (Or.inl ⟨by rfl,?_⟩) ?_ ?_
       rotate_left
       ·
        intro w'
        go_simp
        with_reducible rfl
       rotate_left
       ·
        simp only [Act.put,List.setIfInBounds_toArray,List.set_cons_zero,List.set_cons_succ,i64_w,i32_w]
        rfl
       refine pure_ (i:=14) (N:=some 31) (v:=?_) (a':=?_) #[T,T,T,T,T,T,T,T,T,T,T,T,T,T,T,F,F,F,F,F,F,F,F,F,F,F,F,F,F] rfl rfl (by kernel_rfl) (fun _ _ _ h => h) (Or.inl ⟨by rfl,?_⟩) ?_ ?_
       rotate_left
       ·
        intro w'
        go_simp
        with_reducible rfl
       rotate_left
       ·
        simp only [Act.put,List.setIfInBounds_toArray,List.set_cons_zero,List.set_cons_succ,i64_w,i32_w]
        rfl
       refine take_ (i:=15) (N:=some 32) (v:=?_) (a':=?_) #[T,T,T,T,T,T,T,T,T,T,T,T,T,T,T,T,F,F,F,F,F,F,F,F,F,F,F,F,F] rfl rfl (by kernel_rfl) (fun _ _ _ h => h) (Or.inl ⟨by rfl,?_⟩) hHeld ?_ ?_
       rotate_left
       ·
        rintro w' ⟨s0,s1,s2,s3,s4,s5⟩
        go_simp
        with_reducible rfl
       rotate_left
       ·
        simp only [Act.put,List.setIfInBounds_toArray,List.set_cons_zero,List.set_cons_succ,i64_w,i32_w]
        rfl
       refine one_ (i:=16) (N:=some 33) #[T,T,T,T,T,T,T,T,T,T,T,T,T,T,T,T,T,F,F,F,F,F,F,F,F,F,F,F,F] rfl rfl (by kernel_rfl) (by decide) (fun K hK => ?_)
       refine goes_ Try.func76 (by kernel_rfl) rfl #[.pointer (some ⟨gq0,0,none⟩),.int .i64 ((rd_T50 l0_6 a1).f3)] (by rfl) rfl rfl (by (try simp only [List.map_toArray,List.map_cons,List.map_nil]);first|done|rfl|(simp only [List.length_drop,List.length_take];rfl)) ?_
       with_reducible refine (impl_Ls_isOwner.calls gq0 a0_0 a0_1 a0_2 A0_3 c0_3 l0_3 a0_4 a0_5 (some ad153) c0_6 l0_6 ((rd_T50 l0_6 a1).f3) false _ ?side1 ?side2 ?side3 ?side4 ?side5 A20.out).mono ?_
       (case side1 => exact (by (with_reducible repeat (first|refine blk_drewN ?_ _|refine blk_drew ?_|refine blk_alloc ?_ _));exact BK0.out))
       (case side2 => repeat (first|exact (Kd.C_below HR0_3.out (by repeat (first|(with_reducible first|exact HB.out|apply below_alloc|apply pw_below_drewN|apply below_drew1|refine below_set ?_ GE0.out|refine below_set ?_ GE155.out)|exact HB.out)))|(with_reducible refine Kd.C_alloc ?_ _)|(with_reducible refine Kd.C_drewN ?_ _)|(with_reducible refine Kd.C_drew ?_)))
       (case side3 => exact HC0_3.out)
       (case side4 => repeat (first|exact (Kd.C_below HR0_6.out (by repeat (first|(with_reducible first|exact HB.out|apply below_alloc|apply pw_below_drewN|apply below_drew1|refine below_set ?_ GE0.out|refine below_set ?_ GE155.out)|exact HB.out)))|(with_reducible refine Kd.C_alloc ?_ _)|(with_reducible refine Kd.C_drewN ?_ _)|(with_reducible refine Kd.C_drew ?_)))
       (case side5 => exact HC0_6.out)
       rintro e w' ⟨rfl,⟨nd,rfl⟩⟩
       refine ⟨_,rfl,?_⟩
       refine hK.out _ _ ⟨(blk_cell BK155.out 0).trans rfl,(blk_cell BK155.out 1).trans rfl,(blk_cell BK155.out 2).trans rfl,(blk_cell BK155.out 3).trans rfl,(blk_cell BK155.out 4).trans rfl,(blk_cell BK155.out 5).trans rfl⟩ (fun hHeld => ?_)
       clear hK K
       refine norm_ (a':=?_) ?_ ?_
       rotate_left
       ·
        show Act.put _ (some 33) _ = _
        simp only [Act.put,List.setIfInBounds_toArray,List.set_cons_zero,List.set_cons_succ,i64_w,i32_w]
        rfl
       refine pure_ (i:=17) (N:=some 34) (v:=?_) (a':=?_) #[T,T,T,T,T,T,T,T,T,T,T,T,T,T,T,T,T,T,F,F,F,F,F,F,F,F,F,F,F] rfl rfl (by kernel_rfl) (fun _ _ _ h => h) (Or.inl ⟨by rfl,?_⟩) ?_ ?_
       rotate_left
       ·
        intro w'
        go_simp
        with_reducible rfl
       rotate_left
       ·
        simp only [Act.put,List.setIfInBounds_toArray,List.set_cons_zero,List.set_cons_succ,i64_w,i32_w]
        rfl
       refine pure_ (i:=18) (N:=some 35) (v:=?_) (a':=?_) #[T,T,T,T,T,T,T,T,T,T,T,T,T,T,T,T,T,T,T,F,F,F,F,F,F,F,F,F,F] rfl rfl (by kernel_rfl) (fun _ _ _ h => h) (Or.inl ⟨by rfl,?_⟩) ?_ ?_
       rotate_left
       ·
        intro w'
        go_simp
        with_reducible rfl
       rotate_left
       ·
        simp only [Act.put,List.setIfInBounds_toArray,List.set_cons_zero,List.set_cons_succ,i64_w,i32_w]
        rfl
       refine pure_ (i:=19) (N:=some 36) (v:=?_) (a':=?_) #[T,T,T,T,T,T,T,T,T,T,T,T,T,T,T,T,T,T,T,T,F,F,F,F,F,F,F,F,F] rfl rfl (by kernel_rfl) (fun _ _ _ h => h) (Or.inl ⟨by rfl,?_⟩) ?_ ?_
       rotate_left
       ·
        intro w'
        go_simp
        with_reducible rfl
       rotate_left
       ·
        simp only [Act.put,List.setIfInBounds_toArray,List.set_cons_zero,List.set_cons_succ,i64_w,i32_w]
        rfl
       refine pure_ (i:=20) (N:=some 37) (v:=undef) (a':=?_) #[T,T,T,T,T,T,T,T,T,T,T,T,T,T,T,T,T,T,T,T,T,F,F,F,F,F,F,F,F] rfl rfl (by kernel_rfl) (fun _ _ _ h => h) (Or.inr ⟨by rfl,rfl⟩) ?_ ?_
       rotate_left
       ·
        simp only [Act.put,List.setIfInBounds_toArray,List.set_cons_zero,List.set_cons_succ,i64_w,i32_w]
        rfl
       refine pure_ (i:=21) (N:=some 38) (v:=undef) (a':=?_) #[T,T,T,T,T,T,T,T,T,T,T,T,T,T,T,T,T,T,T,T,T,T,F,F,F,F,F,F,F] rfl rfl (by kernel_rfl) (fun _ _ _ h => h) (Or.inr ⟨by rfl,rfl⟩) ?_ ?_
       rotate_left
       ·
        simp only [Act.put,List.setIfInBounds_toArray,List.set_cons_zero,List.set_cons_succ,i64_w,i32_w]
        rfl
       refine pure_ (i:=22) (N:=some 39) (v:=undef) (a':=?_) #[T,T,T,T,T,T,T,T,T,T,T,T,T,T,T,T,T,T,T,T,T,T,T,F,F,F,F,F,F] rfl rfl (by kernel_rfl) (fun _ _ _ h => h) (Or.inr ⟨by rfl,rfl⟩) ?_ ?_
       rotate_left
       ·
        simp only [Act.put,List.setIfInBounds_toArray,List.set_cons_zero,List.set_cons_succ,i64_w,i32_w]
        rfl
       refine pure_ (i:=23) (N:=some 40) (v:=undef) (a':=?_) #[T,T,T,T,T,T,T,T,T,T,T,T,T,T,T,T,T,T,T,T,T,T,T,T,F,F,F,F,F] rfl rfl (by kernel_rfl) (fun _ _ _ h => h) (Or.inr ⟨by rfl,rfl⟩) ?_ ?_
       rotate_left
       ·
        simp only [Act.put,List.setIfInBounds_toArray,List.set_cons_zero,List.set_cons_succ,i64_w,i32_w]
        rfl
       refine pure_ (i:=24) (N:=some 41) (v:=undef) (a':=?_) #[T,T,T,T,T,T,T,T,T,T,T,T,T,T,T,T,T,T,T,T,T,T,T,T,T,F,F,F,F] rfl rfl (by kernel_rfl) (fun _ _ _ h => h) (Or.inr ⟨by rfl,rfl⟩) ?_ ?_
       rotate_left
       ·
        simp only [Act.put,List.setIfInBounds_toArray,List.set_cons_zero,List.set_cons_succ,i64_w,i32_w]
        rfl
       refine pure_ (i:=25) (N:=some 42) (v:=undef) (a':=?_) #[T,T,T,T,T,T,T,T,T,T,T,T,T,T,T,T,T,T,T,T,T,T,T,T,T,T,F,F,F] rfl rfl (by kernel_rfl) (fun _ _ _ h => h) (Or.inr ⟨by rfl,rfl⟩) ?_ ?_
       rotate_left
       ·
        simp only [Act.put,List.setIfInBounds_toArray,List.set_cons_zero,List.set_cons_succ,i64_w,i32_w]
        rfl
       refine pure_ (i:=26) (N:=some 43) (v:=undef) (a':=?_) #[T,T,T,T,T,T,T,T,T,T,T,T,T,T,T,T,T,T,T,T,T,T,T,T,T,T,T,F,F] rfl rfl (by kernel_rfl) (fun _ _ _ h => h) (Or.inr ⟨by rfl,rfl⟩) ?_ ?_
       rotate_left
       ·
        simp only [Act.put,List.setIfInBounds_toArray,List.set_cons_zero,List.set_cons_succ,i64_w,i32_w]
        rfl
       refine pure_ (i:=27) (N:=some 44) (v:=undef) (a':=?_) #[T,T,T,T,T,T,T,T,T,T,T,T,T,T,T,T,T,T,T,T,T,T,T,T,T,T,T,T,F] rfl rfl (by kernel_rfl) (fun _ _ _ h => h) (Or.inr ⟨by rfl,rfl⟩) ?_ ?_
       rotate_left
       ·
        simp only [Act.put,List.setIfInBounds_toArray,List.set_cons_zero,List.set_cons_succ,i64_w,i32_w]
        rfl
       refine pure_ (i:=28) (N:=some 45) (v:=?_) (a':=?_) #[T,T,T,T,T,T,T,T,T,T,T,T,T,T,T,T,T,T,T,T,T,T,T,T,T,T,T,T,T] rfl rfl (by kernel_rfl) (fun _ _ _ h => h) (Or.inl ⟨by rfl,?_⟩) ?_ ?_
       rotate_left
       ·
        intro w'
        go_simp
        with_reducible rfl
       rotate_left
       ·
        simp only [Act.put,List.setIfInBounds_toArray,List.set_cons_zero,List.set_cons_succ,i64_w,i32_w]
        rfl
       refine done_ (by kernel_rfl) ?_
       try go_wp2
       go_meet
       case rel => exact ⟨_,(true),(a0_0),(a0_1),(a0_2),(a0_4),(a0_5),(by first|rfl|(simp;done)|(simp [*];done)),H',⟨by first|omega|exact Nat.le_refl _⟩,⟨by (with_reducible repeat (first|refine blk_drewN ?_ _|refine blk_drew ?_|refine blk_alloc ?_ _));exact BK0.out⟩,⟨by (with_reducible repeat (first|refine blk_drewN ?_ _|refine blk_drew ?_|refine blk_alloc ?_ _));exact BK155.out⟩,⟨by repeat (first|(with_reducible first|exact HB.out|apply below_alloc|apply pw_below_drewN|apply below_drew1|refine below_set ?_ GE0.out|refine below_set ?_ GE155.out)|exact HB.out)⟩⟩
     ·
      replace c19:=Bool.eq_false_iff.mpr c19
      subst c19
      have H1 : (impl_Ls_hostOk.j0 k true ((rd_T50 l0_6 a1).f0) ((rd_T50 l0_6 a1).f1) ((rd_T50 l0_6 a1).f2) ((rd_T50 l0_6 a1).f3) ((rd_T50 l0_6 a1).f4) ((rd_T50 l0_6 a1).f5)) = some r:=by rw [if_neg (show ¬ (false = true) by decide)] at H;exact H
      clear H
      have H:=H1
      clear H1
      have H':=Aside0.mk H
      clear H
      try go_wp2
      have n0_ : Aside0 (((((((w9.setCell ⟨gb155,0,none⟩ (.bool ((rd_T50 l0_6 a1).f0))).setCell ⟨gb155,1,none⟩ (.int .i64 ((rd_T50 l0_6 a1).f1))).setCell ⟨gb155,2,none⟩ (.bool ((rd_T50 l0_6 a1).f2))).setCell ⟨gb155,3,none⟩ (.int .i64 ((rd_T50 l0_6 a1).f3))).setCell ⟨gb155,4,none⟩ (.int .i64 ((rd_T50 l0_6 a1).f4))).setCell ⟨gb155,5,none⟩ (.int .i64 ((rd_T50 l0_6 a1).f5))).heap[gq0]? = some (.cells #[.int .i64 a0_0,.int .i64 a0_1,.int .i64 a0_2,.slice A0_3 l0_3.length c0_3,.int .i64 a0_4,.int .i64 a0_5,.slice (some ad153) l0_6.length c0_6] 30 (0,0))):=⟨by (with_reducible repeat (first|refine blk_drewN ?_ _|refine blk_drew ?_|refine blk_alloc ?_ _));refine blk_far ?_ NB0_155.out _;(with_reducible repeat (first|refine blk_drewN ?_ _|refine blk_drew ?_|refine blk_alloc ?_ _));refine blk_far ?_ NB0_155.out _;(with_reducible repeat (first|refine blk_drewN ?_ _|refine blk_drew ?_|refine blk_alloc ?_ _));refine blk_far ?_ NB0_155.out _;(with_reducible repeat (first|refine blk_drewN ?_ _|refine blk_drew ?_|refine blk_alloc ?_ _));refine blk_far ?_ NB0_155.out _;(with_reducible repeat (first|refine blk_drewN ?_ _|refine blk_drew ?_|refine blk_alloc ?_ _));refine blk_far ?_ NB0_155.out _;(with_reducible repeat (first|refine blk_drewN ?_ _|refine blk_drew ?_|refine blk_alloc ?_ _));refine blk_far ?_ NB0_155.out _;(with_reducible repeat (first|refine blk_drewN ?_ _|refine blk_drew ?_|refine blk_alloc ?_ _));exact BK0.out⟩
      have n1_ : Aside0 (((((((w9.setCell ⟨gb155,0,none⟩ (.bool ((rd_T50 l0_6 a1).f0))).setCell ⟨gb155,1,none⟩ (.int .i64 ((rd_T50 l0_6 a1).f1))).setCell ⟨gb155,2,none⟩ (.bool ((rd_T50 l0_6 a1).f2))).setCell ⟨gb155,3,none⟩ (.int .i64 ((rd_T50 l0_6 a1).f3))).setCell ⟨gb155,4,none⟩ (.int .i64 ((rd_T50 l0_6 a1).f4))).setCell ⟨gb155,5,none⟩ (.int .i64 ((rd_T50 l0_6 a1).f5))).heap[gb155]? = some (.cells #[.bool ((rd_T50 l0_6 a1).f0),.int .i64 ((rd_T50 l0_6 a1).f1),.bool ((rd_T50 l0_6 a1).f2),.int .i64 ((rd_T50 l0_6 a1).f3),.int .i64 ((rd_T50 l0_6 a1).f4),.int .i64 ((rd_T50 l0_6 a1).f5)] 50 (0,0))):=⟨by (with_reducible repeat (first|refine blk_drewN ?_ _|refine blk_drew ?_|refine blk_alloc ?_ _));refine blk_put (cs:=#[.bool ((rd_T50 l0_6 a1).f0),.int .i64 ((rd_T50 l0_6 a1).f1),.bool ((rd_T50 l0_6 a1).f2),.int .i64 ((rd_T50 l0_6 a1).f3),.int .i64 ((rd_T50 l0_6 a1).f4),.int .i64 0]) ?_ 5 _ rfl;(with_reducible repeat (first|refine blk_drewN ?_ _|refine blk_drew ?_|refine blk_alloc ?_ _));refine blk_put (cs:=#[.bool ((rd_T50 l0_6 a1).f0),.int .i64 ((rd_T50 l0_6 a1).f1),.bool ((rd_T50 l0_6 a1).f2),.int .i64 ((rd_T50 l0_6 a1).f3),.int .i64 0,.int .i64 0]) ?_ 4 _ rfl;(with_reducible repeat (first|refine blk_drewN ?_ _|refine blk_drew ?_|refine blk_alloc ?_ _));refine blk_put (cs:=#[.bool ((rd_T50 l0_6 a1).f0),.int .i64 ((rd_T50 l0_6 a1).f1),.bool ((rd_T50 l0_6 a1).f2),.int .i64 0,.int .i64 0,.int .i64 0]) ?_ 3 _ rfl;(with_reducible repeat (first|refine blk_drewN ?_ _|refine blk_drew ?_|refine blk_alloc ?_ _));refine blk_put (cs:=#[.bool ((rd_T50 l0_6 a1).f0),.int .i64 ((rd_T50 l0_6 a1).f1),.bool false,.int .i64 0,.int .i64 0,.int .i64 0]) ?_ 2 _ rfl;(with_reducible repeat (first|refine blk_drewN ?_ _|refine blk_drew ?_|refine blk_alloc ?_ _));refine blk_put (cs:=#[.bool ((rd_T50 l0_6 a1).f0),.int .i64 0,.bool false,.int .i64 0,.int .i64 0,.int .i64 0]) ?_ 1 _ rfl;(with_reducible repeat (first|refine blk_drewN ?_ _|refine blk_drew ?_|refine blk_alloc ?_ _));refine blk_put (cs:=#[.bool false,.int .i64 0,.bool false,.int .i64 0,.int .i64 0,.int .i64 0]) ?_ 0 _ rfl;(with_reducible repeat (first|refine blk_drewN ?_ _|refine blk_drew ?_|refine blk_alloc ?_ _));exact BK155.out⟩
      have n2_ : Aside0 (Below w.heap.size w ((((((w9.setCell ⟨gb155,0,none⟩ (.bool ((rd_T50 l0_6 a1).f0))).setCell ⟨gb155,1,none⟩ (.int .i64 ((rd_T50 l0_6 a1).f1))).setCell ⟨gb155,2,none⟩ (.bool ((rd_T50 l0_6 a1).f2))).setCell ⟨gb155,3,none⟩ (.int .i64 ((rd_T50 l0_6 a1).f3))).setCell ⟨gb155,4,none⟩ (.int .i64 ((rd_T50 l0_6 a1).f4))).setCell ⟨gb155,5,none⟩ (.int .i64 ((rd_T50 l0_6 a1).f5)))):=⟨by repeat (first|(with_reducible first|exact HB.out|apply below_alloc|apply pw_below_drewN|apply below_drew1|refine below_set ?_ GE0.out|refine below_set ?_ GE155.out)|exact HB.out)⟩
      (try clear BK0)
      (try clear BK155)
      (try clear HB)
      generalize ((((((w9.setCell ⟨gb155,0,none⟩ (.bool ((rd_T50 l0_6 a1).f0))).setCell ⟨gb155,1,none⟩ (.int .i64 ((rd_T50 l0_6 a1).f1))).setCell ⟨gb155,2,none⟩ (.bool ((rd_T50 l0_6 a1).f2))).setCell ⟨gb155,3,none⟩ (.int .i64 ((rd_T50 l0_6 a1).f3))).setCell ⟨gb155,4,none⟩ (.int .i64 ((rd_T50 l0_6 a1).f4))).setCell ⟨gb155,5,none⟩ (.int .i64 ((rd_T50 l0_6 a1).f5))) = w27 at n0_ n1_ n2_ ⊢
      have BK0:=n0_
      have BK155:=n1_
      have HB:=n2_
      clear n0_ n1_ n2_
      have n0_:=Aside0.mk (blk_drew BK0.out)
      have n1_:=Aside0.mk (blk_drew BK155.out)
      have n2_:=Aside0.mk (below_drew1 HB.out)
      clear BK0
      clear BK155
      clear HB
      have BK0:=n0_
      have BK155:=n1_
      have HB:=n2_
      clear n0_ n1_ n2_
      refine start_ (n:=29) (S:=fun w' => w'.cell? ⟨gb155,0,none⟩ = some (.bool ((rd_T50 l0_6 a1).f0)) ∧ w'.cell? ⟨gb155,1,none⟩ = some (.int .i64 ((rd_T50 l0_6 a1).f1)) ∧ w'.cell? ⟨gb155,2,none⟩ = some (.bool ((rd_T50 l0_6 a1).f2)) ∧ w'.cell? ⟨gb155,3,none⟩ = some (.int .i64 ((rd_T50 l0_6 a1).f3)) ∧ w'.cell? ⟨gb155,4,none⟩ = some (.int .i64 ((rd_T50 l0_6 a1).f4)) ∧ w'.cell? ⟨gb155,5,none⟩ = some (.int .i64 ((rd_T50 l0_6 a1).f5))) (ds:=[]) #[F,F,F,F,F,F,F,F,F,F,F,F,F,F,F,F,F,F,F,F,F,F,F,F,F,F,F,F,F] (by kernel_rfl) rfl rfl ⟨(blk_cell BK155.out 0).trans rfl,(blk_cell BK155.out 1).trans rfl,(blk_cell BK155.out 2).trans rfl,(blk_cell BK155.out 3).trans rfl,(blk_cell BK155.out 4).trans rfl,(blk_cell BK155.out 5).trans rfl⟩ (fun hHeld => ?_)
      generalize w27.drew = w28 at BK0 BK155 HB hHeld ⊢
      refine pure_ (i:=0) (N:=some 17) (v:=?_) (a':=?_) #[T,F,F,F,F,F,F,F,F,F,F,F,F,F,F,F,F,F,F,F,F,F,F,F,F,F,F,F,F] rfl rfl (by kernel_rfl) (fun _ _ _ h => h) (Or.inl ⟨by rfl,?_⟩) ?_ ?_
      rotate_left
      ·
       intro w'
       go_simp
       with_reducible rfl
      rotate_left
      ·
       simp only [Act.put,List.setIfInBounds_toArray,List.set_cons_zero,List.set_cons_succ,i64_w,i32_w]
       rfl
      refine pure_ (i:=2) (N:=some 19) (v:=?_) (a':=?_) #[T,F,T,F,F,F,F,F,F,F,F,F,F,F,F,F,F,F,F,F,F,F,F,F,F,F,F,F,F] rfl rfl (by kernel_rfl) (fun _ _ _ h => h) (Or.inl ⟨by rfl,?_⟩) ?_ ?_
      rotate_left
      ·
       intro w'
       go_simp
       with_reducible rfl
      rotate_left
      ·
       simp only [Act.put,List.setIfInBounds_toArray,List.set_cons_zero,List.set_cons_succ,i64_w,i32_w]
       rfl
      refine take_ (i:=1) (N:=some 18) (v:=?_) (a':=?_) #[T,T,T,F,F,F,F,F,F,F,F,F,F,F,F,F,F,F,F,F,F,F,F,F,F,F,F,F,F] rfl rfl (by kernel_rfl) (fun _ _ _ h => h) (Or.inl ⟨by rfl,?_⟩) hHeld ?_ ?_
      rotate_left
      ·
       rintro w' ⟨s0,s1,s2,s3,s4,s5⟩
       go_simp
       with_reducible rfl
      rotate_left
      ·
       simp only [Act.put,List.setIfInBounds_toArray,List.set_cons_zero,List.set_cons_succ,i64_w,i32_w]
       rfl
      refine one_ (i:=3) (N:=some 20) #[T,T,T,T,F,F,F,F,F,F,F,F,F,F,F,F,F,F,F,F,F,F,F,F,F,F,F,F,F] rfl rfl (by kernel_rfl) (by decide) (fun K hK => ?_)
      refine goes_ Try.func54 (by kernel_rfl) rfl #[.int .i64 ((rd_T50 l0_6 a1).f1),.int .i64 0,.int .i64 t154] (by rfl) rfl rfl (by (try simp only [List.map_toArray,List.map_cons,List.map_nil]);first|done|rfl|(simp only [List.length_drop,List.length_take];rfl)) ?_
      with_reducible refine (impl_in.calls ((rd_T50 l0_6 a1).f1) 0 t154 true _ A16.out).mono ?_
      rintro e w' ⟨rfl,⟨nd,rfl⟩⟩
      refine ⟨_,rfl,?_⟩
      refine hK.out _ _ ⟨(blk_cell BK155.out 0).trans rfl,(blk_cell BK155.out 1).trans rfl,(blk_cell BK155.out 2).trans rfl,(blk_cell BK155.out 3).trans rfl,(blk_cell BK155.out 4).trans rfl,(blk_cell BK155.out 5).trans rfl⟩ (fun hHeld => ?_)
      clear hK K
      refine norm_ (a':=?_) ?_ ?_
      rotate_left
      ·
       show Act.put _ (some 20) _ = _
       simp only [Act.put,List.setIfInBounds_toArray,List.set_cons_zero,List.set_cons_succ,i64_w,i32_w]
       rfl
      refine pure_ (i:=4) (N:=some 21) (v:=?_) (a':=?_) #[T,T,T,T,T,F,F,F,F,F,F,F,F,F,F,F,F,F,F,F,F,F,F,F,F,F,F,F,F] rfl rfl (by kernel_rfl) (fun _ _ _ h => h) (Or.inl ⟨by rfl,?_⟩) ?_ ?_
      rotate_left
      ·
       intro w'
       go_simp
       with_reducible rfl
      rotate_left
      ·
       simp only [Act.put,List.setIfInBounds_toArray,List.set_cons_zero,List.set_cons_succ,i64_w,i32_w]
       rfl
      refine pure_ (i:=5) (N:=some 22) (v:=?_) (a':=?_) #[T,T,T,T,T,T,F,F,F,F,F,F,F,F,F,F,F,F,F,F,F,F,F,F,F,F,F,F,F] rfl rfl (by kernel_rfl) (fun _ _ _ h => h) (Or.inl ⟨by rfl,?_⟩) ?_ ?_
      rotate_left
      ·
       intro w'
       go_simp
       with_reducible rfl
      rotate_left
      ·
       simp only [Act.put,List.setIfInBounds_toArray,List.set_cons_zero,List.set_cons_succ,i64_w,i32_w]
       rfl
      refine pure_ (i:=6) (N:=some 23) (v:=?_) (a':=?_) #[T,T,T,T,T,T,T,F,F,F,F,F,F,F,F,F,F,F,F,F,F,F,F,F,F,F,F,F,F] rfl rfl (by kernel_rfl) (fun _ _ _ h => h) (Or.inl ⟨by rfl,?_⟩) ?_ ?_
      rotate_left
      ·
       intro w'
       go_simp
       with_reducible rfl
      rotate_left
      ·
       simp only [Act.put,List.setIfInBounds_toArray,List.set_cons_zero,List.set_cons_succ,i64_w,i32_w]
       rfl
      refine pure_ (i:=8) (N:=some 25) (v:=?_) (a':=?_) #[T,T,T,T,T,T,T,F,T,F,F,F,F,F,F,F,F,F,F,F,F,F,F,F,F,F,F,F,F] rfl rfl (by kernel_rfl) (fun _ _ _ h => h) (Or.inl ⟨by rfl,?_⟩) ?_ ?_
      rotate_left
      ·
       intro w'
       go_simp
       with_reducible rfl
      rotate_left
      ·
       simp only [Act.put,List.setIfInBounds_toArray,List.set_cons_zero,List.set_cons_succ,i64_w,i32_w]
       rfl
      refine take_ (i:=7) (N:=some 24) (v:=?_) (a':=?_) #[T,T,T,T,T,T,T,T,T,F,F,F,F,F,F,F,F,F,F,F,F,F,F,F,F,F,F,F,F] rfl rfl (by kernel_rfl) (fun _ _ _ h => h) (Or.inl ⟨by rfl,?_⟩) hHeld ?_ ?_
      rotate_left
      ·
       rintro w' ⟨s0,s1,s2,s3,s4,s5⟩
       go_simp
       with_reducible rfl
      rotate_left
      ·
       simp only [Act.put,List.setIfInBounds_toArray,List.set_cons_zero,List.set_cons_succ,i64_w,i32_w]
       rfl
      refine one_ (i:=9) (N:=some 26) #[T,T,T,T,T,T,T,T,T,T,F,F,F,F,F,F,F,F,F,F,F,F,F,F,F,F,F,F,F] rfl rfl (by kernel_rfl) (by decide) (fun K hK => ?_)
      refine goes_ Try.func54 (by kernel_rfl) rfl #[.int .i64 ((rd_T50 l0_6 a1).f5),.int .i64 0,.int .i64 t154] (by rfl) rfl rfl (by (try simp only [List.map_toArray,List.map_cons,List.map_nil]);first|done|rfl|(simp only [List.length_drop,List.length_take];rfl)) ?_
      with_reducible refine (impl_in.calls ((rd_T50 l0_6 a1).f5) 0 t154 false _ A18.out).mono ?_
      rintro e w' ⟨rfl,⟨nd,rfl⟩⟩
      refine ⟨_,rfl,?_⟩
      refine hK.out _ _ ⟨(blk_cell BK155.out 0).trans rfl,(blk_cell BK155.out 1).trans rfl,(blk_cell BK155.out 2).trans rfl,(blk_cell BK155.out 3).trans rfl,(blk_cell BK155.out 4).trans rfl,(blk_cell BK155.out 5).trans rfl⟩ (fun hHeld => ?_)
      clear hK K
      refine norm_ (a':=?_) ?_ ?_
      rotate_left
      ·
       show Act.put _ (some 26) _ = _
       simp only [Act.put,List.setIfInBounds_toArray,List.set_cons_zero,List.set_cons_succ,i64_w,i32_w]
       rfl
      refine pure_ (i:=10) (N:=some 27) (v:=?_) (a':=?_) #[T,T,T,T,T,T,T,T,T,T,T,F,F,F,F,F,F,F,F,F,F,F,F,F,F,F,F,F,F] rfl rfl (by kernel_rfl) (fun _ _ _ h => h) (Or.inl ⟨by rfl,?_⟩) ?_ ?_
      rotate_left
      ·
       intro w'
       go_simp
       with_reducible rfl
      rotate_left
      ·
       simp only [Act.put,List.setIfInBounds_toArray,List.set_cons_zero,List.set_cons_succ,i64_w,i32_w]
       rfl
      refine pure_ (i:=11) (N:=some 28) (v:=?_) (a':=?_) #[T,T,T,T,T,T,T,T,T,T,T,T,F,F,F,F,F,F,F,F,F,F,F,F,F,F,F,F,F] rfl rfl (by kernel_rfl) (fun _ _ _ h => h) (Or.inl ⟨by rfl,?_⟩) ?_ ?_
      rotate_left
      ·
       intro w'
       go_simp
       with_reducible rfl
      rotate_left
      ·
       simp only [Act.put,List.setIfInBounds_toArray,List.set_cons_zero,List.set_cons_succ,i64_w,i32_w]
       rfl
      refine pure_ (i:=12) (N:=some 29) (v:=?_) (a':=?_) #[T,T,T,T,T,T,T,T,T,T,T,T,T,F,F,F,F,F,F,F,F,F,F,F,F,F,F,F,F] rfl rfl (by kernel_rfl) (fun _ _ _ h => h) (Or.inl ⟨by rfl,?_⟩) ?_ ?_
      rotate_left
      ·
       intro w'
       go_simp
       with_reducible rfl
      rotate_left
      ·
       simp only [Act.put,List.setIfInBounds_toArray,List.set_cons_zero,List.set_cons_succ,i64_w,i32_w]
       rfl
      refine pure_ (i:=13) (N:=some 30) (v:=undef) (a':=?_) #[T,T,T,T,T,T,T,T,T,T,T,T,T,T,F,F,F,F,F,F,F,F,F,F,F,F,F,F,F] rfl rfl (by kernel_rfl) (fun _ _ _ h => h) (Or.inr ⟨by rfl,rfl⟩) ?_ ?_
      rotate_left
      ·
       simp only [Act.put,List.setIfInBounds_toArray,List.set_cons_zero,List.set_cons_succ,i64_w,i32_w]
       rfl
      refine pure_ (i:=14) (N:=some 31) (v:=undef) (a':=?_) #[T,T,T,T,T,T,T,T,T,T,T,T,T,T,T,F,F,F,F,F,F,F,F,F,F,F,F,F,F] rfl rfl (by kernel_rfl) (fun _ _ _ h => h) (Or.inr ⟨by rfl,rfl⟩) ?_ ?_
      rotate_left
      ·
       simp only [Act.put,List.setIfInBounds_toArray,List.set_cons_zero,List.set_cons_succ,i64_w,i32_w]
       rfl
      refine pure_ (i:=15) (N:=some 32) (v:=undef) (a':=?_) #[T,T,T,T,T,T,T,T,T,T,T,T,T,T,T,T,F,F,F,F,F,F,F,F,F,F,F,F,F] rfl rfl (by kernel_rfl) (fun _ _ _ h => h) (Or.inr ⟨by rfl,rfl⟩) ?_ ?_
      rotate_left
      ·
       simp only [Act.put,List.setIfInBounds_toArray,List.set_cons_zero,List.set_cons_succ,i64_w,i32_w]
       rfl
      refine pure_ (i:=16) (N:=some 33) (v:=undef) (a':=?_) #[T,T,T,T,T,T,T,T,T,T,T,T,T,T,T,T,T,F,F,F,F,F,F,F,F,F,F,F,F] rfl rfl (by kernel_rfl) (fun _ _ _ h => h) (Or.inr ⟨by rfl,rfl⟩) ?_ ?_
      rotate_left
      ·
       simp only [Act.put,List.setIfInBounds_toArray,List.set_cons_zero,List.set_cons_succ,i64_w,i32_w]
       rfl
      refine pure_ (i:=17) (N:=some 34) (v:=undef) (a':=?_) #[T,T,T,T,T,T,T,T,T,T,T,T,T,T,T,T,T,T,F,F,F,F,F,F,F,F,F,F,F] rfl rfl (by kernel_rfl) (fun _ _ _ h => h) (Or.inr ⟨by rfl,rfl⟩) ?_ ?_
      rotate_left
      ·
       simp only [Act.put,List.setIfInBounds_toArray,List.set_cons_zero,List.set_cons_succ,i64_w,i32_w]
       rfl
      refine pure_ (i:=18) (N:=some 35) (v:=?_) (a':=?_) #[T,T,T,T,T,T,T,T,T,T,T,T,T,T,T,T,T,T,T,F,F,F,F,F,F,F,F,F,F] rfl rfl (by kernel_rfl) (fun _ _ _ h => h) (Or.inl ⟨by rfl,?_⟩) ?_ ?_
      rotate_left
      ·
       intro w'
       go_simp
       with_reducible rfl
      rotate_left
      ·
       simp only [Act.put,List.setIfInBounds_toArray,List.set_cons_zero,List.set_cons_succ,i64_w,i32_w]
       rfl
      refine pure_ (i:=19) (N:=some 36) (v:=?_) (a':=?_) #[T,T,T,T,T,T,T,T,T,T,T,T,T,T,T,T,T,T,T,T,F,F,F,F,F,F,F,F,F] rfl rfl (by kernel_rfl) (fun _ _ _ h => h) (Or.inl ⟨by rfl,?_⟩) ?_ ?_
      rotate_left
      ·
       intro w'
       go_simp
       with_reducible rfl
      rotate_left
      ·
       simp only [Act.put,List.setIfInBounds_toArray,List.set_cons_zero,List.set_cons_succ,i64_w,i32_w]
       rfl
      refine pure_ (i:=20) (N:=some 37) (v:=undef) (a':=?_) #[T,T,T,T,T,T,T,T,T,T,T,T,T,T,T,T,T,T,T,T,T,F,F,F,F,F,F,F,F] rfl rfl (by kernel_rfl) (fun _ _ _ h => h) (Or.inr ⟨by rfl,rfl⟩) ?_ ?_
      rotate_left
      ·
       simp only [Act.put,List.setIfInBounds_toArray,List.set_cons_zero,List.set_cons_succ,i64_w,i32_w]
       rfl
      refine pure_ (i:=21) (N:=some 38) (v:=undef) (a':=?_) #[T,T,T,T,T,T,T,T,T,T,T,T,T,T,T,T,T,T,T,T,T,T,F,F,F,F,F,F,F] rfl rfl (by kernel_rfl) (fun _ _ _ h => h) (Or.inr ⟨by rfl,rfl⟩) ?_ ?_
      rotate_left
      ·
       simp only [Act.put,List.setIfInBounds_toArray,List.set_cons_zero,List.set_cons_succ,i64_w,i32_w]
       rfl
      refine pure_ (i:=22) (N:=some 39) (v:=undef) (a':=?_) #[T,T,T,T,T,T,T,T,T,T,T,T,T,T,T,T,T,T,T,T,T,T,T,F,F,F,F,F,F] rfl rfl (by kernel_rfl) (fun _ _ _ h => h) (Or.inr ⟨by rfl,rfl⟩) ?_ ?_
      rotate_left
      ·
       simp only [Act.put,List.setIfInBounds_toArray,List.set_cons_zero,List.set_cons_succ,i64_w,i32_w]
       rfl
      refine pure_ (i:=23) (N:=some 40) (v:=undef) (a':=?_) #[T,T,T,T,T,T,T,T,T,T,T,T,T,T,T,T,T,T,T,T,T,T,T,T,F,F,F,F,F] rfl rfl (by kernel_rfl) (fun _ _ _ h => h) (Or.inr ⟨by rfl,rfl⟩) ?_ ?_
      rotate_left
      ·
       simp only [Act.put,List.setIfInBounds_toArray,List.set_cons_zero,List.set_cons_succ,i64_w,i32_w]
       rfl
      refine pure_ (i:=24) (N:=some 41) (v:=undef) (a':=?_) #[T,T,T,T,T,T,T,T,T,T,T,T,T,T,T,T,T,T,T,T,T,T,T,T,T,F,F,F,F] rfl rfl (by kernel_rfl) (fun _ _ _ h => h) (Or.inr ⟨by rfl,rfl⟩) ?_ ?_
      rotate_left
      ·
       simp only [Act.put,List.setIfInBounds_toArray,List.set_cons_zero,List.set_cons_succ,i64_w,i32_w]
       rfl
      refine pure_ (i:=25) (N:=some 42) (v:=undef) (a':=?_) #[T,T,T,T,T,T,T,T,T,T,T,T,T,T,T,T,T,T,T,T,T,T,T,T,T,T,F,F,F] rfl rfl (by kernel_rfl) (fun _ _ _ h => h) (Or.inr ⟨by rfl,rfl⟩) ?_ ?_
      rotate_left
      ·
       simp only [Act.put,List.setIfInBounds_toArray,List.set_cons_zero,List.set_cons_succ,i64_w,i32_w]
       rfl
      refine pure_ (i:=26) (N:=some 43) (v:=undef) (a':=?_) #[T,T,T,T,T,T,T,T,T,T,T,T,T,T,T,T,T,T,T,T,T,T,T,T,T,T,T,F,F] rfl rfl (by kernel_rfl) (fun _ _ _ h => h) (Or.inr ⟨by rfl,rfl⟩) ?_ ?_
      rotate_left
      ·
       simp only [Act.put,List.setIfInBounds_toArray,List.set_cons_zero,List.set_cons_succ,i64_w,i32_w]
       rfl
      refine pure_ (i:=27) (N:=some 44) (v:=undef) (a':=?_) #[T,T,T,T,T,T,T,T,T,T,T,T,T,T,T,T,T,T,T,T,T,T,T,T,T,T,T,T,F] rfl rfl (by kernel_rfl) (fun _ _ _ h => h) (Or.inr ⟨by rfl,rfl⟩) ?_ ?_
      rotate_left
      ·
       simp only [Act.put,List.setIfInBounds_toArray,List.set_cons_zero,List.set_cons_succ,i64_w,i32_w]
       rfl
      refine pure_ (i:=28) (N:=some 45) (v:=?_) (a':=?_) #[T,T,T,T,T,T,T,T,T,T,T,T,T,T,T,T,T,T,T,T,T,T,T,T,T,T,T,T,T] rfl rfl (by kernel_rfl) (fun _ _ _ h => h) (Or.inl ⟨by rfl,?_⟩) ?_ ?_
      rotate_left
      ·
       intro w'
       go_simp
       with_reducible rfl
      rotate_left
      ·
       simp only [Act.put,List.setIfInBounds_toArray,List.set_cons_zero,List.set_cons_succ,i64_w,i32_w]
       rfl
      refine done_ (by kernel_rfl) ?_
      try go_wp2
      go_meet
      case rel => exact ⟨_,(true),(a0_0),(a0_1),(a0_2),(a0_4),(a0_5),(by first|rfl|(simp;done)|(simp [*];done)),H',⟨by first|omega|exact Nat.le_refl _⟩,⟨by (with_reducible repeat (first|refine blk_drewN ?_ _|refine blk_drew ?_|refine blk_alloc ?_ _));exact BK0.out⟩,⟨by (with_reducible repeat (first|refine blk_drewN ?_ _|refine blk_drew ?_|refine blk_alloc ?_ _));exact BK155.out⟩,⟨by repeat (first|(with_reducible first|exact HB.out|apply below_alloc|apply pw_below_drewN|apply below_drew1|refine below_set ?_ GE0.out|refine below_set ?_ GE155.out)|exact HB.out)⟩⟩
    ·
     replace c17:=Bool.eq_false_iff.mpr c17
     subst c17
     have H1 : (impl_Ls_hostOk.j0 k true ((rd_T50 l0_6 a1).f0) ((rd_T50 l0_6 a1).f1) ((rd_T50 l0_6 a1).f2) ((rd_T50 l0_6 a1).f3) ((rd_T50 l0_6 a1).f4) ((rd_T50 l0_6 a1).f5)) = some r:=by rw [if_neg (show ¬ (false = true) by decide)] at H;exact H
     clear H
     have H:=H1
     clear H1
     have H':=Aside0.mk H
     clear H
     try go_wp2
     have n0_ : Aside0 (((((((w9.setCell ⟨gb155,0,none⟩ (.bool ((rd_T50 l0_6 a1).f0))).setCell ⟨gb155,1,none⟩ (.int .i64 ((rd_T50 l0_6 a1).f1))).setCell ⟨gb155,2,none⟩ (.bool ((rd_T50 l0_6 a1).f2))).setCell ⟨gb155,3,none⟩ (.int .i64 ((rd_T50 l0_6 a1).f3))).setCell ⟨gb155,4,none⟩ (.int .i64 ((rd_T50 l0_6 a1).f4))).setCell ⟨gb155,5,none⟩ (.int .i64 ((rd_T50 l0_6 a1).f5))).heap[gq0]? = some (.cells #[.int .i64 a0_0,.int .i64 a0_1,.int .i64 a0_2,.slice A0_3 l0_3.length c0_3,.int .i64 a0_4,.int .i64 a0_5,.slice (some ad153) l0_6.length c0_6] 30 (0,0))):=⟨by (with_reducible repeat (first|refine blk_drewN ?_ _|refine blk_drew ?_|refine blk_alloc ?_ _));refine blk_far ?_ NB0_155.out _;(with_reducible repeat (first|refine blk_drewN ?_ _|refine blk_drew ?_|refine blk_alloc ?_ _));refine blk_far ?_ NB0_155.out _;(with_reducible repeat (first|refine blk_drewN ?_ _|refine blk_drew ?_|refine blk_alloc ?_ _));refine blk_far ?_ NB0_155.out _;(with_reducible repeat (first|refine blk_drewN ?_ _|refine blk_drew ?_|refine blk_alloc ?_ _));refine blk_far ?_ NB0_155.out _;(with_reducible repeat (first|refine blk_drewN ?_ _|refine blk_drew ?_|refine blk_alloc ?_ _));refine blk_far ?_ NB0_155.out _;(with_reducible repeat (first|refine blk_drewN ?_ _|refine blk_drew ?_|refine blk_alloc ?_ _));refine blk_far ?_ NB0_155.out _;(with_reducible repeat (first|refine blk_drewN ?_ _|refine blk_drew ?_|refine blk_alloc ?_ _));exact BK0.out⟩
     have n1_ : Aside0 (((((((w9.setCell ⟨gb155,0,none⟩ (.bool ((rd_T50 l0_6 a1).f0))).setCell ⟨gb155,1,none⟩ (.int .i64 ((rd_T50 l0_6 a1).f1))).setCell ⟨gb155,2,none⟩ (.bool ((rd_T50 l0_6 a1).f2))).setCell ⟨gb155,3,none⟩ (.int .i64 ((rd_T50 l0_6 a1).f3))).setCell ⟨gb155,4,none⟩ (.int .i64 ((rd_T50 l0_6 a1).f4))).setCell ⟨gb155,5,none⟩ (.int .i64 ((rd_T50 l0_6 a1).f5))).heap[gb155]? = some (.cells #[.bool ((rd_T50 l0_6 a1).f0),.int .i64 ((rd_T50 l0_6 a1).f1),.bool ((rd_T50 l0_6 a1).f2),.int .i64 ((rd_T50 l0_6 a1).f3),.int .i64 ((rd_T50 l0_6 a1).f4),.int .i64 ((rd_T50 l0_6 a1).f5)] 50 (0,0))):=⟨by (with_reducible repeat (first|refine blk_drewN ?_ _|refine blk_drew ?_|refine blk_alloc ?_ _));refine blk_put (cs:=#[.bool ((rd_T50 l0_6 a1).f0),.int .i64 ((rd_T50 l0_6 a1).f1),.bool ((rd_T50 l0_6 a1).f2),.int .i64 ((rd_T50 l0_6 a1).f3),.int .i64 ((rd_T50 l0_6 a1).f4),.int .i64 0]) ?_ 5 _ rfl;(with_reducible repeat (first|refine blk_drewN ?_ _|refine blk_drew ?_|refine blk_alloc ?_ _));refine blk_put (cs:=#[.bool ((rd_T50 l0_6 a1).f0),.int .i64 ((rd_T50 l0_6 a1).f1),.bool ((rd_T50 l0_6 a1).f2),.int .i64 ((rd_T50 l0_6 a1).f3),.int .i64 0,.int .i64 0]) ?_ 4 _ rfl;(with_reducible repeat (first|refine blk_drewN ?_ _|refine blk_drew ?_|refine blk_alloc ?_ _));refine blk_put (cs:=#[.bool ((rd_T50 l0_6 a1).f0),.int .i64 ((rd_T50 l0_6 a1).f1),.bool ((rd_T50 l0_6 a1).f2),.int .i64 0,.int .i64 0,.int .i64 0]) ?_ 3 _ rfl;(with_reducible repeat (first|refine blk_drewN ?_ _|refine blk_drew ?_|refine blk_alloc ?_ _));refine blk_put (cs:=#[.bool ((rd_T50 l0_6 a1).f0),.int .i64 ((rd_T50 l0_6 a1).f1),.bool false,.int .i64 0,.int .i64 0,.int .i64 0]) ?_ 2 _ rfl;(with_reducible repeat (first|refine blk_drewN ?_ _|refine blk_drew ?_|refine blk_alloc ?_ _));refine blk_put (cs:=#[.bool ((rd_T50 l0_6 a1).f0),.int .i64 0,.bool false,.int .i64 0,.int .i64 0,.int .i64 0]) ?_ 1 _ rfl;(with_reducible repeat (first|refine blk_drewN ?_ _|refine blk_drew ?_|refine blk_alloc ?_ _));refine blk_put (cs:=#[.bool false,.int .i64 0,.bool false,.int .i64 0,.int .i64 0,.int .i64 0]) ?_ 0 _ rfl;(with_reducible repeat (first|refine blk_drewN ?_ _|refine blk_drew ?_|refine blk_alloc ?_ _));exact BK155.out⟩
     have n2_ : Aside0 (Below w.heap.size w ((((((w9.setCell ⟨gb155,0,none⟩ (.bool ((rd_T50 l0_6 a1).f0))).setCell ⟨gb155,1,none⟩ (.int .i64 ((rd_T50 l0_6 a1).f1))).setCell ⟨gb155,2,none⟩ (.bool ((rd_T50 l0_6 a1).f2))).setCell ⟨gb155,3,none⟩ (.int .i64 ((rd_T50 l0_6 a1).f3))).setCell ⟨gb155,4,none⟩ (.int .i64 ((rd_T50 l0_6 a1).f4))).setCell ⟨gb155,5,none⟩ (.int .i64 ((rd_T50 l0_6 a1).f5)))):=⟨by repeat (first|(with_reducible first|exact HB.out|apply below_alloc|apply pw_below_drewN|apply below_drew1|refine below_set ?_ GE0.out|refine below_set ?_ GE155.out)|exact HB.out)⟩
     (try clear BK0)
     (try clear BK155)
     (try clear HB)
     generalize ((((((w9.setCell ⟨gb155,0,none⟩ (.bool ((rd_T50 l0_6 a1).f0))).setCell ⟨gb155,1,none⟩ (.int .i64 ((rd_T50 l0_6 a1).f1))).setCell ⟨gb155,2,none⟩ (.bool ((rd_T50 l0_6 a1).f2))).setCell ⟨gb155,3,none⟩ (.int .i64 ((rd_T50 l0_6 a1).f3))).setCell ⟨gb155,4,none⟩ (.int .i64 ((rd_T50 l0_6 a1).f4))).setCell ⟨gb155,5,none⟩ (.int .i64 ((rd_T50 l0_6 a1).f5))) = w29 at n0_ n1_ n2_ ⊢
     have BK0:=n0_
     have BK155:=n1_
     have HB:=n2_
     clear n0_ n1_ n2_
     have n0_:=Aside0.mk (blk_drew BK0.out)
     have n1_:=Aside0.mk (blk_drew BK155.out)
     have n2_:=Aside0.mk (below_drew1 HB.out)
     clear BK0
     clear BK155
     clear HB
     have BK0:=n0_
     have BK155:=n1_
     have HB:=n2_
     clear n0_ n1_ n2_
     refine start_ (n:=29) (S:=fun w' => w'.cell? ⟨gb155,0,none⟩ = some (.bool ((rd_T50 l0_6 a1).f0)) ∧ w'.cell? ⟨gb155,1,none⟩ = some (.int .i64 ((rd_T50 l0_6 a1).f1)) ∧ w'.cell? ⟨gb155,2,none⟩ = some (.bool ((rd_T50 l0_6 a1).f2)) ∧ w'.cell? ⟨gb155,3,none⟩ = some (.int .i64 ((rd_T50 l0_6 a1).f3)) ∧ w'.cell? ⟨gb155,4,none⟩ = some (.int .i64 ((rd_T50 l0_6 a1).f4)) ∧ w'.cell? ⟨gb155,5,none⟩ = some (.int .i64 ((rd_T50 l0_6 a1).f5))) (ds:=[]) #[F,F,F,F,F,F,F,F,F,F,F,F,F,F,F,F,F,F,F,F,F,F,F,F,F,F,F,F,F] (by kernel_rfl) rfl rfl ⟨(blk_cell BK155.out 0).trans rfl,(blk_cell BK155.out 1).trans rfl,(blk_cell BK155.out 2).trans rfl,(blk_cell BK155.out 3).trans rfl,(blk_cell BK155.out 4).trans rfl,(blk_cell BK155.out 5).trans rfl⟩ (fun hHeld => ?_)
     generalize w29.drew = w30 at BK0 BK155 HB hHeld ⊢
     refine pure_ (i:=0) (N:=some 17) (v:=?_) (a':=?_) #[T,F,F,F,F,F,F,F,F,F,F,F,F,F,F,F,F,F,F,F,F,F,F,F,F,F,F,F,F] rfl rfl (by kernel_rfl) (fun _ _ _ h => h) (Or.inl ⟨by rfl,?_⟩) ?_ ?_
     rotate_left
     ·
      intro w'
      go_simp
      with_reducible rfl
     rotate_left
     ·
      simp only [Act.put,List.setIfInBounds_toArray,List.set_cons_zero,List.set_cons_succ,i64_w,i32_w]
      rfl
     refine pure_ (i:=2) (N:=some 19) (v:=?_) (a':=?_) #[T,F,T,F,F,F,F,F,F,F,F,F,F,F,F,F,F,F,F,F,F,F,F,F,F,F,F,F,F] rfl rfl (by kernel_rfl) (fun _ _ _ h => h) (Or.inl ⟨by rfl,?_⟩) ?_ ?_
     rotate_left
     ·
      intro w'
      go_simp
      with_reducible rfl
     rotate_left
     ·
      simp only [Act.put,List.setIfInBounds_toArray,List.set_cons_zero,List.set_cons_succ,i64_w,i32_w]
      rfl
     refine take_ (i:=1) (N:=some 18) (v:=?_) (a':=?_) #[T,T,T,F,F,F,F,F,F,F,F,F,F,F,F,F,F,F,F,F,F,F,F,F,F,F,F,F,F] rfl rfl (by kernel_rfl) (fun _ _ _ h => h) (Or.inl ⟨by rfl,?_⟩) hHeld ?_ ?_
     rotate_left
     ·
      rintro w' ⟨s0,s1,s2,s3,s4,s5⟩
      go_simp
      with_reducible rfl
     rotate_left
     ·
      simp only [Act.put,List.setIfInBounds_toArray,List.set_cons_zero,List.set_cons_succ,i64_w,i32_w]
      rfl
     refine one_ (i:=3) (N:=some 20) #[T,T,T,T,F,F,F,F,F,F,F,F,F,F,F,F,F,F,F,F,F,F,F,F,F,F,F,F,F] rfl rfl (by kernel_rfl) (by decide) (fun K hK => ?_)
     refine goes_ Try.func54 (by kernel_rfl) rfl #[.int .i64 ((rd_T50 l0_6 a1).f1),.int .i64 0,.int .i64 t154] (by rfl) rfl rfl (by (try simp only [List.map_toArray,List.map_cons,List.map_nil]);first|done|rfl|(simp only [List.length_drop,List.length_take];rfl)) ?_
     with_reducible refine (impl_in.calls ((rd_T50 l0_6 a1).f1) 0 t154 false _ A16.out).mono ?_
     rintro e w' ⟨rfl,⟨nd,rfl⟩⟩
     refine ⟨_,rfl,?_⟩
     refine hK.out _ _ ⟨(blk_cell BK155.out 0).trans rfl,(blk_cell BK155.out 1).trans rfl,(blk_cell BK155.out 2).trans rfl,(blk_cell BK155.out 3).trans rfl,(blk_cell BK155.out 4).trans rfl,(blk_cell BK155.out 5).trans rfl⟩ (fun hHeld => ?_)
     clear hK K
     refine norm_ (a':=?_) ?_ ?_
     rotate_left
     ·
      show Act.put _ (some 20) _ = _
      simp only [Act.put,List.setIfInBounds_toArray,List.set_cons_zero,List.set_cons_succ,i64_w,i32_w]
      rfl
     refine pure_ (i:=4) (N:=some 21) (v:=?_) (a':=?_) #[T,T,T,T,T,F,F,F,F,F,F,F,F,F,F,F,F,F,F,F,F,F,F,F,F,F,F,F,F] rfl rfl (by kernel_rfl) (fun _ _ _ h => h) (Or.inl ⟨by rfl,?_⟩) ?_ ?_
     rotate_left
     ·
      intro w'
      go_simp
      with_reducible rfl
     rotate_left
     ·
      simp only [Act.put,List.setIfInBounds_toArray,List.set_cons_zero,List.set_cons_succ,i64_w,i32_w]
      rfl
     refine pure_ (i:=5) (N:=some 22) (v:=?_) (a':=?_) #[T,T,T,T,T,T,F,F,F,F,F,F,F,F,F,F,F,F,F,F,F,F,F,F,F,F,F,F,F] rfl rfl (by kernel_rfl) (fun _ _ _ h => h) (Or.inl ⟨by rfl,?_⟩) ?_ ?_
     rotate_left
     ·
      intro w'
      go_simp
      with_reducible rfl
     rotate_left
     ·
      simp only [Act.put,List.setIfInBounds_toArray,List.set_cons_zero,List.set_cons_succ,i64_w,i32_w]
      rfl
     refine pure_ (i:=6) (N:=some 23) (v:=undef) (a':=?_) #[T,T,T,T,T,T,T,F,F,F,F,F,F,F,F,F,F,F,F,F,F,F,F,F,F,F,F,F,F] rfl rfl (by kernel_rfl) (fun _ _ _ h => h) (Or.inr ⟨by rfl,rfl⟩) ?_ ?_
     rotate_left
     ·
      simp only [Act.put,List.setIfInBounds_toArray,List.set_cons_zero,List.set_cons_succ,i64_w,i32_w]
      rfl
     refine pure_ (i:=7) (N:=some 24) (v:=undef) (a':=?_) #[T,T,T,T,T,T,T,T,F,F,F,F,F,F,F,F,F,F,F,F,F,F,F,F,F,F,F,F,F] rfl rfl (by kernel_rfl) (fun _ _ _ h => h) (Or.inr ⟨by rfl,rfl⟩) ?_ ?_
     rotate_left
     ·
      simp only [Act.put,List.setIfInBounds_toArray,List.set_cons_zero,List.set_cons_succ,i64_w,i32_w]
      rfl
     refine pure_ (i:=8) (N:=some 25) (v:=undef) (a':=?_) #[T,T,T,T,T,T,T,T,T,F,F,F,F,F,F,F,F,F,F,F,F,F,F,F,F,F,F,F,F] rfl rfl (by kernel_rfl) (fun _ _ _ h => h) (Or.inr ⟨by rfl,rfl⟩) ?_ ?_
     rotate_left
     ·
      simp only [Act.put,List.setIfInBounds_toArray,List.set_cons_zero,List.set_cons_succ,i64_w,i32_w]
      rfl
     refine pure_ (i:=9) (N:=some 26) (v:=undef) (a':=?_) #[T,T,T,T,T,T,T,T,T,T,F,F,F,F,F,F,F,F,F,F,F,F,F,F,F,F,F,F,F] rfl rfl (by kernel_rfl) (fun _ _ _ h => h) (Or.inr ⟨by rfl,rfl⟩) ?_ ?_
     rotate_left
     ·
      simp only [Act.put,List.setIfInBounds_toArray,List.set_cons_zero,List.set_cons_succ,i64_w,i32_w]
      rfl
     refine pure_ (i:=10) (N:=some 27) (v:=undef) (a':=?_) #[T,T,T,T,T,T,T,T,T,T,T,F,F,F,F,F,F,F,F,F,F,F,F,F,F,F,F,F,F] rfl rfl (by kernel_rfl) (fun _ _ _ h => h) (Or.inr ⟨by rfl,rfl⟩) ?_ ?_
     rotate_left
     ·
      simp only [Act.put,List.setIfInBounds_toArray,List.set_cons_zero,List.set_cons_succ,i64_w,i32_w]
      rfl
     refine pure_ (i:=11) (N:=some 28) (v:=?_) (a':=?_) #[T,T,T,T,T,T,T,T,T,T,T,T,F,F,F,F,F,F,F,F,F,F,F,F,F,F,F,F,F] rfl rfl (by kernel_rfl) (fun _ _ _ h => h) (Or.inl ⟨by rfl,?_⟩) ?_ ?_
     rotate_left
     ·
      intro w'
      go_simp
      with_reducible rfl
     rotate_left
     ·
      simp only [Act.put,List.setIfInBounds_toArray,List.set_cons_zero,List.set_cons_succ,i64_w,i32_w]
      rfl
     refine pure_ (i:=12) (N:=some 29) (v:=?_) (a':=?_) #[T,T,T,T,T,T,T,T,T,T,T,T,T,F,F,F,F,F,F,F,F,F,F,F,F,F,F,F,F] rfl rfl (by kernel_rfl) (fun _ _ _ h => h) (Or.inl ⟨by rfl,?_⟩) ?_ ?_
     rotate_left
     ·
      intro w'
      go_simp
      with_reducible rfl
     rotate_left
     ·
      simp only [Act.put,List.setIfInBounds_toArray,List.set_cons_zero,List.set_cons_succ,i64_w,i32_w]
      rfl
     refine pure_ (i:=13) (N:=some 30) (v:=undef) (a':=?_) #[T,T,T,T,T,T,T,T,T,T,T,T,T,T,F,F,F,F,F,F,F,F,F,F,F,F,F,F,F] rfl rfl (by kernel_rfl) (fun _ _ _ h => h) (Or.inr ⟨by rfl,rfl⟩) ?_ ?_
     rotate_left
     ·
      simp only [Act.put,List.setIfInBounds_toArray,List.set_cons_zero,List.set_cons_succ,i64_w,i32_w]
      rfl
     refine pure_ (i:=14) (N:=some 31) (v:=undef) (a':=?_) #[T,T,T,T,T,T,T,T,T,T,T,T,T,T,T,F,F,F,F,F,F,F,F,F,F,F,F,F,F] rfl rfl (by kernel_rfl) (fun _ _ _ h => h) (Or.inr ⟨by rfl,rfl⟩) ?_ ?_
     rotate_left
     ·
      simp only [Act.put,List.setIfInBounds_toArray,List.set_cons_zero,List.set_cons_succ,i64_w,i32_w]
      rfl
     refine pure_ (i:=15) (N:=some 32) (v:=undef) (a':=?_) #[T,T,T,T,T,T,T,T,T,T,T,T,T,T,T,T,F,F,F,F,F,F,F,F,F,F,F,F,F] rfl rfl (by kernel_rfl) (fun _ _ _ h => h) (Or.inr ⟨by rfl,rfl⟩) ?_ ?_
     rotate_left
     ·
      simp only [Act.put,List.setIfInBounds_toArray,List.set_cons_zero,List.set_cons_succ,i64_w,i32_w]
      rfl
     refine pure_ (i:=16) (N:=some 33) (v:=undef) (a':=?_) #[T,T,T,T,T,T,T,T,T,T,T,T,T,T,T,T,T,F,F,F,F,F,F,F,F,F,F,F,F] rfl rfl (by kernel_rfl) (fun _ _ _ h => h) (Or.inr ⟨by rfl,rfl⟩) ?_ ?_
     rotate_left
     ·
      simp only [Act.put,List.setIfInBounds_toArray,List.set_cons_zero,List.set_cons_succ,i64_w,i32_w]
      rfl
     refine pure_ (i:=17) (N:=some 34) (v:=undef) (a':=?_) #[T,T,T,T,T,T,T,T,T,T,T,T,T,T,T,T,T,T,F,F,F,F,F,F,F,F,F,F,F] rfl rfl (by kernel_rfl) (fun _ _ _ h => h) (Or.inr ⟨by rfl,rfl⟩) ?_ ?_
     rotate_left
     ·
      simp only [Act.put,List.setIfInBounds_toArray,List.set_cons_zero,List.set_cons_succ,i64_w,i32_w]
      rfl
     refine pure_ (i:=18) (N:=some 35) (v:=?_) (a':=?_) #[T,T,T,T,T,T,T,T,T,T,T,T,T,T,T,T,T,T,T,F,F,F,F,F,F,F,F,F,F] rfl rfl (by kernel_rfl) (fun _ _ _ h => h) (Or.inl ⟨by rfl,?_⟩) ?_ ?_
     rotate_left
     ·
      intro w'
      go_simp
      with_reducible rfl
     rotate_left
     ·
      simp only [Act.put,List.setIfInBounds_toArray,List.set_cons_zero,List.set_cons_succ,i64_w,i32_w]
      rfl
     refine pure_ (i:=19) (N:=some 36) (v:=?_) (a':=?_) #[T,T,T,T,T,T,T,T,T,T,T,T,T,T,T,T,T,T,T,T,F,F,F,F,F,F,F,F,F] rfl rfl (by kernel_rfl) (fun _ _ _ h => h) (Or.inl ⟨by rfl,?_⟩) ?_ ?_
     rotate_left
     ·
      intro w'
      go_simp
      with_reducible rfl
     rotate_left
     ·
      simp only [Act.put,List.setIfInBounds_toArray,List.set_cons_zero,List.set_cons_succ,i64_w,i32_w]
      rfl
     refine pure_ (i:=20) (N:=some 37) (v:=undef) (a':=?_) #[T,T,T,T,T,T,T,T,T,T,T,T,T,T,T,T,T,T,T,T,T,F,F,F,F,F,F,F,F] rfl rfl (by kernel_rfl) (fun _ _ _ h => h) (Or.inr ⟨by rfl,rfl⟩) ?_ ?_
     rotate_left
     ·
      simp only [Act.put,List.setIfInBounds_toArray,List.set_cons_zero,List.set_cons_succ,i64_w,i32_w]
      rfl
     refine pure_ (i:=21) (N:=some 38) (v:=undef) (a':=?_) #[T,T,T,T,T,T,T,T,T,T,T,T,T,T,T,T,T,T,T,T,T,T,F,F,F,F,F,F,F] rfl rfl (by kernel_rfl) (fun _ _ _ h => h) (Or.inr ⟨by rfl,rfl⟩) ?_ ?_
     rotate_left
     ·
      simp only [Act.put,List.setIfInBounds_toArray,List.set_cons_zero,List.set_cons_succ,i64_w,i32_w]
      rfl
     refine pure_ (i:=22) (N:=some 39) (v:=undef) (a':=?_) #[T,T,T,T,T,T,T,T,T,T,T,T,T,T,T,T,T,T,T,T,T,T,T,F,F,F,F,F,F] rfl rfl (by kernel_rfl) (fun _ _ _ h => h) (Or.inr ⟨by rfl,rfl⟩) ?_ ?_
     rotate_left
     ·
      simp only [Act.put,List.setIfInBounds_toArray,List.set_cons_zero,List.set_cons_succ,i64_w,i32_w]
      rfl
     refine pure_ (i:=23) (N:=some 40) (v:=undef) (a':=?_) #[T,T,T,T,T,T,T,T,T,T,T,T,T,T,T,T,T,T,T,T,T,T,T,T,F,F,F,F,F] rfl rfl (by kernel_rfl) (fun _ _ _ h => h) (Or.inr ⟨by rfl,rfl⟩) ?_ ?_
     rotate_left
     ·
      simp only [Act.put,List.setIfInBounds_toArray,List.set_cons_zero,List.set_cons_succ,i64_w,i32_w]
      rfl
     refine pure_ (i:=24) (N:=some 41) (v:=undef) (a':=?_) #[T,T,T,T,T,T,T,T,T,T,T,T,T,T,T,T,T,T,T,T,T,T,T,T,T,F,F,F,F] rfl rfl (by kernel_rfl) (fun _ _ _ h => h) (Or.inr ⟨by rfl,rfl⟩) ?_ ?_
     rotate_left
     ·
      simp only [Act.put,List.setIfInBounds_toArray,List.set_cons_zero,List.set_cons_succ,i64_w,i32_w]
      rfl
     refine pure_ (i:=25) (N:=some 42) (v:=undef) (a':=?_) #[T,T,T,T,T,T,T,T,T,T,T,T,T,T,T,T,T,T,T,T,T,T,T,T,T,T,F,F,F] rfl rfl (by kernel_rfl) (fun _ _ _ h => h) (Or.inr ⟨by rfl,rfl⟩) ?_ ?_
     rotate_left
     ·
      simp only [Act.put,List.setIfInBounds_toArray,List.set_cons_zero,List.set_cons_succ,i64_w,i32_w]
      rfl
     refine pure_ (i:=26) (N:=some 43) (v:=undef) (a':=?_) #[T,T,T,T,T,T,T,T,T,T,T,T,T,T,T,T,T,T,T,T,T,T,T,T,T,T,T,F,F] rfl rfl (by kernel_rfl) (fun _ _ _ h => h) (Or.inr ⟨by rfl,rfl⟩) ?_ ?_
     rotate_left
     ·
      simp only [Act.put,List.setIfInBounds_toArray,List.set_cons_zero,List.set_cons_succ,i64_w,i32_w]
      rfl
     refine pure_ (i:=27) (N:=some 44) (v:=undef) (a':=?_) #[T,T,T,T,T,T,T,T,T,T,T,T,T,T,T,T,T,T,T,T,T,T,T,T,T,T,T,T,F] rfl rfl (by kernel_rfl) (fun _ _ _ h => h) (Or.inr ⟨by rfl,rfl⟩) ?_ ?_
     rotate_left
     ·
      simp only [Act.put,List.setIfInBounds_toArray,List.set_cons_zero,List.set_cons_succ,i64_w,i32_w]
      rfl
     refine pure_ (i:=28) (N:=some 45) (v:=?_) (a':=?_) #[T,T,T,T,T,T,T,T,T,T,T,T,T,T,T,T,T,T,T,T,T,T,T,T,T,T,T,T,T] rfl rfl (by kernel_rfl) (fun _ _ _ h => h) (Or.inl ⟨by rfl,?_⟩) ?_ ?_
     rotate_left
     ·
      intro w'
      go_simp
      with_reducible rfl
     rotate_left
     ·
      simp only [Act.put,List.setIfInBounds_toArray,List.set_cons_zero,List.set_cons_succ,i64_w,i32_w]
      rfl
     refine done_ (by kernel_rfl) ?_
     try go_wp2
     go_meet
     case rel => exact ⟨_,(true),(a0_0),(a0_1),(a0_2),(a0_4),(a0_5),(by first|rfl|(simp;done)|(simp [*];done)),H',⟨by first|omega|exact Nat.le_refl _⟩,⟨by (with_reducible repeat (first|refine blk_drewN ?_ _|refine blk_drew ?_|refine blk_alloc ?_ _));exact BK0.out⟩,⟨by (with_reducible repeat (first|refine blk_drewN ?_ _|refine blk_drew ?_|refine blk_alloc ?_ _));exact BK155.out⟩,⟨by repeat (first|(with_reducible first|exact HB.out|apply below_alloc|apply pw_below_drewN|apply below_drew1|refine below_set ?_ GE0.out|refine below_set ?_ GE155.out)|exact HB.out)⟩⟩
   case rest =>
    clear HC6
    try clear c1
    try clear p2
    try clear c5
    try clear c7
    try clear c17
    try clear c19
    obtain ⟨kq,x45_5,x1000_5,x1001_5,x1002_5,x1004_5,x1005_5,rfl,HA,HJ5,BK0,BK155,HB⟩:=hcut
    cases kq with
    | zero => exact absurd HA.out (by simp [impl_Ls_hostOk.j0])
    | succ kj5 =>
     have H:=HA.out
     clear HA
     simp only [impl_Ls_hostOk.j0] at H
     by_cases c31 : x45_5 = true
     ·
      subst c31
      have H1 : (some false) = some r:=by rw [if_pos rfl] at H;exact H
      clear H
      have H:=H1
      clear H1
      obtain rfl:=Option.some.inj H
      go_wp2
      go_ret
      exact ⟨by first|rfl|(simp [errW_none,errW_some] <;> rfl)|(simp [*,errW_none,errW_some] <;> rfl),by repeat (first|(with_reducible first|exact HB.out|apply below_alloc|apply pw_below_drewN|apply below_drew1|refine below_set ?_ GE0.out|refine below_set ?_ GE155.out)|exact HB.out)⟩
     ·
      replace c31:=Bool.eq_false_iff.mpr c31
      subst c31
      have H1 : (if ((rd_T50 l0_6 a1).f0) = true then (if ((rd_T50 l0_6 a1).f2) = true then (some true) else (if ((rd_T50 l0_6 a1).f3) = (-1) then (if ((rd_T50 l0_6 a1).f4) = 0 then (some (((rd_T50 l0_6 a1).f5) == 0)) else (some false)) else (some false))) else (if ((rd_T50 l0_6 a1).f1) = 0 then (if ((rd_T50 l0_6 a1).f2) = true then (some true) else (if ((rd_T50 l0_6 a1).f3) = (-1) then (if ((rd_T50 l0_6 a1).f4) = 0 then (some (((rd_T50 l0_6 a1).f5) == 0)) else (some false)) else (some false))) else (some false))) = some r:=by rw [if_neg (show ¬ (false = true) by decide)] at H;exact H
      clear H
      have H:=H1
      clear H1
      by_cases c32 : ((rd_T50 l0_6 a1).f0) = true
      ·
       rw [if_pos c32] at H
       have c32b0 : ((rd_T50 l0_6 a1).f0) = true:=c32
       clear c32
       by_cases c33 : ((rd_T50 l0_6 a1).f2) = true
       ·
        rw [if_pos c33] at H
        have c33b0 : ((rd_T50 l0_6 a1).f2) = true:=c33
        clear c33
        obtain rfl:=Option.some.inj H
        have hnb34:=NB155_0.out
        have hnc34:=NB0_155.out
        have hcz35_0 : wc.cell? ⟨gb155,0,none⟩ = some (.bool ((rd_T50 l0_6 a1).f0)):=(blk_cell BK155.out 0).trans rfl
        have hcz35_1 : wc.cell? ⟨gb155,1,none⟩ = some (.int .i64 ((rd_T50 l0_6 a1).f1)):=(blk_cell BK155.out 1).trans rfl
        have hcz35_2 : wc.cell? ⟨gb155,2,none⟩ = some (.bool ((rd_T50 l0_6 a1).f2)):=(blk_cell BK155.out 2).trans rfl
        have hcz35_3 : wc.cell? ⟨gb155,3,none⟩ = some (.int .i64 ((rd_T50 l0_6 a1).f3)):=(blk_cell BK155.out 3).trans rfl
        have hcz35_4 : wc.cell? ⟨gb155,4,none⟩ = some (.int .i64 ((rd_T50 l0_6 a1).f4)):=(blk_cell BK155.out 4).trans rfl
        have hcz35_5 : wc.cell? ⟨gb155,5,none⟩ = some (.int .i64 ((rd_T50 l0_6 a1).f5)):=(blk_cell BK155.out 5).trans rfl
        have hfz35_0:=blk_frozen BK155.out 0
        have hfz35_1:=blk_frozen BK155.out 1
        have hfz35_2:=blk_frozen BK155.out 2
        have hfz35_3:=blk_frozen BK155.out 3
        have hfz35_4:=blk_frozen BK155.out 4
        have hfz35_5:=blk_frozen BK155.out 5
        go_wp2
        go_ret
        exact ⟨by first|rfl|(simp [errW_none,errW_some] <;> rfl)|(simp [*,errW_none,errW_some] <;> rfl),by repeat (first|(with_reducible first|exact HB.out|apply below_alloc|apply pw_below_drewN|apply below_drew1|refine below_set ?_ GE0.out|refine below_set ?_ GE155.out)|exact HB.out)⟩
       ·
        rw [if_neg c33] at H
        have c33b0 : ((rd_T50 l0_6 a1).f2) = false:=by simpa using c33
        clear c33
        by_cases c36 : ((rd_T50 l0_6 a1).f3) = (-1)
        ·
         rw [if_pos c36] at H
         have c36b0 : (((rd_T50 l0_6 a1).f3) == (-1)) = true:=beq_iff_eq.mpr c36
         have c36b1 : (((rd_T50 l0_6 a1).f3) != (-1)) = false:=bne_eq_false_iff_eq.mpr c36
         clear c36
         by_cases c37 : ((rd_T50 l0_6 a1).f4) = 0
         ·
          rw [if_pos c37] at H
          have c37b0 : (((rd_T50 l0_6 a1).f4) == 0) = true:=beq_iff_eq.mpr c37
          have c37b1 : (((rd_T50 l0_6 a1).f4) != 0) = false:=bne_eq_false_iff_eq.mpr c37
          clear c37
          obtain rfl:=Option.some.inj H
          have hnb38:=NB155_0.out
          have hnc38:=NB0_155.out
          have hcz39_0 : wc.cell? ⟨gb155,0,none⟩ = some (.bool ((rd_T50 l0_6 a1).f0)):=(blk_cell BK155.out 0).trans rfl
          have hcz39_1 : wc.cell? ⟨gb155,1,none⟩ = some (.int .i64 ((rd_T50 l0_6 a1).f1)):=(blk_cell BK155.out 1).trans rfl
          have hcz39_2 : wc.cell? ⟨gb155,2,none⟩ = some (.bool ((rd_T50 l0_6 a1).f2)):=(blk_cell BK155.out 2).trans rfl
          have hcz39_3 : wc.cell? ⟨gb155,3,none⟩ = some (.int .i64 ((rd_T50 l0_6 a1).f3)):=(blk_cell BK155.out 3).trans rfl
          have hcz39_4 : wc.cell? ⟨gb155,4,none⟩ = some (.int .i64 ((rd_T50 l0_6 a1).f4)):=(blk_cell BK155.out 4).trans rfl
          have hcz39_5 : wc.cell? ⟨gb155,5,none⟩ = some (.int .i64 ((rd_T50 l0_6 a1).f5)):=(blk_cell BK155.out 5).trans rfl
          have hfz39_0:=blk_frozen BK155.out 0
          have hfz39_1:=blk_frozen BK155.out 1
          have hfz39_2:=blk_frozen BK155.out 2
          have hfz39_3:=blk_frozen BK155.out 3
          have hfz39_4:=blk_frozen BK155.out 4
          have hfz39_5:=blk_frozen BK155.out 5
          go_wp2
          go_ret
          exact ⟨by first|rfl|(simp [errW_none,errW_some] <;> rfl)|(simp [*,errW_none,errW_some] <;> rfl),by repeat (first|(with_reducible first|exact HB.out|apply below_alloc|apply pw_below_drewN|apply below_drew1|refine below_set ?_ GE0.out|refine below_set ?_ GE155.out)|exact HB.out)⟩
         ·
          rw [if_neg c37] at H
          have c37b0 : (((rd_T50 l0_6 a1).f4) == 0) = false:=beq_eq_false_iff_ne.mpr c37
          have c37b1 : (((rd_T50 l0_6 a1).f4) != 0) = true:=bne_iff_ne.mpr c37
          obtain rfl:=Option.some.inj H
          have hnb40:=NB155_0.out
          have hnc40:=NB0_155.out
          have hcz41_0 : wc.cell? ⟨gb155,0,none⟩ = some (.bool ((rd_T50 l0_6 a1).f0)):=(blk_cell BK155.out 0).trans rfl
          have hcz41_1 : wc.cell? ⟨gb155,1,none⟩ = some (.int .i64 ((rd_T50 l0_6 a1).f1)):=(blk_cell BK155.out 1).trans rfl
          have hcz41_2 : wc.cell? ⟨gb155,2,none⟩ = some (.bool ((rd_T50 l0_6 a1).f2)):=(blk_cell BK155.out 2).trans rfl
          have hcz41_3 : wc.cell? ⟨gb155,3,none⟩ = some (.int .i64 ((rd_T50 l0_6 a1).f3)):=(blk_cell BK155.out 3).trans rfl
          have hcz41_4 : wc.cell? ⟨gb155,4,none⟩ = some (.int .i64 ((rd_T50 l0_6 a1).f4)):=(blk_cell BK155.out 4).trans rfl
          have hcz41_5 : wc.cell? ⟨gb155,5,none⟩ = some (.int .i64 ((rd_T50 l0_6 a1).f5)):=(blk_cell BK155.out 5).trans rfl
          have hfz41_0:=blk_frozen BK155.out 0
          have hfz41_1:=blk_frozen BK155.out 1
          have hfz41_2:=blk_frozen BK155.out 2
          have hfz41_3:=blk_frozen BK155.out 3
          have hfz41_4:=blk_frozen BK155.out 4
          have hfz41_5:=blk_frozen BK155.out 5
          go_wp2
          go_ret
          exact ⟨by first|rfl|(simp [errW_none,errW_some] <;> rfl)|(simp [*,errW_none,errW_some] <;> rfl),by repeat (first|(with_reducible first|exact HB.out|apply below_alloc|apply pw_below_drewN|apply below_drew1|refine below_set ?_ GE0.out|refine below_set ?_ GE155.out)|exact HB.out)⟩
        ·
         rw [if_neg c36] at H
         have c36b0 : (((rd_T50 l0_6 a1).f3) == (-1)) = false:=beq_eq_false_iff_ne.mpr c36
         have c36b1 : (((rd_T50 l0_6 a1).f3) != (-1)) = true:=bne_iff_ne.mpr c36
         obtain rfl:=Option.some.inj H
         have hnb42:=NB155_0.out
         have hnc42:=NB0_155.out
         have hcz43_0 : wc.cell? ⟨gb155,0,none⟩ = some (.bool ((rd_T50 l0_6 a1).f0)):=(blk_cell BK155.out 0).trans rfl
         have hcz43_1 : wc.cell? ⟨gb155,1,none⟩ = some (.int .i64 ((rd_T50 l0_6 a1).f1)):=(blk_cell BK155.out 1).trans rfl
         have hcz43_2 : wc.cell? ⟨gb155,2,none⟩ = some (.bool ((rd_T50 l0_6 a1).f2)):=(blk_cell BK155.out 2).trans rfl
         have hcz43_3 : wc.cell? ⟨gb155,3,none⟩ = some (.int .i64 ((rd_T50 l0_6 a1).f3)):=(blk_cell BK155.out 3).trans rfl
         have hcz43_4 : wc.cell? ⟨gb155,4,none⟩ = some (.int .i64 ((rd_T50 l0_6 a1).f4)):=(blk_cell BK155.out 4).trans rfl
         have hcz43_5 : wc.cell? ⟨gb155,5,none⟩ = some (.int .i64 ((rd_T50 l0_6 a1).f5)):=(blk_cell BK155.out 5).trans rfl
         have hfz43_0:=blk_frozen BK155.out 0
         have hfz43_1:=blk_frozen BK155.out 1
         have hfz43_2:=blk_frozen BK155.out 2
         have hfz43_3:=blk_frozen BK155.out 3
         have hfz43_4:=blk_frozen BK155.out 4
         have hfz43_5:=blk_frozen BK155.out 5
         go_wp2
         go_ret
         exact ⟨by first|rfl|(simp [errW_none,errW_some] <;> rfl)|(simp [*,errW_none,errW_some] <;> rfl),by repeat (first|(with_reducible first|exact HB.out|apply below_alloc|apply pw_below_drewN|apply below_drew1|refine below_set ?_ GE0.out|refine below_set ?_ GE155.out)|exact HB.out)⟩
      ·
       rw [if_neg c32] at H
       have c32b0 : ((rd_T50 l0_6 a1).f0) = false:=by simpa using c32
       clear c32
       by_cases c44 : ((rd_T50 l0_6 a1).f1) = 0
       ·
        rw [if_pos c44] at H
        have c44b0 : (((rd_T50 l0_6 a1).f1) == 0) = true:=beq_iff_eq.mpr c44
        have c44b1 : (((rd_T50 l0_6 a1).f1) != 0) = false:=bne_eq_false_iff_eq.mpr c44
        clear c44
        by_cases c45 : ((rd_T50 l0_6 a1).f2) = true
        ·
         rw [if_pos c45] at H
         have c45b0 : ((rd_T50 l0_6 a1).f2) = true:=c45
         clear c45
         obtain rfl:=Option.some.inj H
         have hnb46:=NB155_0.out
         have hnc46:=NB0_155.out
         have hcz47_0 : wc.cell? ⟨gb155,0,none⟩ = some (.bool ((rd_T50 l0_6 a1).f0)):=(blk_cell BK155.out 0).trans rfl
         have hcz47_1 : wc.cell? ⟨gb155,1,none⟩ = some (.int .i64 ((rd_T50 l0_6 a1).f1)):=(blk_cell BK155.out 1).trans rfl
         have hcz47_2 : wc.cell? ⟨gb155,2,none⟩ = some (.bool ((rd_T50 l0_6 a1).f2)):=(blk_cell BK155.out 2).trans rfl
         have hcz47_3 : wc.cell? ⟨gb155,3,none⟩ = some (.int .i64 ((rd_T50 l0_6 a1).f3)):=(blk_cell BK155.out 3).trans rfl
         have hcz47_4 : wc.cell? ⟨gb155,4,none⟩ = some (.int .i64 ((rd_T50 l0_6 a1).f4)):=(blk_cell BK155.out 4).trans rfl
         have hcz47_5 : wc.cell? ⟨gb155,5,none⟩ = some (.int .i64 ((rd_T50 l0_6 a1).f5)):=(blk_cell BK155.out 5).trans rfl
         have hfz47_0:=blk_frozen BK155.out 0
         have hfz47_1:=blk_frozen BK155.out 1
         have hfz47_2:=blk_frozen BK155.out 2
         have hfz47_3:=blk_frozen BK155.out 3
         have hfz47_4:=blk_frozen BK155.out 4
         have hfz47_5:=blk_frozen BK155.out 5
         go_wp2
         go_ret
         exact ⟨by first|rfl|(simp [errW_none,errW_some] <;> rfl)|(simp [*,errW_none,errW_some] <;> rfl),by repeat (first|(with_reducible first|exact HB.out|apply below_alloc|apply pw_below_drewN|apply below_drew1|refine below_set ?_ GE0.out|refine below_set ?_ GE155.out)|exact HB.out)⟩
        ·
         rw [if_neg c45] at H
         have c45b0 : ((rd_T50 l0_6 a1).f2) = false:=by simpa using c45
         clear c45
         by_cases c48 : ((rd_T50 l0_6 a1).f3) = (-1)
         ·
          rw [if_pos c48] at H
          have c48b0 : (((rd_T50 l0_6 a1).f3) == (-1)) = true:=beq_iff_eq.mpr c48
          have c48b1 : (((rd_T50 l0_6 a1).f3) != (-1)) = false:=bne_eq_false_iff_eq.mpr c48
          clear c48
          by_cases c49 : ((rd_T50 l0_6 a1).f4) = 0
          ·
           rw [if_pos c49] at H
           have c49b0 : (((rd_T50 l0_6 a1).f4) == 0) = true:=beq_iff_eq.mpr c49
           have c49b1 : (((rd_T50 l0_6 a1).f4) != 0) = false:=bne_eq_false_iff_eq.mpr c49
           clear c49
           obtain rfl:=Option.some.inj H
           have hnb50:=NB155_0.out
           have hnc50:=NB0_155.out
           have hcz51_0 : wc.cell? ⟨gb155,0,none⟩ = some (.bool ((rd_T50 l0_6 a1).f0)):=(blk_cell BK155.out 0).trans rfl
           have hcz51_1 : wc.cell? ⟨gb155,1,none⟩ = some (.int .i64 ((rd_T50 l0_6 a1).f1)):=(blk_cell BK155.out 1).trans rfl
           have hcz51_2 : wc.cell? ⟨gb155,2,none⟩ = some (.bool ((rd_T50 l0_6 a1).f2)):=(blk_cell BK155.out 2).trans rfl
           have hcz51_3 : wc.cell? ⟨gb155,3,none⟩ = some (.int .i64 ((rd_T50 l0_6 a1).f3)):=(blk_cell BK155.out 3).trans rfl
           have hcz51_4 : wc.cell? ⟨gb155,4,none⟩ = some (.int .i64 ((rd_T50 l0_6 a1).f4)):=(blk_cell BK155.out 4).trans rfl
           have hcz51_5 : wc.cell? ⟨gb155,5,none⟩ = some (.int .i64 ((rd_T50 l0_6 a1).f5)):=(blk_cell BK155.out 5).trans rfl
           have hfz51_0:=blk_frozen BK155.out 0
           have hfz51_1:=blk_frozen BK155.out 1
           have hfz51_2:=blk_frozen BK155.out 2
           have hfz51_3:=blk_frozen BK155.out 3
           have hfz51_4:=blk_frozen BK155.out 4
           have hfz51_5:=blk_frozen BK155.out 5
           go_wp2
           go_ret
           exact ⟨by first|rfl|(simp [errW_none,errW_some] <;> rfl)|(simp [*,errW_none,errW_some] <;> rfl),by repeat (first|(with_reducible first|exact HB.out|apply below_alloc|apply pw_below_drewN|apply below_drew1|refine below_set ?_ GE0.out|refine below_set ?_ GE155.out)|exact HB.out)⟩
          ·
           rw [if_neg c49] at H
           have c49b0 : (((rd_T50 l0_6 a1).f4) == 0) = false:=beq_eq_false_iff_ne.mpr c49
           have c49b1 : (((rd_T50 l0_6 a1).f4) != 0) = true:=bne_iff_ne.mpr c49
           obtain rfl:=Option.some.inj H
           have hnb52:=NB155_0.out
           have hnc52:=NB0_155.out
           have hcz53_0 : wc.cell? ⟨gb155,0,none⟩ = some (.bool ((rd_T50 l0_6 a1).f0)):=(blk_cell BK155.out 0).trans rfl
           have hcz53_1 : wc.cell? ⟨gb155,1,none⟩ = some (.int .i64 ((rd_T50 l0_6 a1).f1)):=(blk_cell BK155.out 1).trans rfl
           have hcz53_2 : wc.cell? ⟨gb155,2,none⟩ = some (.bool ((rd_T50 l0_6 a1).f2)):=(blk_cell BK155.out 2).trans rfl
           have hcz53_3 : wc.cell? ⟨gb155,3,none⟩ = some (.int .i64 ((rd_T50 l0_6 a1).f3)):=(blk_cell BK155.out 3).trans rfl
           have hcz53_4 : wc.cell? ⟨gb155,4,none⟩ = some (.int .i64 ((rd_T50 l0_6 a1).f4)):=(blk_cell BK155.out 4).trans rfl
           have hcz53_5 : wc.cell? ⟨gb155,5,none⟩ = some (.int .i64 ((rd_T50 l0_6 a1).f5)):=(blk_cell BK155.out 5).trans rfl
           have hfz53_0:=blk_frozen BK155.out 0
           have hfz53_1:=blk_frozen BK155.out 1
           have hfz53_2:=blk_frozen BK155.out 2
           have hfz53_3:=blk_frozen BK155.out 3
           have hfz53_4:=blk_frozen BK155.out 4
           have hfz53_5:=blk_frozen BK155.out 5
           go_wp2
           go_ret
           exact ⟨by first|rfl|(simp [errW_none,errW_some] <;> rfl)|(simp [*,errW_none,errW_some] <;> rfl),by repeat (first|(with_reducible first|exact HB.out|apply below_alloc|apply pw_below_drewN|apply below_drew1|refine below_set ?_ GE0.out|refine below_set ?_ GE155.out)|exact HB.out)⟩
         ·
          rw [if_neg c48] at H
          have c48b0 : (((rd_T50 l0_6 a1).f3) == (-1)) = false:=beq_eq_false_iff_ne.mpr c48
          have c48b1 : (((rd_T50 l0_6 a1).f3) != (-1)) = true:=bne_iff_ne.mpr c48
          obtain rfl:=Option.some.inj H
          have hnb54:=NB155_0.out
          have hnc54:=NB0_155.out
          have hcz55_0 : wc.cell? ⟨gb155,0,none⟩ = some (.bool ((rd_T50 l0_6 a1).f0)):=(blk_cell BK155.out 0).trans rfl
          have hcz55_1 : wc.cell? ⟨gb155,1,none⟩ = some (.int .i64 ((rd_T50 l0_6 a1).f1)):=(blk_cell BK155.out 1).trans rfl
          have hcz55_2 : wc.cell? ⟨gb155,2,none⟩ = some (.bool ((rd_T50 l0_6 a1).f2)):=(blk_cell BK155.out 2).trans rfl
          have hcz55_3 : wc.cell? ⟨gb155,3,none⟩ = some (.int .i64 ((rd_T50 l0_6 a1).f3)):=(blk_cell BK155.out 3).trans rfl
          have hcz55_4 : wc.cell? ⟨gb155,4,none⟩ = some (.int .i64 ((rd_T50 l0_6 a1).f4)):=(blk_cell BK155.out 4).trans rfl
          have hcz55_5 : wc.cell? ⟨gb155,5,none⟩ = some (.int .i64 ((rd_T50 l0_6 a1).f5)):=(blk_cell BK155.out 5).trans rfl
          have hfz55_0:=blk_frozen BK155.out 0
          have hfz55_1:=blk_frozen BK155.out 1
          have hfz55_2:=blk_frozen BK155.out 2
          have hfz55_3:=blk_frozen BK155.out 3
          have hfz55_4:=blk_frozen BK155.out 4
          have hfz55_5:=blk_frozen BK155.out 5
          go_wp2
          go_ret
          exact ⟨by first|rfl|(simp [errW_none,errW_some] <;> rfl)|(simp [*,errW_none,errW_some] <;> rfl),by repeat (first|(with_reducible first|exact HB.out|apply below_alloc|apply pw_below_drewN|apply below_drew1|refine below_set ?_ GE0.out|refine below_set ?_ GE155.out)|exact HB.out)⟩
       ·
        rw [if_neg c44] at H
        have c44b0 : (((rd_T50 l0_6 a1).f1) == 0) = false:=beq_eq_false_iff_ne.mpr c44
        have c44b1 : (((rd_T50 l0_6 a1).f1) != 0) = true:=bne_iff_ne.mpr c44
        obtain rfl:=Option.some.inj H
        have hnb56:=NB155_0.out
        have hnc56:=NB0_155.out
        have hcz57_0 : wc.cell? ⟨gb155,0,none⟩ = some (.bool ((rd_T50 l0_6 a1).f0)):=(blk_cell BK155.out 0).trans rfl
        have hcz57_1 : wc.cell? ⟨gb155,1,none⟩ = some (.int .i64 ((rd_T50 l0_6 a1).f1)):=(blk_cell BK155.out 1).trans rfl
        have hcz57_2 : wc.cell? ⟨gb155,2,none⟩ = some (.bool ((rd_T50 l0_6 a1).f2)):=(blk_cell BK155.out 2).trans rfl
        have hcz57_3 : wc.cell? ⟨gb155,3,none⟩ = some (.int .i64 ((rd_T50 l0_6 a1).f3)):=(blk_cell BK155.out 3).trans rfl
        have hcz57_4 : wc.cell? ⟨gb155,4,none⟩ = some (.int .i64 ((rd_T50 l0_6 a1).f4)):=(blk_cell BK155.out 4).trans rfl
        have hcz57_5 : wc.cell? ⟨gb155,5,none⟩ = some (.int .i64 ((rd_T50 l0_6 a1).f5)):=(blk_cell BK155.out 5).trans rfl
        have hfz57_0:=blk_frozen BK155.out 0
        have hfz57_1:=blk_frozen BK155.out 1
        have hfz57_2:=blk_frozen BK155.out 2
        have hfz57_3:=blk_frozen BK155.out 3
        have hfz57_4:=blk_frozen BK155.out 4
        have hfz57_5:=blk_frozen BK155.out 5
        go_wp2
        go_ret
        exact ⟨by first|rfl|(simp [errW_none,errW_some] <;> rfl)|(simp [*,errW_none,errW_some] <;> rfl),by repeat (first|(with_reducible first|exact HB.out|apply below_alloc|apply pw_below_drewN|apply below_drew1|refine below_set ?_ GE0.out|refine below_set ?_ GE155.out)|exact HB.out)⟩
  ·
   rw [if_neg c4] at H
   exact absurd H (by simp)
 ·
  rw [if_neg c3] at H
  exact absurd H (by simp)
end Go.Proofs.Ytnldanonpdijgaa.P
