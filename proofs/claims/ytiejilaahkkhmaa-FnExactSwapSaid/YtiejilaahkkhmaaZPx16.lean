-- Ours: printed or written for this claim; cut to what the theorem needs.
import Derived.Test.YtiejilaahkkhmaaZPx0
import Derived.Test.YtiejilaahkkhmaaZPx13
import Derived.Test.YtiejilaahkkhmaaZPx15
open Bool renaming true → T, false → F
namespace Go.Proofs.Ytiejilaahkkhmaa.P
open Go.RowKit Go.Proofs.YtiejilaahkkhmaaW.PrintWords Go.Proofs.YtiejilaahkkhmaaW.PrintLast Go.Proofs.YtiejilaahkkhmaaW.PrintMore
attribute [local go_sem] max2_int min2_int max_two min_two max_three min_three max_four min_four
set_option linter.unusedVariables false
set_option linter.unusedSimpArgs false
def impl_Disk_copied.f (l0_0 : List ByteArray) (l0_1 : List Int) (l0_2 : List (S36)) : Option (List ByteArray × List Int × (List (S36))):=(slices_Clone_string.f l0_0).bind fun t464 => ((slices_Clone_int.f l0_1).bind fun t467 => ((slices_Clone_impl_Write.f l0_2).bind fun t470 => (some (t464,t467,t470))))
def impl_Disk_copied.T1 : Bool × List (List Nat × List Nat):=(true,[([],[]),([0],[0]),([1],[1]),([],[]),([3],[3]),([4,2],[4]),([],[]),([6],[6]),([7,5],[7]),([2,5,8],[2,5,8]),([9,8,0,1,2,3,4,5,6,7,8,9],[9])])
def impl_Disk_copied.B1 : List Nat:=[0,1,3,0,8,31,0,64,255,511,1023]
theorem impl_Disk_copied.tab1 : rtab .any (opsOf Try.f42 1) = impl_Disk_copied.T1:=by kernel_rfl
theorem impl_Disk_copied.bits1 : waitsOk impl_Disk_copied.T1.2 impl_Disk_copied.B1 = true:=by kernel_rfl
set_option maxHeartbeats 8000000 in
set_option maxRecDepth 100000 in
theorem impl_Disk_copied.calls (A0_0 : Option Addr) (c0_0 : Nat) (l0_0 : List ByteArray) (A0_1 : Option Addr) (c0_1 : Nat) (l0_1 : List Int) (A0_2 : Option Addr) (c0_2 : Nat) (l0_2 : List (S36)) (r1 : List ByteArray) (r2 : List Int) (r3 : List (S36)) (w : World) (hr0_0 : Kd.C Kd.string w A0_0 l0_0.length l0_0) (hc0_0 : l0_0.length ≤ c0_0) (hr0_1 : Kd.C (Kd.int .i64) w A0_1 l0_1.length l0_1) (hc0_1 : l0_1.length ≤ c0_1) (hr0_2 : Kd.C k36 w A0_2 l0_2.length l0_2) (hc0_2 : l0_2.length ≤ c0_2) (h : impl_Disk_copied.f l0_0 l0_1 l0_2 = some (r1,r2,r3)) :
  Calls Try.prog 42 #[.agg #[.slice A0_0 l0_0.length c0_0,.slice A0_1 l0_1.length c0_1,.slice A0_2 l0_2.length c0_2]] w fun e w' => ∃ v0_ v1_ v2_ : Value,e = .returned (.agg #[v0_,v1_,v2_]) ∧ Kd.R Kd.string 9 w' w.heap.size (fun _ => True) v0_ r1 ∧ Kd.R (Kd.int .i64) 3 w' w.heap.size (fun _ => True) v1_ r2 ∧ Kd.R k36 36 w' w.heap.size (fun _ => True) v2_ r3 ∧ Below w.heap.size w w':=by
 have hu28:=Try.underlying28
 have HR0_0:=Aside0.mk hr0_0
 have HC0_0:=Aside0.mk hc0_0
 clear hr0_0 hc0_0
 have HR0_1:=Aside0.mk hr0_1
 have HC0_1:=Aside0.mk hc0_1
 clear hr0_1 hc0_1
 have HR0_2:=Aside0.mk hr0_2
 have HC0_2:=Aside0.mk hc0_2
 clear hr0_2 hc0_2
 have HB:=Aside0.mk (Below.refl w.heap.size w)
 have H : ((slices_Clone_string.f l0_0).bind fun t464 => ((slices_Clone_int.f l0_1).bind fun t467 => ((slices_Clone_impl_Write.f l0_2).bind fun t470 => (some (t464,t467,t470))))) = some (r1,r2,r3):=h
 clear h
 replace H:=Option.bind_eq_some_iff.mp H
 obtain ⟨t464,A20,H⟩:=H
 replace H : ((slices_Clone_int.f l0_1).bind fun t467 => ((slices_Clone_impl_Write.f l0_2).bind fun t470 => (some (t464,t467,t470)))) = some (r1,r2,r3):=H
 have A2:=Aside0.mk A20
 clear A20
 replace H:=Option.bind_eq_some_iff.mp H
 obtain ⟨t467,A30,H⟩:=H
 replace H : ((slices_Clone_impl_Write.f l0_2).bind fun t470 => (some (t464,t467,t470))) = some (r1,r2,r3):=H
 have A3:=Aside0.mk A30
 clear A30
 replace H:=Option.bind_eq_some_iff.mp H
 obtain ⟨t470,A40,H⟩:=H
 replace H : (some (t464,t467,t470)) = some (r1,r2,r3):=H
 have A4:=Aside0.mk A40
 clear A40
 simp only [Option.some.injEq,Prod.mk.injEq] at H
 obtain ⟨rfl,rfl,rfl⟩:=H
 go_enter Try.func42,Try.ntmps42
 try go_wp2_with (first|((with_reducible refine gate_dst (N:=1) rfl ?_);refine box_event ?hg (N:=1) ?hd (cs:=#[.slice A0_0 l0_0.length c0_0,.slice A0_1 l0_1.length c0_1,.slice A0_2 l0_2.length c0_2]) (t:=28) ?hr ?_;(case hd => rfl);(case hg => rfl);(case hr => first|(go_simp;done)|(go_simp;rfl));intro gb462 hg w5 hbox hb;have n0_:=Aside0.mk (below_step (by exact HB.out) hb);have n1_:=Aside0.mk (hbox);have n2_:=Aside0.mk ((by rw [hg];exact (below_size (by exact HB.out)) : w.heap.size ≤ gb462));have n3_:=Aside0.mk ((by rw [hg];exact (below_size (by exact HB.out)) : w.heap.size ≤ gb462));clear HB;have HB:=n0_;have BK462:=n1_;have GW462:=n2_;have GE462:=n3_;clear n0_ n1_ n2_ n3_;clear hb hbox hg)|((with_reducible refine gate_dst (N:=2) rfl ?_);refine box_event ?hg (N:=2) ?hd (cs:=#[.slice none 0 0,.slice none 0 0,.slice none 0 0]) (t:=28) ?hr ?_;(case hd => rfl);(case hg => rfl);(case hr => first|(go_simp;done)|(go_simp;rfl));intro gb463 hg w6 hbox hb;have n0_:=Aside0.mk (blk_below BK462.out hb);have n1_:=Aside0.mk (below_step (by exact HB.out) hb);have n2_:=Aside0.mk (hbox);have n3_:=Aside0.mk ((by rw [hg];exact (below_size (by exact HB.out)) : w.heap.size ≤ gb463));have n4_:=Aside0.mk ((by rw [hg];exact (below_size (by exact HB.out)) : w.heap.size ≤ gb463));have n5_:=Aside0.mk ((by rw [hg];exact Nat.ne_of_lt (blk_lt BK462.out) : gb462 ≠ gb463));have n6_:=Aside0.mk ((by rw [hg];exact Nat.ne_of_gt (blk_lt BK462.out) : gb463 ≠ gb462));clear BK462;clear HB;have BK462:=n0_;have HB:=n1_;have BK463:=n2_;have GW463:=n3_;have GE463:=n4_;have NB462_463:=n5_;have NB463_462:=n6_;clear n0_ n1_ n2_ n3_ n4_ n5_ n6_;clear hb hbox hg))
 have n0_:=Aside0.mk (blk_drew BK462.out)
 have n1_:=Aside0.mk (blk_drew BK463.out)
 have n2_:=Aside0.mk (below_drew1 HB.out)
 clear BK462
 clear BK463
 clear HB
 have BK462:=n0_
 have BK463:=n1_
 have HB:=n2_
 clear n0_ n1_ n2_
 refine start_ (n:=11) (S:=fun w' => w'.cell? ⟨gb462,0,none⟩ = some (.slice A0_0 l0_0.length c0_0) ∧ w'.cell? ⟨gb462,1,none⟩ = some (.slice A0_1 l0_1.length c0_1) ∧ w'.cell? ⟨gb462,2,none⟩ = some (.slice A0_2 l0_2.length c0_2)) (ds:=[]) #[F,F,F,F,F,F,F,F,F,F,F] (by kernel_rfl) rfl rfl ⟨(blk_cell BK462.out 0).trans rfl,(blk_cell BK462.out 1).trans rfl,(blk_cell BK462.out 2).trans rfl⟩ (fun hHeld => ?_);refine with_tabW impl_Disk_copied.tab1 impl_Disk_copied.bits1 (fun HT_ HW_ => ?_)
 generalize w6.drew = w7 at BK462 BK463 HB hHeld ⊢
 refine pure_ (i:=0) (N:=some 3) (v:=?_) (a':=?_) #[T,F,F,F,F,F,F,F,F,F,F] rfl rfl (any_of HT_.out (by kernel_rfl)) (fun _ _ _ h => h) (Or.inl ⟨by rfl,?_⟩) ?_ ?_
 rotate_left
 ·
  intro w'
  go_simp
  with_reducible rfl
 rotate_left
 ·
  simp only [Act.put,List.setIfInBounds_toArray,List.set_cons_zero,List.set_cons_succ,i64_w,i32_w]
  rfl
 refine pure_ (i:=3) (N:=some 6) (v:=?_) (a':=?_) #[T,F,F,T,F,F,F,F,F,F,F] rfl rfl (any_of HT_.out (by kernel_rfl)) (fun _ _ _ h => h) (Or.inl ⟨by rfl,?_⟩) ?_ ?_
 rotate_left
 ·
  intro w'
  go_simp
  with_reducible rfl
 rotate_left
 ·
  simp only [Act.put,List.setIfInBounds_toArray,List.set_cons_zero,List.set_cons_succ,i64_w,i32_w]
  rfl
 refine pure_ (i:=6) (N:=some 9) (v:=?_) (a':=?_) #[T,F,F,T,F,F,T,F,F,F,F] rfl rfl (any_of HT_.out (by kernel_rfl)) (fun _ _ _ h => h) (Or.inl ⟨by rfl,?_⟩) ?_ ?_
 rotate_left
 ·
  intro w'
  go_simp
  with_reducible rfl
 rotate_left
 ·
  simp only [Act.put,List.setIfInBounds_toArray,List.set_cons_zero,List.set_cons_succ,i64_w,i32_w]
  rfl
 refine take_ (i:=1) (N:=some 4) (v:=?_) (a':=?_) #[T,T,F,T,F,F,T,F,F,F,F] rfl rfl (take_ofW HT_.out HW_.out (by kernel_rfl)) (fun _ _ _ h => h) (Or.inl ⟨by rfl,?_⟩) hHeld ?_ ?_
 rotate_left
 ·
  rintro w' ⟨s0,s1,s2⟩
  go_simp
  with_reducible rfl
 rotate_left
 ·
  simp only [Act.put,List.setIfInBounds_toArray,List.set_cons_zero,List.set_cons_succ,i64_w,i32_w]
  rfl
 refine take_ (i:=4) (N:=some 7) (v:=?_) (a':=?_) #[T,T,F,T,T,F,T,F,F,F,F] rfl rfl (take_ofW HT_.out HW_.out (by kernel_rfl)) (fun _ _ _ h => h) (Or.inl ⟨by rfl,?_⟩) hHeld ?_ ?_
 rotate_left
 ·
  rintro w' ⟨s0,s1,s2⟩
  go_simp
  with_reducible rfl
 rotate_left
 ·
  simp only [Act.put,List.setIfInBounds_toArray,List.set_cons_zero,List.set_cons_succ,i64_w,i32_w]
  rfl
 refine take_ (i:=7) (N:=some 10) (v:=?_) (a':=?_) #[T,T,F,T,T,F,T,T,F,F,F] rfl rfl (take_ofW HT_.out HW_.out (by kernel_rfl)) (fun _ _ _ h => h) (Or.inl ⟨by rfl,?_⟩) hHeld ?_ ?_
 rotate_left
 ·
  rintro w' ⟨s0,s1,s2⟩
  go_simp
  with_reducible rfl
 rotate_left
 ·
  simp only [Act.put,List.setIfInBounds_toArray,List.set_cons_zero,List.set_cons_succ,i64_w,i32_w]
  rfl
 refine one_ (i:=2) (N:=some 5) #[T,T,T,T,T,F,T,T,F,F,F] rfl rfl (one_of HT_.out (by kernel_rfl)) (by decide) (fun K hK => ?_)
 refine goes_ Try.func86 (by kernel_rfl) rfl #[.slice A0_0 l0_0.length c0_0] (by rfl) rfl rfl (by (try simp only [List.map_toArray,List.map_cons,List.map_nil]);first|done|rfl|(simp only [List.length_drop,List.length_take];rfl)) ?_
 with_reducible refine (slices_Clone_string.calls _ _ l0_0 t464 _ ?side1 ?side2 A2.out).mono ?_
 (case side1 => repeat (first|exact (Kd.C_below HR0_0.out HB.out)|(with_reducible refine Kd.C_alloc ?_ _)|(with_reducible refine Kd.C_drewN ?_ _)|(with_reducible refine Kd.C_drew ?_)))
 (case side2 => exact HC0_0.out)
 rintro e w8 ⟨v465,rfl,ho0,hb⟩
 refine ⟨_,rfl,?_⟩
 have n0_:=Aside0.mk (Kd.R_lower ho0 (below_size (by repeat (first|(with_reducible first|exact HB.out|apply below_alloc|apply pw_below_drewN|apply below_drew1|refine below_set ?_ GE462.out|refine below_set ?_ GE463.out)|exact HB.out))))
 have n1_:=Aside0.mk (blk_below (g:=gb462) (o:=.cells #[.slice A0_0 l0_0.length c0_0,.slice A0_1 l0_1.length c0_1,.slice A0_2 l0_2.length c0_2] 28 (0,0)) (by (with_reducible repeat (first|refine blk_drewN ?_ _|refine blk_drew ?_|refine blk_alloc ?_ _));exact BK462.out) hb)
 have n2_:=Aside0.mk (blk_below (g:=gb463) (o:=.cells #[.slice none 0 0,.slice none 0 0,.slice none 0 0] 28 (0,0)) (by (with_reducible repeat (first|refine blk_drewN ?_ _|refine blk_drew ?_|refine blk_alloc ?_ _));exact BK463.out) hb)
 have n3_:=Aside0.mk (below_step (by repeat (first|(with_reducible first|exact HB.out|apply below_alloc|apply pw_below_drewN|apply below_drew1|refine below_set ?_ GE462.out|refine below_set ?_ GE463.out)|exact HB.out)) hb)
 clear BK462
 clear BK463
 clear HB
 have HO466:=n0_
 have BK462:=n1_
 have BK463:=n2_
 have HB:=n3_
 clear n0_ n1_ n2_ n3_
 (try clear hb)
 (try clear hb2)
 (try clear hk)
 (try clear hi)
 (try clear ho0)
 refine hK.out _ _ ⟨(blk_cell BK462.out 0).trans rfl,(blk_cell BK462.out 1).trans rfl,(blk_cell BK462.out 2).trans rfl⟩ (fun hHeld => ?_)
 clear hK K
 refine norm_ (a':=?_) ?_ ?_
 rotate_left
 ·
  show Act.put _ (some 5) _ = _
  simp only [Act.put,List.setIfInBounds_toArray,List.set_cons_zero,List.set_cons_succ,i64_w,i32_w]
  rfl
 refine one_ (i:=5) (N:=some 8) #[T,T,T,T,T,T,T,T,F,F,F] rfl rfl (one_of HT_.out (by kernel_rfl)) (by decide) (fun K hK => ?_)
 refine goes_ Try.func87 (by kernel_rfl) rfl #[.slice A0_1 l0_1.length c0_1] (by rfl) rfl rfl (by (try simp only [List.map_toArray,List.map_cons,List.map_nil]);first|done|rfl|(simp only [List.length_drop,List.length_take];rfl)) ?_
 with_reducible refine (slices_Clone_int.calls _ _ l0_1 t467 _ ?side1 ?side2 A3.out).mono ?_
 (case side1 => repeat (first|exact (Kd.C_below HR0_1.out HB.out)|(with_reducible refine Kd.C_alloc ?_ _)|(with_reducible refine Kd.C_drewN ?_ _)|(with_reducible refine Kd.C_drew ?_)))
 (case side2 => exact HC0_1.out)
 rintro e w9 ⟨v468,rfl,ho0,hb⟩
 refine ⟨_,rfl,?_⟩
 have n0_:=Aside0.mk (Kd.R_below (by (with_reducible repeat (first|apply Kd.R_alloc|apply Kd.R_drewN|apply Kd.R_drew));exact HO466.out) hb)
 have n1_:=Aside0.mk (Kd.R_lower ho0 (below_size (by repeat (first|(with_reducible first|exact HB.out|apply below_alloc|apply pw_below_drewN|apply below_drew1|refine below_set ?_ GE462.out|refine below_set ?_ GE463.out)|exact HB.out))))
 have n2_:=Aside0.mk (blk_below (g:=gb462) (o:=.cells #[.slice A0_0 l0_0.length c0_0,.slice A0_1 l0_1.length c0_1,.slice A0_2 l0_2.length c0_2] 28 (0,0)) (by (with_reducible repeat (first|refine blk_drewN ?_ _|refine blk_drew ?_|refine blk_alloc ?_ _));exact BK462.out) hb)
 have n3_:=Aside0.mk (blk_below (g:=gb463) (o:=.cells #[.slice none 0 0,.slice none 0 0,.slice none 0 0] 28 (0,0)) (by (with_reducible repeat (first|refine blk_drewN ?_ _|refine blk_drew ?_|refine blk_alloc ?_ _));exact BK463.out) hb)
 have n4_:=Aside0.mk (below_step (by repeat (first|(with_reducible first|exact HB.out|apply below_alloc|apply pw_below_drewN|apply below_drew1|refine below_set ?_ GE462.out|refine below_set ?_ GE463.out)|exact HB.out)) hb)
 clear HO466
 clear BK462
 clear BK463
 clear HB
 have HO466:=n0_
 have HO469:=n1_
 have BK462:=n2_
 have BK463:=n3_
 have HB:=n4_
 clear n0_ n1_ n2_ n3_ n4_
 (try clear hb)
 (try clear hb2)
 (try clear hk)
 (try clear hi)
 (try clear ho0)
 refine hK.out _ _ ⟨(blk_cell BK462.out 0).trans rfl,(blk_cell BK462.out 1).trans rfl,(blk_cell BK462.out 2).trans rfl⟩ (fun hHeld => ?_)
 clear hK K
 refine norm_ (a':=?_) ?_ ?_
 rotate_left
 ·
  show Act.put _ (some 8) _ = _
  simp only [Act.put,List.setIfInBounds_toArray,List.set_cons_zero,List.set_cons_succ,i64_w,i32_w]
  rfl
 refine one_ (i:=8) (N:=some 11) #[T,T,T,T,T,T,T,T,T,F,F] rfl rfl (one_of HT_.out (by kernel_rfl)) (by decide) (fun K hK => ?_)
 refine goes_ Try.func88 (by kernel_rfl) rfl #[.slice A0_2 l0_2.length c0_2] (by rfl) rfl rfl (by (try simp only [List.map_toArray,List.map_cons,List.map_nil]);first|done|rfl|(simp only [List.length_drop,List.length_take];rfl)) ?_
 with_reducible refine (slices_Clone_impl_Write.calls _ _ l0_2 t470 _ ?side1 ?side2 A4.out).mono ?_
 (case side1 => repeat (first|exact (Kd.C_below HR0_2.out HB.out)|(with_reducible refine Kd.C_alloc ?_ _)|(with_reducible refine Kd.C_drewN ?_ _)|(with_reducible refine Kd.C_drew ?_)))
 (case side2 => exact HC0_2.out)
 rintro e w10 ⟨v471,rfl,ho0,hb⟩
 refine ⟨_,rfl,?_⟩
 have n0_:=Aside0.mk (Kd.R_below (by (with_reducible repeat (first|apply Kd.R_alloc|apply Kd.R_drewN|apply Kd.R_drew));exact HO466.out) hb)
 have n1_:=Aside0.mk (Kd.R_below (by (with_reducible repeat (first|apply Kd.R_alloc|apply Kd.R_drewN|apply Kd.R_drew));exact HO469.out) hb)
 have n2_:=Aside0.mk (Kd.R_lower ho0 (below_size (by repeat (first|(with_reducible first|exact HB.out|apply below_alloc|apply pw_below_drewN|apply below_drew1|refine below_set ?_ GE462.out|refine below_set ?_ GE463.out)|exact HB.out))))
 have n3_:=Aside0.mk (blk_below (g:=gb462) (o:=.cells #[.slice A0_0 l0_0.length c0_0,.slice A0_1 l0_1.length c0_1,.slice A0_2 l0_2.length c0_2] 28 (0,0)) (by (with_reducible repeat (first|refine blk_drewN ?_ _|refine blk_drew ?_|refine blk_alloc ?_ _));exact BK462.out) hb)
 have n4_:=Aside0.mk (blk_below (g:=gb463) (o:=.cells #[.slice none 0 0,.slice none 0 0,.slice none 0 0] 28 (0,0)) (by (with_reducible repeat (first|refine blk_drewN ?_ _|refine blk_drew ?_|refine blk_alloc ?_ _));exact BK463.out) hb)
 have n5_:=Aside0.mk (below_step (by repeat (first|(with_reducible first|exact HB.out|apply below_alloc|apply pw_below_drewN|apply below_drew1|refine below_set ?_ GE462.out|refine below_set ?_ GE463.out)|exact HB.out)) hb)
 clear HO466
 clear HO469
 clear BK462
 clear BK463
 clear HB
 have HO466:=n0_
 have HO469:=n1_
 have HO472:=n2_
 have BK462:=n3_
 have BK463:=n4_
 have HB:=n5_
 clear n0_ n1_ n2_ n3_ n4_ n5_
 (try clear hb)
 (try clear hb2)
 (try clear hk)
 (try clear hi)
 (try clear ho0)
 obtain ⟨Ao11,co11,eo11⟩:=Kd.R_slice HO472.out
 (first|subst eo11|(injection eo11 with f1_ f2_ f3_;have f4_:=f1_.symm;have f5_:=f3_.symm;clear f1_ f2_ f3_;subst f4_;subst f5_))
 obtain ⟨Ao12,co12,eo12⟩:=Kd.R_slice HO469.out
 (first|subst eo12|(injection eo12 with f1_ f2_ f3_;have f4_:=f1_.symm;have f5_:=f3_.symm;clear f1_ f2_ f3_;subst f4_;subst f5_))
 obtain ⟨Ao13,co13,eo13⟩:=Kd.R_slice HO466.out
 (first|subst eo13|(injection eo13 with f1_ f2_ f3_;have f4_:=f1_.symm;have f5_:=f3_.symm;clear f1_ f2_ f3_;subst f4_;subst f5_))
 refine hK.out _ _ ⟨(blk_cell BK462.out 0).trans rfl,(blk_cell BK462.out 1).trans rfl,(blk_cell BK462.out 2).trans rfl⟩ (fun hHeld => ?_)
 clear hK K
 refine norm_ (a':=?_) ?_ ?_
 rotate_left
 ·
  show Act.put _ (some 11) _ = _
  simp only [Act.put,List.setIfInBounds_toArray,List.set_cons_zero,List.set_cons_succ,i64_w,i32_w]
  rfl
 refine pure_ (i:=9) (N:=some 12) (v:=?_) (a':=?_) #[T,T,T,T,T,T,T,T,T,T,F] rfl rfl (any_of HT_.out (by kernel_rfl)) (fun _ _ _ h => h) (Or.inl ⟨by rfl,?_⟩) ?_ ?_
 rotate_left
 ·
  intro w'
  go_simp
  with_reducible rfl
 rotate_left
 ·
  simp only [Act.put,List.setIfInBounds_toArray,List.set_cons_zero,List.set_cons_succ,i64_w,i32_w]
  rfl
 refine one_ (i:=10) (N:=none) #[T,T,T,T,T,T,T,T,T,T,T] rfl rfl (one_of HT_.out (by kernel_rfl)) (by decide) (fun K hK => ?_)
 have hs14 : w10.cell? ⟨gb463,0,none⟩ = some (.slice none 0 0):=(blk_cell BK463.out 0).trans rfl
 have hfs14:=blk_frozen BK463.out 0
 have hns14_0:=NB462_463.out
 have hms14_0:=NB463_462.out
 have hs15 : w10.cell? ⟨gb463,1,none⟩ = some (.slice none 0 0):=(blk_cell BK463.out 1).trans rfl
 have hfs15:=blk_frozen BK463.out 1
 have hns15_0:=NB462_463.out
 have hms15_0:=NB463_462.out
 have hs16 : w10.cell? ⟨gb463,2,none⟩ = some (.slice none 0 0):=(blk_cell BK463.out 2).trans rfl
 have hfs16:=blk_frozen BK463.out 2
 have hns16_0:=NB462_463.out
 have hms16_0:=NB463_462.out
 refine skip_ (w1:=?_) (by rfl) rfl ?_ ?_
 rotate_left
 ·
  go_simp
  rfl
 refine hK.out _ _ ⟨((cell_far (p:=⟨gb463,_,none⟩) NB462_463.out _).trans (((cell_far (p:=⟨gb463,_,none⟩) NB462_463.out _).trans (((cell_far (p:=⟨gb463,_,none⟩) NB462_463.out _).trans (hHeld.1)))))),((cell_far (p:=⟨gb463,_,none⟩) NB462_463.out _).trans (((cell_far (p:=⟨gb463,_,none⟩) NB462_463.out _).trans (((cell_far (p:=⟨gb463,_,none⟩) NB462_463.out _).trans (hHeld.2.1)))))),((cell_far (p:=⟨gb463,_,none⟩) NB462_463.out _).trans (((cell_far (p:=⟨gb463,_,none⟩) NB462_463.out _).trans (((cell_far (p:=⟨gb463,_,none⟩) NB462_463.out _).trans (hHeld.2.2))))))⟩ (fun hHeld => ?_)
 clear hK K
 refine done_ (done_of HT_.out (by kernel_rfl)) ?_
 try go_wp2
 refine bodyPost_ret (results_cell_row rfl _ _ gb463 28 #[.slice Ao13 t464.length co13,.slice Ao12 t467.length co12,.slice Ao11 t470.length co11] (0,0) _ rfl (by (with_reducible repeat (first|refine blk_drewN ?_ _|refine blk_drew ?_|refine blk_alloc ?_ _));refine blk_put (cs:=#[.slice Ao13 t464.length co13,.slice Ao12 t467.length co12,.slice none 0 0]) ?_ 2 _ rfl;(with_reducible repeat (first|refine blk_drewN ?_ _|refine blk_drew ?_|refine blk_alloc ?_ _));refine blk_put (cs:=#[.slice Ao13 t464.length co13,.slice none 0 0,.slice none 0 0]) ?_ 1 _ rfl;(with_reducible repeat (first|refine blk_drewN ?_ _|refine blk_drew ?_|refine blk_alloc ?_ _));refine blk_put (cs:=#[.slice none 0 0,.slice none 0 0,.slice none 0 0]) ?_ 0 _ rfl;(with_reducible repeat (first|refine blk_drewN ?_ _|refine blk_drew ?_|refine blk_alloc ?_ _));exact BK463.out) Try.underlying28 rfl (by kernel_rfl)) rfl ?_
 exact ⟨_,_,_,by first|rfl|(simp [errW_none,errW_some] <;> rfl)|(simp [*,errW_none,errW_some] <;> rfl),by (with_reducible repeat (first|apply Kd.R_alloc|apply Kd.R_drewN|apply Kd.R_drew));exact Kd.R_mono (Kd.R_far (p:=⟨gb463,2,none⟩) (Kd.R_far (p:=⟨gb463,1,none⟩) (Kd.R_far (p:=⟨gb463,0,none⟩) (Kd.R_types HO466.out BK463.out (by decide)) (fun _ hk => hk.2) (.slice Ao13 t464.length co13)) (fun _ hk => hk.2) (.slice Ao12 t467.length co12)) (fun _ hk => hk.2) (.slice Ao11 t470.length co11)) (fun _ hk => trivial),by (with_reducible repeat (first|apply Kd.R_alloc|apply Kd.R_drewN|apply Kd.R_drew));exact Kd.R_mono (Kd.R_far (p:=⟨gb463,2,none⟩) (Kd.R_far (p:=⟨gb463,1,none⟩) (Kd.R_far (p:=⟨gb463,0,none⟩) (Kd.R_types HO469.out BK463.out (by decide)) (fun _ hk => hk.2) (.slice Ao13 t464.length co13)) (fun _ hk => hk.2) (.slice Ao12 t467.length co12)) (fun _ hk => hk.2) (.slice Ao11 t470.length co11)) (fun _ hk => trivial),by (with_reducible repeat (first|apply Kd.R_alloc|apply Kd.R_drewN|apply Kd.R_drew));exact Kd.R_mono (Kd.R_far (p:=⟨gb463,2,none⟩) (Kd.R_far (p:=⟨gb463,1,none⟩) (Kd.R_far (p:=⟨gb463,0,none⟩) (Kd.R_types HO472.out BK463.out (by decide)) (fun _ hk => hk.2) (.slice Ao13 t464.length co13)) (fun _ hk => hk.2) (.slice Ao12 t467.length co12)) (fun _ hk => hk.2) (.slice Ao11 t470.length co11)) (fun _ hk => trivial),by repeat (first|(with_reducible first|exact HB.out|apply below_alloc|apply pw_below_drewN|apply below_drew1|refine below_set ?_ GE462.out|refine below_set ?_ GE463.out)|exact HB.out)⟩
def impl_Disk_asked_1.f (a0 : ByteArray) : Option (Bool):=some (decide ((a0.size : Int) > 700))
set_option maxHeartbeats 8000000 in
set_option maxRecDepth 100000 in
theorem impl_Disk_asked_1.calls (a0 : ByteArray) (r : Bool) (w : World) (h : impl_Disk_asked_1.f a0 = some r) :
  Calls Try.prog 104 #[.string a0] w fun e w' => e = .returned (.bool r) ∧ Drawn0 w w':=by
 have H : (some (decide ((a0.size : Int) > 700))) = some r:=h
 clear h
 obtain rfl:=Option.some.inj H
 go_enter Try.func104,Try.ntmps104
 go_wp2
 go_ret
 exact ⟨by first|rfl|(simp;done)|(simp [*];done),by repeat (first|exact Drawn0.refl _|apply Drawn0.step)⟩
def slices_IndexFunc_string_at_Disk_asked_1.l0 : Nat → List ByteArray → Int → Int → Option (Int)
  | 0,_,_,_ => none
  | k + 1,x0,x7,x8 => if x8 < x7 then (if 0 ≤ x8 then (if x8 < (x0.length : Int) then ((impl_Disk_asked_1.f (rdOf ByteArray.empty x0 x8)).bind fun t474 => (if t474 = true then (some x8) else (slices_IndexFunc_string_at_Disk_asked_1.l0 k x0 x7 (wrap64 (x8 + 1))))) else (none)) else (none)) else (some (-1))
def slices_IndexFunc_string_at_Disk_asked_1.f (k : Nat) (l0 : List ByteArray)  : Option (Int):=slices_IndexFunc_string_at_Disk_asked_1.l0 k l0 (l0.length : Int) 0
set_option maxHeartbeats 8000000 in
set_option maxRecDepth 100000 in
theorem slices_IndexFunc_string_at_Disk_asked_1.calls (k : Nat) (A0 : Option Addr) (c0 : Nat) (l0 : List ByteArray)  (r : Int) (w : World) (hr0 : Kd.C Kd.string w A0 l0.length l0) (hc0 : l0.length ≤ c0) (h : slices_IndexFunc_string_at_Disk_asked_1.f k l0 = some r) :
  Calls Try.prog 101 #[.slice A0 l0.length c0,.func (.func 104) #[] #[]] w fun e w' => e = .returned (.int .i64 r) ∧ Drawn0 w w':=by
 have HR0:=Aside0.mk hr0
 have HC0:=Aside0.mk hc0
 clear hr0 hc0
 have H : (slices_IndexFunc_string_at_Disk_asked_1.l0 k l0 (l0.length : Int) 0) = some r:=h
 clear h
 have H':=Aside0.mk H
 clear H
 go_enter Try.func101,Try.ntmps101
 go_wp2
 go_loopg [8] k (fun kq v8 w' => ∃ (x8_1 : Int),v8 = .int .i64 x8_1 ∧ Aside0 (slices_IndexFunc_string_at_Disk_asked_1.l0 kq l0 (l0.length : Int) x8_1 = some r) ∧ Aside0 (kq ≤ k) ∧ Drawn0 w w')
 case atStart => exact ⟨(0),(by first|rfl|(simp;done)|(simp [*];done)),H',⟨Nat.le_refl _⟩,by repeat (first|exact Drawn0.refl _|apply Drawn0.step)⟩
 case round =>
  clear H'
  try clear c1
  try clear p2
  obtain ⟨x8_1,rfl,HA,HK1,⟨m1,rfl⟩⟩:=hrel
  cases gk with
  | zero => exact absurd HA.out (by simp [slices_IndexFunc_string_at_Disk_asked_1.l0])
  | succ k1 =>
   have H:=HA.out
   clear HA
   simp only [slices_IndexFunc_string_at_Disk_asked_1.l0] at H
   by_cases c3 : x8_1 < (l0.length : Int)
   ·
    rw [if_pos c3] at H
    have c3b0 : decide (x8_1 < (l0.length : Int)) = true:=decide_eq_true c3
    clear c3
    by_cases c4 : 0 ≤ x8_1
    ·
     rw [if_pos c4] at H
     have c4b0 : decide (0 ≤ x8_1) = true:=decide_eq_true c4
     clear c4
     by_cases c5 : x8_1 < (l0.length : Int)
     ·
      rw [if_pos c5] at H
      have c5b0 : decide (x8_1 < (l0.length : Int)) = true:=decide_eq_true c5
      clear c5
      replace H:=Option.bind_eq_some_iff.mp H
      obtain ⟨t474,A60,H⟩:=H
      replace H : (if t474 = true then (some x8_1) else (slices_IndexFunc_string_at_Disk_asked_1.l0 k1 l0 (l0.length : Int) (wrap64 (x8_1 + 1)))) = some r:=H
      have A6:=Aside0.mk A60
      clear A60
      by_cases c7 : t474 = true
      ·
       subst c7
       have H1 : (some x8_1) = some r:=by rw [if_pos rfl] at H;exact H
       clear H
       have H:=H1
       clear H1
       obtain rfl:=Option.some.inj H
       have p473 : 0 ≤ (x8_1 : Int):=of_decide_eq_true (by first|(with_reducible assumption)|assumption)
       have q473 : x8_1 < (l0.length : Int):=of_decide_eq_true (by first|(with_reducible assumption)|assumption)
       obtain ⟨ad473,e473,hx473_0⟩:=Kd.at_string HR0.out x8_1 p473 q473
       cases e473
       replace p473:=eq_true p473
       replace q473:=eq_true q473
       go_wp2_with (first|(go_at_call 104;(with_reducible refine (impl_Disk_asked_1.calls (rdOf ByteArray.empty l0 x8_1) true _ A6.out).mono ?_);rintro e w' ⟨rfl,⟨nd,rfl⟩⟩))
       go_ret
       exact ⟨by first|rfl|(simp;done)|(simp [*];done),by repeat (first|exact Drawn0.refl _|apply Drawn0.step)⟩
      ·
       replace c7:=Bool.eq_false_iff.mpr c7
       subst c7
       have H1 : (slices_IndexFunc_string_at_Disk_asked_1.l0 k1 l0 (l0.length : Int) (wrap64 (x8_1 + 1))) = some r:=by rw [if_neg (show ¬ (false = true) by decide)] at H;exact H
       clear H
       have H:=H1
       clear H1
       have H':=Aside0.mk H
       clear H
       have p473 : 0 ≤ (x8_1 : Int):=of_decide_eq_true (by first|(with_reducible assumption)|assumption)
       have q473 : x8_1 < (l0.length : Int):=of_decide_eq_true (by first|(with_reducible assumption)|assumption)
       obtain ⟨ad473,e473,hx473_0⟩:=Kd.at_string HR0.out x8_1 p473 q473
       cases e473
       replace p473:=eq_true p473
       replace q473:=eq_true q473
       go_wp2_with (first|(go_at_call 104;(with_reducible refine (impl_Disk_asked_1.calls (rdOf ByteArray.empty l0 x8_1) false _ A6.out).mono ?_);rintro e w' ⟨rfl,⟨nd,rfl⟩⟩))
       go_roundg k1
       case measure => have:=HK1.out;omega
       case rel => exact ⟨(wrap64 (x8_1 + 1)),(by first|rfl|(simp;done)|(simp [*];done)),H',⟨by have:=HK1.out;omega⟩,by repeat (first|exact Drawn0.refl _|apply Drawn0.step)⟩
     ·
      rw [if_neg c5] at H
      exact absurd H (by simp)
    ·
     rw [if_neg c4] at H
     exact absurd H (by simp)
   ·
    rw [if_neg c3] at H
    have c3b0 : decide (x8_1 < (l0.length : Int)) = false:=decide_eq_false c3
    clear c3
    obtain rfl:=Option.some.inj H
    go_wp2
    go_ret
    exact ⟨by first|rfl|(simp;done)|(simp [*];done),by repeat (first|exact Drawn0.refl _|apply Drawn0.step)⟩
def slices_ContainsFunc_string_at_Disk_asked_1.f (k : Nat) (l0 : List ByteArray)  : Option (Bool):=(slices_IndexFunc_string_at_Disk_asked_1.f k l0).bind fun t475 => (some (decide (t475 ≥ 0)))
set_option maxHeartbeats 8000000 in
set_option maxRecDepth 100000 in
theorem slices_ContainsFunc_string_at_Disk_asked_1.calls (k : Nat) (A0 : Option Addr) (c0 : Nat) (l0 : List ByteArray)  (r : Bool) (w : World) (hr0 : Kd.C Kd.string w A0 l0.length l0) (hc0 : l0.length ≤ c0) (h : slices_ContainsFunc_string_at_Disk_asked_1.f k l0 = some r) :
  Calls Try.prog 78 #[.slice A0 l0.length c0,.func (.func 104) #[] #[]] w fun e w' => e = .returned (.bool r) ∧ Drawn0 w w':=by
 have HR0:=Aside0.mk hr0
 have HC0:=Aside0.mk hc0
 clear hr0 hc0
 have H : ((slices_IndexFunc_string_at_Disk_asked_1.f k l0).bind fun t475 => (some (decide (t475 ≥ 0)))) = some r:=h
 clear h
 replace H:=Option.bind_eq_some_iff.mp H
 obtain ⟨t475,A30,H⟩:=H
 replace H : (some (decide (t475 ≥ 0))) = some r:=H
 have A3:=Aside0.mk A30
 clear A30
 obtain rfl:=Option.some.inj H
 go_enter Try.func78,Try.ntmps78
 go_wp2_with (first|((with_reducible refine gate_callee (f:=101) rfl ?_);refine goesL_ (some 7) rfl rfl Try.func101 (by kernel_rfl) rfl #[.slice A0 l0.length c0,.func (.func 104) #[] #[]] rfl (by (try simp only [List.map_toArray,List.map_cons,List.map_nil]);first|done|rfl|(simp only [List.length_drop,List.length_take];rfl)) ?_;(with_reducible refine (slices_IndexFunc_string_at_Disk_asked_1.calls k _ _ l0  t475 _ ?side1 ?side2 A3.out).mono ?_);(case side1 => repeat (first|exact HR0.out|(with_reducible refine Kd.C_alloc ?_ _)|(with_reducible refine Kd.C_drewN ?_ _)|(with_reducible refine Kd.C_drew ?_)));(case side2 => exact HC0.out);rintro e w' ⟨rfl,⟨nd,rfl⟩⟩;refine ⟨_,rfl,?_⟩))
 go_ret
 exact ⟨by first|rfl|(simp;done)|(simp [*];done),by repeat (first|exact Drawn0.refl _|apply Drawn0.step)⟩
def impl_Disk_asked.j0 : Nat → Int → Int → Bool → List ByteArray → List Int → List (S36) → Option (Int)
  | 0,_,_,_,_,_,_ => none
  | k + 1,x1,x2,x11,x1000,x1001,x1002 => if x11 = true then (some 1) else (if 0 ≤ x1 then (if x1 < (x1001.length : Int) then (if x2 = (rd x1001 x1) then (some 0) else (some 2)) else (none)) else (none))
def impl_Disk_asked.f (k : Nat) (l0_0 : List ByteArray) (l0_1 : List Int) (l0_2 : List (S36)) (a1 : Int) (a2 : Int) (a3 : Int) (l4 : List ByteArray) : Option (Int):=(impl_isHost.f a1).bind fun t476 => (if t476 = true then ((impl_Disk_hasSector.f l0_0 l0_1 l0_2 a3).bind fun t477 => (if t477 = true then ((slices_ContainsFunc_string_at_Disk_asked_1.f k l4).bind fun t478 => (impl_Disk_asked.j0 k a1 a2 t478 l0_0 l0_1 l0_2)) else (impl_Disk_asked.j0 k a1 a2 true l0_0 l0_1 l0_2))) else (impl_Disk_asked.j0 k a1 a2 true l0_0 l0_1 l0_2))
set_option maxHeartbeats 8000000 in
set_option maxRecDepth 100000 in
theorem impl_Disk_asked.calls (k : Nat) (gq0 : Nat) (A0_0 : Option Addr) (c0_0 : Nat) (l0_0 : List ByteArray) (A0_1 : Option Addr) (c0_1 : Nat) (l0_1 : List Int) (A0_2 : Option Addr) (c0_2 : Nat) (l0_2 : List (S36)) (a1 : Int) (a2 : Int) (a3 : Int) (A4 : Option Addr) (c4 : Nat) (l4 : List ByteArray) (r : Int) (w : World) (hb0_ : w.heap[gq0]? = some (.cells #[.slice A0_0 l0_0.length c0_0,.slice A0_1 l0_1.length c0_1,.slice A0_2 l0_2.length c0_2] 28 (0,0))) (hr0_0 : Kd.C Kd.string w A0_0 l0_0.length l0_0) (hc0_0 : l0_0.length ≤ c0_0) (hr0_1 : Kd.C (Kd.int .i64) w A0_1 l0_1.length l0_1) (hc0_1 : l0_1.length ≤ c0_1) (hr0_2 : Kd.C k36 w A0_2 l0_2.length l0_2) (hc0_2 : l0_2.length ≤ c0_2) (hr4 : Kd.C Kd.string w A4 l4.length l4) (hc4 : l4.length ≤ c4) (h : impl_Disk_asked.f k l0_0 l0_1 l0_2 a1 a2 a3 l4 = some r) :
  Calls Try.prog 89 #[.pointer (some ⟨gq0,0,none⟩),.int .i64 a1,.int .i64 a2,.int .i64 a3,.slice A4 l4.length c4] w fun e w' => e = .returned (.int .i64 r) ∧ Drawn0 w w':=by
 have HR0_0:=Aside0.mk hr0_0
 have HC0_0:=Aside0.mk hc0_0
 clear hr0_0 hc0_0
 have HR0_1:=Aside0.mk hr0_1
 have HC0_1:=Aside0.mk hc0_1
 clear hr0_1 hc0_1
 have HR0_2:=Aside0.mk hr0_2
 have HC0_2:=Aside0.mk hc0_2
 clear hr0_2 hc0_2
 have HR4:=Aside0.mk hr4
 have HC4:=Aside0.mk hc4
 clear hr4 hc4
 have BK0:=Aside0.mk hb0_
 clear hb0_
 have H : ((impl_isHost.f a1).bind fun t476 => (if t476 = true then ((impl_Disk_hasSector.f l0_0 l0_1 l0_2 a3).bind fun t477 => (if t477 = true then ((slices_ContainsFunc_string_at_Disk_asked_1.f k l4).bind fun t478 => (impl_Disk_asked.j0 k a1 a2 t478 l0_0 l0_1 l0_2)) else (impl_Disk_asked.j0 k a1 a2 true l0_0 l0_1 l0_2))) else (impl_Disk_asked.j0 k a1 a2 true l0_0 l0_1 l0_2))) = some r:=h
 clear h
 have HC6:=Aside0.mk H
 clear H
 go_enter Try.func89,Try.ntmps89
 go_upto_region 1 with (fail)
 go_cut [11] (fun v11 wc => ∃ (kq : Nat) (x11_5 : Bool),v11 = .bool x11_5 ∧ Aside0 (impl_Disk_asked.j0 kq a1 a2 x11_5 l0_0 l0_1 l0_2 = some r) ∧ Aside0 (kq ≤ k) ∧ Aside0 (wc.heap[gq0]? = some (.cells #[(.slice A0_0 l0_0.length c0_0),(.slice A0_1 l0_1.length c0_1),(.slice A0_2 l0_2.length c0_2)] 28 (0,0))) ∧ Drawn0 w wc)
 case first =>
  have H:=HC6.out
  clear HC6
  replace H:=Option.bind_eq_some_iff.mp H
  obtain ⟨t476,A70,H⟩:=H
  replace H : (if t476 = true then ((impl_Disk_hasSector.f l0_0 l0_1 l0_2 a3).bind fun t477 => (if t477 = true then ((slices_ContainsFunc_string_at_Disk_asked_1.f k l4).bind fun t478 => (impl_Disk_asked.j0 k a1 a2 t478 l0_0 l0_1 l0_2)) else (impl_Disk_asked.j0 k a1 a2 true l0_0 l0_1 l0_2))) else (impl_Disk_asked.j0 k a1 a2 true l0_0 l0_1 l0_2)) = some r:=H
  have A7:=Aside0.mk A70
  clear A70
  by_cases c8 : t476 = true
  ·
   subst c8
   have H1 : ((impl_Disk_hasSector.f l0_0 l0_1 l0_2 a3).bind fun t477 => (if t477 = true then ((slices_ContainsFunc_string_at_Disk_asked_1.f k l4).bind fun t478 => (impl_Disk_asked.j0 k a1 a2 t478 l0_0 l0_1 l0_2)) else (impl_Disk_asked.j0 k a1 a2 true l0_0 l0_1 l0_2))) = some r:=by rw [if_pos rfl] at H;exact H
   clear H
   have H:=H1
   clear H1
   replace H:=Option.bind_eq_some_iff.mp H
   obtain ⟨t477,A90,H⟩:=H
   replace H : (if t477 = true then ((slices_ContainsFunc_string_at_Disk_asked_1.f k l4).bind fun t478 => (impl_Disk_asked.j0 k a1 a2 t478 l0_0 l0_1 l0_2)) else (impl_Disk_asked.j0 k a1 a2 true l0_0 l0_1 l0_2)) = some r:=H
   have A9:=Aside0.mk A90
   clear A90
   by_cases c10 : t477 = true
   ·
    subst c10
    have H1 : ((slices_ContainsFunc_string_at_Disk_asked_1.f k l4).bind fun t478 => (impl_Disk_asked.j0 k a1 a2 t478 l0_0 l0_1 l0_2)) = some r:=by rw [if_pos rfl] at H;exact H
    clear H
    have H:=H1
    clear H1
    replace H:=Option.bind_eq_some_iff.mp H
    obtain ⟨t478,A110,H⟩:=H
    replace H : (impl_Disk_asked.j0 k a1 a2 t478 l0_0 l0_1 l0_2) = some r:=H
    have A11:=Aside0.mk A110
    clear A110
    have H':=Aside0.mk H
    clear H
    go_wp2_with (first|((with_reducible refine gate_callee (f:=84) rfl ?_);refine goesL_ (some 13) rfl rfl Try.func84 (by kernel_rfl) rfl #[.int .i64 a1] rfl (by (try simp only [List.map_toArray,List.map_cons,List.map_nil]);first|done|rfl|(simp only [List.length_drop,List.length_take];rfl)) ?_;(with_reducible refine (impl_isHost.calls a1 true _ A7.out).mono ?_);rintro e w' ⟨rfl,⟨nd,rfl⟩⟩;refine ⟨_,rfl,?_⟩)|(go_at_call 85;(with_reducible refine (impl_Disk_hasSector.calls gq0 A0_0 c0_0 l0_0 A0_1 c0_1 l0_1 A0_2 c0_2 l0_2 a3 true _ ?side1 ?side2 ?side3 ?side4 ?side5 ?side6 ?side7 A9.out).mono ?_);(case side1 => exact (by (with_reducible repeat (first|refine blk_drewN ?_ _|refine blk_drew ?_|refine blk_alloc ?_ _));exact BK0.out));(case side2 => repeat (first|exact HR0_0.out|(with_reducible refine Kd.C_alloc ?_ _)|(with_reducible refine Kd.C_drewN ?_ _)|(with_reducible refine Kd.C_drew ?_)));(case side3 => exact HC0_0.out);(case side4 => repeat (first|exact HR0_1.out|(with_reducible refine Kd.C_alloc ?_ _)|(with_reducible refine Kd.C_drewN ?_ _)|(with_reducible refine Kd.C_drew ?_)));(case side5 => exact HC0_1.out);(case side6 => repeat (first|exact HR0_2.out|(with_reducible refine Kd.C_alloc ?_ _)|(with_reducible refine Kd.C_drewN ?_ _)|(with_reducible refine Kd.C_drew ?_)));(case side7 => exact HC0_2.out);rintro e w' ⟨rfl,⟨nd,rfl⟩⟩)|(go_at_call 78;(with_reducible refine (slices_ContainsFunc_string_at_Disk_asked_1.calls k _ _ l4  t478 _ ?side1 ?side2 A11.out).mono ?_);(case side1 => repeat (first|exact HR4.out|(with_reducible refine Kd.C_alloc ?_ _)|(with_reducible refine Kd.C_drewN ?_ _)|(with_reducible refine Kd.C_drew ?_)));(case side2 => exact HC4.out);rintro e w' ⟨rfl,⟨nd,rfl⟩⟩))
    go_meet
    case rel => exact ⟨_,(t478),(by first|rfl|(simp;done)|(simp [*];done)),H',⟨by first|omega|exact Nat.le_refl _⟩,⟨by (with_reducible repeat (first|refine blk_drewN ?_ _|refine blk_drew ?_|refine blk_alloc ?_ _));exact BK0.out⟩,by repeat (first|exact Drawn0.refl _|apply Drawn0.step)⟩
   ·
    replace c10:=Bool.eq_false_iff.mpr c10
    subst c10
    have H1 : (impl_Disk_asked.j0 k a1 a2 true l0_0 l0_1 l0_2) = some r:=by rw [if_neg (show ¬ (false = true) by decide)] at H;exact H
    clear H
    have H:=H1
    clear H1
    have H':=Aside0.mk H
    clear H
    go_wp2_with (first|((with_reducible refine gate_callee (f:=84) rfl ?_);refine goesL_ (some 13) rfl rfl Try.func84 (by kernel_rfl) rfl #[.int .i64 a1] rfl (by (try simp only [List.map_toArray,List.map_cons,List.map_nil]);first|done|rfl|(simp only [List.length_drop,List.length_take];rfl)) ?_;(with_reducible refine (impl_isHost.calls a1 true _ A7.out).mono ?_);rintro e w' ⟨rfl,⟨nd,rfl⟩⟩;refine ⟨_,rfl,?_⟩)|(go_at_call 85;(with_reducible refine (impl_Disk_hasSector.calls gq0 A0_0 c0_0 l0_0 A0_1 c0_1 l0_1 A0_2 c0_2 l0_2 a3 false _ ?side1 ?side2 ?side3 ?side4 ?side5 ?side6 ?side7 A9.out).mono ?_);(case side1 => exact (by (with_reducible repeat (first|refine blk_drewN ?_ _|refine blk_drew ?_|refine blk_alloc ?_ _));exact BK0.out));(case side2 => repeat (first|exact HR0_0.out|(with_reducible refine Kd.C_alloc ?_ _)|(with_reducible refine Kd.C_drewN ?_ _)|(with_reducible refine Kd.C_drew ?_)));(case side3 => exact HC0_0.out);(case side4 => repeat (first|exact HR0_1.out|(with_reducible refine Kd.C_alloc ?_ _)|(with_reducible refine Kd.C_drewN ?_ _)|(with_reducible refine Kd.C_drew ?_)));(case side5 => exact HC0_1.out);(case side6 => repeat (first|exact HR0_2.out|(with_reducible refine Kd.C_alloc ?_ _)|(with_reducible refine Kd.C_drewN ?_ _)|(with_reducible refine Kd.C_drew ?_)));(case side7 => exact HC0_2.out);rintro e w' ⟨rfl,⟨nd,rfl⟩⟩))
    go_meet
    case rel => exact ⟨_,(true),(by first|rfl|(simp;done)|(simp [*];done)),H',⟨by first|omega|exact Nat.le_refl _⟩,⟨by (with_reducible repeat (first|refine blk_drewN ?_ _|refine blk_drew ?_|refine blk_alloc ?_ _));exact BK0.out⟩,by repeat (first|exact Drawn0.refl _|apply Drawn0.step)⟩
  ·
   replace c8:=Bool.eq_false_iff.mpr c8
   subst c8
   have H1 : (impl_Disk_asked.j0 k a1 a2 true l0_0 l0_1 l0_2) = some r:=by rw [if_neg (show ¬ (false = true) by decide)] at H;exact H
   clear H
   have H:=H1
   clear H1
   have H':=Aside0.mk H
   clear H
   go_wp2_with (first|((with_reducible refine gate_callee (f:=84) rfl ?_);refine goesL_ (some 13) rfl rfl Try.func84 (by kernel_rfl) rfl #[.int .i64 a1] rfl (by (try simp only [List.map_toArray,List.map_cons,List.map_nil]);first|done|rfl|(simp only [List.length_drop,List.length_take];rfl)) ?_;(with_reducible refine (impl_isHost.calls a1 false _ A7.out).mono ?_);rintro e w' ⟨rfl,⟨nd,rfl⟩⟩;refine ⟨_,rfl,?_⟩))
   go_meet
   case rel => exact ⟨_,(true),(by first|rfl|(simp;done)|(simp [*];done)),H',⟨by first|omega|exact Nat.le_refl _⟩,⟨by (with_reducible repeat (first|refine blk_drewN ?_ _|refine blk_drew ?_|refine blk_alloc ?_ _));exact BK0.out⟩,by repeat (first|exact Drawn0.refl _|apply Drawn0.step)⟩
 case rest =>
  clear HC6
  try clear c1
  try clear p2
  try clear c4
  try clear c8
  try clear c10
  obtain ⟨kq,x11_5,rfl,HA,HJ5,BK0,⟨mc5,rfl⟩⟩:=hcut
  cases kq with
  | zero => exact absurd HA.out (by simp [impl_Disk_asked.j0])
  | succ kj5 =>
   have H:=HA.out
   clear HA
   simp only [impl_Disk_asked.j0] at H
   by_cases c12 : x11_5 = true
   ·
    subst c12
    have H1 : (some 1) = some r:=by rw [if_pos rfl] at H;exact H
    clear H
    have H:=H1
    clear H1
    obtain rfl:=Option.some.inj H
    go_wp2
    go_ret
    exact ⟨by first|rfl|(simp;done)|(simp [*];done),by repeat (first|exact Drawn0.refl _|apply Drawn0.step)⟩
   ·
    replace c12:=Bool.eq_false_iff.mpr c12
    subst c12
    have H1 : (if 0 ≤ a1 then (if a1 < (l0_1.length : Int) then (if a2 = (rd l0_1 a1) then (some 0) else (some 2)) else (none)) else (none)) = some r:=by rw [if_neg (show ¬ (false = true) by decide)] at H;exact H
    clear H
    have H:=H1
    clear H1
    by_cases c13 : 0 ≤ a1
    ·
     rw [if_pos c13] at H
     have c13b0 : decide (0 ≤ a1) = true:=decide_eq_true c13
     clear c13
     by_cases c14 : a1 < (l0_1.length : Int)
     ·
      rw [if_pos c14] at H
      have c14b0 : decide (a1 < (l0_1.length : Int)) = true:=decide_eq_true c14
      clear c14
      by_cases c15 : a2 = (rd l0_1 a1)
      ·
       rw [if_pos c15] at H
       have c15b0 : (a2 == (rd l0_1 a1)) = true:=beq_iff_eq.mpr c15
       have c15b1 : (a2 != (rd l0_1 a1)) = false:=bne_eq_false_iff_eq.mpr c15
       clear c15
       obtain rfl:=Option.some.inj H
       have hcz16_0 : World.cell? _ ⟨gq0,0,none⟩ = some (.slice A0_0 l0_0.length c0_0):=(blk_cell BK0.out 0).trans rfl
       have hcz16_1 : World.cell? _ ⟨gq0,1,none⟩ = some (.slice A0_1 l0_1.length c0_1):=(blk_cell BK0.out 1).trans rfl
       have hcz16_2 : World.cell? _ ⟨gq0,2,none⟩ = some (.slice A0_2 l0_2.length c0_2):=(blk_cell BK0.out 2).trans rfl
       have hfz16_0:=blk_frozen BK0.out 0
       have hfz16_1:=blk_frozen BK0.out 1
       have hfz16_2:=blk_frozen BK0.out 2
       have p479 : 0 ≤ (a1 : Int):=of_decide_eq_true (by first|(with_reducible assumption)|assumption)
       have q479 : a1 < (l0_1.length : Int):=of_decide_eq_true (by first|(with_reducible assumption)|assumption)
       obtain ⟨ad479,e479,hx479_0⟩:=Kd.at_int HR0_1.out a1 p479 q479
       cases e479
       replace p479:=eq_true p479
       replace q479:=eq_true q479
       go_wp2
       go_ret
       exact ⟨by first|rfl|(simp;done)|(simp [*];done),by repeat (first|exact Drawn0.refl _|apply Drawn0.step)⟩
      ·
       rw [if_neg c15] at H
       have c15b0 : (a2 == (rd l0_1 a1)) = false:=beq_eq_false_iff_ne.mpr c15
       have c15b1 : (a2 != (rd l0_1 a1)) = true:=bne_iff_ne.mpr c15
       obtain rfl:=Option.some.inj H
       have hcz17_0 : World.cell? _ ⟨gq0,0,none⟩ = some (.slice A0_0 l0_0.length c0_0):=(blk_cell BK0.out 0).trans rfl
       have hcz17_1 : World.cell? _ ⟨gq0,1,none⟩ = some (.slice A0_1 l0_1.length c0_1):=(blk_cell BK0.out 1).trans rfl
       have hcz17_2 : World.cell? _ ⟨gq0,2,none⟩ = some (.slice A0_2 l0_2.length c0_2):=(blk_cell BK0.out 2).trans rfl
       have hfz17_0:=blk_frozen BK0.out 0
       have hfz17_1:=blk_frozen BK0.out 1
       have hfz17_2:=blk_frozen BK0.out 2
       have p479 : 0 ≤ (a1 : Int):=of_decide_eq_true (by first|(with_reducible assumption)|assumption)
       have q479 : a1 < (l0_1.length : Int):=of_decide_eq_true (by first|(with_reducible assumption)|assumption)
       obtain ⟨ad479,e479,hx479_0⟩:=Kd.at_int HR0_1.out a1 p479 q479
       cases e479
       replace p479:=eq_true p479
       replace q479:=eq_true q479
       go_wp2
       go_ret
       exact ⟨by first|rfl|(simp;done)|(simp [*];done),by repeat (first|exact Drawn0.refl _|apply Drawn0.step)⟩
     ·
      rw [if_neg c14] at H
      exact absurd H (by simp)
    ·
     rw [if_neg c13] at H
     exact absurd H (by simp)
end Go.Proofs.Ytiejilaahkkhmaa.P
