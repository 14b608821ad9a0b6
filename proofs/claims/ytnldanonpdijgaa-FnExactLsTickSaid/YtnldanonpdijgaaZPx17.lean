-- Ours: printed or written for this claim; cut to what the theorem needs.
import Derived.Test.YtnldanonpdijgaaZPx0
import Derived.Test.YtnldanonpdijgaaZPx16
open Bool renaming true → T, false → F
namespace Go.Proofs.Ytnldanonpdijgaa.P
open Go.RowKit Go.Proofs.YtnldanonpdijgaaW.PrintWords Go.Proofs.YtnldanonpdijgaaW.PrintLast Go.Proofs.YtnldanonpdijgaaW.PrintMore
attribute [local go_sem] max2_int min2_int max_two min_two max_three min_three max_four min_four
set_option linter.unusedVariables false
set_option linter.unusedSimpArgs false
def slices_Clone_impl_LsHost.f (l0 : List (S50)) : Option ((List (S50))):=(some (([] : List (S50)) : List (S50))).bind fun y454 => (if y454.length + l0.length < 2932031007402 then (some (y454 ++ l0)) else (none))
set_option maxHeartbeats 8000000 in
set_option maxRecDepth 100000 in
theorem slices_Clone_impl_LsHost.calls (A0 : Option Addr) (c0 : Nat) (l0 : List (S50)) (r : List (S50)) (w : World) (hr0 : Kd.C k50 w A0 l0.length l0) (hc0 : l0.length ≤ c0) (h : slices_Clone_impl_LsHost.f l0 = some r) :
  Calls Try.prog 85 #[.slice A0 l0.length c0] w fun e w' => ∃ v0_ : Value,e = .returned (v0_) ∧ Kd.R k50 50 w' w.heap.size (fun _ => True) v0_ r ∧ Below w.heap.size w w':=by
 by_cases hn0_ : A0 = none
 ·
  subst hn0_
  have h0_:=C_none_ hr0
  subst h0_
  have hr_ : r = []:=by simpa [slices_Clone_impl_LsHost.f,eq_comm] using h
  subst hr_
  have hq0_:=fun (W_ : World) (a_ : Option Addr) (n_ m_ n2_ m2_ : Nat) => Lib.run_eql_slice_nil (P:=Try.prog) W_ 28 50 a_ n_ m_ n2_ m2_ Try.underlying28
  go_enter Try.func85,Try.ntmps85
  go_wp2
  go_ret
  exact ⟨_,rfl,Kd.R_nil _ _ _ _ _,Below.refl _ _⟩
 have hnb0_ : A0.isNone = false:=by
  cases A0 with
  | none => exact absurd rfl hn0_
  | some _ => rfl
 clear hn0_
 have hq0_:=fun (W_ : World) (a_ : Option Addr) (n_ m_ n2_ m2_ : Nat) => Lib.run_eql_slice_nil (P:=Try.prog) W_ 28 50 a_ n_ m_ n2_ m2_ Try.underlying28
 have HR0:=Aside0.mk hr0
 have HC0:=Aside0.mk hc0
 clear hr0 hc0
 have HB:=Aside0.mk (Below.refl w.heap.size w)
 have H : ((some (([] : List (S50)) : List (S50))).bind fun y454 => (if y454.length + l0.length < 2932031007402 then (some (y454 ++ l0)) else (none))) = some r:=h
 clear h
 obtain ⟨y454,hy454⟩ : ∃ y_ : List (S50),y_ = (([] : List (S50))):=⟨_,rfl⟩
 replace H : (if y454.length + l0.length < 2932031007402 then (some (y454 ++ l0)) else (none)) = some r:=by first|(rw [hy454];with_reducible exact H)|(have H2_:=(Option.bind_some _ _).symm.trans H;rw [hy454];with_reducible exact H2_)|(have H2_:=(Option.bind_some _ _).symm.trans H;with_reducible exact H2_)|with_reducible exact H|(rw [hy454];exact H)|exact H
 have Ny454:=Aside0.mk hy454
 clear hy454
 by_cases c2 : y454.length + l0.length < 2932031007402
 ·
  rw [if_pos c2] at H
  have LMc2:=Aside0.mk c2
  clear c2
  obtain ⟨y457,hy457⟩ : ∃ y_ : List (S50),y_ = (y454 ++ l0):=⟨_,rfl⟩
  replace H : (some y457) = some r:=by first|(rw [hy457];with_reducible exact H)|(have H2_:=(Option.bind_some _ _).symm.trans H;rw [hy457];with_reducible exact H2_)|(have H2_:=(Option.bind_some _ _).symm.trans H;with_reducible exact H2_)|with_reducible exact H|(rw [hy457];exact H)|exact H
  have Ny457:=Aside0.mk hy457
  clear hy457
  obtain rfl:=Option.some.inj H
  go_enter Try.func85,Try.ntmps85
  go_wp2_with (first|((with_reducible refine gate_dst (N:=5) rfl ?_);refine Kd.R_lit k50 _ 50 ?hg (N:=5) ?hd (xs:=([] : List (S50))) (inner:=[]) (ok:=fun _ => True) (okp:=fun _ => True) ?hr ?hp (fun _ hk => hk) trivial (Below.refl _ _) (Nat.le_refl _) (by simp) ?_;(case hd => rfl);(case hg => rfl);(case hr => first|(go_simp;done)|(go_simp;rfl));(case hp => exact (Reps.none _ _));intro v455 w3 ho4 hb hg_ hnew_;clear hg_ hnew_;(first|rw [← Ny454.out] at ho4|(simp only [Int.reduceToNat] at ho4;rw [← Ny454.out] at ho4));have n0_:=Aside0.mk (Kd.R_lower ho4 (below_size (by repeat (first|(with_reducible first|exact HB.out|apply below_alloc|apply pw_below_drewN|apply below_drew1)|exact HB.out))));have n1_:=Aside0.mk (below_step (by repeat (first|(with_reducible first|exact HB.out|apply below_alloc|apply pw_below_drewN|apply below_drew1)|exact HB.out)) hb);clear HB;have HO456:=n0_;have HB:=n1_;clear n0_ n1_;clear hb ho4)|((with_reducible refine gate_builtin (b:=.append) (xs:=#[.tmp 5,.tmp 6]) rfl ?_);at_builtin;refine Kd.R_append_rows k50 (w0:=w) w.heap.size rfl (.tmp 5) (.tmp 6) 28 50 (.agg #[(.bool false),(.int .i64 0),(.bool false),(.int .i64 0),(.int .i64 0),(.int .i64 0)]) 48 rfl Try.underlying28 info50 rfl (by decide) (by omega) v455 y454 l0 _ _ _ (fun _ => True) (fun _ => False) rfl rfl ?aO ?aR (fun _ _ h => h) (fun _ h => h.elim) ?aF ?aB ?aS ?aL ?_;(case aR => repeat (first|exact (Kd.C_below HR0.out HB.out)|(with_reducible refine Kd.C_alloc ?_ _)|(with_reducible refine Kd.C_drewN ?_ _)|(with_reducible refine Kd.C_drew ?_)));(case aB => exact (by repeat (first|(with_reducible first|exact HB.out|apply below_alloc|apply pw_below_drewN|apply below_drew1)|exact HB.out)));(case aF => exact (fun _ _ => trivial));(case aO => exact (by (with_reducible repeat (first|apply Kd.R_alloc|apply Kd.R_drewN|apply Kd.R_drew));exact HO456.out));(case aS => exact (below_size (by repeat (first|(with_reducible first|exact HB.out|apply below_alloc|apply pw_below_drewN|apply below_drew1)|exact HB.out))));(case aL => have:=LMc2.out;omega);intro v458 w5 ho hb hg hat;rw [← Ny457.out] at ho;have n0_:=Aside0.mk (hb);have n1_:=Aside0.mk (ho);clear HB;clear HO456;have HB:=n0_;have HO459:=n1_;clear n0_ n1_;clear ho hb hg hat))
  go_ret
  exact ⟨_,by first|rfl|(simp [errW_none,errW_some] <;> rfl)|(simp [*,errW_none,errW_some] <;> rfl),by (with_reducible repeat (first|apply Kd.R_alloc|apply Kd.R_drewN|apply Kd.R_drew));exact HO459.out,by repeat (first|(with_reducible first|exact HB.out|apply below_alloc|apply pw_below_drewN|apply below_drew1)|exact HB.out)⟩
 ·
  rw [if_neg c2] at H
  exact absurd H (by simp)
def impl_Ls_copied.f (a0_0 : Int) (a0_1 : Int) (a0_2 : Int) (l0_3 : List Int) (a0_4 : Int) (a0_5 : Int) (l0_6 : List (S50)) : Option (Int × Int × Int × List Int × Int × Int × (List (S50))):=(slices_Clone_int.f l0_3).bind fun t462 => ((slices_Clone_impl_LsHost.f l0_6).bind fun t465 => (some (a0_0,a0_1,a0_2,t462,a0_4,a0_5,t465)))
def impl_Ls_copied.T1 : Bool × List (List Nat × List Nat):=(true,[([],[]),([0],[0]),([1],[1]),([],[]),([3],[3]),([4,2],[4]),([0,1,2,3,4],[]),([6,2,5,0,1,2,3,4],[2,6]),([0,1,2,3,4,5,6,7],[]),([8,5,7,0,1,2,3,4,5,6,7],[5,8])])
def impl_Ls_copied.B1 : List Nat:=[0,1,3,0,8,31,31,127,255,511]
theorem impl_Ls_copied.tab1 : rtab .any (opsOf Try.f80 1) = impl_Ls_copied.T1:=by kernel_rfl
theorem impl_Ls_copied.bits1 : waitsOk impl_Ls_copied.T1.2 impl_Ls_copied.B1 = true:=by kernel_rfl
set_option maxHeartbeats 8000000 in
set_option maxRecDepth 100000 in
theorem impl_Ls_copied.calls (a0_0 : Int) (a0_1 : Int) (a0_2 : Int) (A0_3 : Option Addr) (c0_3 : Nat) (l0_3 : List Int) (a0_4 : Int) (a0_5 : Int) (A0_6 : Option Addr) (c0_6 : Nat) (l0_6 : List (S50)) (r1 : Int) (r2 : Int) (r3 : Int) (r4 : List Int) (r5 : Int) (r6 : Int) (r7 : List (S50)) (w : World) (hr0_3 : Kd.C (Kd.int .i64) w A0_3 l0_3.length l0_3) (hc0_3 : l0_3.length ≤ c0_3) (hr0_6 : Kd.C k50 w A0_6 l0_6.length l0_6) (hc0_6 : l0_6.length ≤ c0_6) (h : impl_Ls_copied.f a0_0 a0_1 a0_2 l0_3 a0_4 a0_5 l0_6 = some (r1,r2,r3,r4,r5,r6,r7)) :
  Calls Try.prog 80 #[.agg #[.int .i64 a0_0,.int .i64 a0_1,.int .i64 a0_2,.slice A0_3 l0_3.length c0_3,.int .i64 a0_4,.int .i64 a0_5,.slice A0_6 l0_6.length c0_6]] w fun e w' => ∃ v3_ v6_ : Value,e = .returned (.agg #[.int .i64 r1,.int .i64 r2,.int .i64 r3,v3_,.int .i64 r5,.int .i64 r6,v6_]) ∧ Kd.R (Kd.int .i64) 3 w' w.heap.size (fun _ => True) v3_ r4 ∧ Kd.R k50 50 w' w.heap.size (fun _ => True) v6_ r7 ∧ Below w.heap.size w w':=by
 have hu30:=Try.underlying30
 have HR0_3:=Aside0.mk hr0_3
 have HC0_3:=Aside0.mk hc0_3
 clear hr0_3 hc0_3
 have HR0_6:=Aside0.mk hr0_6
 have HC0_6:=Aside0.mk hc0_6
 clear hr0_6 hc0_6
 have HB:=Aside0.mk (Below.refl w.heap.size w)
 have H : ((slices_Clone_int.f l0_3).bind fun t462 => ((slices_Clone_impl_LsHost.f l0_6).bind fun t465 => (some (a0_0,a0_1,a0_2,t462,a0_4,a0_5,t465)))) = some (r1,r2,r3,r4,r5,r6,r7):=h
 clear h
 replace H:=Option.bind_eq_some_iff.mp H
 obtain ⟨t462,A20,H⟩:=H
 replace H : ((slices_Clone_impl_LsHost.f l0_6).bind fun t465 => (some (a0_0,a0_1,a0_2,t462,a0_4,a0_5,t465))) = some (r1,r2,r3,r4,r5,r6,r7):=H
 have A2:=Aside0.mk A20
 clear A20
 replace H:=Option.bind_eq_some_iff.mp H
 obtain ⟨t465,A30,H⟩:=H
 replace H : (some (a0_0,a0_1,a0_2,t462,a0_4,a0_5,t465)) = some (r1,r2,r3,r4,r5,r6,r7):=H
 have A3:=Aside0.mk A30
 clear A30
 simp only [Option.some.injEq,Prod.mk.injEq] at H
 obtain ⟨rfl,rfl,rfl,rfl,rfl,rfl,rfl⟩:=H
 go_enter Try.func80,Try.ntmps80
 try go_wp2_with (first|((with_reducible refine gate_dst (N:=1) rfl ?_);refine box_event ?hg (N:=1) ?hd (cs:=#[.int .i64 a0_0,.int .i64 a0_1,.int .i64 a0_2,.slice A0_3 l0_3.length c0_3,.int .i64 a0_4,.int .i64 a0_5,.slice A0_6 l0_6.length c0_6]) (t:=30) ?hr ?_;(case hd => rfl);(case hg => rfl);(case hr => first|(go_simp;done)|(go_simp;rfl));intro gb460 hg w4 hbox hb;have n0_:=Aside0.mk (below_step (by repeat (first|(with_reducible first|exact HB.out|apply below_alloc|apply pw_below_drewN|apply below_drew1)|exact HB.out)) hb);have n1_:=Aside0.mk (hbox);have n2_:=Aside0.mk ((by rw [hg];exact (below_size (by repeat (first|(with_reducible first|exact HB.out|apply below_alloc|apply pw_below_drewN|apply below_drew1)|exact HB.out))) : w.heap.size ≤ gb460));have n3_:=Aside0.mk ((by rw [hg];exact (below_size (by repeat (first|(with_reducible first|exact HB.out|apply below_alloc|apply pw_below_drewN|apply below_drew1)|exact HB.out))) : w.heap.size ≤ gb460));clear HB;have HB:=n0_;have BK460:=n1_;have GW460:=n2_;have GE460:=n3_;clear n0_ n1_ n2_ n3_;clear hb hbox hg)|((with_reducible refine gate_dst (N:=2) rfl ?_);refine box_event ?hg (N:=2) ?hd (cs:=#[.int .i64 0,.int .i64 0,.int .i64 0,.slice none 0 0,.int .i64 0,.int .i64 0,.slice none 0 0]) (t:=30) ?hr ?_;(case hd => rfl);(case hg => rfl);(case hr => first|(go_simp;done)|(go_simp;rfl));intro gb461 hg w5 hbox hb;have n0_:=Aside0.mk (blk_below (g:=gb460) (o:=.cells #[.int .i64 a0_0,.int .i64 a0_1,.int .i64 a0_2,.slice A0_3 l0_3.length c0_3,.int .i64 a0_4,.int .i64 a0_5,.slice A0_6 l0_6.length c0_6] 30 (0,0)) (by (with_reducible repeat (first|refine blk_drewN ?_ _|refine blk_drew ?_|refine blk_alloc ?_ _));exact BK460.out) hb);have n1_:=Aside0.mk (below_step (by repeat (first|(with_reducible first|exact HB.out|apply below_alloc|apply pw_below_drewN|apply below_drew1|refine below_set ?_ GE460.out)|exact HB.out)) hb);have n2_:=Aside0.mk (hbox);have n3_:=Aside0.mk ((by rw [hg];exact (below_size (by repeat (first|(with_reducible first|exact HB.out|apply below_alloc|apply pw_below_drewN|apply below_drew1|refine below_set ?_ GE460.out)|exact HB.out))) : w.heap.size ≤ gb461));have n4_:=Aside0.mk ((by rw [hg];exact (below_size (by repeat (first|(with_reducible first|exact HB.out|apply below_alloc|apply pw_below_drewN|apply below_drew1|refine below_set ?_ GE460.out)|exact HB.out))) : w.heap.size ≤ gb461));have n5_:=Aside0.mk ((by rw [hg];exact Nat.ne_of_lt (blk_lt (g:=gb460) (o:=.cells #[.int .i64 a0_0,.int .i64 a0_1,.int .i64 a0_2,.slice A0_3 l0_3.length c0_3,.int .i64 a0_4,.int .i64 a0_5,.slice A0_6 l0_6.length c0_6] 30 (0,0)) (by (with_reducible repeat (first|refine blk_drewN ?_ _|refine blk_drew ?_|refine blk_alloc ?_ _));exact BK460.out)) : gb460 ≠ gb461));have n6_:=Aside0.mk ((by rw [hg];exact Nat.ne_of_gt (blk_lt (g:=gb460) (o:=.cells #[.int .i64 a0_0,.int .i64 a0_1,.int .i64 a0_2,.slice A0_3 l0_3.length c0_3,.int .i64 a0_4,.int .i64 a0_5,.slice A0_6 l0_6.length c0_6] 30 (0,0)) (by (with_reducible repeat (first|refine blk_drewN ?_ _|refine blk_drew ?_|refine blk_alloc ?_ _));exact BK460.out)) : gb461 ≠ gb460));clear BK460;clear HB;have BK460:=n0_;have HB:=n1_;have BK461:=n2_;have GW461:=n3_;have GE461:=n4_;have NB460_461:=n5_;have NB461_460:=n6_;clear n0_ n1_ n2_ n3_ n4_ n5_ n6_;clear hb hbox hg))
 have n0_:=Aside0.mk (blk_drew BK460.out)
 have n1_:=Aside0.mk (blk_drew BK461.out)
 have n2_:=Aside0.mk (below_drew1 HB.out)
 clear BK460
 clear BK461
 clear HB
 have BK460:=n0_
 have BK461:=n1_
 have HB:=n2_
 clear n0_ n1_ n2_
 refine start_ (n:=10) (S:=fun w' => w'.cell? ⟨gb460,0,none⟩ = some (.int .i64 a0_0) ∧ w'.cell? ⟨gb460,1,none⟩ = some (.int .i64 a0_1) ∧ w'.cell? ⟨gb460,2,none⟩ = some (.int .i64 a0_2) ∧ w'.cell? ⟨gb460,3,none⟩ = some (.slice A0_3 l0_3.length c0_3) ∧ w'.cell? ⟨gb460,4,none⟩ = some (.int .i64 a0_4) ∧ w'.cell? ⟨gb460,5,none⟩ = some (.int .i64 a0_5) ∧ w'.cell? ⟨gb460,6,none⟩ = some (.slice A0_6 l0_6.length c0_6)) (ds:=[7,9]) #[F,F,F,F,F,F,F,F,F,F] (by kernel_rfl) rfl rfl ⟨(blk_cell BK460.out 0).trans rfl,(blk_cell BK460.out 1).trans rfl,(blk_cell BK460.out 2).trans rfl,(blk_cell BK460.out 3).trans rfl,(blk_cell BK460.out 4).trans rfl,(blk_cell BK460.out 5).trans rfl,(blk_cell BK460.out 6).trans rfl⟩ (fun hHeld => ?_);refine with_tabW impl_Ls_copied.tab1 impl_Ls_copied.bits1 (fun HT_ HW_ => ?_)
 generalize w5.drew = w6 at BK460 BK461 HB hHeld ⊢
 refine pure_ (i:=0) (N:=some 3) (v:=?_) (a':=?_) #[T,F,F,F,F,F,F,F,F,F] rfl rfl (any_of HT_.out (by kernel_rfl)) (fun _ _ _ h => h) (Or.inl ⟨by rfl,?_⟩) ?_ ?_
 rotate_left
 ·
  intro w'
  go_simp
  with_reducible rfl
 rotate_left
 ·
  simp only [Act.put,List.setIfInBounds_toArray,List.set_cons_zero,List.set_cons_succ,i64_w,i32_w]
  rfl
 refine pure_ (i:=3) (N:=some 6) (v:=?_) (a':=?_) #[T,F,F,T,F,F,F,F,F,F] rfl rfl (any_of HT_.out (by kernel_rfl)) (fun _ _ _ h => h) (Or.inl ⟨by rfl,?_⟩) ?_ ?_
 rotate_left
 ·
  intro w'
  go_simp
  with_reducible rfl
 rotate_left
 ·
  simp only [Act.put,List.setIfInBounds_toArray,List.set_cons_zero,List.set_cons_succ,i64_w,i32_w]
  rfl
 refine take_ (i:=1) (N:=some 4) (v:=?_) (a':=?_) #[T,T,F,T,F,F,F,F,F,F] rfl rfl (take_ofW HT_.out HW_.out (by kernel_rfl)) (fun _ _ _ h => h) (Or.inl ⟨by rfl,?_⟩) hHeld ?_ ?_
 rotate_left
 ·
  rintro w' ⟨s0,s1,s2,s3,s4,s5,s6⟩
  go_simp
  with_reducible rfl
 rotate_left
 ·
  simp only [Act.put,List.setIfInBounds_toArray,List.set_cons_zero,List.set_cons_succ,i64_w,i32_w]
  rfl
 refine take_ (i:=4) (N:=some 7) (v:=?_) (a':=?_) #[T,T,F,T,T,F,F,F,F,F] rfl rfl (take_ofW HT_.out HW_.out (by kernel_rfl)) (fun _ _ _ h => h) (Or.inl ⟨by rfl,?_⟩) hHeld ?_ ?_
 rotate_left
 ·
  rintro w' ⟨s0,s1,s2,s3,s4,s5,s6⟩
  go_simp
  with_reducible rfl
 rotate_left
 ·
  simp only [Act.put,List.setIfInBounds_toArray,List.set_cons_zero,List.set_cons_succ,i64_w,i32_w]
  rfl
 refine one_ (i:=2) (N:=some 5) #[T,T,T,T,T,F,F,F,F,F] rfl rfl (one_of HT_.out (by kernel_rfl)) (by decide) (fun K hK => ?_)
 refine goes_ Try.func61 (by kernel_rfl) rfl #[.slice A0_3 l0_3.length c0_3] (by rfl) rfl rfl (by (try simp only [List.map_toArray,List.map_cons,List.map_nil]);first|done|rfl|(simp only [List.length_drop,List.length_take];rfl)) ?_
 with_reducible refine (slices_Clone_int.calls _ _ l0_3 t462 _ ?side1 ?side2 A2.out).mono ?_
 (case side1 => repeat (first|exact (Kd.C_below HR0_3.out HB.out)|(with_reducible refine Kd.C_alloc ?_ _)|(with_reducible refine Kd.C_drewN ?_ _)|(with_reducible refine Kd.C_drew ?_)))
 (case side2 => exact HC0_3.out)
 rintro e w7 ⟨v463,rfl,ho0,hb⟩
 refine ⟨_,rfl,?_⟩
 have n0_:=Aside0.mk (Kd.R_lower ho0 (below_size (by repeat (first|(with_reducible first|exact HB.out|apply below_alloc|apply pw_below_drewN|apply below_drew1|refine below_set ?_ GE460.out|refine below_set ?_ GE461.out)|exact HB.out))))
 have n1_:=Aside0.mk (blk_below (g:=gb460) (o:=.cells #[.int .i64 a0_0,.int .i64 a0_1,.int .i64 a0_2,.slice A0_3 l0_3.length c0_3,.int .i64 a0_4,.int .i64 a0_5,.slice A0_6 l0_6.length c0_6] 30 (0,0)) (by (with_reducible repeat (first|refine blk_drewN ?_ _|refine blk_drew ?_|refine blk_alloc ?_ _));exact BK460.out) hb)
 have n2_:=Aside0.mk (blk_below (g:=gb461) (o:=.cells #[.int .i64 0,.int .i64 0,.int .i64 0,.slice none 0 0,.int .i64 0,.int .i64 0,.slice none 0 0] 30 (0,0)) (by (with_reducible repeat (first|refine blk_drewN ?_ _|refine blk_drew ?_|refine blk_alloc ?_ _));exact BK461.out) hb)
 have n3_:=Aside0.mk (below_step (by repeat (first|(with_reducible first|exact HB.out|apply below_alloc|apply pw_below_drewN|apply below_drew1|refine below_set ?_ GE460.out|refine below_set ?_ GE461.out)|exact HB.out)) hb)
 clear BK460
 clear BK461
 clear HB
 have HO464:=n0_
 have BK460:=n1_
 have BK461:=n2_
 have HB:=n3_
 clear n0_ n1_ n2_ n3_
 (try clear hb)
 (try clear hb2)
 (try clear hk)
 (try clear hi)
 (try clear ho0)
 refine hK.out _ _ ⟨(blk_cell BK460.out 0).trans rfl,(blk_cell BK460.out 1).trans rfl,(blk_cell BK460.out 2).trans rfl,(blk_cell BK460.out 3).trans rfl,(blk_cell BK460.out 4).trans rfl,(blk_cell BK460.out 5).trans rfl,(blk_cell BK460.out 6).trans rfl⟩ (fun hHeld => ?_)
 clear hK K
 refine norm_ (a':=?_) ?_ ?_
 rotate_left
 ·
  show Act.put _ (some 5) _ = _
  simp only [Act.put,List.setIfInBounds_toArray,List.set_cons_zero,List.set_cons_succ,i64_w,i32_w]
  rfl
 refine pure_ (i:=6) (N:=some 9) (v:=?_) (a':=?_) #[T,T,T,T,T,F,T,F,F,F] rfl rfl (any_of HT_.out (by kernel_rfl)) (fun _ _ _ h => h) (Or.inl ⟨by rfl,?_⟩) ?_ ?_
 rotate_left
 ·
  intro w'
  go_simp
  with_reducible rfl
 rotate_left
 ·
  simp only [Act.put,List.setIfInBounds_toArray,List.set_cons_zero,List.set_cons_succ,i64_w,i32_w]
  rfl
 refine one_ (i:=5) (N:=some 8) #[T,T,T,T,T,T,T,F,F,F] rfl rfl (one_of HT_.out (by kernel_rfl)) (by decide) (fun K hK => ?_)
 refine goes_ Try.func85 (by kernel_rfl) rfl #[.slice A0_6 l0_6.length c0_6] (by rfl) rfl rfl (by (try simp only [List.map_toArray,List.map_cons,List.map_nil]);first|done|rfl|(simp only [List.length_drop,List.length_take];rfl)) ?_
 with_reducible refine (slices_Clone_impl_LsHost.calls _ _ l0_6 t465 _ ?side1 ?side2 A3.out).mono ?_
 (case side1 => repeat (first|exact (Kd.C_below HR0_6.out HB.out)|(with_reducible refine Kd.C_alloc ?_ _)|(with_reducible refine Kd.C_drewN ?_ _)|(with_reducible refine Kd.C_drew ?_)))
 (case side2 => exact HC0_6.out)
 rintro e w8 ⟨v466,rfl,ho0,hb⟩
 refine ⟨_,rfl,?_⟩
 have n0_:=Aside0.mk (Kd.R_below (by (with_reducible repeat (first|apply Kd.R_alloc|apply Kd.R_drewN|apply Kd.R_drew));exact HO464.out) hb)
 have n1_:=Aside0.mk (Kd.R_lower ho0 (below_size (by repeat (first|(with_reducible first|exact HB.out|apply below_alloc|apply pw_below_drewN|apply below_drew1|refine below_set ?_ GE460.out|refine below_set ?_ GE461.out)|exact HB.out))))
 have n2_:=Aside0.mk (blk_below (g:=gb460) (o:=.cells #[.int .i64 a0_0,.int .i64 a0_1,.int .i64 a0_2,.slice A0_3 l0_3.length c0_3,.int .i64 a0_4,.int .i64 a0_5,.slice A0_6 l0_6.length c0_6] 30 (0,0)) (by (with_reducible repeat (first|refine blk_drewN ?_ _|refine blk_drew ?_|refine blk_alloc ?_ _));exact BK460.out) hb)
 have n3_:=Aside0.mk (blk_below (g:=gb461) (o:=.cells #[.int .i64 0,.int .i64 0,.int .i64 0,.slice none 0 0,.int .i64 0,.int .i64 0,.slice none 0 0] 30 (0,0)) (by (with_reducible repeat (first|refine blk_drewN ?_ _|refine blk_drew ?_|refine blk_alloc ?_ _));exact BK461.out) hb)
 have n4_:=Aside0.mk (below_step (by repeat (first|(with_reducible first|exact HB.out|apply below_alloc|apply pw_below_drewN|apply below_drew1|refine below_set ?_ GE460.out|refine below_set ?_ GE461.out)|exact HB.out)) hb)
 clear HO464
 clear BK460
 clear BK461
 clear HB
 have HO464:=n0_
 have HO467:=n1_
 have BK460:=n2_
 have BK461:=n3_
 have HB:=n4_
 clear n0_ n1_ n2_ n3_ n4_
 (try clear hb)
 (try clear hb2)
 (try clear hk)
 (try clear hi)
 (try clear ho0)
 obtain ⟨Ao9,co9,eo9⟩:=Kd.R_slice HO464.out
 (first|subst eo9|(injection eo9 with f1_ f2_ f3_;have f4_:=f1_.symm;have f5_:=f3_.symm;clear f1_ f2_ f3_;subst f4_;subst f5_))
 obtain ⟨Ao11,co11,eo11⟩:=Kd.R_slice HO467.out
 (first|subst eo11|(injection eo11 with f1_ f2_ f3_;have f4_:=f1_.symm;have f5_:=f3_.symm;clear f1_ f2_ f3_;subst f4_;subst f5_))
 refine hK.out _ _ ⟨(blk_cell BK460.out 0).trans rfl,(blk_cell BK460.out 1).trans rfl,(blk_cell BK460.out 2).trans rfl,(blk_cell BK460.out 3).trans rfl,(blk_cell BK460.out 4).trans rfl,(blk_cell BK460.out 5).trans rfl,(blk_cell BK460.out 6).trans rfl⟩ (fun hHeld => ?_)
 clear hK K
 refine norm_ (a':=?_) ?_ ?_
 rotate_left
 ·
  show Act.put _ (some 8) _ = _
  simp only [Act.put,List.setIfInBounds_toArray,List.set_cons_zero,List.set_cons_succ,i64_w,i32_w]
  rfl
 refine last_ (i:=7) (N:=none) #[T,T,T,T,T,T,T,T,F,F] rfl rfl (one_of HT_.out (by kernel_rfl)) (by decide) (fun K hK => ?_)
 have hs10 : w8.cell? ⟨gb460,3,none⟩ = some (.slice A0_3 l0_3.length c0_3):=(blk_cell BK460.out 3).trans rfl
 have hfs10:=blk_frozen BK460.out 3
 have hns10_1:=NB461_460.out
 have hms10_1:=NB460_461.out
 refine skip_ (w1:=?_) (by rfl) rfl ?_ ?_
 rotate_left
 ·
  go_simp
  rfl
 refine hK.out _ _ ?_
 clear hK K
 refine pure_ (i:=8) (N:=some 10) (v:=?_) (a':=?_) #[T,T,T,T,T,T,T,T,T,F] rfl rfl (any_of HT_.out (by kernel_rfl)) (fun _ _ _ h => h) (Or.inl ⟨by rfl,?_⟩) ?_ ?_
 rotate_left
 ·
  intro w'
  go_simp
  with_reducible rfl
 rotate_left
 ·
  simp only [Act.put,List.setIfInBounds_toArray,List.set_cons_zero,List.set_cons_succ,i64_w,i32_w]
  rfl
 refine last_ (i:=9) (N:=none) #[T,T,T,T,T,T,T,T,T,T] rfl rfl (one_of HT_.out (by kernel_rfl)) (by decide) (fun K hK => ?_)
 have hs12 : w8.cell? ⟨gb460,6,none⟩ = some (.slice A0_6 l0_6.length c0_6):=(blk_cell BK460.out 6).trans rfl
 have hfs12:=blk_frozen BK460.out 6
 have hns12_1:=NB461_460.out
 have hms12_1:=NB460_461.out
 refine skip_ (w1:=?_) (by rfl) rfl ?_ ?_
 rotate_left
 ·
  go_simp
  rfl
 refine hK.out _ _ ?_
 clear hK K
 refine done_ (done_of HT_.out (by kernel_rfl)) ?_
 have hnb13:=NB460_461.out
 have hnc13:=NB461_460.out
 have hcz14_0 : w8.cell? ⟨gb460,0,none⟩ = some (.int .i64 a0_0):=(blk_cell BK460.out 0).trans rfl
 have hcz14_1 : w8.cell? ⟨gb460,1,none⟩ = some (.int .i64 a0_1):=(blk_cell BK460.out 1).trans rfl
 have hcz14_2 : w8.cell? ⟨gb460,2,none⟩ = some (.int .i64 a0_2):=(blk_cell BK460.out 2).trans rfl
 have hcz14_3 : w8.cell? ⟨gb460,3,none⟩ = some (.slice A0_3 l0_3.length c0_3):=(blk_cell BK460.out 3).trans rfl
 have hcz14_4 : w8.cell? ⟨gb460,4,none⟩ = some (.int .i64 a0_4):=(blk_cell BK460.out 4).trans rfl
 have hcz14_5 : w8.cell? ⟨gb460,5,none⟩ = some (.int .i64 a0_5):=(blk_cell BK460.out 5).trans rfl
 have hcz14_6 : w8.cell? ⟨gb460,6,none⟩ = some (.slice A0_6 l0_6.length c0_6):=(blk_cell BK460.out 6).trans rfl
 have hfz14_0:=blk_frozen BK460.out 0
 have hfz14_1:=blk_frozen BK460.out 1
 have hfz14_2:=blk_frozen BK460.out 2
 have hfz14_3:=blk_frozen BK460.out 3
 have hfz14_4:=blk_frozen BK460.out 4
 have hfz14_5:=blk_frozen BK460.out 5
 have hfz14_6:=blk_frozen BK460.out 6
 have hcz15_0 : w8.cell? ⟨gb461,0,none⟩ = some (.int .i64 0):=(blk_cell BK461.out 0).trans rfl
 have hcz15_1 : w8.cell? ⟨gb461,1,none⟩ = some (.int .i64 0):=(blk_cell BK461.out 1).trans rfl
 have hcz15_2 : w8.cell? ⟨gb461,2,none⟩ = some (.int .i64 0):=(blk_cell BK461.out 2).trans rfl
 have hcz15_3 : w8.cell? ⟨gb461,3,none⟩ = some (.slice none 0 0):=(blk_cell BK461.out 3).trans rfl
 have hcz15_4 : w8.cell? ⟨gb461,4,none⟩ = some (.int .i64 0):=(blk_cell BK461.out 4).trans rfl
 have hcz15_5 : w8.cell? ⟨gb461,5,none⟩ = some (.int .i64 0):=(blk_cell BK461.out 5).trans rfl
 have hcz15_6 : w8.cell? ⟨gb461,6,none⟩ = some (.slice none 0 0):=(blk_cell BK461.out 6).trans rfl
 have hfz15_0:=blk_frozen BK461.out 0
 have hfz15_1:=blk_frozen BK461.out 1
 have hfz15_2:=blk_frozen BK461.out 2
 have hfz15_3:=blk_frozen BK461.out 3
 have hfz15_4:=blk_frozen BK461.out 4
 have hfz15_5:=blk_frozen BK461.out 5
 have hfz15_6:=blk_frozen BK461.out 6
 try go_wp2
 refine bodyPost_ret (results_cell_row rfl _ _ gb461 30 #[.int .i64 a0_0,.int .i64 a0_1,.int .i64 a0_2,.slice Ao9 t462.length co9,.int .i64 a0_4,.int .i64 a0_5,.slice Ao11 t465.length co11] (0,0) _ rfl (by (with_reducible repeat (first|refine blk_drewN ?_ _|refine blk_drew ?_|refine blk_alloc ?_ _));refine blk_put (cs:=#[.int .i64 a0_0,.int .i64 a0_1,.int .i64 a0_2,.slice Ao9 t462.length co9,.int .i64 a0_4,.int .i64 a0_5,.slice none 0 0]) ?_ 6 _ rfl;(with_reducible repeat (first|refine blk_drewN ?_ _|refine blk_drew ?_|refine blk_alloc ?_ _));refine blk_put (cs:=#[.int .i64 a0_0,.int .i64 a0_1,.int .i64 a0_2,.slice Ao9 t462.length co9,.int .i64 a0_4,.int .i64 0,.slice none 0 0]) ?_ 5 _ rfl;(with_reducible repeat (first|refine blk_drewN ?_ _|refine blk_drew ?_|refine blk_alloc ?_ _));refine blk_put (cs:=#[.int .i64 a0_0,.int .i64 a0_1,.int .i64 a0_2,.slice Ao9 t462.length co9,.int .i64 0,.int .i64 0,.slice none 0 0]) ?_ 4 _ rfl;(with_reducible repeat (first|refine blk_drewN ?_ _|refine blk_drew ?_|refine blk_alloc ?_ _));refine blk_put (cs:=#[.int .i64 a0_0,.int .i64 a0_1,.int .i64 a0_2,.slice none 0 0,.int .i64 0,.int .i64 0,.slice none 0 0]) ?_ 3 _ rfl;(with_reducible repeat (first|refine blk_drewN ?_ _|refine blk_drew ?_|refine blk_alloc ?_ _));refine blk_put (cs:=#[.int .i64 a0_0,.int .i64 a0_1,.int .i64 0,.slice none 0 0,.int .i64 0,.int .i64 0,.slice none 0 0]) ?_ 2 _ rfl;(with_reducible repeat (first|refine blk_drewN ?_ _|refine blk_drew ?_|refine blk_alloc ?_ _));refine blk_put (cs:=#[.int .i64 a0_0,.int .i64 0,.int .i64 0,.slice none 0 0,.int .i64 0,.int .i64 0,.slice none 0 0]) ?_ 1 _ rfl;(with_reducible repeat (first|refine blk_drewN ?_ _|refine blk_drew ?_|refine blk_alloc ?_ _));refine blk_put (cs:=#[.int .i64 0,.int .i64 0,.int .i64 0,.slice none 0 0,.int .i64 0,.int .i64 0,.slice none 0 0]) ?_ 0 _ rfl;(with_reducible repeat (first|refine blk_drewN ?_ _|refine blk_drew ?_|refine blk_alloc ?_ _));refine blk_far ?_ NB461_460.out _;(with_reducible repeat (first|refine blk_drewN ?_ _|refine blk_drew ?_|refine blk_alloc ?_ _));refine blk_far ?_ NB461_460.out _;(with_reducible repeat (first|refine blk_drewN ?_ _|refine blk_drew ?_|refine blk_alloc ?_ _));exact BK461.out) Try.underlying30 rfl (by kernel_rfl)) rfl ?_
 exact ⟨_,_,by first|rfl|(simp [errW_none,errW_some] <;> rfl)|(simp [*,errW_none,errW_some] <;> rfl),by (with_reducible repeat (first|apply Kd.R_alloc|apply Kd.R_drewN|apply Kd.R_drew));exact Kd.R_mono (Kd.R_far (p:=⟨gb461,6,none⟩) (Kd.R_far (p:=⟨gb461,5,none⟩) (Kd.R_far (p:=⟨gb461,4,none⟩) (Kd.R_far (p:=⟨gb461,3,none⟩) (Kd.R_far (p:=⟨gb461,2,none⟩) (Kd.R_far (p:=⟨gb461,1,none⟩) (Kd.R_far (p:=⟨gb461,0,none⟩) (Kd.R_far (p:=⟨gb460,6,none⟩) (Kd.R_far (p:=⟨gb460,3,none⟩) (Kd.R_types (Kd.R_types HO464.out BK460.out (by decide)) BK461.out (by decide)) (fun _ hk => hk.1.2) (.slice Ao9 t462.length co9)) (fun _ hk => hk.1.2) (.slice Ao11 t465.length co11)) (fun _ hk => hk.2) (.int .i64 a0_0)) (fun _ hk => hk.2) (.int .i64 a0_1)) (fun _ hk => hk.2) (.int .i64 a0_2)) (fun _ hk => hk.2) (.slice Ao9 t462.length co9)) (fun _ hk => hk.2) (.int .i64 a0_4)) (fun _ hk => hk.2) (.int .i64 a0_5)) (fun _ hk => hk.2) (.slice Ao11 t465.length co11)) (fun _ hk => trivial),by (with_reducible repeat (first|apply Kd.R_alloc|apply Kd.R_drewN|apply Kd.R_drew));exact Kd.R_mono (Kd.R_far (p:=⟨gb461,6,none⟩) (Kd.R_far (p:=⟨gb461,5,none⟩) (Kd.R_far (p:=⟨gb461,4,none⟩) (Kd.R_far (p:=⟨gb461,3,none⟩) (Kd.R_far (p:=⟨gb461,2,none⟩) (Kd.R_far (p:=⟨gb461,1,none⟩) (Kd.R_far (p:=⟨gb461,0,none⟩) (Kd.R_far (p:=⟨gb460,6,none⟩) (Kd.R_far (p:=⟨gb460,3,none⟩) (Kd.R_types (Kd.R_types HO467.out BK460.out (by decide)) BK461.out (by decide)) (fun _ hk => hk.1.2) (.slice Ao9 t462.length co9)) (fun _ hk => hk.1.2) (.slice Ao11 t465.length co11)) (fun _ hk => hk.2) (.int .i64 a0_0)) (fun _ hk => hk.2) (.int .i64 a0_1)) (fun _ hk => hk.2) (.int .i64 a0_2)) (fun _ hk => hk.2) (.slice Ao9 t462.length co9)) (fun _ hk => hk.2) (.int .i64 a0_4)) (fun _ hk => hk.2) (.int .i64 a0_5)) (fun _ hk => hk.2) (.slice Ao11 t465.length co11)) (fun _ hk => trivial),by repeat (first|(with_reducible first|exact HB.out|apply below_alloc|apply pw_below_drewN|apply below_drew1|refine below_set ?_ GE460.out|refine below_set ?_ GE461.out)|exact HB.out)⟩
end Go.Proofs.Ytnldanonpdijgaa.P
