-- Ours: printed or written for this claim; cut to what the theorem needs.
import Derived.Test.YtipolbckgifnbaaZPx0
import Derived.Test.YtipolbckgifnbaaZPx3
import Derived.Test.YtipolbckgifnbaaZPx4
import Derived.Test.YtipolbckgifnbaaZPx5
open Bool renaming true → T, false → F
namespace Go.Proofs.Ytipolbckgifnbaa.P
open Go.RowKit Go.Proofs.YtipolbckgifnbaaW.PrintWords Go.Proofs.YtipolbckgifnbaaW.PrintLast Go.Proofs.YtipolbckgifnbaaW.PrintMore
attribute [local go_sem] max2_int min2_int max_two min_two max_three min_three max_four min_four
attribute [-simp] ByteArray.size_extract ByteArray.size_append
set_option linter.unusedVariables false
set_option linter.unusedSimpArgs false
def spec_ReadCopy.f (k : Nat) (a0 : ByteArray) : Option (Int × ByteArray × Bool):=(spec_l4Vars.f k a0 4 1).bind fun bt164 => (if bt164.2 < 0 then (some (0,(⟨#[]⟩ : ByteArray),false)) else (if 0 < (bt164.1.length : Int) then (if 0 ≤ bt164.2 then (if bt164.2 ≤ (a0.size : Int) then ((spec_ShowCopy.f k (rd bt164.1 0) (a0.extract (bt164.2 : Int).toNat a0.size)).bind fun t170 => (if t170.toList = a0.toList then (some (rd bt164.1 0,a0.extract (bt164.2 : Int).toNat a0.size,true)) else (some (0,(⟨#[]⟩ : ByteArray),false)))) else (none)) else (none)) else (none)))
def spec_ReadCopy.T4 : Bool × List (List Nat × List Nat):=(true,[([],[]),([0],[0]),([1],[1]),([],[]),([],[]),([3,4],[3,4]),([2,5],[2,5]),([],[]),([7,6,0,1,2,3,4,5,6,7],[6,7])])
def spec_ReadCopy.B4 : List Nat:=[0,1,3,0,0,24,63,0,255]
theorem spec_ReadCopy.tab4 : rtab .any (opsOf Try.f13 4) = spec_ReadCopy.T4:=by kernel_rfl
theorem spec_ReadCopy.bits4 : waitsOk spec_ReadCopy.T4.2 spec_ReadCopy.B4 = true:=by kernel_rfl
set_option maxHeartbeats 8000000 in
set_option maxRecDepth 100000 in
theorem spec_ReadCopy.calls (k : Nat) (a0 : ByteArray) (r1 : Int) (r2 : ByteArray) (r3 : Bool) (w : World) (h : spec_ReadCopy.f k a0 = some (r1,r2,r3)) :
  Calls Try.prog 13 #[.string a0] w fun e w' => e = .returned (.tuple #[.agg #[.int .i64 r1,.string r2],.bool r3]) ∧ Below w.heap.size w w':=by
 have hu26:=Try.underlying26
 have HB:=Aside0.mk (Below.refl w.heap.size w)
 have H : ((spec_l4Vars.f k a0 4 1).bind fun bt164 => (if bt164.2 < 0 then (some (0,(⟨#[]⟩ : ByteArray),false)) else (if 0 < (bt164.1.length : Int) then (if 0 ≤ bt164.2 then (if bt164.2 ≤ (a0.size : Int) then ((spec_ShowCopy.f k (rd bt164.1 0) (a0.extract (bt164.2 : Int).toNat a0.size)).bind fun t170 => (if t170.toList = a0.toList then (some (rd bt164.1 0,a0.extract (bt164.2 : Int).toNat a0.size,true)) else (some (0,(⟨#[]⟩ : ByteArray),false)))) else (none)) else (none)) else (none)))) = some (r1,r2,r3):=h
 clear h
 replace H:=Option.bind_eq_some_iff.mp H
 obtain ⟨⟨t164,t165⟩,A20,H⟩:=H
 replace H : (if t165 < 0 then (some (0,(⟨#[]⟩ : ByteArray),false)) else (if 0 < (t164.length : Int) then (if 0 ≤ t165 then (if t165 ≤ (a0.size : Int) then ((spec_ShowCopy.f k (rd t164 0) (a0.extract (t165 : Int).toNat a0.size)).bind fun t170 => (if t170.toList = a0.toList then (some (rd t164 0,a0.extract (t165 : Int).toNat a0.size,true)) else (some (0,(⟨#[]⟩ : ByteArray),false)))) else (none)) else (none)) else (none))) = some (r1,r2,r3):=H
 have A2:=Aside0.mk A20
 clear A20
 by_cases c3 : t165 < 0
 ·
  rw [if_pos c3] at H
  have c3b0 : decide (t165 < 0) = true:=decide_eq_true c3
  clear c3
  simp only [Option.some.injEq,Prod.mk.injEq] at H
  obtain ⟨rfl,rfl,rfl⟩:=H
  go_enter Try.func13,Try.ntmps13
  go_wp2_with (first|((with_reducible refine gate_dst (N:=2) rfl ?_);refine box_event ?hg (N:=2) ?hd (cs:=#[.int .i64 0,.string (⟨#[]⟩ : ByteArray)]) (t:=26) ?hr ?_;(case hd => rfl);(case hg => rfl);(case hr => first|(go_simp;done)|(go_simp;rfl));intro gb163 hg w4 hbox hb;have n0_:=Aside0.mk (below_step (by repeat (first|(with_reducible first|exact HB.out|apply below_alloc|apply pw_below_drewN|apply below_drew1)|exact HB.out)) hb);have n1_:=Aside0.mk (hbox);have n2_:=Aside0.mk ((by rw [hg];exact (below_size (by repeat (first|(with_reducible first|exact HB.out|apply below_alloc|apply pw_below_drewN|apply below_drew1)|exact HB.out))) : w.heap.size ≤ gb163));have n3_:=Aside0.mk ((by rw [hg];exact (below_size (by repeat (first|(with_reducible first|exact HB.out|apply below_alloc|apply pw_below_drewN|apply below_drew1)|exact HB.out))) : w.heap.size ≤ gb163));clear HB;have HB:=n0_;have BK163:=n1_;have GW163:=n2_;have GE163:=n3_;clear n0_ n1_ n2_ n3_;clear hb hbox hg)|((with_reducible refine gate_callee (f:=30) rfl ?_);refine goesL_ (some 9) rfl rfl Try.func30 (by kernel_rfl) rfl #[.string a0,.int .i64 4,.int .i64 1] rfl (by (try simp only [List.map_toArray,List.map_cons,List.map_nil]);first|done|rfl|(simp only [List.length_drop,List.length_take];rfl)) ?_;(with_reducible refine (spec_l4Vars.calls k a0 4 1 t164 t165 _ A2.out).mono ?_);rintro e w5 ⟨v166,rfl,ho0,hb⟩;refine ⟨_,rfl,?_⟩;have n0_:=Aside0.mk (Kd.R_lower ho0 (below_size (by repeat (first|(with_reducible first|exact HB.out|apply below_alloc|apply pw_below_drewN|apply below_drew1|refine below_set ?_ GE163.out)|exact HB.out))));have n1_:=Aside0.mk (blk_below (g:=gb163) (o:=.cells #[.int .i64 0,.string (⟨#[]⟩ : ByteArray)] 26 (0,0)) (by (with_reducible repeat (first|refine blk_drewN ?_ _|refine blk_drew ?_|refine blk_alloc ?_ _));exact BK163.out) hb);have n2_:=Aside0.mk (below_step (by repeat (first|(with_reducible first|exact HB.out|apply below_alloc|apply pw_below_drewN|apply below_drew1|refine below_set ?_ GE163.out)|exact HB.out)) hb);clear BK163;clear HB;have HO167:=n0_;have BK163:=n1_;have HB:=n2_;clear n0_ n1_ n2_;(try clear hb);(try clear hb2);(try clear hk);(try clear hi);(try clear ho0);have hcz6_0 : w5.cell? ⟨gb163,0,none⟩ = some (.int .i64 0):=(blk_cell BK163.out 0).trans rfl;have hcz6_1 : w5.cell? ⟨gb163,1,none⟩ = some (.string (⟨#[]⟩ : ByteArray)):=(blk_cell BK163.out 1).trans rfl;have hfz6_0:=blk_frozen BK163.out 0;have hfz6_1:=blk_frozen BK163.out 1))
  refine bodyPost_ret (results_ct rfl _ _ gb163 26 #[.int .i64 0,.string (⟨#[]⟩ : ByteArray)] (0,0) _ rfl (by (with_reducible repeat (first|refine blk_drewN ?_ _|refine blk_drew ?_|refine blk_alloc ?_ _));refine blk_put (cs:=#[.int .i64 0,.string (⟨#[]⟩ : ByteArray)]) ?_ 1 _ rfl;(with_reducible repeat (first|refine blk_drewN ?_ _|refine blk_drew ?_|refine blk_alloc ?_ _));refine blk_put (cs:=#[.int .i64 0,.string (⟨#[]⟩ : ByteArray)]) ?_ 0 _ rfl;(with_reducible repeat (first|refine blk_drewN ?_ _|refine blk_drew ?_|refine blk_alloc ?_ _));exact BK163.out) Try.underlying26 rfl (by kernel_rfl)) rfl ?_
  exact ⟨by first|rfl|(simp [errW_none,errW_some] <;> rfl)|(simp [*,errW_none,errW_some] <;> rfl),by repeat (first|(with_reducible first|exact HB.out|apply below_alloc|apply pw_below_drewN|apply below_drew1|refine below_set ?_ GE163.out)|exact HB.out)⟩
 ·
  rw [if_neg c3] at H
  have c3b0 : decide (t165 < 0) = false:=decide_eq_false c3
  clear c3
  by_cases c7 : 0 < (t164.length : Int)
  ·
   rw [if_pos c7] at H
   have c7b0 : decide (0 < (t164.length : Int)) = true:=decide_eq_true c7
   have c7b1 : decide (0 < t164.length) = true:=decide_eq_true (by omega)
   clear c7
   by_cases c8 : 0 ≤ t165
   ·
    rw [if_pos c8] at H
    have c8b0:=eq_true c8
    have c8b1 : decide (0 ≤ t165) = true:=decide_eq_true c8
    clear c8
    by_cases c9 : t165 ≤ (a0.size : Int)
    ·
     rw [if_pos c9] at H
     have c9b0:=eq_true c9
     have c9b1 : decide (t165 ≤ (a0.size : Int)) = true:=decide_eq_true c9
     clear c9
     replace H:=Option.bind_eq_some_iff.mp H
     obtain ⟨t170,A100,H⟩:=H
     replace H : (if t170.toList = a0.toList then (some (rd t164 0,a0.extract (t165 : Int).toNat a0.size,true)) else (some (0,(⟨#[]⟩ : ByteArray),false))) = some (r1,r2,r3):=H
     have A10:=Aside0.mk A100
     clear A100
     by_cases c11 : t170.toList = a0.toList
     ·
      rw [if_pos c11] at H
      have c11b0 : (t170.toList == a0.toList) = true:=beq_iff_eq.mpr c11
      have c11b1 : (t170.toList != a0.toList) = false:=bne_eq_false_iff_eq.mpr c11
      clear c11
      simp only [Option.some.injEq,Prod.mk.injEq] at H
      obtain ⟨rfl,rfl,rfl⟩:=H
      go_enter Try.func13,Try.ntmps13
      try go_wp2_with (first|((with_reducible refine gate_dst (N:=2) rfl ?_);refine box_event ?hg (N:=2) ?hd (cs:=#[.int .i64 0,.string (⟨#[]⟩ : ByteArray)]) (t:=26) ?hr ?_;(case hd => rfl);(case hg => rfl);(case hr => first|(go_simp;done)|(go_simp;rfl));intro gb163 hg w12 hbox hb;have n0_:=Aside0.mk (below_step (by repeat (first|(with_reducible first|exact HB.out|apply below_alloc|apply pw_below_drewN|apply below_drew1)|exact HB.out)) hb);have n1_:=Aside0.mk (hbox);have n2_:=Aside0.mk ((by rw [hg];exact (below_size (by repeat (first|(with_reducible first|exact HB.out|apply below_alloc|apply pw_below_drewN|apply below_drew1)|exact HB.out))) : w.heap.size ≤ gb163));have n3_:=Aside0.mk ((by rw [hg];exact (below_size (by repeat (first|(with_reducible first|exact HB.out|apply below_alloc|apply pw_below_drewN|apply below_drew1)|exact HB.out))) : w.heap.size ≤ gb163));clear HB;have HB:=n0_;have BK163:=n1_;have GW163:=n2_;have GE163:=n3_;clear n0_ n1_ n2_ n3_;clear hb hbox hg)|((with_reducible refine gate_callee (f:=30) rfl ?_);refine goesL_ (some 9) rfl rfl Try.func30 (by kernel_rfl) rfl #[.string a0,.int .i64 4,.int .i64 1] rfl (by (try simp only [List.map_toArray,List.map_cons,List.map_nil]);first|done|rfl|(simp only [List.length_drop,List.length_take];rfl)) ?_;(with_reducible refine (spec_l4Vars.calls k a0 4 1 t164 t165 _ A2.out).mono ?_);rintro e w13 ⟨v166,rfl,ho0,hb⟩;refine ⟨_,rfl,?_⟩;have n0_:=Aside0.mk (Kd.R_lower ho0 (below_size (by repeat (first|(with_reducible first|exact HB.out|apply below_alloc|apply pw_below_drewN|apply below_drew1|refine below_set ?_ GE163.out)|exact HB.out))));have n1_:=Aside0.mk (blk_below (g:=gb163) (o:=.cells #[.int .i64 0,.string (⟨#[]⟩ : ByteArray)] 26 (0,0)) (by (with_reducible repeat (first|refine blk_drewN ?_ _|refine blk_drew ?_|refine blk_alloc ?_ _));exact BK163.out) hb);have n2_:=Aside0.mk (below_step (by repeat (first|(with_reducible first|exact HB.out|apply below_alloc|apply pw_below_drewN|apply below_drew1|refine below_set ?_ GE163.out)|exact HB.out)) hb);clear BK163;clear HB;have HO167:=n0_;have BK163:=n1_;have HB:=n2_;clear n0_ n1_ n2_;(try clear hb);(try clear hb2);(try clear hk);(try clear hi);(try clear ho0)))
      have n0_:=Aside0.mk (Kd.R_drew HO167.out)
      have n1_:=Aside0.mk (blk_drew BK163.out)
      have n2_:=Aside0.mk (below_drew1 HB.out)
      clear HO167
      clear BK163
      clear HB
      have HO167:=n0_
      have BK163:=n1_
      have HB:=n2_
      clear n0_ n1_ n2_
      obtain ⟨Ao15,co15,eo15⟩:=Kd.R_slice HO167.out
      (first|subst eo15|(injection eo15 with f1_ f2_ f3_;have f4_:=f1_.symm;have f5_:=f3_.symm;clear f1_ f2_ f3_;subst f4_;subst f5_))
      have p168 : 0 ≤ (0 : Int):=(by omega)
      have q168 : 0 < (t164.length : Int):=of_decide_eq_true (by first|(with_reducible assumption)|assumption)
      obtain ⟨ad168,e168,hx168_0⟩:=Kd.at_int (Kd.R_reads' HO167.out).2.2 0 p168 q168
      cases e168
      have qi168 : (0 < t164.length) = True:=eq_true (by omega)
      (try rw [show ((0 : Int)).toNat = 0 from rfl] at hx168_0)
      (try rw [Addr.add_zero'] at hx168_0)
      replace p168:=eq_true p168
      replace q168:=eq_true q168
      refine start_ (n:=9) (S:=fun w' => w'.cell? ad168 = some (.int .i64 (rd t164 0))) (ds:=[]) #[F,F,F,F,F,F,F,F,F] (by kernel_rfl) rfl rfl (hx168_0) (fun hHeld => ?_);refine with_tabW spec_ReadCopy.tab4 spec_ReadCopy.bits4 (fun HT_ HW_ => ?_)
      generalize w13.drew = w14 at HO167 BK163 HB hx168_0 hHeld ⊢
      refine pure_ (i:=0) (N:=some 15) (v:=?_) (a':=?_) #[T,F,F,F,F,F,F,F,F] rfl rfl (any_of HT_.out (by kernel_rfl)) (fun _ _ _ h => h) (Or.inl ⟨by rfl,?_⟩) ?_ ?_
      rotate_left
      ·
       intro w'
       go_simp
       with_reducible rfl
      rotate_left
      ·
       simp only [Act.put,List.setIfInBounds_toArray,List.set_cons_zero,List.set_cons_succ,i64_w,i32_w]
       rfl
      refine pure_ (i:=1) (N:=some 16) (v:=?_) (a':=?_) #[T,T,F,F,F,F,F,F,F] rfl rfl (any_of HT_.out (by kernel_rfl)) (fun _ _ _ h => h) (Or.inl ⟨by rfl,?_⟩) ?_ ?_
      rotate_left
      ·
       intro w'
       go_simp
       with_reducible rfl
      rotate_left
      ·
       simp only [Act.put,List.setIfInBounds_toArray,List.set_cons_zero,List.set_cons_succ,i64_w,i32_w]
       rfl
      refine pure_ (i:=3) (N:=some 18) (v:=?_) (a':=?_) #[T,T,F,T,F,F,F,F,F] rfl rfl (any_of HT_.out (by kernel_rfl)) (fun _ _ _ h => h) (Or.inl ⟨by rfl,?_⟩) ?_ ?_
      rotate_left
      ·
       intro w'
       go_simp
       with_reducible rfl
      rotate_left
      ·
       simp only [Act.put,List.setIfInBounds_toArray,List.set_cons_zero,List.set_cons_succ,i64_w,i32_w]
       rfl
      refine pure_ (i:=4) (N:=some 19) (v:=?_) (a':=?_) #[T,T,F,T,T,F,F,F,F] rfl rfl (any_of HT_.out (by kernel_rfl)) (fun _ _ _ h => h) (Or.inl ⟨by rfl,?_⟩) ?_ ?_
      rotate_left
      ·
       intro w'
       go_simp
       with_reducible rfl
      rotate_left
      ·
       simp only [Act.put,List.setIfInBounds_toArray,List.set_cons_zero,List.set_cons_succ,i64_w,i32_w]
       rfl
      refine pure_ (i:=5) (N:=some 20) (v:=?_) (a':=?_) #[T,T,F,T,T,T,F,F,F] rfl rfl (any_of HT_.out (by kernel_rfl)) (fun _ _ _ h => h) (Or.inl ⟨by rfl,?_⟩) ?_ ?_
      rotate_left
      ·
       intro w'
       go_simp
       with_reducible rfl
      rotate_left
      ·
       simp only [Act.put,List.setIfInBounds_toArray,List.set_cons_zero,List.set_cons_succ,i64_w,i32_w]
       rfl
      refine take_ (i:=2) (N:=some 17) (v:=?_) (a':=?_) #[T,T,T,T,T,T,F,F,F] rfl rfl (take_ofW HT_.out HW_.out (by kernel_rfl)) (fun _ _ _ h => h) (Or.inl ⟨by rfl,?_⟩) hHeld ?_ ?_
      rotate_left
      ·
       intro w' s0
       go_simp
       with_reducible rfl
      rotate_left
      ·
       simp only [Act.put,List.setIfInBounds_toArray,List.set_cons_zero,List.set_cons_succ,i64_w,i32_w]
       rfl
      refine pure_ (i:=6) (N:=some 21) (v:=?_) (a':=?_) #[T,T,T,T,T,T,T,F,F] rfl rfl (any_of HT_.out (by kernel_rfl)) (fun _ _ _ h => h) (Or.inl ⟨by rfl,?_⟩) ?_ ?_
      rotate_left
      ·
       intro w'
       go_simp
       with_reducible rfl
      rotate_left
      ·
       simp only [Act.put,List.setIfInBounds_toArray,List.set_cons_zero,List.set_cons_succ,i64_w,i32_w]
       rfl
      refine one_ (i:=7) (N:=some 6) #[T,T,T,T,T,T,T,T,F] rfl rfl (one_of HT_.out (by kernel_rfl)) (by decide) (fun K hK => ?_)
      refine box_step ?hg (N:=6) ?hd (cs:=#[.int .i64 0,.string (⟨#[]⟩ : ByteArray)]) (t:=26) ?hr ?_;(case hd => rfl);(case hg => rfl);(case hr => first|(go_simp;done)|(go_simp;rfl))
      intro gb169 hg w16 hbox hb
      have HS0_:=(hb.cell (World.block_lt_of_cell? _ _ (hHeld))).trans (hHeld)
      have n0_:=Aside0.mk (Kd.R_below (by (with_reducible repeat (first|apply Kd.R_alloc|apply Kd.R_drewN|apply Kd.R_drew));exact HO167.out) hb)
      have n1_:=Aside0.mk (blk_below (g:=gb163) (o:=.cells #[.int .i64 0,.string (⟨#[]⟩ : ByteArray)] 26 (0,0)) (by (with_reducible repeat (first|refine blk_drewN ?_ _|refine blk_drew ?_|refine blk_alloc ?_ _));exact BK163.out) hb)
      have n2_:=Aside0.mk (below_step (by repeat (first|(with_reducible first|exact HB.out|apply below_alloc|apply pw_below_drewN|apply below_drew1|refine below_set ?_ GE163.out)|exact HB.out)) hb)
      have n3_:=Aside0.mk (hbox)
      have n4_:=Aside0.mk ((by rw [hg];exact (below_size (by repeat (first|(with_reducible first|exact HB.out|apply below_alloc|apply pw_below_drewN|apply below_drew1|refine below_set ?_ GE163.out)|exact HB.out))) : w.heap.size ≤ gb169))
      have n5_:=Aside0.mk ((by rw [hg];exact (below_size (by repeat (first|(with_reducible first|exact HB.out|apply below_alloc|apply pw_below_drewN|apply below_drew1|refine below_set ?_ GE163.out)|exact HB.out))) : w.heap.size ≤ gb169))
      have n6_:=Aside0.mk ((by rw [hg];exact Nat.ne_of_lt (blk_lt (g:=gb163) (o:=.cells #[.int .i64 0,.string (⟨#[]⟩ : ByteArray)] 26 (0,0)) (by (with_reducible repeat (first|refine blk_drewN ?_ _|refine blk_drew ?_|refine blk_alloc ?_ _));exact BK163.out)) : gb163 ≠ gb169))
      have n7_:=Aside0.mk ((by rw [hg];exact Nat.ne_of_gt (blk_lt (g:=gb163) (o:=.cells #[.int .i64 0,.string (⟨#[]⟩ : ByteArray)] 26 (0,0)) (by (with_reducible repeat (first|refine blk_drewN ?_ _|refine blk_drew ?_|refine blk_alloc ?_ _));exact BK163.out)) : gb169 ≠ gb163))
      clear HO167
      clear BK163
      clear HB
      have HO167:=n0_
      have BK163:=n1_
      have HB:=n2_
      have BK169:=n3_
      have GW169:=n4_
      have GE169:=n5_
      have NB163_169:=n6_
      have NB169_163:=n7_
      clear n0_ n1_ n2_ n3_ n4_ n5_ n6_ n7_
      clear hb hbox hg
      refine hK.out _ _ (HS0_) (fun hHeld => ?_)
      clear hK K
      refine norm_ (a':=?_) ?_ ?_
      rotate_left
      ·
       show Act.put _ (some 6) _ = _
       simp only [Act.put,List.setIfInBounds_toArray,List.set_cons_zero,List.set_cons_succ,i64_w,i32_w]
       rfl
      refine one_ (i:=8) (N:=none) #[T,T,T,T,T,T,T,T,T] rfl rfl (one_of HT_.out (by kernel_rfl)) (by decide) (fun K hK => ?_)
      have hs17 : w16.cell? ⟨gb169,0,none⟩ = some (.int .i64 0):=(blk_cell BK169.out 0).trans rfl
      have hfs17:=blk_frozen BK169.out 0
      have hns17_0:=NB163_169.out
      have hms17_0:=NB169_163.out
      have hs18 : w16.cell? ⟨gb169,1,none⟩ = some (.string (⟨#[]⟩ : ByteArray)):=(blk_cell BK169.out 1).trans rfl
      have hfs18:=blk_frozen BK169.out 1
      have hns18_0:=NB163_169.out
      have hms18_0:=NB169_163.out
      refine skip_ (w1:=?_) (by rfl) rfl ?_ ?_
      rotate_left
      ·
       go_simp
       rfl
      refine hK.out _ _ (((cell_far (p:=⟨gb169,_,none⟩) (by first|exact Kd.own_blk (Kd.R_ne HO167.out BK169.out (by decide))|(rw [add_block];exact Kd.own_blk (Kd.R_ne HO167.out BK169.out (by decide)))|(show (Addr.add _ _).block ≠ _;rw [add_block];exact Kd.own_blk (Kd.R_ne HO167.out BK169.out (by decide)))|(dsimp only;exact Kd.own_blk (Kd.R_ne HO167.out BK169.out (by decide)))) _).trans (((cell_far (p:=⟨gb169,_,none⟩) (by first|exact Kd.own_blk (Kd.R_ne HO167.out BK169.out (by decide))|(rw [add_block];exact Kd.own_blk (Kd.R_ne HO167.out BK169.out (by decide)))|(show (Addr.add _ _).block ≠ _;rw [add_block];exact Kd.own_blk (Kd.R_ne HO167.out BK169.out (by decide)))|(dsimp only;exact Kd.own_blk (Kd.R_ne HO167.out BK169.out (by decide)))) _).trans (hHeld))))) (fun hHeld => ?_)
      clear hK K
      refine done_ (done_of HT_.out (by kernel_rfl)) ?_
      have hnb19:=NB169_163.out
      have hnc19:=NB163_169.out
      have hcz20_0 : w16.cell? ⟨gb169,0,none⟩ = some (.int .i64 0):=(blk_cell BK169.out 0).trans rfl
      have hcz20_1 : w16.cell? ⟨gb169,1,none⟩ = some (.string (⟨#[]⟩ : ByteArray)):=(blk_cell BK169.out 1).trans rfl
      have hfz20_0:=blk_frozen BK169.out 0
      have hfz20_1:=blk_frozen BK169.out 1
      try go_wp2_with (first|((with_reducible refine gate_callee (f:=10) rfl ?_);refine goesL_ (some 23) rfl rfl Try.func10 (by kernel_rfl) rfl #[.agg #[.int .i64 (rd t164 0),.string (a0.extract (t165 : Int).toNat a0.size)]] rfl (by (try simp only [List.map_toArray,List.map_cons,List.map_nil]);first|done|rfl|(simp only [List.length_drop,List.length_take];rfl)) ?_;(with_reducible refine (spec_ShowCopy.calls k (rd t164 0) (a0.extract (t165 : Int).toNat a0.size) t170 _ A10.out).mono ?_);rintro e w21 ⟨rfl,hb⟩;refine ⟨_,rfl,?_⟩;have n0_:=Aside0.mk (Kd.R_below (by (with_reducible repeat (first|apply Kd.R_alloc|apply Kd.R_drewN|apply Kd.R_drew));exact (Kd.R_mono (Kd.R_far (p:=⟨gb169,1,none⟩) (Kd.R_far (p:=⟨gb169,0,none⟩) (Kd.R_types HO167.out BK169.out (by decide)) (fun _ hk => hk.2) (.int .i64 (rd t164 0))) (fun _ hk => hk.2) (.string (a0.extract (t165 : Int).toNat a0.size))) (fun _ h_ => h_.1))) hb);have n1_:=Aside0.mk (blk_below (g:=gb163) (o:=.cells #[.int .i64 0,.string (⟨#[]⟩ : ByteArray)] 26 (0,0)) (by (with_reducible repeat (first|refine blk_drewN ?_ _|refine blk_drew ?_|refine blk_alloc ?_ _));refine blk_far ?_ NB163_169.out _;(with_reducible repeat (first|refine blk_drewN ?_ _|refine blk_drew ?_|refine blk_alloc ?_ _));refine blk_far ?_ NB163_169.out _;(with_reducible repeat (first|refine blk_drewN ?_ _|refine blk_drew ?_|refine blk_alloc ?_ _));exact BK163.out) hb);have n2_:=Aside0.mk (blk_below (g:=gb169) (o:=.cells #[.int .i64 (rd t164 0),.string (a0.extract (t165 : Int).toNat a0.size)] 26 (0,0)) (by (with_reducible repeat (first|refine blk_drewN ?_ _|refine blk_drew ?_|refine blk_alloc ?_ _));refine blk_put (cs:=#[.int .i64 (rd t164 0),.string (⟨#[]⟩ : ByteArray)]) ?_ 1 _ rfl;(with_reducible repeat (first|refine blk_drewN ?_ _|refine blk_drew ?_|refine blk_alloc ?_ _));refine blk_put (cs:=#[.int .i64 0,.string (⟨#[]⟩ : ByteArray)]) ?_ 0 _ rfl;(with_reducible repeat (first|refine blk_drewN ?_ _|refine blk_drew ?_|refine blk_alloc ?_ _));exact BK169.out) hb);have n3_:=Aside0.mk (below_step (by repeat (first|(with_reducible first|exact HB.out|apply below_alloc|apply pw_below_drewN|apply below_drew1|refine below_set ?_ GE163.out|refine below_set ?_ GE169.out)|exact HB.out)) hb);clear HO167;clear BK163;clear BK169;clear HB;have HO167:=n0_;have BK163:=n1_;have BK169:=n2_;have HB:=n3_;clear n0_ n1_ n2_ n3_;(try clear hb);(try clear hb2);(try clear hk);(try clear hi);have hcz22_0 : w21.cell? ⟨gb169,0,none⟩ = some (.int .i64 (rd t164 0)):=(blk_cell BK169.out 0).trans rfl;have hcz22_1 : w21.cell? ⟨gb169,1,none⟩ = some (.string (a0.extract (t165 : Int).toNat a0.size)):=(blk_cell BK169.out 1).trans rfl;have hfz22_0:=blk_frozen BK169.out 0;have hfz22_1:=blk_frozen BK169.out 1;have hcz23_0 : w21.cell? ⟨gb163,0,none⟩ = some (.int .i64 0):=(blk_cell BK163.out 0).trans rfl;have hcz23_1 : w21.cell? ⟨gb163,1,none⟩ = some (.string (⟨#[]⟩ : ByteArray)):=(blk_cell BK163.out 1).trans rfl;have hfz23_0:=blk_frozen BK163.out 0;have hfz23_1:=blk_frozen BK163.out 1))
      refine bodyPost_ret (results_ct rfl _ _ gb163 26 #[.int .i64 (rd t164 0),.string (a0.extract (t165 : Int).toNat a0.size)] (0,0) _ rfl (by (with_reducible repeat (first|refine blk_drewN ?_ _|refine blk_drew ?_|refine blk_alloc ?_ _));refine blk_put (cs:=#[.int .i64 (rd t164 0),.string (⟨#[]⟩ : ByteArray)]) ?_ 1 _ rfl;(with_reducible repeat (first|refine blk_drewN ?_ _|refine blk_drew ?_|refine blk_alloc ?_ _));refine blk_put (cs:=#[.int .i64 0,.string (⟨#[]⟩ : ByteArray)]) ?_ 0 _ rfl;(with_reducible repeat (first|refine blk_drewN ?_ _|refine blk_drew ?_|refine blk_alloc ?_ _));exact BK163.out) Try.underlying26 rfl (by kernel_rfl)) rfl ?_
      exact ⟨by first|rfl|(simp [errW_none,errW_some] <;> rfl)|(simp [*,errW_none,errW_some] <;> rfl),by repeat (first|(with_reducible first|exact HB.out|apply below_alloc|apply pw_below_drewN|apply below_drew1|refine below_set ?_ GE163.out|refine below_set ?_ GE169.out)|exact HB.out)⟩
     ·
      rw [if_neg c11] at H
      have c11b0 : (t170.toList == a0.toList) = false:=beq_eq_false_iff_ne.mpr c11
      have c11b1 : (t170.toList != a0.toList) = true:=bne_iff_ne.mpr c11
      simp only [Option.some.injEq,Prod.mk.injEq] at H
      obtain ⟨rfl,rfl,rfl⟩:=H
      go_enter Try.func13,Try.ntmps13
      try go_wp2_with (first|((with_reducible refine gate_dst (N:=2) rfl ?_);refine box_event ?hg (N:=2) ?hd (cs:=#[.int .i64 0,.string (⟨#[]⟩ : ByteArray)]) (t:=26) ?hr ?_;(case hd => rfl);(case hg => rfl);(case hr => first|(go_simp;done)|(go_simp;rfl));intro gb163 hg w24 hbox hb;have n0_:=Aside0.mk (below_step (by repeat (first|(with_reducible first|exact HB.out|apply below_alloc|apply pw_below_drewN|apply below_drew1)|exact HB.out)) hb);have n1_:=Aside0.mk (hbox);have n2_:=Aside0.mk ((by rw [hg];exact (below_size (by repeat (first|(with_reducible first|exact HB.out|apply below_alloc|apply pw_below_drewN|apply below_drew1)|exact HB.out))) : w.heap.size ≤ gb163));have n3_:=Aside0.mk ((by rw [hg];exact (below_size (by repeat (first|(with_reducible first|exact HB.out|apply below_alloc|apply pw_below_drewN|apply below_drew1)|exact HB.out))) : w.heap.size ≤ gb163));clear HB;have HB:=n0_;have BK163:=n1_;have GW163:=n2_;have GE163:=n3_;clear n0_ n1_ n2_ n3_;clear hb hbox hg)|((with_reducible refine gate_callee (f:=30) rfl ?_);refine goesL_ (some 9) rfl rfl Try.func30 (by kernel_rfl) rfl #[.string a0,.int .i64 4,.int .i64 1] rfl (by (try simp only [List.map_toArray,List.map_cons,List.map_nil]);first|done|rfl|(simp only [List.length_drop,List.length_take];rfl)) ?_;(with_reducible refine (spec_l4Vars.calls k a0 4 1 t164 t165 _ A2.out).mono ?_);rintro e w25 ⟨v166,rfl,ho0,hb⟩;refine ⟨_,rfl,?_⟩;have n0_:=Aside0.mk (Kd.R_lower ho0 (below_size (by repeat (first|(with_reducible first|exact HB.out|apply below_alloc|apply pw_below_drewN|apply below_drew1|refine below_set ?_ GE163.out)|exact HB.out))));have n1_:=Aside0.mk (blk_below (g:=gb163) (o:=.cells #[.int .i64 0,.string (⟨#[]⟩ : ByteArray)] 26 (0,0)) (by (with_reducible repeat (first|refine blk_drewN ?_ _|refine blk_drew ?_|refine blk_alloc ?_ _));exact BK163.out) hb);have n2_:=Aside0.mk (below_step (by repeat (first|(with_reducible first|exact HB.out|apply below_alloc|apply pw_below_drewN|apply below_drew1|refine below_set ?_ GE163.out)|exact HB.out)) hb);clear BK163;clear HB;have HO167:=n0_;have BK163:=n1_;have HB:=n2_;clear n0_ n1_ n2_;(try clear hb);(try clear hb2);(try clear hk);(try clear hi);(try clear ho0)))
      have n0_:=Aside0.mk (Kd.R_drew HO167.out)
      have n1_:=Aside0.mk (blk_drew BK163.out)
      have n2_:=Aside0.mk (below_drew1 HB.out)
      clear HO167
      clear BK163
      clear HB
      have HO167:=n0_
      have BK163:=n1_
      have HB:=n2_
      clear n0_ n1_ n2_
      obtain ⟨Ao27,co27,eo27⟩:=Kd.R_slice HO167.out
      (first|subst eo27|(injection eo27 with f1_ f2_ f3_;have f4_:=f1_.symm;have f5_:=f3_.symm;clear f1_ f2_ f3_;subst f4_;subst f5_))
      have p168 : 0 ≤ (0 : Int):=(by omega)
      have q168 : 0 < (t164.length : Int):=of_decide_eq_true (by first|(with_reducible assumption)|assumption)
      obtain ⟨ad168,e168,hx168_0⟩:=Kd.at_int (Kd.R_reads' HO167.out).2.2 0 p168 q168
      cases e168
      have qi168 : (0 < t164.length) = True:=eq_true (by omega)
      (try rw [show ((0 : Int)).toNat = 0 from rfl] at hx168_0)
      (try rw [Addr.add_zero'] at hx168_0)
      replace p168:=eq_true p168
      replace q168:=eq_true q168
      refine start_ (n:=9) (S:=fun w' => w'.cell? ad168 = some (.int .i64 (rd t164 0))) (ds:=[]) #[F,F,F,F,F,F,F,F,F] (by kernel_rfl) rfl rfl (hx168_0) (fun hHeld => ?_);refine with_tabW spec_ReadCopy.tab4 spec_ReadCopy.bits4 (fun HT_ HW_ => ?_)
      generalize w25.drew = w26 at HO167 BK163 HB hx168_0 hHeld ⊢
      refine pure_ (i:=0) (N:=some 15) (v:=?_) (a':=?_) #[T,F,F,F,F,F,F,F,F] rfl rfl (any_of HT_.out (by kernel_rfl)) (fun _ _ _ h => h) (Or.inl ⟨by rfl,?_⟩) ?_ ?_
      rotate_left
      ·
       intro w'
       go_simp
       with_reducible rfl
      rotate_left
      ·
       simp only [Act.put,List.setIfInBounds_toArray,List.set_cons_zero,List.set_cons_succ,i64_w,i32_w]
       rfl
      refine pure_ (i:=1) (N:=some 16) (v:=?_) (a':=?_) #[T,T,F,F,F,F,F,F,F] rfl rfl (any_of HT_.out (by kernel_rfl)) (fun _ _ _ h => h) (Or.inl ⟨by rfl,?_⟩) ?_ ?_
      rotate_left
      ·
       intro w'
       go_simp
       with_reducible rfl
      rotate_left
      ·
       simp only [Act.put,List.setIfInBounds_toArray,List.set_cons_zero,List.set_cons_succ,i64_w,i32_w]
       rfl
      refine pure_ (i:=3) (N:=some 18) (v:=?_) (a':=?_) #[T,T,F,T,F,F,F,F,F] rfl rfl (any_of HT_.out (by kernel_rfl)) (fun _ _ _ h => h) (Or.inl ⟨by rfl,?_⟩) ?_ ?_
      rotate_left
      ·
       intro w'
       go_simp
       with_reducible rfl
      rotate_left
      ·
       simp only [Act.put,List.setIfInBounds_toArray,List.set_cons_zero,List.set_cons_succ,i64_w,i32_w]
       rfl
      refine pure_ (i:=4) (N:=some 19) (v:=?_) (a':=?_) #[T,T,F,T,T,F,F,F,F] rfl rfl (any_of HT_.out (by kernel_rfl)) (fun _ _ _ h => h) (Or.inl ⟨by rfl,?_⟩) ?_ ?_
      rotate_left
      ·
       intro w'
       go_simp
       with_reducible rfl
      rotate_left
      ·
       simp only [Act.put,List.setIfInBounds_toArray,List.set_cons_zero,List.set_cons_succ,i64_w,i32_w]
       rfl
      refine pure_ (i:=5) (N:=some 20) (v:=?_) (a':=?_) #[T,T,F,T,T,T,F,F,F] rfl rfl (any_of HT_.out (by kernel_rfl)) (fun _ _ _ h => h) (Or.inl ⟨by rfl,?_⟩) ?_ ?_
      rotate_left
      ·
       intro w'
       go_simp
       with_reducible rfl
      rotate_left
      ·
       simp only [Act.put,List.setIfInBounds_toArray,List.set_cons_zero,List.set_cons_succ,i64_w,i32_w]
       rfl
      refine take_ (i:=2) (N:=some 17) (v:=?_) (a':=?_) #[T,T,T,T,T,T,F,F,F] rfl rfl (take_ofW HT_.out HW_.out (by kernel_rfl)) (fun _ _ _ h => h) (Or.inl ⟨by rfl,?_⟩) hHeld ?_ ?_
      rotate_left
      ·
       intro w' s0
       go_simp
       with_reducible rfl
      rotate_left
      ·
       simp only [Act.put,List.setIfInBounds_toArray,List.set_cons_zero,List.set_cons_succ,i64_w,i32_w]
       rfl
      refine pure_ (i:=6) (N:=some 21) (v:=?_) (a':=?_) #[T,T,T,T,T,T,T,F,F] rfl rfl (any_of HT_.out (by kernel_rfl)) (fun _ _ _ h => h) (Or.inl ⟨by rfl,?_⟩) ?_ ?_
      rotate_left
      ·
       intro w'
       go_simp
       with_reducible rfl
      rotate_left
      ·
       simp only [Act.put,List.setIfInBounds_toArray,List.set_cons_zero,List.set_cons_succ,i64_w,i32_w]
       rfl
      refine one_ (i:=7) (N:=some 6) #[T,T,T,T,T,T,T,T,F] rfl rfl (one_of HT_.out (by kernel_rfl)) (by decide) (fun K hK => ?_)
      refine box_step ?hg (N:=6) ?hd (cs:=#[.int .i64 0,.string (⟨#[]⟩ : ByteArray)]) (t:=26) ?hr ?_;(case hd => rfl);(case hg => rfl);(case hr => first|(go_simp;done)|(go_simp;rfl))
      intro gb169 hg w28 hbox hb
      have HS0_:=(hb.cell (World.block_lt_of_cell? _ _ (hHeld))).trans (hHeld)
      have n0_:=Aside0.mk (Kd.R_below (by (with_reducible repeat (first|apply Kd.R_alloc|apply Kd.R_drewN|apply Kd.R_drew));exact HO167.out) hb)
      have n1_:=Aside0.mk (blk_below (g:=gb163) (o:=.cells #[.int .i64 0,.string (⟨#[]⟩ : ByteArray)] 26 (0,0)) (by (with_reducible repeat (first|refine blk_drewN ?_ _|refine blk_drew ?_|refine blk_alloc ?_ _));exact BK163.out) hb)
      have n2_:=Aside0.mk (below_step (by repeat (first|(with_reducible first|exact HB.out|apply below_alloc|apply pw_below_drewN|apply below_drew1|refine below_set ?_ GE163.out)|exact HB.out)) hb)
      have n3_:=Aside0.mk (hbox)
      have n4_:=Aside0.mk ((by rw [hg];exact (below_size (by repeat (first|(with_reducible first|exact HB.out|apply below_alloc|apply pw_below_drewN|apply below_drew1|refine below_set ?_ GE163.out)|exact HB.out))) : w.heap.size ≤ gb169))
      have n5_:=Aside0.mk ((by rw [hg];exact (below_size (by repeat (first|(with_reducible first|exact HB.out|apply below_alloc|apply pw_below_drewN|apply below_drew1|refine below_set ?_ GE163.out)|exact HB.out))) : w.heap.size ≤ gb169))
      have n6_:=Aside0.mk ((by rw [hg];exact Nat.ne_of_lt (blk_lt (g:=gb163) (o:=.cells #[.int .i64 0,.string (⟨#[]⟩ : ByteArray)] 26 (0,0)) (by (with_reducible repeat (first|refine blk_drewN ?_ _|refine blk_drew ?_|refine blk_alloc ?_ _));exact BK163.out)) : gb163 ≠ gb169))
      have n7_:=Aside0.mk ((by rw [hg];exact Nat.ne_of_gt (blk_lt (g:=gb163) (o:=.cells #[.int .i64 0,.string (⟨#[]⟩ : ByteArray)] 26 (0,0)) (by (with_reducible repeat (first|refine blk_drewN ?_ _|refine blk_drew ?_|refine blk_alloc ?_ _));exact BK163.out)) : gb169 ≠ gb163))
      clear HO167
      clear BK163
      clear HB
      have HO167:=n0_
      have BK163:=n1_
      have HB:=n2_
      have BK169:=n3_
      have GW169:=n4_
      have GE169:=n5_
      have NB163_169:=n6_
      have NB169_163:=n7_
      clear n0_ n1_ n2_ n3_ n4_ n5_ n6_ n7_
      clear hb hbox hg
      refine hK.out _ _ (HS0_) (fun hHeld => ?_)
      clear hK K
      refine norm_ (a':=?_) ?_ ?_
      rotate_left
      ·
       show Act.put _ (some 6) _ = _
       simp only [Act.put,List.setIfInBounds_toArray,List.set_cons_zero,List.set_cons_succ,i64_w,i32_w]
       rfl
      refine one_ (i:=8) (N:=none) #[T,T,T,T,T,T,T,T,T] rfl rfl (one_of HT_.out (by kernel_rfl)) (by decide) (fun K hK => ?_)
      have hs29 : w28.cell? ⟨gb169,0,none⟩ = some (.int .i64 0):=(blk_cell BK169.out 0).trans rfl
      have hfs29:=blk_frozen BK169.out 0
      have hns29_0:=NB163_169.out
      have hms29_0:=NB169_163.out
      have hs30 : w28.cell? ⟨gb169,1,none⟩ = some (.string (⟨#[]⟩ : ByteArray)):=(blk_cell BK169.out 1).trans rfl
      have hfs30:=blk_frozen BK169.out 1
      have hns30_0:=NB163_169.out
      have hms30_0:=NB169_163.out
      refine skip_ (w1:=?_) (by rfl) rfl ?_ ?_
      rotate_left
      ·
       go_simp
       rfl
      refine hK.out _ _ (((cell_far (p:=⟨gb169,_,none⟩) (by first|exact Kd.own_blk (Kd.R_ne HO167.out BK169.out (by decide))|(rw [add_block];exact Kd.own_blk (Kd.R_ne HO167.out BK169.out (by decide)))|(show (Addr.add _ _).block ≠ _;rw [add_block];exact Kd.own_blk (Kd.R_ne HO167.out BK169.out (by decide)))|(dsimp only;exact Kd.own_blk (Kd.R_ne HO167.out BK169.out (by decide)))) _).trans (((cell_far (p:=⟨gb169,_,none⟩) (by first|exact Kd.own_blk (Kd.R_ne HO167.out BK169.out (by decide))|(rw [add_block];exact Kd.own_blk (Kd.R_ne HO167.out BK169.out (by decide)))|(show (Addr.add _ _).block ≠ _;rw [add_block];exact Kd.own_blk (Kd.R_ne HO167.out BK169.out (by decide)))|(dsimp only;exact Kd.own_blk (Kd.R_ne HO167.out BK169.out (by decide)))) _).trans (hHeld))))) (fun hHeld => ?_)
      clear hK K
      refine done_ (done_of HT_.out (by kernel_rfl)) ?_
      have hnb31:=NB169_163.out
      have hnc31:=NB163_169.out
      have hcz32_0 : w28.cell? ⟨gb169,0,none⟩ = some (.int .i64 0):=(blk_cell BK169.out 0).trans rfl
      have hcz32_1 : w28.cell? ⟨gb169,1,none⟩ = some (.string (⟨#[]⟩ : ByteArray)):=(blk_cell BK169.out 1).trans rfl
      have hfz32_0:=blk_frozen BK169.out 0
      have hfz32_1:=blk_frozen BK169.out 1
      try go_wp2_with (first|((with_reducible refine gate_callee (f:=10) rfl ?_);refine goesL_ (some 23) rfl rfl Try.func10 (by kernel_rfl) rfl #[.agg #[.int .i64 (rd t164 0),.string (a0.extract (t165 : Int).toNat a0.size)]] rfl (by (try simp only [List.map_toArray,List.map_cons,List.map_nil]);first|done|rfl|(simp only [List.length_drop,List.length_take];rfl)) ?_;(with_reducible refine (spec_ShowCopy.calls k (rd t164 0) (a0.extract (t165 : Int).toNat a0.size) t170 _ A10.out).mono ?_);rintro e w33 ⟨rfl,hb⟩;refine ⟨_,rfl,?_⟩;have n0_:=Aside0.mk (Kd.R_below (by (with_reducible repeat (first|apply Kd.R_alloc|apply Kd.R_drewN|apply Kd.R_drew));exact (Kd.R_mono (Kd.R_far (p:=⟨gb169,1,none⟩) (Kd.R_far (p:=⟨gb169,0,none⟩) (Kd.R_types HO167.out BK169.out (by decide)) (fun _ hk => hk.2) (.int .i64 (rd t164 0))) (fun _ hk => hk.2) (.string (a0.extract (t165 : Int).toNat a0.size))) (fun _ h_ => h_.1))) hb);have n1_:=Aside0.mk (blk_below (g:=gb163) (o:=.cells #[.int .i64 0,.string (⟨#[]⟩ : ByteArray)] 26 (0,0)) (by (with_reducible repeat (first|refine blk_drewN ?_ _|refine blk_drew ?_|refine blk_alloc ?_ _));refine blk_far ?_ NB163_169.out _;(with_reducible repeat (first|refine blk_drewN ?_ _|refine blk_drew ?_|refine blk_alloc ?_ _));refine blk_far ?_ NB163_169.out _;(with_reducible repeat (first|refine blk_drewN ?_ _|refine blk_drew ?_|refine blk_alloc ?_ _));exact BK163.out) hb);have n2_:=Aside0.mk (blk_below (g:=gb169) (o:=.cells #[.int .i64 (rd t164 0),.string (a0.extract (t165 : Int).toNat a0.size)] 26 (0,0)) (by (with_reducible repeat (first|refine blk_drewN ?_ _|refine blk_drew ?_|refine blk_alloc ?_ _));refine blk_put (cs:=#[.int .i64 (rd t164 0),.string (⟨#[]⟩ : ByteArray)]) ?_ 1 _ rfl;(with_reducible repeat (first|refine blk_drewN ?_ _|refine blk_drew ?_|refine blk_alloc ?_ _));refine blk_put (cs:=#[.int .i64 0,.string (⟨#[]⟩ : ByteArray)]) ?_ 0 _ rfl;(with_reducible repeat (first|refine blk_drewN ?_ _|refine blk_drew ?_|refine blk_alloc ?_ _));exact BK169.out) hb);have n3_:=Aside0.mk (below_step (by repeat (first|(with_reducible first|exact HB.out|apply below_alloc|apply pw_below_drewN|apply below_drew1|refine below_set ?_ GE163.out|refine below_set ?_ GE169.out)|exact HB.out)) hb);clear HO167;clear BK163;clear BK169;clear HB;have HO167:=n0_;have BK163:=n1_;have BK169:=n2_;have HB:=n3_;clear n0_ n1_ n2_ n3_;(try clear hb);(try clear hb2);(try clear hk);(try clear hi);have hcz34_0 : w33.cell? ⟨gb163,0,none⟩ = some (.int .i64 0):=(blk_cell BK163.out 0).trans rfl;have hcz34_1 : w33.cell? ⟨gb163,1,none⟩ = some (.string (⟨#[]⟩ : ByteArray)):=(blk_cell BK163.out 1).trans rfl;have hfz34_0:=blk_frozen BK163.out 0;have hfz34_1:=blk_frozen BK163.out 1))
      refine bodyPost_ret (results_ct rfl _ _ gb163 26 #[.int .i64 0,.string (⟨#[]⟩ : ByteArray)] (0,0) _ rfl (by (with_reducible repeat (first|refine blk_drewN ?_ _|refine blk_drew ?_|refine blk_alloc ?_ _));refine blk_put (cs:=#[.int .i64 0,.string (⟨#[]⟩ : ByteArray)]) ?_ 1 _ rfl;(with_reducible repeat (first|refine blk_drewN ?_ _|refine blk_drew ?_|refine blk_alloc ?_ _));refine blk_put (cs:=#[.int .i64 0,.string (⟨#[]⟩ : ByteArray)]) ?_ 0 _ rfl;(with_reducible repeat (first|refine blk_drewN ?_ _|refine blk_drew ?_|refine blk_alloc ?_ _));exact BK163.out) Try.underlying26 rfl (by kernel_rfl)) rfl ?_
      exact ⟨by first|rfl|(simp [errW_none,errW_some] <;> rfl)|(simp [*,errW_none,errW_some] <;> rfl),by repeat (first|(with_reducible first|exact HB.out|apply below_alloc|apply pw_below_drewN|apply below_drew1|refine below_set ?_ GE163.out|refine below_set ?_ GE169.out)|exact HB.out)⟩
    ·
     rw [if_neg c9] at H
     exact absurd H (by simp)
   ·
    rw [if_neg c8] at H
    exact absurd H (by simp)
  ·
   rw [if_neg c7] at H
   exact absurd H (by simp)
def impl_ReadVar.l0 : Nat → ByteArray → Int → Int → Int → Option (Int × Int)
  | 0,_,_,_,_ => none
  | k + 1,x0,x4,x9,x10 => if x10 < x9 then (if 0 ≤ x10 then (if x10 < (x0.size : Int) then (if 0 ≤ (wrap64 (7 * x10)) then (if (bt x0 x10) < 128 then (if (bt x0 x10) = 0 then (if x10 > 0 then (some (0,0)) else (if (Go.bits .or .i64 x4 (shl .i64 (wrap64 (Go.bits .and .u8 (bt x0 x10) 127)) (wrap64 (7 * x10)))) > 562949953421311 then (some (0,0)) else (some (Go.bits .or .i64 x4 (shl .i64 (wrap64 (Go.bits .and .u8 (bt x0 x10) 127)) (wrap64 (7 * x10))),wrap64 (x10 + 1))))) else (if (Go.bits .or .i64 x4 (shl .i64 (wrap64 (Go.bits .and .u8 (bt x0 x10) 127)) (wrap64 (7 * x10)))) > 562949953421311 then (some (0,0)) else (some (Go.bits .or .i64 x4 (shl .i64 (wrap64 (Go.bits .and .u8 (bt x0 x10) 127)) (wrap64 (7 * x10))),wrap64 (x10 + 1))))) else (impl_ReadVar.l0 k x0 (Go.bits .or .i64 x4 (shl .i64 (wrap64 (Go.bits .and .u8 (bt x0 x10) 127)) (wrap64 (7 * x10)))) x9 (wrap64 (x10 + 1)))) else (none)) else (none)) else (none)) else (some (0,0))
def impl_ReadVar.f (k : Nat) (a0 : ByteArray) : Option (Int × Int):=impl_ReadVar.l0 k a0 0 (mn (a0.size : Int) 7) 0
set_option maxHeartbeats 8000000 in
set_option maxRecDepth 100000 in
theorem impl_ReadVar.calls (k : Nat) (a0 : ByteArray) (r1 : Int) (r2 : Int) (w : World) (h : impl_ReadVar.f k a0 = some (r1,r2)) :
  Calls Try.prog 42 #[.string a0] w fun e w' => e = .returned (.tuple #[.int .i64 r1,.int .i64 r2]) ∧ Below w.heap.size w w':=by
 have HB:=Aside0.mk (Below.refl w.heap.size w)
 have H : (impl_ReadVar.l0 k a0 0 (mn (a0.size : Int) 7) 0) = some (r1,r2):=h
 clear h
 obtain ⟨ji2,hji2⟩ : ∃ j_ : Int,(mn (a0.size : Int) 7) = j_:=⟨_,rfl⟩
 replace H : (impl_ReadVar.l0 k a0 0 ji2 0) = some (r1,r2):=by first|(rw [hji2] at H;exact H)|(simp only [hji2] at H ⊢;exact H)
 (try (have hji2h : ji2 ≤ 7:=by (rw [← hji2];unfold mn;(repeat' split) <;> omega)))
 (try (have hji2g : ji2 ≤ 64:=by omega))
 (try (have hji2l : 0 ≤ ji2:=by (rw [← hji2];unfold mn;(repeat' split) <;> omega)))
 (try (have hji2m : 0 ≤ ji2:=by omega))
 have hji2_ : (if 7 < (a0.size : Int) then 7 else (a0.size : Int)) = ji2:=hji2
 have H':=Aside0.mk H
 clear H
 go_enter Try.func42,Try.ntmps42
 go_wp2
 go_loopg [4,10] k (fun kq v4 v10 w' => ∃ (x4_1 : Int) (x10_1 : Int),v4 = .int .i64 x4_1 ∧ v10 = .int .i64 x10_1 ∧ Aside0 (impl_ReadVar.l0 kq a0 x4_1 ji2 x10_1 = some (r1,r2)) ∧ Aside0 (kq ≤ k) ∧ Aside0 (Below w.heap.size w w'))
 case atStart => exact ⟨(0),(0),(by first|rfl|(simp;done)|(simp [*];done)),(by first|rfl|(simp;done)|(simp [*];done)),H',⟨Nat.le_refl _⟩,⟨by repeat (first|(with_reducible first|exact HB.out|apply below_alloc|apply pw_below_drewN|apply below_drew1)|exact HB.out)⟩⟩
 case round =>
  clear H'
  try clear p2
  obtain ⟨x4_1,x10_1,rfl,rfl,HA,HK1,HB⟩:=hrel
  cases gk with
  | zero => exact absurd HA.out (by simp [impl_ReadVar.l0])
  | succ k1 =>
   have H:=HA.out
   clear HA
   simp only [impl_ReadVar.l0] at H
   by_cases c3 : x10_1 < ji2
   ·
    rw [if_pos c3] at H
    have c3b0 : decide (x10_1 < ji2) = true:=decide_eq_true c3
    clear c3
    by_cases c4 : 0 ≤ x10_1
    ·
     rw [if_pos c4] at H
     have c4b0 : decide (0 ≤ x10_1) = true:=decide_eq_true c4
     clear c4
     by_cases c5 : x10_1 < (a0.size : Int)
     ·
      rw [if_pos c5] at H
      have c5b0 : decide (x10_1 < (a0.size : Int)) = true:=decide_eq_true c5
      clear c5
      obtain ⟨ji7,hji7⟩ : ∃ j_ : Int,(wrap64 (7 * x10_1)) = j_:=⟨_,rfl⟩
      replace H : (if 0 ≤ (ji7) then (if (bt a0 x10_1) < 128 then (if (bt a0 x10_1) = 0 then (if x10_1 > 0 then (some (0,0)) else (if (Go.bits .or .i64 x4_1 (shl .i64 (wrap64 (Go.bits .and .u8 (bt a0 x10_1) 127)) (ji7))) > 562949953421311 then (some (0,0)) else (some (Go.bits .or .i64 x4_1 (shl .i64 (wrap64 (Go.bits .and .u8 (bt a0 x10_1) 127)) (ji7)),wrap64 (x10_1 + 1))))) else (if (Go.bits .or .i64 x4_1 (shl .i64 (wrap64 (Go.bits .and .u8 (bt a0 x10_1) 127)) (ji7))) > 562949953421311 then (some (0,0)) else (some (Go.bits .or .i64 x4_1 (shl .i64 (wrap64 (Go.bits .and .u8 (bt a0 x10_1) 127)) (ji7)),wrap64 (x10_1 + 1))))) else (impl_ReadVar.l0 k1 a0 (Go.bits .or .i64 x4_1 (shl .i64 (wrap64 (Go.bits .and .u8 (bt a0 x10_1) 127)) (ji7))) ji2 (wrap64 (x10_1 + 1)))) else (none)) = some (r1,r2):=by first|(rw [hji7] at H;exact H)|(simp only [hji7] at H ⊢;exact H)
      have hji7w : (IntKind.i64.wrap (7 * x10_1)) = ji7:=(i64_w _).trans hji7
      by_cases c8 : 0 ≤ (ji7)
      ·
       rw [if_pos c8] at H
       have c8b0:=eq_true c8
       have c8b1 : decide (0 ≤ (ji7)) = true:=decide_eq_true c8
       clear c8
       obtain ⟨ji9,hji9⟩ : ∃ j_ : Int,(shl .i64 (wrap64 (Go.bits .and .u8 (bt a0 x10_1) 127)) (ji7)) = j_:=⟨_,rfl⟩
       replace H : (if (bt a0 x10_1) < 128 then (if (bt a0 x10_1) = 0 then (if x10_1 > 0 then (some (0,0)) else (if (Go.bits .or .i64 x4_1 (ji9)) > 562949953421311 then (some (0,0)) else (some (Go.bits .or .i64 x4_1 (ji9),wrap64 (x10_1 + 1))))) else (if (Go.bits .or .i64 x4_1 (ji9)) > 562949953421311 then (some (0,0)) else (some (Go.bits .or .i64 x4_1 (ji9),wrap64 (x10_1 + 1))))) else (impl_ReadVar.l0 k1 a0 (Go.bits .or .i64 x4_1 (ji9)) ji2 (wrap64 (x10_1 + 1)))) = some (r1,r2):=by first|(rw [hji9] at H;exact H)|(simp only [hji9] at H ⊢;exact H)
       have hji9_ : (IntKind.i64.wrap ((wrap64 (Go.bits .and .u8 (bt a0 x10_1) 127)) * 2 ^ min (ji7).toNat 64)) = ji9:=hji9
       have hji9z : (ji7) ≤ 64 → (IntKind.i64.wrap ((wrap64 (Go.bits .and .u8 (bt a0 x10_1) 127)) * 2 ^ (ji7).toNat)) = ji9:=shl_small hji9
       have hji9y : (wrap64 ((wrap64 (Go.bits .and .u8 (bt a0 x10_1) 127)) * 2 ^ min (ji7).toNat 64)) = ji9:=(i64_w _).symm.trans hji9_
       have hji9x : (ji7) ≤ 64 → (wrap64 ((wrap64 (Go.bits .and .u8 (bt a0 x10_1) 127)) * 2 ^ (ji7).toNat)) = ji9:=fun h_ => (i64_w _).symm.trans (hji9z h_)
       by_cases c10 : (bt a0 x10_1) < 128
       ·
        rw [if_pos c10] at H
        have c10b0 : decide ((bt a0 x10_1) < 128) = true:=decide_eq_true c10
        clear c10
        by_cases c11 : (bt a0 x10_1) = 0
        ·
         rw [if_pos c11] at H
         have c11b0 : ((bt a0 x10_1) == 0) = true:=beq_iff_eq.mpr c11
         have c11b1 : ((bt a0 x10_1) != 0) = false:=bne_eq_false_iff_eq.mpr c11
         clear c11
         by_cases c12 : x10_1 > 0
         ·
          rw [if_pos c12] at H
          have c12b0 : decide (0 < x10_1) = true:=decide_eq_true c12
          clear c12
          simp only [Option.some.injEq,Prod.mk.injEq] at H
          obtain ⟨rfl,rfl⟩:=H
          have p6 : 0 ≤ (x10_1 : Int):=of_decide_eq_true (by first|(with_reducible assumption)|assumption)
          have q6 : x10_1 < (a0.size : Int):=of_decide_eq_true (by first|(with_reducible assumption)|assumption)
          have hx6:=bt_at a0 x10_1
          replace p6:=eq_true p6
          replace q6:=eq_true q6
          go_wp2
          go_ret2
          exact ⟨by first|rfl|(simp [errW_none,errW_some] <;> rfl)|(simp only [← hji2,← hji7,← hji9];first|rfl|(simp [errW_none,errW_some] <;> rfl))|(simp [*,errW_none,errW_some] <;> rfl),by repeat (first|(with_reducible first|exact HB.out|apply below_alloc|apply pw_below_drewN|apply below_drew1)|exact HB.out)⟩
         ·
          rw [if_neg c12] at H
          have c12b0 : decide (0 < x10_1) = false:=decide_eq_false c12
          clear c12
          by_cases c13 : (Go.bits .or .i64 x4_1 (ji9)) > 562949953421311
          ·
           rw [if_pos c13] at H
           have c13b0 : decide (562949953421311 < (Go.bits .or .i64 x4_1 (ji9))) = true:=decide_eq_true c13
           clear c13
           simp only [Option.some.injEq,Prod.mk.injEq] at H
           obtain ⟨rfl,rfl⟩:=H
           have p6 : 0 ≤ (x10_1 : Int):=of_decide_eq_true (by first|(with_reducible assumption)|assumption)
           have q6 : x10_1 < (a0.size : Int):=of_decide_eq_true (by first|(with_reducible assumption)|assumption)
           have hx6:=bt_at a0 x10_1
           replace p6:=eq_true p6
           replace q6:=eq_true q6
           go_wp2
           go_ret2
           exact ⟨by first|rfl|(simp [errW_none,errW_some] <;> rfl)|(simp only [← hji2,← hji7,← hji9];first|rfl|(simp [errW_none,errW_some] <;> rfl))|(simp [*,errW_none,errW_some] <;> rfl),by repeat (first|(with_reducible first|exact HB.out|apply below_alloc|apply pw_below_drewN|apply below_drew1)|exact HB.out)⟩
          ·
           rw [if_neg c13] at H
           have c13b0 : decide (562949953421311 < (Go.bits .or .i64 x4_1 (ji9))) = false:=decide_eq_false c13
           clear c13
           simp only [Option.some.injEq,Prod.mk.injEq] at H
           obtain ⟨rfl,rfl⟩:=H
           have p6 : 0 ≤ (x10_1 : Int):=of_decide_eq_true (by first|(with_reducible assumption)|assumption)
           have q6 : x10_1 < (a0.size : Int):=of_decide_eq_true (by first|(with_reducible assumption)|assumption)
           have hx6:=bt_at a0 x10_1
           replace p6:=eq_true p6
           replace q6:=eq_true q6
           go_wp2
           go_ret2
           exact ⟨by first|rfl|(simp [errW_none,errW_some] <;> rfl)|(simp only [← hji2,← hji7,← hji9];first|rfl|(simp [errW_none,errW_some] <;> rfl))|(simp [*,errW_none,errW_some] <;> rfl),by repeat (first|(with_reducible first|exact HB.out|apply below_alloc|apply pw_below_drewN|apply below_drew1)|exact HB.out)⟩
        ·
         rw [if_neg c11] at H
         have c11b0 : ((bt a0 x10_1) == 0) = false:=beq_eq_false_iff_ne.mpr c11
         have c11b1 : ((bt a0 x10_1) != 0) = true:=bne_iff_ne.mpr c11
         by_cases c14 : (Go.bits .or .i64 x4_1 (ji9)) > 562949953421311
         ·
          rw [if_pos c14] at H
          have c14b0 : decide (562949953421311 < (Go.bits .or .i64 x4_1 (ji9))) = true:=decide_eq_true c14
          clear c14
          simp only [Option.some.injEq,Prod.mk.injEq] at H
          obtain ⟨rfl,rfl⟩:=H
          have p6 : 0 ≤ (x10_1 : Int):=of_decide_eq_true (by first|(with_reducible assumption)|assumption)
          have q6 : x10_1 < (a0.size : Int):=of_decide_eq_true (by first|(with_reducible assumption)|assumption)
          have hx6:=bt_at a0 x10_1
          replace p6:=eq_true p6
          replace q6:=eq_true q6
          go_wp2
          go_ret2
          exact ⟨by first|rfl|(simp [errW_none,errW_some] <;> rfl)|(simp only [← hji2,← hji7,← hji9];first|rfl|(simp [errW_none,errW_some] <;> rfl))|(simp [*,errW_none,errW_some] <;> rfl),by repeat (first|(with_reducible first|exact HB.out|apply below_alloc|apply pw_below_drewN|apply below_drew1)|exact HB.out)⟩
         ·
          rw [if_neg c14] at H
          have c14b0 : decide (562949953421311 < (Go.bits .or .i64 x4_1 (ji9))) = false:=decide_eq_false c14
          clear c14
          simp only [Option.some.injEq,Prod.mk.injEq] at H
          obtain ⟨rfl,rfl⟩:=H
          have p6 : 0 ≤ (x10_1 : Int):=of_decide_eq_true (by first|(with_reducible assumption)|assumption)
          have q6 : x10_1 < (a0.size : Int):=of_decide_eq_true (by first|(with_reducible assumption)|assumption)
          have hx6:=bt_at a0 x10_1
          replace p6:=eq_true p6
          replace q6:=eq_true q6
          go_wp2
          go_ret2
          exact ⟨by first|rfl|(simp [errW_none,errW_some] <;> rfl)|(simp only [← hji2,← hji7,← hji9];first|rfl|(simp [errW_none,errW_some] <;> rfl))|(simp [*,errW_none,errW_some] <;> rfl),by repeat (first|(with_reducible first|exact HB.out|apply below_alloc|apply pw_below_drewN|apply below_drew1)|exact HB.out)⟩
       ·
        rw [if_neg c10] at H
        have c10b0 : decide ((bt a0 x10_1) < 128) = false:=decide_eq_false c10
        clear c10
        have H':=Aside0.mk H
        clear H
        have p6 : 0 ≤ (x10_1 : Int):=of_decide_eq_true (by first|(with_reducible assumption)|assumption)
        have q6 : x10_1 < (a0.size : Int):=of_decide_eq_true (by first|(with_reducible assumption)|assumption)
        have hx6:=bt_at a0 x10_1
        replace p6:=eq_true p6
        replace q6:=eq_true q6
        go_wp2
        go_roundg k1
        case measure => have:=HK1.out;omega
        case rel => exact ⟨(Go.bits .or .i64 x4_1 (ji9)),(wrap64 (x10_1 + 1)),(by first|rfl|(simp;done)|(simp only [← hji9] <;> (first|rfl|simp))|(simp [*];done)),(by first|rfl|(simp;done)|(simp [*];done)),H',⟨by have:=HK1.out;omega⟩,⟨by repeat (first|(with_reducible first|exact HB.out|apply below_alloc|apply pw_below_drewN|apply below_drew1)|exact HB.out)⟩⟩
      ·
       rw [if_neg c8] at H
       exact absurd H (by simp)
     ·
      rw [if_neg c5] at H
      exact absurd H (by simp)
    ·
     rw [if_neg c4] at H
     exact absurd H (by simp)
   ·
    rw [if_neg c3] at H
    have c3b0 : decide (x10_1 < ji2) = false:=decide_eq_false c3
    clear c3
    simp only [Option.some.injEq,Prod.mk.injEq] at H
    obtain ⟨rfl,rfl⟩:=H
    go_wp2
    go_ret2
    exact ⟨by first|rfl|(simp [errW_none,errW_some] <;> rfl)|(simp only [← hji2];first|rfl|(simp [errW_none,errW_some] <;> rfl))|(simp [*,errW_none,errW_some] <;> rfl),by repeat (first|(with_reducible first|exact HB.out|apply below_alloc|apply pw_below_drewN|apply below_drew1)|exact HB.out)⟩
def impl_ReadCopy.f (k : Nat) (a0 : ByteArray) : Option (Int × ByteArray × Bool):=if (a0.size : Int) < 4 then (some (0,(⟨#[]⟩ : ByteArray),false)) else (if 4 ≤ (a0.size : Int) then ((impl_ReadVar.f k (a0.extract 4 a0.size)).bind fun bt173 => (if bt173.2 = 0 then (if 0 ≤ bt173.2 then (if bt173.2 ≤ ((a0.extract 4 a0.size).size : Int) then (some (0,(⟨#[]⟩ : ByteArray),false)) else (none)) else (none)) else (if 0 ≤ bt173.2 then (if bt173.2 ≤ ((a0.extract 4 a0.size).size : Int) then ((impl_ShowCopy.f k bt173.1 ((a0.extract 4 a0.size).extract (bt173.2 : Int).toNat (a0.extract 4 a0.size).size)).bind fun t177 => (if t177.toList = a0.toList then (some (bt173.1,(a0.extract 4 a0.size).extract (bt173.2 : Int).toNat (a0.extract 4 a0.size).size,true)) else (some (0,(⟨#[]⟩ : ByteArray),false)))) else (none)) else (none)))) else (none))
set_option maxHeartbeats 8000000 in
set_option maxRecDepth 100000 in
theorem impl_ReadCopy.calls (k : Nat) (a0 : ByteArray) (r1 : Int) (r2 : ByteArray) (r3 : Bool) (w : World) (h : impl_ReadCopy.f k a0 = some (r1,r2,r3)) :
  Calls Try.prog 14 #[.string a0] w fun e w' => e = .returned (.tuple #[.agg #[.int .i64 r1,.string r2],.bool r3]) ∧ Below w.heap.size w w':=by
 have hu26:=Try.underlying26
 have hu52:=Try.underlying52
 have HB:=Aside0.mk (Below.refl w.heap.size w)
 have H : (if (a0.size : Int) < 4 then (some (0,(⟨#[]⟩ : ByteArray),false)) else (if 4 ≤ (a0.size : Int) then ((impl_ReadVar.f k (a0.extract 4 a0.size)).bind fun bt173 => (if bt173.2 = 0 then (if 0 ≤ bt173.2 then (if bt173.2 ≤ ((a0.extract 4 a0.size).size : Int) then (some (0,(⟨#[]⟩ : ByteArray),false)) else (none)) else (none)) else (if 0 ≤ bt173.2 then (if bt173.2 ≤ ((a0.extract 4 a0.size).size : Int) then ((impl_ShowCopy.f k bt173.1 ((a0.extract 4 a0.size).extract (bt173.2 : Int).toNat (a0.extract 4 a0.size).size)).bind fun t177 => (if t177.toList = a0.toList then (some (bt173.1,(a0.extract 4 a0.size).extract (bt173.2 : Int).toNat (a0.extract 4 a0.size).size,true)) else (some (0,(⟨#[]⟩ : ByteArray),false)))) else (none)) else (none)))) else (none))) = some (r1,r2,r3):=h
 clear h
 by_cases c2 : (a0.size : Int) < 4
 ·
  rw [if_pos c2] at H
  have c2b0 : decide ((a0.size : Int) < 4) = true:=decide_eq_true c2
  have c2b1 : decide (a0.size < 4) = true:=decide_eq_true (by omega)
  clear c2
  simp only [Option.some.injEq,Prod.mk.injEq] at H
  obtain ⟨rfl,rfl,rfl⟩:=H
  go_enter Try.func14,Try.ntmps14
  go_wp2_with (first|((with_reducible refine gate_dst (N:=2) rfl ?_);(with_reducible refine gate_at_ (s := "l23_mirror.go:21") rfl ?_);refine box_event ?hg (N:=2) ?hd (cs:=#[.int .i64 0,.string (⟨#[]⟩ : ByteArray)]) (t:=26) ?hr ?_;(case hd => rfl);(case hg => rfl);(case hr => first|(go_simp;done)|(go_simp;rfl));intro gb171 hg w3 hbox hb;have n0_:=Aside0.mk (below_step (by exact HB.out) hb);have n1_:=Aside0.mk (hbox);have n2_:=Aside0.mk ((by rw [hg];exact (below_size (by exact HB.out)) : w.heap.size ≤ gb171));have n3_:=Aside0.mk ((by rw [hg];exact (below_size (by exact HB.out)) : w.heap.size ≤ gb171));clear HB;have HB:=n0_;have BK171:=n1_;have GW171:=n2_;have GE171:=n3_;clear n0_ n1_ n2_ n3_;clear hb hbox hg;have hcz4_0 : w3.cell? ⟨gb171,0,none⟩ = some (.int .i64 0):=(blk_cell BK171.out 0).trans rfl;have hcz4_1 : w3.cell? ⟨gb171,1,none⟩ = some (.string (⟨#[]⟩ : ByteArray)):=(blk_cell BK171.out 1).trans rfl;have hfz4_0:=blk_frozen BK171.out 0;have hfz4_1:=blk_frozen BK171.out 1)|((with_reducible refine gate_store (t:=26) (p:=2) rfl ?_);(with_reducible refine gate_at_ (s := "l23_mirror.go:23") rfl ?_);refine store_event (t:=26) (p:=2) (v:=?vo_w5) (w1:=(setAll_ w3 gb171 0 [.int .i64 0,.string (⟨#[]⟩ : ByteArray)])) ?hg ?ho ?hn ?hr ?_;(case ho => rfl);(case hg => rfl);(case hn => rfl);(case hr => simp only [setAll_];first|(go_simp;done)|(go_simp;rfl));intro w5 hw;have hg : w3.grownBy w5 (some gb171):=(by rw [hw];exact setAll_grown _ _ _ _);have n0_:=Aside0.mk ((by rw [hw];exact setAll_blk BK171.out rfl : w5.heap[gb171]? = some (.cells #[.int .i64 0,.string (⟨#[]⟩ : ByteArray)] 26 (0,0))));have n1_:=Aside0.mk (below_gr_ HB.out hg GE171.out);clear BK171;clear HB;have BK171:=n0_;have HB:=n1_;clear n0_ n1_;clear hw hg))
  refine bodyPost_ret (results_ct rfl _ _ gb171 26 #[.int .i64 0,.string (⟨#[]⟩ : ByteArray)] (0,0) _ rfl (by (with_reducible repeat (first|refine blk_drewN ?_ _|refine blk_drew ?_|refine blk_alloc ?_ _));exact BK171.out) Try.underlying26 rfl (by kernel_rfl)) rfl ?_
  exact ⟨by first|rfl|(simp [errW_none,errW_some] <;> rfl)|(simp [*,errW_none,errW_some] <;> rfl),by repeat (first|(with_reducible first|exact HB.out|apply below_alloc|apply pw_below_drewN|apply below_drew1|refine below_set ?_ GE171.out)|exact HB.out)⟩
 ·
  rw [if_neg c2] at H
  have c2b0 : decide ((a0.size : Int) < 4) = false:=decide_eq_false c2
  have c2b1 : decide (a0.size < 4) = false:=decide_eq_false (by omega)
  clear c2
  by_cases c6 : 4 ≤ (a0.size : Int)
  ·
   rw [if_pos c6] at H
   have c6b0:=eq_true c6
   have c6b1 : decide (4 ≤ (a0.size : Int)) = true:=decide_eq_true c6
   clear c6
   replace H:=Option.bind_eq_some_iff.mp H
   obtain ⟨⟨t173,t174⟩,A70,H⟩:=H
   replace H : (if t174 = 0 then (if 0 ≤ t174 then (if t174 ≤ ((a0.extract 4 a0.size).size : Int) then (some (0,(⟨#[]⟩ : ByteArray),false)) else (none)) else (none)) else (if 0 ≤ t174 then (if t174 ≤ ((a0.extract 4 a0.size).size : Int) then ((impl_ShowCopy.f k t173 ((a0.extract 4 a0.size).extract (t174 : Int).toNat (a0.extract 4 a0.size).size)).bind fun t177 => (if t177.toList = a0.toList then (some (t173,(a0.extract 4 a0.size).extract (t174 : Int).toNat (a0.extract 4 a0.size).size,true)) else (some (0,(⟨#[]⟩ : ByteArray),false)))) else (none)) else (none))) = some (r1,r2,r3):=H
   have A7:=Aside0.mk A70
   clear A70
   by_cases c8 : t174 = 0
   ·
    rw [if_pos c8] at H
    have c8b0 : (t174 == 0) = true:=beq_iff_eq.mpr c8
    have c8b1 : (t174 != 0) = false:=bne_eq_false_iff_eq.mpr c8
    clear c8
    by_cases c9 : 0 ≤ t174
    ·
     rw [if_pos c9] at H
     have c9b0:=eq_true c9
     have c9b1 : decide (0 ≤ t174) = true:=decide_eq_true c9
     clear c9
     by_cases c10 : t174 ≤ ((a0.extract 4 a0.size).size : Int)
     ·
      rw [if_pos c10] at H
      have c10b0:=eq_true c10
      have c10b1 : decide (t174 ≤ ((a0.extract 4 a0.size).size : Int)) = true:=decide_eq_true c10
      clear c10
      simp only [Option.some.injEq,Prod.mk.injEq] at H
      obtain ⟨rfl,rfl,rfl⟩:=H
      go_enter Try.func14,Try.ntmps14
      go_wp2_with (first|((with_reducible refine gate_dst (N:=2) rfl ?_);(with_reducible refine gate_at_ (s := "l23_mirror.go:21") rfl ?_);refine box_event ?hg (N:=2) ?hd (cs:=#[.int .i64 0,.string (⟨#[]⟩ : ByteArray)]) (t:=26) ?hr ?_;(case hd => rfl);(case hg => rfl);(case hr => first|(go_simp;done)|(go_simp;rfl));intro gb171 hg w11 hbox hb;have n0_:=Aside0.mk (below_step (by exact HB.out) hb);have n1_:=Aside0.mk (hbox);have n2_:=Aside0.mk ((by rw [hg];exact (below_size (by exact HB.out)) : w.heap.size ≤ gb171));have n3_:=Aside0.mk ((by rw [hg];exact (below_size (by exact HB.out)) : w.heap.size ≤ gb171));clear HB;have HB:=n0_;have BK171:=n1_;have GW171:=n2_;have GE171:=n3_;clear n0_ n1_ n2_ n3_;clear hb hbox hg)|((with_reducible refine gate_dst (N:=13) rfl ?_);(with_reducible refine gate_at_ (s := "l23_mirror.go:25") rfl ?_);refine box_event ?hg (N:=13) ?hd (cs:=#[.string (a0.extract 4 a0.size),.bool false]) (t:=52) ?hr ?_;(case hd => rfl);(case hg => rfl);(case hr => first|(go_simp;done)|(go_simp;rfl));intro gb172 hg w12 hbox hb;have n0_:=Aside0.mk (blk_below BK171.out hb);have n1_:=Aside0.mk (below_step (by exact HB.out) hb);have n2_:=Aside0.mk (hbox);have n3_:=Aside0.mk ((by rw [hg];exact (below_size (by exact HB.out)) : w.heap.size ≤ gb172));have n4_:=Aside0.mk ((by rw [hg];exact (below_size (by exact HB.out)) : w.heap.size ≤ gb172));have n5_:=Aside0.mk ((by rw [hg];exact Nat.ne_of_lt (blk_lt BK171.out) : gb171 ≠ gb172));have n6_:=Aside0.mk ((by rw [hg];exact Nat.ne_of_gt (blk_lt BK171.out) : gb172 ≠ gb171));clear BK171;clear HB;have BK171:=n0_;have HB:=n1_;have BK172:=n2_;have GW172:=n3_;have GE172:=n4_;have NB171_172:=n5_;have NB172_171:=n6_;clear n0_ n1_ n2_ n3_ n4_ n5_ n6_;clear hb hbox hg;have hnb13:=NB172_171.out;have hnc13:=NB171_172.out;have hcz14_0 : w12.cell? ⟨gb172,0,none⟩ = some (.string (a0.extract 4 a0.size)):=(blk_cell BK172.out 0).trans rfl;have hcz14_1 : w12.cell? ⟨gb172,1,none⟩ = some (.bool false):=(blk_cell BK172.out 1).trans rfl;have hfz14_0:=blk_frozen BK172.out 0;have hfz14_1:=blk_frozen BK172.out 1)|(go_at_call 31;go_in)|((with_reducible refine gate_callee (f:=42) rfl ?_);(with_reducible refine gate_at_ (s := "l04_sector.go:209") rfl ?_);refine goesL_ (some 10) rfl rfl Try.func42 (by kernel_rfl) rfl #[.string (a0.extract 4 a0.size)] rfl (by (try simp only [List.map_toArray,List.map_cons,List.map_nil]);first|done|rfl|(simp only [List.length_drop,List.length_take];rfl)) ?_;(with_reducible refine (impl_ReadVar.calls k (a0.extract 4 a0.size) t173 t174 _ A7.out).mono ?_);rintro e w15 ⟨rfl,hb⟩;refine ⟨_,rfl,?_⟩;have n0_:=Aside0.mk (blk_below BK171.out hb);have n1_:=Aside0.mk (blk_below BK172.out hb);have n2_:=Aside0.mk (below_step (by exact HB.out) hb);clear BK171;clear BK172;clear HB;have BK171:=n0_;have BK172:=n1_;have HB:=n2_;clear n0_ n1_ n2_;(try clear hb);(try clear hb2);(try clear hk);(try clear hi);have hcz16_0 : w15.cell? ⟨gb172,0,none⟩ = some (.string (a0.extract 4 a0.size)):=(blk_cell BK172.out 0).trans rfl;have hcz16_1 : w15.cell? ⟨gb172,1,none⟩ = some (.bool false):=(blk_cell BK172.out 1).trans rfl;have hfz16_0:=blk_frozen BK172.out 0;have hfz16_1:=blk_frozen BK172.out 1)|((with_reducible refine gate_store (t:=4) (p:=17) rfl ?_);(with_reducible refine gate_at_ (s := "l04_sector.go:211") rfl ?_);refine store_event (t:=4) (p:=17) (v:=?vo_w17) (w1:=(setAll_ w15 gb172 1 [.bool true])) ?hg ?ho ?hn ?hr ?_;(case ho => rfl);(case hg => rfl);(case hn => rfl);(case hr => simp only [setAll_];first|(go_simp;done)|(go_simp;rfl));intro w17 hw;have hg : w15.grownBy w17 (some gb172):=(by rw [hw];exact setAll_grown _ _ _ _);have n0_:=Aside0.mk (blk_grown BK171.out hg (ne_some_ NB171_172.out));have n1_:=Aside0.mk ((by rw [hw];simp only [setAll_];exact (by (with_reducible repeat (first|refine blk_drewN ?_ _|refine blk_drew ?_|refine blk_alloc ?_ _));refine blk_put (cs:=#[.string (a0.extract 4 a0.size),.bool false]) ?_ 1 _ rfl;(with_reducible repeat (first|refine blk_drewN ?_ _|refine blk_drew ?_|refine blk_alloc ?_ _));exact BK172.out) : w17.heap[gb172]? = some (.cells #[.string (a0.extract 4 a0.size),.bool true] 52 (0,0))));have n2_:=Aside0.mk (below_gr_ HB.out hg GE172.out);clear BK171;clear BK172;clear HB;have BK171:=n0_;have BK172:=n1_;have HB:=n2_;clear n0_ n1_ n2_;clear hw hg;have hcz18_0 : w17.cell? ⟨gb172,0,none⟩ = some (.string (a0.extract 4 a0.size)):=(blk_cell BK172.out 0).trans rfl;have hcz18_1 : w17.cell? ⟨gb172,1,none⟩ = some (.bool true):=(blk_cell BK172.out 1).trans rfl;have hfz18_0:=blk_frozen BK172.out 0;have hfz18_1:=blk_frozen BK172.out 1)|((with_reducible refine gate_store (t:=9) (p:=26) rfl ?_);(with_reducible refine gate_at_ (s := "l04_sector.go:213") rfl ?_);refine store_event (t:=9) (p:=26) (v:=?vo_w19) (w1:=(setAll_ w17 gb172 0 [.string ((a0.extract 4 a0.size).extract (t174 : Int).toNat (a0.extract 4 a0.size).size)])) ?hg ?ho ?hn ?hr ?_;(case ho => rfl);(case hg => rfl);(case hn => rfl);(case hr => simp only [setAll_];first|(go_simp;done)|(go_simp;rfl));intro w19 hw;have hg : w17.grownBy w19 (some gb172):=(by rw [hw];exact setAll_grown _ _ _ _);have n0_:=Aside0.mk (blk_grown BK171.out hg (ne_some_ NB171_172.out));have n1_:=Aside0.mk ((by rw [hw];simp only [setAll_];exact (by (with_reducible repeat (first|refine blk_drewN ?_ _|refine blk_drew ?_|refine blk_alloc ?_ _));refine blk_put (cs:=#[.string (a0.extract 4 a0.size),.bool true]) ?_ 0 _ rfl;(with_reducible repeat (first|refine blk_drewN ?_ _|refine blk_drew ?_|refine blk_alloc ?_ _));exact BK172.out) : w19.heap[gb172]? = some (.cells #[.string ((a0.extract 4 a0.size).extract (t174 : Int).toNat (a0.extract 4 a0.size).size),.bool true] 52 (0,0))));have n2_:=Aside0.mk (below_gr_ HB.out hg GE172.out);clear BK171;clear BK172;clear HB;have BK171:=n0_;have BK172:=n1_;have HB:=n2_;clear n0_ n1_ n2_;clear hw hg)|((with_reducible refine gate_dst (N:=5) rfl ?_);(with_reducible refine gate_at_ (s := "l23_mirror.go:26") rfl ?_);refine box_event ?hg (N:=5) ?hd (cs:=#[.int .i64 0,.string (⟨#[]⟩ : ByteArray)]) (t:=26) ?hr ?_;(case hd => rfl);(case hg => rfl);(case hr => first|(go_simp;done)|(go_simp;rfl));intro gb175 hg w20 hbox hb;have n0_:=Aside0.mk (blk_below BK171.out hb);have n1_:=Aside0.mk (blk_below BK172.out hb);have n2_:=Aside0.mk (below_step (by exact HB.out) hb);have n3_:=Aside0.mk (hbox);have n4_:=Aside0.mk ((by rw [hg];exact (below_size (by exact HB.out)) : w.heap.size ≤ gb175));have n5_:=Aside0.mk ((by rw [hg];exact (below_size (by exact HB.out)) : w.heap.size ≤ gb175));have n6_:=Aside0.mk ((by rw [hg];exact Nat.ne_of_lt (blk_lt BK171.out) : gb171 ≠ gb175));have n7_:=Aside0.mk ((by rw [hg];exact Nat.ne_of_gt (blk_lt BK171.out) : gb175 ≠ gb171));have n8_:=Aside0.mk ((by rw [hg];exact Nat.ne_of_lt (blk_lt BK172.out) : gb172 ≠ gb175));have n9_:=Aside0.mk ((by rw [hg];exact Nat.ne_of_gt (blk_lt BK172.out) : gb175 ≠ gb172));clear BK171;clear BK172;clear HB;have BK171:=n0_;have BK172:=n1_;have HB:=n2_;have BK175:=n3_;have GW175:=n4_;have GE175:=n5_;have NB171_175:=n6_;have NB175_171:=n7_;have NB172_175:=n8_;have NB175_172:=n9_;clear n0_ n1_ n2_ n3_ n4_ n5_ n6_ n7_ n8_ n9_;clear hb hbox hg;have hnb21:=NB175_171.out;have hnc21:=NB171_175.out;have hnb22:=NB175_172.out;have hnc22:=NB172_175.out;have hcz23_0 : w20.cell? ⟨gb175,0,none⟩ = some (.int .i64 0):=(blk_cell BK175.out 0).trans rfl;have hcz23_1 : w20.cell? ⟨gb175,1,none⟩ = some (.string (⟨#[]⟩ : ByteArray)):=(blk_cell BK175.out 1).trans rfl;have hfz23_0:=blk_frozen BK175.out 0;have hfz23_1:=blk_frozen BK175.out 1)|((with_reducible refine gate_store (t:=26) (p:=5) rfl ?_);(with_reducible refine gate_at_ (s := "l23_mirror.go:26") rfl ?_);refine store_event (t:=26) (p:=5) (v:=?vo_w24) (w1:=(setAll_ w20 gb175 0 [.int .i64 t173,.string (⟨#[]⟩ : ByteArray)])) ?hg ?ho ?hn ?hr ?_;(case ho => rfl);(case hg => rfl);(case hn => rfl);(case hr => simp only [setAll_];first|(go_simp;done)|(go_simp;rfl));intro w24 hw;have hg : w20.grownBy w24 (some gb175):=(by rw [hw];exact setAll_grown _ _ _ _);have n0_:=Aside0.mk (blk_grown BK171.out hg (ne_some_ NB171_175.out));have n1_:=Aside0.mk (blk_grown BK172.out hg (ne_some_ NB172_175.out));have n2_:=Aside0.mk ((by rw [hw];exact setAll_blk BK175.out rfl : w24.heap[gb175]? = some (.cells #[.int .i64 t173,.string (⟨#[]⟩ : ByteArray)] 26 (0,0))));have n3_:=Aside0.mk (below_gr_ HB.out hg GE175.out);clear BK171;clear BK172;clear BK175;clear HB;have BK171:=n0_;have BK172:=n1_;have BK175:=n2_;have HB:=n3_;clear n0_ n1_ n2_ n3_;clear hw hg;have hcz25_0 : w24.cell? ⟨gb172,0,none⟩ = some (.string ((a0.extract 4 a0.size).extract (t174 : Int).toNat (a0.extract 4 a0.size).size)):=(blk_cell BK172.out 0).trans rfl;have hcz25_1 : w24.cell? ⟨gb172,1,none⟩ = some (.bool true):=(blk_cell BK172.out 1).trans rfl;have hfz25_0:=blk_frozen BK172.out 0;have hfz25_1:=blk_frozen BK172.out 1;have hcz26_0 : w24.cell? ⟨gb175,0,none⟩ = some (.int .i64 t173):=(blk_cell BK175.out 0).trans rfl;have hcz26_1 : w24.cell? ⟨gb175,1,none⟩ = some (.string (⟨#[]⟩ : ByteArray)):=(blk_cell BK175.out 1).trans rfl;have hfz26_0:=blk_frozen BK175.out 0;have hfz26_1:=blk_frozen BK175.out 1)|((with_reducible refine gate_store (t:=9) (p:=21) rfl ?_);(with_reducible refine gate_at_ (s := "l23_mirror.go:27") rfl ?_);refine store_event (t:=9) (p:=21) (v:=?vo_w27) (w1:=(setAll_ w24 gb175 1 [.string ((a0.extract 4 a0.size).extract (t174 : Int).toNat (a0.extract 4 a0.size).size)])) ?hg ?ho ?hn ?hr ?_;(case ho => rfl);(case hg => rfl);(case hn => rfl);(case hr => simp only [setAll_];first|(go_simp;done)|(go_simp;rfl));intro w27 hw;have hg : w24.grownBy w27 (some gb175):=(by rw [hw];exact setAll_grown _ _ _ _);have n0_:=Aside0.mk (blk_grown BK171.out hg (ne_some_ NB171_175.out));have n1_:=Aside0.mk (blk_grown BK172.out hg (ne_some_ NB172_175.out));have n2_:=Aside0.mk ((by rw [hw];simp only [setAll_];exact (by (with_reducible repeat (first|refine blk_drewN ?_ _|refine blk_drew ?_|refine blk_alloc ?_ _));refine blk_put (cs:=#[.int .i64 t173,.string (⟨#[]⟩ : ByteArray)]) ?_ 1 _ rfl;(with_reducible repeat (first|refine blk_drewN ?_ _|refine blk_drew ?_|refine blk_alloc ?_ _));exact BK175.out) : w27.heap[gb175]? = some (.cells #[.int .i64 t173,.string ((a0.extract 4 a0.size).extract (t174 : Int).toNat (a0.extract 4 a0.size).size)] 26 (0,0))));have n3_:=Aside0.mk (below_gr_ HB.out hg GE175.out);clear BK171;clear BK172;clear BK175;clear HB;have BK171:=n0_;have BK172:=n1_;have BK175:=n2_;have HB:=n3_;clear n0_ n1_ n2_ n3_;clear hw hg;have hcz28_0 : w27.cell? ⟨gb172,0,none⟩ = some (.string ((a0.extract 4 a0.size).extract (t174 : Int).toNat (a0.extract 4 a0.size).size)):=(blk_cell BK172.out 0).trans rfl;have hcz28_1 : w27.cell? ⟨gb172,1,none⟩ = some (.bool true):=(blk_cell BK172.out 1).trans rfl;have hfz28_0:=blk_frozen BK172.out 0;have hfz28_1:=blk_frozen BK172.out 1;have hcz29_0 : w27.cell? ⟨gb171,0,none⟩ = some (.int .i64 0):=(blk_cell BK171.out 0).trans rfl;have hcz29_1 : w27.cell? ⟨gb171,1,none⟩ = some (.string (⟨#[]⟩ : ByteArray)):=(blk_cell BK171.out 1).trans rfl;have hfz29_0:=blk_frozen BK171.out 0;have hfz29_1:=blk_frozen BK171.out 1)|((with_reducible refine gate_store (t:=26) (p:=2) rfl ?_);(with_reducible refine gate_at_ (s := "l23_mirror.go:29") rfl ?_);refine store_event (t:=26) (p:=2) (v:=?vo_w30) (w1:=(setAll_ w27 gb171 0 [.int .i64 0,.string (⟨#[]⟩ : ByteArray)])) ?hg ?ho ?hn ?hr ?_;(case ho => rfl);(case hg => rfl);(case hn => rfl);(case hr => simp only [setAll_];first|(go_simp;done)|(go_simp;rfl));intro w30 hw;have hg : w27.grownBy w30 (some gb171):=(by rw [hw];exact setAll_grown _ _ _ _);have n0_:=Aside0.mk ((by rw [hw];exact setAll_blk BK171.out rfl : w30.heap[gb171]? = some (.cells #[.int .i64 0,.string (⟨#[]⟩ : ByteArray)] 26 (0,0))));have n1_:=Aside0.mk (blk_grown BK172.out hg (ne_some_ NB172_171.out));have n2_:=Aside0.mk (blk_grown BK175.out hg (ne_some_ NB175_171.out));have n3_:=Aside0.mk (below_gr_ HB.out hg GE171.out);clear BK171;clear BK172;clear BK175;clear HB;have BK171:=n0_;have BK172:=n1_;have BK175:=n2_;have HB:=n3_;clear n0_ n1_ n2_ n3_;clear hw hg))
      refine bodyPost_ret (results_ct rfl _ _ gb171 26 #[.int .i64 0,.string (⟨#[]⟩ : ByteArray)] (0,0) _ rfl (by (with_reducible repeat (first|refine blk_drewN ?_ _|refine blk_drew ?_|refine blk_alloc ?_ _));exact BK171.out) Try.underlying26 rfl (by kernel_rfl)) rfl ?_
      exact ⟨by first|rfl|(simp [errW_none,errW_some] <;> rfl)|(simp [*,errW_none,errW_some] <;> rfl),by repeat (first|(with_reducible first|exact HB.out|apply below_alloc|apply pw_below_drewN|apply below_drew1|refine below_set ?_ GE171.out|refine below_set ?_ GE172.out|refine below_set ?_ GE175.out)|exact HB.out)⟩
     ·
      rw [if_neg c10] at H
      exact absurd H (by simp)
    ·
     rw [if_neg c9] at H
     exact absurd H (by simp)
   ·
    rw [if_neg c8] at H
    have c8b0 : (t174 == 0) = false:=beq_eq_false_iff_ne.mpr c8
    have c8b1 : (t174 != 0) = true:=bne_iff_ne.mpr c8
    by_cases c31 : 0 ≤ t174
    ·
     rw [if_pos c31] at H
     have c31b0:=eq_true c31
     have c31b1 : decide (0 ≤ t174) = true:=decide_eq_true c31
     clear c31
     by_cases c32 : t174 ≤ ((a0.extract 4 a0.size).size : Int)
     ·
      rw [if_pos c32] at H
      have c32b0:=eq_true c32
      have c32b1 : decide (t174 ≤ ((a0.extract 4 a0.size).size : Int)) = true:=decide_eq_true c32
      clear c32
      replace H:=Option.bind_eq_some_iff.mp H
      obtain ⟨t177,A330,H⟩:=H
      replace H : (if t177.toList = a0.toList then (some (t173,(a0.extract 4 a0.size).extract (t174 : Int).toNat (a0.extract 4 a0.size).size,true)) else (some (0,(⟨#[]⟩ : ByteArray),false))) = some (r1,r2,r3):=H
      have A33:=Aside0.mk A330
      clear A330
      by_cases c34 : t177.toList = a0.toList
      ·
       rw [if_pos c34] at H
       have c34b0 : (t177.toList == a0.toList) = true:=beq_iff_eq.mpr c34
       have c34b1 : (t177.toList != a0.toList) = false:=bne_eq_false_iff_eq.mpr c34
       clear c34
       simp only [Option.some.injEq,Prod.mk.injEq] at H
       obtain ⟨rfl,rfl,rfl⟩:=H
       go_enter Try.func14,Try.ntmps14
       go_wp2_with (first|((with_reducible refine gate_dst (N:=2) rfl ?_);(with_reducible refine gate_at_ (s := "l23_mirror.go:21") rfl ?_);refine box_event ?hg (N:=2) ?hd (cs:=#[.int .i64 0,.string (⟨#[]⟩ : ByteArray)]) (t:=26) ?hr ?_;(case hd => rfl);(case hg => rfl);(case hr => first|(go_simp;done)|(go_simp;rfl));intro gb171 hg w35 hbox hb;have n0_:=Aside0.mk (below_step (by exact HB.out) hb);have n1_:=Aside0.mk (hbox);have n2_:=Aside0.mk ((by rw [hg];exact (below_size (by exact HB.out)) : w.heap.size ≤ gb171));have n3_:=Aside0.mk ((by rw [hg];exact (below_size (by exact HB.out)) : w.heap.size ≤ gb171));clear HB;have HB:=n0_;have BK171:=n1_;have GW171:=n2_;have GE171:=n3_;clear n0_ n1_ n2_ n3_;clear hb hbox hg)|((with_reducible refine gate_dst (N:=13) rfl ?_);(with_reducible refine gate_at_ (s := "l23_mirror.go:25") rfl ?_);refine box_event ?hg (N:=13) ?hd (cs:=#[.string (a0.extract 4 a0.size),.bool false]) (t:=52) ?hr ?_;(case hd => rfl);(case hg => rfl);(case hr => first|(go_simp;done)|(go_simp;rfl));intro gb172 hg w36 hbox hb;have n0_:=Aside0.mk (blk_below BK171.out hb);have n1_:=Aside0.mk (below_step (by exact HB.out) hb);have n2_:=Aside0.mk (hbox);have n3_:=Aside0.mk ((by rw [hg];exact (below_size (by exact HB.out)) : w.heap.size ≤ gb172));have n4_:=Aside0.mk ((by rw [hg];exact (below_size (by exact HB.out)) : w.heap.size ≤ gb172));have n5_:=Aside0.mk ((by rw [hg];exact Nat.ne_of_lt (blk_lt BK171.out) : gb171 ≠ gb172));have n6_:=Aside0.mk ((by rw [hg];exact Nat.ne_of_gt (blk_lt BK171.out) : gb172 ≠ gb171));clear BK171;clear HB;have BK171:=n0_;have HB:=n1_;have BK172:=n2_;have GW172:=n3_;have GE172:=n4_;have NB171_172:=n5_;have NB172_171:=n6_;clear n0_ n1_ n2_ n3_ n4_ n5_ n6_;clear hb hbox hg;have hnb37:=NB172_171.out;have hnc37:=NB171_172.out;have hcz38_0 : w36.cell? ⟨gb172,0,none⟩ = some (.string (a0.extract 4 a0.size)):=(blk_cell BK172.out 0).trans rfl;have hcz38_1 : w36.cell? ⟨gb172,1,none⟩ = some (.bool false):=(blk_cell BK172.out 1).trans rfl;have hfz38_0:=blk_frozen BK172.out 0;have hfz38_1:=blk_frozen BK172.out 1)|(go_at_call 31;go_in)|((with_reducible refine gate_callee (f:=42) rfl ?_);(with_reducible refine gate_at_ (s := "l04_sector.go:209") rfl ?_);refine goesL_ (some 10) rfl rfl Try.func42 (by kernel_rfl) rfl #[.string (a0.extract 4 a0.size)] rfl (by (try simp only [List.map_toArray,List.map_cons,List.map_nil]);first|done|rfl|(simp only [List.length_drop,List.length_take];rfl)) ?_;(with_reducible refine (impl_ReadVar.calls k (a0.extract 4 a0.size) t173 t174 _ A7.out).mono ?_);rintro e w39 ⟨rfl,hb⟩;refine ⟨_,rfl,?_⟩;have n0_:=Aside0.mk (blk_below BK171.out hb);have n1_:=Aside0.mk (blk_below BK172.out hb);have n2_:=Aside0.mk (below_step (by exact HB.out) hb);clear BK171;clear BK172;clear HB;have BK171:=n0_;have BK172:=n1_;have HB:=n2_;clear n0_ n1_ n2_;(try clear hb);(try clear hb2);(try clear hk);(try clear hi);have hcz40_0 : w39.cell? ⟨gb172,0,none⟩ = some (.string (a0.extract 4 a0.size)):=(blk_cell BK172.out 0).trans rfl;have hcz40_1 : w39.cell? ⟨gb172,1,none⟩ = some (.bool false):=(blk_cell BK172.out 1).trans rfl;have hfz40_0:=blk_frozen BK172.out 0;have hfz40_1:=blk_frozen BK172.out 1)|((with_reducible refine gate_store (t:=9) (p:=26) rfl ?_);(with_reducible refine gate_at_ (s := "l04_sector.go:213") rfl ?_);refine store_event (t:=9) (p:=26) (v:=?vo_w41) (w1:=(setAll_ w39 gb172 0 [.string ((a0.extract 4 a0.size).extract (t174 : Int).toNat (a0.extract 4 a0.size).size)])) ?hg ?ho ?hn ?hr ?_;(case ho => rfl);(case hg => rfl);(case hn => rfl);(case hr => simp only [setAll_];first|(go_simp;done)|(go_simp;rfl));intro w41 hw;have hg : w39.grownBy w41 (some gb172):=(by rw [hw];exact setAll_grown _ _ _ _);have n0_:=Aside0.mk (blk_grown BK171.out hg (ne_some_ NB171_172.out));have n1_:=Aside0.mk ((by rw [hw];simp only [setAll_];exact (by (with_reducible repeat (first|refine blk_drewN ?_ _|refine blk_drew ?_|refine blk_alloc ?_ _));refine blk_put (cs:=#[.string (a0.extract 4 a0.size),.bool false]) ?_ 0 _ rfl;(with_reducible repeat (first|refine blk_drewN ?_ _|refine blk_drew ?_|refine blk_alloc ?_ _));exact BK172.out) : w41.heap[gb172]? = some (.cells #[.string ((a0.extract 4 a0.size).extract (t174 : Int).toNat (a0.extract 4 a0.size).size),.bool false] 52 (0,0))));have n2_:=Aside0.mk (below_gr_ HB.out hg GE172.out);clear BK171;clear BK172;clear HB;have BK171:=n0_;have BK172:=n1_;have HB:=n2_;clear n0_ n1_ n2_;clear hw hg)|((with_reducible refine gate_dst (N:=5) rfl ?_);(with_reducible refine gate_at_ (s := "l23_mirror.go:26") rfl ?_);refine box_event ?hg (N:=5) ?hd (cs:=#[.int .i64 0,.string (⟨#[]⟩ : ByteArray)]) (t:=26) ?hr ?_;(case hd => rfl);(case hg => rfl);(case hr => first|(go_simp;done)|(go_simp;rfl));intro gb176 hg w42 hbox hb;have n0_:=Aside0.mk (blk_below BK171.out hb);have n1_:=Aside0.mk (blk_below BK172.out hb);have n2_:=Aside0.mk (below_step (by exact HB.out) hb);have n3_:=Aside0.mk (hbox);have n4_:=Aside0.mk ((by rw [hg];exact (below_size (by exact HB.out)) : w.heap.size ≤ gb176));have n5_:=Aside0.mk ((by rw [hg];exact (below_size (by exact HB.out)) : w.heap.size ≤ gb176));have n6_:=Aside0.mk ((by rw [hg];exact Nat.ne_of_lt (blk_lt BK171.out) : gb171 ≠ gb176));have n7_:=Aside0.mk ((by rw [hg];exact Nat.ne_of_gt (blk_lt BK171.out) : gb176 ≠ gb171));have n8_:=Aside0.mk ((by rw [hg];exact Nat.ne_of_lt (blk_lt BK172.out) : gb172 ≠ gb176));have n9_:=Aside0.mk ((by rw [hg];exact Nat.ne_of_gt (blk_lt BK172.out) : gb176 ≠ gb172));clear BK171;clear BK172;clear HB;have BK171:=n0_;have BK172:=n1_;have HB:=n2_;have BK176:=n3_;have GW176:=n4_;have GE176:=n5_;have NB171_176:=n6_;have NB176_171:=n7_;have NB172_176:=n8_;have NB176_172:=n9_;clear n0_ n1_ n2_ n3_ n4_ n5_ n6_ n7_ n8_ n9_;clear hb hbox hg;have hnb43:=NB176_171.out;have hnc43:=NB171_176.out;have hnb44:=NB176_172.out;have hnc44:=NB172_176.out;have hcz45_0 : w42.cell? ⟨gb176,0,none⟩ = some (.int .i64 0):=(blk_cell BK176.out 0).trans rfl;have hcz45_1 : w42.cell? ⟨gb176,1,none⟩ = some (.string (⟨#[]⟩ : ByteArray)):=(blk_cell BK176.out 1).trans rfl;have hfz45_0:=blk_frozen BK176.out 0;have hfz45_1:=blk_frozen BK176.out 1)|((with_reducible refine gate_store (t:=26) (p:=5) rfl ?_);(with_reducible refine gate_at_ (s := "l23_mirror.go:26") rfl ?_);refine store_event (t:=26) (p:=5) (v:=?vo_w46) (w1:=(setAll_ w42 gb176 0 [.int .i64 t173,.string (⟨#[]⟩ : ByteArray)])) ?hg ?ho ?hn ?hr ?_;(case ho => rfl);(case hg => rfl);(case hn => rfl);(case hr => simp only [setAll_];first|(go_simp;done)|(go_simp;rfl));intro w46 hw;have hg : w42.grownBy w46 (some gb176):=(by rw [hw];exact setAll_grown _ _ _ _);have n0_:=Aside0.mk (blk_grown BK171.out hg (ne_some_ NB171_176.out));have n1_:=Aside0.mk (blk_grown BK172.out hg (ne_some_ NB172_176.out));have n2_:=Aside0.mk ((by rw [hw];exact setAll_blk BK176.out rfl : w46.heap[gb176]? = some (.cells #[.int .i64 t173,.string (⟨#[]⟩ : ByteArray)] 26 (0,0))));have n3_:=Aside0.mk (below_gr_ HB.out hg GE176.out);clear BK171;clear BK172;clear BK176;clear HB;have BK171:=n0_;have BK172:=n1_;have BK176:=n2_;have HB:=n3_;clear n0_ n1_ n2_ n3_;clear hw hg;have hcz47_0 : w46.cell? ⟨gb172,0,none⟩ = some (.string ((a0.extract 4 a0.size).extract (t174 : Int).toNat (a0.extract 4 a0.size).size)):=(blk_cell BK172.out 0).trans rfl;have hcz47_1 : w46.cell? ⟨gb172,1,none⟩ = some (.bool false):=(blk_cell BK172.out 1).trans rfl;have hfz47_0:=blk_frozen BK172.out 0;have hfz47_1:=blk_frozen BK172.out 1;have hcz48_0 : w46.cell? ⟨gb176,0,none⟩ = some (.int .i64 t173):=(blk_cell BK176.out 0).trans rfl;have hcz48_1 : w46.cell? ⟨gb176,1,none⟩ = some (.string (⟨#[]⟩ : ByteArray)):=(blk_cell BK176.out 1).trans rfl;have hfz48_0:=blk_frozen BK176.out 0;have hfz48_1:=blk_frozen BK176.out 1)|((with_reducible refine gate_store (t:=9) (p:=21) rfl ?_);(with_reducible refine gate_at_ (s := "l23_mirror.go:27") rfl ?_);refine store_event (t:=9) (p:=21) (v:=?vo_w49) (w1:=(setAll_ w46 gb176 1 [.string ((a0.extract 4 a0.size).extract (t174 : Int).toNat (a0.extract 4 a0.size).size)])) ?hg ?ho ?hn ?hr ?_;(case ho => rfl);(case hg => rfl);(case hn => rfl);(case hr => simp only [setAll_];first|(go_simp;done)|(go_simp;rfl));intro w49 hw;have hg : w46.grownBy w49 (some gb176):=(by rw [hw];exact setAll_grown _ _ _ _);have n0_:=Aside0.mk (blk_grown BK171.out hg (ne_some_ NB171_176.out));have n1_:=Aside0.mk (blk_grown BK172.out hg (ne_some_ NB172_176.out));have n2_:=Aside0.mk ((by rw [hw];simp only [setAll_];exact (by (with_reducible repeat (first|refine blk_drewN ?_ _|refine blk_drew ?_|refine blk_alloc ?_ _));refine blk_put (cs:=#[.int .i64 t173,.string (⟨#[]⟩ : ByteArray)]) ?_ 1 _ rfl;(with_reducible repeat (first|refine blk_drewN ?_ _|refine blk_drew ?_|refine blk_alloc ?_ _));exact BK176.out) : w49.heap[gb176]? = some (.cells #[.int .i64 t173,.string ((a0.extract 4 a0.size).extract (t174 : Int).toNat (a0.extract 4 a0.size).size)] 26 (0,0))));have n3_:=Aside0.mk (below_gr_ HB.out hg GE176.out);clear BK171;clear BK172;clear BK176;clear HB;have BK171:=n0_;have BK172:=n1_;have BK176:=n2_;have HB:=n3_;clear n0_ n1_ n2_ n3_;clear hw hg;have hcz50_0 : w49.cell? ⟨gb172,0,none⟩ = some (.string ((a0.extract 4 a0.size).extract (t174 : Int).toNat (a0.extract 4 a0.size).size)):=(blk_cell BK172.out 0).trans rfl;have hcz50_1 : w49.cell? ⟨gb172,1,none⟩ = some (.bool false):=(blk_cell BK172.out 1).trans rfl;have hfz50_0:=blk_frozen BK172.out 0;have hfz50_1:=blk_frozen BK172.out 1;have hcz51_0 : w49.cell? ⟨gb176,0,none⟩ = some (.int .i64 t173):=(blk_cell BK176.out 0).trans rfl;have hcz51_1 : w49.cell? ⟨gb176,1,none⟩ = some (.string ((a0.extract 4 a0.size).extract (t174 : Int).toNat (a0.extract 4 a0.size).size)):=(blk_cell BK176.out 1).trans rfl;have hfz51_0:=blk_frozen BK176.out 0;have hfz51_1:=blk_frozen BK176.out 1)|(go_at_call 12;(with_reducible refine (impl_ShowCopy.calls k t173 ((a0.extract 4 a0.size).extract (t174 : Int).toNat (a0.extract 4 a0.size).size) t177 _ A33.out).mono ?_);rintro e w52 ⟨rfl,hb⟩;have n0_:=Aside0.mk (blk_below BK171.out hb);have n1_:=Aside0.mk (blk_below BK176.out hb);have n2_:=Aside0.mk (below_step (by exact HB.out) hb);clear BK171;clear BK176;clear HB;(try clear BK172);(try clear GW172);(try clear GE172);(try clear NB172_171);(try clear NB171_172);(try clear NB172_176);(try clear NB176_172);have BK171:=n0_;have BK176:=n1_;have HB:=n2_;clear n0_ n1_ n2_;(try clear hb);(try clear hb2);(try clear hk);(try clear hi);have hcz53_0 : w52.cell? ⟨gb176,0,none⟩ = some (.int .i64 t173):=(blk_cell BK176.out 0).trans rfl;have hcz53_1 : w52.cell? ⟨gb176,1,none⟩ = some (.string ((a0.extract 4 a0.size).extract (t174 : Int).toNat (a0.extract 4 a0.size).size)):=(blk_cell BK176.out 1).trans rfl;have hfz53_0:=blk_frozen BK176.out 0;have hfz53_1:=blk_frozen BK176.out 1;have hcz54_0 : w52.cell? ⟨gb171,0,none⟩ = some (.int .i64 0):=(blk_cell BK171.out 0).trans rfl;have hcz54_1 : w52.cell? ⟨gb171,1,none⟩ = some (.string (⟨#[]⟩ : ByteArray)):=(blk_cell BK171.out 1).trans rfl;have hfz54_0:=blk_frozen BK171.out 0;have hfz54_1:=blk_frozen BK171.out 1)|((with_reducible refine gate_store (t:=26) (p:=2) rfl ?_);(with_reducible refine gate_at_ (s := "l23_mirror.go:31") rfl ?_);refine store_event (t:=26) (p:=2) (v:=?vo_w55) (w1:=(setAll_ w52 gb171 0 [.int .i64 t173,.string ((a0.extract 4 a0.size).extract (t174 : Int).toNat (a0.extract 4 a0.size).size)])) ?hg ?ho ?hn ?hr ?_;(case ho => rfl);(case hg => rfl);(case hn => rfl);(case hr => simp only [setAll_];first|(go_simp;done)|(go_simp;rfl));intro w55 hw;have hg : w52.grownBy w55 (some gb171):=(by rw [hw];exact setAll_grown _ _ _ _);have n0_:=Aside0.mk ((by rw [hw];exact setAll_blk BK171.out rfl : w55.heap[gb171]? = some (.cells #[.int .i64 t173,.string ((a0.extract 4 a0.size).extract (t174 : Int).toNat (a0.extract 4 a0.size).size)] 26 (0,0))));have n1_:=Aside0.mk (blk_grown BK176.out hg (ne_some_ NB176_171.out));have n2_:=Aside0.mk (below_gr_ HB.out hg GE171.out);clear BK171;clear BK176;clear HB;have BK171:=n0_;have BK176:=n1_;have HB:=n2_;clear n0_ n1_ n2_;clear hw hg))
       refine bodyPost_ret (results_ct rfl _ _ gb171 26 #[.int .i64 t173,.string ((a0.extract 4 a0.size).extract (t174 : Int).toNat (a0.extract 4 a0.size).size)] (0,0) _ rfl (by (with_reducible repeat (first|refine blk_drewN ?_ _|refine blk_drew ?_|refine blk_alloc ?_ _));exact BK171.out) Try.underlying26 rfl (by kernel_rfl)) rfl ?_
       exact ⟨by first|rfl|(simp [errW_none,errW_some] <;> rfl)|(simp [*,errW_none,errW_some] <;> rfl),by repeat (first|(with_reducible first|exact HB.out|apply below_alloc|apply pw_below_drewN|apply below_drew1|refine below_set ?_ GE171.out|refine below_set ?_ GE176.out)|exact HB.out)⟩
      ·
       rw [if_neg c34] at H
       have c34b0 : (t177.toList == a0.toList) = false:=beq_eq_false_iff_ne.mpr c34
       have c34b1 : (t177.toList != a0.toList) = true:=bne_iff_ne.mpr c34
       simp only [Option.some.injEq,Prod.mk.injEq] at H
       obtain ⟨rfl,rfl,rfl⟩:=H
       go_enter Try.func14,Try.ntmps14
       go_wp2_with (first|((with_reducible refine gate_dst (N:=2) rfl ?_);(with_reducible refine gate_at_ (s := "l23_mirror.go:21") rfl ?_);refine box_event ?hg (N:=2) ?hd (cs:=#[.int .i64 0,.string (⟨#[]⟩ : ByteArray)]) (t:=26) ?hr ?_;(case hd => rfl);(case hg => rfl);(case hr => first|(go_simp;done)|(go_simp;rfl));intro gb171 hg w56 hbox hb;have n0_:=Aside0.mk (below_step (by exact HB.out) hb);have n1_:=Aside0.mk (hbox);have n2_:=Aside0.mk ((by rw [hg];exact (below_size (by exact HB.out)) : w.heap.size ≤ gb171));have n3_:=Aside0.mk ((by rw [hg];exact (below_size (by exact HB.out)) : w.heap.size ≤ gb171));clear HB;have HB:=n0_;have BK171:=n1_;have GW171:=n2_;have GE171:=n3_;clear n0_ n1_ n2_ n3_;clear hb hbox hg)|((with_reducible refine gate_dst (N:=13) rfl ?_);(with_reducible refine gate_at_ (s := "l23_mirror.go:25") rfl ?_);refine box_event ?hg (N:=13) ?hd (cs:=#[.string (a0.extract 4 a0.size),.bool false]) (t:=52) ?hr ?_;(case hd => rfl);(case hg => rfl);(case hr => first|(go_simp;done)|(go_simp;rfl));intro gb172 hg w57 hbox hb;have n0_:=Aside0.mk (blk_below BK171.out hb);have n1_:=Aside0.mk (below_step (by exact HB.out) hb);have n2_:=Aside0.mk (hbox);have n3_:=Aside0.mk ((by rw [hg];exact (below_size (by exact HB.out)) : w.heap.size ≤ gb172));have n4_:=Aside0.mk ((by rw [hg];exact (below_size (by exact HB.out)) : w.heap.size ≤ gb172));have n5_:=Aside0.mk ((by rw [hg];exact Nat.ne_of_lt (blk_lt BK171.out) : gb171 ≠ gb172));have n6_:=Aside0.mk ((by rw [hg];exact Nat.ne_of_gt (blk_lt BK171.out) : gb172 ≠ gb171));clear BK171;clear HB;have BK171:=n0_;have HB:=n1_;have BK172:=n2_;have GW172:=n3_;have GE172:=n4_;have NB171_172:=n5_;have NB172_171:=n6_;clear n0_ n1_ n2_ n3_ n4_ n5_ n6_;clear hb hbox hg;have hnb58:=NB172_171.out;have hnc58:=NB171_172.out;have hcz59_0 : w57.cell? ⟨gb172,0,none⟩ = some (.string (a0.extract 4 a0.size)):=(blk_cell BK172.out 0).trans rfl;have hcz59_1 : w57.cell? ⟨gb172,1,none⟩ = some (.bool false):=(blk_cell BK172.out 1).trans rfl;have hfz59_0:=blk_frozen BK172.out 0;have hfz59_1:=blk_frozen BK172.out 1)|(go_at_call 31;go_in)|((with_reducible refine gate_callee (f:=42) rfl ?_);(with_reducible refine gate_at_ (s := "l04_sector.go:209") rfl ?_);refine goesL_ (some 10) rfl rfl Try.func42 (by kernel_rfl) rfl #[.string (a0.extract 4 a0.size)] rfl (by (try simp only [List.map_toArray,List.map_cons,List.map_nil]);first|done|rfl|(simp only [List.length_drop,List.length_take];rfl)) ?_;(with_reducible refine (impl_ReadVar.calls k (a0.extract 4 a0.size) t173 t174 _ A7.out).mono ?_);rintro e w60 ⟨rfl,hb⟩;refine ⟨_,rfl,?_⟩;have n0_:=Aside0.mk (blk_below BK171.out hb);have n1_:=Aside0.mk (blk_below BK172.out hb);have n2_:=Aside0.mk (below_step (by exact HB.out) hb);clear BK171;clear BK172;clear HB;have BK171:=n0_;have BK172:=n1_;have HB:=n2_;clear n0_ n1_ n2_;(try clear hb);(try clear hb2);(try clear hk);(try clear hi);have hcz61_0 : w60.cell? ⟨gb172,0,none⟩ = some (.string (a0.extract 4 a0.size)):=(blk_cell BK172.out 0).trans rfl;have hcz61_1 : w60.cell? ⟨gb172,1,none⟩ = some (.bool false):=(blk_cell BK172.out 1).trans rfl;have hfz61_0:=blk_frozen BK172.out 0;have hfz61_1:=blk_frozen BK172.out 1)|((with_reducible refine gate_store (t:=9) (p:=26) rfl ?_);(with_reducible refine gate_at_ (s := "l04_sector.go:213") rfl ?_);refine store_event (t:=9) (p:=26) (v:=?vo_w62) (w1:=(setAll_ w60 gb172 0 [.string ((a0.extract 4 a0.size).extract (t174 : Int).toNat (a0.extract 4 a0.size).size)])) ?hg ?ho ?hn ?hr ?_;(case ho => rfl);(case hg => rfl);(case hn => rfl);(case hr => simp only [setAll_];first|(go_simp;done)|(go_simp;rfl));intro w62 hw;have hg : w60.grownBy w62 (some gb172):=(by rw [hw];exact setAll_grown _ _ _ _);have n0_:=Aside0.mk (blk_grown BK171.out hg (ne_some_ NB171_172.out));have n1_:=Aside0.mk ((by rw [hw];simp only [setAll_];exact (by (with_reducible repeat (first|refine blk_drewN ?_ _|refine blk_drew ?_|refine blk_alloc ?_ _));refine blk_put (cs:=#[.string (a0.extract 4 a0.size),.bool false]) ?_ 0 _ rfl;(with_reducible repeat (first|refine blk_drewN ?_ _|refine blk_drew ?_|refine blk_alloc ?_ _));exact BK172.out) : w62.heap[gb172]? = some (.cells #[.string ((a0.extract 4 a0.size).extract (t174 : Int).toNat (a0.extract 4 a0.size).size),.bool false] 52 (0,0))));have n2_:=Aside0.mk (below_gr_ HB.out hg GE172.out);clear BK171;clear BK172;clear HB;have BK171:=n0_;have BK172:=n1_;have HB:=n2_;clear n0_ n1_ n2_;clear hw hg)|((with_reducible refine gate_dst (N:=5) rfl ?_);(with_reducible refine gate_at_ (s := "l23_mirror.go:26") rfl ?_);refine box_event ?hg (N:=5) ?hd (cs:=#[.int .i64 0,.string (⟨#[]⟩ : ByteArray)]) (t:=26) ?hr ?_;(case hd => rfl);(case hg => rfl);(case hr => first|(go_simp;done)|(go_simp;rfl));intro gb176 hg w63 hbox hb;have n0_:=Aside0.mk (blk_below BK171.out hb);have n1_:=Aside0.mk (blk_below BK172.out hb);have n2_:=Aside0.mk (below_step (by exact HB.out) hb);have n3_:=Aside0.mk (hbox);have n4_:=Aside0.mk ((by rw [hg];exact (below_size (by exact HB.out)) : w.heap.size ≤ gb176));have n5_:=Aside0.mk ((by rw [hg];exact (below_size (by exact HB.out)) : w.heap.size ≤ gb176));have n6_:=Aside0.mk ((by rw [hg];exact Nat.ne_of_lt (blk_lt BK171.out) : gb171 ≠ gb176));have n7_:=Aside0.mk ((by rw [hg];exact Nat.ne_of_gt (blk_lt BK171.out) : gb176 ≠ gb171));have n8_:=Aside0.mk ((by rw [hg];exact Nat.ne_of_lt (blk_lt BK172.out) : gb172 ≠ gb176));have n9_:=Aside0.mk ((by rw [hg];exact Nat.ne_of_gt (blk_lt BK172.out) : gb176 ≠ gb172));clear BK171;clear BK172;clear HB;have BK171:=n0_;have BK172:=n1_;have HB:=n2_;have BK176:=n3_;have GW176:=n4_;have GE176:=n5_;have NB171_176:=n6_;have NB176_171:=n7_;have NB172_176:=n8_;have NB176_172:=n9_;clear n0_ n1_ n2_ n3_ n4_ n5_ n6_ n7_ n8_ n9_;clear hb hbox hg;have hnb64:=NB176_171.out;have hnc64:=NB171_176.out;have hnb65:=NB176_172.out;have hnc65:=NB172_176.out;have hcz66_0 : w63.cell? ⟨gb176,0,none⟩ = some (.int .i64 0):=(blk_cell BK176.out 0).trans rfl;have hcz66_1 : w63.cell? ⟨gb176,1,none⟩ = some (.string (⟨#[]⟩ : ByteArray)):=(blk_cell BK176.out 1).trans rfl;have hfz66_0:=blk_frozen BK176.out 0;have hfz66_1:=blk_frozen BK176.out 1)|((with_reducible refine gate_store (t:=26) (p:=5) rfl ?_);(with_reducible refine gate_at_ (s := "l23_mirror.go:26") rfl ?_);refine store_event (t:=26) (p:=5) (v:=?vo_w67) (w1:=(setAll_ w63 gb176 0 [.int .i64 t173,.string (⟨#[]⟩ : ByteArray)])) ?hg ?ho ?hn ?hr ?_;(case ho => rfl);(case hg => rfl);(case hn => rfl);(case hr => simp only [setAll_];first|(go_simp;done)|(go_simp;rfl));intro w67 hw;have hg : w63.grownBy w67 (some gb176):=(by rw [hw];exact setAll_grown _ _ _ _);have n0_:=Aside0.mk (blk_grown BK171.out hg (ne_some_ NB171_176.out));have n1_:=Aside0.mk (blk_grown BK172.out hg (ne_some_ NB172_176.out));have n2_:=Aside0.mk ((by rw [hw];exact setAll_blk BK176.out rfl : w67.heap[gb176]? = some (.cells #[.int .i64 t173,.string (⟨#[]⟩ : ByteArray)] 26 (0,0))));have n3_:=Aside0.mk (below_gr_ HB.out hg GE176.out);clear BK171;clear BK172;clear BK176;clear HB;have BK171:=n0_;have BK172:=n1_;have BK176:=n2_;have HB:=n3_;clear n0_ n1_ n2_ n3_;clear hw hg;have hcz68_0 : w67.cell? ⟨gb172,0,none⟩ = some (.string ((a0.extract 4 a0.size).extract (t174 : Int).toNat (a0.extract 4 a0.size).size)):=(blk_cell BK172.out 0).trans rfl;have hcz68_1 : w67.cell? ⟨gb172,1,none⟩ = some (.bool false):=(blk_cell BK172.out 1).trans rfl;have hfz68_0:=blk_frozen BK172.out 0;have hfz68_1:=blk_frozen BK172.out 1;have hcz69_0 : w67.cell? ⟨gb176,0,none⟩ = some (.int .i64 t173):=(blk_cell BK176.out 0).trans rfl;have hcz69_1 : w67.cell? ⟨gb176,1,none⟩ = some (.string (⟨#[]⟩ : ByteArray)):=(blk_cell BK176.out 1).trans rfl;have hfz69_0:=blk_frozen BK176.out 0;have hfz69_1:=blk_frozen BK176.out 1)|((with_reducible refine gate_store (t:=9) (p:=21) rfl ?_);(with_reducible refine gate_at_ (s := "l23_mirror.go:27") rfl ?_);refine store_event (t:=9) (p:=21) (v:=?vo_w70) (w1:=(setAll_ w67 gb176 1 [.string ((a0.extract 4 a0.size).extract (t174 : Int).toNat (a0.extract 4 a0.size).size)])) ?hg ?ho ?hn ?hr ?_;(case ho => rfl);(case hg => rfl);(case hn => rfl);(case hr => simp only [setAll_];first|(go_simp;done)|(go_simp;rfl));intro w70 hw;have hg : w67.grownBy w70 (some gb176):=(by rw [hw];exact setAll_grown _ _ _ _);have n0_:=Aside0.mk (blk_grown BK171.out hg (ne_some_ NB171_176.out));have n1_:=Aside0.mk (blk_grown BK172.out hg (ne_some_ NB172_176.out));have n2_:=Aside0.mk ((by rw [hw];simp only [setAll_];exact (by (with_reducible repeat (first|refine blk_drewN ?_ _|refine blk_drew ?_|refine blk_alloc ?_ _));refine blk_put (cs:=#[.int .i64 t173,.string (⟨#[]⟩ : ByteArray)]) ?_ 1 _ rfl;(with_reducible repeat (first|refine blk_drewN ?_ _|refine blk_drew ?_|refine blk_alloc ?_ _));exact BK176.out) : w70.heap[gb176]? = some (.cells #[.int .i64 t173,.string ((a0.extract 4 a0.size).extract (t174 : Int).toNat (a0.extract 4 a0.size).size)] 26 (0,0))));have n3_:=Aside0.mk (below_gr_ HB.out hg GE176.out);clear BK171;clear BK172;clear BK176;clear HB;have BK171:=n0_;have BK172:=n1_;have BK176:=n2_;have HB:=n3_;clear n0_ n1_ n2_ n3_;clear hw hg;have hcz71_0 : w70.cell? ⟨gb172,0,none⟩ = some (.string ((a0.extract 4 a0.size).extract (t174 : Int).toNat (a0.extract 4 a0.size).size)):=(blk_cell BK172.out 0).trans rfl;have hcz71_1 : w70.cell? ⟨gb172,1,none⟩ = some (.bool false):=(blk_cell BK172.out 1).trans rfl;have hfz71_0:=blk_frozen BK172.out 0;have hfz71_1:=blk_frozen BK172.out 1;have hcz72_0 : w70.cell? ⟨gb176,0,none⟩ = some (.int .i64 t173):=(blk_cell BK176.out 0).trans rfl;have hcz72_1 : w70.cell? ⟨gb176,1,none⟩ = some (.string ((a0.extract 4 a0.size).extract (t174 : Int).toNat (a0.extract 4 a0.size).size)):=(blk_cell BK176.out 1).trans rfl;have hfz72_0:=blk_frozen BK176.out 0;have hfz72_1:=blk_frozen BK176.out 1)|(go_at_call 12;(with_reducible refine (impl_ShowCopy.calls k t173 ((a0.extract 4 a0.size).extract (t174 : Int).toNat (a0.extract 4 a0.size).size) t177 _ A33.out).mono ?_);rintro e w73 ⟨rfl,hb⟩;have n0_:=Aside0.mk (blk_below BK171.out hb);have n1_:=Aside0.mk (below_step (by exact HB.out) hb);clear BK171;clear HB;(try clear BK172);(try clear GW172);(try clear GE172);(try clear NB172_171);(try clear NB171_172);(try clear NB172_176);(try clear NB176_172);(try clear BK176);(try clear GW176);(try clear GE176);(try clear NB176_171);(try clear NB171_176);(try clear NB176_172);(try clear NB172_176);have BK171:=n0_;have HB:=n1_;clear n0_ n1_;(try clear hb);(try clear hb2);(try clear hk);(try clear hi);have hcz74_0 : w73.cell? ⟨gb171,0,none⟩ = some (.int .i64 0):=(blk_cell BK171.out 0).trans rfl;have hcz74_1 : w73.cell? ⟨gb171,1,none⟩ = some (.string (⟨#[]⟩ : ByteArray)):=(blk_cell BK171.out 1).trans rfl;have hfz74_0:=blk_frozen BK171.out 0;have hfz74_1:=blk_frozen BK171.out 1)|((with_reducible refine gate_store (t:=26) (p:=2) rfl ?_);(with_reducible refine gate_at_ (s := "l23_mirror.go:29") rfl ?_);refine store_event (t:=26) (p:=2) (v:=?vo_w75) (w1:=(setAll_ w73 gb171 0 [.int .i64 0,.string (⟨#[]⟩ : ByteArray)])) ?hg ?ho ?hn ?hr ?_;(case ho => rfl);(case hg => rfl);(case hn => rfl);(case hr => simp only [setAll_];first|(go_simp;done)|(go_simp;rfl));intro w75 hw;have hg : w73.grownBy w75 (some gb171):=(by rw [hw];exact setAll_grown _ _ _ _);have n0_:=Aside0.mk ((by rw [hw];exact setAll_blk BK171.out rfl : w75.heap[gb171]? = some (.cells #[.int .i64 0,.string (⟨#[]⟩ : ByteArray)] 26 (0,0))));have n1_:=Aside0.mk (below_gr_ HB.out hg GE171.out);clear BK171;clear HB;have BK171:=n0_;have HB:=n1_;clear n0_ n1_;clear hw hg))
       refine bodyPost_ret (results_ct rfl _ _ gb171 26 #[.int .i64 0,.string (⟨#[]⟩ : ByteArray)] (0,0) _ rfl (by (with_reducible repeat (first|refine blk_drewN ?_ _|refine blk_drew ?_|refine blk_alloc ?_ _));exact BK171.out) Try.underlying26 rfl (by kernel_rfl)) rfl ?_
       exact ⟨by first|rfl|(simp [errW_none,errW_some] <;> rfl)|(simp [*,errW_none,errW_some] <;> rfl),by repeat (first|(with_reducible first|exact HB.out|apply below_alloc|apply pw_below_drewN|apply below_drew1|refine below_set ?_ GE171.out)|exact HB.out)⟩
     ·
      rw [if_neg c32] at H
      exact absurd H (by simp)
    ·
     rw [if_neg c31] at H
     exact absurd H (by simp)
  ·
   rw [if_neg c6] at H
   exact absurd H (by simp)
end Go.Proofs.Ytipolbckgifnbaa.P
