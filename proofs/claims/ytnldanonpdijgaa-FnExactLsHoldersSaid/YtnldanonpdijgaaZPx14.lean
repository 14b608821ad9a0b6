-- Ours: printed or written for this claim; cut to what the theorem needs.
import Derived.Test.YtnldanonpdijgaaZPx0
import Derived.Test.YtnldanonpdijgaaZPx2
import Derived.Test.YtnldanonpdijgaaZPx3
import Derived.Test.YtnldanonpdijgaaZPx13
open Bool renaming true → T, false → F
namespace Go.Proofs.Ytnldanonpdijgaa.P
open Go.RowKit Go.Proofs.YtnldanonpdijgaaW.PrintWords Go.Proofs.YtnldanonpdijgaaW.PrintLast Go.Proofs.YtnldanonpdijgaaW.PrintMore
attribute [local go_sem] max2_int min2_int max_two min_two max_three min_three max_four min_four
set_option linter.unusedVariables false
set_option linter.unusedSimpArgs false
mutual
def spec_LsHolders.l0 : Nat → List Int → Int → Int → Int → Int → List Int → Int → Int → List (S50) → Option (List Int)
  | 0,_,_,_,_,_,_,_,_,_ => none
  | k + 1,x3,x4,x332000,x332001,x332002,x332003,x332004,x332005,x332006 => if x4 < (x332003.length : Int) then ((spec_LsOk.f k x332000 x332001 x332002 x332003 x332004 x332005 x332006).bind fun t335 => (spec_LsHolders.j1 k x3 x4 t335 x332000 x332001 x332002 x332003 x332004 x332005 x332006)) else (spec_LsHolders.j1 k x3 x4 false x332000 x332001 x332002 x332003 x332004 x332005 x332006)
def spec_LsHolders.j1 : Nat → List Int → Int → Bool → Int → Int → Int → List Int → Int → Int → List (S50) → Option (List Int)
  | 0,_,_,_,_,_,_,_,_,_,_ => none
  | k + 1,x3,x4,x14,x332000,x332001,x332002,x332003,x332004,x332005,x332006 => if x14 = true then ((spec_l18Has.f x332000 x332001 x332002 x332003 x332004 x332005 x332006 x4).bind fun t336 => (if t336 = true then (if x3.length < 17592186044416 then (spec_LsHolders.l0 k (x3 ++ [x4]) (wrap64 (x4 + 1)) x332000 x332001 x332002 x332003 x332004 x332005 x332006) else (none)) else (spec_LsHolders.l0 k x3 (wrap64 (x4 + 1)) x332000 x332001 x332002 x332003 x332004 x332005 x332006))) else (some x3)
end
def spec_LsHolders.f (k : Nat) (a0_0 : Int) (a0_1 : Int) (a0_2 : Int) (l0_3 : List Int) (a0_4 : Int) (a0_5 : Int) (l0_6 : List (S50)) : Option (List Int):=spec_LsHolders.l0 k (([] : List Int)) 0 a0_0 a0_1 a0_2 l0_3 a0_4 a0_5 l0_6
set_option maxHeartbeats 8000000 in
set_option maxRecDepth 100000 in
theorem spec_LsHolders.calls (k : Nat) (a0_0 : Int) (a0_1 : Int) (a0_2 : Int) (A0_3 : Option Addr) (c0_3 : Nat) (l0_3 : List Int) (a0_4 : Int) (a0_5 : Int) (A0_6 : Option Addr) (c0_6 : Nat) (l0_6 : List (S50)) (r : List Int) (w : World) (hr0_3 : Kd.C (Kd.int .i64) w A0_3 l0_3.length l0_3) (hc0_3 : l0_3.length ≤ c0_3) (hr0_6 : Kd.C k50 w A0_6 l0_6.length l0_6) (hc0_6 : l0_6.length ≤ c0_6) (h : spec_LsHolders.f k a0_0 a0_1 a0_2 l0_3 a0_4 a0_5 l0_6 = some r) :
  Calls Try.prog 23 #[.agg #[.int .i64 a0_0,.int .i64 a0_1,.int .i64 a0_2,.slice A0_3 l0_3.length c0_3,.int .i64 a0_4,.int .i64 a0_5,.slice A0_6 l0_6.length c0_6]] w fun e w' => ∃ v0_ : Value,e = .returned (v0_) ∧ Kd.R (Kd.int .i64) 3 w' w.heap.size (fun _ => True) v0_ r ∧ Below w.heap.size w w':=by
 have hu30:=Try.underlying30
 have HR0_3:=Aside0.mk hr0_3
 have HC0_3:=Aside0.mk hc0_3
 clear hr0_3 hc0_3
 have HR0_6:=Aside0.mk hr0_6
 have HC0_6:=Aside0.mk hc0_6
 clear hr0_6 hc0_6
 have HB:=Aside0.mk (Below.refl w.heap.size w)
 have H : (spec_LsHolders.l0 k (([] : List Int)) 0 a0_0 a0_1 a0_2 l0_3 a0_4 a0_5 l0_6) = some r:=h
 clear h
 obtain ⟨y332,hy332⟩ : ∃ y_ : List Int,y_ = (([] : List Int)):=⟨_,rfl⟩
 replace H : (spec_LsHolders.l0 k y332 0 a0_0 a0_1 a0_2 l0_3 a0_4 a0_5 l0_6) = some r:=by first|(rw [hy332];with_reducible exact H)|(have H2_:=(Option.bind_some _ _).symm.trans H;rw [hy332];with_reducible exact H2_)|(have H2_:=(Option.bind_some _ _).symm.trans H;with_reducible exact H2_)|with_reducible exact H|(rw [hy332];exact H)|exact H
 have Ny332:=Aside0.mk hy332
 clear hy332
 have H':=Aside0.mk H
 clear H
 go_enter Try.func23,Try.ntmps23
 go_wp2_with (first|((with_reducible refine gate_dst (N:=1) rfl ?_);refine box_event ?hg (N:=1) ?hd (cs:=#[.int .i64 a0_0,.int .i64 a0_1,.int .i64 a0_2,.slice A0_3 l0_3.length c0_3,.int .i64 a0_4,.int .i64 a0_5,.slice A0_6 l0_6.length c0_6]) (t:=30) ?hr ?_;(case hd => rfl);(case hg => rfl);(case hr => first|(go_simp;done)|(go_simp;rfl));intro gb331 hg w2 hbox hb;have n0_:=Aside0.mk (below_step (by repeat (first|(with_reducible first|exact HB.out|apply below_alloc|apply pw_below_drewN|apply below_drew1)|exact HB.out)) hb);have n1_:=Aside0.mk (hbox);have n2_:=Aside0.mk ((by rw [hg];exact (below_size (by repeat (first|(with_reducible first|exact HB.out|apply below_alloc|apply pw_below_drewN|apply below_drew1)|exact HB.out))) : w.heap.size ≤ gb331));have n3_:=Aside0.mk ((by rw [hg];exact (below_size (by repeat (first|(with_reducible first|exact HB.out|apply below_alloc|apply pw_below_drewN|apply below_drew1)|exact HB.out))) : w.heap.size ≤ gb331));clear HB;have HB:=n0_;have BK331:=n1_;have GW331:=n2_;have GE331:=n3_;clear n0_ n1_ n2_ n3_;clear hb hbox hg)|((with_reducible refine gate_dst (N:=5) rfl ?_);refine Kd.R_lit (Kd.int .i64) _ 3 ?hg (N:=5) ?hd (xs:=([] : List Int)) (inner:=[]) (ok:=fun _ => True) (okp:=fun _ => True) ?hr ?hp (fun _ hk => hk) trivial (Below.refl _ _) (Nat.le_refl _) (by simp) ?_;(case hd => rfl);(case hg => rfl);(case hr => first|(go_simp;done)|(go_simp;rfl));(case hp => exact (Reps.none _ _));intro v333 w3 ho4 hb hg_ hnew_;clear hg_ hnew_;(first|rw [← Ny332.out] at ho4|(simp only [Int.reduceToNat] at ho4;rw [← Ny332.out] at ho4));have n0_:=Aside0.mk (Kd.R_lower ho4 (below_size (by repeat (first|(with_reducible first|exact HB.out|apply below_alloc|apply pw_below_drewN|apply below_drew1|refine below_set ?_ GE331.out)|exact HB.out))));have n1_:=Aside0.mk (blk_below (g:=gb331) (o:=.cells #[.int .i64 a0_0,.int .i64 a0_1,.int .i64 a0_2,.slice A0_3 l0_3.length c0_3,.int .i64 a0_4,.int .i64 a0_5,.slice A0_6 l0_6.length c0_6] 30 (0,0)) (by (with_reducible repeat (first|refine blk_drewN ?_ _|refine blk_drew ?_|refine blk_alloc ?_ _));exact BK331.out) hb);have n2_:=Aside0.mk (below_step (by repeat (first|(with_reducible first|exact HB.out|apply below_alloc|apply pw_below_drewN|apply below_drew1|refine below_set ?_ GE331.out)|exact HB.out)) hb);clear BK331;clear HB;have HO334:=n0_;have BK331:=n1_;have HB:=n2_;clear n0_ n1_ n2_;clear hb ho4))
 go_loopg [3,4] k (fun kq v3 v4 w' => ∃ (x3_1 : List Int) (x4_1 : Int),v4 = .int .i64 x4_1 ∧ Aside0 (spec_LsHolders.l0 kq x3_1 x4_1 a0_0 a0_1 a0_2 l0_3 a0_4 a0_5 l0_6 = some r) ∧ Aside0 (kq ≤ k) ∧ Aside0 (Kd.R (Kd.int .i64) 3 w' w.heap.size (fun _ => True) v3 x3_1) ∧ Aside0 (w'.heap[gb331]? = some (.cells #[.int .i64 a0_0,.int .i64 a0_1,.int .i64 a0_2,(.slice A0_3 l0_3.length c0_3),.int .i64 a0_4,.int .i64 a0_5,(.slice A0_6 l0_6.length c0_6)] 30 (0,0))) ∧ Aside0 (Below w.heap.size w w'))
 case atStart => exact ⟨(y332),(0),(by first|rfl|(simp;done)|(simp [*];done)),H',⟨Nat.le_refl _⟩,⟨by (with_reducible repeat (first|apply Kd.R_alloc|apply Kd.R_drewN|apply Kd.R_drew));exact HO334.out⟩,⟨by (with_reducible repeat (first|refine blk_drewN ?_ _|refine blk_drew ?_|refine blk_alloc ?_ _));exact BK331.out⟩,⟨by repeat (first|(with_reducible first|exact HB.out|apply below_alloc|apply pw_below_drewN|apply below_drew1|refine below_set ?_ GE331.out)|exact HB.out)⟩⟩
 case round =>
  clear H'
  try clear c2
  try clear p2
  obtain ⟨x3_1,x4_1,rfl,HA,HK1,HO_3,BK331,HB⟩:=hrel
  cases gk with
  | zero => exact absurd HA.out (by simp [spec_LsHolders.l0])
  | succ k1 =>
   have H:=HA.out
   clear HA
   simp only [spec_LsHolders.l0] at H
   have HC5:=Aside0.mk H
   clear H
   go_upto_region 3 with (fail)
   go_cut [14] (fun v14 wc => ∃ (kq : Nat) (x14_4 : Bool),v14 = .bool x14_4 ∧ Aside0 (spec_LsHolders.j1 kq x3_1 x4_1 x14_4 a0_0 a0_1 a0_2 l0_3 a0_4 a0_5 l0_6 = some r) ∧ Aside0 (kq ≤ k1) ∧ Aside0 (Kd.R (Kd.int .i64) 3 wc w.heap.size (fun _ => True) u3 x3_1) ∧ Aside0 (wc.heap[gb331]? = some (.cells #[.int .i64 a0_0,.int .i64 a0_1,.int .i64 a0_2,(.slice A0_3 l0_3.length c0_3),.int .i64 a0_4,.int .i64 a0_5,(.slice A0_6 l0_6.length c0_6)] 30 (0,0))) ∧ Aside0 (Below w.heap.size w wc))
   case first =>
    have H:=HC5.out
    clear HC5
    by_cases c6 : x4_1 < (l0_3.length : Int)
    ·
     rw [if_pos c6] at H
     have c6b0 : decide (x4_1 < (l0_3.length : Int)) = true:=decide_eq_true c6
     clear c6
     (first|rw [c6b0]|(simp only [i64_w,i32_w];rw [c6b0])|rw [c6b2]|skip)
     replace H:=Option.bind_eq_some_iff.mp H
     obtain ⟨t335,A70,H⟩:=H
     replace H : (spec_LsHolders.j1 k1 x3_1 x4_1 t335 a0_0 a0_1 a0_2 l0_3 a0_4 a0_5 l0_6) = some r:=H
     have A7:=Aside0.mk A70
     clear A70
     have H':=Aside0.mk H
     clear H
     have hcz8_0 : wr.cell? ⟨gb331,0,none⟩ = some (.int .i64 a0_0):=(blk_cell BK331.out 0).trans rfl
     have hcz8_1 : wr.cell? ⟨gb331,1,none⟩ = some (.int .i64 a0_1):=(blk_cell BK331.out 1).trans rfl
     have hcz8_2 : wr.cell? ⟨gb331,2,none⟩ = some (.int .i64 a0_2):=(blk_cell BK331.out 2).trans rfl
     have hcz8_3 : wr.cell? ⟨gb331,3,none⟩ = some (.slice A0_3 l0_3.length c0_3):=(blk_cell BK331.out 3).trans rfl
     have hcz8_4 : wr.cell? ⟨gb331,4,none⟩ = some (.int .i64 a0_4):=(blk_cell BK331.out 4).trans rfl
     have hcz8_5 : wr.cell? ⟨gb331,5,none⟩ = some (.int .i64 a0_5):=(blk_cell BK331.out 5).trans rfl
     have hcz8_6 : wr.cell? ⟨gb331,6,none⟩ = some (.slice A0_6 l0_6.length c0_6):=(blk_cell BK331.out 6).trans rfl
     have hfz8_0:=blk_frozen BK331.out 0
     have hfz8_1:=blk_frozen BK331.out 1
     have hfz8_2:=blk_frozen BK331.out 2
     have hfz8_3:=blk_frozen BK331.out 3
     have hfz8_4:=blk_frozen BK331.out 4
     have hfz8_5:=blk_frozen BK331.out 5
     have hfz8_6:=blk_frozen BK331.out 6
     go_wp2_with (first|(go_at_call 15;(with_reducible refine (spec_LsOk.calls k1 a0_0 a0_1 a0_2 _ _ l0_3 a0_4 a0_5 _ _ l0_6 t335 _ ?side1 ?side2 ?side3 ?side4 A7.out).mono ?_);(case side1 => repeat (first|exact (Kd.C_below HR0_3.out HB.out)|(with_reducible refine Kd.C_alloc ?_ _)|(with_reducible refine Kd.C_drewN ?_ _)|(with_reducible refine Kd.C_drew ?_)));(case side2 => exact HC0_3.out);(case side3 => repeat (first|exact (Kd.C_below HR0_6.out HB.out)|(with_reducible refine Kd.C_alloc ?_ _)|(with_reducible refine Kd.C_drewN ?_ _)|(with_reducible refine Kd.C_drew ?_)));(case side4 => exact HC0_6.out);rintro e w9 ⟨rfl,hb⟩;have n0_:=Aside0.mk (Kd.R_below (by (with_reducible repeat (first|apply Kd.R_alloc|apply Kd.R_drewN|apply Kd.R_drew));exact HO_3.out) hb);have n1_:=Aside0.mk (blk_below (g:=gb331) (o:=.cells #[.int .i64 a0_0,.int .i64 a0_1,.int .i64 a0_2,.slice A0_3 l0_3.length c0_3,.int .i64 a0_4,.int .i64 a0_5,.slice A0_6 l0_6.length c0_6] 30 (0,0)) (by (with_reducible repeat (first|refine blk_drewN ?_ _|refine blk_drew ?_|refine blk_alloc ?_ _));exact BK331.out) hb);have n2_:=Aside0.mk (below_step (by repeat (first|(with_reducible first|exact HB.out|apply below_alloc|apply pw_below_drewN|apply below_drew1|refine below_set ?_ GE331.out)|exact HB.out)) hb);clear HO_3;clear BK331;clear HB;have HO_3:=n0_;have BK331:=n1_;have HB:=n2_;clear n0_ n1_ n2_;(try clear hb);(try clear hb2);(try clear hk);(try clear hi)))
     go_meet
     case rel => exact ⟨_,(t335),(by first|rfl|(simp;done)|(simp [*];done)),H',⟨by have:=HK1.out;first|omega|exact Nat.le_refl _⟩,⟨by (with_reducible repeat (first|apply Kd.R_alloc|apply Kd.R_drewN|apply Kd.R_drew));exact HO_3.out⟩,⟨by (with_reducible repeat (first|refine blk_drewN ?_ _|refine blk_drew ?_|refine blk_alloc ?_ _));exact BK331.out⟩,⟨by repeat (first|(with_reducible first|exact HB.out|apply below_alloc|apply pw_below_drewN|apply below_drew1|refine below_set ?_ GE331.out)|exact HB.out)⟩⟩
    ·
     rw [if_neg c6] at H
     have c6b0 : decide (x4_1 < (l0_3.length : Int)) = false:=decide_eq_false c6
     clear c6
     (first|rw [c6b0]|(simp only [i64_w,i32_w];rw [c6b0])|rw [c6b2]|skip)
     have H':=Aside0.mk H
     clear H
     have hcz10_0 : wr.cell? ⟨gb331,0,none⟩ = some (.int .i64 a0_0):=(blk_cell BK331.out 0).trans rfl
     have hcz10_1 : wr.cell? ⟨gb331,1,none⟩ = some (.int .i64 a0_1):=(blk_cell BK331.out 1).trans rfl
     have hcz10_2 : wr.cell? ⟨gb331,2,none⟩ = some (.int .i64 a0_2):=(blk_cell BK331.out 2).trans rfl
     have hcz10_3 : wr.cell? ⟨gb331,3,none⟩ = some (.slice A0_3 l0_3.length c0_3):=(blk_cell BK331.out 3).trans rfl
     have hcz10_4 : wr.cell? ⟨gb331,4,none⟩ = some (.int .i64 a0_4):=(blk_cell BK331.out 4).trans rfl
     have hcz10_5 : wr.cell? ⟨gb331,5,none⟩ = some (.int .i64 a0_5):=(blk_cell BK331.out 5).trans rfl
     have hcz10_6 : wr.cell? ⟨gb331,6,none⟩ = some (.slice A0_6 l0_6.length c0_6):=(blk_cell BK331.out 6).trans rfl
     have hfz10_0:=blk_frozen BK331.out 0
     have hfz10_1:=blk_frozen BK331.out 1
     have hfz10_2:=blk_frozen BK331.out 2
     have hfz10_3:=blk_frozen BK331.out 3
     have hfz10_4:=blk_frozen BK331.out 4
     have hfz10_5:=blk_frozen BK331.out 5
     have hfz10_6:=blk_frozen BK331.out 6
     go_wp2
     go_meet
     case rel => exact ⟨_,(false),(by first|rfl|(simp;done)|(simp [*];done)),H',⟨by have:=HK1.out;first|omega|exact Nat.le_refl _⟩,⟨by (with_reducible repeat (first|apply Kd.R_alloc|apply Kd.R_drewN|apply Kd.R_drew));exact HO_3.out⟩,⟨by (with_reducible repeat (first|refine blk_drewN ?_ _|refine blk_drew ?_|refine blk_alloc ?_ _));exact BK331.out⟩,⟨by repeat (first|(with_reducible first|exact HB.out|apply below_alloc|apply pw_below_drewN|apply below_drew1|refine below_set ?_ GE331.out)|exact HB.out)⟩⟩
   case rest =>
    clear HC5
    try clear c2
    try clear p2
    try clear c6
    try clear c6b0
    try clear c6b2
    try clear hcz10_0
    try clear hcz10_1
    try clear hcz10_2
    try clear hcz10_3
    try clear hcz10_4
    try clear hcz10_5
    try clear hcz10_6
    try clear hcz8_0
    try clear hcz8_1
    try clear hcz8_2
    try clear hcz8_3
    try clear hcz8_4
    try clear hcz8_5
    try clear hcz8_6
    try clear hfz10_0
    try clear hfz10_1
    try clear hfz10_2
    try clear hfz10_3
    try clear hfz10_4
    try clear hfz10_5
    try clear hfz10_6
    try clear hfz8_0
    try clear hfz8_1
    try clear hfz8_2
    try clear hfz8_3
    try clear hfz8_4
    try clear hfz8_5
    try clear hfz8_6
    try clear p2
    obtain ⟨kq,x14_4,rfl,HA,HJ4,HO_3,BK331,HB⟩:=hcut
    cases kq with
    | zero => exact absurd HA.out (by simp [spec_LsHolders.j1])
    | succ kj4 =>
     have H:=HA.out
     clear HA
     simp only [spec_LsHolders.j1] at H
     by_cases c11 : x14_4 = true
     ·
      subst c11
      have H1 : ((spec_l18Has.f a0_0 a0_1 a0_2 l0_3 a0_4 a0_5 l0_6 x4_1).bind fun t336 => (if t336 = true then (if x3_1.length < 17592186044416 then (spec_LsHolders.l0 kj4 (x3_1 ++ [x4_1]) (wrap64 (x4_1 + 1)) a0_0 a0_1 a0_2 l0_3 a0_4 a0_5 l0_6) else (none)) else (spec_LsHolders.l0 kj4 x3_1 (wrap64 (x4_1 + 1)) a0_0 a0_1 a0_2 l0_3 a0_4 a0_5 l0_6))) = some r:=by rw [if_pos rfl] at H;exact H
      clear H
      have H:=H1
      clear H1
      replace H:=Option.bind_eq_some_iff.mp H
      obtain ⟨t336,A120,H⟩:=H
      replace H : (if t336 = true then (if x3_1.length < 17592186044416 then (spec_LsHolders.l0 kj4 (x3_1 ++ [x4_1]) (wrap64 (x4_1 + 1)) a0_0 a0_1 a0_2 l0_3 a0_4 a0_5 l0_6) else (none)) else (spec_LsHolders.l0 kj4 x3_1 (wrap64 (x4_1 + 1)) a0_0 a0_1 a0_2 l0_3 a0_4 a0_5 l0_6)) = some r:=H
      have A12:=Aside0.mk A120
      clear A120
      by_cases c13 : t336 = true
      ·
       subst c13
       have H1 : (if x3_1.length < 17592186044416 then (spec_LsHolders.l0 kj4 (x3_1 ++ [x4_1]) (wrap64 (x4_1 + 1)) a0_0 a0_1 a0_2 l0_3 a0_4 a0_5 l0_6) else (none)) = some r:=by rw [if_pos rfl] at H;exact H
       clear H
       have H:=H1
       clear H1
       by_cases c14 : x3_1.length < 17592186044416
       ·
        rw [if_pos c14] at H
        have LMc14:=Aside0.mk c14
        clear c14
        obtain ⟨y337,hy337⟩ : ∃ y_ : List Int,y_ = (x3_1 ++ [x4_1]):=⟨_,rfl⟩
        replace H : (spec_LsHolders.l0 kj4 y337 (wrap64 (x4_1 + 1)) a0_0 a0_1 a0_2 l0_3 a0_4 a0_5 l0_6) = some r:=by first|(rw [hy337];with_reducible exact H)|(have H2_:=(Option.bind_some _ _).symm.trans H;rw [hy337];with_reducible exact H2_)|(have H2_:=(Option.bind_some _ _).symm.trans H;with_reducible exact H2_)|with_reducible exact H|(rw [hy337];exact H)|exact H
        have Ny337:=Aside0.mk hy337
        clear hy337
        have H':=Aside0.mk H
        clear H
        have hcz15_0 : wc.cell? ⟨gb331,0,none⟩ = some (.int .i64 a0_0):=(blk_cell BK331.out 0).trans rfl
        have hcz15_1 : wc.cell? ⟨gb331,1,none⟩ = some (.int .i64 a0_1):=(blk_cell BK331.out 1).trans rfl
        have hcz15_2 : wc.cell? ⟨gb331,2,none⟩ = some (.int .i64 a0_2):=(blk_cell BK331.out 2).trans rfl
        have hcz15_3 : wc.cell? ⟨gb331,3,none⟩ = some (.slice A0_3 l0_3.length c0_3):=(blk_cell BK331.out 3).trans rfl
        have hcz15_4 : wc.cell? ⟨gb331,4,none⟩ = some (.int .i64 a0_4):=(blk_cell BK331.out 4).trans rfl
        have hcz15_5 : wc.cell? ⟨gb331,5,none⟩ = some (.int .i64 a0_5):=(blk_cell BK331.out 5).trans rfl
        have hcz15_6 : wc.cell? ⟨gb331,6,none⟩ = some (.slice A0_6 l0_6.length c0_6):=(blk_cell BK331.out 6).trans rfl
        have hfz15_0:=blk_frozen BK331.out 0
        have hfz15_1:=blk_frozen BK331.out 1
        have hfz15_2:=blk_frozen BK331.out 2
        have hfz15_3:=blk_frozen BK331.out 3
        have hfz15_4:=blk_frozen BK331.out 4
        have hfz15_5:=blk_frozen BK331.out 5
        have hfz15_6:=blk_frozen BK331.out 6
        go_wp2_with (first|((with_reducible refine gate_callee (f:=58) rfl ?_);refine goesL_ (some 19) rfl rfl Try.func58 (by kernel_rfl) rfl #[.agg #[.int .i64 a0_0,.int .i64 a0_1,.int .i64 a0_2,.slice A0_3 l0_3.length c0_3,.int .i64 a0_4,.int .i64 a0_5,.slice A0_6 l0_6.length c0_6],.int .i64 x4_1] rfl (by (try simp only [List.map_toArray,List.map_cons,List.map_nil]);first|done|rfl|(simp only [List.length_drop,List.length_take];rfl)) ?_;(with_reducible refine (spec_l18Has.calls a0_0 a0_1 a0_2 _ _ l0_3 a0_4 a0_5 _ _ l0_6 x4_1 true _ ?side1 ?side2 ?side3 ?side4 A12.out).mono ?_);(case side1 => repeat (first|exact (Kd.C_below HR0_3.out HB.out)|(with_reducible refine Kd.C_alloc ?_ _)|(with_reducible refine Kd.C_drewN ?_ _)|(with_reducible refine Kd.C_drew ?_)));(case side2 => exact HC0_3.out);(case side3 => repeat (first|exact (Kd.C_below HR0_6.out HB.out)|(with_reducible refine Kd.C_alloc ?_ _)|(with_reducible refine Kd.C_drewN ?_ _)|(with_reducible refine Kd.C_drew ?_)));(case side4 => exact HC0_6.out);rintro e w16 ⟨rfl,hb⟩;refine ⟨_,rfl,?_⟩;have n0_:=Aside0.mk (Kd.R_below (by (with_reducible repeat (first|apply Kd.R_alloc|apply Kd.R_drewN|apply Kd.R_drew));exact HO_3.out) hb);have n1_:=Aside0.mk (blk_below (g:=gb331) (o:=.cells #[.int .i64 a0_0,.int .i64 a0_1,.int .i64 a0_2,.slice A0_3 l0_3.length c0_3,.int .i64 a0_4,.int .i64 a0_5,.slice A0_6 l0_6.length c0_6] 30 (0,0)) (by (with_reducible repeat (first|refine blk_drewN ?_ _|refine blk_drew ?_|refine blk_alloc ?_ _));exact BK331.out) hb);have n2_:=Aside0.mk (below_step (by repeat (first|(with_reducible first|exact HB.out|apply below_alloc|apply pw_below_drewN|apply below_drew1|refine below_set ?_ GE331.out)|exact HB.out)) hb);clear HO_3;clear BK331;clear HB;have HO_3:=n0_;have BK331:=n1_;have HB:=n2_;clear n0_ n1_ n2_;(try clear hb);(try clear hb2);(try clear hk);(try clear hi))|((with_reducible refine gate_builtin (b:=.append) (xs:=#[.tmp 20,.tmp 22]) rfl ?_);at_builtin;refine Kd.R_append (Kd.int .i64) (w0:=w) w.heap.size rfl (.tmp 20) (.tmp 22) 22 3 (.int .i64 0) 8 rfl Try.underlying22 info3 rfl (by decide) (by omega) u3 x3_1 x4_1 [.int .i64 x4_1] (fun _ => True) (fun _ => False) rfl rfl ?aP (fun _ hk => hk.elim) ?aF ?aO ?aB ?aS ?aL ?_;(case aP => exact rfl);(case aB => exact (by repeat (first|(with_reducible first|exact HB.out|apply below_alloc|apply pw_below_drewN|apply below_drew1|refine below_set ?_ GE331.out)|exact HB.out)));(case aF => exact (fun _ _ => trivial));(case aO => exact (by (with_reducible repeat (first|apply Kd.R_alloc|apply Kd.R_drewN|apply Kd.R_drew));exact HO_3.out));(case aS => exact (below_size (by repeat (first|(with_reducible first|exact HB.out|apply below_alloc|apply pw_below_drewN|apply below_drew1|refine below_set ?_ GE331.out)|exact HB.out))));(case aL => have:=LMc14.out;omega);intro v338 w17 ho hb hg hat;rw [← Ny337.out] at ho;have n0_:=Aside0.mk (blk_grown (g:=gb331) (o:=.cells #[.int .i64 a0_0,.int .i64 a0_1,.int .i64 a0_2,.slice A0_3 l0_3.length c0_3,.int .i64 a0_4,.int .i64 a0_5,.slice A0_6 l0_6.length c0_6] 30 (0,0)) (by (with_reducible repeat (first|refine blk_drewN ?_ _|refine blk_drew ?_|refine blk_alloc ?_ _));exact BK331.out) hg (Kd.R_ne HO_3.out BK331.out (by decide)));have n1_:=Aside0.mk (hb);have n2_:=Aside0.mk (ho);clear BK331;clear HB;clear HO_3;have BK331:=n0_;have HB:=n1_;have HO339:=n2_;clear n0_ n1_ n2_;clear ho hb hg hat))
        go_roundg kj4
        case measure => have:=HK1.out;have:=HJ4.out;omega
        case rel => exact ⟨(y337),(wrap64 (x4_1 + 1)),(by first|rfl|(simp;done)|(simp [*];done)),H',⟨by have:=HK1.out;have:=HJ4.out;omega⟩,⟨by (with_reducible repeat (first|apply Kd.R_alloc|apply Kd.R_drewN|apply Kd.R_drew));exact HO339.out⟩,⟨by (with_reducible repeat (first|refine blk_drewN ?_ _|refine blk_drew ?_|refine blk_alloc ?_ _));exact BK331.out⟩,⟨by repeat (first|(with_reducible first|exact HB.out|apply below_alloc|apply pw_below_drewN|apply below_drew1|refine below_set ?_ GE331.out)|exact HB.out)⟩⟩
       ·
        rw [if_neg c14] at H
        exact absurd H (by simp)
      ·
       replace c13:=Bool.eq_false_iff.mpr c13
       subst c13
       have H1 : (spec_LsHolders.l0 kj4 x3_1 (wrap64 (x4_1 + 1)) a0_0 a0_1 a0_2 l0_3 a0_4 a0_5 l0_6) = some r:=by rw [if_neg (show ¬ (false = true) by decide)] at H;exact H
       clear H
       have H:=H1
       clear H1
       have H':=Aside0.mk H
       clear H
       have hcz18_0 : wc.cell? ⟨gb331,0,none⟩ = some (.int .i64 a0_0):=(blk_cell BK331.out 0).trans rfl
       have hcz18_1 : wc.cell? ⟨gb331,1,none⟩ = some (.int .i64 a0_1):=(blk_cell BK331.out 1).trans rfl
       have hcz18_2 : wc.cell? ⟨gb331,2,none⟩ = some (.int .i64 a0_2):=(blk_cell BK331.out 2).trans rfl
       have hcz18_3 : wc.cell? ⟨gb331,3,none⟩ = some (.slice A0_3 l0_3.length c0_3):=(blk_cell BK331.out 3).trans rfl
       have hcz18_4 : wc.cell? ⟨gb331,4,none⟩ = some (.int .i64 a0_4):=(blk_cell BK331.out 4).trans rfl
       have hcz18_5 : wc.cell? ⟨gb331,5,none⟩ = some (.int .i64 a0_5):=(blk_cell BK331.out 5).trans rfl
       have hcz18_6 : wc.cell? ⟨gb331,6,none⟩ = some (.slice A0_6 l0_6.length c0_6):=(blk_cell BK331.out 6).trans rfl
       have hfz18_0:=blk_frozen BK331.out 0
       have hfz18_1:=blk_frozen BK331.out 1
       have hfz18_2:=blk_frozen BK331.out 2
       have hfz18_3:=blk_frozen BK331.out 3
       have hfz18_4:=blk_frozen BK331.out 4
       have hfz18_5:=blk_frozen BK331.out 5
       have hfz18_6:=blk_frozen BK331.out 6
       go_wp2_with (first|((with_reducible refine gate_callee (f:=58) rfl ?_);refine goesL_ (some 19) rfl rfl Try.func58 (by kernel_rfl) rfl #[.agg #[.int .i64 a0_0,.int .i64 a0_1,.int .i64 a0_2,.slice A0_3 l0_3.length c0_3,.int .i64 a0_4,.int .i64 a0_5,.slice A0_6 l0_6.length c0_6],.int .i64 x4_1] rfl (by (try simp only [List.map_toArray,List.map_cons,List.map_nil]);first|done|rfl|(simp only [List.length_drop,List.length_take];rfl)) ?_;(with_reducible refine (spec_l18Has.calls a0_0 a0_1 a0_2 _ _ l0_3 a0_4 a0_5 _ _ l0_6 x4_1 false _ ?side1 ?side2 ?side3 ?side4 A12.out).mono ?_);(case side1 => repeat (first|exact (Kd.C_below HR0_3.out HB.out)|(with_reducible refine Kd.C_alloc ?_ _)|(with_reducible refine Kd.C_drewN ?_ _)|(with_reducible refine Kd.C_drew ?_)));(case side2 => exact HC0_3.out);(case side3 => repeat (first|exact (Kd.C_below HR0_6.out HB.out)|(with_reducible refine Kd.C_alloc ?_ _)|(with_reducible refine Kd.C_drewN ?_ _)|(with_reducible refine Kd.C_drew ?_)));(case side4 => exact HC0_6.out);rintro e w19 ⟨rfl,hb⟩;refine ⟨_,rfl,?_⟩;have n0_:=Aside0.mk (Kd.R_below (by (with_reducible repeat (first|apply Kd.R_alloc|apply Kd.R_drewN|apply Kd.R_drew));exact HO_3.out) hb);have n1_:=Aside0.mk (blk_below (g:=gb331) (o:=.cells #[.int .i64 a0_0,.int .i64 a0_1,.int .i64 a0_2,.slice A0_3 l0_3.length c0_3,.int .i64 a0_4,.int .i64 a0_5,.slice A0_6 l0_6.length c0_6] 30 (0,0)) (by (with_reducible repeat (first|refine blk_drewN ?_ _|refine blk_drew ?_|refine blk_alloc ?_ _));exact BK331.out) hb);have n2_:=Aside0.mk (below_step (by repeat (first|(with_reducible first|exact HB.out|apply below_alloc|apply pw_below_drewN|apply below_drew1|refine below_set ?_ GE331.out)|exact HB.out)) hb);clear HO_3;clear BK331;clear HB;have HO_3:=n0_;have BK331:=n1_;have HB:=n2_;clear n0_ n1_ n2_;(try clear hb);(try clear hb2);(try clear hk);(try clear hi)))
       go_roundg kj4
       case measure => have:=HK1.out;have:=HJ4.out;omega
       case rel => exact ⟨(x3_1),(wrap64 (x4_1 + 1)),(by first|rfl|(simp;done)|(simp [*];done)),H',⟨by have:=HK1.out;have:=HJ4.out;omega⟩,⟨by (with_reducible repeat (first|apply Kd.R_alloc|apply Kd.R_drewN|apply Kd.R_drew));exact HO_3.out⟩,⟨by (with_reducible repeat (first|refine blk_drewN ?_ _|refine blk_drew ?_|refine blk_alloc ?_ _));exact BK331.out⟩,⟨by repeat (first|(with_reducible first|exact HB.out|apply below_alloc|apply pw_below_drewN|apply below_drew1|refine below_set ?_ GE331.out)|exact HB.out)⟩⟩
     ·
      replace c11:=Bool.eq_false_iff.mpr c11
      subst c11
      have H1 : (some x3_1) = some r:=by rw [if_neg (show ¬ (false = true) by decide)] at H;exact H
      clear H
      have H:=H1
      clear H1
      obtain rfl:=Option.some.inj H
      go_wp2
      go_ret
      exact ⟨_,by first|rfl|(simp [errW_none,errW_some] <;> rfl)|(simp [*,errW_none,errW_some] <;> rfl),by (with_reducible repeat (first|apply Kd.R_alloc|apply Kd.R_drewN|apply Kd.R_drew));exact HO_3.out,by repeat (first|(with_reducible first|exact HB.out|apply below_alloc|apply pw_below_drewN|apply below_drew1|refine below_set ?_ GE331.out)|exact HB.out)⟩
def impl_Ls_holds.f (a0_0 : Int) (a0_1 : Int) (a0_2 : Int) (l0_3 : List Int) (a0_4 : Int) (a0_5 : Int) (l0_6 : List (S50)) (a1 : Int) : Option (Bool):=if 0 ≤ a1 then (if a1 < (l0_6.length : Int) then (if (rd_T50 l0_6 a1).f0 = true then ((impl_Ls_clock.f a0_0 a0_1 a0_2 l0_3 a0_4 a0_5 l0_6 a1).bind fun t342 => (some (decide ((wrap64 (t342 - ((rd_T50 l0_6 a1).f1))) < a0_0)))) else (some false)) else (none)) else (none)
set_option maxHeartbeats 8000000 in
set_option maxRecDepth 100000 in
theorem impl_Ls_holds.calls (gq0 : Nat) (a0_0 : Int) (a0_1 : Int) (a0_2 : Int) (A0_3 : Option Addr) (c0_3 : Nat) (l0_3 : List Int) (a0_4 : Int) (a0_5 : Int) (A0_6 : Option Addr) (c0_6 : Nat) (l0_6 : List (S50)) (a1 : Int) (r : Bool) (w : World) (hb0_ : w.heap[gq0]? = some (.cells #[.int .i64 a0_0,.int .i64 a0_1,.int .i64 a0_2,.slice A0_3 l0_3.length c0_3,.int .i64 a0_4,.int .i64 a0_5,.slice A0_6 l0_6.length c0_6] 30 (0,0))) (hr0_3 : Kd.C (Kd.int .i64) w A0_3 l0_3.length l0_3) (hc0_3 : l0_3.length ≤ c0_3) (hr0_6 : Kd.C k50 w A0_6 l0_6.length l0_6) (hc0_6 : l0_6.length ≤ c0_6) (h : impl_Ls_holds.f a0_0 a0_1 a0_2 l0_3 a0_4 a0_5 l0_6 a1 = some r) :
  Calls Try.prog 59 #[.pointer (some ⟨gq0,0,none⟩),.int .i64 a1] w fun e w' => e = .returned (.bool r) ∧ Below w.heap.size w w':=by
 have hu50:=Try.underlying50
 have HR0_3:=Aside0.mk hr0_3
 have HC0_3:=Aside0.mk hc0_3
 clear hr0_3 hc0_3
 have HR0_6:=Aside0.mk hr0_6
 have HC0_6:=Aside0.mk hc0_6
 clear hr0_6 hc0_6
 have BK0:=Aside0.mk hb0_
 clear hb0_
 have HB:=Aside0.mk (Below.refl w.heap.size w)
 have H : (if 0 ≤ a1 then (if a1 < (l0_6.length : Int) then (if (rd_T50 l0_6 a1).f0 = true then ((impl_Ls_clock.f a0_0 a0_1 a0_2 l0_3 a0_4 a0_5 l0_6 a1).bind fun t342 => (some (decide ((wrap64 (t342 - ((rd_T50 l0_6 a1).f1))) < a0_0)))) else (some false)) else (none)) else (none)) = some r:=h
 clear h
 by_cases c3 : 0 ≤ a1
 ·
  rw [if_pos c3] at H
  have c3b0 : decide (0 ≤ a1) = true:=decide_eq_true c3
  clear c3
  by_cases c4 : a1 < (l0_6.length : Int)
  ·
   rw [if_pos c4] at H
   have c4b0 : decide (a1 < (l0_6.length : Int)) = true:=decide_eq_true c4
   clear c4
   obtain ⟨bq5,hbq5⟩ : ∃ b_ : Bool,b_ = ((rd_T50 l0_6 a1).f0):=⟨_,rfl⟩
   replace H : (if bq5 = true then ((impl_Ls_clock.f a0_0 a0_1 a0_2 l0_3 a0_4 a0_5 l0_6 a1).bind fun t342 => (some (decide ((wrap64 (t342 - ((rd_T50 l0_6 a1).f1))) < a0_0)))) else (some false)) = some r:=by rw [← hbq5] at H;exact H
   have Nbq5:=Aside0.mk hbq5
   clear hbq5
   by_cases c6 : bq5 = true
   ·
    subst c6
    have H1 : ((impl_Ls_clock.f a0_0 a0_1 a0_2 l0_3 a0_4 a0_5 l0_6 a1).bind fun t342 => (some (decide ((wrap64 (t342 - ((rd_T50 l0_6 a1).f1))) < a0_0)))) = some r:=by rw [if_pos rfl] at H;exact H
    clear H
    have H:=H1
    clear H1
    replace H:=Option.bind_eq_some_iff.mp H
    obtain ⟨t342,A70,H⟩:=H
    replace H : (some (decide ((wrap64 (t342 - ((rd_T50 l0_6 a1).f1))) < a0_0))) = some r:=H
    have A7:=Aside0.mk A70
    clear A70
    obtain rfl:=Option.some.inj H
    have hcz8_0 : w.cell? ⟨gq0,0,none⟩ = some (.int .i64 a0_0):=(blk_cell BK0.out 0).trans rfl
    have hcz8_1 : w.cell? ⟨gq0,1,none⟩ = some (.int .i64 a0_1):=(blk_cell BK0.out 1).trans rfl
    have hcz8_2 : w.cell? ⟨gq0,2,none⟩ = some (.int .i64 a0_2):=(blk_cell BK0.out 2).trans rfl
    have hcz8_3 : w.cell? ⟨gq0,3,none⟩ = some (.slice A0_3 l0_3.length c0_3):=(blk_cell BK0.out 3).trans rfl
    have hcz8_4 : w.cell? ⟨gq0,4,none⟩ = some (.int .i64 a0_4):=(blk_cell BK0.out 4).trans rfl
    have hcz8_5 : w.cell? ⟨gq0,5,none⟩ = some (.int .i64 a0_5):=(blk_cell BK0.out 5).trans rfl
    have hcz8_6 : w.cell? ⟨gq0,6,none⟩ = some (.slice A0_6 l0_6.length c0_6):=(blk_cell BK0.out 6).trans rfl
    have hfz8_0:=blk_frozen BK0.out 0
    have hfz8_1:=blk_frozen BK0.out 1
    have hfz8_2:=blk_frozen BK0.out 2
    have hfz8_3:=blk_frozen BK0.out 3
    have hfz8_4:=blk_frozen BK0.out 4
    have hfz8_5:=blk_frozen BK0.out 5
    have hfz8_6:=blk_frozen BK0.out 6
    have p340 : 0 ≤ (a1 : Int):=of_decide_eq_true (by first|(with_reducible assumption)|assumption)
    have q340 : a1 < (l0_6.length : Int):=of_decide_eq_true (by first|(with_reducible assumption)|assumption)
    obtain ⟨ad340,e340,hx340_0,hx340_1,hx340_2,hx340_3,hx340_4,hx340_5⟩:=at_T50 HR0_6.out a1 p340 q340
    (try rw [← Nbq5.out] at hx340_0)
    (try rw [← Nbq5.out] at hx340_2)
    cases e340
    replace p340:=eq_true p340
    replace q340:=eq_true q340
    go_enter Try.func59,Try.ntmps59
    try go_wp2_with (first|((with_reducible refine gate_dst (N:=5) rfl ?_);refine box_event ?hg (N:=5) ?hd (cs:=#[.bool false,.int .i64 0,.bool false,.int .i64 0,.int .i64 0,.int .i64 0]) (t:=50) ?hr ?_;(case hd => rfl);(case hg => rfl);(case hr => first|(go_simp;done)|(go_simp;rfl));intro gb341 hg w9 hbox hb;have n0_:=Aside0.mk (blk_below (g:=gq0) (o:=.cells #[.int .i64 a0_0,.int .i64 a0_1,.int .i64 a0_2,.slice A0_3 l0_3.length c0_3,.int .i64 a0_4,.int .i64 a0_5,.slice (some ad340) l0_6.length c0_6] 30 (0,0)) (by (with_reducible repeat (first|refine blk_drewN ?_ _|refine blk_drew ?_|refine blk_alloc ?_ _));exact BK0.out) hb);have n1_:=Aside0.mk (below_step (by repeat (first|(with_reducible first|exact HB.out|apply below_alloc|apply pw_below_drewN|apply below_drew1|refine below_set ?_ GE0.out)|exact HB.out)) hb);have n2_:=Aside0.mk (hbox);have n3_:=Aside0.mk ((by rw [hg];exact (below_size (by repeat (first|(with_reducible first|exact HB.out|apply below_alloc|apply pw_below_drewN|apply below_drew1|refine below_set ?_ GE0.out)|exact HB.out))) : w.heap.size ≤ gb341));have n4_:=Aside0.mk ((by rw [hg];exact (below_size (by repeat (first|(with_reducible first|exact HB.out|apply below_alloc|apply pw_below_drewN|apply below_drew1|refine below_set ?_ GE0.out)|exact HB.out))) : w.heap.size ≤ gb341));have n5_:=Aside0.mk ((by rw [hg];exact Nat.ne_of_lt (blk_lt (g:=gq0) (o:=.cells #[.int .i64 a0_0,.int .i64 a0_1,.int .i64 a0_2,.slice A0_3 l0_3.length c0_3,.int .i64 a0_4,.int .i64 a0_5,.slice (some ad340) l0_6.length c0_6] 30 (0,0)) (by (with_reducible repeat (first|refine blk_drewN ?_ _|refine blk_drew ?_|refine blk_alloc ?_ _));exact BK0.out)) : gq0 ≠ gb341));have n6_:=Aside0.mk ((by rw [hg];exact Nat.ne_of_gt (blk_lt (g:=gq0) (o:=.cells #[.int .i64 a0_0,.int .i64 a0_1,.int .i64 a0_2,.slice A0_3 l0_3.length c0_3,.int .i64 a0_4,.int .i64 a0_5,.slice (some ad340) l0_6.length c0_6] 30 (0,0)) (by (with_reducible repeat (first|refine blk_drewN ?_ _|refine blk_drew ?_|refine blk_alloc ?_ _));exact BK0.out)) : gb341 ≠ gq0));clear BK0;clear HB;have BK0:=n0_;have HB:=n1_;have BK341:=n2_;have GW341:=n3_;have GE341:=n4_;have NB0_341:=n5_;have NB341_0:=n6_;clear n0_ n1_ n2_ n3_ n4_ n5_ n6_;clear hb hbox hg;have hnb10:=NB341_0.out;have hnc10:=NB0_341.out;have hcz11_0 : w9.cell? ⟨gb341,0,none⟩ = some (.bool false):=(blk_cell BK341.out 0).trans rfl;have hcz11_1 : w9.cell? ⟨gb341,1,none⟩ = some (.int .i64 0):=(blk_cell BK341.out 1).trans rfl;have hcz11_2 : w9.cell? ⟨gb341,2,none⟩ = some (.bool false):=(blk_cell BK341.out 2).trans rfl;have hcz11_3 : w9.cell? ⟨gb341,3,none⟩ = some (.int .i64 0):=(blk_cell BK341.out 3).trans rfl;have hcz11_4 : w9.cell? ⟨gb341,4,none⟩ = some (.int .i64 0):=(blk_cell BK341.out 4).trans rfl;have hcz11_5 : w9.cell? ⟨gb341,5,none⟩ = some (.int .i64 0):=(blk_cell BK341.out 5).trans rfl;have hfz11_0:=blk_frozen BK341.out 0;have hfz11_1:=blk_frozen BK341.out 1;have hfz11_2:=blk_frozen BK341.out 2;have hfz11_3:=blk_frozen BK341.out 3;have hfz11_4:=blk_frozen BK341.out 4;have hfz11_5:=blk_frozen BK341.out 5))
    have n0_ : Aside0 (((((((w9.setCell ⟨gb341,0,none⟩ (.bool true)).setCell ⟨gb341,1,none⟩ (.int .i64 ((rd_T50 l0_6 a1).f1))).setCell ⟨gb341,2,none⟩ (.bool ((rd_T50 l0_6 a1).f2))).setCell ⟨gb341,3,none⟩ (.int .i64 ((rd_T50 l0_6 a1).f3))).setCell ⟨gb341,4,none⟩ (.int .i64 ((rd_T50 l0_6 a1).f4))).setCell ⟨gb341,5,none⟩ (.int .i64 ((rd_T50 l0_6 a1).f5))).heap[gq0]? = some (.cells #[.int .i64 a0_0,.int .i64 a0_1,.int .i64 a0_2,.slice A0_3 l0_3.length c0_3,.int .i64 a0_4,.int .i64 a0_5,.slice (some ad340) l0_6.length c0_6] 30 (0,0))):=⟨by (with_reducible repeat (first|refine blk_drewN ?_ _|refine blk_drew ?_|refine blk_alloc ?_ _));refine blk_far ?_ NB0_341.out _;(with_reducible repeat (first|refine blk_drewN ?_ _|refine blk_drew ?_|refine blk_alloc ?_ _));refine blk_far ?_ NB0_341.out _;(with_reducible repeat (first|refine blk_drewN ?_ _|refine blk_drew ?_|refine blk_alloc ?_ _));refine blk_far ?_ NB0_341.out _;(with_reducible repeat (first|refine blk_drewN ?_ _|refine blk_drew ?_|refine blk_alloc ?_ _));refine blk_far ?_ NB0_341.out _;(with_reducible repeat (first|refine blk_drewN ?_ _|refine blk_drew ?_|refine blk_alloc ?_ _));refine blk_far ?_ NB0_341.out _;(with_reducible repeat (first|refine blk_drewN ?_ _|refine blk_drew ?_|refine blk_alloc ?_ _));refine blk_far ?_ NB0_341.out _;(with_reducible repeat (first|refine blk_drewN ?_ _|refine blk_drew ?_|refine blk_alloc ?_ _));exact BK0.out⟩
    have n1_ : Aside0 (((((((w9.setCell ⟨gb341,0,none⟩ (.bool true)).setCell ⟨gb341,1,none⟩ (.int .i64 ((rd_T50 l0_6 a1).f1))).setCell ⟨gb341,2,none⟩ (.bool ((rd_T50 l0_6 a1).f2))).setCell ⟨gb341,3,none⟩ (.int .i64 ((rd_T50 l0_6 a1).f3))).setCell ⟨gb341,4,none⟩ (.int .i64 ((rd_T50 l0_6 a1).f4))).setCell ⟨gb341,5,none⟩ (.int .i64 ((rd_T50 l0_6 a1).f5))).heap[gb341]? = some (.cells #[.bool true,.int .i64 ((rd_T50 l0_6 a1).f1),.bool ((rd_T50 l0_6 a1).f2),.int .i64 ((rd_T50 l0_6 a1).f3),.int .i64 ((rd_T50 l0_6 a1).f4),.int .i64 ((rd_T50 l0_6 a1).f5)] 50 (0,0))):=⟨by (with_reducible repeat (first|refine blk_drewN ?_ _|refine blk_drew ?_|refine blk_alloc ?_ _));refine blk_put (cs:=#[.bool true,.int .i64 ((rd_T50 l0_6 a1).f1),.bool ((rd_T50 l0_6 a1).f2),.int .i64 ((rd_T50 l0_6 a1).f3),.int .i64 ((rd_T50 l0_6 a1).f4),.int .i64 0]) ?_ 5 _ rfl;(with_reducible repeat (first|refine blk_drewN ?_ _|refine blk_drew ?_|refine blk_alloc ?_ _));refine blk_put (cs:=#[.bool true,.int .i64 ((rd_T50 l0_6 a1).f1),.bool ((rd_T50 l0_6 a1).f2),.int .i64 ((rd_T50 l0_6 a1).f3),.int .i64 0,.int .i64 0]) ?_ 4 _ rfl;(with_reducible repeat (first|refine blk_drewN ?_ _|refine blk_drew ?_|refine blk_alloc ?_ _));refine blk_put (cs:=#[.bool true,.int .i64 ((rd_T50 l0_6 a1).f1),.bool ((rd_T50 l0_6 a1).f2),.int .i64 0,.int .i64 0,.int .i64 0]) ?_ 3 _ rfl;(with_reducible repeat (first|refine blk_drewN ?_ _|refine blk_drew ?_|refine blk_alloc ?_ _));refine blk_put (cs:=#[.bool true,.int .i64 ((rd_T50 l0_6 a1).f1),.bool false,.int .i64 0,.int .i64 0,.int .i64 0]) ?_ 2 _ rfl;(with_reducible repeat (first|refine blk_drewN ?_ _|refine blk_drew ?_|refine blk_alloc ?_ _));refine blk_put (cs:=#[.bool true,.int .i64 0,.bool false,.int .i64 0,.int .i64 0,.int .i64 0]) ?_ 1 _ rfl;(with_reducible repeat (first|refine blk_drewN ?_ _|refine blk_drew ?_|refine blk_alloc ?_ _));refine blk_put (cs:=#[.bool false,.int .i64 0,.bool false,.int .i64 0,.int .i64 0,.int .i64 0]) ?_ 0 _ rfl;(with_reducible repeat (first|refine blk_drewN ?_ _|refine blk_drew ?_|refine blk_alloc ?_ _));exact BK341.out⟩
    have n2_ : Aside0 (Below w.heap.size w ((((((w9.setCell ⟨gb341,0,none⟩ (.bool true)).setCell ⟨gb341,1,none⟩ (.int .i64 ((rd_T50 l0_6 a1).f1))).setCell ⟨gb341,2,none⟩ (.bool ((rd_T50 l0_6 a1).f2))).setCell ⟨gb341,3,none⟩ (.int .i64 ((rd_T50 l0_6 a1).f3))).setCell ⟨gb341,4,none⟩ (.int .i64 ((rd_T50 l0_6 a1).f4))).setCell ⟨gb341,5,none⟩ (.int .i64 ((rd_T50 l0_6 a1).f5)))):=⟨by repeat (first|(with_reducible first|exact HB.out|apply below_alloc|apply pw_below_drewN|apply below_drew1|refine below_set ?_ GE0.out|refine below_set ?_ GE341.out)|exact HB.out)⟩
    (try clear BK0)
    (try clear BK341)
    (try clear HB)
    generalize ((((((w9.setCell ⟨gb341,0,none⟩ (.bool true)).setCell ⟨gb341,1,none⟩ (.int .i64 ((rd_T50 l0_6 a1).f1))).setCell ⟨gb341,2,none⟩ (.bool ((rd_T50 l0_6 a1).f2))).setCell ⟨gb341,3,none⟩ (.int .i64 ((rd_T50 l0_6 a1).f3))).setCell ⟨gb341,4,none⟩ (.int .i64 ((rd_T50 l0_6 a1).f4))).setCell ⟨gb341,5,none⟩ (.int .i64 ((rd_T50 l0_6 a1).f5))) = w12 at n0_ n1_ n2_ ⊢
    have BK0:=n0_
    have BK341:=n1_
    have HB:=n2_
    clear n0_ n1_ n2_
    have n0_:=Aside0.mk (blk_drew BK0.out)
    have n1_:=Aside0.mk (blk_drew BK341.out)
    have n2_:=Aside0.mk (below_drew1 HB.out)
    clear BK0
    clear BK341
    clear HB
    have BK0:=n0_
    have BK341:=n1_
    have HB:=n2_
    clear n0_ n1_ n2_
    refine start_ (n:=16) (S:=fun w' => w'.cell? ⟨gb341,0,none⟩ = some (.bool true) ∧ w'.cell? ⟨gb341,1,none⟩ = some (.int .i64 ((rd_T50 l0_6 a1).f1)) ∧ w'.cell? ⟨gb341,2,none⟩ = some (.bool ((rd_T50 l0_6 a1).f2)) ∧ w'.cell? ⟨gb341,3,none⟩ = some (.int .i64 ((rd_T50 l0_6 a1).f3)) ∧ w'.cell? ⟨gb341,4,none⟩ = some (.int .i64 ((rd_T50 l0_6 a1).f4)) ∧ w'.cell? ⟨gb341,5,none⟩ = some (.int .i64 ((rd_T50 l0_6 a1).f5)) ∧ w'.cell? ⟨gq0,0,none⟩ = some (.int .i64 a0_0) ∧ w'.cell? ⟨gq0,1,none⟩ = some (.int .i64 a0_1) ∧ w'.cell? ⟨gq0,2,none⟩ = some (.int .i64 a0_2) ∧ w'.cell? ⟨gq0,3,none⟩ = some (.slice A0_3 l0_3.length c0_3) ∧ w'.cell? ⟨gq0,4,none⟩ = some (.int .i64 a0_4) ∧ w'.cell? ⟨gq0,5,none⟩ = some (.int .i64 a0_5) ∧ w'.cell? ⟨gq0,6,none⟩ = some (.slice (some ad340) l0_6.length c0_6)) (ds:=[]) #[F,F,F,F,F,F,F,F,F,F,F,F,F,F,F,F] (by kernel_rfl) rfl rfl ⟨(blk_cell BK341.out 0).trans rfl,(blk_cell BK341.out 1).trans rfl,(blk_cell BK341.out 2).trans rfl,(blk_cell BK341.out 3).trans rfl,(blk_cell BK341.out 4).trans rfl,(blk_cell BK341.out 5).trans rfl,(blk_cell BK0.out 0).trans rfl,(blk_cell BK0.out 1).trans rfl,(blk_cell BK0.out 2).trans rfl,(blk_cell BK0.out 3).trans rfl,(blk_cell BK0.out 4).trans rfl,(blk_cell BK0.out 5).trans rfl,(blk_cell BK0.out 6).trans rfl⟩ (fun hHeld => ?_)
    generalize w12.drew = w13 at BK0 BK341 HB hHeld ⊢
    refine pure_ (i:=0) (N:=some 13) (v:=?_) (a':=?_) #[T,F,F,F,F,F,F,F,F,F,F,F,F,F,F,F] rfl rfl (by kernel_rfl) (fun _ _ _ h => h) (Or.inl ⟨by rfl,?_⟩) ?_ ?_
    rotate_left
    ·
     intro w'
     go_simp
     with_reducible rfl
    rotate_left
    ·
     simp only [Act.put,List.setIfInBounds_toArray,List.set_cons_zero,List.set_cons_succ,i64_w,i32_w]
     rfl
    refine take_ (i:=1) (N:=some 14) (v:=?_) (a':=?_) #[T,T,F,F,F,F,F,F,F,F,F,F,F,F,F,F] rfl rfl (by kernel_rfl) (fun _ _ _ h => h) (Or.inl ⟨by rfl,?_⟩) hHeld ?_ ?_
    rotate_left
    ·
     rintro w' ⟨s0,s1,s2,s3,s4,s5,s6,s7,s8,s9,s10,s11,s12⟩
     go_simp
     with_reducible rfl
    rotate_left
    ·
     simp only [Act.put,List.setIfInBounds_toArray,List.set_cons_zero,List.set_cons_succ,i64_w,i32_w]
     rfl
    refine pure_ (i:=2) (N:=some 15) (v:=?_) (a':=?_) #[T,T,T,F,F,F,F,F,F,F,F,F,F,F,F,F] rfl rfl (by kernel_rfl) (fun _ _ _ h => h) (Or.inl ⟨by rfl,?_⟩) ?_ ?_
    rotate_left
    ·
     intro w'
     go_simp
     with_reducible rfl
    rotate_left
    ·
     simp only [Act.put,List.setIfInBounds_toArray,List.set_cons_zero,List.set_cons_succ,i64_w,i32_w]
     rfl
    refine pure_ (i:=3) (N:=some 16) (v:=?_) (a':=?_) #[T,T,T,T,F,F,F,F,F,F,F,F,F,F,F,F] rfl rfl (by kernel_rfl) (fun _ _ _ h => h) (Or.inl ⟨by rfl,?_⟩) ?_ ?_
    rotate_left
    ·
     intro w'
     go_simp
     with_reducible rfl
    rotate_left
    ·
     simp only [Act.put,List.setIfInBounds_toArray,List.set_cons_zero,List.set_cons_succ,i64_w,i32_w]
     rfl
    refine pure_ (i:=4) (N:=some 17) (v:=?_) (a':=?_) #[T,T,T,T,T,F,F,F,F,F,F,F,F,F,F,F] rfl rfl (by kernel_rfl) (fun _ _ _ h => h) (Or.inl ⟨by rfl,?_⟩) ?_ ?_
    rotate_left
    ·
     intro w'
     go_simp
     with_reducible rfl
    rotate_left
    ·
     simp only [Act.put,List.setIfInBounds_toArray,List.set_cons_zero,List.set_cons_succ,i64_w,i32_w]
     rfl
    refine pure_ (i:=6) (N:=some 19) (v:=?_) (a':=?_) #[T,T,T,T,T,F,T,F,F,F,F,F,F,F,F,F] rfl rfl (by kernel_rfl) (fun _ _ _ h => h) (Or.inl ⟨by rfl,?_⟩) ?_ ?_
    rotate_left
    ·
     intro w'
     go_simp
     with_reducible rfl
    rotate_left
    ·
     simp only [Act.put,List.setIfInBounds_toArray,List.set_cons_zero,List.set_cons_succ,i64_w,i32_w]
     rfl
    refine pure_ (i:=9) (N:=some 22) (v:=?_) (a':=?_) #[T,T,T,T,T,F,T,F,F,T,F,F,F,F,F,F] rfl rfl (by kernel_rfl) (fun _ _ _ h => h) (Or.inl ⟨by rfl,?_⟩) ?_ ?_
    rotate_left
    ·
     intro w'
     go_simp
     with_reducible rfl
    rotate_left
    ·
     simp only [Act.put,List.setIfInBounds_toArray,List.set_cons_zero,List.set_cons_succ,i64_w,i32_w]
     rfl
    refine pure_ (i:=10) (N:=some 23) (v:=?_) (a':=?_) #[T,T,T,T,T,F,T,F,F,T,T,F,F,F,F,F] rfl rfl (by kernel_rfl) (fun _ _ _ h => h) (Or.inl ⟨by rfl,?_⟩) ?_ ?_
    rotate_left
    ·
     intro w'
     go_simp
     with_reducible rfl
    rotate_left
    ·
     simp only [Act.put,List.setIfInBounds_toArray,List.set_cons_zero,List.set_cons_succ,i64_w,i32_w]
     rfl
    refine pure_ (i:=11) (N:=some 24) (v:=?_) (a':=?_) #[T,T,T,T,T,F,T,F,F,T,T,T,F,F,F,F] rfl rfl (by kernel_rfl) (fun _ _ _ h => h) (Or.inl ⟨by rfl,?_⟩) ?_ ?_
    rotate_left
    ·
     intro w'
     go_simp
     with_reducible rfl
    rotate_left
    ·
     simp only [Act.put,List.setIfInBounds_toArray,List.set_cons_zero,List.set_cons_succ,i64_w,i32_w]
     rfl
    refine take_ (i:=7) (N:=some 20) (v:=?_) (a':=?_) #[T,T,T,T,T,F,T,T,F,T,T,T,F,F,F,F] rfl rfl (by kernel_rfl) (fun _ _ _ h => h) (Or.inl ⟨by rfl,?_⟩) hHeld ?_ ?_
    rotate_left
    ·
     rintro w' ⟨s0,s1,s2,s3,s4,s5,s6,s7,s8,s9,s10,s11,s12⟩
     go_simp
     with_reducible rfl
    rotate_left
    ·
     simp only [Act.put,List.setIfInBounds_toArray,List.set_cons_zero,List.set_cons_succ,i64_w,i32_w]
     rfl
    refine take_ (i:=12) (N:=some 25) (v:=?_) (a':=?_) #[T,T,T,T,T,F,T,T,F,T,T,T,T,F,F,F] rfl rfl (by kernel_rfl) (fun _ _ _ h => h) (Or.inl ⟨by rfl,?_⟩) hHeld ?_ ?_
    rotate_left
    ·
     rintro w' ⟨s0,s1,s2,s3,s4,s5,s6,s7,s8,s9,s10,s11,s12⟩
     go_simp
     with_reducible rfl
    rotate_left
    ·
     simp only [Act.put,List.setIfInBounds_toArray,List.set_cons_zero,List.set_cons_succ,i64_w,i32_w]
     rfl
    refine one_ (i:=5) (N:=some 18) #[T,T,T,T,T,T,T,T,F,T,T,T,T,F,F,F] rfl rfl (by kernel_rfl) (by decide) (fun K hK => ?_)
    refine goes_ Try.func55 (by kernel_rfl) rfl #[.pointer (some ⟨gq0,0,none⟩),.int .i64 a1] (by rfl) rfl rfl (by (try simp only [List.map_toArray,List.map_cons,List.map_nil]);first|done|rfl|(simp only [List.length_drop,List.length_take];rfl)) ?_
    with_reducible refine (impl_Ls_clock.calls gq0 a0_0 a0_1 a0_2 A0_3 c0_3 l0_3 a0_4 a0_5 (some ad340) c0_6 l0_6 a1 t342 _ ?side1 ?side2 ?side3 ?side4 ?side5 A7.out).mono ?_
    (case side1 => exact (by (with_reducible repeat (first|refine blk_drewN ?_ _|refine blk_drew ?_|refine blk_alloc ?_ _));exact BK0.out))
    (case side2 => repeat (first|exact (Kd.C_below HR0_3.out HB.out)|(with_reducible refine Kd.C_alloc ?_ _)|(with_reducible refine Kd.C_drewN ?_ _)|(with_reducible refine Kd.C_drew ?_)))
    (case side3 => exact HC0_3.out)
    (case side4 => repeat (first|exact (Kd.C_below HR0_6.out HB.out)|(with_reducible refine Kd.C_alloc ?_ _)|(with_reducible refine Kd.C_drewN ?_ _)|(with_reducible refine Kd.C_drew ?_)))
    (case side5 => exact HC0_6.out)
    rintro e w' ⟨rfl,⟨nd,rfl⟩⟩
    refine ⟨_,rfl,?_⟩
    refine hK.out _ _ ⟨(blk_cell BK341.out 0).trans rfl,(blk_cell BK341.out 1).trans rfl,(blk_cell BK341.out 2).trans rfl,(blk_cell BK341.out 3).trans rfl,(blk_cell BK341.out 4).trans rfl,(blk_cell BK341.out 5).trans rfl,(blk_cell BK0.out 0).trans rfl,(blk_cell BK0.out 1).trans rfl,(blk_cell BK0.out 2).trans rfl,(blk_cell BK0.out 3).trans rfl,(blk_cell BK0.out 4).trans rfl,(blk_cell BK0.out 5).trans rfl,(blk_cell BK0.out 6).trans rfl⟩ (fun hHeld => ?_)
    clear hK K
    refine norm_ (a':=?_) ?_ ?_
    rotate_left
    ·
     show Act.put _ (some 18) _ = _
     simp only [Act.put,List.setIfInBounds_toArray,List.set_cons_zero,List.set_cons_succ,i64_w,i32_w]
     rfl
    refine pure_ (i:=8) (N:=some 21) (v:=?_) (a':=?_) #[T,T,T,T,T,T,T,T,T,T,T,T,T,F,F,F] rfl rfl (by kernel_rfl) (fun _ _ _ h => h) (Or.inl ⟨by rfl,?_⟩) ?_ ?_
    rotate_left
    ·
     intro w'
     go_simp
     with_reducible rfl
    rotate_left
    ·
     simp only [Act.put,List.setIfInBounds_toArray,List.set_cons_zero,List.set_cons_succ,i64_w,i32_w]
     rfl
    refine pure_ (i:=13) (N:=some 26) (v:=?_) (a':=?_) #[T,T,T,T,T,T,T,T,T,T,T,T,T,T,F,F] rfl rfl (by kernel_rfl) (fun _ _ _ h => h) (Or.inl ⟨by rfl,?_⟩) ?_ ?_
    rotate_left
    ·
     intro w'
     go_simp
     with_reducible rfl
    rotate_left
    ·
     simp only [Act.put,List.setIfInBounds_toArray,List.set_cons_zero,List.set_cons_succ,i64_w,i32_w]
     rfl
    refine pure_ (i:=14) (N:=some 27) (v:=?_) (a':=?_) #[T,T,T,T,T,T,T,T,T,T,T,T,T,T,T,F] rfl rfl (by kernel_rfl) (fun _ _ _ h => h) (Or.inl ⟨by rfl,?_⟩) ?_ ?_
    rotate_left
    ·
     intro w'
     go_simp
     with_reducible rfl
    rotate_left
    ·
     simp only [Act.put,List.setIfInBounds_toArray,List.set_cons_zero,List.set_cons_succ,i64_w,i32_w]
     rfl
    refine pure_ (i:=15) (N:=some 4) (v:=?_) (a':=?_) #[T,T,T,T,T,T,T,T,T,T,T,T,T,T,T,T] rfl rfl (by kernel_rfl) (fun _ _ _ h => h) (Or.inl ⟨by rfl,?_⟩) ?_ ?_
    rotate_left
    ·
     intro w'
     go_simp
     with_reducible rfl
    rotate_left
    ·
     simp only [Act.put,List.setIfInBounds_toArray,List.set_cons_zero,List.set_cons_succ,i64_w,i32_w]
     rfl
    refine done_ (by kernel_rfl) ?_
    try go_wp2
    go_ret
    exact ⟨by first|rfl|(simp [errW_none,errW_some] <;> rfl)|(simp [*,errW_none,errW_some] <;> rfl),by repeat (first|(with_reducible first|exact HB.out|apply below_alloc|apply pw_below_drewN|apply below_drew1|refine below_set ?_ GE0.out|refine below_set ?_ GE341.out)|exact HB.out)⟩
   ·
    replace c6:=Bool.eq_false_iff.mpr c6
    subst c6
    have H1 : (some false) = some r:=by rw [if_neg (show ¬ (false = true) by decide)] at H;exact H
    clear H
    have H:=H1
    clear H1
    obtain rfl:=Option.some.inj H
    have hcz14_0 : w.cell? ⟨gq0,0,none⟩ = some (.int .i64 a0_0):=(blk_cell BK0.out 0).trans rfl
    have hcz14_1 : w.cell? ⟨gq0,1,none⟩ = some (.int .i64 a0_1):=(blk_cell BK0.out 1).trans rfl
    have hcz14_2 : w.cell? ⟨gq0,2,none⟩ = some (.int .i64 a0_2):=(blk_cell BK0.out 2).trans rfl
    have hcz14_3 : w.cell? ⟨gq0,3,none⟩ = some (.slice A0_3 l0_3.length c0_3):=(blk_cell BK0.out 3).trans rfl
    have hcz14_4 : w.cell? ⟨gq0,4,none⟩ = some (.int .i64 a0_4):=(blk_cell BK0.out 4).trans rfl
    have hcz14_5 : w.cell? ⟨gq0,5,none⟩ = some (.int .i64 a0_5):=(blk_cell BK0.out 5).trans rfl
    have hcz14_6 : w.cell? ⟨gq0,6,none⟩ = some (.slice A0_6 l0_6.length c0_6):=(blk_cell BK0.out 6).trans rfl
    have hfz14_0:=blk_frozen BK0.out 0
    have hfz14_1:=blk_frozen BK0.out 1
    have hfz14_2:=blk_frozen BK0.out 2
    have hfz14_3:=blk_frozen BK0.out 3
    have hfz14_4:=blk_frozen BK0.out 4
    have hfz14_5:=blk_frozen BK0.out 5
    have hfz14_6:=blk_frozen BK0.out 6
    have p340 : 0 ≤ (a1 : Int):=of_decide_eq_true (by first|(with_reducible assumption)|assumption)
    have q340 : a1 < (l0_6.length : Int):=of_decide_eq_true (by first|(with_reducible assumption)|assumption)
    obtain ⟨ad340,e340,hx340_0,hx340_1,hx340_2,hx340_3,hx340_4,hx340_5⟩:=at_T50 HR0_6.out a1 p340 q340
    (try rw [← Nbq5.out] at hx340_0)
    (try rw [← Nbq5.out] at hx340_2)
    cases e340
    replace p340:=eq_true p340
    replace q340:=eq_true q340
    go_enter Try.func59,Try.ntmps59
    try go_wp2_with (first|((with_reducible refine gate_dst (N:=5) rfl ?_);refine box_event ?hg (N:=5) ?hd (cs:=#[.bool false,.int .i64 0,.bool false,.int .i64 0,.int .i64 0,.int .i64 0]) (t:=50) ?hr ?_;(case hd => rfl);(case hg => rfl);(case hr => first|(go_simp;done)|(go_simp;rfl));intro gb341 hg w15 hbox hb;have n0_:=Aside0.mk (blk_below (g:=gq0) (o:=.cells #[.int .i64 a0_0,.int .i64 a0_1,.int .i64 a0_2,.slice A0_3 l0_3.length c0_3,.int .i64 a0_4,.int .i64 a0_5,.slice (some ad340) l0_6.length c0_6] 30 (0,0)) (by (with_reducible repeat (first|refine blk_drewN ?_ _|refine blk_drew ?_|refine blk_alloc ?_ _));exact BK0.out) hb);have n1_:=Aside0.mk (below_step (by repeat (first|(with_reducible first|exact HB.out|apply below_alloc|apply pw_below_drewN|apply below_drew1|refine below_set ?_ GE0.out)|exact HB.out)) hb);have n2_:=Aside0.mk (hbox);have n3_:=Aside0.mk ((by rw [hg];exact (below_size (by repeat (first|(with_reducible first|exact HB.out|apply below_alloc|apply pw_below_drewN|apply below_drew1|refine below_set ?_ GE0.out)|exact HB.out))) : w.heap.size ≤ gb341));have n4_:=Aside0.mk ((by rw [hg];exact (below_size (by repeat (first|(with_reducible first|exact HB.out|apply below_alloc|apply pw_below_drewN|apply below_drew1|refine below_set ?_ GE0.out)|exact HB.out))) : w.heap.size ≤ gb341));have n5_:=Aside0.mk ((by rw [hg];exact Nat.ne_of_lt (blk_lt (g:=gq0) (o:=.cells #[.int .i64 a0_0,.int .i64 a0_1,.int .i64 a0_2,.slice A0_3 l0_3.length c0_3,.int .i64 a0_4,.int .i64 a0_5,.slice (some ad340) l0_6.length c0_6] 30 (0,0)) (by (with_reducible repeat (first|refine blk_drewN ?_ _|refine blk_drew ?_|refine blk_alloc ?_ _));exact BK0.out)) : gq0 ≠ gb341));have n6_:=Aside0.mk ((by rw [hg];exact Nat.ne_of_gt (blk_lt (g:=gq0) (o:=.cells #[.int .i64 a0_0,.int .i64 a0_1,.int .i64 a0_2,.slice A0_3 l0_3.length c0_3,.int .i64 a0_4,.int .i64 a0_5,.slice (some ad340) l0_6.length c0_6] 30 (0,0)) (by (with_reducible repeat (first|refine blk_drewN ?_ _|refine blk_drew ?_|refine blk_alloc ?_ _));exact BK0.out)) : gb341 ≠ gq0));clear BK0;clear HB;have BK0:=n0_;have HB:=n1_;have BK341:=n2_;have GW341:=n3_;have GE341:=n4_;have NB0_341:=n5_;have NB341_0:=n6_;clear n0_ n1_ n2_ n3_ n4_ n5_ n6_;clear hb hbox hg;have hnb16:=NB341_0.out;have hnc16:=NB0_341.out;have hcz17_0 : w15.cell? ⟨gb341,0,none⟩ = some (.bool false):=(blk_cell BK341.out 0).trans rfl;have hcz17_1 : w15.cell? ⟨gb341,1,none⟩ = some (.int .i64 0):=(blk_cell BK341.out 1).trans rfl;have hcz17_2 : w15.cell? ⟨gb341,2,none⟩ = some (.bool false):=(blk_cell BK341.out 2).trans rfl;have hcz17_3 : w15.cell? ⟨gb341,3,none⟩ = some (.int .i64 0):=(blk_cell BK341.out 3).trans rfl;have hcz17_4 : w15.cell? ⟨gb341,4,none⟩ = some (.int .i64 0):=(blk_cell BK341.out 4).trans rfl;have hcz17_5 : w15.cell? ⟨gb341,5,none⟩ = some (.int .i64 0):=(blk_cell BK341.out 5).trans rfl;have hfz17_0:=blk_frozen BK341.out 0;have hfz17_1:=blk_frozen BK341.out 1;have hfz17_2:=blk_frozen BK341.out 2;have hfz17_3:=blk_frozen BK341.out 3;have hfz17_4:=blk_frozen BK341.out 4;have hfz17_5:=blk_frozen BK341.out 5))
    have n0_ : Aside0 (((((((w15.setCell ⟨gb341,0,none⟩ (.bool false)).setCell ⟨gb341,1,none⟩ (.int .i64 ((rd_T50 l0_6 a1).f1))).setCell ⟨gb341,2,none⟩ (.bool ((rd_T50 l0_6 a1).f2))).setCell ⟨gb341,3,none⟩ (.int .i64 ((rd_T50 l0_6 a1).f3))).setCell ⟨gb341,4,none⟩ (.int .i64 ((rd_T50 l0_6 a1).f4))).setCell ⟨gb341,5,none⟩ (.int .i64 ((rd_T50 l0_6 a1).f5))).heap[gq0]? = some (.cells #[.int .i64 a0_0,.int .i64 a0_1,.int .i64 a0_2,.slice A0_3 l0_3.length c0_3,.int .i64 a0_4,.int .i64 a0_5,.slice (some ad340) l0_6.length c0_6] 30 (0,0))):=⟨by (with_reducible repeat (first|refine blk_drewN ?_ _|refine blk_drew ?_|refine blk_alloc ?_ _));refine blk_far ?_ NB0_341.out _;(with_reducible repeat (first|refine blk_drewN ?_ _|refine blk_drew ?_|refine blk_alloc ?_ _));refine blk_far ?_ NB0_341.out _;(with_reducible repeat (first|refine blk_drewN ?_ _|refine blk_drew ?_|refine blk_alloc ?_ _));refine blk_far ?_ NB0_341.out _;(with_reducible repeat (first|refine blk_drewN ?_ _|refine blk_drew ?_|refine blk_alloc ?_ _));refine blk_far ?_ NB0_341.out _;(with_reducible repeat (first|refine blk_drewN ?_ _|refine blk_drew ?_|refine blk_alloc ?_ _));refine blk_far ?_ NB0_341.out _;(with_reducible repeat (first|refine blk_drewN ?_ _|refine blk_drew ?_|refine blk_alloc ?_ _));refine blk_far ?_ NB0_341.out _;(with_reducible repeat (first|refine blk_drewN ?_ _|refine blk_drew ?_|refine blk_alloc ?_ _));exact BK0.out⟩
    have n1_ : Aside0 (((((((w15.setCell ⟨gb341,0,none⟩ (.bool false)).setCell ⟨gb341,1,none⟩ (.int .i64 ((rd_T50 l0_6 a1).f1))).setCell ⟨gb341,2,none⟩ (.bool ((rd_T50 l0_6 a1).f2))).setCell ⟨gb341,3,none⟩ (.int .i64 ((rd_T50 l0_6 a1).f3))).setCell ⟨gb341,4,none⟩ (.int .i64 ((rd_T50 l0_6 a1).f4))).setCell ⟨gb341,5,none⟩ (.int .i64 ((rd_T50 l0_6 a1).f5))).heap[gb341]? = some (.cells #[.bool false,.int .i64 ((rd_T50 l0_6 a1).f1),.bool ((rd_T50 l0_6 a1).f2),.int .i64 ((rd_T50 l0_6 a1).f3),.int .i64 ((rd_T50 l0_6 a1).f4),.int .i64 ((rd_T50 l0_6 a1).f5)] 50 (0,0))):=⟨by (with_reducible repeat (first|refine blk_drewN ?_ _|refine blk_drew ?_|refine blk_alloc ?_ _));refine blk_put (cs:=#[.bool false,.int .i64 ((rd_T50 l0_6 a1).f1),.bool ((rd_T50 l0_6 a1).f2),.int .i64 ((rd_T50 l0_6 a1).f3),.int .i64 ((rd_T50 l0_6 a1).f4),.int .i64 0]) ?_ 5 _ rfl;(with_reducible repeat (first|refine blk_drewN ?_ _|refine blk_drew ?_|refine blk_alloc ?_ _));refine blk_put (cs:=#[.bool false,.int .i64 ((rd_T50 l0_6 a1).f1),.bool ((rd_T50 l0_6 a1).f2),.int .i64 ((rd_T50 l0_6 a1).f3),.int .i64 0,.int .i64 0]) ?_ 4 _ rfl;(with_reducible repeat (first|refine blk_drewN ?_ _|refine blk_drew ?_|refine blk_alloc ?_ _));refine blk_put (cs:=#[.bool false,.int .i64 ((rd_T50 l0_6 a1).f1),.bool ((rd_T50 l0_6 a1).f2),.int .i64 0,.int .i64 0,.int .i64 0]) ?_ 3 _ rfl;(with_reducible repeat (first|refine blk_drewN ?_ _|refine blk_drew ?_|refine blk_alloc ?_ _));refine blk_put (cs:=#[.bool false,.int .i64 ((rd_T50 l0_6 a1).f1),.bool false,.int .i64 0,.int .i64 0,.int .i64 0]) ?_ 2 _ rfl;(with_reducible repeat (first|refine blk_drewN ?_ _|refine blk_drew ?_|refine blk_alloc ?_ _));refine blk_put (cs:=#[.bool false,.int .i64 0,.bool false,.int .i64 0,.int .i64 0,.int .i64 0]) ?_ 1 _ rfl;(with_reducible repeat (first|refine blk_drewN ?_ _|refine blk_drew ?_|refine blk_alloc ?_ _));refine blk_put (cs:=#[.bool false,.int .i64 0,.bool false,.int .i64 0,.int .i64 0,.int .i64 0]) ?_ 0 _ rfl;(with_reducible repeat (first|refine blk_drewN ?_ _|refine blk_drew ?_|refine blk_alloc ?_ _));exact BK341.out⟩
    have n2_ : Aside0 (Below w.heap.size w ((((((w15.setCell ⟨gb341,0,none⟩ (.bool false)).setCell ⟨gb341,1,none⟩ (.int .i64 ((rd_T50 l0_6 a1).f1))).setCell ⟨gb341,2,none⟩ (.bool ((rd_T50 l0_6 a1).f2))).setCell ⟨gb341,3,none⟩ (.int .i64 ((rd_T50 l0_6 a1).f3))).setCell ⟨gb341,4,none⟩ (.int .i64 ((rd_T50 l0_6 a1).f4))).setCell ⟨gb341,5,none⟩ (.int .i64 ((rd_T50 l0_6 a1).f5)))):=⟨by repeat (first|(with_reducible first|exact HB.out|apply below_alloc|apply pw_below_drewN|apply below_drew1|refine below_set ?_ GE0.out|refine below_set ?_ GE341.out)|exact HB.out)⟩
    (try clear BK0)
    (try clear BK341)
    (try clear HB)
    generalize ((((((w15.setCell ⟨gb341,0,none⟩ (.bool false)).setCell ⟨gb341,1,none⟩ (.int .i64 ((rd_T50 l0_6 a1).f1))).setCell ⟨gb341,2,none⟩ (.bool ((rd_T50 l0_6 a1).f2))).setCell ⟨gb341,3,none⟩ (.int .i64 ((rd_T50 l0_6 a1).f3))).setCell ⟨gb341,4,none⟩ (.int .i64 ((rd_T50 l0_6 a1).f4))).setCell ⟨gb341,5,none⟩ (.int .i64 ((rd_T50 l0_6 a1).f5))) = w18 at n0_ n1_ n2_ ⊢
    have BK0:=n0_
    have BK341:=n1_
    have HB:=n2_
    clear n0_ n1_ n2_
    have n0_:=Aside0.mk (blk_drew BK0.out)
    have n1_:=Aside0.mk (blk_drew BK341.out)
    have n2_:=Aside0.mk (below_drew1 HB.out)
    clear BK0
    clear BK341
    clear HB
    have BK0:=n0_
    have BK341:=n1_
    have HB:=n2_
    clear n0_ n1_ n2_
    refine start_ (n:=16) (S:=fun w' => w'.cell? ⟨gb341,0,none⟩ = some (.bool false) ∧ w'.cell? ⟨gb341,1,none⟩ = some (.int .i64 ((rd_T50 l0_6 a1).f1)) ∧ w'.cell? ⟨gb341,2,none⟩ = some (.bool ((rd_T50 l0_6 a1).f2)) ∧ w'.cell? ⟨gb341,3,none⟩ = some (.int .i64 ((rd_T50 l0_6 a1).f3)) ∧ w'.cell? ⟨gb341,4,none⟩ = some (.int .i64 ((rd_T50 l0_6 a1).f4)) ∧ w'.cell? ⟨gb341,5,none⟩ = some (.int .i64 ((rd_T50 l0_6 a1).f5))) (ds:=[]) #[F,F,F,F,F,F,F,F,F,F,F,F,F,F,F,F] (by kernel_rfl) rfl rfl ⟨(blk_cell BK341.out 0).trans rfl,(blk_cell BK341.out 1).trans rfl,(blk_cell BK341.out 2).trans rfl,(blk_cell BK341.out 3).trans rfl,(blk_cell BK341.out 4).trans rfl,(blk_cell BK341.out 5).trans rfl⟩ (fun hHeld => ?_)
    generalize w18.drew = w19 at BK0 BK341 HB hHeld ⊢
    refine pure_ (i:=0) (N:=some 13) (v:=?_) (a':=?_) #[T,F,F,F,F,F,F,F,F,F,F,F,F,F,F,F] rfl rfl (by kernel_rfl) (fun _ _ _ h => h) (Or.inl ⟨by rfl,?_⟩) ?_ ?_
    rotate_left
    ·
     intro w'
     go_simp
     with_reducible rfl
    rotate_left
    ·
     simp only [Act.put,List.setIfInBounds_toArray,List.set_cons_zero,List.set_cons_succ,i64_w,i32_w]
     rfl
    refine take_ (i:=1) (N:=some 14) (v:=?_) (a':=?_) #[T,T,F,F,F,F,F,F,F,F,F,F,F,F,F,F] rfl rfl (by kernel_rfl) (fun _ _ _ h => h) (Or.inl ⟨by rfl,?_⟩) hHeld ?_ ?_
    rotate_left
    ·
     rintro w' ⟨s0,s1,s2,s3,s4,s5⟩
     go_simp
     with_reducible rfl
    rotate_left
    ·
     simp only [Act.put,List.setIfInBounds_toArray,List.set_cons_zero,List.set_cons_succ,i64_w,i32_w]
     rfl
    refine pure_ (i:=2) (N:=some 15) (v:=?_) (a':=?_) #[T,T,T,F,F,F,F,F,F,F,F,F,F,F,F,F] rfl rfl (by kernel_rfl) (fun _ _ _ h => h) (Or.inl ⟨by rfl,?_⟩) ?_ ?_
    rotate_left
    ·
     intro w'
     go_simp
     with_reducible rfl
    rotate_left
    ·
     simp only [Act.put,List.setIfInBounds_toArray,List.set_cons_zero,List.set_cons_succ,i64_w,i32_w]
     rfl
    refine pure_ (i:=3) (N:=some 16) (v:=undef) (a':=?_) #[T,T,T,T,F,F,F,F,F,F,F,F,F,F,F,F] rfl rfl (by kernel_rfl) (fun _ _ _ h => h) (Or.inr ⟨by rfl,rfl⟩) ?_ ?_
    rotate_left
    ·
     simp only [Act.put,List.setIfInBounds_toArray,List.set_cons_zero,List.set_cons_succ,i64_w,i32_w]
     rfl
    refine pure_ (i:=4) (N:=some 17) (v:=undef) (a':=?_) #[T,T,T,T,T,F,F,F,F,F,F,F,F,F,F,F] rfl rfl (by kernel_rfl) (fun _ _ _ h => h) (Or.inr ⟨by rfl,rfl⟩) ?_ ?_
    rotate_left
    ·
     simp only [Act.put,List.setIfInBounds_toArray,List.set_cons_zero,List.set_cons_succ,i64_w,i32_w]
     rfl
    refine pure_ (i:=5) (N:=some 18) (v:=undef) (a':=?_) #[T,T,T,T,T,T,F,F,F,F,F,F,F,F,F,F] rfl rfl (by kernel_rfl) (fun _ _ _ h => h) (Or.inr ⟨by rfl,rfl⟩) ?_ ?_
    rotate_left
    ·
     simp only [Act.put,List.setIfInBounds_toArray,List.set_cons_zero,List.set_cons_succ,i64_w,i32_w]
     rfl
    refine pure_ (i:=6) (N:=some 19) (v:=undef) (a':=?_) #[T,T,T,T,T,T,T,F,F,F,F,F,F,F,F,F] rfl rfl (by kernel_rfl) (fun _ _ _ h => h) (Or.inr ⟨by rfl,rfl⟩) ?_ ?_
    rotate_left
    ·
     simp only [Act.put,List.setIfInBounds_toArray,List.set_cons_zero,List.set_cons_succ,i64_w,i32_w]
     rfl
    refine pure_ (i:=7) (N:=some 20) (v:=undef) (a':=?_) #[T,T,T,T,T,T,T,T,F,F,F,F,F,F,F,F] rfl rfl (by kernel_rfl) (fun _ _ _ h => h) (Or.inr ⟨by rfl,rfl⟩) ?_ ?_
    rotate_left
    ·
     simp only [Act.put,List.setIfInBounds_toArray,List.set_cons_zero,List.set_cons_succ,i64_w,i32_w]
     rfl
    refine pure_ (i:=8) (N:=some 21) (v:=undef) (a':=?_) #[T,T,T,T,T,T,T,T,T,F,F,F,F,F,F,F] rfl rfl (by kernel_rfl) (fun _ _ _ h => h) (Or.inr ⟨by rfl,rfl⟩) ?_ ?_
    rotate_left
    ·
     simp only [Act.put,List.setIfInBounds_toArray,List.set_cons_zero,List.set_cons_succ,i64_w,i32_w]
     rfl
    refine pure_ (i:=9) (N:=some 22) (v:=undef) (a':=?_) #[T,T,T,T,T,T,T,T,T,T,F,F,F,F,F,F] rfl rfl (by kernel_rfl) (fun _ _ _ h => h) (Or.inr ⟨by rfl,rfl⟩) ?_ ?_
    rotate_left
    ·
     simp only [Act.put,List.setIfInBounds_toArray,List.set_cons_zero,List.set_cons_succ,i64_w,i32_w]
     rfl
    refine pure_ (i:=10) (N:=some 23) (v:=undef) (a':=?_) #[T,T,T,T,T,T,T,T,T,T,T,F,F,F,F,F] rfl rfl (by kernel_rfl) (fun _ _ _ h => h) (Or.inr ⟨by rfl,rfl⟩) ?_ ?_
    rotate_left
    ·
     simp only [Act.put,List.setIfInBounds_toArray,List.set_cons_zero,List.set_cons_succ,i64_w,i32_w]
     rfl
    refine pure_ (i:=11) (N:=some 24) (v:=undef) (a':=?_) #[T,T,T,T,T,T,T,T,T,T,T,T,F,F,F,F] rfl rfl (by kernel_rfl) (fun _ _ _ h => h) (Or.inr ⟨by rfl,rfl⟩) ?_ ?_
    rotate_left
    ·
     simp only [Act.put,List.setIfInBounds_toArray,List.set_cons_zero,List.set_cons_succ,i64_w,i32_w]
     rfl
    refine pure_ (i:=12) (N:=some 25) (v:=undef) (a':=?_) #[T,T,T,T,T,T,T,T,T,T,T,T,T,F,F,F] rfl rfl (by kernel_rfl) (fun _ _ _ h => h) (Or.inr ⟨by rfl,rfl⟩) ?_ ?_
    rotate_left
    ·
     simp only [Act.put,List.setIfInBounds_toArray,List.set_cons_zero,List.set_cons_succ,i64_w,i32_w]
     rfl
    refine pure_ (i:=13) (N:=some 26) (v:=undef) (a':=?_) #[T,T,T,T,T,T,T,T,T,T,T,T,T,T,F,F] rfl rfl (by kernel_rfl) (fun _ _ _ h => h) (Or.inr ⟨by rfl,rfl⟩) ?_ ?_
    rotate_left
    ·
     simp only [Act.put,List.setIfInBounds_toArray,List.set_cons_zero,List.set_cons_succ,i64_w,i32_w]
     rfl
    refine pure_ (i:=14) (N:=some 27) (v:=?_) (a':=?_) #[T,T,T,T,T,T,T,T,T,T,T,T,T,T,T,F] rfl rfl (by kernel_rfl) (fun _ _ _ h => h) (Or.inl ⟨by rfl,?_⟩) ?_ ?_
    rotate_left
    ·
     intro w'
     go_simp
     with_reducible rfl
    rotate_left
    ·
     simp only [Act.put,List.setIfInBounds_toArray,List.set_cons_zero,List.set_cons_succ,i64_w,i32_w]
     rfl
    refine pure_ (i:=15) (N:=some 4) (v:=?_) (a':=?_) #[T,T,T,T,T,T,T,T,T,T,T,T,T,T,T,T] rfl rfl (by kernel_rfl) (fun _ _ _ h => h) (Or.inl ⟨by rfl,?_⟩) ?_ ?_
    rotate_left
    ·
     intro w'
     go_simp
     with_reducible rfl
    rotate_left
    ·
     simp only [Act.put,List.setIfInBounds_toArray,List.set_cons_zero,List.set_cons_succ,i64_w,i32_w]
     rfl
    refine done_ (by kernel_rfl) ?_
    try go_wp2
    go_ret
    exact ⟨by first|rfl|(simp [errW_none,errW_some] <;> rfl)|(simp [*,errW_none,errW_some] <;> rfl),by repeat (first|(with_reducible first|exact HB.out|apply below_alloc|apply pw_below_drewN|apply below_drew1|refine below_set ?_ GE0.out|refine below_set ?_ GE341.out)|exact HB.out)⟩
  ·
   rw [if_neg c4] at H
   exact absurd H (by simp)
 ·
  rw [if_neg c3] at H
  exact absurd H (by simp)
end Go.Proofs.Ytnldanonpdijgaa.P
