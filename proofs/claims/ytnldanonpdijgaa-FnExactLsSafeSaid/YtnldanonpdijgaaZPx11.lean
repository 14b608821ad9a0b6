-- Ours: printed or written for this claim; cut to what the theorem needs.
import Derived.Test.YtnldanonpdijgaaZPx0
import Derived.Test.YtnldanonpdijgaaZPx2
namespace Go.Proofs.Ytnldanonpdijgaa.P
open Go.RowKit Go.Proofs.YtnldanonpdijgaaW.PrintWords Go.Proofs.YtnldanonpdijgaaW.PrintLast Go.Proofs.YtnldanonpdijgaaW.PrintMore
attribute [local go_sem] max2_int min2_int max_two min_two max_three min_three max_four min_four
set_option linter.unusedVariables false
set_option linter.unusedSimpArgs false
mutual
def spec_LsSafe.l0 : Nat → Int → Int → Int → Int → Int → Int → List Int → Int → Int → List (S50) → Option (Bool)
  | 0,_,_,_,_,_,_,_,_,_,_ => none
  | k + 1,x3,x4,x5,x273000,x273001,x273002,x273003,x273004,x273005,x273006 => if x5 < (x273003.length : Int) then (if 0 ≤ x5 then (if (rd x273003 x5) < x3 then (spec_LsSafe.j1 k (rd x273003 x5) x4 x5 x273000 x273001 x273002 x273003 x273004 x273005 x273006) else (spec_LsSafe.j1 k x3 x4 x5 x273000 x273001 x273002 x273003 x273004 x273005 x273006)) else (none)) else (some (decide ((wrap64 ((wrap64 (x273001 - 1)) * x3)) ≥ (wrap64 (x273000 * x4)))))
def spec_LsSafe.j1 : Nat → Int → Int → Int → Int → Int → Int → List Int → Int → Int → List (S50) → Option (Bool)
  | 0,_,_,_,_,_,_,_,_,_,_ => none
  | k + 1,x3,x4,x5,x273000,x273001,x273002,x273003,x273004,x273005,x273006 => if 0 ≤ x5 then (if x5 < (x273003.length : Int) then (if (rd x273003 x5) > x4 then (spec_LsSafe.l0 k x3 (rd x273003 x5) (wrap64 (x5 + 1)) x273000 x273001 x273002 x273003 x273004 x273005 x273006) else (spec_LsSafe.l0 k x3 x4 (wrap64 (x5 + 1)) x273000 x273001 x273002 x273003 x273004 x273005 x273006)) else (none)) else (none)
end
def spec_LsSafe.f (k : Nat) (a0_0 : Int) (a0_1 : Int) (a0_2 : Int) (l0_3 : List Int) (a0_4 : Int) (a0_5 : Int) (l0_6 : List (S50)) : Option (Bool):=(spec_LsOk.f k a0_0 a0_1 a0_2 l0_3 a0_4 a0_5 l0_6).bind fun t273 => (if t273 = true then (if 0 < (l0_3.length : Int) then (spec_LsSafe.l0 k (rd l0_3 0) (rd l0_3 0) 0 a0_0 a0_1 a0_2 l0_3 a0_4 a0_5 l0_6) else (none)) else (some false))
set_option maxHeartbeats 8000000 in
set_option maxRecDepth 100000 in
theorem spec_LsSafe.calls (k : Nat) (a0_0 : Int) (a0_1 : Int) (a0_2 : Int) (A0_3 : Option Addr) (c0_3 : Nat) (l0_3 : List Int) (a0_4 : Int) (a0_5 : Int) (A0_6 : Option Addr) (c0_6 : Nat) (l0_6 : List (S50)) (r : Bool) (w : World) (hr0_3 : Kd.C (Kd.int .i64) w A0_3 l0_3.length l0_3) (hc0_3 : l0_3.length ≤ c0_3) (hr0_6 : Kd.C k50 w A0_6 l0_6.length l0_6) (hc0_6 : l0_6.length ≤ c0_6) (h : spec_LsSafe.f k a0_0 a0_1 a0_2 l0_3 a0_4 a0_5 l0_6 = some r) :
  Calls Try.prog 21 #[.agg #[.int .i64 a0_0,.int .i64 a0_1,.int .i64 a0_2,.slice A0_3 l0_3.length c0_3,.int .i64 a0_4,.int .i64 a0_5,.slice A0_6 l0_6.length c0_6]] w fun e w' => e = .returned (.bool r) ∧ Below w.heap.size w w':=by
 have hu30:=Try.underlying30
 have HR0_3:=Aside0.mk hr0_3
 have HC0_3:=Aside0.mk hc0_3
 clear hr0_3 hc0_3
 have HR0_6:=Aside0.mk hr0_6
 have HC0_6:=Aside0.mk hc0_6
 clear hr0_6 hc0_6
 have HB:=Aside0.mk (Below.refl w.heap.size w)
 have H : ((spec_LsOk.f k a0_0 a0_1 a0_2 l0_3 a0_4 a0_5 l0_6).bind fun t273 => (if t273 = true then (if 0 < (l0_3.length : Int) then (spec_LsSafe.l0 k (rd l0_3 0) (rd l0_3 0) 0 a0_0 a0_1 a0_2 l0_3 a0_4 a0_5 l0_6) else (none)) else (some false))) = some r:=h
 clear h
 replace H:=Option.bind_eq_some_iff.mp H
 obtain ⟨t273,A20,H⟩:=H
 replace H : (if t273 = true then (if 0 < (l0_3.length : Int) then (spec_LsSafe.l0 k (rd l0_3 0) (rd l0_3 0) 0 a0_0 a0_1 a0_2 l0_3 a0_4 a0_5 l0_6) else (none)) else (some false)) = some r:=H
 have A2:=Aside0.mk A20
 clear A20
 by_cases c3 : t273 = true
 ·
  subst c3
  have H1 : (if 0 < (l0_3.length : Int) then (spec_LsSafe.l0 k (rd l0_3 0) (rd l0_3 0) 0 a0_0 a0_1 a0_2 l0_3 a0_4 a0_5 l0_6) else (none)) = some r:=by rw [if_pos rfl] at H;exact H
  clear H
  have H:=H1
  clear H1
  by_cases c4 : 0 < (l0_3.length : Int)
  ·
   rw [if_pos c4] at H
   have c4b0 : decide (0 < (l0_3.length : Int)) = true:=decide_eq_true c4
   have c4b1 : decide (0 < l0_3.length) = true:=decide_eq_true (by omega)
   clear c4
   have H':=Aside0.mk H
   clear H
   go_enter Try.func21,Try.ntmps21
   go_wp2_with (first|((with_reducible refine gate_dst (N:=1) rfl ?_);refine box_event ?hg (N:=1) ?hd (cs:=#[.int .i64 a0_0,.int .i64 a0_1,.int .i64 a0_2,.slice A0_3 l0_3.length c0_3,.int .i64 a0_4,.int .i64 a0_5,.slice A0_6 l0_6.length c0_6]) (t:=30) ?hr ?_;(case hd => rfl);(case hg => rfl);(case hr => first|(go_simp;done)|(go_simp;rfl));intro gb272 hg w5 hbox hb;have n0_:=Aside0.mk (below_step (by repeat (first|(with_reducible first|exact HB.out|apply below_alloc|apply pw_below_drewN|apply below_drew1)|exact HB.out)) hb);have n1_:=Aside0.mk (hbox);have n2_:=Aside0.mk ((by rw [hg];exact (below_size (by repeat (first|(with_reducible first|exact HB.out|apply below_alloc|apply pw_below_drewN|apply below_drew1)|exact HB.out))) : w.heap.size ≤ gb272));have n3_:=Aside0.mk ((by rw [hg];exact (below_size (by repeat (first|(with_reducible first|exact HB.out|apply below_alloc|apply pw_below_drewN|apply below_drew1)|exact HB.out))) : w.heap.size ≤ gb272));clear HB;have HB:=n0_;have BK272:=n1_;have GW272:=n2_;have GE272:=n3_;clear n0_ n1_ n2_ n3_;clear hb hbox hg;have hcz6_0 : w5.cell? ⟨gb272,0,none⟩ = some (.int .i64 a0_0):=(blk_cell BK272.out 0).trans rfl;have hcz6_1 : w5.cell? ⟨gb272,1,none⟩ = some (.int .i64 a0_1):=(blk_cell BK272.out 1).trans rfl;have hcz6_2 : w5.cell? ⟨gb272,2,none⟩ = some (.int .i64 a0_2):=(blk_cell BK272.out 2).trans rfl;have hcz6_3 : w5.cell? ⟨gb272,3,none⟩ = some (.slice A0_3 l0_3.length c0_3):=(blk_cell BK272.out 3).trans rfl;have hcz6_4 : w5.cell? ⟨gb272,4,none⟩ = some (.int .i64 a0_4):=(blk_cell BK272.out 4).trans rfl;have hcz6_5 : w5.cell? ⟨gb272,5,none⟩ = some (.int .i64 a0_5):=(blk_cell BK272.out 5).trans rfl;have hcz6_6 : w5.cell? ⟨gb272,6,none⟩ = some (.slice A0_6 l0_6.length c0_6):=(blk_cell BK272.out 6).trans rfl;have hfz6_0:=blk_frozen BK272.out 0;have hfz6_1:=blk_frozen BK272.out 1;have hfz6_2:=blk_frozen BK272.out 2;have hfz6_3:=blk_frozen BK272.out 3;have hfz6_4:=blk_frozen BK272.out 4;have hfz6_5:=blk_frozen BK272.out 5;have hfz6_6:=blk_frozen BK272.out 6)|((with_reducible refine gate_callee (f:=15) rfl ?_);refine goesL_ (some 7) rfl rfl Try.func15 (by kernel_rfl) rfl #[.agg #[.int .i64 a0_0,.int .i64 a0_1,.int .i64 a0_2,.slice A0_3 l0_3.length c0_3,.int .i64 a0_4,.int .i64 a0_5,.slice A0_6 l0_6.length c0_6]] rfl (by (try simp only [List.map_toArray,List.map_cons,List.map_nil]);first|done|rfl|(simp only [List.length_drop,List.length_take];rfl)) ?_;(with_reducible refine (spec_LsOk.calls k a0_0 a0_1 a0_2 _ _ l0_3 a0_4 a0_5 _ _ l0_6 true _ ?side1 ?side2 ?side3 ?side4 A2.out).mono ?_);(case side1 => repeat (first|exact (Kd.C_below HR0_3.out HB.out)|(with_reducible refine Kd.C_alloc ?_ _)|(with_reducible refine Kd.C_drewN ?_ _)|(with_reducible refine Kd.C_drew ?_)));(case side2 => exact HC0_3.out);(case side3 => repeat (first|exact (Kd.C_below HR0_6.out HB.out)|(with_reducible refine Kd.C_alloc ?_ _)|(with_reducible refine Kd.C_drewN ?_ _)|(with_reducible refine Kd.C_drew ?_)));(case side4 => exact HC0_6.out);rintro e w7 ⟨rfl,hb⟩;refine ⟨_,rfl,?_⟩;have n0_:=Aside0.mk (blk_below (g:=gb272) (o:=.cells #[.int .i64 a0_0,.int .i64 a0_1,.int .i64 a0_2,.slice A0_3 l0_3.length c0_3,.int .i64 a0_4,.int .i64 a0_5,.slice A0_6 l0_6.length c0_6] 30 (0,0)) (by (with_reducible repeat (first|refine blk_drewN ?_ _|refine blk_drew ?_|refine blk_alloc ?_ _));exact BK272.out) hb);have n1_:=Aside0.mk (below_step (by repeat (first|(with_reducible first|exact HB.out|apply below_alloc|apply pw_below_drewN|apply below_drew1|refine below_set ?_ GE272.out)|exact HB.out)) hb);clear BK272;clear HB;have BK272:=n0_;have HB:=n1_;clear n0_ n1_;(try clear hb);(try clear hb2);(try clear hk);(try clear hi);have hcz8_0 : w7.cell? ⟨gb272,0,none⟩ = some (.int .i64 a0_0):=(blk_cell BK272.out 0).trans rfl;have hcz8_1 : w7.cell? ⟨gb272,1,none⟩ = some (.int .i64 a0_1):=(blk_cell BK272.out 1).trans rfl;have hcz8_2 : w7.cell? ⟨gb272,2,none⟩ = some (.int .i64 a0_2):=(blk_cell BK272.out 2).trans rfl;have hcz8_3 : w7.cell? ⟨gb272,3,none⟩ = some (.slice A0_3 l0_3.length c0_3):=(blk_cell BK272.out 3).trans rfl;have hcz8_4 : w7.cell? ⟨gb272,4,none⟩ = some (.int .i64 a0_4):=(blk_cell BK272.out 4).trans rfl;have hcz8_5 : w7.cell? ⟨gb272,5,none⟩ = some (.int .i64 a0_5):=(blk_cell BK272.out 5).trans rfl;have hcz8_6 : w7.cell? ⟨gb272,6,none⟩ = some (.slice A0_6 l0_6.length c0_6):=(blk_cell BK272.out 6).trans rfl;have hfz8_0:=blk_frozen BK272.out 0;have hfz8_1:=blk_frozen BK272.out 1;have hfz8_2:=blk_frozen BK272.out 2;have hfz8_3:=blk_frozen BK272.out 3;have hfz8_4:=blk_frozen BK272.out 4;have hfz8_5:=blk_frozen BK272.out 5;have hfz8_6:=blk_frozen BK272.out 6;have p274 : 0 ≤ (0 : Int):=(by omega);have q274 : 0 < (l0_3.length : Int):=of_decide_eq_true (by first|(with_reducible assumption)|assumption);obtain ⟨ad274,e274,hx274_0⟩:=Kd.at_int HR0_3.out 0 p274 q274;cases e274;have qi274 : (0 < l0_3.length) = True:=eq_true (by omega);(try rw [show ((0 : Int)).toNat = 0 from rfl] at hx274_0);(try rw [Addr.add_zero'] at hx274_0);replace hx274_0:=(HB.out.cell (World.block_lt_of_cell? w _ hx274_0)).trans hx274_0;replace p274:=eq_true p274;replace q274:=eq_true q274;have p275 : 0 ≤ (0 : Int):=(by omega);have q275 : 0 < (l0_3.length : Int):=of_decide_eq_true (by first|(with_reducible assumption)|assumption);obtain ⟨ad275,e275,hx275_0⟩:=Kd.at_int HR0_3.out 0 p275 q275;obtain rfl : ad274 = ad275:=(by injection e275);have qi275 : (0 < l0_3.length) = True:=eq_true (by omega);(try rw [show ((0 : Int)).toNat = 0 from rfl] at hx275_0);(try rw [Addr.add_zero'] at hx275_0);replace hx275_0:=(HB.out.cell (World.block_lt_of_cell? w _ hx275_0)).trans hx275_0;replace p275:=eq_true p275;replace q275:=eq_true q275))
   go_loopg [3,4,5] k (fun kq v3 v4 v5 w' => ∃ (x3_1 : Int) (x4_1 : Int) (x5_1 : Int),v3 = .int .i64 x3_1 ∧ v4 = .int .i64 x4_1 ∧ v5 = .int .i64 x5_1 ∧ Aside0 (spec_LsSafe.l0 kq x3_1 x4_1 x5_1 a0_0 a0_1 a0_2 l0_3 a0_4 a0_5 l0_6 = some r) ∧ Aside0 (kq ≤ k) ∧ Aside0 (w'.heap[gb272]? = some (.cells #[.int .i64 a0_0,.int .i64 a0_1,.int .i64 a0_2,(.slice (some ad274) l0_3.length c0_3),.int .i64 a0_4,.int .i64 a0_5,(.slice A0_6 l0_6.length c0_6)] 30 (0,0))) ∧ Aside0 (Below w.heap.size w w'))
   case atStart => exact ⟨(rd l0_3 0),(rd l0_3 0),(0),(by first|rfl|(simp;done)|(simp [*];done)),(by first|rfl|(simp;done)|(simp [*];done)),(by first|rfl|(simp;done)|(simp [*];done)),H',⟨Nat.le_refl _⟩,⟨by (with_reducible repeat (first|refine blk_drewN ?_ _|refine blk_drew ?_|refine blk_alloc ?_ _));exact BK272.out⟩,⟨by repeat (first|(with_reducible first|exact HB.out|apply below_alloc|apply pw_below_drewN|apply below_drew1|refine below_set ?_ GE272.out)|exact HB.out)⟩⟩
   case round =>
    clear H'
    try clear c1
    try clear c2
    try clear p2
    try clear q2
    try clear hx2
    try clear qi2
    try clear c3
    try clear c4
    try clear c4b0
    try clear c4b1
    try clear hcz6_0
    try clear hcz6_1
    try clear hcz6_2
    try clear hcz6_3
    try clear hcz6_4
    try clear hcz6_5
    try clear hcz6_6
    try clear hcz8_0
    try clear hcz8_1
    try clear hcz8_2
    try clear hcz8_3
    try clear hcz8_4
    try clear hcz8_5
    try clear hcz8_6
    try clear hfz6_0
    try clear hfz6_1
    try clear hfz6_2
    try clear hfz6_3
    try clear hfz6_4
    try clear hfz6_5
    try clear hfz6_6
    try clear hfz8_0
    try clear hfz8_1
    try clear hfz8_2
    try clear hfz8_3
    try clear hfz8_4
    try clear hfz8_5
    try clear hfz8_6
    try clear hx274_0
    try clear hx275_0
    try clear p274
    try clear p275
    try clear q274
    try clear q275
    obtain ⟨x3_1,x4_1,x5_1,rfl,rfl,rfl,HA,HK1,BK272,HB⟩:=hrel
    cases gk with
    | zero => exact absurd HA.out (by simp [spec_LsSafe.l0])
    | succ k1 =>
     have H:=HA.out
     clear HA
     simp only [spec_LsSafe.l0] at H
     by_cases c9 : x5_1 < (l0_3.length : Int)
     ·
      rw [if_pos c9] at H
      have c9b0 : decide (x5_1 < (l0_3.length : Int)) = true:=decide_eq_true c9
      clear c9
      by_cases c10 : 0 ≤ x5_1
      ·
       rw [if_pos c10] at H
       have c10b0 : decide (0 ≤ x5_1) = true:=decide_eq_true c10
       clear c10
       have HC11:=Aside0.mk H
       clear H
       have hcz12_0 : wr.cell? ⟨gb272,0,none⟩ = some (.int .i64 a0_0):=(blk_cell BK272.out 0).trans rfl
       have hcz12_1 : wr.cell? ⟨gb272,1,none⟩ = some (.int .i64 a0_1):=(blk_cell BK272.out 1).trans rfl
       have hcz12_2 : wr.cell? ⟨gb272,2,none⟩ = some (.int .i64 a0_2):=(blk_cell BK272.out 2).trans rfl
       have hcz12_3 : wr.cell? ⟨gb272,3,none⟩ = some (.slice (some ad274) l0_3.length c0_3):=(blk_cell BK272.out 3).trans rfl
       have hcz12_4 : wr.cell? ⟨gb272,4,none⟩ = some (.int .i64 a0_4):=(blk_cell BK272.out 4).trans rfl
       have hcz12_5 : wr.cell? ⟨gb272,5,none⟩ = some (.int .i64 a0_5):=(blk_cell BK272.out 5).trans rfl
       have hcz12_6 : wr.cell? ⟨gb272,6,none⟩ = some (.slice A0_6 l0_6.length c0_6):=(blk_cell BK272.out 6).trans rfl
       have hfz12_0:=blk_frozen BK272.out 0
       have hfz12_1:=blk_frozen BK272.out 1
       have hfz12_2:=blk_frozen BK272.out 2
       have hfz12_3:=blk_frozen BK272.out 3
       have hfz12_4:=blk_frozen BK272.out 4
       have hfz12_5:=blk_frozen BK272.out 5
       have hfz12_6:=blk_frozen BK272.out 6
       have p276 : 0 ≤ (x5_1 : Int):=of_decide_eq_true (by first|(with_reducible assumption)|assumption)
       have q276 : x5_1 < (l0_3.length : Int):=of_decide_eq_true (by first|(with_reducible assumption)|assumption)
       obtain ⟨ad276,e276,hx276_0⟩:=Kd.at_int HR0_3.out x5_1 p276 q276
       obtain rfl : ad274 = ad276:=(by injection e276)
       replace hx276_0:=(HB.out.cell (World.block_lt_of_cell? w _ hx276_0)).trans hx276_0
       replace p276:=eq_true p276
       replace q276:=eq_true q276
       go_upto_if 30 with (fail)
       go_cut [3] (fun v3 wc => ∃ (kq : Nat) (x3_10 : Int),v3 = .int .i64 x3_10 ∧ Aside0 (spec_LsSafe.j1 kq x3_10 x4_1 x5_1 a0_0 a0_1 a0_2 l0_3 a0_4 a0_5 l0_6 = some r) ∧ Aside0 (kq ≤ k1) ∧ Aside0 (wc.heap[gb272]? = some (.cells #[.int .i64 a0_0,.int .i64 a0_1,.int .i64 a0_2,(.slice (some ad274) l0_3.length c0_3),.int .i64 a0_4,.int .i64 a0_5,(.slice A0_6 l0_6.length c0_6)] 30 (0,0))) ∧ Aside0 (Below w.heap.size w wc))
       case first =>
        have H:=HC11.out
        clear HC11
        by_cases c13 : (rd l0_3 x5_1) < x3_1
        ·
         rw [if_pos c13] at H
         have c13b0 : decide ((rd l0_3 x5_1) < x3_1) = true:=decide_eq_true c13
         clear c13
         (first|rw [c13b0]|(simp only [i64_w,i32_w];rw [c13b0])|rw [c13b2]|skip)
         have H':=Aside0.mk H
         clear H
         have hcz14_0 : wr.cell? ⟨gb272,0,none⟩ = some (.int .i64 a0_0):=(blk_cell BK272.out 0).trans rfl
         have hcz14_1 : wr.cell? ⟨gb272,1,none⟩ = some (.int .i64 a0_1):=(blk_cell BK272.out 1).trans rfl
         have hcz14_2 : wr.cell? ⟨gb272,2,none⟩ = some (.int .i64 a0_2):=(blk_cell BK272.out 2).trans rfl
         have hcz14_3 : wr.cell? ⟨gb272,3,none⟩ = some (.slice (some ad274) l0_3.length c0_3):=(blk_cell BK272.out 3).trans rfl
         have hcz14_4 : wr.cell? ⟨gb272,4,none⟩ = some (.int .i64 a0_4):=(blk_cell BK272.out 4).trans rfl
         have hcz14_5 : wr.cell? ⟨gb272,5,none⟩ = some (.int .i64 a0_5):=(blk_cell BK272.out 5).trans rfl
         have hcz14_6 : wr.cell? ⟨gb272,6,none⟩ = some (.slice A0_6 l0_6.length c0_6):=(blk_cell BK272.out 6).trans rfl
         have hfz14_0:=blk_frozen BK272.out 0
         have hfz14_1:=blk_frozen BK272.out 1
         have hfz14_2:=blk_frozen BK272.out 2
         have hfz14_3:=blk_frozen BK272.out 3
         have hfz14_4:=blk_frozen BK272.out 4
         have hfz14_5:=blk_frozen BK272.out 5
         have hfz14_6:=blk_frozen BK272.out 6
         have p277 : 0 ≤ (x5_1 : Int):=of_decide_eq_true (by first|(with_reducible assumption)|assumption)
         have q277 : x5_1 < (l0_3.length : Int):=of_decide_eq_true (by first|(with_reducible assumption)|assumption)
         obtain ⟨ad277,e277,hx277_0⟩:=Kd.at_int HR0_3.out x5_1 p277 q277
         obtain rfl : ad274 = ad277:=(by injection e277)
         replace hx277_0:=(HB.out.cell (World.block_lt_of_cell? w _ hx277_0)).trans hx277_0
         replace p277:=eq_true p277
         replace q277:=eq_true q277
         go_wp2
         go_meet
         case rel => exact ⟨_,(rd l0_3 x5_1),(by first|rfl|(simp;done)|(simp [*];done)),H',⟨by have:=HK1.out;first|omega|exact Nat.le_refl _⟩,⟨by (with_reducible repeat (first|refine blk_drewN ?_ _|refine blk_drew ?_|refine blk_alloc ?_ _));exact BK272.out⟩,⟨by repeat (first|(with_reducible first|exact HB.out|apply below_alloc|apply pw_below_drewN|apply below_drew1|refine below_set ?_ GE272.out)|exact HB.out)⟩⟩
        ·
         rw [if_neg c13] at H
         have c13b0 : decide ((rd l0_3 x5_1) < x3_1) = false:=decide_eq_false c13
         clear c13
         (first|rw [c13b0]|(simp only [i64_w,i32_w];rw [c13b0])|rw [c13b2]|skip)
         have H':=Aside0.mk H
         clear H
         go_wp2
         go_meet
         case rel => exact ⟨_,(x3_1),(by first|rfl|(simp;done)|(simp [*];done)),H',⟨by have:=HK1.out;first|omega|exact Nat.le_refl _⟩,⟨by (with_reducible repeat (first|refine blk_drewN ?_ _|refine blk_drew ?_|refine blk_alloc ?_ _));exact BK272.out⟩,⟨by repeat (first|(with_reducible first|exact HB.out|apply below_alloc|apply pw_below_drewN|apply below_drew1|refine below_set ?_ GE272.out)|exact HB.out)⟩⟩
       case rest =>
        clear HC11
        try clear c1
        try clear c2
        try clear p2
        try clear q2
        try clear hx2
        try clear qi2
        try clear c3
        try clear c4
        try clear c4b0
        try clear c4b1
        try clear c9
        try clear c9b0
        try clear c10
        try clear c10b0
        try clear c13
        try clear c13b0
        try clear c13b2
        try clear hcz12_0
        try clear hcz12_1
        try clear hcz12_2
        try clear hcz12_3
        try clear hcz12_4
        try clear hcz12_5
        try clear hcz12_6
        try clear hcz14_0
        try clear hcz14_1
        try clear hcz14_2
        try clear hcz14_3
        try clear hcz14_4
        try clear hcz14_5
        try clear hcz14_6
        try clear hcz6_0
        try clear hcz6_1
        try clear hcz6_2
        try clear hcz6_3
        try clear hcz6_4
        try clear hcz6_5
        try clear hcz6_6
        try clear hcz8_0
        try clear hcz8_1
        try clear hcz8_2
        try clear hcz8_3
        try clear hcz8_4
        try clear hcz8_5
        try clear hcz8_6
        try clear hfz12_0
        try clear hfz12_1
        try clear hfz12_2
        try clear hfz12_3
        try clear hfz12_4
        try clear hfz12_5
        try clear hfz12_6
        try clear hfz14_0
        try clear hfz14_1
        try clear hfz14_2
        try clear hfz14_3
        try clear hfz14_4
        try clear hfz14_5
        try clear hfz14_6
        try clear hfz6_0
        try clear hfz6_1
        try clear hfz6_2
        try clear hfz6_3
        try clear hfz6_4
        try clear hfz6_5
        try clear hfz6_6
        try clear hfz8_0
        try clear hfz8_1
        try clear hfz8_2
        try clear hfz8_3
        try clear hfz8_4
        try clear hfz8_5
        try clear hfz8_6
        try clear hx274_0
        try clear hx275_0
        try clear hx276_0
        try clear hx277_0
        try clear p2
        try clear p274
        try clear p275
        try clear p276
        try clear p277
        try clear q2
        try clear q274
        try clear q275
        try clear q276
        try clear q277
        obtain ⟨kq,x3_10,rfl,HA,HJ10,BK272,HB⟩:=hcut
        cases kq with
        | zero => exact absurd HA.out (by simp [spec_LsSafe.j1])
        | succ kj10 =>
         have H:=HA.out
         clear HA
         simp only [spec_LsSafe.j1] at H
         by_cases c15 : 0 ≤ x5_1
         ·
          rw [if_pos c15] at H
          have c15b0 : decide (0 ≤ x5_1) = true:=decide_eq_true c15
          clear c15
          by_cases c16 : x5_1 < (l0_3.length : Int)
          ·
           rw [if_pos c16] at H
           have c16b0 : decide (x5_1 < (l0_3.length : Int)) = true:=decide_eq_true c16
           clear c16
           by_cases c17 : (rd l0_3 x5_1) > x4_1
           ·
            rw [if_pos c17] at H
            have c17b0 : decide (x4_1 < (rd l0_3 x5_1)) = true:=decide_eq_true c17
            clear c17
            have H':=Aside0.mk H
            clear H
            have hcz18_0 : wc.cell? ⟨gb272,0,none⟩ = some (.int .i64 a0_0):=(blk_cell BK272.out 0).trans rfl
            have hcz18_1 : wc.cell? ⟨gb272,1,none⟩ = some (.int .i64 a0_1):=(blk_cell BK272.out 1).trans rfl
            have hcz18_2 : wc.cell? ⟨gb272,2,none⟩ = some (.int .i64 a0_2):=(blk_cell BK272.out 2).trans rfl
            have hcz18_3 : wc.cell? ⟨gb272,3,none⟩ = some (.slice (some ad274) l0_3.length c0_3):=(blk_cell BK272.out 3).trans rfl
            have hcz18_4 : wc.cell? ⟨gb272,4,none⟩ = some (.int .i64 a0_4):=(blk_cell BK272.out 4).trans rfl
            have hcz18_5 : wc.cell? ⟨gb272,5,none⟩ = some (.int .i64 a0_5):=(blk_cell BK272.out 5).trans rfl
            have hcz18_6 : wc.cell? ⟨gb272,6,none⟩ = some (.slice A0_6 l0_6.length c0_6):=(blk_cell BK272.out 6).trans rfl
            have hfz18_0:=blk_frozen BK272.out 0
            have hfz18_1:=blk_frozen BK272.out 1
            have hfz18_2:=blk_frozen BK272.out 2
            have hfz18_3:=blk_frozen BK272.out 3
            have hfz18_4:=blk_frozen BK272.out 4
            have hfz18_5:=blk_frozen BK272.out 5
            have hfz18_6:=blk_frozen BK272.out 6
            have p278 : 0 ≤ (x5_1 : Int):=of_decide_eq_true (by first|(with_reducible assumption)|assumption)
            have q278 : x5_1 < (l0_3.length : Int):=of_decide_eq_true (by first|(with_reducible assumption)|assumption)
            obtain ⟨ad278,e278,hx278_0⟩:=Kd.at_int HR0_3.out x5_1 p278 q278
            obtain rfl : ad274 = ad278:=(by injection e278)
            replace hx278_0:=(HB.out.cell (World.block_lt_of_cell? w _ hx278_0)).trans hx278_0
            replace p278:=eq_true p278
            replace q278:=eq_true q278
            have p279 : 0 ≤ (x5_1 : Int):=of_decide_eq_true (by first|(with_reducible assumption)|assumption)
            have q279 : x5_1 < (l0_3.length : Int):=of_decide_eq_true (by first|(with_reducible assumption)|assumption)
            obtain ⟨ad279,e279,hx279_0⟩:=Kd.at_int HR0_3.out x5_1 p279 q279
            obtain rfl : ad274 = ad279:=(by injection e279)
            replace hx279_0:=(HB.out.cell (World.block_lt_of_cell? w _ hx279_0)).trans hx279_0
            replace p279:=eq_true p279
            replace q279:=eq_true q279
            go_wp2
            go_roundg kj10
            case measure => have:=HK1.out;have:=HJ10.out;omega
            case rel => exact ⟨(x3_10),(rd l0_3 x5_1),(wrap64 (x5_1 + 1)),(by first|rfl|(simp;done)|(simp [*];done)),(by first|rfl|(simp;done)|(simp [*];done)),(by first|rfl|(simp;done)|(simp [*];done)),H',⟨by have:=HK1.out;have:=HJ10.out;omega⟩,⟨by (with_reducible repeat (first|refine blk_drewN ?_ _|refine blk_drew ?_|refine blk_alloc ?_ _));exact BK272.out⟩,⟨by repeat (first|(with_reducible first|exact HB.out|apply below_alloc|apply pw_below_drewN|apply below_drew1|refine below_set ?_ GE272.out)|exact HB.out)⟩⟩
           ·
            rw [if_neg c17] at H
            have c17b0 : decide (x4_1 < (rd l0_3 x5_1)) = false:=decide_eq_false c17
            clear c17
            have H':=Aside0.mk H
            clear H
            have hcz19_0 : wc.cell? ⟨gb272,0,none⟩ = some (.int .i64 a0_0):=(blk_cell BK272.out 0).trans rfl
            have hcz19_1 : wc.cell? ⟨gb272,1,none⟩ = some (.int .i64 a0_1):=(blk_cell BK272.out 1).trans rfl
            have hcz19_2 : wc.cell? ⟨gb272,2,none⟩ = some (.int .i64 a0_2):=(blk_cell BK272.out 2).trans rfl
            have hcz19_3 : wc.cell? ⟨gb272,3,none⟩ = some (.slice (some ad274) l0_3.length c0_3):=(blk_cell BK272.out 3).trans rfl
            have hcz19_4 : wc.cell? ⟨gb272,4,none⟩ = some (.int .i64 a0_4):=(blk_cell BK272.out 4).trans rfl
            have hcz19_5 : wc.cell? ⟨gb272,5,none⟩ = some (.int .i64 a0_5):=(blk_cell BK272.out 5).trans rfl
            have hcz19_6 : wc.cell? ⟨gb272,6,none⟩ = some (.slice A0_6 l0_6.length c0_6):=(blk_cell BK272.out 6).trans rfl
            have hfz19_0:=blk_frozen BK272.out 0
            have hfz19_1:=blk_frozen BK272.out 1
            have hfz19_2:=blk_frozen BK272.out 2
            have hfz19_3:=blk_frozen BK272.out 3
            have hfz19_4:=blk_frozen BK272.out 4
            have hfz19_5:=blk_frozen BK272.out 5
            have hfz19_6:=blk_frozen BK272.out 6
            have p278 : 0 ≤ (x5_1 : Int):=of_decide_eq_true (by first|(with_reducible assumption)|assumption)
            have q278 : x5_1 < (l0_3.length : Int):=of_decide_eq_true (by first|(with_reducible assumption)|assumption)
            obtain ⟨ad278,e278,hx278_0⟩:=Kd.at_int HR0_3.out x5_1 p278 q278
            obtain rfl : ad274 = ad278:=(by injection e278)
            replace hx278_0:=(HB.out.cell (World.block_lt_of_cell? w _ hx278_0)).trans hx278_0
            replace p278:=eq_true p278
            replace q278:=eq_true q278
            go_wp2
            go_roundg kj10
            case measure => have:=HK1.out;have:=HJ10.out;omega
            case rel => exact ⟨(x3_10),(x4_1),(wrap64 (x5_1 + 1)),(by first|rfl|(simp;done)|(simp [*];done)),(by first|rfl|(simp;done)|(simp [*];done)),(by first|rfl|(simp;done)|(simp [*];done)),H',⟨by have:=HK1.out;have:=HJ10.out;omega⟩,⟨by (with_reducible repeat (first|refine blk_drewN ?_ _|refine blk_drew ?_|refine blk_alloc ?_ _));exact BK272.out⟩,⟨by repeat (first|(with_reducible first|exact HB.out|apply below_alloc|apply pw_below_drewN|apply below_drew1|refine below_set ?_ GE272.out)|exact HB.out)⟩⟩
          ·
           rw [if_neg c16] at H
           exact absurd H (by simp)
         ·
          rw [if_neg c15] at H
          exact absurd H (by simp)
      ·
       rw [if_neg c10] at H
       exact absurd H (by simp)
     ·
      rw [if_neg c9] at H
      have c9b0 : decide (x5_1 < (l0_3.length : Int)) = false:=decide_eq_false c9
      clear c9
      obtain rfl:=Option.some.inj H
      have hcz20_0 : wr.cell? ⟨gb272,0,none⟩ = some (.int .i64 a0_0):=(blk_cell BK272.out 0).trans rfl
      have hcz20_1 : wr.cell? ⟨gb272,1,none⟩ = some (.int .i64 a0_1):=(blk_cell BK272.out 1).trans rfl
      have hcz20_2 : wr.cell? ⟨gb272,2,none⟩ = some (.int .i64 a0_2):=(blk_cell BK272.out 2).trans rfl
      have hcz20_3 : wr.cell? ⟨gb272,3,none⟩ = some (.slice (some ad274) l0_3.length c0_3):=(blk_cell BK272.out 3).trans rfl
      have hcz20_4 : wr.cell? ⟨gb272,4,none⟩ = some (.int .i64 a0_4):=(blk_cell BK272.out 4).trans rfl
      have hcz20_5 : wr.cell? ⟨gb272,5,none⟩ = some (.int .i64 a0_5):=(blk_cell BK272.out 5).trans rfl
      have hcz20_6 : wr.cell? ⟨gb272,6,none⟩ = some (.slice A0_6 l0_6.length c0_6):=(blk_cell BK272.out 6).trans rfl
      have hfz20_0:=blk_frozen BK272.out 0
      have hfz20_1:=blk_frozen BK272.out 1
      have hfz20_2:=blk_frozen BK272.out 2
      have hfz20_3:=blk_frozen BK272.out 3
      have hfz20_4:=blk_frozen BK272.out 4
      have hfz20_5:=blk_frozen BK272.out 5
      have hfz20_6:=blk_frozen BK272.out 6
      go_wp2
      go_ret
      exact ⟨by first|rfl|(simp [errW_none,errW_some] <;> rfl)|(simp [*,errW_none,errW_some] <;> rfl),by repeat (first|(with_reducible first|exact HB.out|apply below_alloc|apply pw_below_drewN|apply below_drew1|refine below_set ?_ GE272.out)|exact HB.out)⟩
  ·
   rw [if_neg c4] at H
   exact absurd H (by simp)
 ·
  replace c3:=Bool.eq_false_iff.mpr c3
  subst c3
  have H1 : (some false) = some r:=by rw [if_neg (show ¬ (false = true) by decide)] at H;exact H
  clear H
  have H:=H1
  clear H1
  obtain rfl:=Option.some.inj H
  go_enter Try.func21,Try.ntmps21
  go_wp2_with (first|((with_reducible refine gate_dst (N:=1) rfl ?_);refine box_event ?hg (N:=1) ?hd (cs:=#[.int .i64 a0_0,.int .i64 a0_1,.int .i64 a0_2,.slice A0_3 l0_3.length c0_3,.int .i64 a0_4,.int .i64 a0_5,.slice A0_6 l0_6.length c0_6]) (t:=30) ?hr ?_;(case hd => rfl);(case hg => rfl);(case hr => first|(go_simp;done)|(go_simp;rfl));intro gb272 hg w21 hbox hb;have n0_:=Aside0.mk (below_step (by repeat (first|(with_reducible first|exact HB.out|apply below_alloc|apply pw_below_drewN|apply below_drew1)|exact HB.out)) hb);have n1_:=Aside0.mk (hbox);have n2_:=Aside0.mk ((by rw [hg];exact (below_size (by repeat (first|(with_reducible first|exact HB.out|apply below_alloc|apply pw_below_drewN|apply below_drew1)|exact HB.out))) : w.heap.size ≤ gb272));have n3_:=Aside0.mk ((by rw [hg];exact (below_size (by repeat (first|(with_reducible first|exact HB.out|apply below_alloc|apply pw_below_drewN|apply below_drew1)|exact HB.out))) : w.heap.size ≤ gb272));clear HB;have HB:=n0_;have BK272:=n1_;have GW272:=n2_;have GE272:=n3_;clear n0_ n1_ n2_ n3_;clear hb hbox hg;have hcz22_0 : w21.cell? ⟨gb272,0,none⟩ = some (.int .i64 a0_0):=(blk_cell BK272.out 0).trans rfl;have hcz22_1 : w21.cell? ⟨gb272,1,none⟩ = some (.int .i64 a0_1):=(blk_cell BK272.out 1).trans rfl;have hcz22_2 : w21.cell? ⟨gb272,2,none⟩ = some (.int .i64 a0_2):=(blk_cell BK272.out 2).trans rfl;have hcz22_3 : w21.cell? ⟨gb272,3,none⟩ = some (.slice A0_3 l0_3.length c0_3):=(blk_cell BK272.out 3).trans rfl;have hcz22_4 : w21.cell? ⟨gb272,4,none⟩ = some (.int .i64 a0_4):=(blk_cell BK272.out 4).trans rfl;have hcz22_5 : w21.cell? ⟨gb272,5,none⟩ = some (.int .i64 a0_5):=(blk_cell BK272.out 5).trans rfl;have hcz22_6 : w21.cell? ⟨gb272,6,none⟩ = some (.slice A0_6 l0_6.length c0_6):=(blk_cell BK272.out 6).trans rfl;have hfz22_0:=blk_frozen BK272.out 0;have hfz22_1:=blk_frozen BK272.out 1;have hfz22_2:=blk_frozen BK272.out 2;have hfz22_3:=blk_frozen BK272.out 3;have hfz22_4:=blk_frozen BK272.out 4;have hfz22_5:=blk_frozen BK272.out 5;have hfz22_6:=blk_frozen BK272.out 6)|((with_reducible refine gate_callee (f:=15) rfl ?_);refine goesL_ (some 7) rfl rfl Try.func15 (by kernel_rfl) rfl #[.agg #[.int .i64 a0_0,.int .i64 a0_1,.int .i64 a0_2,.slice A0_3 l0_3.length c0_3,.int .i64 a0_4,.int .i64 a0_5,.slice A0_6 l0_6.length c0_6]] rfl (by (try simp only [List.map_toArray,List.map_cons,List.map_nil]);first|done|rfl|(simp only [List.length_drop,List.length_take];rfl)) ?_;(with_reducible refine (spec_LsOk.calls k a0_0 a0_1 a0_2 _ _ l0_3 a0_4 a0_5 _ _ l0_6 false _ ?side1 ?side2 ?side3 ?side4 A2.out).mono ?_);(case side1 => repeat (first|exact (Kd.C_below HR0_3.out HB.out)|(with_reducible refine Kd.C_alloc ?_ _)|(with_reducible refine Kd.C_drewN ?_ _)|(with_reducible refine Kd.C_drew ?_)));(case side2 => exact HC0_3.out);(case side3 => repeat (first|exact (Kd.C_below HR0_6.out HB.out)|(with_reducible refine Kd.C_alloc ?_ _)|(with_reducible refine Kd.C_drewN ?_ _)|(with_reducible refine Kd.C_drew ?_)));(case side4 => exact HC0_6.out);rintro e w23 ⟨rfl,hb⟩;refine ⟨_,rfl,?_⟩;have n0_:=Aside0.mk (blk_below (g:=gb272) (o:=.cells #[.int .i64 a0_0,.int .i64 a0_1,.int .i64 a0_2,.slice A0_3 l0_3.length c0_3,.int .i64 a0_4,.int .i64 a0_5,.slice A0_6 l0_6.length c0_6] 30 (0,0)) (by (with_reducible repeat (first|refine blk_drewN ?_ _|refine blk_drew ?_|refine blk_alloc ?_ _));exact BK272.out) hb);have n1_:=Aside0.mk (below_step (by repeat (first|(with_reducible first|exact HB.out|apply below_alloc|apply pw_below_drewN|apply below_drew1|refine below_set ?_ GE272.out)|exact HB.out)) hb);clear BK272;clear HB;have BK272:=n0_;have HB:=n1_;clear n0_ n1_;(try clear hb);(try clear hb2);(try clear hk);(try clear hi)))
  go_ret
  exact ⟨by first|rfl|(simp [errW_none,errW_some] <;> rfl)|(simp [*,errW_none,errW_some] <;> rfl),by repeat (first|(with_reducible first|exact HB.out|apply below_alloc|apply pw_below_drewN|apply below_drew1|refine below_set ?_ GE272.out)|exact HB.out)⟩
def slices_Min_int.l0 : Nat → List Int → Int → Int → Option (Int)
  | 0,_,_,_ => none
  | k + 1,x0,x3,x4 => if x4 < (x0.length : Int) then (if 0 ≤ x4 then (slices_Min_int.l0 k x0 (mn x3 (rd x0 x4)) (wrap64 (x4 + 1))) else (none)) else (some x3)
def slices_Min_int.f (k : Nat) (l0 : List Int) : Option (Int):=if (l0.length : Int) < 1 then (none) else (if 0 < (l0.length : Int) then (slices_Min_int.l0 k l0 (rd l0 0) 1) else (none))
set_option maxHeartbeats 8000000 in
set_option maxRecDepth 100000 in
theorem slices_Min_int.calls (k : Nat) (A0 : Option Addr) (c0 : Nat) (l0 : List Int) (r : Int) (w : World) (hr0 : Kd.C (Kd.int .i64) w A0 l0.length l0) (hc0 : l0.length ≤ c0) (h : slices_Min_int.f k l0 = some r) :
  Calls Try.prog 56 #[.slice A0 l0.length c0] w fun e w' => e = .returned (.int .i64 r) ∧ Below w.heap.size w w':=by
 have HR0:=Aside0.mk hr0
 have HC0:=Aside0.mk hc0
 clear hr0 hc0
 have HB:=Aside0.mk (Below.refl w.heap.size w)
 have H : (if (l0.length : Int) < 1 then (none) else (if 0 < (l0.length : Int) then (slices_Min_int.l0 k l0 (rd l0 0) 1) else (none))) = some r:=h
 clear h
 by_cases c2 : (l0.length : Int) < 1
 ·
  rw [if_pos c2] at H
  exact absurd H (by simp)
 ·
  rw [if_neg c2] at H
  have c2b0 : decide ((l0.length : Int) < 1) = false:=decide_eq_false c2
  have c2b1 : decide (l0.length < 1) = false:=decide_eq_false (by omega)
  clear c2
  by_cases c3 : 0 < (l0.length : Int)
  ·
   rw [if_pos c3] at H
   have c3b0 : decide (0 < (l0.length : Int)) = true:=decide_eq_true c3
   have c3b1 : decide (0 < l0.length) = true:=decide_eq_true (by omega)
   clear c3
   have H':=Aside0.mk H
   clear H
   have p280 : 0 ≤ (0 : Int):=(by omega)
   have q280 : 0 < (l0.length : Int):=of_decide_eq_true (by first|(with_reducible assumption)|assumption)
   obtain ⟨ad280,e280,hx280_0⟩:=Kd.at_int HR0.out 0 p280 q280
   cases e280
   have qi280 : (0 < l0.length) = True:=eq_true (by omega)
   (try rw [show ((0 : Int)).toNat = 0 from rfl] at hx280_0)
   (try rw [Addr.add_zero'] at hx280_0)
   replace p280:=eq_true p280
   replace q280:=eq_true q280
   go_enter Try.func56,Try.ntmps56
   go_wp2
   go_loopg [3,4] k (fun kq v3 v4 w' => ∃ (x3_1 : Int) (x4_1 : Int),v3 = .int .i64 x3_1 ∧ v4 = .int .i64 x4_1 ∧ Aside0 (slices_Min_int.l0 kq l0 x3_1 x4_1 = some r) ∧ Aside0 (kq ≤ k) ∧ Aside0 (Below w.heap.size w w'))
   case atStart => exact ⟨(rd l0 0),(1),(by first|rfl|(simp;done)|(simp [*];done)),(by first|rfl|(simp;done)|(simp [*];done)),H',⟨Nat.le_refl _⟩,⟨by repeat (first|(with_reducible first|exact HB.out|apply below_alloc|apply pw_below_drewN|apply below_drew1)|exact HB.out)⟩⟩
   case round =>
    clear H'
    try clear c2
    try clear c2b0
    try clear c2b1
    try clear p2
    try clear q2
    try clear hx2
    try clear qi2
    try clear c3
    try clear c3b0
    try clear c3b1
    try clear hx280_0
    try clear p280
    try clear q280
    obtain ⟨x3_1,x4_1,rfl,rfl,HA,HK1,HB⟩:=hrel
    cases gk with
    | zero => exact absurd HA.out (by simp [slices_Min_int.l0])
    | succ k1 =>
     have H:=HA.out
     clear HA
     simp only [slices_Min_int.l0] at H
     by_cases c4 : x4_1 < (l0.length : Int)
     ·
      rw [if_pos c4] at H
      have c4b0 : decide (x4_1 < (l0.length : Int)) = true:=decide_eq_true c4
      clear c4
      by_cases c5 : 0 ≤ x4_1
      ·
       rw [if_pos c5] at H
       have c5b0 : decide (0 ≤ x4_1) = true:=decide_eq_true c5
       clear c5
       obtain ⟨ji6,hji6⟩ : ∃ j_ : Int,(mn x3_1 (rd l0 x4_1)) = j_:=⟨_,rfl⟩
       replace H : (slices_Min_int.l0 k1 l0 ji6 (wrap64 (x4_1 + 1))) = some r:=by first|(rw [hji6] at H;exact H)|(simp only [hji6] at H ⊢;exact H)
       have hji6_ : (if (rd l0 x4_1) < x3_1 then (rd l0 x4_1) else x3_1) = ji6:=hji6
       have H':=Aside0.mk H
       clear H
       have p281 : 0 ≤ (x4_1 : Int):=of_decide_eq_true (by first|(with_reducible assumption)|assumption)
       have q281 : x4_1 < (l0.length : Int):=of_decide_eq_true (by first|(with_reducible assumption)|assumption)
       obtain ⟨ad281,e281,hx281_0⟩:=Kd.at_int HR0.out x4_1 p281 q281
       obtain rfl : ad280 = ad281:=(by injection e281)
       replace hx281_0:=(HB.out.cell (World.block_lt_of_cell? w _ hx281_0)).trans hx281_0
       replace p281:=eq_true p281
       replace q281:=eq_true q281
       go_wp2
       go_roundg k1
       case measure => have:=HK1.out;omega
       case rel => exact ⟨(ji6),(wrap64 (x4_1 + 1)),(by first|rfl|(simp;done)|(simp only [← hji6] <;> (first|rfl|simp))|(simp [*];done)),(by first|rfl|(simp;done)|(simp [*];done)),H',⟨by have:=HK1.out;omega⟩,⟨by repeat (first|(with_reducible first|exact HB.out|apply below_alloc|apply pw_below_drewN|apply below_drew1)|exact HB.out)⟩⟩
      ·
       rw [if_neg c5] at H
       exact absurd H (by simp)
     ·
      rw [if_neg c4] at H
      have c4b0 : decide (x4_1 < (l0.length : Int)) = false:=decide_eq_false c4
      clear c4
      obtain rfl:=Option.some.inj H
      go_wp2
      go_ret
      exact ⟨by first|rfl|(simp [errW_none,errW_some] <;> rfl)|(simp [*,errW_none,errW_some] <;> rfl),by repeat (first|(with_reducible first|exact HB.out|apply below_alloc|apply pw_below_drewN|apply below_drew1)|exact HB.out)⟩
  ·
   rw [if_neg c3] at H
   exact absurd H (by simp)
def slices_Max_int.l0 : Nat → List Int → Int → Int → Option (Int)
  | 0,_,_,_ => none
  | k + 1,x0,x3,x4 => if x4 < (x0.length : Int) then (if 0 ≤ x4 then (slices_Max_int.l0 k x0 (mx x3 (rd x0 x4)) (wrap64 (x4 + 1))) else (none)) else (some x3)
def slices_Max_int.f (k : Nat) (l0 : List Int) : Option (Int):=if (l0.length : Int) < 1 then (none) else (if 0 < (l0.length : Int) then (slices_Max_int.l0 k l0 (rd l0 0) 1) else (none))
set_option maxHeartbeats 8000000 in
set_option maxRecDepth 100000 in
theorem slices_Max_int.calls (k : Nat) (A0 : Option Addr) (c0 : Nat) (l0 : List Int) (r : Int) (w : World) (hr0 : Kd.C (Kd.int .i64) w A0 l0.length l0) (hc0 : l0.length ≤ c0) (h : slices_Max_int.f k l0 = some r) :
  Calls Try.prog 57 #[.slice A0 l0.length c0] w fun e w' => e = .returned (.int .i64 r) ∧ Below w.heap.size w w':=by
 have HR0:=Aside0.mk hr0
 have HC0:=Aside0.mk hc0
 clear hr0 hc0
 have HB:=Aside0.mk (Below.refl w.heap.size w)
 have H : (if (l0.length : Int) < 1 then (none) else (if 0 < (l0.length : Int) then (slices_Max_int.l0 k l0 (rd l0 0) 1) else (none))) = some r:=h
 clear h
 by_cases c2 : (l0.length : Int) < 1
 ·
  rw [if_pos c2] at H
  exact absurd H (by simp)
 ·
  rw [if_neg c2] at H
  have c2b0 : decide ((l0.length : Int) < 1) = false:=decide_eq_false c2
  have c2b1 : decide (l0.length < 1) = false:=decide_eq_false (by omega)
  clear c2
  by_cases c3 : 0 < (l0.length : Int)
  ·
   rw [if_pos c3] at H
   have c3b0 : decide (0 < (l0.length : Int)) = true:=decide_eq_true c3
   have c3b1 : decide (0 < l0.length) = true:=decide_eq_true (by omega)
   clear c3
   have H':=Aside0.mk H
   clear H
   have p282 : 0 ≤ (0 : Int):=(by omega)
   have q282 : 0 < (l0.length : Int):=of_decide_eq_true (by first|(with_reducible assumption)|assumption)
   obtain ⟨ad282,e282,hx282_0⟩:=Kd.at_int HR0.out 0 p282 q282
   cases e282
   have qi282 : (0 < l0.length) = True:=eq_true (by omega)
   (try rw [show ((0 : Int)).toNat = 0 from rfl] at hx282_0)
   (try rw [Addr.add_zero'] at hx282_0)
   replace p282:=eq_true p282
   replace q282:=eq_true q282
   go_enter Try.func57,Try.ntmps57
   go_wp2
   go_loopg [3,4] k (fun kq v3 v4 w' => ∃ (x3_1 : Int) (x4_1 : Int),v3 = .int .i64 x3_1 ∧ v4 = .int .i64 x4_1 ∧ Aside0 (slices_Max_int.l0 kq l0 x3_1 x4_1 = some r) ∧ Aside0 (kq ≤ k) ∧ Aside0 (Below w.heap.size w w'))
   case atStart => exact ⟨(rd l0 0),(1),(by first|rfl|(simp;done)|(simp [*];done)),(by first|rfl|(simp;done)|(simp [*];done)),H',⟨Nat.le_refl _⟩,⟨by repeat (first|(with_reducible first|exact HB.out|apply below_alloc|apply pw_below_drewN|apply below_drew1)|exact HB.out)⟩⟩
   case round =>
    clear H'
    try clear c2
    try clear c2b0
    try clear c2b1
    try clear p2
    try clear q2
    try clear hx2
    try clear qi2
    try clear c3
    try clear c3b0
    try clear c3b1
    try clear hx282_0
    try clear p282
    try clear q282
    obtain ⟨x3_1,x4_1,rfl,rfl,HA,HK1,HB⟩:=hrel
    cases gk with
    | zero => exact absurd HA.out (by simp [slices_Max_int.l0])
    | succ k1 =>
     have H:=HA.out
     clear HA
     simp only [slices_Max_int.l0] at H
     by_cases c4 : x4_1 < (l0.length : Int)
     ·
      rw [if_pos c4] at H
      have c4b0 : decide (x4_1 < (l0.length : Int)) = true:=decide_eq_true c4
      clear c4
      by_cases c5 : 0 ≤ x4_1
      ·
       rw [if_pos c5] at H
       have c5b0 : decide (0 ≤ x4_1) = true:=decide_eq_true c5
       clear c5
       obtain ⟨ji6,hji6⟩ : ∃ j_ : Int,(mx x3_1 (rd l0 x4_1)) = j_:=⟨_,rfl⟩
       replace H : (slices_Max_int.l0 k1 l0 ji6 (wrap64 (x4_1 + 1))) = some r:=by first|(rw [hji6] at H;exact H)|(simp only [hji6] at H ⊢;exact H)
       have hji6_ : (if x3_1 < (rd l0 x4_1) then (rd l0 x4_1) else x3_1) = ji6:=hji6
       have H':=Aside0.mk H
       clear H
       have p283 : 0 ≤ (x4_1 : Int):=of_decide_eq_true (by first|(with_reducible assumption)|assumption)
       have q283 : x4_1 < (l0.length : Int):=of_decide_eq_true (by first|(with_reducible assumption)|assumption)
       obtain ⟨ad283,e283,hx283_0⟩:=Kd.at_int HR0.out x4_1 p283 q283
       obtain rfl : ad282 = ad283:=(by injection e283)
       replace hx283_0:=(HB.out.cell (World.block_lt_of_cell? w _ hx283_0)).trans hx283_0
       replace p283:=eq_true p283
       replace q283:=eq_true q283
       go_wp2
       go_roundg k1
       case measure => have:=HK1.out;omega
       case rel => exact ⟨(ji6),(wrap64 (x4_1 + 1)),(by first|rfl|(simp;done)|(simp only [← hji6] <;> (first|rfl|simp))|(simp [*];done)),(by first|rfl|(simp;done)|(simp [*];done)),H',⟨by have:=HK1.out;omega⟩,⟨by repeat (first|(with_reducible first|exact HB.out|apply below_alloc|apply pw_below_drewN|apply below_drew1)|exact HB.out)⟩⟩
      ·
       rw [if_neg c5] at H
       exact absurd H (by simp)
     ·
      rw [if_neg c4] at H
      have c4b0 : decide (x4_1 < (l0.length : Int)) = false:=decide_eq_false c4
      clear c4
      obtain rfl:=Option.some.inj H
      go_wp2
      go_ret
      exact ⟨by first|rfl|(simp [errW_none,errW_some] <;> rfl)|(simp [*,errW_none,errW_some] <;> rfl),by repeat (first|(with_reducible first|exact HB.out|apply below_alloc|apply pw_below_drewN|apply below_drew1)|exact HB.out)⟩
  ·
   rw [if_neg c3] at H
   exact absurd H (by simp)
end Go.Proofs.Ytnldanonpdijgaa.P
