-- Ours: printed or written for this claim; cut to what the theorem needs.
import Derived.Test.YtnldanonpdijgaaZPx0
import Derived.Test.YtnldanonpdijgaaZPx3
import Derived.Test.YtnldanonpdijgaaZPx6
import Derived.Test.YtnldanonpdijgaaZPx17
open Bool renaming true → T, false → F
namespace Go.Proofs.Ytnldanonpdijgaa.P
open Go.RowKit Go.Proofs.YtnldanonpdijgaaW.PrintWords Go.Proofs.YtnldanonpdijgaaW.PrintLast Go.Proofs.YtnldanonpdijgaaW.PrintMore
attribute [local go_sem] max2_int min2_int max_two min_two max_three min_three max_four min_four
set_option linter.unusedVariables false
set_option linter.unusedSimpArgs false
def impl_LsTick.f (k : Nat) (a0_0 : Int) (a0_1 : Int) (a0_2 : Int) (l0_3 : List Int) (a0_4 : Int) (a0_5 : Int) (l0_6 : List (S50)) (a1 : Int) : Option (Int × Int × Int × List Int × Int × Int × (List (S50)) × Bool):=(impl_isLs.f k a0_0 a0_1 a0_2 l0_3 a0_4 a0_5 l0_6).bind fun t473 => (if t473 = true then ((impl_Ls_copied.f a0_0 a0_1 a0_2 l0_3 a0_4 a0_5 l0_6).bind fun bt474 => ((impl_in.f a1 1 1000).bind fun t486 => (if t486 = true then (if (wrap64 (bt474.2.2.1 + a1)) > 100000 then (some (bt474.1,bt474.2.1,bt474.2.2.1,bt474.2.2.2.1,bt474.2.2.2.2.1,bt474.2.2.2.2.2.1,bt474.2.2.2.2.2.2,false)) else (some (bt474.1,bt474.2.1,wrap64 (bt474.2.2.1 + a1),bt474.2.2.2.1,bt474.2.2.2.2.1,bt474.2.2.2.2.2.1,bt474.2.2.2.2.2.2,true))) else (some (bt474.1,bt474.2.1,bt474.2.2.1,bt474.2.2.2.1,bt474.2.2.2.2.1,bt474.2.2.2.2.2.1,bt474.2.2.2.2.2.2,false))))) else (some (0,0,0,([] : List Int),0,0,([] : List (S50)),false)))
set_option maxHeartbeats 8000000 in
set_option maxRecDepth 100000 in
theorem impl_LsTick.calls (k : Nat) (a0_0 : Int) (a0_1 : Int) (a0_2 : Int) (A0_3 : Option Addr) (c0_3 : Nat) (l0_3 : List Int) (a0_4 : Int) (a0_5 : Int) (A0_6 : Option Addr) (c0_6 : Nat) (l0_6 : List (S50)) (a1 : Int) (r1 : Int) (r2 : Int) (r3 : Int) (r4 : List Int) (r5 : Int) (r6 : Int) (r7 : List (S50)) (r8 : Bool) (w : World) (hr0_3 : Kd.C (Kd.int .i64) w A0_3 l0_3.length l0_3) (hc0_3 : l0_3.length ≤ c0_3) (hr0_6 : Kd.C k50 w A0_6 l0_6.length l0_6) (hc0_6 : l0_6.length ≤ c0_6) (h : impl_LsTick.f k a0_0 a0_1 a0_2 l0_3 a0_4 a0_5 l0_6 a1 = some (r1,r2,r3,r4,r5,r6,r7,r8)) :
  Calls Try.prog 32 #[.agg #[.int .i64 a0_0,.int .i64 a0_1,.int .i64 a0_2,.slice A0_3 l0_3.length c0_3,.int .i64 a0_4,.int .i64 a0_5,.slice A0_6 l0_6.length c0_6],.int .i64 a1] w fun e w' => ∃ v3_ v6_ : Value,e = .returned (.tuple #[.agg #[.int .i64 r1,.int .i64 r2,.int .i64 r3,v3_,.int .i64 r5,.int .i64 r6,v6_],.bool r8]) ∧ Kd.R (Kd.int .i64) 3 w' w.heap.size (fun _ => True) v3_ r4 ∧ Kd.R k50 50 w' w.heap.size (fun _ => True) v6_ r7 ∧ Below w.heap.size w w':=by
 have hu30:=Try.underlying30
 have HR0_3:=Aside0.mk hr0_3
 have HC0_3:=Aside0.mk hc0_3
 clear hr0_3 hc0_3
 have HR0_6:=Aside0.mk hr0_6
 have HC0_6:=Aside0.mk hc0_6
 clear hr0_6 hc0_6
 have HB:=Aside0.mk (Below.refl w.heap.size w)
 have H : ((impl_isLs.f k a0_0 a0_1 a0_2 l0_3 a0_4 a0_5 l0_6).bind fun t473 => (if t473 = true then ((impl_Ls_copied.f a0_0 a0_1 a0_2 l0_3 a0_4 a0_5 l0_6).bind fun bt474 => ((impl_in.f a1 1 1000).bind fun t486 => (if t486 = true then (if (wrap64 (bt474.2.2.1 + a1)) > 100000 then (some (bt474.1,bt474.2.1,bt474.2.2.1,bt474.2.2.2.1,bt474.2.2.2.2.1,bt474.2.2.2.2.2.1,bt474.2.2.2.2.2.2,false)) else (some (bt474.1,bt474.2.1,wrap64 (bt474.2.2.1 + a1),bt474.2.2.2.1,bt474.2.2.2.2.1,bt474.2.2.2.2.2.1,bt474.2.2.2.2.2.2,true))) else (some (bt474.1,bt474.2.1,bt474.2.2.1,bt474.2.2.2.1,bt474.2.2.2.2.1,bt474.2.2.2.2.2.1,bt474.2.2.2.2.2.2,false))))) else (some (0,0,0,([] : List Int),0,0,([] : List (S50)),false)))) = some (r1,r2,r3,r4,r5,r6,r7,r8):=h
 clear h
 replace H:=Option.bind_eq_some_iff.mp H
 obtain ⟨t473,A30,H⟩:=H
 replace H : (if t473 = true then ((impl_Ls_copied.f a0_0 a0_1 a0_2 l0_3 a0_4 a0_5 l0_6).bind fun bt474 => ((impl_in.f a1 1 1000).bind fun t486 => (if t486 = true then (if (wrap64 (bt474.2.2.1 + a1)) > 100000 then (some (bt474.1,bt474.2.1,bt474.2.2.1,bt474.2.2.2.1,bt474.2.2.2.2.1,bt474.2.2.2.2.2.1,bt474.2.2.2.2.2.2,false)) else (some (bt474.1,bt474.2.1,wrap64 (bt474.2.2.1 + a1),bt474.2.2.2.1,bt474.2.2.2.2.1,bt474.2.2.2.2.2.1,bt474.2.2.2.2.2.2,true))) else (some (bt474.1,bt474.2.1,bt474.2.2.1,bt474.2.2.2.1,bt474.2.2.2.2.1,bt474.2.2.2.2.2.1,bt474.2.2.2.2.2.2,false))))) else (some (0,0,0,([] : List Int),0,0,([] : List (S50)),false))) = some (r1,r2,r3,r4,r5,r6,r7,r8):=H
 have A3:=Aside0.mk A30
 clear A30
 by_cases c4 : t473 = true
 ·
  subst c4
  have H1 : ((impl_Ls_copied.f a0_0 a0_1 a0_2 l0_3 a0_4 a0_5 l0_6).bind fun bt474 => ((impl_in.f a1 1 1000).bind fun t486 => (if t486 = true then (if (wrap64 (bt474.2.2.1 + a1)) > 100000 then (some (bt474.1,bt474.2.1,bt474.2.2.1,bt474.2.2.2.1,bt474.2.2.2.2.1,bt474.2.2.2.2.2.1,bt474.2.2.2.2.2.2,false)) else (some (bt474.1,bt474.2.1,wrap64 (bt474.2.2.1 + a1),bt474.2.2.2.1,bt474.2.2.2.2.1,bt474.2.2.2.2.2.1,bt474.2.2.2.2.2.2,true))) else (some (bt474.1,bt474.2.1,bt474.2.2.1,bt474.2.2.2.1,bt474.2.2.2.2.1,bt474.2.2.2.2.2.1,bt474.2.2.2.2.2.2,false))))) = some (r1,r2,r3,r4,r5,r6,r7,r8):=by rw [if_pos rfl] at H;exact H
  clear H
  have H:=H1
  clear H1
  replace H:=Option.bind_eq_some_iff.mp H
  obtain ⟨⟨t474,t475,t476,t477,t480,t481,t482⟩,A50,H⟩:=H
  replace H : ((impl_in.f a1 1 1000).bind fun t486 => (if t486 = true then (if (wrap64 (t476 + a1)) > 100000 then (some (t474,t475,t476,t477,t480,t481,t482,false)) else (some (t474,t475,wrap64 (t476 + a1),t477,t480,t481,t482,true))) else (some (t474,t475,t476,t477,t480,t481,t482,false)))) = some (r1,r2,r3,r4,r5,r6,r7,r8):=H
  have A5:=Aside0.mk A50
  clear A50
  replace H:=Option.bind_eq_some_iff.mp H
  obtain ⟨t486,A60,H⟩:=H
  replace H : (if t486 = true then (if (wrap64 (t476 + a1)) > 100000 then (some (t474,t475,t476,t477,t480,t481,t482,false)) else (some (t474,t475,wrap64 (t476 + a1),t477,t480,t481,t482,true))) else (some (t474,t475,t476,t477,t480,t481,t482,false))) = some (r1,r2,r3,r4,r5,r6,r7,r8):=H
  have A6:=Aside0.mk A60
  clear A60
  by_cases c7 : t486 = true
  ·
   subst c7
   have H1 : (if (wrap64 (t476 + a1)) > 100000 then (some (t474,t475,t476,t477,t480,t481,t482,false)) else (some (t474,t475,wrap64 (t476 + a1),t477,t480,t481,t482,true))) = some (r1,r2,r3,r4,r5,r6,r7,r8):=by rw [if_pos rfl] at H;exact H
   clear H
   have H:=H1
   clear H1
   by_cases c8 : (wrap64 (t476 + a1)) > 100000
   ·
    rw [if_pos c8] at H
    have c8b0 : decide (100000 < (wrap64 (t476 + a1))) = true:=decide_eq_true c8
    clear c8
    simp only [Option.some.injEq,Prod.mk.injEq] at H
    obtain ⟨rfl,rfl,rfl,rfl,rfl,rfl,rfl,rfl⟩:=H
    go_enter Try.func32,Try.ntmps32
    try go_wp2_with (first|((with_reducible refine gate_dst (N:=2) rfl ?_);(with_reducible refine gate_at_ (s := "l18_clock.go:120") rfl ?_);refine box_event ?hg (N:=2) ?hd (cs:=#[.int .i64 a0_0,.int .i64 a0_1,.int .i64 a0_2,.slice A0_3 l0_3.length c0_3,.int .i64 a0_4,.int .i64 a0_5,.slice A0_6 l0_6.length c0_6]) (t:=30) ?hr ?_;(case hd => rfl);(case hg => rfl);(case hr => first|(go_simp;done)|(go_simp;rfl));intro gb468 hg w9 hbox hb;have n0_:=Aside0.mk (below_step (by exact HB.out) hb);have n1_:=Aside0.mk (hbox);have n2_:=Aside0.mk ((by rw [hg];exact (below_size (by exact HB.out)) : w.heap.size ≤ gb468));have n3_:=Aside0.mk ((by rw [hg];exact (below_size (by exact HB.out)) : w.heap.size ≤ gb468));clear HB;have HB:=n0_;have BK468:=n1_;have GW468:=n2_;have GE468:=n3_;clear n0_ n1_ n2_ n3_;clear hb hbox hg)|((with_reducible refine gate_dst (N:=3) rfl ?_);(with_reducible refine gate_at_ (s := "l18_clock.go:120") rfl ?_);refine box_event ?hg (N:=3) ?hd (cs:=#[.int .i64 a1]) (t:=3) ?hr ?_;(case hd => rfl);(case hg => rfl);(case hr => first|(go_simp;done)|(go_simp;rfl));intro gb469 hg w10 hbox hb;have n0_:=Aside0.mk (blk_below BK468.out hb);have n1_:=Aside0.mk (below_step (by exact HB.out) hb);have n2_:=Aside0.mk (hbox);have n3_:=Aside0.mk ((by rw [hg];exact (below_size (by exact HB.out)) : w.heap.size ≤ gb469));have n4_:=Aside0.mk ((by rw [hg];exact (below_size (by exact HB.out)) : w.heap.size ≤ gb469));have n5_:=Aside0.mk ((by rw [hg];exact Nat.ne_of_lt (blk_lt BK468.out) : gb468 ≠ gb469));have n6_:=Aside0.mk ((by rw [hg];exact Nat.ne_of_gt (blk_lt BK468.out) : gb469 ≠ gb468));clear BK468;clear HB;have BK468:=n0_;have HB:=n1_;have BK469:=n2_;have GW469:=n3_;have GE469:=n4_;have NB468_469:=n5_;have NB469_468:=n6_;clear n0_ n1_ n2_ n3_ n4_ n5_ n6_;clear hb hbox hg)|((with_reducible refine gate_dst (N:=4) rfl ?_);(with_reducible refine gate_at_ (s := "l18_clock.go:120") rfl ?_);refine box_event ?hg (N:=4) ?hd (cs:=#[.int .i64 0,.int .i64 0,.int .i64 0,.slice none 0 0,.int .i64 0,.int .i64 0,.slice none 0 0]) (t:=30) ?hr ?_;(case hd => rfl);(case hg => rfl);(case hr => first|(go_simp;done)|(go_simp;rfl));intro gb470 hg w11 hbox hb;have n0_:=Aside0.mk (blk_below BK468.out hb);have n1_:=Aside0.mk (blk_below BK469.out hb);have n2_:=Aside0.mk (below_step (by exact HB.out) hb);have n3_:=Aside0.mk (hbox);have n4_:=Aside0.mk ((by rw [hg];exact (below_size (by exact HB.out)) : w.heap.size ≤ gb470));have n5_:=Aside0.mk ((by rw [hg];exact (below_size (by exact HB.out)) : w.heap.size ≤ gb470));have n6_:=Aside0.mk ((by rw [hg];exact Nat.ne_of_lt (blk_lt BK468.out) : gb468 ≠ gb470));have n7_:=Aside0.mk ((by rw [hg];exact Nat.ne_of_gt (blk_lt BK468.out) : gb470 ≠ gb468));have n8_:=Aside0.mk ((by rw [hg];exact Nat.ne_of_lt (blk_lt BK469.out) : gb469 ≠ gb470));have n9_:=Aside0.mk ((by rw [hg];exact Nat.ne_of_gt (blk_lt BK469.out) : gb470 ≠ gb469));clear BK468;clear BK469;clear HB;have BK468:=n0_;have BK469:=n1_;have HB:=n2_;have BK470:=n3_;have GW470:=n4_;have GE470:=n5_;have NB468_470:=n6_;have NB470_468:=n7_;have NB469_470:=n8_;have NB470_469:=n9_;clear n0_ n1_ n2_ n3_ n4_ n5_ n6_ n7_ n8_ n9_;clear hb hbox hg;have hnb12:=NB468_469.out;have hnc12:=NB469_468.out;have hnb13:=NB468_470.out;have hnc13:=NB470_468.out;have hcz14_0 : w11.cell? ⟨gb468,0,none⟩ = some (.int .i64 a0_0):=(blk_cell BK468.out 0).trans rfl;have hcz14_1 : w11.cell? ⟨gb468,1,none⟩ = some (.int .i64 a0_1):=(blk_cell BK468.out 1).trans rfl;have hcz14_2 : w11.cell? ⟨gb468,2,none⟩ = some (.int .i64 a0_2):=(blk_cell BK468.out 2).trans rfl;have hcz14_3 : w11.cell? ⟨gb468,3,none⟩ = some (.slice A0_3 l0_3.length c0_3):=(blk_cell BK468.out 3).trans rfl;have hcz14_4 : w11.cell? ⟨gb468,4,none⟩ = some (.int .i64 a0_4):=(blk_cell BK468.out 4).trans rfl;have hcz14_5 : w11.cell? ⟨gb468,5,none⟩ = some (.int .i64 a0_5):=(blk_cell BK468.out 5).trans rfl;have hcz14_6 : w11.cell? ⟨gb468,6,none⟩ = some (.slice A0_6 l0_6.length c0_6):=(blk_cell BK468.out 6).trans rfl;have hfz14_0:=blk_frozen BK468.out 0;have hfz14_1:=blk_frozen BK468.out 1;have hfz14_2:=blk_frozen BK468.out 2;have hfz14_3:=blk_frozen BK468.out 3;have hfz14_4:=blk_frozen BK468.out 4;have hfz14_5:=blk_frozen BK468.out 5;have hfz14_6:=blk_frozen BK468.out 6)|(go_at_call 63;go_in)|((with_reducible refine gate_dst (N:=2) rfl ?_);(with_reducible refine gate_at_ (s := "l18_clock.go:105") rfl ?_);refine box_event ?hg (N:=2) ?hd (cs:=#[.int .i64 a0_0,.int .i64 a0_1,.int .i64 a0_2,.slice A0_3 l0_3.length c0_3,.int .i64 a0_4,.int .i64 a0_5,.slice A0_6 l0_6.length c0_6]) (t:=30) ?hr ?_;(case hd => rfl);(case hg => rfl);(case hr => first|(go_simp;done)|(go_simp;rfl));intro gb471 hg w15 hbox hb;have n0_:=Aside0.mk (blk_below BK469.out hb);have n1_:=Aside0.mk (blk_below BK470.out hb);have n2_:=Aside0.mk (below_step (by exact HB.out) hb);have n3_:=Aside0.mk (hbox);have n4_:=Aside0.mk ((by rw [hg];exact (below_size (by exact HB.out)) : w.heap.size ≤ gb471));have n5_:=Aside0.mk ((by rw [hg];exact (below_size (by exact HB.out)) : w.heap.size ≤ gb471));have n6_:=Aside0.mk ((by rw [hg];exact Nat.ne_of_lt (blk_lt BK469.out) : gb469 ≠ gb471));have n7_:=Aside0.mk ((by rw [hg];exact Nat.ne_of_gt (blk_lt BK469.out) : gb471 ≠ gb469));have n8_:=Aside0.mk ((by rw [hg];exact Nat.ne_of_lt (blk_lt BK470.out) : gb470 ≠ gb471));have n9_:=Aside0.mk ((by rw [hg];exact Nat.ne_of_gt (blk_lt BK470.out) : gb471 ≠ gb470));clear BK469;clear BK470;clear HB;(try clear BK468);(try clear GW468);(try clear GE468);(try clear NB468_469);(try clear NB469_468);(try clear NB468_470);(try clear NB470_468);have BK469:=n0_;have BK470:=n1_;have HB:=n2_;have BK471:=n3_;have GW471:=n4_;have GE471:=n5_;have NB469_471:=n6_;have NB471_469:=n7_;have NB470_471:=n8_;have NB471_470:=n9_;clear n0_ n1_ n2_ n3_ n4_ n5_ n6_ n7_ n8_ n9_;clear hb hbox hg)|((with_reducible refine gate_dst (N:=4) rfl ?_);(with_reducible refine gate_at_ (s := "l18_clock.go:105") rfl ?_);refine box_event ?hg (N:=4) ?hd (cs:=#[.int .i64 0,.int .i64 0,.int .i64 0,.slice none 0 0,.int .i64 0,.int .i64 0,.slice none 0 0]) (t:=30) ?hr ?_;(case hd => rfl);(case hg => rfl);(case hr => first|(go_simp;done)|(go_simp;rfl));intro gb472 hg w16 hbox hb;have n0_:=Aside0.mk (blk_below BK469.out hb);have n1_:=Aside0.mk (blk_below BK470.out hb);have n2_:=Aside0.mk (blk_below BK471.out hb);have n3_:=Aside0.mk (below_step (by exact HB.out) hb);have n4_:=Aside0.mk (hbox);have n5_:=Aside0.mk ((by rw [hg];exact (below_size (by exact HB.out)) : w.heap.size ≤ gb472));have n6_:=Aside0.mk ((by rw [hg];exact (below_size (by exact HB.out)) : w.heap.size ≤ gb472));have n7_:=Aside0.mk ((by rw [hg];exact Nat.ne_of_lt (blk_lt BK469.out) : gb469 ≠ gb472));have n8_:=Aside0.mk ((by rw [hg];exact Nat.ne_of_gt (blk_lt BK469.out) : gb472 ≠ gb469));have n9_:=Aside0.mk ((by rw [hg];exact Nat.ne_of_lt (blk_lt BK470.out) : gb470 ≠ gb472));have n10_:=Aside0.mk ((by rw [hg];exact Nat.ne_of_gt (blk_lt BK470.out) : gb472 ≠ gb470));have n11_:=Aside0.mk ((by rw [hg];exact Nat.ne_of_lt (blk_lt BK471.out) : gb471 ≠ gb472));have n12_:=Aside0.mk ((by rw [hg];exact Nat.ne_of_gt (blk_lt BK471.out) : gb472 ≠ gb471));clear BK469;clear BK470;clear BK471;clear HB;have BK469:=n0_;have BK470:=n1_;have BK471:=n2_;have HB:=n3_;have BK472:=n4_;have GW472:=n5_;have GE472:=n6_;have NB469_472:=n7_;have NB472_469:=n8_;have NB470_472:=n9_;have NB472_470:=n10_;have NB471_472:=n11_;have NB472_471:=n12_;clear n0_ n1_ n2_ n3_ n4_ n5_ n6_ n7_ n8_ n9_ n10_ n11_ n12_;clear hb hbox hg;have hnb17:=NB471_469.out;have hnc17:=NB469_471.out;have hnb18:=NB471_470.out;have hnc18:=NB470_471.out;have hnb19:=NB471_472.out;have hnc19:=NB472_471.out;have hcz20_0 : w16.cell? ⟨gb471,0,none⟩ = some (.int .i64 a0_0):=(blk_cell BK471.out 0).trans rfl;have hcz20_1 : w16.cell? ⟨gb471,1,none⟩ = some (.int .i64 a0_1):=(blk_cell BK471.out 1).trans rfl;have hcz20_2 : w16.cell? ⟨gb471,2,none⟩ = some (.int .i64 a0_2):=(blk_cell BK471.out 2).trans rfl;have hcz20_3 : w16.cell? ⟨gb471,3,none⟩ = some (.slice A0_3 l0_3.length c0_3):=(blk_cell BK471.out 3).trans rfl;have hcz20_4 : w16.cell? ⟨gb471,4,none⟩ = some (.int .i64 a0_4):=(blk_cell BK471.out 4).trans rfl;have hcz20_5 : w16.cell? ⟨gb471,5,none⟩ = some (.int .i64 a0_5):=(blk_cell BK471.out 5).trans rfl;have hcz20_6 : w16.cell? ⟨gb471,6,none⟩ = some (.slice A0_6 l0_6.length c0_6):=(blk_cell BK471.out 6).trans rfl;have hfz20_0:=blk_frozen BK471.out 0;have hfz20_1:=blk_frozen BK471.out 1;have hfz20_2:=blk_frozen BK471.out 2;have hfz20_3:=blk_frozen BK471.out 3;have hfz20_4:=blk_frozen BK471.out 4;have hfz20_5:=blk_frozen BK471.out 5;have hfz20_6:=blk_frozen BK471.out 6)|((with_reducible refine gate_callee (f:=51) rfl ?_);(with_reducible refine gate_at_ (s := "l18_clock.go:106") rfl ?_);refine goesL_ (some 9) rfl rfl Try.func51 (by kernel_rfl) rfl #[.agg #[.int .i64 a0_0,.int .i64 a0_1,.int .i64 a0_2,.slice A0_3 l0_3.length c0_3,.int .i64 a0_4,.int .i64 a0_5,.slice A0_6 l0_6.length c0_6]] rfl (by (try simp only [List.map_toArray,List.map_cons,List.map_nil]);first|done|rfl|(simp only [List.length_drop,List.length_take];rfl)) ?_;(with_reducible refine (impl_isLs.calls k a0_0 a0_1 a0_2 _ _ l0_3 a0_4 a0_5 _ _ l0_6 true _ ?side1 ?side2 ?side3 ?side4 A3.out).mono ?_);(case side1 => repeat (first|exact (Kd.C_below HR0_3.out HB.out)|(with_reducible refine Kd.C_alloc ?_ _)|(with_reducible refine Kd.C_drewN ?_ _)|(with_reducible refine Kd.C_drew ?_)));(case side2 => exact HC0_3.out);(case side3 => repeat (first|exact (Kd.C_below HR0_6.out HB.out)|(with_reducible refine Kd.C_alloc ?_ _)|(with_reducible refine Kd.C_drewN ?_ _)|(with_reducible refine Kd.C_drew ?_)));(case side4 => exact HC0_6.out);rintro e w21 ⟨rfl,hb⟩;refine ⟨_,rfl,?_⟩;have n0_:=Aside0.mk (blk_below BK469.out hb);have n1_:=Aside0.mk (blk_below BK470.out hb);have n2_:=Aside0.mk (blk_below BK471.out hb);have n3_:=Aside0.mk (blk_below BK472.out hb);have n4_:=Aside0.mk (below_step (by exact HB.out) hb);clear BK469;clear BK470;clear BK471;clear BK472;clear HB;have BK469:=n0_;have BK470:=n1_;have BK471:=n2_;have BK472:=n3_;have HB:=n4_;clear n0_ n1_ n2_ n3_ n4_;(try clear hb);(try clear hb2);(try clear hk);(try clear hi);have hcz22_0 : w21.cell? ⟨gb471,0,none⟩ = some (.int .i64 a0_0):=(blk_cell BK471.out 0).trans rfl;have hcz22_1 : w21.cell? ⟨gb471,1,none⟩ = some (.int .i64 a0_1):=(blk_cell BK471.out 1).trans rfl;have hcz22_2 : w21.cell? ⟨gb471,2,none⟩ = some (.int .i64 a0_2):=(blk_cell BK471.out 2).trans rfl;have hcz22_3 : w21.cell? ⟨gb471,3,none⟩ = some (.slice A0_3 l0_3.length c0_3):=(blk_cell BK471.out 3).trans rfl;have hcz22_4 : w21.cell? ⟨gb471,4,none⟩ = some (.int .i64 a0_4):=(blk_cell BK471.out 4).trans rfl;have hcz22_5 : w21.cell? ⟨gb471,5,none⟩ = some (.int .i64 a0_5):=(blk_cell BK471.out 5).trans rfl;have hcz22_6 : w21.cell? ⟨gb471,6,none⟩ = some (.slice A0_6 l0_6.length c0_6):=(blk_cell BK471.out 6).trans rfl;have hfz22_0:=blk_frozen BK471.out 0;have hfz22_1:=blk_frozen BK471.out 1;have hfz22_2:=blk_frozen BK471.out 2;have hfz22_3:=blk_frozen BK471.out 3;have hfz22_4:=blk_frozen BK471.out 4;have hfz22_5:=blk_frozen BK471.out 5;have hfz22_6:=blk_frozen BK471.out 6)|((with_reducible refine gate_callee (f:=80) rfl ?_);(with_reducible refine gate_at_ (s := "l18_clock.go:109") rfl ?_);refine goesL_ (some 13) rfl rfl Try.func80 (by kernel_rfl) rfl #[.agg #[.int .i64 a0_0,.int .i64 a0_1,.int .i64 a0_2,.slice A0_3 l0_3.length c0_3,.int .i64 a0_4,.int .i64 a0_5,.slice A0_6 l0_6.length c0_6]] rfl (by (try simp only [List.map_toArray,List.map_cons,List.map_nil]);first|done|rfl|(simp only [List.length_drop,List.length_take];rfl)) ?_;(with_reducible refine (impl_Ls_copied.calls a0_0 a0_1 a0_2 _ _ l0_3 a0_4 a0_5 _ _ l0_6 t474 t475 t476 t477 t480 t481 t482 _ ?side1 ?side2 ?side3 ?side4 A5.out).mono ?_);(case side1 => repeat (first|exact (Kd.C_below HR0_3.out HB.out)|(with_reducible refine Kd.C_alloc ?_ _)|(with_reducible refine Kd.C_drewN ?_ _)|(with_reducible refine Kd.C_drew ?_)));(case side2 => exact HC0_3.out);(case side3 => repeat (first|exact (Kd.C_below HR0_6.out HB.out)|(with_reducible refine Kd.C_alloc ?_ _)|(with_reducible refine Kd.C_drewN ?_ _)|(with_reducible refine Kd.C_drew ?_)));(case side4 => exact HC0_6.out);rintro e w23 ⟨v478,v483,rfl,ho0,ho1,hb⟩;refine ⟨_,rfl,?_⟩;have n0_:=Aside0.mk (Kd.R_lower (Kd.R_newB ho0 BK469.out) (below_size (by exact HB.out)));have n1_:=Aside0.mk (Kd.R_lower ho1 (below_size (by exact HB.out)));have n2_:=Aside0.mk (blk_below BK469.out hb);have n3_:=Aside0.mk (blk_below BK470.out hb);have n4_:=Aside0.mk (blk_below BK472.out hb);have n5_:=Aside0.mk (below_step (by exact HB.out) hb);clear BK469;clear BK470;clear BK472;clear HB;(try clear BK471);(try clear GW471);(try clear GE471);(try clear NB471_469);(try clear NB469_471);(try clear NB471_470);(try clear NB470_471);(try clear NB471_472);(try clear NB472_471);have HO479:=n0_;have HO484:=n1_;have BK469:=n2_;have BK470:=n3_;have BK472:=n4_;have HB:=n5_;clear n0_ n1_ n2_ n3_ n4_ n5_;(try clear hb);(try clear hb2);(try clear hk);(try clear hi);(try clear ho0);(try clear ho1))|((with_reducible refine gate_dst (N:=6) rfl ?_);(with_reducible refine gate_at_ (s := "l18_clock.go:109") rfl ?_);refine box_event ?hg (N:=6) ?hd (cs:=#[.int .i64 0,.int .i64 0,.int .i64 0,.slice none 0 0,.int .i64 0,.int .i64 0,.slice none 0 0]) (t:=30) ?hr ?_;(case hd => rfl);(case hg => rfl);(case hr => first|(go_simp;done)|(go_simp;rfl));intro gb485 hg w24 hbox hb;have n0_:=Aside0.mk (Kd.R_below (by exact HO479.out) hb);have n1_:=Aside0.mk (Kd.R_below (by exact HO484.out) hb);have n2_:=Aside0.mk (blk_below BK469.out hb);have n3_:=Aside0.mk (blk_below BK470.out hb);have n4_:=Aside0.mk (blk_below BK472.out hb);have n5_:=Aside0.mk (below_step (by exact HB.out) hb);have n6_:=Aside0.mk (hbox);have n7_:=Aside0.mk ((by rw [hg];exact (below_size (by exact HB.out)) : w.heap.size ≤ gb485));have n8_:=Aside0.mk ((by rw [hg];exact (below_size (by exact HB.out)) : w.heap.size ≤ gb485));have n9_:=Aside0.mk ((by rw [hg];exact Nat.ne_of_lt (blk_lt BK469.out) : gb469 ≠ gb485));have n10_:=Aside0.mk ((by rw [hg];exact Nat.ne_of_gt (blk_lt BK469.out) : gb485 ≠ gb469));have n11_:=Aside0.mk ((by rw [hg];exact Nat.ne_of_lt (blk_lt BK470.out) : gb470 ≠ gb485));have n12_:=Aside0.mk ((by rw [hg];exact Nat.ne_of_gt (blk_lt BK470.out) : gb485 ≠ gb470));have n13_:=Aside0.mk ((by rw [hg];exact Nat.ne_of_lt (blk_lt BK472.out) : gb472 ≠ gb485));have n14_:=Aside0.mk ((by rw [hg];exact Nat.ne_of_gt (blk_lt BK472.out) : gb485 ≠ gb472));clear HO479;clear HO484;clear BK469;clear BK470;clear BK472;clear HB;have HO479:=n0_;have HO484:=n1_;have BK469:=n2_;have BK470:=n3_;have BK472:=n4_;have HB:=n5_;have BK485:=n6_;have GW485:=n7_;have GE485:=n8_;have NB469_485:=n9_;have NB485_469:=n10_;have NB470_485:=n11_;have NB485_470:=n12_;have NB472_485:=n13_;have NB485_472:=n14_;clear n0_ n1_ n2_ n3_ n4_ n5_ n6_ n7_ n8_ n9_ n10_ n11_ n12_ n13_ n14_;clear hb hbox hg;have hnb25:=NB485_469.out;have hnc25:=NB469_485.out;have hnb26:=NB485_470.out;have hnc26:=NB470_485.out;have hnb27:=NB485_472.out;have hnc27:=NB472_485.out;have hcz28_0 : w24.cell? ⟨gb485,0,none⟩ = some (.int .i64 0):=(blk_cell BK485.out 0).trans rfl;have hcz28_1 : w24.cell? ⟨gb485,1,none⟩ = some (.int .i64 0):=(blk_cell BK485.out 1).trans rfl;have hcz28_2 : w24.cell? ⟨gb485,2,none⟩ = some (.int .i64 0):=(blk_cell BK485.out 2).trans rfl;have hcz28_3 : w24.cell? ⟨gb485,3,none⟩ = some (.slice none 0 0):=(blk_cell BK485.out 3).trans rfl;have hcz28_4 : w24.cell? ⟨gb485,4,none⟩ = some (.int .i64 0):=(blk_cell BK485.out 4).trans rfl;have hcz28_5 : w24.cell? ⟨gb485,5,none⟩ = some (.int .i64 0):=(blk_cell BK485.out 5).trans rfl;have hcz28_6 : w24.cell? ⟨gb485,6,none⟩ = some (.slice none 0 0):=(blk_cell BK485.out 6).trans rfl;have hfz28_0:=blk_frozen BK485.out 0;have hfz28_1:=blk_frozen BK485.out 1;have hfz28_2:=blk_frozen BK485.out 2;have hfz28_3:=blk_frozen BK485.out 3;have hfz28_4:=blk_frozen BK485.out 4;have hfz28_5:=blk_frozen BK485.out 5;have hfz28_6:=blk_frozen BK485.out 6;obtain ⟨Ao29,co29,eo29⟩:=Kd.R_slice HO479.out;subst eo29;obtain ⟨Ao30,co30,eo30⟩:=Kd.R_slice HO484.out;subst eo30)|((with_reducible refine gate_store (t:=30) (p:=6) rfl ?_);(with_reducible refine gate_at_ (s := "l18_clock.go:109") rfl ?_);refine store_event (t:=30) (p:=6) (v:=?vo_w31) (w1:=(setAll_ w24 gb485 0 [.int .i64 t474,.int .i64 t475,.int .i64 t476,.slice Ao29 t477.length co29,.int .i64 t480,.int .i64 t481,.slice Ao30 t482.length co30])) ?hg ?ho ?hn ?hr ?_;(case ho => rfl);(case hg => rfl);(case hn => rfl);(case hr => simp only [setAll_];first|(go_simp;done)|(go_simp;rfl));intro w31 hw;have hg : w24.grownBy w31 (some gb485):=(by rw [hw];exact setAll_grown _ _ _ _);have n0_:=Aside0.mk (Kd.R_mono (kdgr_R (Kd.R_types HO479.out BK485.out (by decide)) (fun _ hk => hk.2) hg) (fun _ hk => hk.1));have n1_:=Aside0.mk (Kd.R_mono (kdgr_R (Kd.R_types HO484.out BK485.out (by decide)) (fun _ hk => hk.2) hg) (fun _ hk => hk.1));have n2_:=Aside0.mk (blk_grown BK469.out hg (ne_some_ NB469_485.out));have n3_:=Aside0.mk (blk_grown BK470.out hg (ne_some_ NB470_485.out));have n4_:=Aside0.mk (blk_grown BK472.out hg (ne_some_ NB472_485.out));have n5_:=Aside0.mk ((by rw [hw];exact setAll_blk BK485.out rfl : w31.heap[gb485]? = some (.cells #[.int .i64 t474,.int .i64 t475,.int .i64 t476,.slice Ao29 t477.length co29,.int .i64 t480,.int .i64 t481,.slice Ao30 t482.length co30] 30 (0,0))));have n6_:=Aside0.mk (below_gr_ HB.out hg GE485.out);clear HO479;clear HO484;clear BK469;clear BK470;clear BK472;clear BK485;clear HB;have HO479:=n0_;have HO484:=n1_;have BK469:=n2_;have BK470:=n3_;have BK472:=n4_;have BK485:=n5_;have HB:=n6_;clear n0_ n1_ n2_ n3_ n4_ n5_ n6_;clear hw hg)|(go_at_call 64;go_in))
    have n0_:=Aside0.mk (Kd.R_drew HO479.out)
    have n1_:=Aside0.mk (Kd.R_drew HO484.out)
    have n2_:=Aside0.mk (blk_drew BK469.out)
    have n3_:=Aside0.mk (blk_drew BK470.out)
    have n4_:=Aside0.mk (blk_drew BK472.out)
    have n5_:=Aside0.mk (blk_drew BK485.out)
    have n6_:=Aside0.mk (below_drew1 HB.out)
    clear HO479
    clear HO484
    clear BK469
    clear BK470
    clear BK472
    clear BK485
    clear HB
    have HO479:=n0_
    have HO484:=n1_
    have BK469:=n2_
    have BK470:=n3_
    have BK472:=n4_
    have BK485:=n5_
    have HB:=n6_
    clear n0_ n1_ n2_ n3_ n4_ n5_ n6_
    refine start_ (n:=12) (S:=fun w' => w'.cell? ⟨gb469,0,none⟩ = some (.int .i64 a1) ∧ w'.cell? ⟨gb485,0,none⟩ = some (.int .i64 t474) ∧ w'.cell? ⟨gb485,1,none⟩ = some (.int .i64 t475) ∧ w'.cell? ⟨gb485,2,none⟩ = some (.int .i64 t476) ∧ w'.cell? ⟨gb485,3,none⟩ = some (.slice Ao29 t477.length co29) ∧ w'.cell? ⟨gb485,4,none⟩ = some (.int .i64 t480) ∧ w'.cell? ⟨gb485,5,none⟩ = some (.int .i64 t481) ∧ w'.cell? ⟨gb485,6,none⟩ = some (.slice Ao30 t482.length co30)) (ds:=[]) #[F,F,F,F,F,F,F,F,F,F,F,F] (by kernel_rfl) rfl rfl ⟨(blk_cell BK469.out 0).trans rfl,(blk_cell BK485.out 0).trans rfl,(blk_cell BK485.out 1).trans rfl,(blk_cell BK485.out 2).trans rfl,(blk_cell BK485.out 3).trans rfl,(blk_cell BK485.out 4).trans rfl,(blk_cell BK485.out 5).trans rfl,(blk_cell BK485.out 6).trans rfl⟩ (fun hHeld => ?_)
    generalize w31.drew = w32 at HO479 HO484 BK469 BK470 BK472 BK485 HB hHeld ⊢
    refine take_ (i:=0) (N:=some 4) (v:=?_) (a':=?_) #[T,F,F,F,F,F,F,F,F,F,F,F] rfl rfl (by kernel_rfl) (fun _ _ _ h => h) (Or.inl ⟨by rfl,?_⟩) hHeld ?_ ?_
    rotate_left
    ·
     rintro w' ⟨s0,s1,s2,s3,s4,s5,s6,s7⟩
     go_simp
     with_reducible rfl
    rotate_left
    ·
     simp only [Act.put,List.setIfInBounds_toArray,List.set_cons_zero,List.set_cons_succ,i64_w,i32_w]
     rfl
    refine one_ (i:=1) (N:=some 5) #[T,T,F,F,F,F,F,F,F,F,F,F] rfl rfl (by kernel_rfl) (by decide) (fun K hK => ?_)
    refine goes_ Try.func54 (by kernel_rfl) rfl #[.int .i64 a1,.int .i64 1,.int .i64 1000] (by rfl) rfl rfl (by (try simp only [List.map_toArray,List.map_cons,List.map_nil]);first|done|rfl|(simp only [List.length_drop,List.length_take];rfl)) ?_
    with_reducible refine (impl_in.calls a1 1 1000 true _ A6.out).mono ?_
    rintro e w' ⟨rfl,⟨nd,rfl⟩⟩
    refine ⟨_,rfl,?_⟩
    refine hK.out _ _ ⟨(blk_cell BK469.out 0).trans rfl,(blk_cell BK485.out 0).trans rfl,(blk_cell BK485.out 1).trans rfl,(blk_cell BK485.out 2).trans rfl,(blk_cell BK485.out 3).trans rfl,(blk_cell BK485.out 4).trans rfl,(blk_cell BK485.out 5).trans rfl,(blk_cell BK485.out 6).trans rfl⟩ (fun hHeld => ?_)
    clear hK K
    refine norm_ (a':=?_) ?_ ?_
    rotate_left
    ·
     show Act.put _ (some 5) _ = _
     simp only [Act.put,List.setIfInBounds_toArray,List.set_cons_zero,List.set_cons_succ,i64_w,i32_w]
     rfl
    refine pure_ (i:=2) (N:=some 6) (v:=?_) (a':=?_) #[T,T,T,F,F,F,F,F,F,F,F,F] rfl rfl (by kernel_rfl) (fun _ _ _ h => h) (Or.inl ⟨by rfl,?_⟩) ?_ ?_
    rotate_left
    ·
     intro w'
     go_simp
     with_reducible rfl
    rotate_left
    ·
     simp only [Act.put,List.setIfInBounds_toArray,List.set_cons_zero,List.set_cons_succ,i64_w,i32_w]
     rfl
    refine pure_ (i:=3) (N:=some 7) (v:=?_) (a':=?_) #[T,T,T,T,F,F,F,F,F,F,F,F] rfl rfl (by kernel_rfl) (fun _ _ _ h => h) (Or.inl ⟨by rfl,?_⟩) ?_ ?_
    rotate_left
    ·
     intro w'
     go_simp
     with_reducible rfl
    rotate_left
    ·
     simp only [Act.put,List.setIfInBounds_toArray,List.set_cons_zero,List.set_cons_succ,i64_w,i32_w]
     rfl
    refine pure_ (i:=4) (N:=some 8) (v:=?_) (a':=?_) #[T,T,T,T,T,F,F,F,F,F,F,F] rfl rfl (by kernel_rfl) (fun _ _ _ h => h) (Or.inl ⟨by rfl,?_⟩) ?_ ?_
    rotate_left
    ·
     intro w'
     go_simp
     with_reducible rfl
    rotate_left
    ·
     simp only [Act.put,List.setIfInBounds_toArray,List.set_cons_zero,List.set_cons_succ,i64_w,i32_w]
     rfl
    refine pure_ (i:=5) (N:=some 9) (v:=?_) (a':=?_) #[T,T,T,T,T,T,F,F,F,F,F,F] rfl rfl (by kernel_rfl) (fun _ _ _ h => h) (Or.inl ⟨by rfl,?_⟩) ?_ ?_
    rotate_left
    ·
     intro w'
     go_simp
     with_reducible rfl
    rotate_left
    ·
     simp only [Act.put,List.setIfInBounds_toArray,List.set_cons_zero,List.set_cons_succ,i64_w,i32_w]
     rfl
    refine pure_ (i:=6) (N:=some 10) (v:=?_) (a':=?_) #[T,T,T,T,T,T,T,F,F,F,F,F] rfl rfl (by kernel_rfl) (fun _ _ _ h => h) (Or.inl ⟨by rfl,?_⟩) ?_ ?_
    rotate_left
    ·
     intro w'
     go_simp
     with_reducible rfl
    rotate_left
    ·
     simp only [Act.put,List.setIfInBounds_toArray,List.set_cons_zero,List.set_cons_succ,i64_w,i32_w]
     rfl
    refine take_ (i:=7) (N:=some 11) (v:=?_) (a':=?_) #[T,T,T,T,T,T,T,T,F,F,F,F] rfl rfl (by kernel_rfl) (fun _ _ _ h => h) (Or.inl ⟨by rfl,?_⟩) hHeld ?_ ?_
    rotate_left
    ·
     rintro w' ⟨s0,s1,s2,s3,s4,s5,s6,s7⟩
     go_simp
     with_reducible rfl
    rotate_left
    ·
     simp only [Act.put,List.setIfInBounds_toArray,List.set_cons_zero,List.set_cons_succ,i64_w,i32_w]
     rfl
    refine take_ (i:=8) (N:=some 12) (v:=?_) (a':=?_) #[T,T,T,T,T,T,T,T,T,F,F,F] rfl rfl (by kernel_rfl) (fun _ _ _ h => h) (Or.inl ⟨by rfl,?_⟩) hHeld ?_ ?_
    rotate_left
    ·
     rintro w' ⟨s0,s1,s2,s3,s4,s5,s6,s7⟩
     go_simp
     with_reducible rfl
    rotate_left
    ·
     simp only [Act.put,List.setIfInBounds_toArray,List.set_cons_zero,List.set_cons_succ,i64_w,i32_w]
     rfl
    refine pure_ (i:=9) (N:=some 13) (v:=?_) (a':=?_) #[T,T,T,T,T,T,T,T,T,T,F,F] rfl rfl (by kernel_rfl) (fun _ _ _ h => h) (Or.inl ⟨by rfl,?_⟩) ?_ ?_
    rotate_left
    ·
     intro w'
     go_simp
     with_reducible rfl
    rotate_left
    ·
     simp only [Act.put,List.setIfInBounds_toArray,List.set_cons_zero,List.set_cons_succ,i64_w,i32_w]
     rfl
    refine pure_ (i:=10) (N:=some 14) (v:=?_) (a':=?_) #[T,T,T,T,T,T,T,T,T,T,T,F] rfl rfl (by kernel_rfl) (fun _ _ _ h => h) (Or.inl ⟨by rfl,?_⟩) ?_ ?_
    rotate_left
    ·
     intro w'
     go_simp
     with_reducible rfl
    rotate_left
    ·
     simp only [Act.put,List.setIfInBounds_toArray,List.set_cons_zero,List.set_cons_succ,i64_w,i32_w]
     rfl
    refine pure_ (i:=11) (N:=some 15) (v:=?_) (a':=?_) #[T,T,T,T,T,T,T,T,T,T,T,T] rfl rfl (by kernel_rfl) (fun _ _ _ h => h) (Or.inl ⟨by rfl,?_⟩) ?_ ?_
    rotate_left
    ·
     intro w'
     go_simp
     with_reducible rfl
    rotate_left
    ·
     simp only [Act.put,List.setIfInBounds_toArray,List.set_cons_zero,List.set_cons_succ,i64_w,i32_w]
     rfl
    refine done_ (by kernel_rfl) ?_
    (try simp only [World.drewN_drewN])
    (try (rw [drewN_self w32];generalize hq_ : World.drewN w32 _ = w32;have n0_ : Aside0 (Kd.R (Kd.int .i64) 3 w32 w.heap.size (fun k_ => (True ∧ k_ ≠ gb469)) (.slice Ao29 t477.length co29) t477):=⟨by rw [← hq_];exact (by (with_reducible repeat (first|apply Kd.R_alloc|apply Kd.R_drewN|apply Kd.R_drew));exact HO479.out)⟩;have n1_ : Aside0 (Kd.R k50 50 w32 w.heap.size (fun k_ => True) (.slice Ao30 t482.length co30) t482):=⟨by rw [← hq_];exact (by (with_reducible repeat (first|apply Kd.R_alloc|apply Kd.R_drewN|apply Kd.R_drew));exact HO484.out)⟩;have n2_ : Aside0 (w32.heap[gb469]? = some (.cells #[.int .i64 a1] 3 (0,0))):=⟨by rw [← hq_];exact (by (with_reducible repeat (first|refine blk_drewN ?_ _|refine blk_drew ?_|refine blk_alloc ?_ _));exact BK469.out)⟩;have n3_ : Aside0 (w32.heap[gb470]? = some (.cells #[.int .i64 0,.int .i64 0,.int .i64 0,.slice none 0 0,.int .i64 0,.int .i64 0,.slice none 0 0] 30 (0,0))):=⟨by rw [← hq_];exact (by (with_reducible repeat (first|refine blk_drewN ?_ _|refine blk_drew ?_|refine blk_alloc ?_ _));exact BK470.out)⟩;have n4_ : Aside0 (w32.heap[gb472]? = some (.cells #[.int .i64 0,.int .i64 0,.int .i64 0,.slice none 0 0,.int .i64 0,.int .i64 0,.slice none 0 0] 30 (0,0))):=⟨by rw [← hq_];exact (by (with_reducible repeat (first|refine blk_drewN ?_ _|refine blk_drew ?_|refine blk_alloc ?_ _));exact BK472.out)⟩;have n5_ : Aside0 (w32.heap[gb485]? = some (.cells #[.int .i64 t474,.int .i64 t475,.int .i64 t476,.slice Ao29 t477.length co29,.int .i64 t480,.int .i64 t481,.slice Ao30 t482.length co30] 30 (0,0))):=⟨by rw [← hq_];exact (by (with_reducible repeat (first|refine blk_drewN ?_ _|refine blk_drew ?_|refine blk_alloc ?_ _));exact BK485.out)⟩;have n6_ : Aside0 (Below w.heap.size w w32):=⟨by rw [← hq_];exact (by repeat (first|(with_reducible first|exact HB.out|apply below_alloc|apply pw_below_drewN|apply below_drew1|refine below_set ?_ GE469.out|refine below_set ?_ GE470.out|refine below_set ?_ GE472.out|refine below_set ?_ GE485.out)|exact HB.out))⟩;clear HO479 HO484 BK469 BK470 BK472 BK485 HB hq_;have HO479:=n0_;have HO484:=n1_;have BK469:=n2_;have BK470:=n3_;have BK472:=n4_;have BK485:=n5_;have HB:=n6_;clear n0_ n1_ n2_ n3_ n4_ n5_ n6_))
    have hcz33_0 : w32.cell? ⟨gb485,0,none⟩ = some (.int .i64 t474):=(blk_cell BK485.out 0).trans rfl
    have hcz33_1 : w32.cell? ⟨gb485,1,none⟩ = some (.int .i64 t475):=(blk_cell BK485.out 1).trans rfl
    have hcz33_2 : w32.cell? ⟨gb485,2,none⟩ = some (.int .i64 t476):=(blk_cell BK485.out 2).trans rfl
    have hcz33_3 : w32.cell? ⟨gb485,3,none⟩ = some (.slice Ao29 t477.length co29):=(blk_cell BK485.out 3).trans rfl
    have hcz33_4 : w32.cell? ⟨gb485,4,none⟩ = some (.int .i64 t480):=(blk_cell BK485.out 4).trans rfl
    have hcz33_5 : w32.cell? ⟨gb485,5,none⟩ = some (.int .i64 t481):=(blk_cell BK485.out 5).trans rfl
    have hcz33_6 : w32.cell? ⟨gb485,6,none⟩ = some (.slice Ao30 t482.length co30):=(blk_cell BK485.out 6).trans rfl
    have hfz33_0:=blk_frozen BK485.out 0
    have hfz33_1:=blk_frozen BK485.out 1
    have hfz33_2:=blk_frozen BK485.out 2
    have hfz33_3:=blk_frozen BK485.out 3
    have hfz33_4:=blk_frozen BK485.out 4
    have hfz33_5:=blk_frozen BK485.out 5
    have hfz33_6:=blk_frozen BK485.out 6
    have hnb34:=NB472_469.out
    have hnc34:=NB469_472.out
    have hnb35:=NB472_470.out
    have hnc35:=NB470_472.out
    have hcz36_0 : w32.cell? ⟨gb472,0,none⟩ = some (.int .i64 0):=(blk_cell BK472.out 0).trans rfl
    have hcz36_1 : w32.cell? ⟨gb472,1,none⟩ = some (.int .i64 0):=(blk_cell BK472.out 1).trans rfl
    have hcz36_2 : w32.cell? ⟨gb472,2,none⟩ = some (.int .i64 0):=(blk_cell BK472.out 2).trans rfl
    have hcz36_3 : w32.cell? ⟨gb472,3,none⟩ = some (.slice none 0 0):=(blk_cell BK472.out 3).trans rfl
    have hcz36_4 : w32.cell? ⟨gb472,4,none⟩ = some (.int .i64 0):=(blk_cell BK472.out 4).trans rfl
    have hcz36_5 : w32.cell? ⟨gb472,5,none⟩ = some (.int .i64 0):=(blk_cell BK472.out 5).trans rfl
    have hcz36_6 : w32.cell? ⟨gb472,6,none⟩ = some (.slice none 0 0):=(blk_cell BK472.out 6).trans rfl
    have hfz36_0:=blk_frozen BK472.out 0
    have hfz36_1:=blk_frozen BK472.out 1
    have hfz36_2:=blk_frozen BK472.out 2
    have hfz36_3:=blk_frozen BK472.out 3
    have hfz36_4:=blk_frozen BK472.out 4
    have hfz36_5:=blk_frozen BK472.out 5
    have hfz36_6:=blk_frozen BK472.out 6
    try go_wp2_with (first|((with_reducible refine gate_store (t:=30) (p:=4) rfl ?_);(with_reducible refine gate_at_ (s := "l18_clock.go:111") rfl ?_);refine store_event (t:=30) (p:=4) (v:=?vo_w37) (w1:=(setAll_ w32 gb472 0 [.int .i64 t474,.int .i64 t475,.int .i64 t476,.slice Ao29 t477.length co29,.int .i64 t480,.int .i64 t481,.slice Ao30 t482.length co30])) ?hg ?ho ?hn ?hr ?_;(case ho => rfl);(case hg => rfl);(case hn => rfl);(case hr => simp only [setAll_];first|(go_simp;done)|(go_simp;rfl));intro w37 hw;have hg : w32.grownBy w37 (some gb472):=(by rw [hw];exact setAll_grown _ _ _ _);have n0_:=Aside0.mk (Kd.R_mono (kdgr_R (Kd.R_types HO479.out BK472.out (by decide)) (fun _ hk => hk.2) hg) (fun _ hk => hk.1));have n1_:=Aside0.mk (Kd.R_mono (kdgr_R (Kd.R_types HO484.out BK472.out (by decide)) (fun _ hk => hk.2) hg) (fun _ hk => hk.1));have n2_:=Aside0.mk (blk_grown BK469.out hg (ne_some_ NB469_472.out));have n3_:=Aside0.mk (blk_grown BK470.out hg (ne_some_ NB470_472.out));have n4_:=Aside0.mk ((by rw [hw];exact setAll_blk BK472.out rfl : w37.heap[gb472]? = some (.cells #[.int .i64 t474,.int .i64 t475,.int .i64 t476,.slice Ao29 t477.length co29,.int .i64 t480,.int .i64 t481,.slice Ao30 t482.length co30] 30 (0,0))));have n5_:=Aside0.mk (blk_grown BK485.out hg (ne_some_ NB485_472.out));have n6_:=Aside0.mk (below_gr_ HB.out hg GE472.out);clear HO479;clear HO484;clear BK469;clear BK470;clear BK472;clear BK485;clear HB;have HO479:=n0_;have HO484:=n1_;have BK469:=n2_;have BK470:=n3_;have BK472:=n4_;have BK485:=n5_;have HB:=n6_;clear n0_ n1_ n2_ n3_ n4_ n5_ n6_;clear hw hg;have hnb38:=NB470_469.out;have hnc38:=NB469_470.out;have hcz39_0 : w37.cell? ⟨gb470,0,none⟩ = some (.int .i64 0):=(blk_cell BK470.out 0).trans rfl;have hcz39_1 : w37.cell? ⟨gb470,1,none⟩ = some (.int .i64 0):=(blk_cell BK470.out 1).trans rfl;have hcz39_2 : w37.cell? ⟨gb470,2,none⟩ = some (.int .i64 0):=(blk_cell BK470.out 2).trans rfl;have hcz39_3 : w37.cell? ⟨gb470,3,none⟩ = some (.slice none 0 0):=(blk_cell BK470.out 3).trans rfl;have hcz39_4 : w37.cell? ⟨gb470,4,none⟩ = some (.int .i64 0):=(blk_cell BK470.out 4).trans rfl;have hcz39_5 : w37.cell? ⟨gb470,5,none⟩ = some (.int .i64 0):=(blk_cell BK470.out 5).trans rfl;have hcz39_6 : w37.cell? ⟨gb470,6,none⟩ = some (.slice none 0 0):=(blk_cell BK470.out 6).trans rfl;have hfz39_0:=blk_frozen BK470.out 0;have hfz39_1:=blk_frozen BK470.out 1;have hfz39_2:=blk_frozen BK470.out 2;have hfz39_3:=blk_frozen BK470.out 3;have hfz39_4:=blk_frozen BK470.out 4;have hfz39_5:=blk_frozen BK470.out 5;have hfz39_6:=blk_frozen BK470.out 6)|((try simp only [Exit.inBlock,Exit.then]);refine bodyPost_ret (results_list (rs:=[.cell 4 30,.tmp 5]) rfl (by simp) (.cell gb472 30 #[.int .i64 t474,.int .i64 t475,.int .i64 t476,.slice Ao29 t477.length co29,.int .i64 t480,.int .i64 t481,.slice Ao30 t482.length co30] (0,0) _ rfl (by exact BK472.out) Try.underlying30 rfl (by kernel_rfl) (.tmp .nil))) rfl ?_;simp only [];go_at_K)|((with_reducible refine gate_store (t:=30) (p:=4) rfl ?_);(with_reducible refine gate_at_ (s := "l18_clock.go:121") rfl ?_);refine store_event (t:=30) (p:=4) (v:=?vo_w40) (w1:=(setAll_ w37 gb470 0 [.int .i64 t474,.int .i64 t475,.int .i64 t476,.slice Ao29 t477.length co29,.int .i64 t480,.int .i64 t481,.slice Ao30 t482.length co30])) ?hg ?ho ?hn ?hr ?_;(case ho => rfl);(case hg => rfl);(case hn => rfl);(case hr => simp only [setAll_];first|(go_simp;done)|(go_simp;rfl));intro w40 hw;have hg : w37.grownBy w40 (some gb470):=(by rw [hw];exact setAll_grown _ _ _ _);have n0_:=Aside0.mk (Kd.R_mono (kdgr_R (Kd.R_types HO479.out BK470.out (by decide)) (fun _ hk => hk.2) hg) (fun _ hk => hk.1));have n1_:=Aside0.mk (Kd.R_mono (kdgr_R (Kd.R_types HO484.out BK470.out (by decide)) (fun _ hk => hk.2) hg) (fun _ hk => hk.1));have n2_:=Aside0.mk (blk_grown BK469.out hg (ne_some_ NB469_470.out));have n3_:=Aside0.mk ((by rw [hw];exact setAll_blk BK470.out rfl : w40.heap[gb470]? = some (.cells #[.int .i64 t474,.int .i64 t475,.int .i64 t476,.slice Ao29 t477.length co29,.int .i64 t480,.int .i64 t481,.slice Ao30 t482.length co30] 30 (0,0))));have n4_:=Aside0.mk (blk_grown BK472.out hg (ne_some_ NB472_470.out));have n5_:=Aside0.mk (blk_grown BK485.out hg (ne_some_ NB485_470.out));have n6_:=Aside0.mk (below_gr_ HB.out hg GE470.out);clear HO479;clear HO484;clear BK469;clear BK470;clear BK472;clear BK485;clear HB;have HO479:=n0_;have HO484:=n1_;have BK469:=n2_;have BK470:=n3_;have BK472:=n4_;have BK485:=n5_;have HB:=n6_;clear n0_ n1_ n2_ n3_ n4_ n5_ n6_;clear hw hg))
    refine bodyPost_ret (results_ct rfl _ _ gb470 30 #[.int .i64 t474,.int .i64 t475,.int .i64 t476,.slice Ao29 t477.length co29,.int .i64 t480,.int .i64 t481,.slice Ao30 t482.length co30] (0,0) _ rfl (by (with_reducible repeat (first|refine blk_drewN ?_ _|refine blk_drew ?_|refine blk_alloc ?_ _));exact BK470.out) Try.underlying30 rfl (by kernel_rfl)) rfl ?_
    exact ⟨_,_,by first|rfl|(simp [errW_none,errW_some] <;> rfl)|(simp [*,errW_none,errW_some] <;> rfl),by (with_reducible repeat (first|apply Kd.R_alloc|apply Kd.R_drewN|apply Kd.R_drew));exact Kd.R_mono HO479.out (fun _ hk => trivial),by (with_reducible repeat (first|apply Kd.R_alloc|apply Kd.R_drewN|apply Kd.R_drew));exact HO484.out,by repeat (first|(with_reducible first|exact HB.out|apply below_alloc|apply pw_below_drewN|apply below_drew1|refine below_set ?_ GE469.out|refine below_set ?_ GE470.out|refine below_set ?_ GE472.out|refine below_set ?_ GE485.out)|exact HB.out)⟩
   ·
    rw [if_neg c8] at H
    have c8b0 : decide (100000 < (wrap64 (t476 + a1))) = false:=decide_eq_false c8
    clear c8
    simp only [Option.some.injEq,Prod.mk.injEq] at H
    obtain ⟨rfl,rfl,rfl,rfl,rfl,rfl,rfl,rfl⟩:=H
    go_enter Try.func32,Try.ntmps32
    try go_wp2_with (first|((with_reducible refine gate_dst (N:=2) rfl ?_);(with_reducible refine gate_at_ (s := "l18_clock.go:120") rfl ?_);refine box_event ?hg (N:=2) ?hd (cs:=#[.int .i64 a0_0,.int .i64 a0_1,.int .i64 a0_2,.slice A0_3 l0_3.length c0_3,.int .i64 a0_4,.int .i64 a0_5,.slice A0_6 l0_6.length c0_6]) (t:=30) ?hr ?_;(case hd => rfl);(case hg => rfl);(case hr => first|(go_simp;done)|(go_simp;rfl));intro gb468 hg w41 hbox hb;have n0_:=Aside0.mk (below_step (by exact HB.out) hb);have n1_:=Aside0.mk (hbox);have n2_:=Aside0.mk ((by rw [hg];exact (below_size (by exact HB.out)) : w.heap.size ≤ gb468));have n3_:=Aside0.mk ((by rw [hg];exact (below_size (by exact HB.out)) : w.heap.size ≤ gb468));clear HB;have HB:=n0_;have BK468:=n1_;have GW468:=n2_;have GE468:=n3_;clear n0_ n1_ n2_ n3_;clear hb hbox hg)|((with_reducible refine gate_dst (N:=3) rfl ?_);(with_reducible refine gate_at_ (s := "l18_clock.go:120") rfl ?_);refine box_event ?hg (N:=3) ?hd (cs:=#[.int .i64 a1]) (t:=3) ?hr ?_;(case hd => rfl);(case hg => rfl);(case hr => first|(go_simp;done)|(go_simp;rfl));intro gb469 hg w42 hbox hb;have n0_:=Aside0.mk (blk_below BK468.out hb);have n1_:=Aside0.mk (below_step (by exact HB.out) hb);have n2_:=Aside0.mk (hbox);have n3_:=Aside0.mk ((by rw [hg];exact (below_size (by exact HB.out)) : w.heap.size ≤ gb469));have n4_:=Aside0.mk ((by rw [hg];exact (below_size (by exact HB.out)) : w.heap.size ≤ gb469));have n5_:=Aside0.mk ((by rw [hg];exact Nat.ne_of_lt (blk_lt BK468.out) : gb468 ≠ gb469));have n6_:=Aside0.mk ((by rw [hg];exact Nat.ne_of_gt (blk_lt BK468.out) : gb469 ≠ gb468));clear BK468;clear HB;have BK468:=n0_;have HB:=n1_;have BK469:=n2_;have GW469:=n3_;have GE469:=n4_;have NB468_469:=n5_;have NB469_468:=n6_;clear n0_ n1_ n2_ n3_ n4_ n5_ n6_;clear hb hbox hg)|((with_reducible refine gate_dst (N:=4) rfl ?_);(with_reducible refine gate_at_ (s := "l18_clock.go:120") rfl ?_);refine box_event ?hg (N:=4) ?hd (cs:=#[.int .i64 0,.int .i64 0,.int .i64 0,.slice none 0 0,.int .i64 0,.int .i64 0,.slice none 0 0]) (t:=30) ?hr ?_;(case hd => rfl);(case hg => rfl);(case hr => first|(go_simp;done)|(go_simp;rfl));intro gb470 hg w43 hbox hb;have n0_:=Aside0.mk (blk_below BK468.out hb);have n1_:=Aside0.mk (blk_below BK469.out hb);have n2_:=Aside0.mk (below_step (by exact HB.out) hb);have n3_:=Aside0.mk (hbox);have n4_:=Aside0.mk ((by rw [hg];exact (below_size (by exact HB.out)) : w.heap.size ≤ gb470));have n5_:=Aside0.mk ((by rw [hg];exact (below_size (by exact HB.out)) : w.heap.size ≤ gb470));have n6_:=Aside0.mk ((by rw [hg];exact Nat.ne_of_lt (blk_lt BK468.out) : gb468 ≠ gb470));have n7_:=Aside0.mk ((by rw [hg];exact Nat.ne_of_gt (blk_lt BK468.out) : gb470 ≠ gb468));have n8_:=Aside0.mk ((by rw [hg];exact Nat.ne_of_lt (blk_lt BK469.out) : gb469 ≠ gb470));have n9_:=Aside0.mk ((by rw [hg];exact Nat.ne_of_gt (blk_lt BK469.out) : gb470 ≠ gb469));clear BK468;clear BK469;clear HB;have BK468:=n0_;have BK469:=n1_;have HB:=n2_;have BK470:=n3_;have GW470:=n4_;have GE470:=n5_;have NB468_470:=n6_;have NB470_468:=n7_;have NB469_470:=n8_;have NB470_469:=n9_;clear n0_ n1_ n2_ n3_ n4_ n5_ n6_ n7_ n8_ n9_;clear hb hbox hg;have hnb44:=NB468_469.out;have hnc44:=NB469_468.out;have hnb45:=NB468_470.out;have hnc45:=NB470_468.out;have hcz46_0 : w43.cell? ⟨gb468,0,none⟩ = some (.int .i64 a0_0):=(blk_cell BK468.out 0).trans rfl;have hcz46_1 : w43.cell? ⟨gb468,1,none⟩ = some (.int .i64 a0_1):=(blk_cell BK468.out 1).trans rfl;have hcz46_2 : w43.cell? ⟨gb468,2,none⟩ = some (.int .i64 a0_2):=(blk_cell BK468.out 2).trans rfl;have hcz46_3 : w43.cell? ⟨gb468,3,none⟩ = some (.slice A0_3 l0_3.length c0_3):=(blk_cell BK468.out 3).trans rfl;have hcz46_4 : w43.cell? ⟨gb468,4,none⟩ = some (.int .i64 a0_4):=(blk_cell BK468.out 4).trans rfl;have hcz46_5 : w43.cell? ⟨gb468,5,none⟩ = some (.int .i64 a0_5):=(blk_cell BK468.out 5).trans rfl;have hcz46_6 : w43.cell? ⟨gb468,6,none⟩ = some (.slice A0_6 l0_6.length c0_6):=(blk_cell BK468.out 6).trans rfl;have hfz46_0:=blk_frozen BK468.out 0;have hfz46_1:=blk_frozen BK468.out 1;have hfz46_2:=blk_frozen BK468.out 2;have hfz46_3:=blk_frozen BK468.out 3;have hfz46_4:=blk_frozen BK468.out 4;have hfz46_5:=blk_frozen BK468.out 5;have hfz46_6:=blk_frozen BK468.out 6)|(go_at_call 63;go_in)|((with_reducible refine gate_dst (N:=2) rfl ?_);(with_reducible refine gate_at_ (s := "l18_clock.go:105") rfl ?_);refine box_event ?hg (N:=2) ?hd (cs:=#[.int .i64 a0_0,.int .i64 a0_1,.int .i64 a0_2,.slice A0_3 l0_3.length c0_3,.int .i64 a0_4,.int .i64 a0_5,.slice A0_6 l0_6.length c0_6]) (t:=30) ?hr ?_;(case hd => rfl);(case hg => rfl);(case hr => first|(go_simp;done)|(go_simp;rfl));intro gb471 hg w47 hbox hb;have n0_:=Aside0.mk (blk_below BK469.out hb);have n1_:=Aside0.mk (blk_below BK470.out hb);have n2_:=Aside0.mk (below_step (by exact HB.out) hb);have n3_:=Aside0.mk (hbox);have n4_:=Aside0.mk ((by rw [hg];exact (below_size (by exact HB.out)) : w.heap.size ≤ gb471));have n5_:=Aside0.mk ((by rw [hg];exact (below_size (by exact HB.out)) : w.heap.size ≤ gb471));have n6_:=Aside0.mk ((by rw [hg];exact Nat.ne_of_lt (blk_lt BK469.out) : gb469 ≠ gb471));have n7_:=Aside0.mk ((by rw [hg];exact Nat.ne_of_gt (blk_lt BK469.out) : gb471 ≠ gb469));have n8_:=Aside0.mk ((by rw [hg];exact Nat.ne_of_lt (blk_lt BK470.out) : gb470 ≠ gb471));have n9_:=Aside0.mk ((by rw [hg];exact Nat.ne_of_gt (blk_lt BK470.out) : gb471 ≠ gb470));clear BK469;clear BK470;clear HB;(try clear BK468);(try clear GW468);(try clear GE468);(try clear NB468_469);(try clear NB469_468);(try clear NB468_470);(try clear NB470_468);have BK469:=n0_;have BK470:=n1_;have HB:=n2_;have BK471:=n3_;have GW471:=n4_;have GE471:=n5_;have NB469_471:=n6_;have NB471_469:=n7_;have NB470_471:=n8_;have NB471_470:=n9_;clear n0_ n1_ n2_ n3_ n4_ n5_ n6_ n7_ n8_ n9_;clear hb hbox hg)|((with_reducible refine gate_dst (N:=4) rfl ?_);(with_reducible refine gate_at_ (s := "l18_clock.go:105") rfl ?_);refine box_event ?hg (N:=4) ?hd (cs:=#[.int .i64 0,.int .i64 0,.int .i64 0,.slice none 0 0,.int .i64 0,.int .i64 0,.slice none 0 0]) (t:=30) ?hr ?_;(case hd => rfl);(case hg => rfl);(case hr => first|(go_simp;done)|(go_simp;rfl));intro gb472 hg w48 hbox hb;have n0_:=Aside0.mk (blk_below BK469.out hb);have n1_:=Aside0.mk (blk_below BK470.out hb);have n2_:=Aside0.mk (blk_below BK471.out hb);have n3_:=Aside0.mk (below_step (by exact HB.out) hb);have n4_:=Aside0.mk (hbox);have n5_:=Aside0.mk ((by rw [hg];exact (below_size (by exact HB.out)) : w.heap.size ≤ gb472));have n6_:=Aside0.mk ((by rw [hg];exact (below_size (by exact HB.out)) : w.heap.size ≤ gb472));have n7_:=Aside0.mk ((by rw [hg];exact Nat.ne_of_lt (blk_lt BK469.out) : gb469 ≠ gb472));have n8_:=Aside0.mk ((by rw [hg];exact Nat.ne_of_gt (blk_lt BK469.out) : gb472 ≠ gb469));have n9_:=Aside0.mk ((by rw [hg];exact Nat.ne_of_lt (blk_lt BK470.out) : gb470 ≠ gb472));have n10_:=Aside0.mk ((by rw [hg];exact Nat.ne_of_gt (blk_lt BK470.out) : gb472 ≠ gb470));have n11_:=Aside0.mk ((by rw [hg];exact Nat.ne_of_lt (blk_lt BK471.out) : gb471 ≠ gb472));have n12_:=Aside0.mk ((by rw [hg];exact Nat.ne_of_gt (blk_lt BK471.out) : gb472 ≠ gb471));clear BK469;clear BK470;clear BK471;clear HB;have BK469:=n0_;have BK470:=n1_;have BK471:=n2_;have HB:=n3_;have BK472:=n4_;have GW472:=n5_;have GE472:=n6_;have NB469_472:=n7_;have NB472_469:=n8_;have NB470_472:=n9_;have NB472_470:=n10_;have NB471_472:=n11_;have NB472_471:=n12_;clear n0_ n1_ n2_ n3_ n4_ n5_ n6_ n7_ n8_ n9_ n10_ n11_ n12_;clear hb hbox hg;have hnb49:=NB471_469.out;have hnc49:=NB469_471.out;have hnb50:=NB471_470.out;have hnc50:=NB470_471.out;have hnb51:=NB471_472.out;have hnc51:=NB472_471.out;have hcz52_0 : w48.cell? ⟨gb471,0,none⟩ = some (.int .i64 a0_0):=(blk_cell BK471.out 0).trans rfl;have hcz52_1 : w48.cell? ⟨gb471,1,none⟩ = some (.int .i64 a0_1):=(blk_cell BK471.out 1).trans rfl;have hcz52_2 : w48.cell? ⟨gb471,2,none⟩ = some (.int .i64 a0_2):=(blk_cell BK471.out 2).trans rfl;have hcz52_3 : w48.cell? ⟨gb471,3,none⟩ = some (.slice A0_3 l0_3.length c0_3):=(blk_cell BK471.out 3).trans rfl;have hcz52_4 : w48.cell? ⟨gb471,4,none⟩ = some (.int .i64 a0_4):=(blk_cell BK471.out 4).trans rfl;have hcz52_5 : w48.cell? ⟨gb471,5,none⟩ = some (.int .i64 a0_5):=(blk_cell BK471.out 5).trans rfl;have hcz52_6 : w48.cell? ⟨gb471,6,none⟩ = some (.slice A0_6 l0_6.length c0_6):=(blk_cell BK471.out 6).trans rfl;have hfz52_0:=blk_frozen BK471.out 0;have hfz52_1:=blk_frozen BK471.out 1;have hfz52_2:=blk_frozen BK471.out 2;have hfz52_3:=blk_frozen BK471.out 3;have hfz52_4:=blk_frozen BK471.out 4;have hfz52_5:=blk_frozen BK471.out 5;have hfz52_6:=blk_frozen BK471.out 6)|((with_reducible refine gate_callee (f:=51) rfl ?_);(with_reducible refine gate_at_ (s := "l18_clock.go:106") rfl ?_);refine goesL_ (some 9) rfl rfl Try.func51 (by kernel_rfl) rfl #[.agg #[.int .i64 a0_0,.int .i64 a0_1,.int .i64 a0_2,.slice A0_3 l0_3.length c0_3,.int .i64 a0_4,.int .i64 a0_5,.slice A0_6 l0_6.length c0_6]] rfl (by (try simp only [List.map_toArray,List.map_cons,List.map_nil]);first|done|rfl|(simp only [List.length_drop,List.length_take];rfl)) ?_;(with_reducible refine (impl_isLs.calls k a0_0 a0_1 a0_2 _ _ l0_3 a0_4 a0_5 _ _ l0_6 true _ ?side1 ?side2 ?side3 ?side4 A3.out).mono ?_);(case side1 => repeat (first|exact (Kd.C_below HR0_3.out HB.out)|(with_reducible refine Kd.C_alloc ?_ _)|(with_reducible refine Kd.C_drewN ?_ _)|(with_reducible refine Kd.C_drew ?_)));(case side2 => exact HC0_3.out);(case side3 => repeat (first|exact (Kd.C_below HR0_6.out HB.out)|(with_reducible refine Kd.C_alloc ?_ _)|(with_reducible refine Kd.C_drewN ?_ _)|(with_reducible refine Kd.C_drew ?_)));(case side4 => exact HC0_6.out);rintro e w53 ⟨rfl,hb⟩;refine ⟨_,rfl,?_⟩;have n0_:=Aside0.mk (blk_below BK469.out hb);have n1_:=Aside0.mk (blk_below BK470.out hb);have n2_:=Aside0.mk (blk_below BK471.out hb);have n3_:=Aside0.mk (blk_below BK472.out hb);have n4_:=Aside0.mk (below_step (by exact HB.out) hb);clear BK469;clear BK470;clear BK471;clear BK472;clear HB;have BK469:=n0_;have BK470:=n1_;have BK471:=n2_;have BK472:=n3_;have HB:=n4_;clear n0_ n1_ n2_ n3_ n4_;(try clear hb);(try clear hb2);(try clear hk);(try clear hi);have hcz54_0 : w53.cell? ⟨gb471,0,none⟩ = some (.int .i64 a0_0):=(blk_cell BK471.out 0).trans rfl;have hcz54_1 : w53.cell? ⟨gb471,1,none⟩ = some (.int .i64 a0_1):=(blk_cell BK471.out 1).trans rfl;have hcz54_2 : w53.cell? ⟨gb471,2,none⟩ = some (.int .i64 a0_2):=(blk_cell BK471.out 2).trans rfl;have hcz54_3 : w53.cell? ⟨gb471,3,none⟩ = some (.slice A0_3 l0_3.length c0_3):=(blk_cell BK471.out 3).trans rfl;have hcz54_4 : w53.cell? ⟨gb471,4,none⟩ = some (.int .i64 a0_4):=(blk_cell BK471.out 4).trans rfl;have hcz54_5 : w53.cell? ⟨gb471,5,none⟩ = some (.int .i64 a0_5):=(blk_cell BK471.out 5).trans rfl;have hcz54_6 : w53.cell? ⟨gb471,6,none⟩ = some (.slice A0_6 l0_6.length c0_6):=(blk_cell BK471.out 6).trans rfl;have hfz54_0:=blk_frozen BK471.out 0;have hfz54_1:=blk_frozen BK471.out 1;have hfz54_2:=blk_frozen BK471.out 2;have hfz54_3:=blk_frozen BK471.out 3;have hfz54_4:=blk_frozen BK471.out 4;have hfz54_5:=blk_frozen BK471.out 5;have hfz54_6:=blk_frozen BK471.out 6)|((with_reducible refine gate_callee (f:=80) rfl ?_);(with_reducible refine gate_at_ (s := "l18_clock.go:109") rfl ?_);refine goesL_ (some 13) rfl rfl Try.func80 (by kernel_rfl) rfl #[.agg #[.int .i64 a0_0,.int .i64 a0_1,.int .i64 a0_2,.slice A0_3 l0_3.length c0_3,.int .i64 a0_4,.int .i64 a0_5,.slice A0_6 l0_6.length c0_6]] rfl (by (try simp only [List.map_toArray,List.map_cons,List.map_nil]);first|done|rfl|(simp only [List.length_drop,List.length_take];rfl)) ?_;(with_reducible refine (impl_Ls_copied.calls a0_0 a0_1 a0_2 _ _ l0_3 a0_4 a0_5 _ _ l0_6 t474 t475 t476 t477 t480 t481 t482 _ ?side1 ?side2 ?side3 ?side4 A5.out).mono ?_);(case side1 => repeat (first|exact (Kd.C_below HR0_3.out HB.out)|(with_reducible refine Kd.C_alloc ?_ _)|(with_reducible refine Kd.C_drewN ?_ _)|(with_reducible refine Kd.C_drew ?_)));(case side2 => exact HC0_3.out);(case side3 => repeat (first|exact (Kd.C_below HR0_6.out HB.out)|(with_reducible refine Kd.C_alloc ?_ _)|(with_reducible refine Kd.C_drewN ?_ _)|(with_reducible refine Kd.C_drew ?_)));(case side4 => exact HC0_6.out);rintro e w55 ⟨v478,v483,rfl,ho0,ho1,hb⟩;refine ⟨_,rfl,?_⟩;have n0_:=Aside0.mk (Kd.R_lower (Kd.R_newB ho0 BK469.out) (below_size (by exact HB.out)));have n1_:=Aside0.mk (Kd.R_lower ho1 (below_size (by exact HB.out)));have n2_:=Aside0.mk (blk_below BK469.out hb);have n3_:=Aside0.mk (blk_below BK470.out hb);have n4_:=Aside0.mk (blk_below BK472.out hb);have n5_:=Aside0.mk (below_step (by exact HB.out) hb);clear BK469;clear BK470;clear BK472;clear HB;(try clear BK471);(try clear GW471);(try clear GE471);(try clear NB471_469);(try clear NB469_471);(try clear NB471_470);(try clear NB470_471);(try clear NB471_472);(try clear NB472_471);have HO479:=n0_;have HO484:=n1_;have BK469:=n2_;have BK470:=n3_;have BK472:=n4_;have HB:=n5_;clear n0_ n1_ n2_ n3_ n4_ n5_;(try clear hb);(try clear hb2);(try clear hk);(try clear hi);(try clear ho0);(try clear ho1))|((with_reducible refine gate_dst (N:=6) rfl ?_);(with_reducible refine gate_at_ (s := "l18_clock.go:109") rfl ?_);refine box_event ?hg (N:=6) ?hd (cs:=#[.int .i64 0,.int .i64 0,.int .i64 0,.slice none 0 0,.int .i64 0,.int .i64 0,.slice none 0 0]) (t:=30) ?hr ?_;(case hd => rfl);(case hg => rfl);(case hr => first|(go_simp;done)|(go_simp;rfl));intro gb485 hg w56 hbox hb;have n0_:=Aside0.mk (Kd.R_below (by exact HO479.out) hb);have n1_:=Aside0.mk (Kd.R_below (by exact HO484.out) hb);have n2_:=Aside0.mk (blk_below BK469.out hb);have n3_:=Aside0.mk (blk_below BK470.out hb);have n4_:=Aside0.mk (blk_below BK472.out hb);have n5_:=Aside0.mk (below_step (by exact HB.out) hb);have n6_:=Aside0.mk (hbox);have n7_:=Aside0.mk ((by rw [hg];exact (below_size (by exact HB.out)) : w.heap.size ≤ gb485));have n8_:=Aside0.mk ((by rw [hg];exact (below_size (by exact HB.out)) : w.heap.size ≤ gb485));have n9_:=Aside0.mk ((by rw [hg];exact Nat.ne_of_lt (blk_lt BK469.out) : gb469 ≠ gb485));have n10_:=Aside0.mk ((by rw [hg];exact Nat.ne_of_gt (blk_lt BK469.out) : gb485 ≠ gb469));have n11_:=Aside0.mk ((by rw [hg];exact Nat.ne_of_lt (blk_lt BK470.out) : gb470 ≠ gb485));have n12_:=Aside0.mk ((by rw [hg];exact Nat.ne_of_gt (blk_lt BK470.out) : gb485 ≠ gb470));have n13_:=Aside0.mk ((by rw [hg];exact Nat.ne_of_lt (blk_lt BK472.out) : gb472 ≠ gb485));have n14_:=Aside0.mk ((by rw [hg];exact Nat.ne_of_gt (blk_lt BK472.out) : gb485 ≠ gb472));clear HO479;clear HO484;clear BK469;clear BK470;clear BK472;clear HB;have HO479:=n0_;have HO484:=n1_;have BK469:=n2_;have BK470:=n3_;have BK472:=n4_;have HB:=n5_;have BK485:=n6_;have GW485:=n7_;have GE485:=n8_;have NB469_485:=n9_;have NB485_469:=n10_;have NB470_485:=n11_;have NB485_470:=n12_;have NB472_485:=n13_;have NB485_472:=n14_;clear n0_ n1_ n2_ n3_ n4_ n5_ n6_ n7_ n8_ n9_ n10_ n11_ n12_ n13_ n14_;clear hb hbox hg;have hnb57:=NB485_469.out;have hnc57:=NB469_485.out;have hnb58:=NB485_470.out;have hnc58:=NB470_485.out;have hnb59:=NB485_472.out;have hnc59:=NB472_485.out;have hcz60_0 : w56.cell? ⟨gb485,0,none⟩ = some (.int .i64 0):=(blk_cell BK485.out 0).trans rfl;have hcz60_1 : w56.cell? ⟨gb485,1,none⟩ = some (.int .i64 0):=(blk_cell BK485.out 1).trans rfl;have hcz60_2 : w56.cell? ⟨gb485,2,none⟩ = some (.int .i64 0):=(blk_cell BK485.out 2).trans rfl;have hcz60_3 : w56.cell? ⟨gb485,3,none⟩ = some (.slice none 0 0):=(blk_cell BK485.out 3).trans rfl;have hcz60_4 : w56.cell? ⟨gb485,4,none⟩ = some (.int .i64 0):=(blk_cell BK485.out 4).trans rfl;have hcz60_5 : w56.cell? ⟨gb485,5,none⟩ = some (.int .i64 0):=(blk_cell BK485.out 5).trans rfl;have hcz60_6 : w56.cell? ⟨gb485,6,none⟩ = some (.slice none 0 0):=(blk_cell BK485.out 6).trans rfl;have hfz60_0:=blk_frozen BK485.out 0;have hfz60_1:=blk_frozen BK485.out 1;have hfz60_2:=blk_frozen BK485.out 2;have hfz60_3:=blk_frozen BK485.out 3;have hfz60_4:=blk_frozen BK485.out 4;have hfz60_5:=blk_frozen BK485.out 5;have hfz60_6:=blk_frozen BK485.out 6;obtain ⟨Ao61,co61,eo61⟩:=Kd.R_slice HO479.out;subst eo61;obtain ⟨Ao62,co62,eo62⟩:=Kd.R_slice HO484.out;subst eo62)|((with_reducible refine gate_store (t:=30) (p:=6) rfl ?_);(with_reducible refine gate_at_ (s := "l18_clock.go:109") rfl ?_);refine store_event (t:=30) (p:=6) (v:=?vo_w63) (w1:=(setAll_ w56 gb485 0 [.int .i64 t474,.int .i64 t475,.int .i64 t476,.slice Ao61 t477.length co61,.int .i64 t480,.int .i64 t481,.slice Ao62 t482.length co62])) ?hg ?ho ?hn ?hr ?_;(case ho => rfl);(case hg => rfl);(case hn => rfl);(case hr => simp only [setAll_];first|(go_simp;done)|(go_simp;rfl));intro w63 hw;have hg : w56.grownBy w63 (some gb485):=(by rw [hw];exact setAll_grown _ _ _ _);have n0_:=Aside0.mk (Kd.R_mono (kdgr_R (Kd.R_types HO479.out BK485.out (by decide)) (fun _ hk => hk.2) hg) (fun _ hk => hk.1));have n1_:=Aside0.mk (Kd.R_mono (kdgr_R (Kd.R_types HO484.out BK485.out (by decide)) (fun _ hk => hk.2) hg) (fun _ hk => hk.1));have n2_:=Aside0.mk (blk_grown BK469.out hg (ne_some_ NB469_485.out));have n3_:=Aside0.mk (blk_grown BK470.out hg (ne_some_ NB470_485.out));have n4_:=Aside0.mk (blk_grown BK472.out hg (ne_some_ NB472_485.out));have n5_:=Aside0.mk ((by rw [hw];exact setAll_blk BK485.out rfl : w63.heap[gb485]? = some (.cells #[.int .i64 t474,.int .i64 t475,.int .i64 t476,.slice Ao61 t477.length co61,.int .i64 t480,.int .i64 t481,.slice Ao62 t482.length co62] 30 (0,0))));have n6_:=Aside0.mk (below_gr_ HB.out hg GE485.out);clear HO479;clear HO484;clear BK469;clear BK470;clear BK472;clear BK485;clear HB;have HO479:=n0_;have HO484:=n1_;have BK469:=n2_;have BK470:=n3_;have BK472:=n4_;have BK485:=n5_;have HB:=n6_;clear n0_ n1_ n2_ n3_ n4_ n5_ n6_;clear hw hg)|(go_at_call 64;go_in))
    have n0_:=Aside0.mk (Kd.R_drew HO479.out)
    have n1_:=Aside0.mk (Kd.R_drew HO484.out)
    have n2_:=Aside0.mk (blk_drew BK469.out)
    have n3_:=Aside0.mk (blk_drew BK470.out)
    have n4_:=Aside0.mk (blk_drew BK472.out)
    have n5_:=Aside0.mk (blk_drew BK485.out)
    have n6_:=Aside0.mk (below_drew1 HB.out)
    clear HO479
    clear HO484
    clear BK469
    clear BK470
    clear BK472
    clear BK485
    clear HB
    have HO479:=n0_
    have HO484:=n1_
    have BK469:=n2_
    have BK470:=n3_
    have BK472:=n4_
    have BK485:=n5_
    have HB:=n6_
    clear n0_ n1_ n2_ n3_ n4_ n5_ n6_
    refine start_ (n:=12) (S:=fun w' => w'.cell? ⟨gb469,0,none⟩ = some (.int .i64 a1) ∧ w'.cell? ⟨gb485,0,none⟩ = some (.int .i64 t474) ∧ w'.cell? ⟨gb485,1,none⟩ = some (.int .i64 t475) ∧ w'.cell? ⟨gb485,2,none⟩ = some (.int .i64 t476) ∧ w'.cell? ⟨gb485,3,none⟩ = some (.slice Ao61 t477.length co61) ∧ w'.cell? ⟨gb485,4,none⟩ = some (.int .i64 t480) ∧ w'.cell? ⟨gb485,5,none⟩ = some (.int .i64 t481) ∧ w'.cell? ⟨gb485,6,none⟩ = some (.slice Ao62 t482.length co62)) (ds:=[]) #[F,F,F,F,F,F,F,F,F,F,F,F] (by kernel_rfl) rfl rfl ⟨(blk_cell BK469.out 0).trans rfl,(blk_cell BK485.out 0).trans rfl,(blk_cell BK485.out 1).trans rfl,(blk_cell BK485.out 2).trans rfl,(blk_cell BK485.out 3).trans rfl,(blk_cell BK485.out 4).trans rfl,(blk_cell BK485.out 5).trans rfl,(blk_cell BK485.out 6).trans rfl⟩ (fun hHeld => ?_)
    generalize w63.drew = w64 at HO479 HO484 BK469 BK470 BK472 BK485 HB hHeld ⊢
    refine take_ (i:=0) (N:=some 4) (v:=?_) (a':=?_) #[T,F,F,F,F,F,F,F,F,F,F,F] rfl rfl (by kernel_rfl) (fun _ _ _ h => h) (Or.inl ⟨by rfl,?_⟩) hHeld ?_ ?_
    rotate_left
    ·
     rintro w' ⟨s0,s1,s2,s3,s4,s5,s6,s7⟩
     go_simp
     with_reducible rfl
    rotate_left
    ·
     simp only [Act.put,List.setIfInBounds_toArray,List.set_cons_zero,List.set_cons_succ,i64_w,i32_w]
     rfl
    refine one_ (i:=1) (N:=some 5) #[T,T,F,F,F,F,F,F,F,F,F,F] rfl rfl (by kernel_rfl) (by decide) (fun K hK => ?_)
    refine goes_ Try.func54 (by kernel_rfl) rfl #[.int .i64 a1,.int .i64 1,.int .i64 1000] (by rfl) rfl rfl (by (try simp only [List.map_toArray,List.map_cons,List.map_nil]);first|done|rfl|(simp only [List.length_drop,List.length_take];rfl)) ?_
    with_reducible refine (impl_in.calls a1 1 1000 true _ A6.out).mono ?_
    rintro e w' ⟨rfl,⟨nd,rfl⟩⟩
    refine ⟨_,rfl,?_⟩
    refine hK.out _ _ ⟨(blk_cell BK469.out 0).trans rfl,(blk_cell BK485.out 0).trans rfl,(blk_cell BK485.out 1).trans rfl,(blk_cell BK485.out 2).trans rfl,(blk_cell BK485.out 3).trans rfl,(blk_cell BK485.out 4).trans rfl,(blk_cell BK485.out 5).trans rfl,(blk_cell BK485.out 6).trans rfl⟩ (fun hHeld => ?_)
    clear hK K
    refine norm_ (a':=?_) ?_ ?_
    rotate_left
    ·
     show Act.put _ (some 5) _ = _
     simp only [Act.put,List.setIfInBounds_toArray,List.set_cons_zero,List.set_cons_succ,i64_w,i32_w]
     rfl
    refine pure_ (i:=2) (N:=some 6) (v:=?_) (a':=?_) #[T,T,T,F,F,F,F,F,F,F,F,F] rfl rfl (by kernel_rfl) (fun _ _ _ h => h) (Or.inl ⟨by rfl,?_⟩) ?_ ?_
    rotate_left
    ·
     intro w'
     go_simp
     with_reducible rfl
    rotate_left
    ·
     simp only [Act.put,List.setIfInBounds_toArray,List.set_cons_zero,List.set_cons_succ,i64_w,i32_w]
     rfl
    refine pure_ (i:=3) (N:=some 7) (v:=?_) (a':=?_) #[T,T,T,T,F,F,F,F,F,F,F,F] rfl rfl (by kernel_rfl) (fun _ _ _ h => h) (Or.inl ⟨by rfl,?_⟩) ?_ ?_
    rotate_left
    ·
     intro w'
     go_simp
     with_reducible rfl
    rotate_left
    ·
     simp only [Act.put,List.setIfInBounds_toArray,List.set_cons_zero,List.set_cons_succ,i64_w,i32_w]
     rfl
    refine pure_ (i:=4) (N:=some 8) (v:=?_) (a':=?_) #[T,T,T,T,T,F,F,F,F,F,F,F] rfl rfl (by kernel_rfl) (fun _ _ _ h => h) (Or.inl ⟨by rfl,?_⟩) ?_ ?_
    rotate_left
    ·
     intro w'
     go_simp
     with_reducible rfl
    rotate_left
    ·
     simp only [Act.put,List.setIfInBounds_toArray,List.set_cons_zero,List.set_cons_succ,i64_w,i32_w]
     rfl
    refine pure_ (i:=5) (N:=some 9) (v:=?_) (a':=?_) #[T,T,T,T,T,T,F,F,F,F,F,F] rfl rfl (by kernel_rfl) (fun _ _ _ h => h) (Or.inl ⟨by rfl,?_⟩) ?_ ?_
    rotate_left
    ·
     intro w'
     go_simp
     with_reducible rfl
    rotate_left
    ·
     simp only [Act.put,List.setIfInBounds_toArray,List.set_cons_zero,List.set_cons_succ,i64_w,i32_w]
     rfl
    refine pure_ (i:=6) (N:=some 10) (v:=?_) (a':=?_) #[T,T,T,T,T,T,T,F,F,F,F,F] rfl rfl (by kernel_rfl) (fun _ _ _ h => h) (Or.inl ⟨by rfl,?_⟩) ?_ ?_
    rotate_left
    ·
     intro w'
     go_simp
     with_reducible rfl
    rotate_left
    ·
     simp only [Act.put,List.setIfInBounds_toArray,List.set_cons_zero,List.set_cons_succ,i64_w,i32_w]
     rfl
    refine take_ (i:=7) (N:=some 11) (v:=?_) (a':=?_) #[T,T,T,T,T,T,T,T,F,F,F,F] rfl rfl (by kernel_rfl) (fun _ _ _ h => h) (Or.inl ⟨by rfl,?_⟩) hHeld ?_ ?_
    rotate_left
    ·
     rintro w' ⟨s0,s1,s2,s3,s4,s5,s6,s7⟩
     go_simp
     with_reducible rfl
    rotate_left
    ·
     simp only [Act.put,List.setIfInBounds_toArray,List.set_cons_zero,List.set_cons_succ,i64_w,i32_w]
     rfl
    refine take_ (i:=8) (N:=some 12) (v:=?_) (a':=?_) #[T,T,T,T,T,T,T,T,T,F,F,F] rfl rfl (by kernel_rfl) (fun _ _ _ h => h) (Or.inl ⟨by rfl,?_⟩) hHeld ?_ ?_
    rotate_left
    ·
     rintro w' ⟨s0,s1,s2,s3,s4,s5,s6,s7⟩
     go_simp
     with_reducible rfl
    rotate_left
    ·
     simp only [Act.put,List.setIfInBounds_toArray,List.set_cons_zero,List.set_cons_succ,i64_w,i32_w]
     rfl
    refine pure_ (i:=9) (N:=some 13) (v:=?_) (a':=?_) #[T,T,T,T,T,T,T,T,T,T,F,F] rfl rfl (by kernel_rfl) (fun _ _ _ h => h) (Or.inl ⟨by rfl,?_⟩) ?_ ?_
    rotate_left
    ·
     intro w'
     go_simp
     with_reducible rfl
    rotate_left
    ·
     simp only [Act.put,List.setIfInBounds_toArray,List.set_cons_zero,List.set_cons_succ,i64_w,i32_w]
     rfl
    refine pure_ (i:=10) (N:=some 14) (v:=?_) (a':=?_) #[T,T,T,T,T,T,T,T,T,T,T,F] rfl rfl (by kernel_rfl) (fun _ _ _ h => h) (Or.inl ⟨by rfl,?_⟩) ?_ ?_
    rotate_left
    ·
     intro w'
     go_simp
     with_reducible rfl
    rotate_left
    ·
     simp only [Act.put,List.setIfInBounds_toArray,List.set_cons_zero,List.set_cons_succ,i64_w,i32_w]
     rfl
    refine pure_ (i:=11) (N:=some 15) (v:=?_) (a':=?_) #[T,T,T,T,T,T,T,T,T,T,T,T] rfl rfl (by kernel_rfl) (fun _ _ _ h => h) (Or.inl ⟨by rfl,?_⟩) ?_ ?_
    rotate_left
    ·
     intro w'
     go_simp
     with_reducible rfl
    rotate_left
    ·
     simp only [Act.put,List.setIfInBounds_toArray,List.set_cons_zero,List.set_cons_succ,i64_w,i32_w]
     rfl
    refine done_ (by kernel_rfl) ?_
    (try simp only [World.drewN_drewN])
    (try (rw [drewN_self w64];generalize hq_ : World.drewN w64 _ = w64;have n0_ : Aside0 (Kd.R (Kd.int .i64) 3 w64 w.heap.size (fun k_ => (True ∧ k_ ≠ gb469)) (.slice Ao61 t477.length co61) t477):=⟨by rw [← hq_];exact (by (with_reducible repeat (first|apply Kd.R_alloc|apply Kd.R_drewN|apply Kd.R_drew));exact HO479.out)⟩;have n1_ : Aside0 (Kd.R k50 50 w64 w.heap.size (fun k_ => True) (.slice Ao62 t482.length co62) t482):=⟨by rw [← hq_];exact (by (with_reducible repeat (first|apply Kd.R_alloc|apply Kd.R_drewN|apply Kd.R_drew));exact HO484.out)⟩;have n2_ : Aside0 (w64.heap[gb469]? = some (.cells #[.int .i64 a1] 3 (0,0))):=⟨by rw [← hq_];exact (by (with_reducible repeat (first|refine blk_drewN ?_ _|refine blk_drew ?_|refine blk_alloc ?_ _));exact BK469.out)⟩;have n3_ : Aside0 (w64.heap[gb470]? = some (.cells #[.int .i64 0,.int .i64 0,.int .i64 0,.slice none 0 0,.int .i64 0,.int .i64 0,.slice none 0 0] 30 (0,0))):=⟨by rw [← hq_];exact (by (with_reducible repeat (first|refine blk_drewN ?_ _|refine blk_drew ?_|refine blk_alloc ?_ _));exact BK470.out)⟩;have n4_ : Aside0 (w64.heap[gb472]? = some (.cells #[.int .i64 0,.int .i64 0,.int .i64 0,.slice none 0 0,.int .i64 0,.int .i64 0,.slice none 0 0] 30 (0,0))):=⟨by rw [← hq_];exact (by (with_reducible repeat (first|refine blk_drewN ?_ _|refine blk_drew ?_|refine blk_alloc ?_ _));exact BK472.out)⟩;have n5_ : Aside0 (w64.heap[gb485]? = some (.cells #[.int .i64 t474,.int .i64 t475,.int .i64 t476,.slice Ao61 t477.length co61,.int .i64 t480,.int .i64 t481,.slice Ao62 t482.length co62] 30 (0,0))):=⟨by rw [← hq_];exact (by (with_reducible repeat (first|refine blk_drewN ?_ _|refine blk_drew ?_|refine blk_alloc ?_ _));exact BK485.out)⟩;have n6_ : Aside0 (Below w.heap.size w w64):=⟨by rw [← hq_];exact (by repeat (first|(with_reducible first|exact HB.out|apply below_alloc|apply pw_below_drewN|apply below_drew1|refine below_set ?_ GE469.out|refine below_set ?_ GE470.out|refine below_set ?_ GE472.out|refine below_set ?_ GE485.out)|exact HB.out))⟩;clear HO479 HO484 BK469 BK470 BK472 BK485 HB hq_;have HO479:=n0_;have HO484:=n1_;have BK469:=n2_;have BK470:=n3_;have BK472:=n4_;have BK485:=n5_;have HB:=n6_;clear n0_ n1_ n2_ n3_ n4_ n5_ n6_))
    try go_wp2
    have n0_:=Aside0.mk (Kd.R_drew HO479.out)
    have n1_:=Aside0.mk (Kd.R_drew HO484.out)
    have n2_:=Aside0.mk (blk_drew BK469.out)
    have n3_:=Aside0.mk (blk_drew BK470.out)
    have n4_:=Aside0.mk (blk_drew BK472.out)
    have n5_:=Aside0.mk (blk_drew BK485.out)
    have n6_:=Aside0.mk (below_drew1 HB.out)
    clear HO479
    clear HO484
    clear BK469
    clear BK470
    clear BK472
    clear BK485
    clear HB
    have HO479:=n0_
    have HO484:=n1_
    have BK469:=n2_
    have BK470:=n3_
    have BK472:=n4_
    have BK485:=n5_
    have HB:=n6_
    clear n0_ n1_ n2_ n3_ n4_ n5_ n6_
    refine start_ (n:=9) (S:=fun w' => w'.cell? ⟨gb485,0,none⟩ = some (.int .i64 t474) ∧ w'.cell? ⟨gb485,1,none⟩ = some (.int .i64 t475) ∧ w'.cell? ⟨gb485,2,none⟩ = some (.int .i64 t476) ∧ w'.cell? ⟨gb485,3,none⟩ = some (.slice Ao61 t477.length co61) ∧ w'.cell? ⟨gb485,4,none⟩ = some (.int .i64 t480) ∧ w'.cell? ⟨gb485,5,none⟩ = some (.int .i64 t481) ∧ w'.cell? ⟨gb485,6,none⟩ = some (.slice Ao62 t482.length co62) ∧ w'.cell? ⟨gb469,0,none⟩ = some (.int .i64 a1)) (ds:=[8]) #[F,F,F,F,F,F,F,F,F] (by kernel_rfl) rfl rfl ⟨(blk_cell BK485.out 0).trans rfl,(blk_cell BK485.out 1).trans rfl,(blk_cell BK485.out 2).trans rfl,(blk_cell BK485.out 3).trans rfl,(blk_cell BK485.out 4).trans rfl,(blk_cell BK485.out 5).trans rfl,(blk_cell BK485.out 6).trans rfl,(blk_cell BK469.out 0).trans rfl⟩ (fun hHeld => ?_)
    generalize w64.drew = w65 at HO479 HO484 BK469 BK470 BK472 BK485 HB hHeld ⊢
    refine pure_ (i:=0) (N:=some 16) (v:=?_) (a':=?_) #[T,F,F,F,F,F,F,F,F] rfl rfl (by kernel_rfl) (fun _ _ _ h => h) (Or.inl ⟨by rfl,?_⟩) ?_ ?_
    rotate_left
    ·
     intro w'
     go_simp
     with_reducible rfl
    rotate_left
    ·
     simp only [Act.put,List.setIfInBounds_toArray,List.set_cons_zero,List.set_cons_succ,i64_w,i32_w]
     rfl
    refine pure_ (i:=1) (N:=some 17) (v:=?_) (a':=?_) #[T,T,F,F,F,F,F,F,F] rfl rfl (by kernel_rfl) (fun _ _ _ h => h) (Or.inl ⟨by rfl,?_⟩) ?_ ?_
    rotate_left
    ·
     intro w'
     go_simp
     with_reducible rfl
    rotate_left
    ·
     simp only [Act.put,List.setIfInBounds_toArray,List.set_cons_zero,List.set_cons_succ,i64_w,i32_w]
     rfl
    refine pure_ (i:=2) (N:=some 18) (v:=?_) (a':=?_) #[T,T,T,F,F,F,F,F,F] rfl rfl (by kernel_rfl) (fun _ _ _ h => h) (Or.inl ⟨by rfl,?_⟩) ?_ ?_
    rotate_left
    ·
     intro w'
     go_simp
     with_reducible rfl
    rotate_left
    ·
     simp only [Act.put,List.setIfInBounds_toArray,List.set_cons_zero,List.set_cons_succ,i64_w,i32_w]
     rfl
    refine take_ (i:=3) (N:=some 19) (v:=?_) (a':=?_) #[T,T,T,T,F,F,F,F,F] rfl rfl (by kernel_rfl) (fun _ _ _ h => h) (Or.inl ⟨by rfl,?_⟩) hHeld ?_ ?_
    rotate_left
    ·
     rintro w' ⟨s0,s1,s2,s3,s4,s5,s6,s7⟩
     go_simp
     with_reducible rfl
    rotate_left
    ·
     simp only [Act.put,List.setIfInBounds_toArray,List.set_cons_zero,List.set_cons_succ,i64_w,i32_w]
     rfl
    refine take_ (i:=4) (N:=some 20) (v:=?_) (a':=?_) #[T,T,T,T,T,F,F,F,F] rfl rfl (by kernel_rfl) (fun _ _ _ h => h) (Or.inl ⟨by rfl,?_⟩) hHeld ?_ ?_
    rotate_left
    ·
     rintro w' ⟨s0,s1,s2,s3,s4,s5,s6,s7⟩
     go_simp
     with_reducible rfl
    rotate_left
    ·
     simp only [Act.put,List.setIfInBounds_toArray,List.set_cons_zero,List.set_cons_succ,i64_w,i32_w]
     rfl
    refine pure_ (i:=5) (N:=some 21) (v:=?_) (a':=?_) #[T,T,T,T,T,T,F,F,F] rfl rfl (by kernel_rfl) (fun _ _ _ h => h) (Or.inl ⟨by rfl,?_⟩) ?_ ?_
    rotate_left
    ·
     intro w'
     go_simp
     with_reducible rfl
    rotate_left
    ·
     simp only [Act.put,List.setIfInBounds_toArray,List.set_cons_zero,List.set_cons_succ,i64_w,i32_w]
     rfl
    refine pure_ (i:=6) (N:=some 22) (v:=?_) (a':=?_) #[T,T,T,T,T,T,T,F,F] rfl rfl (by kernel_rfl) (fun _ _ _ h => h) (Or.inl ⟨by rfl,?_⟩) ?_ ?_
    rotate_left
    ·
     intro w'
     go_simp
     with_reducible rfl
    rotate_left
    ·
     simp only [Act.put,List.setIfInBounds_toArray,List.set_cons_zero,List.set_cons_succ,i64_w,i32_w]
     rfl
    refine pure_ (i:=7) (N:=some 23) (v:=?_) (a':=?_) #[T,T,T,T,T,T,T,T,F] rfl rfl (by kernel_rfl) (fun _ _ _ h => h) (Or.inl ⟨by rfl,?_⟩) ?_ ?_
    rotate_left
    ·
     intro w'
     go_simp
     with_reducible rfl
    rotate_left
    ·
     simp only [Act.put,List.setIfInBounds_toArray,List.set_cons_zero,List.set_cons_succ,i64_w,i32_w]
     rfl
    refine last_ (i:=8) (N:=none) #[T,T,T,T,T,T,T,T,T] rfl rfl (by kernel_rfl) (by decide) (fun K hK => ?_)
    have hs66 : w65.cell? ⟨gb485,2,none⟩ = some (.int .i64 t476):=(blk_cell BK485.out 2).trans rfl
    have hfs66:=blk_frozen BK485.out 2
    have hns66_0:=NB469_485.out
    have hns66_1:=NB470_485.out
    have hns66_2:=NB472_485.out
    have hms66_0:=NB485_469.out
    have hms66_1:=NB485_470.out
    have hms66_2:=NB485_472.out
    refine skip_ (w1:=?_) (by rfl) rfl ?_ ?_
    rotate_left
    ·
     go_simp
     rfl
    refine hK.out _ _ ?_
    clear hK K
    refine done_ (by kernel_rfl) ?_
    have n0_ : Aside0 (Kd.R (Kd.int .i64) 3 (w65.setCell ⟨gb485,2,none⟩ (.int .i64 (wrap64 (t476 + a1)))) w.heap.size (fun k_ => k_ ≠ gb469) (.slice Ao61 t477.length co61) t477):=⟨by (with_reducible repeat (first|apply Kd.R_alloc|apply Kd.R_drewN|apply Kd.R_drew));exact Kd.R_mono (Kd.R_far (p:=⟨gb485,2,none⟩) (Kd.R_types HO479.out BK485.out (by decide)) (fun _ hk => hk.2) (.int .i64 (wrap64 (t476 + a1)))) (fun _ hk => hk.1.2)⟩
    have n1_ : Aside0 (Kd.R k50 50 (w65.setCell ⟨gb485,2,none⟩ (.int .i64 (wrap64 (t476 + a1)))) w.heap.size (fun _ => True) (.slice Ao62 t482.length co62) t482):=⟨by (with_reducible repeat (first|apply Kd.R_alloc|apply Kd.R_drewN|apply Kd.R_drew));exact Kd.R_mono (Kd.R_far (p:=⟨gb485,2,none⟩) (Kd.R_types HO484.out BK485.out (by decide)) (fun _ hk => hk.2) (.int .i64 (wrap64 (t476 + a1)))) (fun _ hk => trivial)⟩
    have n2_ : Aside0 ((w65.setCell ⟨gb485,2,none⟩ (.int .i64 (wrap64 (t476 + a1)))).heap[gb469]? = some (.cells #[.int .i64 a1] 3 (0,0))):=⟨by (with_reducible repeat (first|refine blk_drewN ?_ _|refine blk_drew ?_|refine blk_alloc ?_ _));refine blk_far ?_ NB469_485.out _;(with_reducible repeat (first|refine blk_drewN ?_ _|refine blk_drew ?_|refine blk_alloc ?_ _));exact BK469.out⟩
    have n3_ : Aside0 ((w65.setCell ⟨gb485,2,none⟩ (.int .i64 (wrap64 (t476 + a1)))).heap[gb470]? = some (.cells #[.int .i64 0,.int .i64 0,.int .i64 0,.slice none 0 0,.int .i64 0,.int .i64 0,.slice none 0 0] 30 (0,0))):=⟨by (with_reducible repeat (first|refine blk_drewN ?_ _|refine blk_drew ?_|refine blk_alloc ?_ _));refine blk_far ?_ NB470_485.out _;(with_reducible repeat (first|refine blk_drewN ?_ _|refine blk_drew ?_|refine blk_alloc ?_ _));exact BK470.out⟩
    have n4_ : Aside0 ((w65.setCell ⟨gb485,2,none⟩ (.int .i64 (wrap64 (t476 + a1)))).heap[gb472]? = some (.cells #[.int .i64 0,.int .i64 0,.int .i64 0,.slice none 0 0,.int .i64 0,.int .i64 0,.slice none 0 0] 30 (0,0))):=⟨by (with_reducible repeat (first|refine blk_drewN ?_ _|refine blk_drew ?_|refine blk_alloc ?_ _));refine blk_far ?_ NB472_485.out _;(with_reducible repeat (first|refine blk_drewN ?_ _|refine blk_drew ?_|refine blk_alloc ?_ _));exact BK472.out⟩
    have n5_ : Aside0 ((w65.setCell ⟨gb485,2,none⟩ (.int .i64 (wrap64 (t476 + a1)))).heap[gb485]? = some (.cells #[.int .i64 t474,.int .i64 t475,.int .i64 (wrap64 (t476 + a1)),.slice Ao61 t477.length co61,.int .i64 t480,.int .i64 t481,.slice Ao62 t482.length co62] 30 (0,0))):=⟨by (with_reducible repeat (first|refine blk_drewN ?_ _|refine blk_drew ?_|refine blk_alloc ?_ _));refine blk_put (cs:=#[.int .i64 t474,.int .i64 t475,.int .i64 t476,.slice Ao61 t477.length co61,.int .i64 t480,.int .i64 t481,.slice Ao62 t482.length co62]) ?_ 2 _ rfl;(with_reducible repeat (first|refine blk_drewN ?_ _|refine blk_drew ?_|refine blk_alloc ?_ _));exact BK485.out⟩
    have n6_ : Aside0 (Below w.heap.size w (w65.setCell ⟨gb485,2,none⟩ (.int .i64 (wrap64 (t476 + a1))))):=⟨by repeat (first|(with_reducible first|exact HB.out|apply below_alloc|apply pw_below_drewN|apply below_drew1|refine below_set ?_ GE469.out|refine below_set ?_ GE470.out|refine below_set ?_ GE472.out|refine below_set ?_ GE485.out)|exact HB.out)⟩
    (try clear HO479)
    (try clear HO484)
    (try clear BK469)
    (try clear BK470)
    (try clear BK472)
    (try clear BK485)
    (try clear HB)
    generalize (w65.setCell ⟨gb485,2,none⟩ (.int .i64 (wrap64 (t476 + a1)))) = w67 at n0_ n1_ n2_ n3_ n4_ n5_ n6_ ⊢
    have HO479:=n0_
    have HO484:=n1_
    have BK469:=n2_
    have BK470:=n3_
    have BK472:=n4_
    have BK485:=n5_
    have HB:=n6_
    clear n0_ n1_ n2_ n3_ n4_ n5_ n6_
    have hcz68_0 : w67.cell? ⟨gb485,0,none⟩ = some (.int .i64 t474):=(blk_cell BK485.out 0).trans rfl
    have hcz68_1 : w67.cell? ⟨gb485,1,none⟩ = some (.int .i64 t475):=(blk_cell BK485.out 1).trans rfl
    have hcz68_2 : w67.cell? ⟨gb485,2,none⟩ = some (.int .i64 (wrap64 (t476 + a1))):=(blk_cell BK485.out 2).trans rfl
    have hcz68_3 : w67.cell? ⟨gb485,3,none⟩ = some (.slice Ao61 t477.length co61):=(blk_cell BK485.out 3).trans rfl
    have hcz68_4 : w67.cell? ⟨gb485,4,none⟩ = some (.int .i64 t480):=(blk_cell BK485.out 4).trans rfl
    have hcz68_5 : w67.cell? ⟨gb485,5,none⟩ = some (.int .i64 t481):=(blk_cell BK485.out 5).trans rfl
    have hcz68_6 : w67.cell? ⟨gb485,6,none⟩ = some (.slice Ao62 t482.length co62):=(blk_cell BK485.out 6).trans rfl
    have hfz68_0:=blk_frozen BK485.out 0
    have hfz68_1:=blk_frozen BK485.out 1
    have hfz68_2:=blk_frozen BK485.out 2
    have hfz68_3:=blk_frozen BK485.out 3
    have hfz68_4:=blk_frozen BK485.out 4
    have hfz68_5:=blk_frozen BK485.out 5
    have hfz68_6:=blk_frozen BK485.out 6
    have hnb69:=NB472_469.out
    have hnc69:=NB469_472.out
    have hnb70:=NB472_470.out
    have hnc70:=NB470_472.out
    have hcz71_0 : w67.cell? ⟨gb472,0,none⟩ = some (.int .i64 0):=(blk_cell BK472.out 0).trans rfl
    have hcz71_1 : w67.cell? ⟨gb472,1,none⟩ = some (.int .i64 0):=(blk_cell BK472.out 1).trans rfl
    have hcz71_2 : w67.cell? ⟨gb472,2,none⟩ = some (.int .i64 0):=(blk_cell BK472.out 2).trans rfl
    have hcz71_3 : w67.cell? ⟨gb472,3,none⟩ = some (.slice none 0 0):=(blk_cell BK472.out 3).trans rfl
    have hcz71_4 : w67.cell? ⟨gb472,4,none⟩ = some (.int .i64 0):=(blk_cell BK472.out 4).trans rfl
    have hcz71_5 : w67.cell? ⟨gb472,5,none⟩ = some (.int .i64 0):=(blk_cell BK472.out 5).trans rfl
    have hcz71_6 : w67.cell? ⟨gb472,6,none⟩ = some (.slice none 0 0):=(blk_cell BK472.out 6).trans rfl
    have hfz71_0:=blk_frozen BK472.out 0
    have hfz71_1:=blk_frozen BK472.out 1
    have hfz71_2:=blk_frozen BK472.out 2
    have hfz71_3:=blk_frozen BK472.out 3
    have hfz71_4:=blk_frozen BK472.out 4
    have hfz71_5:=blk_frozen BK472.out 5
    have hfz71_6:=blk_frozen BK472.out 6
    try go_wp2_with (first|((with_reducible refine gate_store (t:=30) (p:=4) rfl ?_);(with_reducible refine gate_at_ (s := "l18_clock.go:111") rfl ?_);refine store_event (t:=30) (p:=4) (v:=?vo_w72) (w1:=(setAll_ w67 gb472 0 [.int .i64 t474,.int .i64 t475,.int .i64 (wrap64 (t476 + a1)),.slice Ao61 t477.length co61,.int .i64 t480,.int .i64 t481,.slice Ao62 t482.length co62])) ?hg ?ho ?hn ?hr ?_;(case ho => rfl);(case hg => rfl);(case hn => rfl);(case hr => simp only [setAll_];first|(go_simp;done)|(go_simp;rfl));intro w72 hw;have hg : w67.grownBy w72 (some gb472):=(by rw [hw];exact setAll_grown _ _ _ _);have n0_:=Aside0.mk (Kd.R_mono (kdgr_R (Kd.R_types HO479.out BK472.out (by decide)) (fun _ hk => hk.2) hg) (fun _ hk => hk.1));have n1_:=Aside0.mk (Kd.R_mono (kdgr_R (Kd.R_types HO484.out BK472.out (by decide)) (fun _ hk => hk.2) hg) (fun _ hk => hk.1));have n2_:=Aside0.mk (blk_grown BK469.out hg (ne_some_ NB469_472.out));have n3_:=Aside0.mk (blk_grown BK470.out hg (ne_some_ NB470_472.out));have n4_:=Aside0.mk ((by rw [hw];exact setAll_blk BK472.out rfl : w72.heap[gb472]? = some (.cells #[.int .i64 t474,.int .i64 t475,.int .i64 (wrap64 (t476 + a1)),.slice Ao61 t477.length co61,.int .i64 t480,.int .i64 t481,.slice Ao62 t482.length co62] 30 (0,0))));have n5_:=Aside0.mk (blk_grown BK485.out hg (ne_some_ NB485_472.out));have n6_:=Aside0.mk (below_gr_ HB.out hg GE472.out);clear HO479;clear HO484;clear BK469;clear BK470;clear BK472;clear BK485;clear HB;have HO479:=n0_;have HO484:=n1_;have BK469:=n2_;have BK470:=n3_;have BK472:=n4_;have BK485:=n5_;have HB:=n6_;clear n0_ n1_ n2_ n3_ n4_ n5_ n6_;clear hw hg;have hnb73:=NB470_469.out;have hnc73:=NB469_470.out;have hcz74_0 : w72.cell? ⟨gb470,0,none⟩ = some (.int .i64 0):=(blk_cell BK470.out 0).trans rfl;have hcz74_1 : w72.cell? ⟨gb470,1,none⟩ = some (.int .i64 0):=(blk_cell BK470.out 1).trans rfl;have hcz74_2 : w72.cell? ⟨gb470,2,none⟩ = some (.int .i64 0):=(blk_cell BK470.out 2).trans rfl;have hcz74_3 : w72.cell? ⟨gb470,3,none⟩ = some (.slice none 0 0):=(blk_cell BK470.out 3).trans rfl;have hcz74_4 : w72.cell? ⟨gb470,4,none⟩ = some (.int .i64 0):=(blk_cell BK470.out 4).trans rfl;have hcz74_5 : w72.cell? ⟨gb470,5,none⟩ = some (.int .i64 0):=(blk_cell BK470.out 5).trans rfl;have hcz74_6 : w72.cell? ⟨gb470,6,none⟩ = some (.slice none 0 0):=(blk_cell BK470.out 6).trans rfl;have hfz74_0:=blk_frozen BK470.out 0;have hfz74_1:=blk_frozen BK470.out 1;have hfz74_2:=blk_frozen BK470.out 2;have hfz74_3:=blk_frozen BK470.out 3;have hfz74_4:=blk_frozen BK470.out 4;have hfz74_5:=blk_frozen BK470.out 5;have hfz74_6:=blk_frozen BK470.out 6)|((try simp only [Exit.inBlock,Exit.then]);refine bodyPost_ret (results_list (rs:=[.cell 4 30,.tmp 5]) rfl (by simp) (.cell gb472 30 #[.int .i64 t474,.int .i64 t475,.int .i64 (wrap64 (t476 + a1)),.slice Ao61 t477.length co61,.int .i64 t480,.int .i64 t481,.slice Ao62 t482.length co62] (0,0) _ rfl (by exact BK472.out) Try.underlying30 rfl (by kernel_rfl) (.tmp .nil))) rfl ?_;simp only [];go_at_K)|((with_reducible refine gate_store (t:=30) (p:=4) rfl ?_);(with_reducible refine gate_at_ (s := "l18_clock.go:121") rfl ?_);refine store_event (t:=30) (p:=4) (v:=?vo_w75) (w1:=(setAll_ w72 gb470 0 [.int .i64 t474,.int .i64 t475,.int .i64 (wrap64 (t476 + a1)),.slice Ao61 t477.length co61,.int .i64 t480,.int .i64 t481,.slice Ao62 t482.length co62])) ?hg ?ho ?hn ?hr ?_;(case ho => rfl);(case hg => rfl);(case hn => rfl);(case hr => simp only [setAll_];first|(go_simp;done)|(go_simp;rfl));intro w75 hw;have hg : w72.grownBy w75 (some gb470):=(by rw [hw];exact setAll_grown _ _ _ _);have n0_:=Aside0.mk (Kd.R_mono (kdgr_R (Kd.R_types HO479.out BK470.out (by decide)) (fun _ hk => hk.2) hg) (fun _ hk => hk.1));have n1_:=Aside0.mk (Kd.R_mono (kdgr_R (Kd.R_types HO484.out BK470.out (by decide)) (fun _ hk => hk.2) hg) (fun _ hk => hk.1));have n2_:=Aside0.mk (blk_grown BK469.out hg (ne_some_ NB469_470.out));have n3_:=Aside0.mk ((by rw [hw];exact setAll_blk BK470.out rfl : w75.heap[gb470]? = some (.cells #[.int .i64 t474,.int .i64 t475,.int .i64 (wrap64 (t476 + a1)),.slice Ao61 t477.length co61,.int .i64 t480,.int .i64 t481,.slice Ao62 t482.length co62] 30 (0,0))));have n4_:=Aside0.mk (blk_grown BK472.out hg (ne_some_ NB472_470.out));have n5_:=Aside0.mk (blk_grown BK485.out hg (ne_some_ NB485_470.out));have n6_:=Aside0.mk (below_gr_ HB.out hg GE470.out);clear HO479;clear HO484;clear BK469;clear BK470;clear BK472;clear BK485;clear HB;have HO479:=n0_;have HO484:=n1_;have BK469:=n2_;have BK470:=n3_;have BK472:=n4_;have BK485:=n5_;have HB:=n6_;clear n0_ n1_ n2_ n3_ n4_ n5_ n6_;clear hw hg))
    refine bodyPost_ret (results_ct rfl _ _ gb470 30 #[.int .i64 t474,.int .i64 t475,.int .i64 (wrap64 (t476 + a1)),.slice Ao61 t477.length co61,.int .i64 t480,.int .i64 t481,.slice Ao62 t482.length co62] (0,0) _ rfl (by (with_reducible repeat (first|refine blk_drewN ?_ _|refine blk_drew ?_|refine blk_alloc ?_ _));exact BK470.out) Try.underlying30 rfl (by kernel_rfl)) rfl ?_
    exact ⟨_,_,by first|rfl|(simp [errW_none,errW_some] <;> rfl)|(simp [*,errW_none,errW_some] <;> rfl),by (with_reducible repeat (first|apply Kd.R_alloc|apply Kd.R_drewN|apply Kd.R_drew));exact Kd.R_mono HO479.out (fun _ hk => trivial),by (with_reducible repeat (first|apply Kd.R_alloc|apply Kd.R_drewN|apply Kd.R_drew));exact HO484.out,by repeat (first|(with_reducible first|exact HB.out|apply below_alloc|apply pw_below_drewN|apply below_drew1|refine below_set ?_ GE469.out|refine below_set ?_ GE470.out|refine below_set ?_ GE472.out|refine below_set ?_ GE485.out)|exact HB.out)⟩
  ·
   replace c7:=Bool.eq_false_iff.mpr c7
   subst c7
   have H1 : (some (t474,t475,t476,t477,t480,t481,t482,false)) = some (r1,r2,r3,r4,r5,r6,r7,r8):=by rw [if_neg (show ¬ (false = true) by decide)] at H;exact H
   clear H
   have H:=H1
   clear H1
   simp only [Option.some.injEq,Prod.mk.injEq] at H
   obtain ⟨rfl,rfl,rfl,rfl,rfl,rfl,rfl,rfl⟩:=H
   go_enter Try.func32,Try.ntmps32
   try go_wp2_with (first|((with_reducible refine gate_dst (N:=2) rfl ?_);(with_reducible refine gate_at_ (s := "l18_clock.go:120") rfl ?_);refine box_event ?hg (N:=2) ?hd (cs:=#[.int .i64 a0_0,.int .i64 a0_1,.int .i64 a0_2,.slice A0_3 l0_3.length c0_3,.int .i64 a0_4,.int .i64 a0_5,.slice A0_6 l0_6.length c0_6]) (t:=30) ?hr ?_;(case hd => rfl);(case hg => rfl);(case hr => first|(go_simp;done)|(go_simp;rfl));intro gb468 hg w76 hbox hb;have n0_:=Aside0.mk (below_step (by exact HB.out) hb);have n1_:=Aside0.mk (hbox);have n2_:=Aside0.mk ((by rw [hg];exact (below_size (by exact HB.out)) : w.heap.size ≤ gb468));have n3_:=Aside0.mk ((by rw [hg];exact (below_size (by exact HB.out)) : w.heap.size ≤ gb468));clear HB;have HB:=n0_;have BK468:=n1_;have GW468:=n2_;have GE468:=n3_;clear n0_ n1_ n2_ n3_;clear hb hbox hg)|((with_reducible refine gate_dst (N:=3) rfl ?_);(with_reducible refine gate_at_ (s := "l18_clock.go:120") rfl ?_);refine box_event ?hg (N:=3) ?hd (cs:=#[.int .i64 a1]) (t:=3) ?hr ?_;(case hd => rfl);(case hg => rfl);(case hr => first|(go_simp;done)|(go_simp;rfl));intro gb469 hg w77 hbox hb;have n0_:=Aside0.mk (blk_below BK468.out hb);have n1_:=Aside0.mk (below_step (by exact HB.out) hb);have n2_:=Aside0.mk (hbox);have n3_:=Aside0.mk ((by rw [hg];exact (below_size (by exact HB.out)) : w.heap.size ≤ gb469));have n4_:=Aside0.mk ((by rw [hg];exact (below_size (by exact HB.out)) : w.heap.size ≤ gb469));have n5_:=Aside0.mk ((by rw [hg];exact Nat.ne_of_lt (blk_lt BK468.out) : gb468 ≠ gb469));have n6_:=Aside0.mk ((by rw [hg];exact Nat.ne_of_gt (blk_lt BK468.out) : gb469 ≠ gb468));clear BK468;clear HB;have BK468:=n0_;have HB:=n1_;have BK469:=n2_;have GW469:=n3_;have GE469:=n4_;have NB468_469:=n5_;have NB469_468:=n6_;clear n0_ n1_ n2_ n3_ n4_ n5_ n6_;clear hb hbox hg)|((with_reducible refine gate_dst (N:=4) rfl ?_);(with_reducible refine gate_at_ (s := "l18_clock.go:120") rfl ?_);refine box_event ?hg (N:=4) ?hd (cs:=#[.int .i64 0,.int .i64 0,.int .i64 0,.slice none 0 0,.int .i64 0,.int .i64 0,.slice none 0 0]) (t:=30) ?hr ?_;(case hd => rfl);(case hg => rfl);(case hr => first|(go_simp;done)|(go_simp;rfl));intro gb470 hg w78 hbox hb;have n0_:=Aside0.mk (blk_below BK468.out hb);have n1_:=Aside0.mk (blk_below BK469.out hb);have n2_:=Aside0.mk (below_step (by exact HB.out) hb);have n3_:=Aside0.mk (hbox);have n4_:=Aside0.mk ((by rw [hg];exact (below_size (by exact HB.out)) : w.heap.size ≤ gb470));have n5_:=Aside0.mk ((by rw [hg];exact (below_size (by exact HB.out)) : w.heap.size ≤ gb470));have n6_:=Aside0.mk ((by rw [hg];exact Nat.ne_of_lt (blk_lt BK468.out) : gb468 ≠ gb470));have n7_:=Aside0.mk ((by rw [hg];exact Nat.ne_of_gt (blk_lt BK468.out) : gb470 ≠ gb468));have n8_:=Aside0.mk ((by rw [hg];exact Nat.ne_of_lt (blk_lt BK469.out) : gb469 ≠ gb470));have n9_:=Aside0.mk ((by rw [hg];exact Nat.ne_of_gt (blk_lt BK469.out) : gb470 ≠ gb469));clear BK468;clear BK469;clear HB;have BK468:=n0_;have BK469:=n1_;have HB:=n2_;have BK470:=n3_;have GW470:=n4_;have GE470:=n5_;have NB468_470:=n6_;have NB470_468:=n7_;have NB469_470:=n8_;have NB470_469:=n9_;clear n0_ n1_ n2_ n3_ n4_ n5_ n6_ n7_ n8_ n9_;clear hb hbox hg;have hnb79:=NB468_469.out;have hnc79:=NB469_468.out;have hnb80:=NB468_470.out;have hnc80:=NB470_468.out;have hcz81_0 : w78.cell? ⟨gb468,0,none⟩ = some (.int .i64 a0_0):=(blk_cell BK468.out 0).trans rfl;have hcz81_1 : w78.cell? ⟨gb468,1,none⟩ = some (.int .i64 a0_1):=(blk_cell BK468.out 1).trans rfl;have hcz81_2 : w78.cell? ⟨gb468,2,none⟩ = some (.int .i64 a0_2):=(blk_cell BK468.out 2).trans rfl;have hcz81_3 : w78.cell? ⟨gb468,3,none⟩ = some (.slice A0_3 l0_3.length c0_3):=(blk_cell BK468.out 3).trans rfl;have hcz81_4 : w78.cell? ⟨gb468,4,none⟩ = some (.int .i64 a0_4):=(blk_cell BK468.out 4).trans rfl;have hcz81_5 : w78.cell? ⟨gb468,5,none⟩ = some (.int .i64 a0_5):=(blk_cell BK468.out 5).trans rfl;have hcz81_6 : w78.cell? ⟨gb468,6,none⟩ = some (.slice A0_6 l0_6.length c0_6):=(blk_cell BK468.out 6).trans rfl;have hfz81_0:=blk_frozen BK468.out 0;have hfz81_1:=blk_frozen BK468.out 1;have hfz81_2:=blk_frozen BK468.out 2;have hfz81_3:=blk_frozen BK468.out 3;have hfz81_4:=blk_frozen BK468.out 4;have hfz81_5:=blk_frozen BK468.out 5;have hfz81_6:=blk_frozen BK468.out 6)|(go_at_call 63;go_in)|((with_reducible refine gate_dst (N:=2) rfl ?_);(with_reducible refine gate_at_ (s := "l18_clock.go:105") rfl ?_);refine box_event ?hg (N:=2) ?hd (cs:=#[.int .i64 a0_0,.int .i64 a0_1,.int .i64 a0_2,.slice A0_3 l0_3.length c0_3,.int .i64 a0_4,.int .i64 a0_5,.slice A0_6 l0_6.length c0_6]) (t:=30) ?hr ?_;(case hd => rfl);(case hg => rfl);(case hr => first|(go_simp;done)|(go_simp;rfl));intro gb471 hg w82 hbox hb;have n0_:=Aside0.mk (blk_below BK469.out hb);have n1_:=Aside0.mk (blk_below BK470.out hb);have n2_:=Aside0.mk (below_step (by exact HB.out) hb);have n3_:=Aside0.mk (hbox);have n4_:=Aside0.mk ((by rw [hg];exact (below_size (by exact HB.out)) : w.heap.size ≤ gb471));have n5_:=Aside0.mk ((by rw [hg];exact (below_size (by exact HB.out)) : w.heap.size ≤ gb471));have n6_:=Aside0.mk ((by rw [hg];exact Nat.ne_of_lt (blk_lt BK469.out) : gb469 ≠ gb471));have n7_:=Aside0.mk ((by rw [hg];exact Nat.ne_of_gt (blk_lt BK469.out) : gb471 ≠ gb469));have n8_:=Aside0.mk ((by rw [hg];exact Nat.ne_of_lt (blk_lt BK470.out) : gb470 ≠ gb471));have n9_:=Aside0.mk ((by rw [hg];exact Nat.ne_of_gt (blk_lt BK470.out) : gb471 ≠ gb470));clear BK469;clear BK470;clear HB;(try clear BK468);(try clear GW468);(try clear GE468);(try clear NB468_469);(try clear NB469_468);(try clear NB468_470);(try clear NB470_468);have BK469:=n0_;have BK470:=n1_;have HB:=n2_;have BK471:=n3_;have GW471:=n4_;have GE471:=n5_;have NB469_471:=n6_;have NB471_469:=n7_;have NB470_471:=n8_;have NB471_470:=n9_;clear n0_ n1_ n2_ n3_ n4_ n5_ n6_ n7_ n8_ n9_;clear hb hbox hg)|((with_reducible refine gate_dst (N:=4) rfl ?_);(with_reducible refine gate_at_ (s := "l18_clock.go:105") rfl ?_);refine box_event ?hg (N:=4) ?hd (cs:=#[.int .i64 0,.int .i64 0,.int .i64 0,.slice none 0 0,.int .i64 0,.int .i64 0,.slice none 0 0]) (t:=30) ?hr ?_;(case hd => rfl);(case hg => rfl);(case hr => first|(go_simp;done)|(go_simp;rfl));intro gb472 hg w83 hbox hb;have n0_:=Aside0.mk (blk_below BK469.out hb);have n1_:=Aside0.mk (blk_below BK470.out hb);have n2_:=Aside0.mk (blk_below BK471.out hb);have n3_:=Aside0.mk (below_step (by exact HB.out) hb);have n4_:=Aside0.mk (hbox);have n5_:=Aside0.mk ((by rw [hg];exact (below_size (by exact HB.out)) : w.heap.size ≤ gb472));have n6_:=Aside0.mk ((by rw [hg];exact (below_size (by exact HB.out)) : w.heap.size ≤ gb472));have n7_:=Aside0.mk ((by rw [hg];exact Nat.ne_of_lt (blk_lt BK469.out) : gb469 ≠ gb472));have n8_:=Aside0.mk ((by rw [hg];exact Nat.ne_of_gt (blk_lt BK469.out) : gb472 ≠ gb469));have n9_:=Aside0.mk ((by rw [hg];exact Nat.ne_of_lt (blk_lt BK470.out) : gb470 ≠ gb472));have n10_:=Aside0.mk ((by rw [hg];exact Nat.ne_of_gt (blk_lt BK470.out) : gb472 ≠ gb470));have n11_:=Aside0.mk ((by rw [hg];exact Nat.ne_of_lt (blk_lt BK471.out) : gb471 ≠ gb472));have n12_:=Aside0.mk ((by rw [hg];exact Nat.ne_of_gt (blk_lt BK471.out) : gb472 ≠ gb471));clear BK469;clear BK470;clear BK471;clear HB;have BK469:=n0_;have BK470:=n1_;have BK471:=n2_;have HB:=n3_;have BK472:=n4_;have GW472:=n5_;have GE472:=n6_;have NB469_472:=n7_;have NB472_469:=n8_;have NB470_472:=n9_;have NB472_470:=n10_;have NB471_472:=n11_;have NB472_471:=n12_;clear n0_ n1_ n2_ n3_ n4_ n5_ n6_ n7_ n8_ n9_ n10_ n11_ n12_;clear hb hbox hg;have hnb84:=NB471_469.out;have hnc84:=NB469_471.out;have hnb85:=NB471_470.out;have hnc85:=NB470_471.out;have hnb86:=NB471_472.out;have hnc86:=NB472_471.out;have hcz87_0 : w83.cell? ⟨gb471,0,none⟩ = some (.int .i64 a0_0):=(blk_cell BK471.out 0).trans rfl;have hcz87_1 : w83.cell? ⟨gb471,1,none⟩ = some (.int .i64 a0_1):=(blk_cell BK471.out 1).trans rfl;have hcz87_2 : w83.cell? ⟨gb471,2,none⟩ = some (.int .i64 a0_2):=(blk_cell BK471.out 2).trans rfl;have hcz87_3 : w83.cell? ⟨gb471,3,none⟩ = some (.slice A0_3 l0_3.length c0_3):=(blk_cell BK471.out 3).trans rfl;have hcz87_4 : w83.cell? ⟨gb471,4,none⟩ = some (.int .i64 a0_4):=(blk_cell BK471.out 4).trans rfl;have hcz87_5 : w83.cell? ⟨gb471,5,none⟩ = some (.int .i64 a0_5):=(blk_cell BK471.out 5).trans rfl;have hcz87_6 : w83.cell? ⟨gb471,6,none⟩ = some (.slice A0_6 l0_6.length c0_6):=(blk_cell BK471.out 6).trans rfl;have hfz87_0:=blk_frozen BK471.out 0;have hfz87_1:=blk_frozen BK471.out 1;have hfz87_2:=blk_frozen BK471.out 2;have hfz87_3:=blk_frozen BK471.out 3;have hfz87_4:=blk_frozen BK471.out 4;have hfz87_5:=blk_frozen BK471.out 5;have hfz87_6:=blk_frozen BK471.out 6)|((with_reducible refine gate_callee (f:=51) rfl ?_);(with_reducible refine gate_at_ (s := "l18_clock.go:106") rfl ?_);refine goesL_ (some 9) rfl rfl Try.func51 (by kernel_rfl) rfl #[.agg #[.int .i64 a0_0,.int .i64 a0_1,.int .i64 a0_2,.slice A0_3 l0_3.length c0_3,.int .i64 a0_4,.int .i64 a0_5,.slice A0_6 l0_6.length c0_6]] rfl (by (try simp only [List.map_toArray,List.map_cons,List.map_nil]);first|done|rfl|(simp only [List.length_drop,List.length_take];rfl)) ?_;(with_reducible refine (impl_isLs.calls k a0_0 a0_1 a0_2 _ _ l0_3 a0_4 a0_5 _ _ l0_6 true _ ?side1 ?side2 ?side3 ?side4 A3.out).mono ?_);(case side1 => repeat (first|exact (Kd.C_below HR0_3.out HB.out)|(with_reducible refine Kd.C_alloc ?_ _)|(with_reducible refine Kd.C_drewN ?_ _)|(with_reducible refine Kd.C_drew ?_)));(case side2 => exact HC0_3.out);(case side3 => repeat (first|exact (Kd.C_below HR0_6.out HB.out)|(with_reducible refine Kd.C_alloc ?_ _)|(with_reducible refine Kd.C_drewN ?_ _)|(with_reducible refine Kd.C_drew ?_)));(case side4 => exact HC0_6.out);rintro e w88 ⟨rfl,hb⟩;refine ⟨_,rfl,?_⟩;have n0_:=Aside0.mk (blk_below BK469.out hb);have n1_:=Aside0.mk (blk_below BK470.out hb);have n2_:=Aside0.mk (blk_below BK471.out hb);have n3_:=Aside0.mk (blk_below BK472.out hb);have n4_:=Aside0.mk (below_step (by exact HB.out) hb);clear BK469;clear BK470;clear BK471;clear BK472;clear HB;have BK469:=n0_;have BK470:=n1_;have BK471:=n2_;have BK472:=n3_;have HB:=n4_;clear n0_ n1_ n2_ n3_ n4_;(try clear hb);(try clear hb2);(try clear hk);(try clear hi);have hcz89_0 : w88.cell? ⟨gb471,0,none⟩ = some (.int .i64 a0_0):=(blk_cell BK471.out 0).trans rfl;have hcz89_1 : w88.cell? ⟨gb471,1,none⟩ = some (.int .i64 a0_1):=(blk_cell BK471.out 1).trans rfl;have hcz89_2 : w88.cell? ⟨gb471,2,none⟩ = some (.int .i64 a0_2):=(blk_cell BK471.out 2).trans rfl;have hcz89_3 : w88.cell? ⟨gb471,3,none⟩ = some (.slice A0_3 l0_3.length c0_3):=(blk_cell BK471.out 3).trans rfl;have hcz89_4 : w88.cell? ⟨gb471,4,none⟩ = some (.int .i64 a0_4):=(blk_cell BK471.out 4).trans rfl;have hcz89_5 : w88.cell? ⟨gb471,5,none⟩ = some (.int .i64 a0_5):=(blk_cell BK471.out 5).trans rfl;have hcz89_6 : w88.cell? ⟨gb471,6,none⟩ = some (.slice A0_6 l0_6.length c0_6):=(blk_cell BK471.out 6).trans rfl;have hfz89_0:=blk_frozen BK471.out 0;have hfz89_1:=blk_frozen BK471.out 1;have hfz89_2:=blk_frozen BK471.out 2;have hfz89_3:=blk_frozen BK471.out 3;have hfz89_4:=blk_frozen BK471.out 4;have hfz89_5:=blk_frozen BK471.out 5;have hfz89_6:=blk_frozen BK471.out 6)|((with_reducible refine gate_callee (f:=80) rfl ?_);(with_reducible refine gate_at_ (s := "l18_clock.go:109") rfl ?_);refine goesL_ (some 13) rfl rfl Try.func80 (by kernel_rfl) rfl #[.agg #[.int .i64 a0_0,.int .i64 a0_1,.int .i64 a0_2,.slice A0_3 l0_3.length c0_3,.int .i64 a0_4,.int .i64 a0_5,.slice A0_6 l0_6.length c0_6]] rfl (by (try simp only [List.map_toArray,List.map_cons,List.map_nil]);first|done|rfl|(simp only [List.length_drop,List.length_take];rfl)) ?_;(with_reducible refine (impl_Ls_copied.calls a0_0 a0_1 a0_2 _ _ l0_3 a0_4 a0_5 _ _ l0_6 t474 t475 t476 t477 t480 t481 t482 _ ?side1 ?side2 ?side3 ?side4 A5.out).mono ?_);(case side1 => repeat (first|exact (Kd.C_below HR0_3.out HB.out)|(with_reducible refine Kd.C_alloc ?_ _)|(with_reducible refine Kd.C_drewN ?_ _)|(with_reducible refine Kd.C_drew ?_)));(case side2 => exact HC0_3.out);(case side3 => repeat (first|exact (Kd.C_below HR0_6.out HB.out)|(with_reducible refine Kd.C_alloc ?_ _)|(with_reducible refine Kd.C_drewN ?_ _)|(with_reducible refine Kd.C_drew ?_)));(case side4 => exact HC0_6.out);rintro e w90 ⟨v478,v483,rfl,ho0,ho1,hb⟩;refine ⟨_,rfl,?_⟩;have n0_:=Aside0.mk (Kd.R_lower (Kd.R_newB ho0 BK469.out) (below_size (by exact HB.out)));have n1_:=Aside0.mk (Kd.R_lower ho1 (below_size (by exact HB.out)));have n2_:=Aside0.mk (blk_below BK469.out hb);have n3_:=Aside0.mk (blk_below BK470.out hb);have n4_:=Aside0.mk (blk_below BK472.out hb);have n5_:=Aside0.mk (below_step (by exact HB.out) hb);clear BK469;clear BK470;clear BK472;clear HB;(try clear BK471);(try clear GW471);(try clear GE471);(try clear NB471_469);(try clear NB469_471);(try clear NB471_470);(try clear NB470_471);(try clear NB471_472);(try clear NB472_471);have HO479:=n0_;have HO484:=n1_;have BK469:=n2_;have BK470:=n3_;have BK472:=n4_;have HB:=n5_;clear n0_ n1_ n2_ n3_ n4_ n5_;(try clear hb);(try clear hb2);(try clear hk);(try clear hi);(try clear ho0);(try clear ho1))|((with_reducible refine gate_dst (N:=6) rfl ?_);(with_reducible refine gate_at_ (s := "l18_clock.go:109") rfl ?_);refine box_event ?hg (N:=6) ?hd (cs:=#[.int .i64 0,.int .i64 0,.int .i64 0,.slice none 0 0,.int .i64 0,.int .i64 0,.slice none 0 0]) (t:=30) ?hr ?_;(case hd => rfl);(case hg => rfl);(case hr => first|(go_simp;done)|(go_simp;rfl));intro gb485 hg w91 hbox hb;have n0_:=Aside0.mk (Kd.R_below (by exact HO479.out) hb);have n1_:=Aside0.mk (Kd.R_below (by exact HO484.out) hb);have n2_:=Aside0.mk (blk_below BK469.out hb);have n3_:=Aside0.mk (blk_below BK470.out hb);have n4_:=Aside0.mk (blk_below BK472.out hb);have n5_:=Aside0.mk (below_step (by exact HB.out) hb);have n6_:=Aside0.mk (hbox);have n7_:=Aside0.mk ((by rw [hg];exact (below_size (by exact HB.out)) : w.heap.size ≤ gb485));have n8_:=Aside0.mk ((by rw [hg];exact (below_size (by exact HB.out)) : w.heap.size ≤ gb485));have n9_:=Aside0.mk ((by rw [hg];exact Nat.ne_of_lt (blk_lt BK469.out) : gb469 ≠ gb485));have n10_:=Aside0.mk ((by rw [hg];exact Nat.ne_of_gt (blk_lt BK469.out) : gb485 ≠ gb469));have n11_:=Aside0.mk ((by rw [hg];exact Nat.ne_of_lt (blk_lt BK470.out) : gb470 ≠ gb485));have n12_:=Aside0.mk ((by rw [hg];exact Nat.ne_of_gt (blk_lt BK470.out) : gb485 ≠ gb470));have n13_:=Aside0.mk ((by rw [hg];exact Nat.ne_of_lt (blk_lt BK472.out) : gb472 ≠ gb485));have n14_:=Aside0.mk ((by rw [hg];exact Nat.ne_of_gt (blk_lt BK472.out) : gb485 ≠ gb472));clear HO479;clear HO484;clear BK469;clear BK470;clear BK472;clear HB;have HO479:=n0_;have HO484:=n1_;have BK469:=n2_;have BK470:=n3_;have BK472:=n4_;have HB:=n5_;have BK485:=n6_;have GW485:=n7_;have GE485:=n8_;have NB469_485:=n9_;have NB485_469:=n10_;have NB470_485:=n11_;have NB485_470:=n12_;have NB472_485:=n13_;have NB485_472:=n14_;clear n0_ n1_ n2_ n3_ n4_ n5_ n6_ n7_ n8_ n9_ n10_ n11_ n12_ n13_ n14_;clear hb hbox hg;have hnb92:=NB485_469.out;have hnc92:=NB469_485.out;have hnb93:=NB485_470.out;have hnc93:=NB470_485.out;have hnb94:=NB485_472.out;have hnc94:=NB472_485.out;have hcz95_0 : w91.cell? ⟨gb485,0,none⟩ = some (.int .i64 0):=(blk_cell BK485.out 0).trans rfl;have hcz95_1 : w91.cell? ⟨gb485,1,none⟩ = some (.int .i64 0):=(blk_cell BK485.out 1).trans rfl;have hcz95_2 : w91.cell? ⟨gb485,2,none⟩ = some (.int .i64 0):=(blk_cell BK485.out 2).trans rfl;have hcz95_3 : w91.cell? ⟨gb485,3,none⟩ = some (.slice none 0 0):=(blk_cell BK485.out 3).trans rfl;have hcz95_4 : w91.cell? ⟨gb485,4,none⟩ = some (.int .i64 0):=(blk_cell BK485.out 4).trans rfl;have hcz95_5 : w91.cell? ⟨gb485,5,none⟩ = some (.int .i64 0):=(blk_cell BK485.out 5).trans rfl;have hcz95_6 : w91.cell? ⟨gb485,6,none⟩ = some (.slice none 0 0):=(blk_cell BK485.out 6).trans rfl;have hfz95_0:=blk_frozen BK485.out 0;have hfz95_1:=blk_frozen BK485.out 1;have hfz95_2:=blk_frozen BK485.out 2;have hfz95_3:=blk_frozen BK485.out 3;have hfz95_4:=blk_frozen BK485.out 4;have hfz95_5:=blk_frozen BK485.out 5;have hfz95_6:=blk_frozen BK485.out 6;obtain ⟨Ao96,co96,eo96⟩:=Kd.R_slice HO479.out;subst eo96;obtain ⟨Ao97,co97,eo97⟩:=Kd.R_slice HO484.out;subst eo97)|((with_reducible refine gate_store (t:=30) (p:=6) rfl ?_);(with_reducible refine gate_at_ (s := "l18_clock.go:109") rfl ?_);refine store_event (t:=30) (p:=6) (v:=?vo_w98) (w1:=(setAll_ w91 gb485 0 [.int .i64 t474,.int .i64 t475,.int .i64 t476,.slice Ao96 t477.length co96,.int .i64 t480,.int .i64 t481,.slice Ao97 t482.length co97])) ?hg ?ho ?hn ?hr ?_;(case ho => rfl);(case hg => rfl);(case hn => rfl);(case hr => simp only [setAll_];first|(go_simp;done)|(go_simp;rfl));intro w98 hw;have hg : w91.grownBy w98 (some gb485):=(by rw [hw];exact setAll_grown _ _ _ _);have n0_:=Aside0.mk (Kd.R_mono (kdgr_R (Kd.R_types HO479.out BK485.out (by decide)) (fun _ hk => hk.2) hg) (fun _ hk => hk.1));have n1_:=Aside0.mk (Kd.R_mono (kdgr_R (Kd.R_types HO484.out BK485.out (by decide)) (fun _ hk => hk.2) hg) (fun _ hk => hk.1));have n2_:=Aside0.mk (blk_grown BK469.out hg (ne_some_ NB469_485.out));have n3_:=Aside0.mk (blk_grown BK470.out hg (ne_some_ NB470_485.out));have n4_:=Aside0.mk (blk_grown BK472.out hg (ne_some_ NB472_485.out));have n5_:=Aside0.mk ((by rw [hw];exact setAll_blk BK485.out rfl : w98.heap[gb485]? = some (.cells #[.int .i64 t474,.int .i64 t475,.int .i64 t476,.slice Ao96 t477.length co96,.int .i64 t480,.int .i64 t481,.slice Ao97 t482.length co97] 30 (0,0))));have n6_:=Aside0.mk (below_gr_ HB.out hg GE485.out);clear HO479;clear HO484;clear BK469;clear BK470;clear BK472;clear BK485;clear HB;have HO479:=n0_;have HO484:=n1_;have BK469:=n2_;have BK470:=n3_;have BK472:=n4_;have BK485:=n5_;have HB:=n6_;clear n0_ n1_ n2_ n3_ n4_ n5_ n6_;clear hw hg)|(go_at_call 64;go_in))
   have n0_:=Aside0.mk (Kd.R_drew HO479.out)
   have n1_:=Aside0.mk (Kd.R_drew HO484.out)
   have n2_:=Aside0.mk (blk_drew BK469.out)
   have n3_:=Aside0.mk (blk_drew BK470.out)
   have n4_:=Aside0.mk (blk_drew BK472.out)
   have n5_:=Aside0.mk (blk_drew BK485.out)
   have n6_:=Aside0.mk (below_drew1 HB.out)
   clear HO479
   clear HO484
   clear BK469
   clear BK470
   clear BK472
   clear BK485
   clear HB
   have HO479:=n0_
   have HO484:=n1_
   have BK469:=n2_
   have BK470:=n3_
   have BK472:=n4_
   have BK485:=n5_
   have HB:=n6_
   clear n0_ n1_ n2_ n3_ n4_ n5_ n6_
   refine start_ (n:=12) (S:=fun w' => w'.cell? ⟨gb469,0,none⟩ = some (.int .i64 a1)) (ds:=[]) #[F,F,F,F,F,F,F,F,F,F,F,F] (by kernel_rfl) rfl rfl ((blk_cell BK469.out 0).trans rfl) (fun hHeld => ?_)
   generalize w98.drew = w99 at HO479 HO484 BK469 BK470 BK472 BK485 HB hHeld ⊢
   refine take_ (i:=0) (N:=some 4) (v:=?_) (a':=?_) #[T,F,F,F,F,F,F,F,F,F,F,F] rfl rfl (by kernel_rfl) (fun _ _ _ h => h) (Or.inl ⟨by rfl,?_⟩) hHeld ?_ ?_
   rotate_left
   ·
    intro w' s0
    go_simp
    with_reducible rfl
   rotate_left
   ·
    simp only [Act.put,List.setIfInBounds_toArray,List.set_cons_zero,List.set_cons_succ,i64_w,i32_w]
    rfl
   refine one_ (i:=1) (N:=some 5) #[T,T,F,F,F,F,F,F,F,F,F,F] rfl rfl (by kernel_rfl) (by decide) (fun K hK => ?_)
   refine goes_ Try.func54 (by kernel_rfl) rfl #[.int .i64 a1,.int .i64 1,.int .i64 1000] (by rfl) rfl rfl (by (try simp only [List.map_toArray,List.map_cons,List.map_nil]);first|done|rfl|(simp only [List.length_drop,List.length_take];rfl)) ?_
   with_reducible refine (impl_in.calls a1 1 1000 false _ A6.out).mono ?_
   rintro e w' ⟨rfl,⟨nd,rfl⟩⟩
   refine ⟨_,rfl,?_⟩
   refine hK.out _ _ ((blk_cell BK469.out 0).trans rfl) (fun hHeld => ?_)
   clear hK K
   refine norm_ (a':=?_) ?_ ?_
   rotate_left
   ·
    show Act.put _ (some 5) _ = _
    simp only [Act.put,List.setIfInBounds_toArray,List.set_cons_zero,List.set_cons_succ,i64_w,i32_w]
    rfl
   refine pure_ (i:=2) (N:=some 6) (v:=?_) (a':=?_) #[T,T,T,F,F,F,F,F,F,F,F,F] rfl rfl (by kernel_rfl) (fun _ _ _ h => h) (Or.inl ⟨by rfl,?_⟩) ?_ ?_
   rotate_left
   ·
    intro w'
    go_simp
    with_reducible rfl
   rotate_left
   ·
    simp only [Act.put,List.setIfInBounds_toArray,List.set_cons_zero,List.set_cons_succ,i64_w,i32_w]
    rfl
   refine pure_ (i:=3) (N:=some 7) (v:=?_) (a':=?_) #[T,T,T,T,F,F,F,F,F,F,F,F] rfl rfl (by kernel_rfl) (fun _ _ _ h => h) (Or.inl ⟨by rfl,?_⟩) ?_ ?_
   rotate_left
   ·
    intro w'
    go_simp
    with_reducible rfl
   rotate_left
   ·
    simp only [Act.put,List.setIfInBounds_toArray,List.set_cons_zero,List.set_cons_succ,i64_w,i32_w]
    rfl
   refine pure_ (i:=4) (N:=some 8) (v:=undef) (a':=?_) #[T,T,T,T,T,F,F,F,F,F,F,F] rfl rfl (by kernel_rfl) (fun _ _ _ h => h) (Or.inr ⟨by rfl,rfl⟩) ?_ ?_
   rotate_left
   ·
    simp only [Act.put,List.setIfInBounds_toArray,List.set_cons_zero,List.set_cons_succ,i64_w,i32_w]
    rfl
   refine pure_ (i:=5) (N:=some 9) (v:=undef) (a':=?_) #[T,T,T,T,T,T,F,F,F,F,F,F] rfl rfl (by kernel_rfl) (fun _ _ _ h => h) (Or.inr ⟨by rfl,rfl⟩) ?_ ?_
   rotate_left
   ·
    simp only [Act.put,List.setIfInBounds_toArray,List.set_cons_zero,List.set_cons_succ,i64_w,i32_w]
    rfl
   refine pure_ (i:=6) (N:=some 10) (v:=undef) (a':=?_) #[T,T,T,T,T,T,T,F,F,F,F,F] rfl rfl (by kernel_rfl) (fun _ _ _ h => h) (Or.inr ⟨by rfl,rfl⟩) ?_ ?_
   rotate_left
   ·
    simp only [Act.put,List.setIfInBounds_toArray,List.set_cons_zero,List.set_cons_succ,i64_w,i32_w]
    rfl
   refine pure_ (i:=7) (N:=some 11) (v:=undef) (a':=?_) #[T,T,T,T,T,T,T,T,F,F,F,F] rfl rfl (by kernel_rfl) (fun _ _ _ h => h) (Or.inr ⟨by rfl,rfl⟩) ?_ ?_
   rotate_left
   ·
    simp only [Act.put,List.setIfInBounds_toArray,List.set_cons_zero,List.set_cons_succ,i64_w,i32_w]
    rfl
   refine pure_ (i:=8) (N:=some 12) (v:=undef) (a':=?_) #[T,T,T,T,T,T,T,T,T,F,F,F] rfl rfl (by kernel_rfl) (fun _ _ _ h => h) (Or.inr ⟨by rfl,rfl⟩) ?_ ?_
   rotate_left
   ·
    simp only [Act.put,List.setIfInBounds_toArray,List.set_cons_zero,List.set_cons_succ,i64_w,i32_w]
    rfl
   refine pure_ (i:=9) (N:=some 13) (v:=undef) (a':=?_) #[T,T,T,T,T,T,T,T,T,T,F,F] rfl rfl (by kernel_rfl) (fun _ _ _ h => h) (Or.inr ⟨by rfl,rfl⟩) ?_ ?_
   rotate_left
   ·
    simp only [Act.put,List.setIfInBounds_toArray,List.set_cons_zero,List.set_cons_succ,i64_w,i32_w]
    rfl
   refine pure_ (i:=10) (N:=some 14) (v:=undef) (a':=?_) #[T,T,T,T,T,T,T,T,T,T,T,F] rfl rfl (by kernel_rfl) (fun _ _ _ h => h) (Or.inr ⟨by rfl,rfl⟩) ?_ ?_
   rotate_left
   ·
    simp only [Act.put,List.setIfInBounds_toArray,List.set_cons_zero,List.set_cons_succ,i64_w,i32_w]
    rfl
   refine pure_ (i:=11) (N:=some 15) (v:=?_) (a':=?_) #[T,T,T,T,T,T,T,T,T,T,T,T] rfl rfl (by kernel_rfl) (fun _ _ _ h => h) (Or.inl ⟨by rfl,?_⟩) ?_ ?_
   rotate_left
   ·
    intro w'
    go_simp
    with_reducible rfl
   rotate_left
   ·
    simp only [Act.put,List.setIfInBounds_toArray,List.set_cons_zero,List.set_cons_succ,i64_w,i32_w]
    rfl
   refine done_ (by kernel_rfl) ?_
   (try simp only [World.drewN_drewN])
   (try (rw [drewN_self w99];generalize hq_ : World.drewN w99 _ = w99;have n0_ : Aside0 (Kd.R (Kd.int .i64) 3 w99 w.heap.size (fun k_ => (True ∧ k_ ≠ gb469)) (.slice Ao96 t477.length co96) t477):=⟨by rw [← hq_];exact (by (with_reducible repeat (first|apply Kd.R_alloc|apply Kd.R_drewN|apply Kd.R_drew));exact HO479.out)⟩;have n1_ : Aside0 (Kd.R k50 50 w99 w.heap.size (fun k_ => True) (.slice Ao97 t482.length co97) t482):=⟨by rw [← hq_];exact (by (with_reducible repeat (first|apply Kd.R_alloc|apply Kd.R_drewN|apply Kd.R_drew));exact HO484.out)⟩;have n2_ : Aside0 (w99.heap[gb469]? = some (.cells #[.int .i64 a1] 3 (0,0))):=⟨by rw [← hq_];exact (by (with_reducible repeat (first|refine blk_drewN ?_ _|refine blk_drew ?_|refine blk_alloc ?_ _));exact BK469.out)⟩;have n3_ : Aside0 (w99.heap[gb470]? = some (.cells #[.int .i64 0,.int .i64 0,.int .i64 0,.slice none 0 0,.int .i64 0,.int .i64 0,.slice none 0 0] 30 (0,0))):=⟨by rw [← hq_];exact (by (with_reducible repeat (first|refine blk_drewN ?_ _|refine blk_drew ?_|refine blk_alloc ?_ _));exact BK470.out)⟩;have n4_ : Aside0 (w99.heap[gb472]? = some (.cells #[.int .i64 0,.int .i64 0,.int .i64 0,.slice none 0 0,.int .i64 0,.int .i64 0,.slice none 0 0] 30 (0,0))):=⟨by rw [← hq_];exact (by (with_reducible repeat (first|refine blk_drewN ?_ _|refine blk_drew ?_|refine blk_alloc ?_ _));exact BK472.out)⟩;have n5_ : Aside0 (w99.heap[gb485]? = some (.cells #[.int .i64 t474,.int .i64 t475,.int .i64 t476,.slice Ao96 t477.length co96,.int .i64 t480,.int .i64 t481,.slice Ao97 t482.length co97] 30 (0,0))):=⟨by rw [← hq_];exact (by (with_reducible repeat (first|refine blk_drewN ?_ _|refine blk_drew ?_|refine blk_alloc ?_ _));exact BK485.out)⟩;have n6_ : Aside0 (Below w.heap.size w w99):=⟨by rw [← hq_];exact (by repeat (first|(with_reducible first|exact HB.out|apply below_alloc|apply pw_below_drewN|apply below_drew1|refine below_set ?_ GE469.out|refine below_set ?_ GE470.out|refine below_set ?_ GE472.out|refine below_set ?_ GE485.out)|exact HB.out))⟩;clear HO479 HO484 BK469 BK470 BK472 BK485 HB hq_;have HO479:=n0_;have HO484:=n1_;have BK469:=n2_;have BK470:=n3_;have BK472:=n4_;have BK485:=n5_;have HB:=n6_;clear n0_ n1_ n2_ n3_ n4_ n5_ n6_))
   have hcz100_0 : w99.cell? ⟨gb485,0,none⟩ = some (.int .i64 t474):=(blk_cell BK485.out 0).trans rfl
   have hcz100_1 : w99.cell? ⟨gb485,1,none⟩ = some (.int .i64 t475):=(blk_cell BK485.out 1).trans rfl
   have hcz100_2 : w99.cell? ⟨gb485,2,none⟩ = some (.int .i64 t476):=(blk_cell BK485.out 2).trans rfl
   have hcz100_3 : w99.cell? ⟨gb485,3,none⟩ = some (.slice Ao96 t477.length co96):=(blk_cell BK485.out 3).trans rfl
   have hcz100_4 : w99.cell? ⟨gb485,4,none⟩ = some (.int .i64 t480):=(blk_cell BK485.out 4).trans rfl
   have hcz100_5 : w99.cell? ⟨gb485,5,none⟩ = some (.int .i64 t481):=(blk_cell BK485.out 5).trans rfl
   have hcz100_6 : w99.cell? ⟨gb485,6,none⟩ = some (.slice Ao97 t482.length co97):=(blk_cell BK485.out 6).trans rfl
   have hfz100_0:=blk_frozen BK485.out 0
   have hfz100_1:=blk_frozen BK485.out 1
   have hfz100_2:=blk_frozen BK485.out 2
   have hfz100_3:=blk_frozen BK485.out 3
   have hfz100_4:=blk_frozen BK485.out 4
   have hfz100_5:=blk_frozen BK485.out 5
   have hfz100_6:=blk_frozen BK485.out 6
   have hnb101:=NB472_469.out
   have hnc101:=NB469_472.out
   have hnb102:=NB472_470.out
   have hnc102:=NB470_472.out
   have hcz103_0 : w99.cell? ⟨gb472,0,none⟩ = some (.int .i64 0):=(blk_cell BK472.out 0).trans rfl
   have hcz103_1 : w99.cell? ⟨gb472,1,none⟩ = some (.int .i64 0):=(blk_cell BK472.out 1).trans rfl
   have hcz103_2 : w99.cell? ⟨gb472,2,none⟩ = some (.int .i64 0):=(blk_cell BK472.out 2).trans rfl
   have hcz103_3 : w99.cell? ⟨gb472,3,none⟩ = some (.slice none 0 0):=(blk_cell BK472.out 3).trans rfl
   have hcz103_4 : w99.cell? ⟨gb472,4,none⟩ = some (.int .i64 0):=(blk_cell BK472.out 4).trans rfl
   have hcz103_5 : w99.cell? ⟨gb472,5,none⟩ = some (.int .i64 0):=(blk_cell BK472.out 5).trans rfl
   have hcz103_6 : w99.cell? ⟨gb472,6,none⟩ = some (.slice none 0 0):=(blk_cell BK472.out 6).trans rfl
   have hfz103_0:=blk_frozen BK472.out 0
   have hfz103_1:=blk_frozen BK472.out 1
   have hfz103_2:=blk_frozen BK472.out 2
   have hfz103_3:=blk_frozen BK472.out 3
   have hfz103_4:=blk_frozen BK472.out 4
   have hfz103_5:=blk_frozen BK472.out 5
   have hfz103_6:=blk_frozen BK472.out 6
   try go_wp2_with (first|((with_reducible refine gate_store (t:=30) (p:=4) rfl ?_);(with_reducible refine gate_at_ (s := "l18_clock.go:111") rfl ?_);refine store_event (t:=30) (p:=4) (v:=?vo_w104) (w1:=(setAll_ w99 gb472 0 [.int .i64 t474,.int .i64 t475,.int .i64 t476,.slice Ao96 t477.length co96,.int .i64 t480,.int .i64 t481,.slice Ao97 t482.length co97])) ?hg ?ho ?hn ?hr ?_;(case ho => rfl);(case hg => rfl);(case hn => rfl);(case hr => simp only [setAll_];first|(go_simp;done)|(go_simp;rfl));intro w104 hw;have hg : w99.grownBy w104 (some gb472):=(by rw [hw];exact setAll_grown _ _ _ _);have n0_:=Aside0.mk (Kd.R_mono (kdgr_R (Kd.R_types HO479.out BK472.out (by decide)) (fun _ hk => hk.2) hg) (fun _ hk => hk.1));have n1_:=Aside0.mk (Kd.R_mono (kdgr_R (Kd.R_types HO484.out BK472.out (by decide)) (fun _ hk => hk.2) hg) (fun _ hk => hk.1));have n2_:=Aside0.mk (blk_grown BK469.out hg (ne_some_ NB469_472.out));have n3_:=Aside0.mk (blk_grown BK470.out hg (ne_some_ NB470_472.out));have n4_:=Aside0.mk ((by rw [hw];exact setAll_blk BK472.out rfl : w104.heap[gb472]? = some (.cells #[.int .i64 t474,.int .i64 t475,.int .i64 t476,.slice Ao96 t477.length co96,.int .i64 t480,.int .i64 t481,.slice Ao97 t482.length co97] 30 (0,0))));have n5_:=Aside0.mk (blk_grown BK485.out hg (ne_some_ NB485_472.out));have n6_:=Aside0.mk (below_gr_ HB.out hg GE472.out);clear HO479;clear HO484;clear BK469;clear BK470;clear BK472;clear BK485;clear HB;have HO479:=n0_;have HO484:=n1_;have BK469:=n2_;have BK470:=n3_;have BK472:=n4_;have BK485:=n5_;have HB:=n6_;clear n0_ n1_ n2_ n3_ n4_ n5_ n6_;clear hw hg;have hnb105:=NB470_469.out;have hnc105:=NB469_470.out;have hcz106_0 : w104.cell? ⟨gb470,0,none⟩ = some (.int .i64 0):=(blk_cell BK470.out 0).trans rfl;have hcz106_1 : w104.cell? ⟨gb470,1,none⟩ = some (.int .i64 0):=(blk_cell BK470.out 1).trans rfl;have hcz106_2 : w104.cell? ⟨gb470,2,none⟩ = some (.int .i64 0):=(blk_cell BK470.out 2).trans rfl;have hcz106_3 : w104.cell? ⟨gb470,3,none⟩ = some (.slice none 0 0):=(blk_cell BK470.out 3).trans rfl;have hcz106_4 : w104.cell? ⟨gb470,4,none⟩ = some (.int .i64 0):=(blk_cell BK470.out 4).trans rfl;have hcz106_5 : w104.cell? ⟨gb470,5,none⟩ = some (.int .i64 0):=(blk_cell BK470.out 5).trans rfl;have hcz106_6 : w104.cell? ⟨gb470,6,none⟩ = some (.slice none 0 0):=(blk_cell BK470.out 6).trans rfl;have hfz106_0:=blk_frozen BK470.out 0;have hfz106_1:=blk_frozen BK470.out 1;have hfz106_2:=blk_frozen BK470.out 2;have hfz106_3:=blk_frozen BK470.out 3;have hfz106_4:=blk_frozen BK470.out 4;have hfz106_5:=blk_frozen BK470.out 5;have hfz106_6:=blk_frozen BK470.out 6)|((try simp only [Exit.inBlock,Exit.then]);refine bodyPost_ret (results_list (rs:=[.cell 4 30,.tmp 5]) rfl (by simp) (.cell gb472 30 #[.int .i64 t474,.int .i64 t475,.int .i64 t476,.slice Ao96 t477.length co96,.int .i64 t480,.int .i64 t481,.slice Ao97 t482.length co97] (0,0) _ rfl (by exact BK472.out) Try.underlying30 rfl (by kernel_rfl) (.tmp .nil))) rfl ?_;simp only [];go_at_K)|((with_reducible refine gate_store (t:=30) (p:=4) rfl ?_);(with_reducible refine gate_at_ (s := "l18_clock.go:121") rfl ?_);refine store_event (t:=30) (p:=4) (v:=?vo_w107) (w1:=(setAll_ w104 gb470 0 [.int .i64 t474,.int .i64 t475,.int .i64 t476,.slice Ao96 t477.length co96,.int .i64 t480,.int .i64 t481,.slice Ao97 t482.length co97])) ?hg ?ho ?hn ?hr ?_;(case ho => rfl);(case hg => rfl);(case hn => rfl);(case hr => simp only [setAll_];first|(go_simp;done)|(go_simp;rfl));intro w107 hw;have hg : w104.grownBy w107 (some gb470):=(by rw [hw];exact setAll_grown _ _ _ _);have n0_:=Aside0.mk (Kd.R_mono (kdgr_R (Kd.R_types HO479.out BK470.out (by decide)) (fun _ hk => hk.2) hg) (fun _ hk => hk.1));have n1_:=Aside0.mk (Kd.R_mono (kdgr_R (Kd.R_types HO484.out BK470.out (by decide)) (fun _ hk => hk.2) hg) (fun _ hk => hk.1));have n2_:=Aside0.mk (blk_grown BK469.out hg (ne_some_ NB469_470.out));have n3_:=Aside0.mk ((by rw [hw];exact setAll_blk BK470.out rfl : w107.heap[gb470]? = some (.cells #[.int .i64 t474,.int .i64 t475,.int .i64 t476,.slice Ao96 t477.length co96,.int .i64 t480,.int .i64 t481,.slice Ao97 t482.length co97] 30 (0,0))));have n4_:=Aside0.mk (blk_grown BK472.out hg (ne_some_ NB472_470.out));have n5_:=Aside0.mk (blk_grown BK485.out hg (ne_some_ NB485_470.out));have n6_:=Aside0.mk (below_gr_ HB.out hg GE470.out);clear HO479;clear HO484;clear BK469;clear BK470;clear BK472;clear BK485;clear HB;have HO479:=n0_;have HO484:=n1_;have BK469:=n2_;have BK470:=n3_;have BK472:=n4_;have BK485:=n5_;have HB:=n6_;clear n0_ n1_ n2_ n3_ n4_ n5_ n6_;clear hw hg))
   refine bodyPost_ret (results_ct rfl _ _ gb470 30 #[.int .i64 t474,.int .i64 t475,.int .i64 t476,.slice Ao96 t477.length co96,.int .i64 t480,.int .i64 t481,.slice Ao97 t482.length co97] (0,0) _ rfl (by (with_reducible repeat (first|refine blk_drewN ?_ _|refine blk_drew ?_|refine blk_alloc ?_ _));exact BK470.out) Try.underlying30 rfl (by kernel_rfl)) rfl ?_
   exact ⟨_,_,by first|rfl|(simp [errW_none,errW_some] <;> rfl)|(simp [*,errW_none,errW_some] <;> rfl),by (with_reducible repeat (first|apply Kd.R_alloc|apply Kd.R_drewN|apply Kd.R_drew));exact Kd.R_mono HO479.out (fun _ hk => trivial),by (with_reducible repeat (first|apply Kd.R_alloc|apply Kd.R_drewN|apply Kd.R_drew));exact HO484.out,by repeat (first|(with_reducible first|exact HB.out|apply below_alloc|apply pw_below_drewN|apply below_drew1|refine below_set ?_ GE469.out|refine below_set ?_ GE470.out|refine below_set ?_ GE472.out|refine below_set ?_ GE485.out)|exact HB.out)⟩
 ·
  replace c4:=Bool.eq_false_iff.mpr c4
  subst c4
  have H1 : (some (0,0,0,([] : List Int),0,0,([] : List (S50)),false)) = some (r1,r2,r3,r4,r5,r6,r7,r8):=by rw [if_neg (show ¬ (false = true) by decide)] at H;exact H
  clear H
  have H:=H1
  clear H1
  simp only [Option.some.injEq,Prod.mk.injEq] at H
  obtain ⟨rfl,rfl,rfl,rfl,rfl,rfl,rfl,rfl⟩:=H
  go_enter Try.func32,Try.ntmps32
  go_wp2_with (first|((with_reducible refine gate_dst (N:=2) rfl ?_);(with_reducible refine gate_at_ (s := "l18_clock.go:120") rfl ?_);refine box_event ?hg (N:=2) ?hd (cs:=#[.int .i64 a0_0,.int .i64 a0_1,.int .i64 a0_2,.slice A0_3 l0_3.length c0_3,.int .i64 a0_4,.int .i64 a0_5,.slice A0_6 l0_6.length c0_6]) (t:=30) ?hr ?_;(case hd => rfl);(case hg => rfl);(case hr => first|(go_simp;done)|(go_simp;rfl));intro gb468 hg w108 hbox hb;have n0_:=Aside0.mk (below_step (by exact HB.out) hb);have n1_:=Aside0.mk (hbox);have n2_:=Aside0.mk ((by rw [hg];exact (below_size (by exact HB.out)) : w.heap.size ≤ gb468));have n3_:=Aside0.mk ((by rw [hg];exact (below_size (by exact HB.out)) : w.heap.size ≤ gb468));clear HB;have HB:=n0_;have BK468:=n1_;have GW468:=n2_;have GE468:=n3_;clear n0_ n1_ n2_ n3_;clear hb hbox hg)|((with_reducible refine gate_dst (N:=3) rfl ?_);(with_reducible refine gate_at_ (s := "l18_clock.go:120") rfl ?_);refine box_event ?hg (N:=3) ?hd (cs:=#[.int .i64 a1]) (t:=3) ?hr ?_;(case hd => rfl);(case hg => rfl);(case hr => first|(go_simp;done)|(go_simp;rfl));intro gb469 hg w109 hbox hb;have n0_:=Aside0.mk (blk_below BK468.out hb);have n1_:=Aside0.mk (below_step (by exact HB.out) hb);have n2_:=Aside0.mk (hbox);have n3_:=Aside0.mk ((by rw [hg];exact (below_size (by exact HB.out)) : w.heap.size ≤ gb469));have n4_:=Aside0.mk ((by rw [hg];exact (below_size (by exact HB.out)) : w.heap.size ≤ gb469));have n5_:=Aside0.mk ((by rw [hg];exact Nat.ne_of_lt (blk_lt BK468.out) : gb468 ≠ gb469));have n6_:=Aside0.mk ((by rw [hg];exact Nat.ne_of_gt (blk_lt BK468.out) : gb469 ≠ gb468));clear BK468;clear HB;have BK468:=n0_;have HB:=n1_;have BK469:=n2_;have GW469:=n3_;have GE469:=n4_;have NB468_469:=n5_;have NB469_468:=n6_;clear n0_ n1_ n2_ n3_ n4_ n5_ n6_;clear hb hbox hg)|((with_reducible refine gate_dst (N:=4) rfl ?_);(with_reducible refine gate_at_ (s := "l18_clock.go:120") rfl ?_);refine box_event ?hg (N:=4) ?hd (cs:=#[.int .i64 0,.int .i64 0,.int .i64 0,.slice none 0 0,.int .i64 0,.int .i64 0,.slice none 0 0]) (t:=30) ?hr ?_;(case hd => rfl);(case hg => rfl);(case hr => first|(go_simp;done)|(go_simp;rfl));intro gb470 hg w110 hbox hb;have n0_:=Aside0.mk (blk_below BK468.out hb);have n1_:=Aside0.mk (below_step (by exact HB.out) hb);have n2_:=Aside0.mk (hbox);have n3_:=Aside0.mk ((by rw [hg];exact (below_size (by exact HB.out)) : w.heap.size ≤ gb470));have n4_:=Aside0.mk ((by rw [hg];exact (below_size (by exact HB.out)) : w.heap.size ≤ gb470));have n5_:=Aside0.mk ((by rw [hg];exact Nat.ne_of_lt (blk_lt BK468.out) : gb468 ≠ gb470));have n6_:=Aside0.mk ((by rw [hg];exact Nat.ne_of_gt (blk_lt BK468.out) : gb470 ≠ gb468));clear BK468;clear HB;(try clear BK469);(try clear GW469);(try clear GE469);(try clear NB469_468);(try clear NB468_469);have BK468:=n0_;have HB:=n1_;have BK470:=n2_;have GW470:=n3_;have GE470:=n4_;have NB468_470:=n5_;have NB470_468:=n6_;clear n0_ n1_ n2_ n3_ n4_ n5_ n6_;clear hb hbox hg;have hnb111:=NB468_470.out;have hnc111:=NB470_468.out;have hcz112_0 : w110.cell? ⟨gb468,0,none⟩ = some (.int .i64 a0_0):=(blk_cell BK468.out 0).trans rfl;have hcz112_1 : w110.cell? ⟨gb468,1,none⟩ = some (.int .i64 a0_1):=(blk_cell BK468.out 1).trans rfl;have hcz112_2 : w110.cell? ⟨gb468,2,none⟩ = some (.int .i64 a0_2):=(blk_cell BK468.out 2).trans rfl;have hcz112_3 : w110.cell? ⟨gb468,3,none⟩ = some (.slice A0_3 l0_3.length c0_3):=(blk_cell BK468.out 3).trans rfl;have hcz112_4 : w110.cell? ⟨gb468,4,none⟩ = some (.int .i64 a0_4):=(blk_cell BK468.out 4).trans rfl;have hcz112_5 : w110.cell? ⟨gb468,5,none⟩ = some (.int .i64 a0_5):=(blk_cell BK468.out 5).trans rfl;have hcz112_6 : w110.cell? ⟨gb468,6,none⟩ = some (.slice A0_6 l0_6.length c0_6):=(blk_cell BK468.out 6).trans rfl;have hfz112_0:=blk_frozen BK468.out 0;have hfz112_1:=blk_frozen BK468.out 1;have hfz112_2:=blk_frozen BK468.out 2;have hfz112_3:=blk_frozen BK468.out 3;have hfz112_4:=blk_frozen BK468.out 4;have hfz112_5:=blk_frozen BK468.out 5;have hfz112_6:=blk_frozen BK468.out 6)|(go_at_call 63;go_in)|((with_reducible refine gate_dst (N:=2) rfl ?_);(with_reducible refine gate_at_ (s := "l18_clock.go:105") rfl ?_);refine box_event ?hg (N:=2) ?hd (cs:=#[.int .i64 a0_0,.int .i64 a0_1,.int .i64 a0_2,.slice A0_3 l0_3.length c0_3,.int .i64 a0_4,.int .i64 a0_5,.slice A0_6 l0_6.length c0_6]) (t:=30) ?hr ?_;(case hd => rfl);(case hg => rfl);(case hr => first|(go_simp;done)|(go_simp;rfl));intro gb471 hg w113 hbox hb;have n0_:=Aside0.mk (blk_below BK470.out hb);have n1_:=Aside0.mk (below_step (by exact HB.out) hb);have n2_:=Aside0.mk (hbox);have n3_:=Aside0.mk ((by rw [hg];exact (below_size (by exact HB.out)) : w.heap.size ≤ gb471));have n4_:=Aside0.mk ((by rw [hg];exact (below_size (by exact HB.out)) : w.heap.size ≤ gb471));have n5_:=Aside0.mk ((by rw [hg];exact Nat.ne_of_lt (blk_lt BK470.out) : gb470 ≠ gb471));have n6_:=Aside0.mk ((by rw [hg];exact Nat.ne_of_gt (blk_lt BK470.out) : gb471 ≠ gb470));clear BK470;clear HB;(try clear BK468);(try clear GW468);(try clear GE468);(try clear NB468_470);(try clear NB470_468);have BK470:=n0_;have HB:=n1_;have BK471:=n2_;have GW471:=n3_;have GE471:=n4_;have NB470_471:=n5_;have NB471_470:=n6_;clear n0_ n1_ n2_ n3_ n4_ n5_ n6_;clear hb hbox hg)|((with_reducible refine gate_dst (N:=4) rfl ?_);(with_reducible refine gate_at_ (s := "l18_clock.go:105") rfl ?_);refine box_event ?hg (N:=4) ?hd (cs:=#[.int .i64 0,.int .i64 0,.int .i64 0,.slice none 0 0,.int .i64 0,.int .i64 0,.slice none 0 0]) (t:=30) ?hr ?_;(case hd => rfl);(case hg => rfl);(case hr => first|(go_simp;done)|(go_simp;rfl));intro gb472 hg w114 hbox hb;have n0_:=Aside0.mk (blk_below BK470.out hb);have n1_:=Aside0.mk (blk_below BK471.out hb);have n2_:=Aside0.mk (below_step (by exact HB.out) hb);have n3_:=Aside0.mk (hbox);have n4_:=Aside0.mk ((by rw [hg];exact (below_size (by exact HB.out)) : w.heap.size ≤ gb472));have n5_:=Aside0.mk ((by rw [hg];exact (below_size (by exact HB.out)) : w.heap.size ≤ gb472));have n6_:=Aside0.mk ((by rw [hg];exact Nat.ne_of_lt (blk_lt BK470.out) : gb470 ≠ gb472));have n7_:=Aside0.mk ((by rw [hg];exact Nat.ne_of_gt (blk_lt BK470.out) : gb472 ≠ gb470));have n8_:=Aside0.mk ((by rw [hg];exact Nat.ne_of_lt (blk_lt BK471.out) : gb471 ≠ gb472));have n9_:=Aside0.mk ((by rw [hg];exact Nat.ne_of_gt (blk_lt BK471.out) : gb472 ≠ gb471));clear BK470;clear BK471;clear HB;have BK470:=n0_;have BK471:=n1_;have HB:=n2_;have BK472:=n3_;have GW472:=n4_;have GE472:=n5_;have NB470_472:=n6_;have NB472_470:=n7_;have NB471_472:=n8_;have NB472_471:=n9_;clear n0_ n1_ n2_ n3_ n4_ n5_ n6_ n7_ n8_ n9_;clear hb hbox hg;have hnb115:=NB471_470.out;have hnc115:=NB470_471.out;have hnb116:=NB471_472.out;have hnc116:=NB472_471.out;have hcz117_0 : w114.cell? ⟨gb471,0,none⟩ = some (.int .i64 a0_0):=(blk_cell BK471.out 0).trans rfl;have hcz117_1 : w114.cell? ⟨gb471,1,none⟩ = some (.int .i64 a0_1):=(blk_cell BK471.out 1).trans rfl;have hcz117_2 : w114.cell? ⟨gb471,2,none⟩ = some (.int .i64 a0_2):=(blk_cell BK471.out 2).trans rfl;have hcz117_3 : w114.cell? ⟨gb471,3,none⟩ = some (.slice A0_3 l0_3.length c0_3):=(blk_cell BK471.out 3).trans rfl;have hcz117_4 : w114.cell? ⟨gb471,4,none⟩ = some (.int .i64 a0_4):=(blk_cell BK471.out 4).trans rfl;have hcz117_5 : w114.cell? ⟨gb471,5,none⟩ = some (.int .i64 a0_5):=(blk_cell BK471.out 5).trans rfl;have hcz117_6 : w114.cell? ⟨gb471,6,none⟩ = some (.slice A0_6 l0_6.length c0_6):=(blk_cell BK471.out 6).trans rfl;have hfz117_0:=blk_frozen BK471.out 0;have hfz117_1:=blk_frozen BK471.out 1;have hfz117_2:=blk_frozen BK471.out 2;have hfz117_3:=blk_frozen BK471.out 3;have hfz117_4:=blk_frozen BK471.out 4;have hfz117_5:=blk_frozen BK471.out 5;have hfz117_6:=blk_frozen BK471.out 6)|((with_reducible refine gate_callee (f:=51) rfl ?_);(with_reducible refine gate_at_ (s := "l18_clock.go:106") rfl ?_);refine goesL_ (some 9) rfl rfl Try.func51 (by kernel_rfl) rfl #[.agg #[.int .i64 a0_0,.int .i64 a0_1,.int .i64 a0_2,.slice A0_3 l0_3.length c0_3,.int .i64 a0_4,.int .i64 a0_5,.slice A0_6 l0_6.length c0_6]] rfl (by (try simp only [List.map_toArray,List.map_cons,List.map_nil]);first|done|rfl|(simp only [List.length_drop,List.length_take];rfl)) ?_;(with_reducible refine (impl_isLs.calls k a0_0 a0_1 a0_2 _ _ l0_3 a0_4 a0_5 _ _ l0_6 false _ ?side1 ?side2 ?side3 ?side4 A3.out).mono ?_);(case side1 => repeat (first|exact (Kd.C_below HR0_3.out HB.out)|(with_reducible refine Kd.C_alloc ?_ _)|(with_reducible refine Kd.C_drewN ?_ _)|(with_reducible refine Kd.C_drew ?_)));(case side2 => exact HC0_3.out);(case side3 => repeat (first|exact (Kd.C_below HR0_6.out HB.out)|(with_reducible refine Kd.C_alloc ?_ _)|(with_reducible refine Kd.C_drewN ?_ _)|(with_reducible refine Kd.C_drew ?_)));(case side4 => exact HC0_6.out);rintro e w118 ⟨rfl,hb⟩;refine ⟨_,rfl,?_⟩;have n0_:=Aside0.mk (blk_below BK470.out hb);have n1_:=Aside0.mk (blk_below BK472.out hb);have n2_:=Aside0.mk (below_step (by exact HB.out) hb);clear BK470;clear BK472;clear HB;(try clear BK471);(try clear GW471);(try clear GE471);(try clear NB471_470);(try clear NB470_471);(try clear NB471_472);(try clear NB472_471);have BK470:=n0_;have BK472:=n1_;have HB:=n2_;clear n0_ n1_ n2_;(try clear hb);(try clear hb2);(try clear hk);(try clear hi);have hnb119:=NB472_470.out;have hnc119:=NB470_472.out;have hcz120_0 : w118.cell? ⟨gb472,0,none⟩ = some (.int .i64 0):=(blk_cell BK472.out 0).trans rfl;have hcz120_1 : w118.cell? ⟨gb472,1,none⟩ = some (.int .i64 0):=(blk_cell BK472.out 1).trans rfl;have hcz120_2 : w118.cell? ⟨gb472,2,none⟩ = some (.int .i64 0):=(blk_cell BK472.out 2).trans rfl;have hcz120_3 : w118.cell? ⟨gb472,3,none⟩ = some (.slice none 0 0):=(blk_cell BK472.out 3).trans rfl;have hcz120_4 : w118.cell? ⟨gb472,4,none⟩ = some (.int .i64 0):=(blk_cell BK472.out 4).trans rfl;have hcz120_5 : w118.cell? ⟨gb472,5,none⟩ = some (.int .i64 0):=(blk_cell BK472.out 5).trans rfl;have hcz120_6 : w118.cell? ⟨gb472,6,none⟩ = some (.slice none 0 0):=(blk_cell BK472.out 6).trans rfl;have hfz120_0:=blk_frozen BK472.out 0;have hfz120_1:=blk_frozen BK472.out 1;have hfz120_2:=blk_frozen BK472.out 2;have hfz120_3:=blk_frozen BK472.out 3;have hfz120_4:=blk_frozen BK472.out 4;have hfz120_5:=blk_frozen BK472.out 5;have hfz120_6:=blk_frozen BK472.out 6)|((with_reducible refine gate_store (t:=30) (p:=4) rfl ?_);(with_reducible refine gate_at_ (s := "l18_clock.go:107") rfl ?_);refine store_event (t:=30) (p:=4) (v:=?vo_w121) (w1:=(setAll_ w118 gb472 0 [.int .i64 0,.int .i64 0,.int .i64 0,.slice none 0 0,.int .i64 0,.int .i64 0,.slice none 0 0])) ?hg ?ho ?hn ?hr ?_;(case ho => rfl);(case hg => rfl);(case hn => rfl);(case hr => simp only [setAll_];first|(go_simp;done)|(go_simp;rfl));intro w121 hw;have hg : w118.grownBy w121 (some gb472):=(by rw [hw];exact setAll_grown _ _ _ _);have n0_:=Aside0.mk (blk_grown BK470.out hg (ne_some_ NB470_472.out));have n1_:=Aside0.mk ((by rw [hw];exact setAll_blk BK472.out rfl : w121.heap[gb472]? = some (.cells #[.int .i64 0,.int .i64 0,.int .i64 0,.slice none 0 0,.int .i64 0,.int .i64 0,.slice none 0 0] 30 (0,0))));have n2_:=Aside0.mk (below_gr_ HB.out hg GE472.out);clear BK470;clear BK472;clear HB;have BK470:=n0_;have BK472:=n1_;have HB:=n2_;clear n0_ n1_ n2_;clear hw hg;have hcz122_0 : w121.cell? ⟨gb470,0,none⟩ = some (.int .i64 0):=(blk_cell BK470.out 0).trans rfl;have hcz122_1 : w121.cell? ⟨gb470,1,none⟩ = some (.int .i64 0):=(blk_cell BK470.out 1).trans rfl;have hcz122_2 : w121.cell? ⟨gb470,2,none⟩ = some (.int .i64 0):=(blk_cell BK470.out 2).trans rfl;have hcz122_3 : w121.cell? ⟨gb470,3,none⟩ = some (.slice none 0 0):=(blk_cell BK470.out 3).trans rfl;have hcz122_4 : w121.cell? ⟨gb470,4,none⟩ = some (.int .i64 0):=(blk_cell BK470.out 4).trans rfl;have hcz122_5 : w121.cell? ⟨gb470,5,none⟩ = some (.int .i64 0):=(blk_cell BK470.out 5).trans rfl;have hcz122_6 : w121.cell? ⟨gb470,6,none⟩ = some (.slice none 0 0):=(blk_cell BK470.out 6).trans rfl;have hfz122_0:=blk_frozen BK470.out 0;have hfz122_1:=blk_frozen BK470.out 1;have hfz122_2:=blk_frozen BK470.out 2;have hfz122_3:=blk_frozen BK470.out 3;have hfz122_4:=blk_frozen BK470.out 4;have hfz122_5:=blk_frozen BK470.out 5;have hfz122_6:=blk_frozen BK470.out 6)|((try simp only [Exit.inBlock,Exit.then]);refine bodyPost_ret (results_list (rs:=[.cell 4 30,.tmp 5]) rfl (by simp) (.cell gb472 30 #[.int .i64 0,.int .i64 0,.int .i64 0,.slice none 0 0,.int .i64 0,.int .i64 0,.slice none 0 0] (0,0) _ rfl (by exact BK472.out) Try.underlying30 rfl (by kernel_rfl) (.tmp .nil))) rfl ?_;simp only [];go_at_K)|((with_reducible refine gate_store (t:=30) (p:=4) rfl ?_);(with_reducible refine gate_at_ (s := "l18_clock.go:121") rfl ?_);refine store_event (t:=30) (p:=4) (v:=?vo_w123) (w1:=(setAll_ w121 gb470 0 [.int .i64 0,.int .i64 0,.int .i64 0,.slice none 0 0,.int .i64 0,.int .i64 0,.slice none 0 0])) ?hg ?ho ?hn ?hr ?_;(case ho => rfl);(case hg => rfl);(case hn => rfl);(case hr => simp only [setAll_];first|(go_simp;done)|(go_simp;rfl));intro w123 hw;have hg : w121.grownBy w123 (some gb470):=(by rw [hw];exact setAll_grown _ _ _ _);have n0_:=Aside0.mk ((by rw [hw];exact setAll_blk BK470.out rfl : w123.heap[gb470]? = some (.cells #[.int .i64 0,.int .i64 0,.int .i64 0,.slice none 0 0,.int .i64 0,.int .i64 0,.slice none 0 0] 30 (0,0))));have n1_:=Aside0.mk (blk_grown BK472.out hg (ne_some_ NB472_470.out));have n2_:=Aside0.mk (below_gr_ HB.out hg GE470.out);clear BK470;clear BK472;clear HB;have BK470:=n0_;have BK472:=n1_;have HB:=n2_;clear n0_ n1_ n2_;clear hw hg))
  refine bodyPost_ret (results_ct rfl _ _ gb470 30 #[.int .i64 0,.int .i64 0,.int .i64 0,.slice none 0 0,.int .i64 0,.int .i64 0,.slice none 0 0] (0,0) _ rfl (by (with_reducible repeat (first|refine blk_drewN ?_ _|refine blk_drew ?_|refine blk_alloc ?_ _));exact BK470.out) Try.underlying30 rfl (by kernel_rfl)) rfl ?_
  exact ⟨_,_,by first|rfl|(simp [errW_none,errW_some] <;> rfl)|(simp [*,errW_none,errW_some] <;> rfl),by first|exact Kd.R_nil _ _ _ _ _|exact Kd.N_nil _ _ _ _ _|exact Kd.V_nil _ _ _ _ _|exact Kd.Q_nil _ _ _ _ _|exact Kd.S_nil _ _ _ _ _,by first|exact Kd.R_nil _ _ _ _ _|exact Kd.N_nil _ _ _ _ _|exact Kd.V_nil _ _ _ _ _|exact Kd.Q_nil _ _ _ _ _|exact Kd.S_nil _ _ _ _ _,by repeat (first|(with_reducible first|exact HB.out|apply below_alloc|apply pw_below_drewN|apply below_drew1|refine below_set ?_ GE470.out|refine below_set ?_ GE472.out)|exact HB.out)⟩
end Go.Proofs.Ytnldanonpdijgaa.P
