-- Ours: printed or written for this claim; cut to what the theorem needs.
import Derived.Test.YtnldanonpdijgaaZPx0
import Derived.Test.YtnldanonpdijgaaZPx1
import Derived.Test.YtnldanonpdijgaaZPx2
import Derived.Test.YtnldanonpdijgaaZPx3
import Derived.Test.YtnldanonpdijgaaZPx7
import Derived.Test.YtnldanonpdijgaaZPx8
open Bool renaming true → T, false → F
namespace Go.Proofs.Ytnldanonpdijgaa.P
open Go.RowKit Go.Proofs.YtnldanonpdijgaaW.PrintWords Go.Proofs.YtnldanonpdijgaaW.PrintLast Go.Proofs.YtnldanonpdijgaaW.PrintMore
attribute [local go_sem] max2_int min2_int max_two min_two max_three min_three max_four min_four
set_option linter.unusedVariables false
set_option linter.unusedSimpArgs false
def laws_FnExactLsOk.f (k : Nat) (a0_0 : Int) (a0_1 : Int) (a0_2 : Int) (l0_3 : List Int) (a0_4 : Int) (a0_5 : Int) (l0_6 : List (S68)) : Option (Bool):=(laws_szLs.f a0_0 a0_1 a0_2 l0_3 a0_4 a0_5 l0_6 1048576).bind fun t186 => (if t186 < 0 then (some true) else ((laws_toLs.f k a0_0 a0_1 a0_2 l0_3 a0_4 a0_5 l0_6).bind fun bt187 => ((spec_LsOk.f k bt187.1 bt187.2.1 bt187.2.2.1 bt187.2.2.2.1 bt187.2.2.2.2.1 bt187.2.2.2.2.2.1 bt187.2.2.2.2.2.2).bind fun t198 => ((laws_toLs.f k a0_0 a0_1 a0_2 l0_3 a0_4 a0_5 l0_6).bind fun bt199 => ((impl_LsOk.f k bt199.1 bt199.2.1 bt199.2.2.1 bt199.2.2.2.1 bt199.2.2.2.2.1 bt199.2.2.2.2.2.1 bt199.2.2.2.2.2.2).bind fun t211 => (if (t211 != t198) = true then (some false) else ((laws_toLs.f k a0_0 a0_1 a0_2 l0_3 a0_4 a0_5 l0_6).bind fun bt212 => ((laws_eqLs.f k bt199.1 bt199.2.1 bt199.2.2.1 bt199.2.2.2.1 bt199.2.2.2.2.1 bt199.2.2.2.2.2.1 bt199.2.2.2.2.2.2 bt212.1 bt212.2.1 bt212.2.2.1 bt212.2.2.2.1 bt212.2.2.2.2.1 bt212.2.2.2.2.2.1 bt212.2.2.2.2.2.2).bind fun t223 => (if t223 = true then (some true) else (some false))))))))))
set_option maxHeartbeats 8000000 in
set_option maxRecDepth 100000 in
theorem laws_FnExactLsOk.calls (k : Nat) (a0_0 : Int) (a0_1 : Int) (a0_2 : Int) (A0_3 : Option Addr) (c0_3 : Nat) (l0_3 : List Int) (a0_4 : Int) (a0_5 : Int) (A0_6 : Option Addr) (c0_6 : Nat) (l0_6 : List (S68)) (r : Bool) (w : World) (hr0_3 : Kd.C (Kd.int .i64) w A0_3 l0_3.length l0_3) (hc0_3 : l0_3.length ≤ c0_3) (hr0_6 : Kd.C k68 w A0_6 l0_6.length l0_6) (hc0_6 : l0_6.length ≤ c0_6) (h : laws_FnExactLsOk.f k a0_0 a0_1 a0_2 l0_3 a0_4 a0_5 l0_6 = some r) (hrt_ : r = true) :
  Calls Try.prog 3 #[.agg #[.int .i64 a0_0,.int .i64 a0_1,.int .i64 a0_2,.slice A0_3 l0_3.length c0_3,.int .i64 a0_4,.int .i64 a0_5,.slice A0_6 l0_6.length c0_6]] w fun e w' => e = .returned (.bool r) ∧ Below w.heap.size w w':=by
 have hu25:=Try.underlying25
 have hu30:=Try.underlying30
 have HR0_3:=Aside0.mk hr0_3
 have HC0_3:=Aside0.mk hc0_3
 clear hr0_3 hc0_3
 have HR0_6:=Aside0.mk hr0_6
 have HC0_6:=Aside0.mk hc0_6
 clear hr0_6 hc0_6
 have HB:=Aside0.mk (Below.refl w.heap.size w)
 have H : ((laws_szLs.f a0_0 a0_1 a0_2 l0_3 a0_4 a0_5 l0_6 1048576).bind fun t186 => (if t186 < 0 then (some true) else ((laws_toLs.f k a0_0 a0_1 a0_2 l0_3 a0_4 a0_5 l0_6).bind fun bt187 => ((spec_LsOk.f k bt187.1 bt187.2.1 bt187.2.2.1 bt187.2.2.2.1 bt187.2.2.2.2.1 bt187.2.2.2.2.2.1 bt187.2.2.2.2.2.2).bind fun t198 => ((laws_toLs.f k a0_0 a0_1 a0_2 l0_3 a0_4 a0_5 l0_6).bind fun bt199 => ((impl_LsOk.f k bt199.1 bt199.2.1 bt199.2.2.1 bt199.2.2.2.1 bt199.2.2.2.2.1 bt199.2.2.2.2.2.1 bt199.2.2.2.2.2.2).bind fun t211 => (if (t211 != t198) = true then (some false) else ((laws_toLs.f k a0_0 a0_1 a0_2 l0_3 a0_4 a0_5 l0_6).bind fun bt212 => ((laws_eqLs.f k bt199.1 bt199.2.1 bt199.2.2.1 bt199.2.2.2.1 bt199.2.2.2.2.1 bt199.2.2.2.2.2.1 bt199.2.2.2.2.2.2 bt212.1 bt212.2.1 bt212.2.2.1 bt212.2.2.2.1 bt212.2.2.2.2.1 bt212.2.2.2.2.2.1 bt212.2.2.2.2.2.2).bind fun t223 => (if t223 = true then (some true) else (some false))))))))))) = some r:=h
 clear h
 replace H:=Option.bind_eq_some_iff.mp H
 obtain ⟨t186,A20,H⟩:=H
 replace H : (if t186 < 0 then (some true) else ((laws_toLs.f k a0_0 a0_1 a0_2 l0_3 a0_4 a0_5 l0_6).bind fun bt187 => ((spec_LsOk.f k bt187.1 bt187.2.1 bt187.2.2.1 bt187.2.2.2.1 bt187.2.2.2.2.1 bt187.2.2.2.2.2.1 bt187.2.2.2.2.2.2).bind fun t198 => ((laws_toLs.f k a0_0 a0_1 a0_2 l0_3 a0_4 a0_5 l0_6).bind fun bt199 => ((impl_LsOk.f k bt199.1 bt199.2.1 bt199.2.2.1 bt199.2.2.2.1 bt199.2.2.2.2.1 bt199.2.2.2.2.2.1 bt199.2.2.2.2.2.2).bind fun t211 => (if (t211 != t198) = true then (some false) else ((laws_toLs.f k a0_0 a0_1 a0_2 l0_3 a0_4 a0_5 l0_6).bind fun bt212 => ((laws_eqLs.f k bt199.1 bt199.2.1 bt199.2.2.1 bt199.2.2.2.1 bt199.2.2.2.2.1 bt199.2.2.2.2.2.1 bt199.2.2.2.2.2.2 bt212.1 bt212.2.1 bt212.2.2.1 bt212.2.2.2.1 bt212.2.2.2.2.1 bt212.2.2.2.2.2.1 bt212.2.2.2.2.2.2).bind fun t223 => (if t223 = true then (some true) else (some false)))))))))) = some r:=H
 have A2:=Aside0.mk A20
 clear A20
 by_cases c3 : t186 < 0
 ·
  rw [if_pos c3] at H
  have c3b0 : decide (t186 < 0) = true:=decide_eq_true c3
  clear c3
  obtain rfl:=Option.some.inj H
  go_enter Try.func3,Try.ntmps3
  go_wp2_with (first|((with_reducible refine gate_dst (N:=1) rfl ?_);refine box_event ?hg (N:=1) ?hd (cs:=#[.int .i64 a0_0,.int .i64 a0_1,.int .i64 a0_2,.slice A0_3 l0_3.length c0_3,.int .i64 a0_4,.int .i64 a0_5,.slice A0_6 l0_6.length c0_6]) (t:=25) ?hr ?_;(case hd => rfl);(case hg => rfl);(case hr => first|(go_simp;done)|(go_simp;rfl));intro gb185 hg w4 hbox hb;have n0_:=Aside0.mk (below_step (by repeat (first|(with_reducible first|exact HB.out|apply below_alloc|apply pw_below_drewN|apply below_drew1)|exact HB.out)) hb);have n1_:=Aside0.mk (hbox);have n2_:=Aside0.mk ((by rw [hg];exact (below_size (by repeat (first|(with_reducible first|exact HB.out|apply below_alloc|apply pw_below_drewN|apply below_drew1)|exact HB.out))) : w.heap.size ≤ gb185));have n3_:=Aside0.mk ((by rw [hg];exact (below_size (by repeat (first|(with_reducible first|exact HB.out|apply below_alloc|apply pw_below_drewN|apply below_drew1)|exact HB.out))) : w.heap.size ≤ gb185));clear HB;have HB:=n0_;have BK185:=n1_;have GW185:=n2_;have GE185:=n3_;clear n0_ n1_ n2_ n3_;clear hb hbox hg;have hcz5_0 : w4.cell? ⟨gb185,0,none⟩ = some (.int .i64 a0_0):=(blk_cell BK185.out 0).trans rfl;have hcz5_1 : w4.cell? ⟨gb185,1,none⟩ = some (.int .i64 a0_1):=(blk_cell BK185.out 1).trans rfl;have hcz5_2 : w4.cell? ⟨gb185,2,none⟩ = some (.int .i64 a0_2):=(blk_cell BK185.out 2).trans rfl;have hcz5_3 : w4.cell? ⟨gb185,3,none⟩ = some (.slice A0_3 l0_3.length c0_3):=(blk_cell BK185.out 3).trans rfl;have hcz5_4 : w4.cell? ⟨gb185,4,none⟩ = some (.int .i64 a0_4):=(blk_cell BK185.out 4).trans rfl;have hcz5_5 : w4.cell? ⟨gb185,5,none⟩ = some (.int .i64 a0_5):=(blk_cell BK185.out 5).trans rfl;have hcz5_6 : w4.cell? ⟨gb185,6,none⟩ = some (.slice A0_6 l0_6.length c0_6):=(blk_cell BK185.out 6).trans rfl;have hfz5_0:=blk_frozen BK185.out 0;have hfz5_1:=blk_frozen BK185.out 1;have hfz5_2:=blk_frozen BK185.out 2;have hfz5_3:=blk_frozen BK185.out 3;have hfz5_4:=blk_frozen BK185.out 4;have hfz5_5:=blk_frozen BK185.out 5;have hfz5_6:=blk_frozen BK185.out 6)|((with_reducible refine gate_callee (f:=14) rfl ?_);refine goesL_ (some 9) rfl rfl Try.func14 (by kernel_rfl) rfl #[.agg #[.int .i64 a0_0,.int .i64 a0_1,.int .i64 a0_2,.slice A0_3 l0_3.length c0_3,.int .i64 a0_4,.int .i64 a0_5,.slice A0_6 l0_6.length c0_6],.int .i64 1048576] rfl (by (try simp only [List.map_toArray,List.map_cons,List.map_nil]);first|done|rfl|(simp only [List.length_drop,List.length_take];rfl)) ?_;(with_reducible refine (laws_szLs.calls a0_0 a0_1 a0_2 _ _ l0_3 a0_4 a0_5 _ _ l0_6 1048576 t186 _ ?side1 ?side2 ?side3 ?side4 A2.out).mono ?_);(case side1 => repeat (first|exact (Kd.C_below HR0_3.out HB.out)|(with_reducible refine Kd.C_alloc ?_ _)|(with_reducible refine Kd.C_drewN ?_ _)|(with_reducible refine Kd.C_drew ?_)));(case side2 => exact HC0_3.out);(case side3 => repeat (first|exact (Kd.C_below HR0_6.out HB.out)|(with_reducible refine Kd.C_alloc ?_ _)|(with_reducible refine Kd.C_drewN ?_ _)|(with_reducible refine Kd.C_drew ?_)));(case side4 => exact HC0_6.out);rintro e w6 ⟨rfl,hb⟩;refine ⟨_,rfl,?_⟩;have n0_:=Aside0.mk (below_step (by repeat (first|(with_reducible first|exact HB.out|apply below_alloc|apply pw_below_drewN|apply below_drew1)|exact HB.out)) hb);clear HB;(try clear BK185);(try clear GW185);(try clear GE185);have HB:=n0_;clear n0_;(try clear hb);(try clear hb2);(try clear hk);(try clear hi)))
  go_ret
  exact ⟨by first|rfl|(simp [errW_none,errW_some] <;> rfl)|(simp [*,errW_none,errW_some] <;> rfl),by repeat (first|(with_reducible first|exact HB.out|apply below_alloc|apply pw_below_drewN|apply below_drew1)|exact HB.out)⟩
 ·
  rw [if_neg c3] at H
  have c3b0 : decide (t186 < 0) = false:=decide_eq_false c3
  clear c3
  replace H:=Option.bind_eq_some_iff.mp H
  obtain ⟨⟨t187,t188,t189,t190,t193,t194,t195⟩,A70,H⟩:=H
  replace H : ((spec_LsOk.f k t187 t188 t189 t190 t193 t194 t195).bind fun t198 => ((laws_toLs.f k a0_0 a0_1 a0_2 l0_3 a0_4 a0_5 l0_6).bind fun bt199 => ((impl_LsOk.f k bt199.1 bt199.2.1 bt199.2.2.1 bt199.2.2.2.1 bt199.2.2.2.2.1 bt199.2.2.2.2.2.1 bt199.2.2.2.2.2.2).bind fun t211 => (if (t211 != t198) = true then (some false) else ((laws_toLs.f k a0_0 a0_1 a0_2 l0_3 a0_4 a0_5 l0_6).bind fun bt212 => ((laws_eqLs.f k bt199.1 bt199.2.1 bt199.2.2.1 bt199.2.2.2.1 bt199.2.2.2.2.1 bt199.2.2.2.2.2.1 bt199.2.2.2.2.2.2 bt212.1 bt212.2.1 bt212.2.2.1 bt212.2.2.2.1 bt212.2.2.2.2.1 bt212.2.2.2.2.2.1 bt212.2.2.2.2.2.2).bind fun t223 => (if t223 = true then (some true) else (some false)))))))) = some r:=H
  have A7:=Aside0.mk A70
  clear A70
  replace H:=Option.bind_eq_some_iff.mp H
  obtain ⟨t198,A80,H⟩:=H
  replace H : ((laws_toLs.f k a0_0 a0_1 a0_2 l0_3 a0_4 a0_5 l0_6).bind fun bt199 => ((impl_LsOk.f k bt199.1 bt199.2.1 bt199.2.2.1 bt199.2.2.2.1 bt199.2.2.2.2.1 bt199.2.2.2.2.2.1 bt199.2.2.2.2.2.2).bind fun t211 => (if (t211 != t198) = true then (some false) else ((laws_toLs.f k a0_0 a0_1 a0_2 l0_3 a0_4 a0_5 l0_6).bind fun bt212 => ((laws_eqLs.f k bt199.1 bt199.2.1 bt199.2.2.1 bt199.2.2.2.1 bt199.2.2.2.2.1 bt199.2.2.2.2.2.1 bt199.2.2.2.2.2.2 bt212.1 bt212.2.1 bt212.2.2.1 bt212.2.2.2.1 bt212.2.2.2.2.1 bt212.2.2.2.2.2.1 bt212.2.2.2.2.2.2).bind fun t223 => (if t223 = true then (some true) else (some false))))))) = some r:=H
  have A8:=Aside0.mk A80
  clear A80
  replace H:=Option.bind_eq_some_iff.mp H
  obtain ⟨⟨t199,t200,t201,t202,t205,t206,t207⟩,A90,H⟩:=H
  replace H : ((impl_LsOk.f k t199 t200 t201 t202 t205 t206 t207).bind fun t211 => (if (t211 != t198) = true then (some false) else ((laws_toLs.f k a0_0 a0_1 a0_2 l0_3 a0_4 a0_5 l0_6).bind fun bt212 => ((laws_eqLs.f k t199 t200 t201 t202 t205 t206 t207 bt212.1 bt212.2.1 bt212.2.2.1 bt212.2.2.2.1 bt212.2.2.2.2.1 bt212.2.2.2.2.2.1 bt212.2.2.2.2.2.2).bind fun t223 => (if t223 = true then (some true) else (some false)))))) = some r:=H
  have A9:=Aside0.mk A90
  clear A90
  replace H:=Option.bind_eq_some_iff.mp H
  obtain ⟨t211,A100,H⟩:=H
  replace H : (if (t211 != t198) = true then (some false) else ((laws_toLs.f k a0_0 a0_1 a0_2 l0_3 a0_4 a0_5 l0_6).bind fun bt212 => ((laws_eqLs.f k t199 t200 t201 t202 t205 t206 t207 bt212.1 bt212.2.1 bt212.2.2.1 bt212.2.2.2.1 bt212.2.2.2.2.1 bt212.2.2.2.2.2.1 bt212.2.2.2.2.2.2).bind fun t223 => (if t223 = true then (some true) else (some false))))) = some r:=H
  have A10:=Aside0.mk A100
  clear A100
  by_cases c11 : (t211 != t198) = true
  ·
   rw [if_pos c11] at H
   have c11b0 : (t211 != t198) = true:=c11
   (try (have c11b1 : decide (t211 = t198) = false:=by simpa using c11))
   (try (have c11b2 : (t211 == t198) = false:=by simpa using c11))
   (try (have c11b3 : ¬ (t211 = t198):=by simpa using c11))
   clear c11
   exact absurd (hrt_ ▸ H) (by simp)
  ·
   rw [if_neg c11] at H
   have c11b0 : (t211 != t198) = false:=by simpa using c11
   (try (have c11b1 : decide (t211 = t198) = true:=by simpa using c11))
   (try (have c11b2 : (t211 == t198) = true:=by simpa using c11))
   clear c11
   replace H:=Option.bind_eq_some_iff.mp H
   obtain ⟨⟨t212,t213,t214,t215,t218,t219,t220⟩,A120,H⟩:=H
   replace H : ((laws_eqLs.f k t199 t200 t201 t202 t205 t206 t207 t212 t213 t214 t215 t218 t219 t220).bind fun t223 => (if t223 = true then (some true) else (some false))) = some r:=H
   have A12:=Aside0.mk A120
   clear A120
   replace H:=Option.bind_eq_some_iff.mp H
   obtain ⟨t223,A130,H⟩:=H
   replace H : (if t223 = true then (some true) else (some false)) = some r:=H
   have A13:=Aside0.mk A130
   clear A130
   by_cases c14 : t223 = true
   ·
    subst c14
    have H1 : (some true) = some r:=by rw [if_pos rfl] at H;exact H
    clear H
    have H:=H1
    clear H1
    obtain rfl:=Option.some.inj H
    go_enter Try.func3,Try.ntmps3
    try go_wp2_with (first|((with_reducible refine gate_dst (N:=1) rfl ?_);refine box_event ?hg (N:=1) ?hd (cs:=#[.int .i64 a0_0,.int .i64 a0_1,.int .i64 a0_2,.slice A0_3 l0_3.length c0_3,.int .i64 a0_4,.int .i64 a0_5,.slice A0_6 l0_6.length c0_6]) (t:=25) ?hr ?_;(case hd => rfl);(case hg => rfl);(case hr => first|(go_simp;done)|(go_simp;rfl));intro gb185 hg w15 hbox hb;have n0_:=Aside0.mk (below_step (by repeat (first|(with_reducible first|exact HB.out|apply below_alloc|apply pw_below_drewN|apply below_drew1)|exact HB.out)) hb);have n1_:=Aside0.mk (hbox);have n2_:=Aside0.mk ((by rw [hg];exact (below_size (by repeat (first|(with_reducible first|exact HB.out|apply below_alloc|apply pw_below_drewN|apply below_drew1)|exact HB.out))) : w.heap.size ≤ gb185));have n3_:=Aside0.mk ((by rw [hg];exact (below_size (by repeat (first|(with_reducible first|exact HB.out|apply below_alloc|apply pw_below_drewN|apply below_drew1)|exact HB.out))) : w.heap.size ≤ gb185));clear HB;have HB:=n0_;have BK185:=n1_;have GW185:=n2_;have GE185:=n3_;clear n0_ n1_ n2_ n3_;clear hb hbox hg;have hcz16_0 : w15.cell? ⟨gb185,0,none⟩ = some (.int .i64 a0_0):=(blk_cell BK185.out 0).trans rfl;have hcz16_1 : w15.cell? ⟨gb185,1,none⟩ = some (.int .i64 a0_1):=(blk_cell BK185.out 1).trans rfl;have hcz16_2 : w15.cell? ⟨gb185,2,none⟩ = some (.int .i64 a0_2):=(blk_cell BK185.out 2).trans rfl;have hcz16_3 : w15.cell? ⟨gb185,3,none⟩ = some (.slice A0_3 l0_3.length c0_3):=(blk_cell BK185.out 3).trans rfl;have hcz16_4 : w15.cell? ⟨gb185,4,none⟩ = some (.int .i64 a0_4):=(blk_cell BK185.out 4).trans rfl;have hcz16_5 : w15.cell? ⟨gb185,5,none⟩ = some (.int .i64 a0_5):=(blk_cell BK185.out 5).trans rfl;have hcz16_6 : w15.cell? ⟨gb185,6,none⟩ = some (.slice A0_6 l0_6.length c0_6):=(blk_cell BK185.out 6).trans rfl;have hfz16_0:=blk_frozen BK185.out 0;have hfz16_1:=blk_frozen BK185.out 1;have hfz16_2:=blk_frozen BK185.out 2;have hfz16_3:=blk_frozen BK185.out 3;have hfz16_4:=blk_frozen BK185.out 4;have hfz16_5:=blk_frozen BK185.out 5;have hfz16_6:=blk_frozen BK185.out 6)|((with_reducible refine gate_callee (f:=14) rfl ?_);refine goesL_ (some 9) rfl rfl Try.func14 (by kernel_rfl) rfl #[.agg #[.int .i64 a0_0,.int .i64 a0_1,.int .i64 a0_2,.slice A0_3 l0_3.length c0_3,.int .i64 a0_4,.int .i64 a0_5,.slice A0_6 l0_6.length c0_6],.int .i64 1048576] rfl (by (try simp only [List.map_toArray,List.map_cons,List.map_nil]);first|done|rfl|(simp only [List.length_drop,List.length_take];rfl)) ?_;(with_reducible refine (laws_szLs.calls a0_0 a0_1 a0_2 _ _ l0_3 a0_4 a0_5 _ _ l0_6 1048576 t186 _ ?side1 ?side2 ?side3 ?side4 A2.out).mono ?_);(case side1 => repeat (first|exact (Kd.C_below HR0_3.out HB.out)|(with_reducible refine Kd.C_alloc ?_ _)|(with_reducible refine Kd.C_drewN ?_ _)|(with_reducible refine Kd.C_drew ?_)));(case side2 => exact HC0_3.out);(case side3 => repeat (first|exact (Kd.C_below HR0_6.out HB.out)|(with_reducible refine Kd.C_alloc ?_ _)|(with_reducible refine Kd.C_drewN ?_ _)|(with_reducible refine Kd.C_drew ?_)));(case side4 => exact HC0_6.out);rintro e w17 ⟨rfl,hb⟩;refine ⟨_,rfl,?_⟩;have n0_:=Aside0.mk (blk_below (g:=gb185) (o:=.cells #[.int .i64 a0_0,.int .i64 a0_1,.int .i64 a0_2,.slice A0_3 l0_3.length c0_3,.int .i64 a0_4,.int .i64 a0_5,.slice A0_6 l0_6.length c0_6] 25 (0,0)) (by (with_reducible repeat (first|refine blk_drewN ?_ _|refine blk_drew ?_|refine blk_alloc ?_ _));exact BK185.out) hb);have n1_:=Aside0.mk (below_step (by repeat (first|(with_reducible first|exact HB.out|apply below_alloc|apply pw_below_drewN|apply below_drew1|refine below_set ?_ GE185.out)|exact HB.out)) hb);clear BK185;clear HB;have BK185:=n0_;have HB:=n1_;clear n0_ n1_;(try clear hb);(try clear hb2);(try clear hk);(try clear hi);have hcz18_0 : w17.cell? ⟨gb185,0,none⟩ = some (.int .i64 a0_0):=(blk_cell BK185.out 0).trans rfl;have hcz18_1 : w17.cell? ⟨gb185,1,none⟩ = some (.int .i64 a0_1):=(blk_cell BK185.out 1).trans rfl;have hcz18_2 : w17.cell? ⟨gb185,2,none⟩ = some (.int .i64 a0_2):=(blk_cell BK185.out 2).trans rfl;have hcz18_3 : w17.cell? ⟨gb185,3,none⟩ = some (.slice A0_3 l0_3.length c0_3):=(blk_cell BK185.out 3).trans rfl;have hcz18_4 : w17.cell? ⟨gb185,4,none⟩ = some (.int .i64 a0_4):=(blk_cell BK185.out 4).trans rfl;have hcz18_5 : w17.cell? ⟨gb185,5,none⟩ = some (.int .i64 a0_5):=(blk_cell BK185.out 5).trans rfl;have hcz18_6 : w17.cell? ⟨gb185,6,none⟩ = some (.slice A0_6 l0_6.length c0_6):=(blk_cell BK185.out 6).trans rfl;have hfz18_0:=blk_frozen BK185.out 0;have hfz18_1:=blk_frozen BK185.out 1;have hfz18_2:=blk_frozen BK185.out 2;have hfz18_3:=blk_frozen BK185.out 3;have hfz18_4:=blk_frozen BK185.out 4;have hfz18_5:=blk_frozen BK185.out 5;have hfz18_6:=blk_frozen BK185.out 6)|((with_reducible refine gate_callee (f:=16) rfl ?_);refine goesL_ (some 13) rfl rfl Try.func16 (by kernel_rfl) rfl #[.agg #[.int .i64 a0_0,.int .i64 a0_1,.int .i64 a0_2,.slice A0_3 l0_3.length c0_3,.int .i64 a0_4,.int .i64 a0_5,.slice A0_6 l0_6.length c0_6]] rfl (by (try simp only [List.map_toArray,List.map_cons,List.map_nil]);first|done|rfl|(simp only [List.length_drop,List.length_take];rfl)) ?_;(with_reducible refine (laws_toLs.calls k a0_0 a0_1 a0_2 _ _ l0_3 a0_4 a0_5 _ _ l0_6 t187 t188 t189 t190 t193 t194 t195 _ ?side1 ?side2 ?side3 ?side4 A7.out).mono ?_);(case side1 => repeat (first|exact (Kd.C_below HR0_3.out HB.out)|(with_reducible refine Kd.C_alloc ?_ _)|(with_reducible refine Kd.C_drewN ?_ _)|(with_reducible refine Kd.C_drew ?_)));(case side2 => exact HC0_3.out);(case side3 => repeat (first|exact (Kd.C_below HR0_6.out HB.out)|(with_reducible refine Kd.C_alloc ?_ _)|(with_reducible refine Kd.C_drewN ?_ _)|(with_reducible refine Kd.C_drew ?_)));(case side4 => exact HC0_6.out);rintro e w19 ⟨v191,v196,rfl,ho0,ho1,hb⟩;refine ⟨_,rfl,?_⟩;have n0_:=Aside0.mk (Kd.R_lower ho0 (below_size (by repeat (first|(with_reducible first|exact HB.out|apply below_alloc|apply pw_below_drewN|apply below_drew1|refine below_set ?_ GE185.out)|exact HB.out))));have n1_:=Aside0.mk (Kd.R_lower ho1 (below_size (by repeat (first|(with_reducible first|exact HB.out|apply below_alloc|apply pw_below_drewN|apply below_drew1|refine below_set ?_ GE185.out)|exact HB.out))));have n2_:=Aside0.mk (blk_below (g:=gb185) (o:=.cells #[.int .i64 a0_0,.int .i64 a0_1,.int .i64 a0_2,.slice A0_3 l0_3.length c0_3,.int .i64 a0_4,.int .i64 a0_5,.slice A0_6 l0_6.length c0_6] 25 (0,0)) (by (with_reducible repeat (first|refine blk_drewN ?_ _|refine blk_drew ?_|refine blk_alloc ?_ _));exact BK185.out) hb);have n3_:=Aside0.mk (below_step (by repeat (first|(with_reducible first|exact HB.out|apply below_alloc|apply pw_below_drewN|apply below_drew1|refine below_set ?_ GE185.out)|exact HB.out)) hb);clear BK185;clear HB;have HO192:=n0_;have HO197:=n1_;have BK185:=n2_;have HB:=n3_;clear n0_ n1_ n2_ n3_;(try clear hb);(try clear hb2);(try clear hk);(try clear hi);(try clear ho0);(try clear ho1);obtain ⟨Ao20,co20,eo20⟩:=Kd.R_slice HO192.out;subst eo20;obtain ⟨Ao21,co21,eo21⟩:=Kd.R_slice HO197.out;subst eo21)|((with_reducible refine gate_callee (f:=15) rfl ?_);refine goesL_ (some 14) rfl rfl Try.func15 (by kernel_rfl) rfl #[.agg #[.int .i64 t187,.int .i64 t188,.int .i64 t189,.slice Ao20 t190.length co20,.int .i64 t193,.int .i64 t194,.slice Ao21 t195.length co21]] rfl (by (try simp only [List.map_toArray,List.map_cons,List.map_nil]);first|done|rfl|(simp only [List.length_drop,List.length_take];rfl)) ?_;(with_reducible refine (spec_LsOk.calls k t187 t188 t189 _ _ t190 t193 t194 _ _ t195 t198 _ ?side1 ?side2 ?side3 ?side4 A8.out).mono ?_);(case side1 => repeat (first|exact (Kd.R_reads' HO192.out).2.2|(with_reducible refine Kd.C_alloc ?_ _)|(with_reducible refine Kd.C_drewN ?_ _)|(with_reducible refine Kd.C_drew ?_)));(case side2 => exact (Kd.R_reads' HO192.out).2.1);(case side3 => repeat (first|exact (Kd.R_reads' HO197.out).2.2|(with_reducible refine Kd.C_alloc ?_ _)|(with_reducible refine Kd.C_drewN ?_ _)|(with_reducible refine Kd.C_drew ?_)));(case side4 => exact (Kd.R_reads' HO197.out).2.1);rintro e w22 ⟨rfl,hb⟩;refine ⟨_,rfl,?_⟩;have n0_:=Aside0.mk (Kd.R_below (by (with_reducible repeat (first|apply Kd.R_alloc|apply Kd.R_drewN|apply Kd.R_drew));exact HO192.out) hb);have n1_:=Aside0.mk (Kd.R_below (by (with_reducible repeat (first|apply Kd.R_alloc|apply Kd.R_drewN|apply Kd.R_drew));exact HO197.out) hb);have n2_:=Aside0.mk (blk_below (g:=gb185) (o:=.cells #[.int .i64 a0_0,.int .i64 a0_1,.int .i64 a0_2,.slice A0_3 l0_3.length c0_3,.int .i64 a0_4,.int .i64 a0_5,.slice A0_6 l0_6.length c0_6] 25 (0,0)) (by (with_reducible repeat (first|refine blk_drewN ?_ _|refine blk_drew ?_|refine blk_alloc ?_ _));exact BK185.out) hb);have n3_:=Aside0.mk (below_step (by repeat (first|(with_reducible first|exact HB.out|apply below_alloc|apply pw_below_drewN|apply below_drew1|refine below_set ?_ GE185.out)|exact HB.out)) hb);clear HO192;clear HO197;clear BK185;clear HB;have HO192:=n0_;have HO197:=n1_;have BK185:=n2_;have HB:=n3_;clear n0_ n1_ n2_ n3_;(try clear hb);(try clear hb2);(try clear hk);(try clear hi);have hcz23_0 : w22.cell? ⟨gb185,0,none⟩ = some (.int .i64 a0_0):=(blk_cell BK185.out 0).trans rfl;have hcz23_1 : w22.cell? ⟨gb185,1,none⟩ = some (.int .i64 a0_1):=(blk_cell BK185.out 1).trans rfl;have hcz23_2 : w22.cell? ⟨gb185,2,none⟩ = some (.int .i64 a0_2):=(blk_cell BK185.out 2).trans rfl;have hcz23_3 : w22.cell? ⟨gb185,3,none⟩ = some (.slice A0_3 l0_3.length c0_3):=(blk_cell BK185.out 3).trans rfl;have hcz23_4 : w22.cell? ⟨gb185,4,none⟩ = some (.int .i64 a0_4):=(blk_cell BK185.out 4).trans rfl;have hcz23_5 : w22.cell? ⟨gb185,5,none⟩ = some (.int .i64 a0_5):=(blk_cell BK185.out 5).trans rfl;have hcz23_6 : w22.cell? ⟨gb185,6,none⟩ = some (.slice A0_6 l0_6.length c0_6):=(blk_cell BK185.out 6).trans rfl;have hfz23_0:=blk_frozen BK185.out 0;have hfz23_1:=blk_frozen BK185.out 1;have hfz23_2:=blk_frozen BK185.out 2;have hfz23_3:=blk_frozen BK185.out 3;have hfz23_4:=blk_frozen BK185.out 4;have hfz23_5:=blk_frozen BK185.out 5;have hfz23_6:=blk_frozen BK185.out 6)|((with_reducible refine gate_callee (f:=16) rfl ?_);refine goesL_ (some 16) rfl rfl Try.func16 (by kernel_rfl) rfl #[.agg #[.int .i64 a0_0,.int .i64 a0_1,.int .i64 a0_2,.slice A0_3 l0_3.length c0_3,.int .i64 a0_4,.int .i64 a0_5,.slice A0_6 l0_6.length c0_6]] rfl (by (try simp only [List.map_toArray,List.map_cons,List.map_nil]);first|done|rfl|(simp only [List.length_drop,List.length_take];rfl)) ?_;(with_reducible refine (laws_toLs.calls k a0_0 a0_1 a0_2 _ _ l0_3 a0_4 a0_5 _ _ l0_6 t199 t200 t201 t202 t205 t206 t207 _ ?side1 ?side2 ?side3 ?side4 A9.out).mono ?_);(case side1 => repeat (first|exact (Kd.C_below HR0_3.out HB.out)|(with_reducible refine Kd.C_alloc ?_ _)|(with_reducible refine Kd.C_drewN ?_ _)|(with_reducible refine Kd.C_drew ?_)));(case side2 => exact HC0_3.out);(case side3 => repeat (first|exact (Kd.C_below HR0_6.out HB.out)|(with_reducible refine Kd.C_alloc ?_ _)|(with_reducible refine Kd.C_drewN ?_ _)|(with_reducible refine Kd.C_drew ?_)));(case side4 => exact HC0_6.out);rintro e w24 ⟨v203,v208,rfl,ho0,ho1,hb⟩;refine ⟨_,rfl,?_⟩;have n0_:=Aside0.mk (Kd.R_lower ho0 (below_size (by repeat (first|(with_reducible first|exact HB.out|apply below_alloc|apply pw_below_drewN|apply below_drew1|refine below_set ?_ GE185.out)|exact HB.out))));have n1_:=Aside0.mk (Kd.R_lower ho1 (below_size (by repeat (first|(with_reducible first|exact HB.out|apply below_alloc|apply pw_below_drewN|apply below_drew1|refine below_set ?_ GE185.out)|exact HB.out))));have n2_:=Aside0.mk (blk_below (g:=gb185) (o:=.cells #[.int .i64 a0_0,.int .i64 a0_1,.int .i64 a0_2,.slice A0_3 l0_3.length c0_3,.int .i64 a0_4,.int .i64 a0_5,.slice A0_6 l0_6.length c0_6] 25 (0,0)) (by (with_reducible repeat (first|refine blk_drewN ?_ _|refine blk_drew ?_|refine blk_alloc ?_ _));exact BK185.out) hb);have n3_:=Aside0.mk (below_step (by repeat (first|(with_reducible first|exact HB.out|apply below_alloc|apply pw_below_drewN|apply below_drew1|refine below_set ?_ GE185.out)|exact HB.out)) hb);clear BK185;clear HB;(try clear HO192);(try clear HO197);have HO204:=n0_;have HO209:=n1_;have BK185:=n2_;have HB:=n3_;clear n0_ n1_ n2_ n3_;(try clear hb);(try clear hb2);(try clear hk);(try clear hi);(try clear ho0);(try clear ho1))|((with_reducible refine gate_dst (N:=5) rfl ?_);refine box_event ?hg (N:=5) ?hd (cs:=#[.int .i64 0,.int .i64 0,.int .i64 0,.slice none 0 0,.int .i64 0,.int .i64 0,.slice none 0 0]) (t:=30) ?hr ?_;(case hd => rfl);(case hg => rfl);(case hr => first|(go_simp;done)|(go_simp;rfl));intro gb210 hg w25 hbox hb;have n0_:=Aside0.mk (Kd.R_below (by (with_reducible repeat (first|apply Kd.R_alloc|apply Kd.R_drewN|apply Kd.R_drew));exact HO204.out) hb);have n1_:=Aside0.mk (Kd.R_below (by (with_reducible repeat (first|apply Kd.R_alloc|apply Kd.R_drewN|apply Kd.R_drew));exact HO209.out) hb);have n2_:=Aside0.mk (blk_below (g:=gb185) (o:=.cells #[.int .i64 a0_0,.int .i64 a0_1,.int .i64 a0_2,.slice A0_3 l0_3.length c0_3,.int .i64 a0_4,.int .i64 a0_5,.slice A0_6 l0_6.length c0_6] 25 (0,0)) (by (with_reducible repeat (first|refine blk_drewN ?_ _|refine blk_drew ?_|refine blk_alloc ?_ _));exact BK185.out) hb);have n3_:=Aside0.mk (below_step (by repeat (first|(with_reducible first|exact HB.out|apply below_alloc|apply pw_below_drewN|apply below_drew1|refine below_set ?_ GE185.out)|exact HB.out)) hb);have n4_:=Aside0.mk (hbox);have n5_:=Aside0.mk ((by rw [hg];exact (below_size (by repeat (first|(with_reducible first|exact HB.out|apply below_alloc|apply pw_below_drewN|apply below_drew1|refine below_set ?_ GE185.out)|exact HB.out))) : w.heap.size ≤ gb210));have n6_:=Aside0.mk ((by rw [hg];exact (below_size (by repeat (first|(with_reducible first|exact HB.out|apply below_alloc|apply pw_below_drewN|apply below_drew1|refine below_set ?_ GE185.out)|exact HB.out))) : w.heap.size ≤ gb210));have n7_:=Aside0.mk ((by rw [hg];exact Nat.ne_of_lt (blk_lt (g:=gb185) (o:=.cells #[.int .i64 a0_0,.int .i64 a0_1,.int .i64 a0_2,.slice A0_3 l0_3.length c0_3,.int .i64 a0_4,.int .i64 a0_5,.slice A0_6 l0_6.length c0_6] 25 (0,0)) (by (with_reducible repeat (first|refine blk_drewN ?_ _|refine blk_drew ?_|refine blk_alloc ?_ _));exact BK185.out)) : gb185 ≠ gb210));have n8_:=Aside0.mk ((by rw [hg];exact Nat.ne_of_gt (blk_lt (g:=gb185) (o:=.cells #[.int .i64 a0_0,.int .i64 a0_1,.int .i64 a0_2,.slice A0_3 l0_3.length c0_3,.int .i64 a0_4,.int .i64 a0_5,.slice A0_6 l0_6.length c0_6] 25 (0,0)) (by (with_reducible repeat (first|refine blk_drewN ?_ _|refine blk_drew ?_|refine blk_alloc ?_ _));exact BK185.out)) : gb210 ≠ gb185));clear HO204;clear HO209;clear BK185;clear HB;have HO204:=n0_;have HO209:=n1_;have BK185:=n2_;have HB:=n3_;have BK210:=n4_;have GW210:=n5_;have GE210:=n6_;have NB185_210:=n7_;have NB210_185:=n8_;clear n0_ n1_ n2_ n3_ n4_ n5_ n6_ n7_ n8_;clear hb hbox hg;have hnb26:=NB210_185.out;have hnc26:=NB185_210.out;have hcz27_0 : w25.cell? ⟨gb210,0,none⟩ = some (.int .i64 0):=(blk_cell BK210.out 0).trans rfl;have hcz27_1 : w25.cell? ⟨gb210,1,none⟩ = some (.int .i64 0):=(blk_cell BK210.out 1).trans rfl;have hcz27_2 : w25.cell? ⟨gb210,2,none⟩ = some (.int .i64 0):=(blk_cell BK210.out 2).trans rfl;have hcz27_3 : w25.cell? ⟨gb210,3,none⟩ = some (.slice none 0 0):=(blk_cell BK210.out 3).trans rfl;have hcz27_4 : w25.cell? ⟨gb210,4,none⟩ = some (.int .i64 0):=(blk_cell BK210.out 4).trans rfl;have hcz27_5 : w25.cell? ⟨gb210,5,none⟩ = some (.int .i64 0):=(blk_cell BK210.out 5).trans rfl;have hcz27_6 : w25.cell? ⟨gb210,6,none⟩ = some (.slice none 0 0):=(blk_cell BK210.out 6).trans rfl;have hfz27_0:=blk_frozen BK210.out 0;have hfz27_1:=blk_frozen BK210.out 1;have hfz27_2:=blk_frozen BK210.out 2;have hfz27_3:=blk_frozen BK210.out 3;have hfz27_4:=blk_frozen BK210.out 4;have hfz27_5:=blk_frozen BK210.out 5;have hfz27_6:=blk_frozen BK210.out 6;obtain ⟨Ao28,co28,eo28⟩:=Kd.R_slice HO204.out;subst eo28;obtain ⟨Ao29,co29,eo29⟩:=Kd.R_slice HO209.out;subst eo29)|((with_reducible refine gate_callee (f:=17) rfl ?_);refine goesL_ (some 18) rfl rfl Try.func17 (by kernel_rfl) rfl #[.agg #[.int .i64 t199,.int .i64 t200,.int .i64 t201,.slice Ao28 t202.length co28,.int .i64 t205,.int .i64 t206,.slice Ao29 t207.length co29]] rfl (by (try simp only [List.map_toArray,List.map_cons,List.map_nil]);first|done|rfl|(simp only [List.length_drop,List.length_take];rfl)) ?_;(with_reducible refine (impl_LsOk.calls k t199 t200 t201 _ _ t202 t205 t206 _ _ t207 t211 _ ?side1 ?side2 ?side3 ?side4 A10.out).mono ?_);(case side1 => refine (Kd.R_reads' (e:=3) (base:=w.heap.size) (ok:=fun k_ => True) (n:=t202.length) (c:=co28) ?_).2.2;exact (by (with_reducible repeat (first|apply Kd.R_alloc|apply Kd.R_drewN|apply Kd.R_drew));exact (Kd.R_mono (Kd.R_far (p:=⟨gb210,6,none⟩) (Kd.R_far (p:=⟨gb210,5,none⟩) (Kd.R_far (p:=⟨gb210,4,none⟩) (Kd.R_far (p:=⟨gb210,3,none⟩) (Kd.R_far (p:=⟨gb210,2,none⟩) (Kd.R_far (p:=⟨gb210,1,none⟩) (Kd.R_far (p:=⟨gb210,0,none⟩) (Kd.R_types HO204.out BK210.out (by decide)) (fun _ hk => hk.2) (.int .i64 t199)) (fun _ hk => hk.2) (.int .i64 t200)) (fun _ hk => hk.2) (.int .i64 t201)) (fun _ hk => hk.2) (.slice Ao28 t202.length co28)) (fun _ hk => hk.2) (.int .i64 t205)) (fun _ hk => hk.2) (.int .i64 t206)) (fun _ hk => hk.2) (.slice Ao29 t207.length co29)) (fun _ h_ => h_.1))));(case side2 => exact (Kd.R_reads' HO204.out).2.1);(case side3 => refine (Kd.R_reads' (e:=50) (base:=w.heap.size) (ok:=fun k_ => True) (n:=t207.length) (c:=co29) ?_).2.2;exact (by (with_reducible repeat (first|apply Kd.R_alloc|apply Kd.R_drewN|apply Kd.R_drew));exact (Kd.R_mono (Kd.R_far (p:=⟨gb210,6,none⟩) (Kd.R_far (p:=⟨gb210,5,none⟩) (Kd.R_far (p:=⟨gb210,4,none⟩) (Kd.R_far (p:=⟨gb210,3,none⟩) (Kd.R_far (p:=⟨gb210,2,none⟩) (Kd.R_far (p:=⟨gb210,1,none⟩) (Kd.R_far (p:=⟨gb210,0,none⟩) (Kd.R_types HO209.out BK210.out (by decide)) (fun _ hk => hk.2) (.int .i64 t199)) (fun _ hk => hk.2) (.int .i64 t200)) (fun _ hk => hk.2) (.int .i64 t201)) (fun _ hk => hk.2) (.slice Ao28 t202.length co28)) (fun _ hk => hk.2) (.int .i64 t205)) (fun _ hk => hk.2) (.int .i64 t206)) (fun _ hk => hk.2) (.slice Ao29 t207.length co29)) (fun _ h_ => h_.1))));(case side4 => exact (Kd.R_reads' HO209.out).2.1);rintro e w30 ⟨rfl,hb⟩;refine ⟨_,rfl,?_⟩;have n0_:=Aside0.mk (Kd.R_below (by (with_reducible repeat (first|apply Kd.R_alloc|apply Kd.R_drewN|apply Kd.R_drew));exact (Kd.R_mono (Kd.R_far (p:=⟨gb210,6,none⟩) (Kd.R_far (p:=⟨gb210,5,none⟩) (Kd.R_far (p:=⟨gb210,4,none⟩) (Kd.R_far (p:=⟨gb210,3,none⟩) (Kd.R_far (p:=⟨gb210,2,none⟩) (Kd.R_far (p:=⟨gb210,1,none⟩) (Kd.R_far (p:=⟨gb210,0,none⟩) (Kd.R_types HO204.out BK210.out (by decide)) (fun _ hk => hk.2) (.int .i64 t199)) (fun _ hk => hk.2) (.int .i64 t200)) (fun _ hk => hk.2) (.int .i64 t201)) (fun _ hk => hk.2) (.slice Ao28 t202.length co28)) (fun _ hk => hk.2) (.int .i64 t205)) (fun _ hk => hk.2) (.int .i64 t206)) (fun _ hk => hk.2) (.slice Ao29 t207.length co29)) (fun _ h_ => h_.1))) hb);have n1_:=Aside0.mk (Kd.R_below (by (with_reducible repeat (first|apply Kd.R_alloc|apply Kd.R_drewN|apply Kd.R_drew));exact (Kd.R_mono (Kd.R_far (p:=⟨gb210,6,none⟩) (Kd.R_far (p:=⟨gb210,5,none⟩) (Kd.R_far (p:=⟨gb210,4,none⟩) (Kd.R_far (p:=⟨gb210,3,none⟩) (Kd.R_far (p:=⟨gb210,2,none⟩) (Kd.R_far (p:=⟨gb210,1,none⟩) (Kd.R_far (p:=⟨gb210,0,none⟩) (Kd.R_types HO209.out BK210.out (by decide)) (fun _ hk => hk.2) (.int .i64 t199)) (fun _ hk => hk.2) (.int .i64 t200)) (fun _ hk => hk.2) (.int .i64 t201)) (fun _ hk => hk.2) (.slice Ao28 t202.length co28)) (fun _ hk => hk.2) (.int .i64 t205)) (fun _ hk => hk.2) (.int .i64 t206)) (fun _ hk => hk.2) (.slice Ao29 t207.length co29)) (fun _ h_ => h_.1))) hb);have n2_:=Aside0.mk (blk_below (g:=gb185) (o:=.cells #[.int .i64 a0_0,.int .i64 a0_1,.int .i64 a0_2,.slice A0_3 l0_3.length c0_3,.int .i64 a0_4,.int .i64 a0_5,.slice A0_6 l0_6.length c0_6] 25 (0,0)) (by (with_reducible repeat (first|refine blk_drewN ?_ _|refine blk_drew ?_|refine blk_alloc ?_ _));refine blk_far ?_ NB185_210.out _;(with_reducible repeat (first|refine blk_drewN ?_ _|refine blk_drew ?_|refine blk_alloc ?_ _));refine blk_far ?_ NB185_210.out _;(with_reducible repeat (first|refine blk_drewN ?_ _|refine blk_drew ?_|refine blk_alloc ?_ _));refine blk_far ?_ NB185_210.out _;(with_reducible repeat (first|refine blk_drewN ?_ _|refine blk_drew ?_|refine blk_alloc ?_ _));refine blk_far ?_ NB185_210.out _;(with_reducible repeat (first|refine blk_drewN ?_ _|refine blk_drew ?_|refine blk_alloc ?_ _));refine blk_far ?_ NB185_210.out _;(with_reducible repeat (first|refine blk_drewN ?_ _|refine blk_drew ?_|refine blk_alloc ?_ _));refine blk_far ?_ NB185_210.out _;(with_reducible repeat (first|refine blk_drewN ?_ _|refine blk_drew ?_|refine blk_alloc ?_ _));refine blk_far ?_ NB185_210.out _;(with_reducible repeat (first|refine blk_drewN ?_ _|refine blk_drew ?_|refine blk_alloc ?_ _));exact BK185.out) hb);have n3_:=Aside0.mk (blk_below (g:=gb210) (o:=.cells #[.int .i64 t199,.int .i64 t200,.int .i64 t201,.slice Ao28 t202.length co28,.int .i64 t205,.int .i64 t206,.slice Ao29 t207.length co29] 30 (0,0)) (by (with_reducible repeat (first|refine blk_drewN ?_ _|refine blk_drew ?_|refine blk_alloc ?_ _));refine blk_put (cs:=#[.int .i64 t199,.int .i64 t200,.int .i64 t201,.slice Ao28 t202.length co28,.int .i64 t205,.int .i64 t206,.slice none 0 0]) ?_ 6 _ rfl;(with_reducible repeat (first|refine blk_drewN ?_ _|refine blk_drew ?_|refine blk_alloc ?_ _));refine blk_put (cs:=#[.int .i64 t199,.int .i64 t200,.int .i64 t201,.slice Ao28 t202.length co28,.int .i64 t205,.int .i64 0,.slice none 0 0]) ?_ 5 _ rfl;(with_reducible repeat (first|refine blk_drewN ?_ _|refine blk_drew ?_|refine blk_alloc ?_ _));refine blk_put (cs:=#[.int .i64 t199,.int .i64 t200,.int .i64 t201,.slice Ao28 t202.length co28,.int .i64 0,.int .i64 0,.slice none 0 0]) ?_ 4 _ rfl;(with_reducible repeat (first|refine blk_drewN ?_ _|refine blk_drew ?_|refine blk_alloc ?_ _));refine blk_put (cs:=#[.int .i64 t199,.int .i64 t200,.int .i64 t201,.slice none 0 0,.int .i64 0,.int .i64 0,.slice none 0 0]) ?_ 3 _ rfl;(with_reducible repeat (first|refine blk_drewN ?_ _|refine blk_drew ?_|refine blk_alloc ?_ _));refine blk_put (cs:=#[.int .i64 t199,.int .i64 t200,.int .i64 0,.slice none 0 0,.int .i64 0,.int .i64 0,.slice none 0 0]) ?_ 2 _ rfl;(with_reducible repeat (first|refine blk_drewN ?_ _|refine blk_drew ?_|refine blk_alloc ?_ _));refine blk_put (cs:=#[.int .i64 t199,.int .i64 0,.int .i64 0,.slice none 0 0,.int .i64 0,.int .i64 0,.slice none 0 0]) ?_ 1 _ rfl;(with_reducible repeat (first|refine blk_drewN ?_ _|refine blk_drew ?_|refine blk_alloc ?_ _));refine blk_put (cs:=#[.int .i64 0,.int .i64 0,.int .i64 0,.slice none 0 0,.int .i64 0,.int .i64 0,.slice none 0 0]) ?_ 0 _ rfl;(with_reducible repeat (first|refine blk_drewN ?_ _|refine blk_drew ?_|refine blk_alloc ?_ _));exact BK210.out) hb);have n4_:=Aside0.mk (below_step (by repeat (first|(with_reducible first|exact HB.out|apply below_alloc|apply pw_below_drewN|apply below_drew1|refine below_set ?_ GE185.out|refine below_set ?_ GE210.out)|exact HB.out)) hb);clear HO204;clear HO209;clear BK185;clear BK210;clear HB;have HO204:=n0_;have HO209:=n1_;have BK185:=n2_;have BK210:=n3_;have HB:=n4_;clear n0_ n1_ n2_ n3_ n4_;(try clear hb);(try clear hb2);(try clear hk);(try clear hi)))
    have n0_:=Aside0.mk (Kd.R_drew HO204.out)
    have n1_:=Aside0.mk (Kd.R_drew HO209.out)
    have n2_:=Aside0.mk (blk_drew BK185.out)
    have n3_:=Aside0.mk (blk_drew BK210.out)
    have n4_:=Aside0.mk (below_drew1 HB.out)
    clear HO204
    clear HO209
    clear BK185
    clear BK210
    clear HB
    have HO204:=n0_
    have HO209:=n1_
    have BK185:=n2_
    have BK210:=n3_
    have HB:=n4_
    clear n0_ n1_ n2_ n3_ n4_
    refine start_ (n:=5) (S:=fun w' => w'.cell? ⟨gb210,0,none⟩ = some (.int .i64 t199) ∧ w'.cell? ⟨gb210,1,none⟩ = some (.int .i64 t200) ∧ w'.cell? ⟨gb210,2,none⟩ = some (.int .i64 t201) ∧ w'.cell? ⟨gb210,3,none⟩ = some (.slice Ao28 t202.length co28) ∧ w'.cell? ⟨gb210,4,none⟩ = some (.int .i64 t205) ∧ w'.cell? ⟨gb210,5,none⟩ = some (.int .i64 t206) ∧ w'.cell? ⟨gb210,6,none⟩ = some (.slice Ao29 t207.length co29) ∧ w'.cell? ⟨gb185,0,none⟩ = some (.int .i64 a0_0) ∧ w'.cell? ⟨gb185,1,none⟩ = some (.int .i64 a0_1) ∧ w'.cell? ⟨gb185,2,none⟩ = some (.int .i64 a0_2) ∧ w'.cell? ⟨gb185,3,none⟩ = some (.slice A0_3 l0_3.length c0_3) ∧ w'.cell? ⟨gb185,4,none⟩ = some (.int .i64 a0_4) ∧ w'.cell? ⟨gb185,5,none⟩ = some (.int .i64 a0_5) ∧ w'.cell? ⟨gb185,6,none⟩ = some (.slice A0_6 l0_6.length c0_6)) (ds:=[]) #[F,F,F,F,F] (by kernel_rfl) rfl rfl ⟨(blk_cell BK210.out 0).trans rfl,(blk_cell BK210.out 1).trans rfl,(blk_cell BK210.out 2).trans rfl,(blk_cell BK210.out 3).trans rfl,(blk_cell BK210.out 4).trans rfl,(blk_cell BK210.out 5).trans rfl,(blk_cell BK210.out 6).trans rfl,(blk_cell BK185.out 0).trans rfl,(blk_cell BK185.out 1).trans rfl,(blk_cell BK185.out 2).trans rfl,(blk_cell BK185.out 3).trans rfl,(blk_cell BK185.out 4).trans rfl,(blk_cell BK185.out 5).trans rfl,(blk_cell BK185.out 6).trans rfl⟩ (fun hHeld => ?_)
    generalize w30.drew = w31 at HO204 HO209 BK185 BK210 HB hHeld ⊢
    refine take_ (i:=0) (N:=some 22) (v:=?_) (a':=?_) #[T,F,F,F,F] rfl rfl (by kernel_rfl) (fun _ _ _ h => h) (Or.inl ⟨by rfl,?_⟩) hHeld ?_ ?_
    rotate_left
    ·
     rintro w' ⟨s0,s1,s2,s3,s4,s5,s6,s7,s8,s9,s10,s11,s12,s13⟩
     go_simp
     with_reducible rfl
    rotate_left
    ·
     simp only [Act.put,List.setIfInBounds_toArray,List.set_cons_zero,List.set_cons_succ,i64_w,i32_w]
     rfl
    refine take_ (i:=1) (N:=some 23) (v:=?_) (a':=?_) #[T,T,F,F,F] rfl rfl (by kernel_rfl) (fun _ _ _ h => h) (Or.inl ⟨by rfl,?_⟩) hHeld ?_ ?_
    rotate_left
    ·
     rintro w' ⟨s0,s1,s2,s3,s4,s5,s6,s7,s8,s9,s10,s11,s12,s13⟩
     go_simp
     with_reducible rfl
    rotate_left
    ·
     simp only [Act.put,List.setIfInBounds_toArray,List.set_cons_zero,List.set_cons_succ,i64_w,i32_w]
     rfl
    refine one_ (i:=2) (N:=some 24) #[T,T,T,F,F] rfl rfl (by kernel_rfl) (by decide) (fun K hK => ?_)
    refine goes_ Try.func16 (by kernel_rfl) rfl #[.agg #[.int .i64 a0_0,.int .i64 a0_1,.int .i64 a0_2,.slice A0_3 l0_3.length c0_3,.int .i64 a0_4,.int .i64 a0_5,.slice A0_6 l0_6.length c0_6]] (by rfl) rfl rfl (by (try simp only [List.map_toArray,List.map_cons,List.map_nil]);first|done|rfl|(simp only [List.length_drop,List.length_take];rfl)) ?_
    with_reducible refine (laws_toLs.calls k a0_0 a0_1 a0_2 _ _ l0_3 a0_4 a0_5 _ _ l0_6 t212 t213 t214 t215 t218 t219 t220 _ ?side1 ?side2 ?side3 ?side4 A12.out).mono ?_
    (case side1 => repeat (first|exact (Kd.C_below HR0_3.out HB.out)|(with_reducible refine Kd.C_alloc ?_ _)|(with_reducible refine Kd.C_drewN ?_ _)|(with_reducible refine Kd.C_drew ?_)))
    (case side2 => exact HC0_3.out)
    (case side3 => repeat (first|exact (Kd.C_below HR0_6.out HB.out)|(with_reducible refine Kd.C_alloc ?_ _)|(with_reducible refine Kd.C_drewN ?_ _)|(with_reducible refine Kd.C_drew ?_)))
    (case side4 => exact HC0_6.out)
    rintro e w32 ⟨v216,v221,rfl,ho0,ho1,hb⟩
    refine ⟨_,rfl,?_⟩
    have n0_:=Aside0.mk (Kd.R_elder' (by (with_reducible repeat (first|apply Kd.R_alloc|apply Kd.R_drewN|apply Kd.R_drew));exact HO204.out) (Kd.R_base ho0) hb)
    have n1_:=Aside0.mk (Kd.R_elder' (by (with_reducible repeat (first|apply Kd.R_alloc|apply Kd.R_drewN|apply Kd.R_drew));exact HO209.out) (Kd.R_base ho1) hb)
    have n2_:=Aside0.mk (Kd.R_lower (Kd.R_new' ho0 (Kd.R_lt (by (with_reducible repeat (first|apply Kd.R_alloc|apply Kd.R_drewN|apply Kd.R_drew));exact HO204.out))) (below_size (by repeat (first|(with_reducible first|exact HB.out|apply below_alloc|apply pw_below_drewN|apply below_drew1|refine below_set ?_ GE185.out|refine below_set ?_ GE210.out)|exact HB.out))))
    have n3_:=Aside0.mk (Kd.R_lower (Kd.R_new' ho1 (Kd.R_lt (by (with_reducible repeat (first|apply Kd.R_alloc|apply Kd.R_drewN|apply Kd.R_drew));exact HO209.out))) (below_size (by repeat (first|(with_reducible first|exact HB.out|apply below_alloc|apply pw_below_drewN|apply below_drew1|refine below_set ?_ GE185.out|refine below_set ?_ GE210.out)|exact HB.out))))
    have n4_:=Aside0.mk (blk_below (g:=gb185) (o:=.cells #[.int .i64 a0_0,.int .i64 a0_1,.int .i64 a0_2,.slice A0_3 l0_3.length c0_3,.int .i64 a0_4,.int .i64 a0_5,.slice A0_6 l0_6.length c0_6] 25 (0,0)) (by (with_reducible repeat (first|refine blk_drewN ?_ _|refine blk_drew ?_|refine blk_alloc ?_ _));exact BK185.out) hb)
    have n5_:=Aside0.mk (blk_below (g:=gb210) (o:=.cells #[.int .i64 t199,.int .i64 t200,.int .i64 t201,.slice Ao28 t202.length co28,.int .i64 t205,.int .i64 t206,.slice Ao29 t207.length co29] 30 (0,0)) (by (with_reducible repeat (first|refine blk_drewN ?_ _|refine blk_drew ?_|refine blk_alloc ?_ _));exact BK210.out) hb)
    have n6_:=Aside0.mk (below_step (by repeat (first|(with_reducible first|exact HB.out|apply below_alloc|apply pw_below_drewN|apply below_drew1|refine below_set ?_ GE185.out|refine below_set ?_ GE210.out)|exact HB.out)) hb)
    clear HO204
    clear HO209
    clear BK185
    clear BK210
    clear HB
    have HO204:=n0_
    have HO209:=n1_
    have HO217:=n2_
    have HO222:=n3_
    have BK185:=n4_
    have BK210:=n5_
    have HB:=n6_
    clear n0_ n1_ n2_ n3_ n4_ n5_ n6_
    (try clear hb)
    (try clear hb2)
    (try clear hk)
    (try clear hi)
    (try clear ho0)
    (try clear ho1)
    obtain ⟨Ao33,co33,eo33⟩:=Kd.R_slice HO217.out
    (first|subst eo33|(injection eo33 with f1_ f2_ f3_;have f4_:=f1_.symm;have f5_:=f3_.symm;clear f1_ f2_ f3_;subst f4_;subst f5_))
    obtain ⟨Ao34,co34,eo34⟩:=Kd.R_slice HO222.out
    (first|subst eo34|(injection eo34 with f1_ f2_ f3_;have f4_:=f1_.symm;have f5_:=f3_.symm;clear f1_ f2_ f3_;subst f4_;subst f5_))
    refine hK.out _ _ ⟨(blk_cell BK210.out 0).trans rfl,(blk_cell BK210.out 1).trans rfl,(blk_cell BK210.out 2).trans rfl,(blk_cell BK210.out 3).trans rfl,(blk_cell BK210.out 4).trans rfl,(blk_cell BK210.out 5).trans rfl,(blk_cell BK210.out 6).trans rfl,(blk_cell BK185.out 0).trans rfl,(blk_cell BK185.out 1).trans rfl,(blk_cell BK185.out 2).trans rfl,(blk_cell BK185.out 3).trans rfl,(blk_cell BK185.out 4).trans rfl,(blk_cell BK185.out 5).trans rfl,(blk_cell BK185.out 6).trans rfl⟩ (fun hHeld => ?_)
    clear hK K
    refine norm_ (a':=?_) ?_ ?_
    rotate_left
    ·
     show Act.put _ (some 24) _ = _
     simp only [Act.put,List.setIfInBounds_toArray,List.set_cons_zero,List.set_cons_succ,i64_w,i32_w]
     rfl
    refine one_ (i:=3) (N:=some 25) #[T,T,T,T,F] rfl rfl (by kernel_rfl) (by decide) (fun K hK => ?_)
    refine goes_ Try.func18 (by kernel_rfl) rfl #[.agg #[.int .i64 t199,.int .i64 t200,.int .i64 t201,.slice Ao28 t202.length co28,.int .i64 t205,.int .i64 t206,.slice Ao29 t207.length co29],.agg #[.int .i64 t212,.int .i64 t213,.int .i64 t214,.slice Ao33 t215.length co33,.int .i64 t218,.int .i64 t219,.slice Ao34 t220.length co34]] (by rfl) rfl rfl (by (try simp only [List.map_toArray,List.map_cons,List.map_nil]);first|done|rfl|(simp only [List.length_drop,List.length_take];rfl)) ?_
    with_reducible refine (laws_eqLs.calls k t199 t200 t201 _ _ t202 t205 t206 _ _ t207 t212 t213 t214 _ _ t215 t218 t219 _ _ t220 true _ ?side1 ?side2 ?side3 ?side4 ?side5 ?side6 ?side7 ?side8 A13.out).mono ?_
    (case side1 => repeat (first|exact (Kd.R_reads' HO204.out).2.2|(with_reducible refine Kd.C_alloc ?_ _)|(with_reducible refine Kd.C_drewN ?_ _)|(with_reducible refine Kd.C_drew ?_)))
    (case side2 => exact (Kd.R_reads' HO204.out).2.1)
    (case side3 => repeat (first|exact (Kd.R_reads' HO209.out).2.2|(with_reducible refine Kd.C_alloc ?_ _)|(with_reducible refine Kd.C_drewN ?_ _)|(with_reducible refine Kd.C_drew ?_)))
    (case side4 => exact (Kd.R_reads' HO209.out).2.1)
    (case side5 => repeat (first|exact (Kd.R_reads' HO217.out).2.2|(with_reducible refine Kd.C_alloc ?_ _)|(with_reducible refine Kd.C_drewN ?_ _)|(with_reducible refine Kd.C_drew ?_)))
    (case side6 => exact (Kd.R_reads' HO217.out).2.1)
    (case side7 => repeat (first|exact (Kd.R_reads' HO222.out).2.2|(with_reducible refine Kd.C_alloc ?_ _)|(with_reducible refine Kd.C_drewN ?_ _)|(with_reducible refine Kd.C_drew ?_)))
    (case side8 => exact (Kd.R_reads' HO222.out).2.1)
    rintro e w35 ⟨rfl,hb⟩
    refine ⟨_,rfl,?_⟩
    have n0_:=Aside0.mk (Kd.R_below (by (with_reducible repeat (first|apply Kd.R_alloc|apply Kd.R_drewN|apply Kd.R_drew));exact HO204.out) hb)
    have n1_:=Aside0.mk (Kd.R_below (by (with_reducible repeat (first|apply Kd.R_alloc|apply Kd.R_drewN|apply Kd.R_drew));exact HO209.out) hb)
    have n2_:=Aside0.mk (Kd.R_below (by (with_reducible repeat (first|apply Kd.R_alloc|apply Kd.R_drewN|apply Kd.R_drew));exact HO217.out) hb)
    have n3_:=Aside0.mk (Kd.R_below (by (with_reducible repeat (first|apply Kd.R_alloc|apply Kd.R_drewN|apply Kd.R_drew));exact HO222.out) hb)
    have n4_:=Aside0.mk (blk_below (g:=gb185) (o:=.cells #[.int .i64 a0_0,.int .i64 a0_1,.int .i64 a0_2,.slice A0_3 l0_3.length c0_3,.int .i64 a0_4,.int .i64 a0_5,.slice A0_6 l0_6.length c0_6] 25 (0,0)) (by (with_reducible repeat (first|refine blk_drewN ?_ _|refine blk_drew ?_|refine blk_alloc ?_ _));exact BK185.out) hb)
    have n5_:=Aside0.mk (blk_below (g:=gb210) (o:=.cells #[.int .i64 t199,.int .i64 t200,.int .i64 t201,.slice Ao28 t202.length co28,.int .i64 t205,.int .i64 t206,.slice Ao29 t207.length co29] 30 (0,0)) (by (with_reducible repeat (first|refine blk_drewN ?_ _|refine blk_drew ?_|refine blk_alloc ?_ _));exact BK210.out) hb)
    have n6_:=Aside0.mk (below_step (by repeat (first|(with_reducible first|exact HB.out|apply below_alloc|apply pw_below_drewN|apply below_drew1|refine below_set ?_ GE185.out|refine below_set ?_ GE210.out)|exact HB.out)) hb)
    clear HO204
    clear HO209
    clear HO217
    clear HO222
    clear BK185
    clear BK210
    clear HB
    have HO204:=n0_
    have HO209:=n1_
    have HO217:=n2_
    have HO222:=n3_
    have BK185:=n4_
    have BK210:=n5_
    have HB:=n6_
    clear n0_ n1_ n2_ n3_ n4_ n5_ n6_
    (try clear hb)
    (try clear hb2)
    (try clear hk)
    (try clear hi)
    refine hK.out _ _ ⟨(blk_cell BK210.out 0).trans rfl,(blk_cell BK210.out 1).trans rfl,(blk_cell BK210.out 2).trans rfl,(blk_cell BK210.out 3).trans rfl,(blk_cell BK210.out 4).trans rfl,(blk_cell BK210.out 5).trans rfl,(blk_cell BK210.out 6).trans rfl,(blk_cell BK185.out 0).trans rfl,(blk_cell BK185.out 1).trans rfl,(blk_cell BK185.out 2).trans rfl,(blk_cell BK185.out 3).trans rfl,(blk_cell BK185.out 4).trans rfl,(blk_cell BK185.out 5).trans rfl,(blk_cell BK185.out 6).trans rfl⟩ (fun hHeld => ?_)
    clear hK K
    refine norm_ (a':=?_) ?_ ?_
    rotate_left
    ·
     show Act.put _ (some 25) _ = _
     simp only [Act.put,List.setIfInBounds_toArray,List.set_cons_zero,List.set_cons_succ,i64_w,i32_w]
     rfl
    refine pure_ (i:=4) (N:=some 26) (v:=?_) (a':=?_) #[T,T,T,T,T] rfl rfl (by kernel_rfl) (fun _ _ _ h => h) (Or.inl ⟨by rfl,?_⟩) ?_ ?_
    rotate_left
    ·
     intro w'
     go_simp
     with_reducible rfl
    rotate_left
    ·
     simp only [Act.put,List.setIfInBounds_toArray,List.set_cons_zero,List.set_cons_succ,i64_w,i32_w]
     rfl
    refine done_ (by kernel_rfl) ?_
    try go_wp2
    go_ret
    exact ⟨by first|rfl|(simp [errW_none,errW_some] <;> rfl)|(simp [*,errW_none,errW_some] <;> rfl),by repeat (first|(with_reducible first|exact HB.out|apply below_alloc|apply pw_below_drewN|apply below_drew1|refine below_set ?_ GE185.out|refine below_set ?_ GE210.out)|exact HB.out)⟩
   ·
    replace c14:=Bool.eq_false_iff.mpr c14
    subst c14
    have H1 : (some false) = some r:=by rw [if_neg (show ¬ (false = true) by decide)] at H;exact H
    clear H
    have H:=H1
    clear H1
    exact absurd (hrt_ ▸ H) (by simp)
def laws_FnExactLsOk.Pure : Prop:=∀ (a0_0 : Int) (a0_1 : Int) (a0_2 : Int) (l0_3 : List Int) (a0_4 : Int) (a0_5 : Int) (l0_6 : List (S68)),(((Lit.int .i64 a0_0).wf = true) ∧ ((Lit.int .i64 a0_1).wf = true) ∧ ((Lit.int .i64 a0_2).wf = true) ∧ (l0_3.length * 8 ≤ 140737488351232 ∧ l0_3.length ≤ maxLen ∧ ∀ x3 ∈ l0_3,(Lit.int .i64 x3).wf = true) ∧ ((Lit.int .i64 a0_4).wf = true) ∧ ((Lit.int .i64 a0_5).wf = true) ∧ (l0_6.length * 48 ≤ 140737488351232 ∧ l0_6.length ≤ maxLen ∧ ∀ x68 ∈ l0_6,(True) ∧ ((Lit.int .i64 x68.f1).wf = true) ∧ (True) ∧ ((Lit.int .i64 x68.f3).wf = true) ∧ ((Lit.int .i64 x68.f4).wf = true) ∧ ((Lit.int .i64 x68.f5).wf = true))) → ∃ k,laws_FnExactLsOk.f k a0_0 a0_1 a0_2 l0_3 a0_4 a0_5 l0_6 = some true
end Go.Proofs.Ytnldanonpdijgaa.P
