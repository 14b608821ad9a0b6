-- Ours: printed or written for this claim; cut to what the theorem needs.
import Derived.Test.YtipolbckgifnbaaZPx0
import Derived.Test.YtipolbckgifnbaaZPx3
import Derived.Test.YtipolbckgifnbaaZPx7
namespace Go.Proofs.Ytipolbckgifnbaa.P
open Go.RowKit Go.Proofs.YtipolbckgifnbaaW.PrintWords Go.Proofs.YtipolbckgifnbaaW.PrintLast Go.Proofs.YtipolbckgifnbaaW.PrintMore
attribute [local go_sem] max2_int min2_int max_two min_two max_three min_three max_four min_four
set_option linter.unusedVariables false
set_option linter.unusedSimpArgs false
mutual
def spec_MirrorPut.j0 : Nat → ByteArray → ByteArray → ByteArray → Int → Bool → Int → Int → ByteArray → Option (ByteArray × ByteArray)
  | 0,_,_,_,_,_,_,_,_ => none
  | k + 1,x0,x1,x2,x3,x11,x12,x236000,x236001 => (spec_ShowCopy.f k x12 x2).bind fun t236 => (if t236.toList = ([] : List UInt8) then (spec_MirrorPut.j1 k x0 x1 x3 x11 t236 true x236000 x236001) else (spec_MirrorPut.j1 k x0 x1 x3 x11 t236 (decide (x3 < 1)) x236000 x236001))
def spec_MirrorPut.j1 : Nat → ByteArray → ByteArray → Int → Bool → ByteArray → Bool → Int → ByteArray → Option (ByteArray × ByteArray)
  | 0,_,_,_,_,_,_,_,_ => none
  | k + 1,x0,x1,x3,x11,x13,x35,x236000,x236001 => if x35 = true then (some (x0,x1)) else ((spec_ShowCopy.f k x236000 x236001).bind fun t237 => (if x11 = true then (if x1.toList = t237.toList then (spec_MirrorPut.j2 k x0 x1 x3 x13 (x0.toList != t237.toList)) else (spec_MirrorPut.j2 k x0 x1 x3 x13 false)) else (spec_MirrorPut.j2 k x0 x1 x3 x13 false)))
def spec_MirrorPut.j2 : Nat → ByteArray → ByteArray → Int → ByteArray → Bool → Option (ByteArray × ByteArray)
  | 0,_,_,_,_,_ => none
  | k + 1,x0,x1,x3,x13,x15 => if x3 ≥ 2 then (some (x13,x13)) else (if x15 = true then (some (x13,x1)) else (some (x0,x13)))
end
def spec_MirrorPut.f (k : Nat) (a0 : ByteArray) (a1 : ByteArray) (a2 : ByteArray) (a3 : Int) : Option (ByteArray × ByteArray):=(spec_MirrorRead.f k a0 a1).bind fun bt232 => (if bt232.2.2 = true then (spec_MirrorPut.j0 k a0 a1 a2 a3 bt232.2.2 (wrap64 (bt232.1 + 1)) bt232.1 bt232.2.1) else (spec_MirrorPut.j0 k a0 a1 a2 a3 bt232.2.2 1 bt232.1 bt232.2.1))
set_option maxHeartbeats 8000000 in
set_option maxRecDepth 100000 in
theorem spec_MirrorPut.calls (k : Nat) (a0 : ByteArray) (a1 : ByteArray) (a2 : ByteArray) (a3 : Int) (r1 : ByteArray) (r2 : ByteArray) (w : World) (h : spec_MirrorPut.f k a0 a1 a2 a3 = some (r1,r2)) :
  Calls Try.prog 20 #[.string a0,.string a1,.string a2,.int .i64 a3] w fun e w' => e = .returned (.tuple #[.string r1,.string r2]) ∧ Below w.heap.size w w':=by
 have hu26:=Try.underlying26
 have HB:=Aside0.mk (Below.refl w.heap.size w)
 have H : ((spec_MirrorRead.f k a0 a1).bind fun bt232 => (if bt232.2.2 = true then (spec_MirrorPut.j0 k a0 a1 a2 a3 bt232.2.2 (wrap64 (bt232.1 + 1)) bt232.1 bt232.2.1) else (spec_MirrorPut.j0 k a0 a1 a2 a3 bt232.2.2 1 bt232.1 bt232.2.1))) = some (r1,r2):=h
 clear h
 replace H:=Option.bind_eq_some_iff.mp H
 obtain ⟨⟨t232,t233,t234⟩,A50,H⟩:=H
 replace H : (if t234 = true then (spec_MirrorPut.j0 k a0 a1 a2 a3 t234 (wrap64 (t232 + 1)) t232 t233) else (spec_MirrorPut.j0 k a0 a1 a2 a3 t234 1 t232 t233)) = some (r1,r2):=H
 have A5:=Aside0.mk A50
 clear A50
 have HC6:=Aside0.mk H
 clear H
 go_enter Try.func20,Try.ntmps20
 go_upto_if 22 with (first|((with_reducible refine gate_callee (f:=16) rfl ?_);refine goesL_ (some 19) rfl rfl Try.func16 (by kernel_rfl) rfl #[.string a0,.string a1] rfl (by (try simp only [List.map_toArray,List.map_cons,List.map_nil]);first|done|rfl|(simp only [List.length_drop,List.length_take];rfl)) ?_;(with_reducible refine (spec_MirrorRead.calls k a0 a1 t232 t233 t234 _ A5.out).mono ?_);rintro e w7 ⟨rfl,hb⟩;refine ⟨_,rfl,?_⟩;have n0_:=Aside0.mk (below_step (by repeat (first|(with_reducible first|exact HB.out|apply below_alloc|apply pw_below_drewN|apply below_drew1)|exact HB.out)) hb);clear HB;have HB:=n0_;clear n0_;(try clear hb);(try clear hb2);(try clear hk);(try clear hi))|((with_reducible refine gate_dst (N:=10) rfl ?_);refine box_event ?hg (N:=10) ?hd (cs:=#[.int .i64 0,.string (⟨#[]⟩ : ByteArray)]) (t:=26) ?hr ?_;(case hd => rfl);(case hg => rfl);(case hr => first|(go_simp;done)|(go_simp;rfl));intro gb235 hg w8 hbox hb;have n0_:=Aside0.mk (below_step (by repeat (first|(with_reducible first|exact HB.out|apply below_alloc|apply pw_below_drewN|apply below_drew1)|exact HB.out)) hb);have n1_:=Aside0.mk (hbox);have n2_:=Aside0.mk ((by rw [hg];exact (below_size (by repeat (first|(with_reducible first|exact HB.out|apply below_alloc|apply pw_below_drewN|apply below_drew1)|exact HB.out))) : w.heap.size ≤ gb235));have n3_:=Aside0.mk ((by rw [hg];exact (below_size (by repeat (first|(with_reducible first|exact HB.out|apply below_alloc|apply pw_below_drewN|apply below_drew1)|exact HB.out))) : w.heap.size ≤ gb235));clear HB;have HB:=n0_;have BK235:=n1_;have GW235:=n2_;have GE235:=n3_;clear n0_ n1_ n2_ n3_;clear hb hbox hg;have hcz9_0 : w8.cell? ⟨gb235,0,none⟩ = some (.int .i64 0):=(blk_cell BK235.out 0).trans rfl;have hcz9_1 : w8.cell? ⟨gb235,1,none⟩ = some (.string (⟨#[]⟩ : ByteArray)):=(blk_cell BK235.out 1).trans rfl;have hfz9_0:=blk_frozen BK235.out 0;have hfz9_1:=blk_frozen BK235.out 1))
 (try simp only [Act.put,List.setIfInBounds_toArray,List.set_cons_zero,List.set_cons_succ])
 go_cut [12] (fun v12 wc => ∃ (kq : Nat) (x12_5 : Int),v12 = .int .i64 x12_5 ∧ Aside0 (spec_MirrorPut.j0 kq a0 a1 a2 a3 t234 x12_5 t232 t233 = some (r1,r2)) ∧ Aside0 (kq ≤ k) ∧ Aside0 (wc.heap[gb235]? = some (.cells #[.int .i64 t232,.string t233] 26 (0,0))) ∧ Aside0 (Below w.heap.size w wc))
 case first =>
  have H:=HC6.out
  clear HC6
  by_cases c10 : t234 = true
  ·
   subst c10
   have H1 : (spec_MirrorPut.j0 k a0 a1 a2 a3 true (wrap64 (t232 + 1)) t232 t233) = some (r1,r2):=by rw [if_pos rfl] at H;exact H
   clear H
   have H:=H1
   clear H1
   have H':=Aside0.mk H
   clear H
   have hcz11_0 : w8.cell? ⟨gb235,0,none⟩ = some (.int .i64 0):=(blk_cell BK235.out 0).trans rfl
   have hcz11_1 : w8.cell? ⟨gb235,1,none⟩ = some (.string (⟨#[]⟩ : ByteArray)):=(blk_cell BK235.out 1).trans rfl
   have hfz11_0:=blk_frozen BK235.out 0
   have hfz11_1:=blk_frozen BK235.out 1
   go_wp2
   go_meet
   case rel => exact ⟨_,(wrap64 (t232 + 1)),(by first|rfl|(simp;done)|(simp [*];done)),H',⟨by first|omega|exact Nat.le_refl _⟩,⟨by (with_reducible repeat (first|refine blk_drewN ?_ _|refine blk_drew ?_|refine blk_alloc ?_ _));refine blk_put (cs:=#[.int .i64 t232,.string (⟨#[]⟩ : ByteArray)]) ?_ 1 _ rfl;(with_reducible repeat (first|refine blk_drewN ?_ _|refine blk_drew ?_|refine blk_alloc ?_ _));refine blk_put (cs:=#[.int .i64 0,.string (⟨#[]⟩ : ByteArray)]) ?_ 0 _ rfl;(with_reducible repeat (first|refine blk_drewN ?_ _|refine blk_drew ?_|refine blk_alloc ?_ _));exact BK235.out⟩,⟨by repeat (first|(with_reducible first|exact HB.out|apply below_alloc|apply pw_below_drewN|apply below_drew1|refine below_set ?_ GE235.out)|exact HB.out)⟩⟩
  ·
   replace c10:=Bool.eq_false_iff.mpr c10
   subst c10
   have H1 : (spec_MirrorPut.j0 k a0 a1 a2 a3 false 1 t232 t233) = some (r1,r2):=by rw [if_neg (show ¬ (false = true) by decide)] at H;exact H
   clear H
   have H:=H1
   clear H1
   have H':=Aside0.mk H
   clear H
   go_wp2
   go_meet
   case rel => exact ⟨_,(1),(by first|rfl|(simp;done)|(simp [*];done)),H',⟨by first|omega|exact Nat.le_refl _⟩,⟨by (with_reducible repeat (first|refine blk_drewN ?_ _|refine blk_drew ?_|refine blk_alloc ?_ _));refine blk_put (cs:=#[.int .i64 t232,.string (⟨#[]⟩ : ByteArray)]) ?_ 1 _ rfl;(with_reducible repeat (first|refine blk_drewN ?_ _|refine blk_drew ?_|refine blk_alloc ?_ _));refine blk_put (cs:=#[.int .i64 0,.string (⟨#[]⟩ : ByteArray)]) ?_ 0 _ rfl;(with_reducible repeat (first|refine blk_drewN ?_ _|refine blk_drew ?_|refine blk_alloc ?_ _));exact BK235.out⟩,⟨by repeat (first|(with_reducible first|exact HB.out|apply below_alloc|apply pw_below_drewN|apply below_drew1|refine below_set ?_ GE235.out)|exact HB.out)⟩⟩
 case rest =>
  clear HC6
  try clear c1
  try clear c2
  try clear p2
  try clear p6
  try clear c10
  try clear hcz11_0
  try clear hcz11_1
  try clear hcz9_0
  try clear hcz9_1
  try clear hfz11_0
  try clear hfz11_1
  try clear hfz9_0
  try clear hfz9_1
  obtain ⟨kq,x12_5,rfl,HA,HJ5,BK235,HB⟩:=hcut
  cases kq with
  | zero => exact absurd HA.out (by simp [spec_MirrorPut.j0])
  | succ kj5 =>
   have H:=HA.out
   clear HA
   simp only [spec_MirrorPut.j0] at H
   replace H:=Option.bind_eq_some_iff.mp H
   obtain ⟨t236,A120,H⟩:=H
   replace H : (if t236.toList = ([] : List UInt8) then (spec_MirrorPut.j1 kj5 a0 a1 a3 t234 t236 true t232 t233) else (spec_MirrorPut.j1 kj5 a0 a1 a3 t234 t236 (decide (a3 < 1)) t232 t233)) = some (r1,r2):=H
   have A12:=Aside0.mk A120
   clear A120
   have HC13:=Aside0.mk H
   clear H
   go_upto_region 6 with (first|((with_reducible refine gate_callee (f:=10) rfl ?_);refine goesL_ (some 29) rfl rfl Try.func10 (by kernel_rfl) rfl #[.agg #[.int .i64 x12_5,.string a2]] rfl (by (try simp only [List.map_toArray,List.map_cons,List.map_nil]);first|done|rfl|(simp only [List.length_drop,List.length_take];rfl)) ?_;(with_reducible refine (spec_ShowCopy.calls kj5 x12_5 a2 t236 _ A12.out).mono ?_);rintro e w14 ⟨rfl,hb⟩;refine ⟨_,rfl,?_⟩;have n0_:=Aside0.mk (blk_below (g:=gb235) (o:=.cells #[.int .i64 t232,.string t233] 26 (0,0)) (by (with_reducible repeat (first|refine blk_drewN ?_ _|refine blk_drew ?_|refine blk_alloc ?_ _));exact BK235.out) hb);have n1_:=Aside0.mk (below_step (by repeat (first|(with_reducible first|exact HB.out|apply below_alloc|apply pw_below_drewN|apply below_drew1|refine below_set ?_ GE235.out)|exact HB.out)) hb);clear BK235;clear HB;have BK235:=n0_;have HB:=n1_;clear n0_ n1_;(try clear hb);(try clear hb2);(try clear hk);(try clear hi)))
   (try simp only [Act.put,List.setIfInBounds_toArray,List.set_cons_zero,List.set_cons_succ])
   go_cut [35] (fun v35 wc => ∃ (kq : Nat) (x35_12 : Bool),v35 = .bool x35_12 ∧ Aside0 (spec_MirrorPut.j1 kq a0 a1 a3 t234 t236 x35_12 t232 t233 = some (r1,r2)) ∧ Aside0 (kq ≤ kj5) ∧ Aside0 (wc.heap[gb235]? = some (.cells #[.int .i64 t232,.string t233] 26 (0,0))) ∧ Aside0 (Below w.heap.size w wc))
   case first =>
    have H:=HC13.out
    clear HC13
    by_cases c15 : t236.toList = ([] : List UInt8)
    ·
     rw [if_pos c15] at H
     have c15b0 : (t236.toList == ([] : List UInt8)) = true:=beq_iff_eq.mpr c15
     have c15b1 : (t236.toList != ([] : List UInt8)) = false:=bne_eq_false_iff_eq.mpr c15
     (try (have c15b2 : t236.toList.isEmpty = true:=by simpa using c15))
     clear c15
     (first|rw [c15b0]|(simp only [i64_w,i32_w];rw [c15b0])|rw [c15b2]|skip)
     have H':=Aside0.mk H
     clear H
     go_wp2
     go_meet
     case rel => exact ⟨_,(true),(by first|rfl|(simp;done)|(simp [*];done)),H',⟨by have:=HJ5.out;first|omega|exact Nat.le_refl _⟩,⟨by (with_reducible repeat (first|refine blk_drewN ?_ _|refine blk_drew ?_|refine blk_alloc ?_ _));exact BK235.out⟩,⟨by repeat (first|(with_reducible first|exact HB.out|apply below_alloc|apply pw_below_drewN|apply below_drew1|refine below_set ?_ GE235.out)|exact HB.out)⟩⟩
    ·
     rw [if_neg c15] at H
     have c15b0 : (t236.toList == ([] : List UInt8)) = false:=beq_eq_false_iff_ne.mpr c15
     have c15b1 : (t236.toList != ([] : List UInt8)) = true:=bne_iff_ne.mpr c15
     (try (have c15b2 : t236.toList.isEmpty = false:=by simpa using c15))
     (first|rw [c15b0]|(simp only [i64_w,i32_w];rw [c15b0])|rw [c15b2]|skip)
     have H':=Aside0.mk H
     clear H
     go_wp2
     go_meet
     case rel => exact ⟨_,(decide (a3 < 1)),(by first|rfl|(simp;done)|(simp [*];done)),H',⟨by have:=HJ5.out;first|omega|exact Nat.le_refl _⟩,⟨by (with_reducible repeat (first|refine blk_drewN ?_ _|refine blk_drew ?_|refine blk_alloc ?_ _));exact BK235.out⟩,⟨by repeat (first|(with_reducible first|exact HB.out|apply below_alloc|apply pw_below_drewN|apply below_drew1|refine below_set ?_ GE235.out)|exact HB.out)⟩⟩
   case rest =>
    clear HC13
    try clear c1
    try clear c2
    try clear p2
    try clear p6
    try clear c10
    try clear c15
    try clear c15b0
    try clear c15b1
    try clear c15b2
    try clear hcz11_0
    try clear hcz11_1
    try clear hcz9_0
    try clear hcz9_1
    try clear hfz11_0
    try clear hfz11_1
    try clear hfz9_0
    try clear hfz9_1
    try clear p2
    try clear p6
    obtain ⟨kq,x35_12,rfl,HA,HJ12,BK235,HB⟩:=hcut
    cases kq with
    | zero => exact absurd HA.out (by simp [spec_MirrorPut.j1])
    | succ kj12 =>
     have H:=HA.out
     clear HA
     simp only [spec_MirrorPut.j1] at H
     by_cases c16 : x35_12 = true
     ·
      subst c16
      have H1 : (some (a0,a1)) = some (r1,r2):=by rw [if_pos rfl] at H;exact H
      clear H
      have H:=H1
      clear H1
      simp only [Option.some.injEq,Prod.mk.injEq] at H
      obtain ⟨rfl,rfl⟩:=H
      go_wp2
      go_ret2
      exact ⟨by first|rfl|(simp [errW_none,errW_some] <;> rfl)|(simp [*,errW_none,errW_some] <;> rfl),by repeat (first|(with_reducible first|exact HB.out|apply below_alloc|apply pw_below_drewN|apply below_drew1|refine below_set ?_ GE235.out)|exact HB.out)⟩
     ·
      replace c16:=Bool.eq_false_iff.mpr c16
      subst c16
      have H1 : ((spec_ShowCopy.f kj12 t232 t233).bind fun t237 => (if t234 = true then (if a1.toList = t237.toList then (spec_MirrorPut.j2 kj12 a0 a1 a3 t236 (a0.toList != t237.toList)) else (spec_MirrorPut.j2 kj12 a0 a1 a3 t236 false)) else (spec_MirrorPut.j2 kj12 a0 a1 a3 t236 false))) = some (r1,r2):=by rw [if_neg (show ¬ (false = true) by decide)] at H;exact H
      clear H
      have H:=H1
      clear H1
      replace H:=Option.bind_eq_some_iff.mp H
      obtain ⟨t237,A170,H⟩:=H
      replace H : (if t234 = true then (if a1.toList = t237.toList then (spec_MirrorPut.j2 kj12 a0 a1 a3 t236 (a0.toList != t237.toList)) else (spec_MirrorPut.j2 kj12 a0 a1 a3 t236 false)) else (spec_MirrorPut.j2 kj12 a0 a1 a3 t236 false)) = some (r1,r2):=H
      have A17:=Aside0.mk A170
      clear A170
      have HC18:=Aside0.mk H
      clear H
      have hcz19_0 : wc.cell? ⟨gb235,0,none⟩ = some (.int .i64 t232):=(blk_cell BK235.out 0).trans rfl
      have hcz19_1 : wc.cell? ⟨gb235,1,none⟩ = some (.string t233):=(blk_cell BK235.out 1).trans rfl
      have hfz19_0:=blk_frozen BK235.out 0
      have hfz19_1:=blk_frozen BK235.out 1
      go_upto_region 9 with (first|((with_reducible refine gate_callee (f:=10) rfl ?_);refine goesL_ (some 39) rfl rfl Try.func10 (by kernel_rfl) rfl #[.agg #[.int .i64 t232,.string t233]] rfl (by (try simp only [List.map_toArray,List.map_cons,List.map_nil]);first|done|rfl|(simp only [List.length_drop,List.length_take];rfl)) ?_;(with_reducible refine (spec_ShowCopy.calls kj12 t232 t233 t237 _ A17.out).mono ?_);rintro e w20 ⟨rfl,hb⟩;refine ⟨_,rfl,?_⟩;have n0_:=Aside0.mk (blk_below (g:=gb235) (o:=.cells #[.int .i64 t232,.string t233] 26 (0,0)) (by (with_reducible repeat (first|refine blk_drewN ?_ _|refine blk_drew ?_|refine blk_alloc ?_ _));exact BK235.out) hb);have n1_:=Aside0.mk (below_step (by repeat (first|(with_reducible first|exact HB.out|apply below_alloc|apply pw_below_drewN|apply below_drew1|refine below_set ?_ GE235.out)|exact HB.out)) hb);clear BK235;clear HB;have BK235:=n0_;have HB:=n1_;clear n0_ n1_;(try clear hb);(try clear hb2);(try clear hk);(try clear hi)))
      (try simp only [Act.put,List.setIfInBounds_toArray,List.set_cons_zero,List.set_cons_succ])
      go_cut [15] (fun v15 wc => ∃ (kq : Nat) (x15_17 : Bool),v15 = .bool x15_17 ∧ Aside0 (spec_MirrorPut.j2 kq a0 a1 a3 t236 x15_17 = some (r1,r2)) ∧ Aside0 (kq ≤ kj12) ∧ Aside0 (wc.heap[gb235]? = some (.cells #[.int .i64 t232,.string t233] 26 (0,0))) ∧ Aside0 (Below w.heap.size w wc))
      case first =>
       have H:=HC18.out
       clear HC18
       by_cases c21 : t234 = true
       ·
        subst c21
        have H1 : (if a1.toList = t237.toList then (spec_MirrorPut.j2 kj12 a0 a1 a3 t236 (a0.toList != t237.toList)) else (spec_MirrorPut.j2 kj12 a0 a1 a3 t236 false)) = some (r1,r2):=by rw [if_pos rfl] at H;exact H
        clear H
        have H:=H1
        clear H1
        by_cases c22 : a1.toList = t237.toList
        ·
         rw [if_pos c22] at H
         have c22b0 : (a1.toList == t237.toList) = true:=beq_iff_eq.mpr c22
         have c22b1 : (a1.toList != t237.toList) = false:=bne_eq_false_iff_eq.mpr c22
         clear c22
         (first|rw [c22b0]|(simp only [i64_w,i32_w];rw [c22b0])|rw [c22b2]|skip)
         have H':=Aside0.mk H
         clear H
         go_wp2
         go_meet
         case rel => exact ⟨_,((a0.toList != t237.toList)),(by first|rfl|(simp;done)|(simp [*];done)),H',⟨by have:=HJ5.out;have:=HJ12.out;first|omega|exact Nat.le_refl _⟩,⟨by (with_reducible repeat (first|refine blk_drewN ?_ _|refine blk_drew ?_|refine blk_alloc ?_ _));exact BK235.out⟩,⟨by repeat (first|(with_reducible first|exact HB.out|apply below_alloc|apply pw_below_drewN|apply below_drew1|refine below_set ?_ GE235.out)|exact HB.out)⟩⟩
        ·
         rw [if_neg c22] at H
         have c22b0 : (a1.toList == t237.toList) = false:=beq_eq_false_iff_ne.mpr c22
         have c22b1 : (a1.toList != t237.toList) = true:=bne_iff_ne.mpr c22
         (first|rw [c22b0]|(simp only [i64_w,i32_w];rw [c22b0])|rw [c22b2]|skip)
         have H':=Aside0.mk H
         clear H
         go_wp2
         go_meet
         case rel => exact ⟨_,(false),(by first|rfl|(simp;done)|(simp [*];done)),H',⟨by have:=HJ5.out;have:=HJ12.out;first|omega|exact Nat.le_refl _⟩,⟨by (with_reducible repeat (first|refine blk_drewN ?_ _|refine blk_drew ?_|refine blk_alloc ?_ _));exact BK235.out⟩,⟨by repeat (first|(with_reducible first|exact HB.out|apply below_alloc|apply pw_below_drewN|apply below_drew1|refine below_set ?_ GE235.out)|exact HB.out)⟩⟩
       ·
        replace c21:=Bool.eq_false_iff.mpr c21
        subst c21
        have H1 : (spec_MirrorPut.j2 kj12 a0 a1 a3 t236 false) = some (r1,r2):=by rw [if_neg (show ¬ (false = true) by decide)] at H;exact H
        clear H
        have H:=H1
        clear H1
        have H':=Aside0.mk H
        clear H
        go_wp2
        go_meet
        case rel => exact ⟨_,(false),(by first|rfl|(simp;done)|(simp [*];done)),H',⟨by have:=HJ5.out;have:=HJ12.out;first|omega|exact Nat.le_refl _⟩,⟨by (with_reducible repeat (first|refine blk_drewN ?_ _|refine blk_drew ?_|refine blk_alloc ?_ _));exact BK235.out⟩,⟨by repeat (first|(with_reducible first|exact HB.out|apply below_alloc|apply pw_below_drewN|apply below_drew1|refine below_set ?_ GE235.out)|exact HB.out)⟩⟩
      case rest =>
       clear HC18
       try clear c1
       try clear c2
       try clear p2
       try clear p6
       try clear c10
       try clear c15
       try clear c15b0
       try clear c15b1
       try clear c15b2
       try clear c16
       try clear c20
       try clear c21
       try clear c22
       try clear c22b0
       try clear c22b1
       try clear c22b2
       try clear hcz11_0
       try clear hcz11_1
       try clear hcz19_0
       try clear hcz19_1
       try clear hcz9_0
       try clear hcz9_1
       try clear hfz11_0
       try clear hfz11_1
       try clear hfz19_0
       try clear hfz19_1
       try clear hfz9_0
       try clear hfz9_1
       try clear p2
       try clear p6
       obtain ⟨kq,x15_17,rfl,HA,HJ17,BK235,HB⟩:=hcut
       cases kq with
       | zero => exact absurd HA.out (by simp [spec_MirrorPut.j2])
       | succ kj17 =>
        have H:=HA.out
        clear HA
        simp only [spec_MirrorPut.j2] at H
        by_cases c23 : a3 ≥ 2
        ·
         rw [if_pos c23] at H
         have c23b0 : decide (2 ≤ a3) = true:=decide_eq_true c23
         clear c23
         simp only [Option.some.injEq,Prod.mk.injEq] at H
         obtain ⟨rfl,rfl⟩:=H
         go_wp2
         go_ret2
         exact ⟨by first|rfl|(simp [errW_none,errW_some] <;> rfl)|(simp [*,errW_none,errW_some] <;> rfl),by repeat (first|(with_reducible first|exact HB.out|apply below_alloc|apply pw_below_drewN|apply below_drew1|refine below_set ?_ GE235.out)|exact HB.out)⟩
        ·
         rw [if_neg c23] at H
         have c23b0 : decide (2 ≤ a3) = false:=decide_eq_false c23
         clear c23
         by_cases c24 : x15_17 = true
         ·
          subst c24
          have H1 : (some (t236,a1)) = some (r1,r2):=by rw [if_pos rfl] at H;exact H
          clear H
          have H:=H1
          clear H1
          simp only [Option.some.injEq,Prod.mk.injEq] at H
          obtain ⟨rfl,rfl⟩:=H
          go_wp2
          go_ret2
          exact ⟨by first|rfl|(simp [errW_none,errW_some] <;> rfl)|(simp [*,errW_none,errW_some] <;> rfl),by repeat (first|(with_reducible first|exact HB.out|apply below_alloc|apply pw_below_drewN|apply below_drew1|refine below_set ?_ GE235.out)|exact HB.out)⟩
         ·
          replace c24:=Bool.eq_false_iff.mpr c24
          subst c24
          have H1 : (some (a0,t236)) = some (r1,r2):=by rw [if_neg (show ¬ (false = true) by decide)] at H;exact H
          clear H
          have H:=H1
          clear H1
          simp only [Option.some.injEq,Prod.mk.injEq] at H
          obtain ⟨rfl,rfl⟩:=H
          go_wp2
          go_ret2
          exact ⟨by first|rfl|(simp [errW_none,errW_some] <;> rfl)|(simp [*,errW_none,errW_some] <;> rfl),by repeat (first|(with_reducible first|exact HB.out|apply below_alloc|apply pw_below_drewN|apply below_drew1|refine below_set ?_ GE235.out)|exact HB.out)⟩
end Go.Proofs.Ytipolbckgifnbaa.P
