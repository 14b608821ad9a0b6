-- Ours: printed or written for this claim; cut to what the theorem needs.
import Derived.Test.YtiejilaahkkhmaaZPx0
import Derived.Test.YtiejilaahkkhmaaZPx13
import Derived.Test.YtiejilaahkkhmaaZPx14
namespace Go.Proofs.Ytiejilaahkkhmaa.P
open Go.RowKit Go.Proofs.YtiejilaahkkhmaaW.PrintWords Go.Proofs.YtiejilaahkkhmaaW.PrintLast Go.Proofs.YtiejilaahkkhmaaW.PrintMore
attribute [local go_sem] max2_int min2_int max_two min_two max_three min_three max_four min_four
set_option linter.unusedVariables false
set_option linter.unusedSimpArgs false
def slices_IndexFunc_impl_Write_at_isDisk_3.l0 : Nat → List (S36) → Int → Int → List ByteArray → List Int → List (S36) → Option (Int)
  | 0,_,_,_,_,_,_ => none
  | k + 1,x0,x7,x8,x47000,x47001,x47002 => if x8 < x7 then (if 0 ≤ x8 then (if x8 < (x0.length : Int) then ((impl_isDisk_3_at.f ((rd_T36 x0 x8).f0) ((rd_T36 x0 x8).f1) ((rd_T36 x0 x8).f2) ((rd_T36 x0 x8).f3) x47000 x47001 x47002).bind fun t437 => (if t437 = true then (some x8) else (slices_IndexFunc_impl_Write_at_isDisk_3.l0 k x0 x7 (wrap64 (x8 + 1)) x47000 x47001 x47002))) else (none)) else (none)) else (some (-1))
def slices_IndexFunc_impl_Write_at_isDisk_3.f (k : Nat) (l0 : List (S36)) (l1_0 : List ByteArray) (l1_1 : List Int) (l1_2 : List (S36)) : Option (Int):=slices_IndexFunc_impl_Write_at_isDisk_3.l0 k l0 (l0.length : Int) 0 l1_0 l1_1 l1_2
set_option maxHeartbeats 8000000 in
set_option maxRecDepth 100000 in
theorem slices_IndexFunc_impl_Write_at_isDisk_3.calls (k : Nat) (A0 : Option Addr) (c0 : Nat) (l0 : List (S36)) (gq1_0 : Nat) (A1_0 : Option Addr) (c1_0 : Nat) (l1_0 : List ByteArray) (A1_1 : Option Addr) (c1_1 : Nat) (l1_1 : List Int) (A1_2 : Option Addr) (c1_2 : Nat) (l1_2 : List (S36)) (r : Int) (w : World) (hb46_ : w.heap[gq1_0]? = some (.cells #[.slice A1_0 l1_0.length c1_0,.slice A1_1 l1_1.length c1_1,.slice A1_2 l1_2.length c1_2] 28 (0,0))) (hr0 : Kd.C k36 w A0 l0.length l0) (hc0 : l0.length ≤ c0) (hr1_0 : Kd.C Kd.string w A1_0 l1_0.length l1_0) (hc1_0 : l1_0.length ≤ c1_0) (hr1_1 : Kd.C (Kd.int .i64) w A1_1 l1_1.length l1_1) (hc1_1 : l1_1.length ≤ c1_1) (hr1_2 : Kd.C k36 w A1_2 l1_2.length l1_2) (hc1_2 : l1_2.length ≤ c1_2) (h : slices_IndexFunc_impl_Write_at_isDisk_3.f k l0 l1_0 l1_1 l1_2 = some r) :
  Calls Try.prog 103 #[.slice A0 l0.length c0,.func (.func 83) #[] #[.pointer (some ⟨gq1_0,0,none⟩)]] w fun e w' => e = .returned (.int .i64 r) ∧ Below w.heap.size w w':=by
 have hu36:=Try.underlying36
 have HR0:=Aside0.mk hr0
 have HC0:=Aside0.mk hc0
 clear hr0 hc0
 have HR1_0:=Aside0.mk hr1_0
 have HC1_0:=Aside0.mk hc1_0
 clear hr1_0 hc1_0
 have HR1_1:=Aside0.mk hr1_1
 have HC1_1:=Aside0.mk hc1_1
 clear hr1_1 hc1_1
 have HR1_2:=Aside0.mk hr1_2
 have HC1_2:=Aside0.mk hc1_2
 clear hr1_2 hc1_2
 have BK46:=Aside0.mk hb46_
 clear hb46_
 have HB:=Aside0.mk (Below.refl w.heap.size w)
 have H : (slices_IndexFunc_impl_Write_at_isDisk_3.l0 k l0 (l0.length : Int) 0 l1_0 l1_1 l1_2) = some r:=h
 clear h
 have H':=Aside0.mk H
 clear H
 go_enter Try.func103,Try.ntmps103
 go_wp2
 go_loopg [8] k (fun kq v8 w' => ∃ (x8_1 : Int),v8 = .int .i64 x8_1 ∧ Aside0 (slices_IndexFunc_impl_Write_at_isDisk_3.l0 kq l0 (l0.length : Int) x8_1 l1_0 l1_1 l1_2 = some r) ∧ Aside0 (kq ≤ k) ∧ Aside0 (w'.heap[gq1_0]? = some (.cells #[(.slice A1_0 l1_0.length c1_0),(.slice A1_1 l1_1.length c1_1),(.slice A1_2 l1_2.length c1_2)] 28 (0,0))) ∧ Aside0 (Below w.heap.size w w'))
 case atStart => exact ⟨(0),(by first|rfl|(simp;done)|(simp [*];done)),H',⟨Nat.le_refl _⟩,⟨by (with_reducible repeat (first|refine blk_drewN ?_ _|refine blk_drew ?_|refine blk_alloc ?_ _));exact BK46.out⟩,⟨by repeat (first|(with_reducible first|exact HB.out|apply below_alloc|apply pw_below_drewN|apply below_drew1|refine below_set ?_ GE46.out)|exact HB.out)⟩⟩
 case round =>
  clear H'
  try clear c1
  try clear q1
  try clear p2
  obtain ⟨x8_1,rfl,HA,HK1,BK46,HB⟩:=hrel
  cases gk with
  | zero => exact absurd HA.out (by simp [slices_IndexFunc_impl_Write_at_isDisk_3.l0])
  | succ k1 =>
   have H:=HA.out
   clear HA
   simp only [slices_IndexFunc_impl_Write_at_isDisk_3.l0] at H
   by_cases c3 : x8_1 < (l0.length : Int)
   ·
    rw [if_pos c3] at H
    have c3b0 : decide (x8_1 < (l0.length : Int)) = true:=decide_eq_true c3
    clear c3
    by_cases c4 : 0 ≤ x8_1
    ·
     rw [if_pos c4] at H
     have c4b0 : decide (0 ≤ x8_1) = true:=decide_eq_true c4
     clear c4
     by_cases c5 : x8_1 < (l0.length : Int)
     ·
      rw [if_pos c5] at H
      have c5b0 : decide (x8_1 < (l0.length : Int)) = true:=decide_eq_true c5
      clear c5
      replace H:=Option.bind_eq_some_iff.mp H
      obtain ⟨t437,A60,H⟩:=H
      replace H : (if t437 = true then (some x8_1) else (slices_IndexFunc_impl_Write_at_isDisk_3.l0 k1 l0 (l0.length : Int) (wrap64 (x8_1 + 1)) l1_0 l1_1 l1_2)) = some r:=H
      have A6:=Aside0.mk A60
      clear A60
      by_cases c7 : t437 = true
      ·
       subst c7
       have H1 : (some x8_1) = some r:=by rw [if_pos rfl] at H;exact H
       clear H
       have H:=H1
       clear H1
       obtain rfl:=Option.some.inj H
       have p436 : 0 ≤ (x8_1 : Int):=of_decide_eq_true (by first|(with_reducible assumption)|assumption)
       have q436 : x8_1 < (l0.length : Int):=of_decide_eq_true (by first|(with_reducible assumption)|assumption)
       obtain ⟨ad436,e436,hx436_0,hx436_1,hx436_2,hx436_3⟩:=at_T36 HR0.out x8_1 p436 q436
       cases e436
       replace hx436_0:=(HB.out.cell (World.block_lt_of_cell? w _ hx436_0)).trans hx436_0
       replace hx436_1:=(HB.out.cell (World.block_lt_of_cell? w _ hx436_1)).trans hx436_1
       replace hx436_2:=(HB.out.cell (World.block_lt_of_cell? w _ hx436_2)).trans hx436_2
       replace hx436_3:=(HB.out.cell (World.block_lt_of_cell? w _ hx436_3)).trans hx436_3
       replace p436:=eq_true p436
       replace q436:=eq_true q436
       go_wp2_with (first|(go_at_call 83;(with_reducible refine (impl_isDisk_3_at.calls ((rd_T36 l0 x8_1).f0) ((rd_T36 l0 x8_1).f1) ((rd_T36 l0 x8_1).f2) ((rd_T36 l0 x8_1).f3) gq1_0 A1_0 c1_0 l1_0 A1_1 c1_1 l1_1 A1_2 c1_2 l1_2 true _ ?side1 ?side2 ?side3 ?side4 ?side5 ?side6 ?side7 A6.out).mono ?_);(case side1 => exact (by exact BK46.out));(case side2 => repeat (first|exact (Kd.C_below HR1_0.out HB.out)|(with_reducible refine Kd.C_alloc ?_ _)|(with_reducible refine Kd.C_drewN ?_ _)|(with_reducible refine Kd.C_drew ?_)));(case side3 => exact HC1_0.out);(case side4 => repeat (first|exact (Kd.C_below HR1_1.out HB.out)|(with_reducible refine Kd.C_alloc ?_ _)|(with_reducible refine Kd.C_drewN ?_ _)|(with_reducible refine Kd.C_drew ?_)));(case side5 => exact HC1_1.out);(case side6 => repeat (first|exact (Kd.C_below HR1_2.out HB.out)|(with_reducible refine Kd.C_alloc ?_ _)|(with_reducible refine Kd.C_drewN ?_ _)|(with_reducible refine Kd.C_drew ?_)));(case side7 => exact HC1_2.out);rintro e w8 ⟨rfl,hb⟩;have n0_:=Aside0.mk (blk_below BK46.out hb);have n1_:=Aside0.mk (below_step (by exact HB.out) hb);clear BK46;clear HB;have BK46:=n0_;have HB:=n1_;clear n0_ n1_;(try clear hb);(try clear hb2);(try clear hk);(try clear hi)))
       go_ret
       exact ⟨by first|rfl|(simp [errW_none,errW_some] <;> rfl)|(simp [*,errW_none,errW_some] <;> rfl),by repeat (first|(with_reducible first|exact HB.out|apply below_alloc|apply pw_below_drewN|apply below_drew1|refine below_set ?_ GE46.out)|exact HB.out)⟩
      ·
       replace c7:=Bool.eq_false_iff.mpr c7
       subst c7
       have H1 : (slices_IndexFunc_impl_Write_at_isDisk_3.l0 k1 l0 (l0.length : Int) (wrap64 (x8_1 + 1)) l1_0 l1_1 l1_2) = some r:=by rw [if_neg (show ¬ (false = true) by decide)] at H;exact H
       clear H
       have H:=H1
       clear H1
       have H':=Aside0.mk H
       clear H
       have p436 : 0 ≤ (x8_1 : Int):=of_decide_eq_true (by first|(with_reducible assumption)|assumption)
       have q436 : x8_1 < (l0.length : Int):=of_decide_eq_true (by first|(with_reducible assumption)|assumption)
       obtain ⟨ad436,e436,hx436_0,hx436_1,hx436_2,hx436_3⟩:=at_T36 HR0.out x8_1 p436 q436
       cases e436
       replace hx436_0:=(HB.out.cell (World.block_lt_of_cell? w _ hx436_0)).trans hx436_0
       replace hx436_1:=(HB.out.cell (World.block_lt_of_cell? w _ hx436_1)).trans hx436_1
       replace hx436_2:=(HB.out.cell (World.block_lt_of_cell? w _ hx436_2)).trans hx436_2
       replace hx436_3:=(HB.out.cell (World.block_lt_of_cell? w _ hx436_3)).trans hx436_3
       replace p436:=eq_true p436
       replace q436:=eq_true q436
       go_wp2_with (first|(go_at_call 83;(with_reducible refine (impl_isDisk_3_at.calls ((rd_T36 l0 x8_1).f0) ((rd_T36 l0 x8_1).f1) ((rd_T36 l0 x8_1).f2) ((rd_T36 l0 x8_1).f3) gq1_0 A1_0 c1_0 l1_0 A1_1 c1_1 l1_1 A1_2 c1_2 l1_2 false _ ?side1 ?side2 ?side3 ?side4 ?side5 ?side6 ?side7 A6.out).mono ?_);(case side1 => exact (by exact BK46.out));(case side2 => repeat (first|exact (Kd.C_below HR1_0.out HB.out)|(with_reducible refine Kd.C_alloc ?_ _)|(with_reducible refine Kd.C_drewN ?_ _)|(with_reducible refine Kd.C_drew ?_)));(case side3 => exact HC1_0.out);(case side4 => repeat (first|exact (Kd.C_below HR1_1.out HB.out)|(with_reducible refine Kd.C_alloc ?_ _)|(with_reducible refine Kd.C_drewN ?_ _)|(with_reducible refine Kd.C_drew ?_)));(case side5 => exact HC1_1.out);(case side6 => repeat (first|exact (Kd.C_below HR1_2.out HB.out)|(with_reducible refine Kd.C_alloc ?_ _)|(with_reducible refine Kd.C_drewN ?_ _)|(with_reducible refine Kd.C_drew ?_)));(case side7 => exact HC1_2.out);rintro e w9 ⟨rfl,hb⟩;have n0_:=Aside0.mk (blk_below BK46.out hb);have n1_:=Aside0.mk (below_step (by exact HB.out) hb);clear BK46;clear HB;have BK46:=n0_;have HB:=n1_;clear n0_ n1_;(try clear hb);(try clear hb2);(try clear hk);(try clear hi)))
       go_roundg k1
       case measure => have:=HK1.out;omega
       case rel => exact ⟨(wrap64 (x8_1 + 1)),(by first|rfl|(simp;done)|(simp [*];done)),H',⟨by have:=HK1.out;omega⟩,⟨by (with_reducible repeat (first|refine blk_drewN ?_ _|refine blk_drew ?_|refine blk_alloc ?_ _));exact BK46.out⟩,⟨by repeat (first|(with_reducible first|exact HB.out|apply below_alloc|apply pw_below_drewN|apply below_drew1|refine below_set ?_ GE46.out)|exact HB.out)⟩⟩
     ·
      rw [if_neg c5] at H
      exact absurd H (by simp)
    ·
     rw [if_neg c4] at H
     exact absurd H (by simp)
   ·
    rw [if_neg c3] at H
    have c3b0 : decide (x8_1 < (l0.length : Int)) = false:=decide_eq_false c3
    clear c3
    obtain rfl:=Option.some.inj H
    go_wp2
    go_ret
    exact ⟨by first|rfl|(simp [errW_none,errW_some] <;> rfl)|(simp [*,errW_none,errW_some] <;> rfl),by repeat (first|(with_reducible first|exact HB.out|apply below_alloc|apply pw_below_drewN|apply below_drew1|refine below_set ?_ GE46.out)|exact HB.out)⟩
def slices_ContainsFunc_impl_Write_at_isDisk_3.f (k : Nat) (l0 : List (S36)) (l1_0 : List ByteArray) (l1_1 : List Int) (l1_2 : List (S36)) : Option (Bool):=(slices_IndexFunc_impl_Write_at_isDisk_3.f k l0 l1_0 l1_1 l1_2).bind fun t438 => (some (decide (t438 ≥ 0)))
set_option maxHeartbeats 8000000 in
set_option maxRecDepth 100000 in
theorem slices_ContainsFunc_impl_Write_at_isDisk_3.calls (k : Nat) (A0 : Option Addr) (c0 : Nat) (l0 : List (S36)) (gq1_0 : Nat) (A1_0 : Option Addr) (c1_0 : Nat) (l1_0 : List ByteArray) (A1_1 : Option Addr) (c1_1 : Nat) (l1_1 : List Int) (A1_2 : Option Addr) (c1_2 : Nat) (l1_2 : List (S36)) (r : Bool) (w : World) (hb46_ : w.heap[gq1_0]? = some (.cells #[.slice A1_0 l1_0.length c1_0,.slice A1_1 l1_1.length c1_1,.slice A1_2 l1_2.length c1_2] 28 (0,0))) (hr0 : Kd.C k36 w A0 l0.length l0) (hc0 : l0.length ≤ c0) (hr1_0 : Kd.C Kd.string w A1_0 l1_0.length l1_0) (hc1_0 : l1_0.length ≤ c1_0) (hr1_1 : Kd.C (Kd.int .i64) w A1_1 l1_1.length l1_1) (hc1_1 : l1_1.length ≤ c1_1) (hr1_2 : Kd.C k36 w A1_2 l1_2.length l1_2) (hc1_2 : l1_2.length ≤ c1_2) (h : slices_ContainsFunc_impl_Write_at_isDisk_3.f k l0 l1_0 l1_1 l1_2 = some r) :
  Calls Try.prog 82 #[.slice A0 l0.length c0,.func (.func 83) #[] #[.pointer (some ⟨gq1_0,0,none⟩)]] w fun e w' => e = .returned (.bool r) ∧ Below w.heap.size w w':=by
 have HR0:=Aside0.mk hr0
 have HC0:=Aside0.mk hc0
 clear hr0 hc0
 have HR1_0:=Aside0.mk hr1_0
 have HC1_0:=Aside0.mk hc1_0
 clear hr1_0 hc1_0
 have HR1_1:=Aside0.mk hr1_1
 have HC1_1:=Aside0.mk hc1_1
 clear hr1_1 hc1_1
 have HR1_2:=Aside0.mk hr1_2
 have HC1_2:=Aside0.mk hc1_2
 clear hr1_2 hc1_2
 have BK46:=Aside0.mk hb46_
 clear hb46_
 have HB:=Aside0.mk (Below.refl w.heap.size w)
 have H : ((slices_IndexFunc_impl_Write_at_isDisk_3.f k l0 l1_0 l1_1 l1_2).bind fun t438 => (some (decide (t438 ≥ 0)))) = some r:=h
 clear h
 replace H:=Option.bind_eq_some_iff.mp H
 obtain ⟨t438,A30,H⟩:=H
 replace H : (some (decide (t438 ≥ 0))) = some r:=H
 have A3:=Aside0.mk A30
 clear A30
 obtain rfl:=Option.some.inj H
 go_enter Try.func82,Try.ntmps82
 go_wp2_with (first|((with_reducible refine gate_callee (f:=103) rfl ?_);refine goesL_ (some 7) rfl rfl Try.func103 (by kernel_rfl) rfl #[.slice A0 l0.length c0,.func (.func 83) #[] #[.pointer (some ⟨gq1_0,0,none⟩)]] rfl (by (try simp only [List.map_toArray,List.map_cons,List.map_nil]);first|done|rfl|(simp only [List.length_drop,List.length_take];rfl)) ?_;(with_reducible refine (slices_IndexFunc_impl_Write_at_isDisk_3.calls k _ _ l0 gq1_0 A1_0 c1_0 l1_0 A1_1 c1_1 l1_1 A1_2 c1_2 l1_2 t438 _ ?side1 ?side2 ?side3 ?side4 ?side5 ?side6 ?side7 ?side8 ?side9 A3.out).mono ?_);(case side1 => exact (by exact BK46.out));(case side2 => repeat (first|exact HR0.out|(with_reducible refine Kd.C_alloc ?_ _)|(with_reducible refine Kd.C_drewN ?_ _)|(with_reducible refine Kd.C_drew ?_)));(case side3 => exact HC0.out);(case side4 => repeat (first|exact HR1_0.out|(with_reducible refine Kd.C_alloc ?_ _)|(with_reducible refine Kd.C_drewN ?_ _)|(with_reducible refine Kd.C_drew ?_)));(case side5 => exact HC1_0.out);(case side6 => repeat (first|exact HR1_1.out|(with_reducible refine Kd.C_alloc ?_ _)|(with_reducible refine Kd.C_drewN ?_ _)|(with_reducible refine Kd.C_drew ?_)));(case side7 => exact HC1_1.out);(case side8 => repeat (first|exact HR1_2.out|(with_reducible refine Kd.C_alloc ?_ _)|(with_reducible refine Kd.C_drewN ?_ _)|(with_reducible refine Kd.C_drew ?_)));(case side9 => exact HC1_2.out);rintro e w4 ⟨rfl,hb⟩;refine ⟨_,rfl,?_⟩;have n0_:=Aside0.mk (blk_below BK46.out hb);have n1_:=Aside0.mk (below_step (by exact HB.out) hb);clear BK46;clear HB;have BK46:=n0_;have HB:=n1_;clear n0_ n1_;(try clear hb);(try clear hb2);(try clear hk);(try clear hi)))
 go_ret
 exact ⟨by first|rfl|(simp [errW_none,errW_some] <;> rfl)|(simp [*,errW_none,errW_some] <;> rfl),by repeat (first|(with_reducible first|exact HB.out|apply below_alloc|apply pw_below_drewN|apply below_drew1|refine below_set ?_ GE46.out)|exact HB.out)⟩
def impl_isDisk.j0 : Nat → Bool → List ByteArray → List Int → List (S36) → Option (Bool)
  | 0,_,_,_,_ => none
  | k + 1,x19,x440000,x440001,x440002 => if x19 = true then (some false) else ((slices_ContainsFunc_string_at_isDisk_1.f k x440000).bind fun t441 => (if t441 = true then (some false) else ((slices_ContainsFunc_int_at_isDisk_2.f k x440001).bind fun t442 => (if t442 = true then (some false) else ((slices_ContainsFunc_impl_Write_at_isDisk_3.f k x440002 x440000 x440001 x440002).bind fun t443 => (some (!t443)))))))
def impl_isDisk.f (k : Nat) (l0_0 : List ByteArray) (l0_1 : List Int) (l0_2 : List (S36)) : Option (Bool):=(impl_in.f (l0_0.length : Int) 1 40).bind fun t440 => (if t440 = true then (if (l0_1.length : Int) = 3 then (impl_isDisk.j0 k (decide ((l0_2.length : Int) > 40)) l0_0 l0_1 l0_2) else (impl_isDisk.j0 k true l0_0 l0_1 l0_2)) else (impl_isDisk.j0 k true l0_0 l0_1 l0_2))
set_option maxHeartbeats 8000000 in
set_option maxRecDepth 100000 in
theorem impl_isDisk.calls (k : Nat) (A0_0 : Option Addr) (c0_0 : Nat) (l0_0 : List ByteArray) (A0_1 : Option Addr) (c0_1 : Nat) (l0_1 : List Int) (A0_2 : Option Addr) (c0_2 : Nat) (l0_2 : List (S36)) (r : Bool) (w : World) (hr0_0 : Kd.C Kd.string w A0_0 l0_0.length l0_0) (hc0_0 : l0_0.length ≤ c0_0) (hr0_1 : Kd.C (Kd.int .i64) w A0_1 l0_1.length l0_1) (hc0_1 : l0_1.length ≤ c0_1) (hr0_2 : Kd.C k36 w A0_2 l0_2.length l0_2) (hc0_2 : l0_2.length ≤ c0_2) (h : impl_isDisk.f k l0_0 l0_1 l0_2 = some r) :
  Calls Try.prog 41 #[.agg #[.slice A0_0 l0_0.length c0_0,.slice A0_1 l0_1.length c0_1,.slice A0_2 l0_2.length c0_2]] w fun e w' => e = .returned (.bool r) ∧ Below w.heap.size w w':=by
 have hu28:=Try.underlying28
 have HR0_0:=Aside0.mk hr0_0
 have HC0_0:=Aside0.mk hc0_0
 clear hr0_0 hc0_0
 have HR0_1:=Aside0.mk hr0_1
 have HC0_1:=Aside0.mk hc0_1
 clear hr0_1 hc0_1
 have HR0_2:=Aside0.mk hr0_2
 have HC0_2:=Aside0.mk hc0_2
 clear hr0_2 hc0_2
 have HB:=Aside0.mk (Below.refl w.heap.size w)
 have H : ((impl_in.f (l0_0.length : Int) 1 40).bind fun t440 => (if t440 = true then (if (l0_1.length : Int) = 3 then (impl_isDisk.j0 k (decide ((l0_2.length : Int) > 40)) l0_0 l0_1 l0_2) else (impl_isDisk.j0 k true l0_0 l0_1 l0_2)) else (impl_isDisk.j0 k true l0_0 l0_1 l0_2))) = some r:=h
 clear h
 have HC2:=Aside0.mk H
 clear H
 go_enter Try.func41,Try.ntmps41
 go_upto_region 1 with (first|((with_reducible refine gate_dst (N:=1) rfl ?_);(try (refine gate_guard (by rfl) ?_;dsimp only));refine box_event ?hg (N:=1) ?hd (cs:=#[.slice A0_0 l0_0.length c0_0,.slice A0_1 l0_1.length c0_1,.slice A0_2 l0_2.length c0_2]) (t:=28) ?hr ?_;(case hd => rfl);(case hg => rfl);(case hr => first|(go_simp;done)|(go_simp;rfl));intro gb439 hg w3 hbox hb;have n0_:=Aside0.mk (below_step (by exact HB.out) hb);have n1_:=Aside0.mk (hbox);have n2_:=Aside0.mk ((by rw [hg];exact (below_size (by exact HB.out)) : w.heap.size ≤ gb439));have n3_:=Aside0.mk ((by rw [hg];exact (below_size (by exact HB.out)) : w.heap.size ≤ gb439));clear HB;have HB:=n0_;have BK439:=n1_;have GW439:=n2_;have GE439:=n3_;clear n0_ n1_ n2_ n3_;clear hb hbox hg))
 (try simp only [Act.put,List.setIfInBounds_toArray,List.set_cons_zero,List.set_cons_succ])
 go_cut [19] (fun v19 wc => ∃ (kq : Nat) (x19_1 : Bool),v19 = .bool x19_1 ∧ Aside0 (impl_isDisk.j0 kq x19_1 l0_0 l0_1 l0_2 = some r) ∧ Aside0 (kq ≤ k) ∧ Aside0 (wc.heap[gb439]? = some (.cells #[(.slice A0_0 l0_0.length c0_0),(.slice A0_1 l0_1.length c0_1),(.slice A0_2 l0_2.length c0_2)] 28 (0,0))) ∧ Aside0 (Below w.heap.size w wc))
 case first =>
  have H:=HC2.out
  clear HC2
  replace H:=Option.bind_eq_some_iff.mp H
  obtain ⟨t440,A40,H⟩:=H
  replace H : (if t440 = true then (if (l0_1.length : Int) = 3 then (impl_isDisk.j0 k (decide ((l0_2.length : Int) > 40)) l0_0 l0_1 l0_2) else (impl_isDisk.j0 k true l0_0 l0_1 l0_2)) else (impl_isDisk.j0 k true l0_0 l0_1 l0_2)) = some r:=H
  have A4:=Aside0.mk A40
  clear A40
  by_cases c5 : t440 = true
  ·
   subst c5
   have H1 : (if (l0_1.length : Int) = 3 then (impl_isDisk.j0 k (decide ((l0_2.length : Int) > 40)) l0_0 l0_1 l0_2) else (impl_isDisk.j0 k true l0_0 l0_1 l0_2)) = some r:=by rw [if_pos rfl] at H;exact H
   clear H
   have H:=H1
   clear H1
   by_cases c6 : (l0_1.length : Int) = 3
   ·
    rw [if_pos c6] at H
    have c6b0 : ((l0_1.length : Int) == 3) = true:=beq_iff_eq.mpr c6
    have c6b1 : ((l0_1.length : Int) != 3) = false:=bne_eq_false_iff_eq.mpr c6
    clear c6
    (first|rw [c6b0]|(simp only [i64_w,i32_w];rw [c6b0])|rw [c6b2]|skip)
    have H':=Aside0.mk H
    clear H
    have hcz7_0 : w3.cell? ⟨gb439,0,none⟩ = some (.slice A0_0 l0_0.length c0_0):=(blk_cell BK439.out 0).trans rfl
    have hcz7_1 : w3.cell? ⟨gb439,1,none⟩ = some (.slice A0_1 l0_1.length c0_1):=(blk_cell BK439.out 1).trans rfl
    have hcz7_2 : w3.cell? ⟨gb439,2,none⟩ = some (.slice A0_2 l0_2.length c0_2):=(blk_cell BK439.out 2).trans rfl
    have hfz7_0:=blk_frozen BK439.out 0
    have hfz7_1:=blk_frozen BK439.out 1
    have hfz7_2:=blk_frozen BK439.out 2
    go_wp2_with (first|((with_reducible refine gate_callee (f:=77) rfl ?_);refine goesL_ (some 6) rfl rfl Try.func77 (by kernel_rfl) rfl #[.int .i64 (l0_0.length : Int),.int .i64 1,.int .i64 40] rfl (by (try simp only [List.map_toArray,List.map_cons,List.map_nil]);first|done|rfl|(simp only [List.length_drop,List.length_take];rfl)) ?_;(with_reducible refine (impl_in.calls (l0_0.length : Int) 1 40 true _ A4.out).mono ?_);rintro e w' ⟨rfl,⟨nd,rfl⟩⟩;refine ⟨_,rfl,?_⟩))
    go_meet
    case rel => exact ⟨_,(decide ((l0_2.length : Int) > 40)),(by first|rfl|(simp;done)|(simp [*];done)),H',⟨by first|omega|exact Nat.le_refl _⟩,⟨by (with_reducible repeat (first|refine blk_drewN ?_ _|refine blk_drew ?_|refine blk_alloc ?_ _));exact BK439.out⟩,⟨by repeat (first|(with_reducible first|exact HB.out|apply below_alloc|apply pw_below_drewN|apply below_drew1|refine below_set ?_ GE439.out)|exact HB.out)⟩⟩
   ·
    rw [if_neg c6] at H
    have c6b0 : ((l0_1.length : Int) == 3) = false:=beq_eq_false_iff_ne.mpr c6
    have c6b1 : ((l0_1.length : Int) != 3) = true:=bne_iff_ne.mpr c6
    (first|rw [c6b0]|(simp only [i64_w,i32_w];rw [c6b0])|rw [c6b2]|skip)
    have H':=Aside0.mk H
    clear H
    have hcz8_0 : w3.cell? ⟨gb439,0,none⟩ = some (.slice A0_0 l0_0.length c0_0):=(blk_cell BK439.out 0).trans rfl
    have hcz8_1 : w3.cell? ⟨gb439,1,none⟩ = some (.slice A0_1 l0_1.length c0_1):=(blk_cell BK439.out 1).trans rfl
    have hcz8_2 : w3.cell? ⟨gb439,2,none⟩ = some (.slice A0_2 l0_2.length c0_2):=(blk_cell BK439.out 2).trans rfl
    have hfz8_0:=blk_frozen BK439.out 0
    have hfz8_1:=blk_frozen BK439.out 1
    have hfz8_2:=blk_frozen BK439.out 2
    go_wp2_with (first|((with_reducible refine gate_callee (f:=77) rfl ?_);refine goesL_ (some 6) rfl rfl Try.func77 (by kernel_rfl) rfl #[.int .i64 (l0_0.length : Int),.int .i64 1,.int .i64 40] rfl (by (try simp only [List.map_toArray,List.map_cons,List.map_nil]);first|done|rfl|(simp only [List.length_drop,List.length_take];rfl)) ?_;(with_reducible refine (impl_in.calls (l0_0.length : Int) 1 40 true _ A4.out).mono ?_);rintro e w' ⟨rfl,⟨nd,rfl⟩⟩;refine ⟨_,rfl,?_⟩))
    go_meet
    case rel => exact ⟨_,(true),(by first|rfl|(simp;done)|(simp [*];done)),H',⟨by first|omega|exact Nat.le_refl _⟩,⟨by (with_reducible repeat (first|refine blk_drewN ?_ _|refine blk_drew ?_|refine blk_alloc ?_ _));exact BK439.out⟩,⟨by repeat (first|(with_reducible first|exact HB.out|apply below_alloc|apply pw_below_drewN|apply below_drew1|refine below_set ?_ GE439.out)|exact HB.out)⟩⟩
  ·
   replace c5:=Bool.eq_false_iff.mpr c5
   subst c5
   have H1 : (impl_isDisk.j0 k true l0_0 l0_1 l0_2) = some r:=by rw [if_neg (show ¬ (false = true) by decide)] at H;exact H
   clear H
   have H:=H1
   clear H1
   have H':=Aside0.mk H
   clear H
   have hcz9_0 : w3.cell? ⟨gb439,0,none⟩ = some (.slice A0_0 l0_0.length c0_0):=(blk_cell BK439.out 0).trans rfl
   have hcz9_1 : w3.cell? ⟨gb439,1,none⟩ = some (.slice A0_1 l0_1.length c0_1):=(blk_cell BK439.out 1).trans rfl
   have hcz9_2 : w3.cell? ⟨gb439,2,none⟩ = some (.slice A0_2 l0_2.length c0_2):=(blk_cell BK439.out 2).trans rfl
   have hfz9_0:=blk_frozen BK439.out 0
   have hfz9_1:=blk_frozen BK439.out 1
   have hfz9_2:=blk_frozen BK439.out 2
   go_wp2_with (first|((with_reducible refine gate_callee (f:=77) rfl ?_);refine goesL_ (some 6) rfl rfl Try.func77 (by kernel_rfl) rfl #[.int .i64 (l0_0.length : Int),.int .i64 1,.int .i64 40] rfl (by (try simp only [List.map_toArray,List.map_cons,List.map_nil]);first|done|rfl|(simp only [List.length_drop,List.length_take];rfl)) ?_;(with_reducible refine (impl_in.calls (l0_0.length : Int) 1 40 false _ A4.out).mono ?_);rintro e w' ⟨rfl,⟨nd,rfl⟩⟩;refine ⟨_,rfl,?_⟩))
   go_meet
   case rel => exact ⟨_,(true),(by first|rfl|(simp;done)|(simp [*];done)),H',⟨by first|omega|exact Nat.le_refl _⟩,⟨by (with_reducible repeat (first|refine blk_drewN ?_ _|refine blk_drew ?_|refine blk_alloc ?_ _));exact BK439.out⟩,⟨by repeat (first|(with_reducible first|exact HB.out|apply below_alloc|apply pw_below_drewN|apply below_drew1|refine below_set ?_ GE439.out)|exact HB.out)⟩⟩
 case rest =>
  clear HC2
  try clear p2
  try clear c4
  try clear c5
  try clear c6
  try clear c6b0
  try clear c6b1
  try clear c6b2
  try clear c7
  try clear hcz7_0
  try clear hcz7_1
  try clear hcz7_2
  try clear hcz8_0
  try clear hcz8_1
  try clear hcz8_2
  try clear hcz9_0
  try clear hcz9_1
  try clear hcz9_2
  try clear hfz7_0
  try clear hfz7_1
  try clear hfz7_2
  try clear hfz8_0
  try clear hfz8_1
  try clear hfz8_2
  try clear hfz9_0
  try clear hfz9_1
  try clear hfz9_2
  obtain ⟨kq,x19_1,rfl,HA,HJ1,BK439,HB⟩:=hcut
  cases kq with
  | zero => exact absurd HA.out (by simp [impl_isDisk.j0])
  | succ kj1 =>
   have H:=HA.out
   clear HA
   simp only [impl_isDisk.j0] at H
   by_cases c10 : x19_1 = true
   ·
    subst c10
    have H1 : (some false) = some r:=by rw [if_pos rfl] at H;exact H
    clear H
    have H:=H1
    clear H1
    obtain rfl:=Option.some.inj H
    go_wp2
    go_ret
    exact ⟨by first|rfl|(simp [errW_none,errW_some] <;> rfl)|(simp [*,errW_none,errW_some] <;> rfl),by repeat (first|(with_reducible first|exact HB.out|apply below_alloc|apply pw_below_drewN|apply below_drew1|refine below_set ?_ GE439.out)|exact HB.out)⟩
   ·
    replace c10:=Bool.eq_false_iff.mpr c10
    subst c10
    have H1 : ((slices_ContainsFunc_string_at_isDisk_1.f kj1 l0_0).bind fun t441 => (if t441 = true then (some false) else ((slices_ContainsFunc_int_at_isDisk_2.f kj1 l0_1).bind fun t442 => (if t442 = true then (some false) else ((slices_ContainsFunc_impl_Write_at_isDisk_3.f kj1 l0_2 l0_0 l0_1 l0_2).bind fun t443 => (some (!t443))))))) = some r:=by rw [if_neg (show ¬ (false = true) by decide)] at H;exact H
    clear H
    have H:=H1
    clear H1
    replace H:=Option.bind_eq_some_iff.mp H
    obtain ⟨t441,A110,H⟩:=H
    replace H : (if t441 = true then (some false) else ((slices_ContainsFunc_int_at_isDisk_2.f kj1 l0_1).bind fun t442 => (if t442 = true then (some false) else ((slices_ContainsFunc_impl_Write_at_isDisk_3.f kj1 l0_2 l0_0 l0_1 l0_2).bind fun t443 => (some (!t443)))))) = some r:=H
    have A11:=Aside0.mk A110
    clear A110
    by_cases c12 : t441 = true
    ·
     subst c12
     have H1 : (some false) = some r:=by rw [if_pos rfl] at H;exact H
     clear H
     have H:=H1
     clear H1
     obtain rfl:=Option.some.inj H
     have hcz13_0 : wc.cell? ⟨gb439,0,none⟩ = some (.slice A0_0 l0_0.length c0_0):=(blk_cell BK439.out 0).trans rfl
     have hcz13_1 : wc.cell? ⟨gb439,1,none⟩ = some (.slice A0_1 l0_1.length c0_1):=(blk_cell BK439.out 1).trans rfl
     have hcz13_2 : wc.cell? ⟨gb439,2,none⟩ = some (.slice A0_2 l0_2.length c0_2):=(blk_cell BK439.out 2).trans rfl
     have hfz13_0:=blk_frozen BK439.out 0
     have hfz13_1:=blk_frozen BK439.out 1
     have hfz13_2:=blk_frozen BK439.out 2
     go_wp2_with (first|((with_reducible refine gate_callee (f:=78) rfl ?_);refine goesL_ (some 22) rfl rfl Try.func78 (by kernel_rfl) rfl #[.slice A0_0 l0_0.length c0_0,.func (.func 79) #[] #[]] rfl (by (try simp only [List.map_toArray,List.map_cons,List.map_nil]);first|done|rfl|(simp only [List.length_drop,List.length_take];rfl)) ?_;(with_reducible refine (slices_ContainsFunc_string_at_isDisk_1.calls kj1 _ _ l0_0  true _ ?side1 ?side2 A11.out).mono ?_);(case side1 => repeat (first|exact (Kd.C_below HR0_0.out HB.out)|(with_reducible refine Kd.C_alloc ?_ _)|(with_reducible refine Kd.C_drewN ?_ _)|(with_reducible refine Kd.C_drew ?_)));(case side2 => exact HC0_0.out);rintro e w' ⟨rfl,⟨nd,rfl⟩⟩;refine ⟨_,rfl,?_⟩))
     go_ret
     exact ⟨by first|rfl|(simp [errW_none,errW_some] <;> rfl)|(simp [*,errW_none,errW_some] <;> rfl),by repeat (first|(with_reducible first|exact HB.out|apply below_alloc|apply pw_below_drewN|apply below_drew1|refine below_set ?_ GE439.out)|exact HB.out)⟩
    ·
     replace c12:=Bool.eq_false_iff.mpr c12
     subst c12
     have H1 : ((slices_ContainsFunc_int_at_isDisk_2.f kj1 l0_1).bind fun t442 => (if t442 = true then (some false) else ((slices_ContainsFunc_impl_Write_at_isDisk_3.f kj1 l0_2 l0_0 l0_1 l0_2).bind fun t443 => (some (!t443))))) = some r:=by rw [if_neg (show ¬ (false = true) by decide)] at H;exact H
     clear H
     have H:=H1
     clear H1
     replace H:=Option.bind_eq_some_iff.mp H
     obtain ⟨t442,A140,H⟩:=H
     replace H : (if t442 = true then (some false) else ((slices_ContainsFunc_impl_Write_at_isDisk_3.f kj1 l0_2 l0_0 l0_1 l0_2).bind fun t443 => (some (!t443)))) = some r:=H
     have A14:=Aside0.mk A140
     clear A140
     by_cases c15 : t442 = true
     ·
      subst c15
      have H1 : (some false) = some r:=by rw [if_pos rfl] at H;exact H
      clear H
      have H:=H1
      clear H1
      obtain rfl:=Option.some.inj H
      have hcz16_0 : wc.cell? ⟨gb439,0,none⟩ = some (.slice A0_0 l0_0.length c0_0):=(blk_cell BK439.out 0).trans rfl
      have hcz16_1 : wc.cell? ⟨gb439,1,none⟩ = some (.slice A0_1 l0_1.length c0_1):=(blk_cell BK439.out 1).trans rfl
      have hcz16_2 : wc.cell? ⟨gb439,2,none⟩ = some (.slice A0_2 l0_2.length c0_2):=(blk_cell BK439.out 2).trans rfl
      have hfz16_0:=blk_frozen BK439.out 0
      have hfz16_1:=blk_frozen BK439.out 1
      have hfz16_2:=blk_frozen BK439.out 2
      go_wp2_with (first|((with_reducible refine gate_callee (f:=78) rfl ?_);refine goesL_ (some 22) rfl rfl Try.func78 (by kernel_rfl) rfl #[.slice A0_0 l0_0.length c0_0,.func (.func 79) #[] #[]] rfl (by (try simp only [List.map_toArray,List.map_cons,List.map_nil]);first|done|rfl|(simp only [List.length_drop,List.length_take];rfl)) ?_;(with_reducible refine (slices_ContainsFunc_string_at_isDisk_1.calls kj1 _ _ l0_0  false _ ?side1 ?side2 A11.out).mono ?_);(case side1 => repeat (first|exact (Kd.C_below HR0_0.out HB.out)|(with_reducible refine Kd.C_alloc ?_ _)|(with_reducible refine Kd.C_drewN ?_ _)|(with_reducible refine Kd.C_drew ?_)));(case side2 => exact HC0_0.out);rintro e w' ⟨rfl,⟨nd,rfl⟩⟩;refine ⟨_,rfl,?_⟩)|(go_at_call 80;(with_reducible refine (slices_ContainsFunc_int_at_isDisk_2.calls kj1 _ _ l0_1  true _ ?side1 ?side2 A14.out).mono ?_);(case side1 => repeat (first|exact (Kd.C_below HR0_1.out (by repeat (first|(with_reducible first|exact HB.out|apply below_alloc|apply pw_below_drewN|apply below_drew1|refine below_set ?_ GE439.out)|exact HB.out)))|(with_reducible refine Kd.C_alloc ?_ _)|(with_reducible refine Kd.C_drewN ?_ _)|(with_reducible refine Kd.C_drew ?_)));(case side2 => exact HC0_1.out);rintro e w' ⟨rfl,⟨nd,rfl⟩⟩))
      go_ret
      exact ⟨by first|rfl|(simp [errW_none,errW_some] <;> rfl)|(simp [*,errW_none,errW_some] <;> rfl),by repeat (first|(with_reducible first|exact HB.out|apply below_alloc|apply pw_below_drewN|apply below_drew1|refine below_set ?_ GE439.out)|exact HB.out)⟩
     ·
      replace c15:=Bool.eq_false_iff.mpr c15
      subst c15
      have H1 : ((slices_ContainsFunc_impl_Write_at_isDisk_3.f kj1 l0_2 l0_0 l0_1 l0_2).bind fun t443 => (some (!t443))) = some r:=by rw [if_neg (show ¬ (false = true) by decide)] at H;exact H
      clear H
      have H:=H1
      clear H1
      replace H:=Option.bind_eq_some_iff.mp H
      obtain ⟨t443,A170,H⟩:=H
      replace H : (some (!t443)) = some r:=H
      have A17:=Aside0.mk A170
      clear A170
      obtain rfl:=Option.some.inj H
      have hcz18_0 : wc.cell? ⟨gb439,0,none⟩ = some (.slice A0_0 l0_0.length c0_0):=(blk_cell BK439.out 0).trans rfl
      have hcz18_1 : wc.cell? ⟨gb439,1,none⟩ = some (.slice A0_1 l0_1.length c0_1):=(blk_cell BK439.out 1).trans rfl
      have hcz18_2 : wc.cell? ⟨gb439,2,none⟩ = some (.slice A0_2 l0_2.length c0_2):=(blk_cell BK439.out 2).trans rfl
      have hfz18_0:=blk_frozen BK439.out 0
      have hfz18_1:=blk_frozen BK439.out 1
      have hfz18_2:=blk_frozen BK439.out 2
      go_wp2_with (first|((with_reducible refine gate_callee (f:=78) rfl ?_);refine goesL_ (some 22) rfl rfl Try.func78 (by kernel_rfl) rfl #[.slice A0_0 l0_0.length c0_0,.func (.func 79) #[] #[]] rfl (by (try simp only [List.map_toArray,List.map_cons,List.map_nil]);first|done|rfl|(simp only [List.length_drop,List.length_take];rfl)) ?_;(with_reducible refine (slices_ContainsFunc_string_at_isDisk_1.calls kj1 _ _ l0_0  false _ ?side1 ?side2 A11.out).mono ?_);(case side1 => repeat (first|exact (Kd.C_below HR0_0.out HB.out)|(with_reducible refine Kd.C_alloc ?_ _)|(with_reducible refine Kd.C_drewN ?_ _)|(with_reducible refine Kd.C_drew ?_)));(case side2 => exact HC0_0.out);rintro e w' ⟨rfl,⟨nd,rfl⟩⟩;refine ⟨_,rfl,?_⟩)|(go_at_call 80;(with_reducible refine (slices_ContainsFunc_int_at_isDisk_2.calls kj1 _ _ l0_1  false _ ?side1 ?side2 A14.out).mono ?_);(case side1 => repeat (first|exact (Kd.C_below HR0_1.out (by repeat (first|(with_reducible first|exact HB.out|apply below_alloc|apply pw_below_drewN|apply below_drew1|refine below_set ?_ GE439.out)|exact HB.out)))|(with_reducible refine Kd.C_alloc ?_ _)|(with_reducible refine Kd.C_drewN ?_ _)|(with_reducible refine Kd.C_drew ?_)));(case side2 => exact HC0_1.out);rintro e w' ⟨rfl,⟨nd,rfl⟩⟩)|((with_reducible refine gate_callee (f:=82) rfl ?_);refine goesL_ (some 31) rfl rfl Try.func82 (by kernel_rfl) rfl #[.slice A0_2 l0_2.length c0_2,.func (.func 83) #[] #[.pointer (some ⟨gb439,0,none⟩)]] rfl (by (try simp only [List.map_toArray,List.map_cons,List.map_nil]);first|done|rfl|(simp only [List.length_drop,List.length_take];rfl)) ?_;(with_reducible refine (slices_ContainsFunc_impl_Write_at_isDisk_3.calls kj1 _ _ l0_2 gb439 A0_0 c0_0 l0_0 A0_1 c0_1 l0_1 A0_2 c0_2 l0_2 t443 _ ?side1 ?side2 ?side3 ?side4 ?side5 ?side6 ?side7 ?side8 ?side9 A17.out).mono ?_);(case side1 => exact (by (with_reducible repeat (first|refine blk_drewN ?_ _|refine blk_drew ?_|refine blk_alloc ?_ _));exact BK439.out));(case side2 => repeat (first|exact (Kd.C_below HR0_2.out (by repeat (first|(with_reducible first|exact HB.out|apply below_alloc|apply pw_below_drewN|apply below_drew1|refine below_set ?_ GE439.out)|exact HB.out)))|(with_reducible refine Kd.C_alloc ?_ _)|(with_reducible refine Kd.C_drewN ?_ _)|(with_reducible refine Kd.C_drew ?_)));(case side3 => exact HC0_2.out);(case side4 => repeat (first|exact (Kd.C_below HR0_0.out (by repeat (first|(with_reducible first|exact HB.out|apply below_alloc|apply pw_below_drewN|apply below_drew1|refine below_set ?_ GE439.out)|exact HB.out)))|(with_reducible refine Kd.C_alloc ?_ _)|(with_reducible refine Kd.C_drewN ?_ _)|(with_reducible refine Kd.C_drew ?_)));(case side5 => exact HC0_0.out);(case side6 => repeat (first|exact (Kd.C_below HR0_1.out (by repeat (first|(with_reducible first|exact HB.out|apply below_alloc|apply pw_below_drewN|apply below_drew1|refine below_set ?_ GE439.out)|exact HB.out)))|(with_reducible refine Kd.C_alloc ?_ _)|(with_reducible refine Kd.C_drewN ?_ _)|(with_reducible refine Kd.C_drew ?_)));(case side7 => exact HC0_1.out);(case side8 => repeat (first|exact (Kd.C_below HR0_2.out (by repeat (first|(with_reducible first|exact HB.out|apply below_alloc|apply pw_below_drewN|apply below_drew1|refine below_set ?_ GE439.out)|exact HB.out)))|(with_reducible refine Kd.C_alloc ?_ _)|(with_reducible refine Kd.C_drewN ?_ _)|(with_reducible refine Kd.C_drew ?_)));(case side9 => exact HC0_2.out);rintro e w19 ⟨rfl,hb⟩;refine ⟨_,rfl,?_⟩;have n0_:=Aside0.mk (blk_below (g:=gb439) (o:=.cells #[.slice A0_0 l0_0.length c0_0,.slice A0_1 l0_1.length c0_1,.slice A0_2 l0_2.length c0_2] 28 (0,0)) (by (with_reducible repeat (first|refine blk_drewN ?_ _|refine blk_drew ?_|refine blk_alloc ?_ _));exact BK439.out) hb);have n1_:=Aside0.mk (below_step (by repeat (first|(with_reducible first|exact HB.out|apply below_alloc|apply pw_below_drewN|apply below_drew1|refine below_set ?_ GE439.out)|exact HB.out)) hb);clear BK439;clear HB;have BK439:=n0_;have HB:=n1_;clear n0_ n1_;(try clear hb);(try clear hb2);(try clear hk);(try clear hi)))
      go_ret
      exact ⟨by first|rfl|(simp [errW_none,errW_some] <;> rfl)|(simp [*,errW_none,errW_some] <;> rfl),by repeat (first|(with_reducible first|exact HB.out|apply below_alloc|apply pw_below_drewN|apply below_drew1|refine below_set ?_ GE439.out)|exact HB.out)⟩
def slices_Clone_string.f (l0 : List ByteArray) : Option (List ByteArray):=(some (([] : List ByteArray) : List ByteArray)).bind fun y444 => (if y444.length + l0.length < 8796093022208 then (some (y444 ++ l0)) else (none))
set_option maxHeartbeats 8000000 in
set_option maxRecDepth 100000 in
theorem slices_Clone_string.calls (A0 : Option Addr) (c0 : Nat) (l0 : List ByteArray) (r : List ByteArray) (w : World) (hr0 : Kd.C Kd.string w A0 l0.length l0) (hc0 : l0.length ≤ c0) (h : slices_Clone_string.f l0 = some r) :
  Calls Try.prog 86 #[.slice A0 l0.length c0] w fun e w' => ∃ v0_ : Value,e = .returned (v0_) ∧ Kd.R Kd.string 9 w' w.heap.size (fun _ => True) v0_ r ∧ Below w.heap.size w w':=by
 by_cases hn0_ : A0 = none
 ·
  subst hn0_
  have h0_:=C_none_ hr0
  subst h0_
  have hr_ : r = []:=by simpa [slices_Clone_string.f,eq_comm] using h
  subst hr_
  have hq0_:=fun (W_ : World) (a_ : Option Addr) (n_ m_ n2_ m2_ : Nat) => Lib.run_eql_slice_nil (P:=Try.prog) W_ 24 9 a_ n_ m_ n2_ m2_ Try.underlying24
  go_enter Try.func86,Try.ntmps86
  go_wp2
  go_ret
  exact ⟨_,rfl,Kd.R_nil _ _ _ _ _,Below.refl _ _⟩
 have hnb0_ : A0.isNone = false:=by
  cases A0 with
  | none => exact absurd rfl hn0_
  | some _ => rfl
 clear hn0_
 have hq0_:=fun (W_ : World) (a_ : Option Addr) (n_ m_ n2_ m2_ : Nat) => Lib.run_eql_slice_nil (P:=Try.prog) W_ 24 9 a_ n_ m_ n2_ m2_ Try.underlying24
 have HR0:=Aside0.mk hr0
 have HC0:=Aside0.mk hc0
 clear hr0 hc0
 have HB:=Aside0.mk (Below.refl w.heap.size w)
 have H : ((some (([] : List ByteArray) : List ByteArray)).bind fun y444 => (if y444.length + l0.length < 8796093022208 then (some (y444 ++ l0)) else (none))) = some r:=h
 clear h
 obtain ⟨y444,hy444⟩ : ∃ y_ : List ByteArray,y_ = (([] : List ByteArray)):=⟨_,rfl⟩
 replace H : (if y444.length + l0.length < 8796093022208 then (some (y444 ++ l0)) else (none)) = some r:=by first|(rw [hy444];with_reducible exact H)|(have H2_:=(Option.bind_some _ _).symm.trans H;rw [hy444];with_reducible exact H2_)|(have H2_:=(Option.bind_some _ _).symm.trans H;with_reducible exact H2_)|with_reducible exact H|(rw [hy444];exact H)|exact H
 have Ny444:=Aside0.mk hy444
 clear hy444
 by_cases c2 : y444.length + l0.length < 8796093022208
 ·
  rw [if_pos c2] at H
  have LMc2:=Aside0.mk c2
  clear c2
  obtain ⟨y447,hy447⟩ : ∃ y_ : List ByteArray,y_ = (y444 ++ l0):=⟨_,rfl⟩
  replace H : (some y447) = some r:=by first|(rw [hy447];with_reducible exact H)|(have H2_:=(Option.bind_some _ _).symm.trans H;rw [hy447];with_reducible exact H2_)|(have H2_:=(Option.bind_some _ _).symm.trans H;with_reducible exact H2_)|with_reducible exact H|(rw [hy447];exact H)|exact H
  have Ny447:=Aside0.mk hy447
  clear hy447
  obtain rfl:=Option.some.inj H
  go_enter Try.func86,Try.ntmps86
  go_wp2_with (first|((with_reducible refine gate_dst (N:=5) rfl ?_);refine Kd.R_lit Kd.string _ 9 ?hg (N:=5) ?hd (xs:=([] : List ByteArray)) (inner:=[]) (ok:=fun _ => True) (okp:=fun _ => True) ?hr ?hp (fun _ hk => hk) trivial (Below.refl _ _) (Nat.le_refl _) (by simp) ?_;(case hd => rfl);(case hg => rfl);(case hr => first|(go_simp;done)|(go_simp;rfl));(case hp => exact (Reps.none _ _));intro v445 w3 ho4 hb hg_ hnew_;clear hg_ hnew_;(first|rw [← Ny444.out] at ho4|(simp only [Int.reduceToNat] at ho4;rw [← Ny444.out] at ho4));have n0_:=Aside0.mk (Kd.R_lower ho4 (below_size (by exact HB.out)));have n1_:=Aside0.mk (below_step (by exact HB.out) hb);clear HB;have HO446:=n0_;have HB:=n1_;clear n0_ n1_;clear hb ho4)|((with_reducible refine gate_builtin (b:=.append) (xs:=#[.tmp 5,.tmp 6]) rfl ?_);at_builtin;refine Kd.R_append_rows Kd.string (w0:=w) w.heap.size rfl (.tmp 5) (.tmp 6) 24 9 (.string ⟨#[]⟩) 16 rfl Try.underlying24 info9 rfl (by decide) (by omega) v445 y444 l0 _ _ _ (fun _ => True) (fun _ => False) rfl rfl ?aO ?aR (fun _ _ h => h) (fun _ h => h.elim) ?aF ?aB ?aS ?aL ?_;(case aR => repeat (first|exact (Kd.C_below HR0.out HB.out)|(with_reducible refine Kd.C_alloc ?_ _)|(with_reducible refine Kd.C_drewN ?_ _)|(with_reducible refine Kd.C_drew ?_)));(case aB => exact (by repeat (first|(with_reducible first|exact HB.out|apply below_alloc|apply pw_below_drewN|apply below_drew1)|exact HB.out)));(case aF => exact (fun _ _ => trivial));(case aO => exact (by (with_reducible repeat (first|apply Kd.R_alloc|apply Kd.R_drewN|apply Kd.R_drew));exact HO446.out));(case aS => exact (below_size (by repeat (first|(with_reducible first|exact HB.out|apply below_alloc|apply pw_below_drewN|apply below_drew1)|exact HB.out))));(case aL => have:=LMc2.out;omega);intro v448 w5 ho hb hg hat;rw [← Ny447.out] at ho;have n0_:=Aside0.mk (hb);have n1_:=Aside0.mk (ho);clear HB;clear HO446;have HB:=n0_;have HO449:=n1_;clear n0_ n1_;clear ho hb hg hat))
  go_ret
  exact ⟨_,by first|rfl|(simp [errW_none,errW_some] <;> rfl)|(simp [*,errW_none,errW_some] <;> rfl),by (with_reducible repeat (first|apply Kd.R_alloc|apply Kd.R_drewN|apply Kd.R_drew));exact HO449.out,by repeat (first|(with_reducible first|exact HB.out|apply below_alloc|apply pw_below_drewN|apply below_drew1)|exact HB.out)⟩
 ·
  rw [if_neg c2] at H
  exact absurd H (by simp)
def slices_Clone_int.f (l0 : List Int) : Option (List Int):=(some (([] : List Int) : List Int)).bind fun y450 => (if y450.length + l0.length < 17592186044416 then (some (y450 ++ l0)) else (none))
set_option maxHeartbeats 8000000 in
set_option maxRecDepth 100000 in
theorem slices_Clone_int.calls (A0 : Option Addr) (c0 : Nat) (l0 : List Int) (r : List Int) (w : World) (hr0 : Kd.C (Kd.int .i64) w A0 l0.length l0) (hc0 : l0.length ≤ c0) (h : slices_Clone_int.f l0 = some r) :
  Calls Try.prog 87 #[.slice A0 l0.length c0] w fun e w' => ∃ v0_ : Value,e = .returned (v0_) ∧ Kd.R (Kd.int .i64) 3 w' w.heap.size (fun _ => True) v0_ r ∧ Below w.heap.size w w':=by
 by_cases hn0_ : A0 = none
 ·
  subst hn0_
  have h0_:=C_none_ hr0
  subst h0_
  have hr_ : r = []:=by simpa [slices_Clone_int.f,eq_comm] using h
  subst hr_
  have hq0_:=fun (W_ : World) (a_ : Option Addr) (n_ m_ n2_ m2_ : Nat) => Lib.run_eql_slice_nil (P:=Try.prog) W_ 25 3 a_ n_ m_ n2_ m2_ Try.underlying25
  go_enter Try.func87,Try.ntmps87
  go_wp2
  go_ret
  exact ⟨_,rfl,Kd.R_nil _ _ _ _ _,Below.refl _ _⟩
 have hnb0_ : A0.isNone = false:=by
  cases A0 with
  | none => exact absurd rfl hn0_
  | some _ => rfl
 clear hn0_
 have hq0_:=fun (W_ : World) (a_ : Option Addr) (n_ m_ n2_ m2_ : Nat) => Lib.run_eql_slice_nil (P:=Try.prog) W_ 25 3 a_ n_ m_ n2_ m2_ Try.underlying25
 have HR0:=Aside0.mk hr0
 have HC0:=Aside0.mk hc0
 clear hr0 hc0
 have HB:=Aside0.mk (Below.refl w.heap.size w)
 have H : ((some (([] : List Int) : List Int)).bind fun y450 => (if y450.length + l0.length < 17592186044416 then (some (y450 ++ l0)) else (none))) = some r:=h
 clear h
 obtain ⟨y450,hy450⟩ : ∃ y_ : List Int,y_ = (([] : List Int)):=⟨_,rfl⟩
 replace H : (if y450.length + l0.length < 17592186044416 then (some (y450 ++ l0)) else (none)) = some r:=by first|(rw [hy450];with_reducible exact H)|(have H2_:=(Option.bind_some _ _).symm.trans H;rw [hy450];with_reducible exact H2_)|(have H2_:=(Option.bind_some _ _).symm.trans H;with_reducible exact H2_)|with_reducible exact H|(rw [hy450];exact H)|exact H
 have Ny450:=Aside0.mk hy450
 clear hy450
 by_cases c2 : y450.length + l0.length < 17592186044416
 ·
  rw [if_pos c2] at H
  have LMc2:=Aside0.mk c2
  clear c2
  obtain ⟨y453,hy453⟩ : ∃ y_ : List Int,y_ = (y450 ++ l0):=⟨_,rfl⟩
  replace H : (some y453) = some r:=by first|(rw [hy453];with_reducible exact H)|(have H2_:=(Option.bind_some _ _).symm.trans H;rw [hy453];with_reducible exact H2_)|(have H2_:=(Option.bind_some _ _).symm.trans H;with_reducible exact H2_)|with_reducible exact H|(rw [hy453];exact H)|exact H
  have Ny453:=Aside0.mk hy453
  clear hy453
  obtain rfl:=Option.some.inj H
  go_enter Try.func87,Try.ntmps87
  go_wp2_with (first|((with_reducible refine gate_dst (N:=5) rfl ?_);refine Kd.R_lit (Kd.int .i64) _ 3 ?hg (N:=5) ?hd (xs:=([] : List Int)) (inner:=[]) (ok:=fun _ => True) (okp:=fun _ => True) ?hr ?hp (fun _ hk => hk) trivial (Below.refl _ _) (Nat.le_refl _) (by simp) ?_;(case hd => rfl);(case hg => rfl);(case hr => first|(go_simp;done)|(go_simp;rfl));(case hp => exact (Reps.none _ _));intro v451 w3 ho4 hb hg_ hnew_;clear hg_ hnew_;(first|rw [← Ny450.out] at ho4|(simp only [Int.reduceToNat] at ho4;rw [← Ny450.out] at ho4));have n0_:=Aside0.mk (Kd.R_lower ho4 (below_size (by exact HB.out)));have n1_:=Aside0.mk (below_step (by exact HB.out) hb);clear HB;have HO452:=n0_;have HB:=n1_;clear n0_ n1_;clear hb ho4)|((with_reducible refine gate_builtin (b:=.append) (xs:=#[.tmp 5,.tmp 6]) rfl ?_);at_builtin;refine Kd.R_append_rows (Kd.int .i64) (w0:=w) w.heap.size rfl (.tmp 5) (.tmp 6) 25 3 (.int .i64 0) 8 rfl Try.underlying25 info3 rfl (by decide) (by omega) v451 y450 l0 _ _ _ (fun _ => True) (fun _ => False) rfl rfl ?aO ?aR (fun _ _ h => h) (fun _ h => h.elim) ?aF ?aB ?aS ?aL ?_;(case aR => repeat (first|exact (Kd.C_below HR0.out HB.out)|(with_reducible refine Kd.C_alloc ?_ _)|(with_reducible refine Kd.C_drewN ?_ _)|(with_reducible refine Kd.C_drew ?_)));(case aB => exact (by repeat (first|(with_reducible first|exact HB.out|apply below_alloc|apply pw_below_drewN|apply below_drew1)|exact HB.out)));(case aF => exact (fun _ _ => trivial));(case aO => exact (by (with_reducible repeat (first|apply Kd.R_alloc|apply Kd.R_drewN|apply Kd.R_drew));exact HO452.out));(case aS => exact (below_size (by repeat (first|(with_reducible first|exact HB.out|apply below_alloc|apply pw_below_drewN|apply below_drew1)|exact HB.out))));(case aL => have:=LMc2.out;omega);intro v454 w5 ho hb hg hat;rw [← Ny453.out] at ho;have n0_:=Aside0.mk (hb);have n1_:=Aside0.mk (ho);clear HB;clear HO452;have HB:=n0_;have HO455:=n1_;clear n0_ n1_;clear ho hb hg hat))
  go_ret
  exact ⟨_,by first|rfl|(simp [errW_none,errW_some] <;> rfl)|(simp [*,errW_none,errW_some] <;> rfl),by (with_reducible repeat (first|apply Kd.R_alloc|apply Kd.R_drewN|apply Kd.R_drew));exact HO455.out,by repeat (first|(with_reducible first|exact HB.out|apply below_alloc|apply pw_below_drewN|apply below_drew1)|exact HB.out)⟩
 ·
  rw [if_neg c2] at H
  exact absurd H (by simp)
def slices_Clone_impl_Write.f (l0 : List (S36)) : Option ((List (S36))):=(some (([] : List (S36)) : List (S36))).bind fun y456 => (if y456.length + l0.length < 3518437208883 then (some (y456 ++ l0)) else (none))
set_option maxHeartbeats 8000000 in
set_option maxRecDepth 100000 in
theorem slices_Clone_impl_Write.calls (A0 : Option Addr) (c0 : Nat) (l0 : List (S36)) (r : List (S36)) (w : World) (hr0 : Kd.C k36 w A0 l0.length l0) (hc0 : l0.length ≤ c0) (h : slices_Clone_impl_Write.f l0 = some r) :
  Calls Try.prog 88 #[.slice A0 l0.length c0] w fun e w' => ∃ v0_ : Value,e = .returned (v0_) ∧ Kd.R k36 36 w' w.heap.size (fun _ => True) v0_ r ∧ Below w.heap.size w w':=by
 by_cases hn0_ : A0 = none
 ·
  subst hn0_
  have h0_:=C_none_ hr0
  subst h0_
  have hr_ : r = []:=by simpa [slices_Clone_impl_Write.f,eq_comm] using h
  subst hr_
  have hq0_:=fun (W_ : World) (a_ : Option Addr) (n_ m_ n2_ m2_ : Nat) => Lib.run_eql_slice_nil (P:=Try.prog) W_ 26 36 a_ n_ m_ n2_ m2_ Try.underlying26
  go_enter Try.func88,Try.ntmps88
  go_wp2
  go_ret
  exact ⟨_,rfl,Kd.R_nil _ _ _ _ _,Below.refl _ _⟩
 have hnb0_ : A0.isNone = false:=by
  cases A0 with
  | none => exact absurd rfl hn0_
  | some _ => rfl
 clear hn0_
 have hq0_:=fun (W_ : World) (a_ : Option Addr) (n_ m_ n2_ m2_ : Nat) => Lib.run_eql_slice_nil (P:=Try.prog) W_ 26 36 a_ n_ m_ n2_ m2_ Try.underlying26
 have HR0:=Aside0.mk hr0
 have HC0:=Aside0.mk hc0
 clear hr0 hc0
 have HB:=Aside0.mk (Below.refl w.heap.size w)
 have H : ((some (([] : List (S36)) : List (S36))).bind fun y456 => (if y456.length + l0.length < 3518437208883 then (some (y456 ++ l0)) else (none))) = some r:=h
 clear h
 obtain ⟨y456,hy456⟩ : ∃ y_ : List (S36),y_ = (([] : List (S36))):=⟨_,rfl⟩
 replace H : (if y456.length + l0.length < 3518437208883 then (some (y456 ++ l0)) else (none)) = some r:=by first|(rw [hy456];with_reducible exact H)|(have H2_:=(Option.bind_some _ _).symm.trans H;rw [hy456];with_reducible exact H2_)|(have H2_:=(Option.bind_some _ _).symm.trans H;with_reducible exact H2_)|with_reducible exact H|(rw [hy456];exact H)|exact H
 have Ny456:=Aside0.mk hy456
 clear hy456
 by_cases c2 : y456.length + l0.length < 3518437208883
 ·
  rw [if_pos c2] at H
  have LMc2:=Aside0.mk c2
  clear c2
  obtain ⟨y459,hy459⟩ : ∃ y_ : List (S36),y_ = (y456 ++ l0):=⟨_,rfl⟩
  replace H : (some y459) = some r:=by first|(rw [hy459];with_reducible exact H)|(have H2_:=(Option.bind_some _ _).symm.trans H;rw [hy459];with_reducible exact H2_)|(have H2_:=(Option.bind_some _ _).symm.trans H;with_reducible exact H2_)|with_reducible exact H|(rw [hy459];exact H)|exact H
  have Ny459:=Aside0.mk hy459
  clear hy459
  obtain rfl:=Option.some.inj H
  go_enter Try.func88,Try.ntmps88
  go_wp2_with (first|((with_reducible refine gate_dst (N:=5) rfl ?_);refine Kd.R_lit k36 _ 36 ?hg (N:=5) ?hd (xs:=([] : List (S36))) (inner:=[]) (ok:=fun _ => True) (okp:=fun _ => True) ?hr ?hp (fun _ hk => hk) trivial (Below.refl _ _) (Nat.le_refl _) (by simp) ?_;(case hd => rfl);(case hg => rfl);(case hr => first|(go_simp;done)|(go_simp;rfl));(case hp => exact (Reps.none _ _));intro v457 w3 ho4 hb hg_ hnew_;clear hg_ hnew_;(first|rw [← Ny456.out] at ho4|(simp only [Int.reduceToNat] at ho4;rw [← Ny456.out] at ho4));have n0_:=Aside0.mk (Kd.R_lower ho4 (below_size (by exact HB.out)));have n1_:=Aside0.mk (below_step (by exact HB.out) hb);clear HB;have HO458:=n0_;have HB:=n1_;clear n0_ n1_;clear hb ho4)|((with_reducible refine gate_builtin (b:=.append) (xs:=#[.tmp 5,.tmp 6]) rfl ?_);at_builtin;refine Kd.R_append_rows k36 (w0:=w) w.heap.size rfl (.tmp 5) (.tmp 6) 26 36 (.agg #[(.int .i64 0),(.int .i64 0),(.int .i64 0),(.string ⟨#[]⟩)]) 40 rfl Try.underlying26 info36 rfl (by decide) (by omega) v457 y456 l0 _ _ _ (fun _ => True) (fun _ => False) rfl rfl ?aO ?aR (fun _ _ h => h) (fun _ h => h.elim) ?aF ?aB ?aS ?aL ?_;(case aR => repeat (first|exact (Kd.C_below HR0.out HB.out)|(with_reducible refine Kd.C_alloc ?_ _)|(with_reducible refine Kd.C_drewN ?_ _)|(with_reducible refine Kd.C_drew ?_)));(case aB => exact (by repeat (first|(with_reducible first|exact HB.out|apply below_alloc|apply pw_below_drewN|apply below_drew1)|exact HB.out)));(case aF => exact (fun _ _ => trivial));(case aO => exact (by (with_reducible repeat (first|apply Kd.R_alloc|apply Kd.R_drewN|apply Kd.R_drew));exact HO458.out));(case aS => exact (below_size (by repeat (first|(with_reducible first|exact HB.out|apply below_alloc|apply pw_below_drewN|apply below_drew1)|exact HB.out))));(case aL => have:=LMc2.out;omega);intro v460 w5 ho hb hg hat;rw [← Ny459.out] at ho;have n0_:=Aside0.mk (hb);have n1_:=Aside0.mk (ho);clear HB;clear HO458;have HB:=n0_;have HO461:=n1_;clear n0_ n1_;clear ho hb hg hat))
  go_ret
  exact ⟨_,by first|rfl|(simp [errW_none,errW_some] <;> rfl)|(simp [*,errW_none,errW_some] <;> rfl),by (with_reducible repeat (first|apply Kd.R_alloc|apply Kd.R_drewN|apply Kd.R_drew));exact HO461.out,by repeat (first|(with_reducible first|exact HB.out|apply below_alloc|apply pw_below_drewN|apply below_drew1)|exact HB.out)⟩
 ·
  rw [if_neg c2] at H
  exact absurd H (by simp)
end Go.Proofs.Ytiejilaahkkhmaa.P
