-- Ours: printed or written for this claim; cut to what the theorem needs.
import Derived.Test.YtiejilaahkkhmaaZPx0
import Derived.Test.YtiejilaahkkhmaaZPx17
namespace Go.Proofs.Ytiejilaahkkhmaa.P
open Go.RowKit Go.Proofs.YtiejilaahkkhmaaW.PrintWords Go.Proofs.YtiejilaahkkhmaaW.PrintLast Go.Proofs.YtiejilaahkkhmaaW.PrintMore
attribute [local go_sem] max2_int min2_int max_two min_two max_three min_three max_four min_four
set_option linter.unusedVariables false
set_option linter.unusedSimpArgs false
def slices_ContainsFunc_impl_Write_at_under_1.f (k : Nat) (l0 : List (S36)) (a1_0 : Int) (a1_1 : Int) : Option (Bool):=(slices_IndexFunc_impl_Write_at_under_1.f k l0 a1_0 a1_1).bind fun t507 => (some (decide (t507 ≥ 0)))
set_option maxHeartbeats 8000000 in
set_option maxRecDepth 100000 in
theorem slices_ContainsFunc_impl_Write_at_under_1.calls (k : Nat) (A0 : Option Addr) (c0 : Nat) (l0 : List (S36)) (gq1_0 : Nat) (gq1_1 : Nat) (a1_0 : Int) (a1_1 : Int) (r : Bool) (w : World) (hb46_ : w.heap[gq1_0]? = some (.cells #[.int .i64 a1_0] 3 (0,0))) (hb47_ : w.heap[gq1_1]? = some (.cells #[.int .i64 a1_1] 3 (0,0))) (hr0 : Kd.C k36 w A0 l0.length l0) (hc0 : l0.length ≤ c0) (h : slices_ContainsFunc_impl_Write_at_under_1.f k l0 a1_0 a1_1 = some r) :
  Calls Try.prog 82 #[.slice A0 l0.length c0,.func (.func 105) #[] #[.pointer (some ⟨gq1_0,0,none⟩),.pointer (some ⟨gq1_1,0,none⟩)]] w fun e w' => e = .returned (.bool r) ∧ Below w.heap.size w w':=by
 have HR0:=Aside0.mk hr0
 have HC0:=Aside0.mk hc0
 clear hr0 hc0
 have BK46:=Aside0.mk hb46_
 clear hb46_
 have BK47:=Aside0.mk hb47_
 clear hb47_
 have HB:=Aside0.mk (Below.refl w.heap.size w)
 have H : ((slices_IndexFunc_impl_Write_at_under_1.f k l0 a1_0 a1_1).bind fun t507 => (some (decide (t507 ≥ 0)))) = some r:=h
 clear h
 replace H:=Option.bind_eq_some_iff.mp H
 obtain ⟨t507,A30,H⟩:=H
 replace H : (some (decide (t507 ≥ 0))) = some r:=H
 have A3:=Aside0.mk A30
 clear A30
 obtain rfl:=Option.some.inj H
 go_enter Try.func82,Try.ntmps82
 go_wp2_with (first|((with_reducible refine gate_callee (f:=103) rfl ?_);refine goesL_ (some 7) rfl rfl Try.func103 (by kernel_rfl) rfl #[.slice A0 l0.length c0,.func (.func 105) #[] #[.pointer (some ⟨gq1_0,0,none⟩),.pointer (some ⟨gq1_1,0,none⟩)]] rfl (by (try simp only [List.map_toArray,List.map_cons,List.map_nil]);first|done|rfl|(simp only [List.length_drop,List.length_take];rfl)) ?_;(with_reducible refine (slices_IndexFunc_impl_Write_at_under_1.calls k _ _ l0 gq1_0 gq1_1 a1_0 a1_1 t507 _ ?side1 ?side2 ?side3 ?side4 A3.out).mono ?_);(case side1 => exact (by exact BK46.out));(case side2 => exact (by exact BK47.out));(case side3 => repeat (first|exact HR0.out|(with_reducible refine Kd.C_alloc ?_ _)|(with_reducible refine Kd.C_drewN ?_ _)|(with_reducible refine Kd.C_drew ?_)));(case side4 => exact HC0.out);rintro e w4 ⟨rfl,hb⟩;refine ⟨_,rfl,?_⟩;have n0_:=Aside0.mk (blk_below BK46.out hb);have n1_:=Aside0.mk (blk_below BK47.out hb);have n2_:=Aside0.mk (below_step (by exact HB.out) hb);clear BK46;clear BK47;clear HB;have BK46:=n0_;have BK47:=n1_;have HB:=n2_;clear n0_ n1_ n2_;(try clear hb);(try clear hb2);(try clear hk);(try clear hi)))
 go_ret
 exact ⟨by first|rfl|(simp [errW_none,errW_some] <;> rfl)|(simp [*,errW_none,errW_some] <;> rfl),by repeat (first|(with_reducible first|exact HB.out|apply below_alloc|apply pw_below_drewN|apply below_drew1|refine below_set ?_ GE46.out|refine below_set ?_ GE47.out)|exact HB.out)⟩
def impl_under.f (k : Nat) (l0 : List (S36)) (a1 : Int) (a2 : Int) : Option (Bool):=(slices_ContainsFunc_impl_Write_at_under_1.f k l0 a1 a2).bind fun t510 => (some t510)
set_option maxHeartbeats 8000000 in
set_option maxRecDepth 100000 in
theorem impl_under.calls (k : Nat) (A0 : Option Addr) (c0 : Nat) (l0 : List (S36)) (a1 : Int) (a2 : Int) (r : Bool) (w : World) (hr0 : Kd.C k36 w A0 l0.length l0) (hc0 : l0.length ≤ c0) (h : impl_under.f k l0 a1 a2 = some r) :
  Calls Try.prog 90 #[.slice A0 l0.length c0,.int .i64 a1,.int .i64 a2] w fun e w' => e = .returned (.bool r) ∧ Below w.heap.size w w':=by
 have HR0:=Aside0.mk hr0
 have HC0:=Aside0.mk hc0
 clear hr0 hc0
 have HB:=Aside0.mk (Below.refl w.heap.size w)
 have H : ((slices_ContainsFunc_impl_Write_at_under_1.f k l0 a1 a2).bind fun t510 => (some t510)) = some r:=h
 clear h
 replace H:=Option.bind_eq_some_iff.mp H
 obtain ⟨t510,A40,H⟩:=H
 replace H : (some t510) = some r:=H
 have A4:=Aside0.mk A40
 clear A40
 obtain rfl:=Option.some.inj H
 go_enter Try.func90,Try.ntmps90
 go_wp2_with (first|((with_reducible refine gate_dst (N:=4) rfl ?_);refine box_event ?hg (N:=4) ?hd (cs:=#[.int .i64 a1]) (t:=3) ?hr ?_;(case hd => rfl);(case hg => rfl);(case hr => first|(go_simp;done)|(go_simp;rfl));intro gb508 hg w5 hbox hb;have n0_:=Aside0.mk (below_step (by exact HB.out) hb);have n1_:=Aside0.mk (hbox);have n2_:=Aside0.mk ((by rw [hg];exact (below_size (by exact HB.out)) : w.heap.size ≤ gb508));have n3_:=Aside0.mk ((by rw [hg];exact (below_size (by exact HB.out)) : w.heap.size ≤ gb508));clear HB;have HB:=n0_;have BK508:=n1_;have GW508:=n2_;have GE508:=n3_;clear n0_ n1_ n2_ n3_;clear hb hbox hg)|((with_reducible refine gate_dst (N:=5) rfl ?_);refine box_event ?hg (N:=5) ?hd (cs:=#[.int .i64 a2]) (t:=3) ?hr ?_;(case hd => rfl);(case hg => rfl);(case hr => first|(go_simp;done)|(go_simp;rfl));intro gb509 hg w6 hbox hb;have n0_:=Aside0.mk (blk_below BK508.out hb);have n1_:=Aside0.mk (below_step (by exact HB.out) hb);have n2_:=Aside0.mk (hbox);have n3_:=Aside0.mk ((by rw [hg];exact (below_size (by exact HB.out)) : w.heap.size ≤ gb509));have n4_:=Aside0.mk ((by rw [hg];exact (below_size (by exact HB.out)) : w.heap.size ≤ gb509));have n5_:=Aside0.mk ((by rw [hg];exact Nat.ne_of_lt (blk_lt BK508.out) : gb508 ≠ gb509));have n6_:=Aside0.mk ((by rw [hg];exact Nat.ne_of_gt (blk_lt BK508.out) : gb509 ≠ gb508));clear BK508;clear HB;have BK508:=n0_;have HB:=n1_;have BK509:=n2_;have GW509:=n3_;have GE509:=n4_;have NB508_509:=n5_;have NB509_508:=n6_;clear n0_ n1_ n2_ n3_ n4_ n5_ n6_;clear hb hbox hg)|((with_reducible refine gate_callee (f:=82) rfl ?_);refine goesL_ (some 9) rfl rfl Try.func82 (by kernel_rfl) rfl #[.slice A0 l0.length c0,.func (.func 105) #[] #[.pointer (some ⟨gb508,0,none⟩),.pointer (some ⟨gb509,0,none⟩)]] rfl (by (try simp only [List.map_toArray,List.map_cons,List.map_nil]);first|done|rfl|(simp only [List.length_drop,List.length_take];rfl)) ?_;(with_reducible refine (slices_ContainsFunc_impl_Write_at_under_1.calls k _ _ l0 gb508 gb509 a1 a2 t510 _ ?side1 ?side2 ?side3 ?side4 A4.out).mono ?_);(case side1 => exact (by exact BK508.out));(case side2 => exact (by exact BK509.out));(case side3 => repeat (first|exact (Kd.C_below HR0.out HB.out)|(with_reducible refine Kd.C_alloc ?_ _)|(with_reducible refine Kd.C_drewN ?_ _)|(with_reducible refine Kd.C_drew ?_)));(case side4 => exact HC0.out);rintro e w7 ⟨rfl,hb⟩;refine ⟨_,rfl,?_⟩;have n0_:=Aside0.mk (blk_below BK508.out hb);have n1_:=Aside0.mk (blk_below BK509.out hb);have n2_:=Aside0.mk (below_step (by exact HB.out) hb);clear BK508;clear BK509;clear HB;have BK508:=n0_;have BK509:=n1_;have HB:=n2_;clear n0_ n1_ n2_;(try clear hb);(try clear hb2);(try clear hk);(try clear hi)))
 go_ret
 exact ⟨by first|rfl|(simp [errW_none,errW_some] <;> rfl)|(simp [*,errW_none,errW_some] <;> rfl),by repeat (first|(with_reducible first|exact HB.out|apply below_alloc|apply pw_below_drewN|apply below_drew1|refine below_set ?_ GE508.out|refine below_set ?_ GE509.out)|exact HB.out)⟩
end Go.Proofs.Ytiejilaahkkhmaa.P
