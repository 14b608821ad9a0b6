-- Ours: printed or written for this claim; cut to what the theorem needs.
import Derived.Test.YtipolbckgifnbaaZPx0
import Derived.Test.YtipolbckgifnbaaZPx4
import Derived.Test.YtipolbckgifnbaaZPx7
import Derived.Test.YtipolbckgifnbaaZPx8
namespace Go.Proofs.Ytipolbckgifnbaa.P
open Go.RowKit Go.Proofs.YtipolbckgifnbaaW.PrintWords Go.Proofs.YtipolbckgifnbaaW.PrintLast Go.Proofs.YtipolbckgifnbaaW.PrintMore
attribute [local go_sem] max2_int min2_int max_two min_two max_three min_three max_four min_four
set_option linter.unusedVariables false
set_option linter.unusedSimpArgs false
mutual
def impl_MirrorPut.j0 : Nat → ByteArray → ByteArray → Int → ByteArray → Bool → Option (ByteArray × ByteArray)
  | 0,_,_,_,_,_ => none
  | k + 1,x0,x1,x3,x12,x14 => if x3 ≥ 1 then (if x14 = true then (impl_MirrorPut.j1 k x0 x1 x3 x12 x14 true) else (if x3 ≥ 2 then (impl_MirrorPut.j1 k x0 x1 x3 x12 x14 (!x14)) else (impl_MirrorPut.j1 k x0 x1 x3 x12 x14 false))) else (if x3 ≥ 2 then (impl_MirrorPut.j1 k x0 x1 x3 x12 x14 (!x14)) else (impl_MirrorPut.j1 k x0 x1 x3 x12 x14 false))
def impl_MirrorPut.j1 : Nat → ByteArray → ByteArray → Int → ByteArray → Bool → Bool → Option (ByteArray × ByteArray)
  | 0,_,_,_,_,_,_ => none
  | k + 1,x0,x1,x3,x12,x14,x56 => if x56 = true then (if x3 ≥ 1 then (if x14 = true then (if x3 ≥ 2 then (some (x12,x12)) else (some (x12,x1))) else (some (x12,x12))) else (if x3 ≥ 2 then (if x14 = true then (some (x12,x12)) else (some (x12,x1))) else (some (x12,x1)))) else (if x3 ≥ 1 then (if x14 = true then (if x3 ≥ 2 then (some (x0,x12)) else (some (x0,x1))) else (some (x0,x12))) else (if x3 ≥ 2 then (if x14 = true then (some (x0,x12)) else (some (x0,x1))) else (some (x0,x1))))
end
def impl_MirrorPut.f (k : Nat) (a0 : ByteArray) (a1 : ByteArray) (a2 : ByteArray) (a3 : Int) : Option (ByteArray × ByteArray):=(impl_MirrorRead.f k a0 a1).bind fun bt238 => ((impl_ShowCopy.f k (wrap64 (bt238.1 + 1)) a2).bind fun t242 => (if t242.toList = ([] : List UInt8) then (some (a0,a1)) else ((impl_ShowCopy.f k bt238.1 bt238.2.1).bind fun t243 => (if bt238.2.2 = true then (if a0.toList = t243.toList then (impl_MirrorPut.j0 k a0 a1 a3 t242 false) else (impl_MirrorPut.j0 k a0 a1 a3 t242 (a1.toList == t243.toList))) else (impl_MirrorPut.j0 k a0 a1 a3 t242 false)))))
set_option maxHeartbeats 8000000 in
set_option maxRecDepth 100000 in
theorem impl_MirrorPut.calls (k : Nat) (a0 : ByteArray) (a1 : ByteArray) (a2 : ByteArray) (a3 : Int) (r1 : ByteArray) (r2 : ByteArray) (w : World) (h : impl_MirrorPut.f k a0 a1 a2 a3 = some (r1,r2)) :
  Calls Try.prog 21 #[.string a0,.string a1,.string a2,.int .i64 a3] w fun e w' => e = .returned (.tuple #[.string r1,.string r2]) ∧ Below w.heap.size w w':=by
 have hu26:=Try.underlying26
 have HB:=Aside0.mk (Below.refl w.heap.size w)
 have H : ((impl_MirrorRead.f k a0 a1).bind fun bt238 => ((impl_ShowCopy.f k (wrap64 (bt238.1 + 1)) a2).bind fun t242 => (if t242.toList = ([] : List UInt8) then (some (a0,a1)) else ((impl_ShowCopy.f k bt238.1 bt238.2.1).bind fun t243 => (if bt238.2.2 = true then (if a0.toList = t243.toList then (impl_MirrorPut.j0 k a0 a1 a3 t242 false) else (impl_MirrorPut.j0 k a0 a1 a3 t242 (a1.toList == t243.toList))) else (impl_MirrorPut.j0 k a0 a1 a3 t242 false)))))) = some (r1,r2):=h
 clear h
 replace H:=Option.bind_eq_some_iff.mp H
 obtain ⟨⟨t238,t239,t240⟩,A50,H⟩:=H
 replace H : ((impl_ShowCopy.f k (wrap64 (t238 + 1)) a2).bind fun t242 => (if t242.toList = ([] : List UInt8) then (some (a0,a1)) else ((impl_ShowCopy.f k t238 t239).bind fun t243 => (if t240 = true then (if a0.toList = t243.toList then (impl_MirrorPut.j0 k a0 a1 a3 t242 false) else (impl_MirrorPut.j0 k a0 a1 a3 t242 (a1.toList == t243.toList))) else (impl_MirrorPut.j0 k a0 a1 a3 t242 false))))) = some (r1,r2):=H
 have A5:=Aside0.mk A50
 clear A50
 replace H:=Option.bind_eq_some_iff.mp H
 obtain ⟨t242,A60,H⟩:=H
 replace H : (if t242.toList = ([] : List UInt8) then (some (a0,a1)) else ((impl_ShowCopy.f k t238 t239).bind fun t243 => (if t240 = true then (if a0.toList = t243.toList then (impl_MirrorPut.j0 k a0 a1 a3 t242 false) else (impl_MirrorPut.j0 k a0 a1 a3 t242 (a1.toList == t243.toList))) else (impl_MirrorPut.j0 k a0 a1 a3 t242 false)))) = some (r1,r2):=H
 have A6:=Aside0.mk A60
 clear A60
 by_cases c7 : t242.toList = ([] : List UInt8)
 ·
  rw [if_pos c7] at H
  have c7b0 : (t242.toList == ([] : List UInt8)) = true:=beq_iff_eq.mpr c7
  have c7b1 : (t242.toList != ([] : List UInt8)) = false:=bne_eq_false_iff_eq.mpr c7
  (try (have c7b2 : t242.toList.isEmpty = true:=by simpa using c7))
  clear c7
  simp only [Option.some.injEq,Prod.mk.injEq] at H
  obtain ⟨rfl,rfl⟩:=H
  go_enter Try.func21,Try.ntmps21
  go_wp2_with (first|((with_reducible refine gate_callee (f:=17) rfl ?_);refine goesL_ (some 18) rfl rfl Try.func17 (by kernel_rfl) rfl #[.string a0,.string a1] rfl (by (try simp only [List.map_toArray,List.map_cons,List.map_nil]);first|done|rfl|(simp only [List.length_drop,List.length_take];rfl)) ?_;(with_reducible refine (impl_MirrorRead.calls k a0 a1 t238 t239 t240 _ A5.out).mono ?_);rintro e w8 ⟨rfl,hb⟩;refine ⟨_,rfl,?_⟩;have n0_:=Aside0.mk (below_step (by repeat (first|(with_reducible first|exact HB.out|apply below_alloc|apply pw_below_drewN|apply below_drew1)|exact HB.out)) hb);clear HB;have HB:=n0_;clear n0_;(try clear hb);(try clear hb2);(try clear hk);(try clear hi))|((with_reducible refine gate_dst (N:=10) rfl ?_);refine box_event ?hg (N:=10) ?hd (cs:=#[.int .i64 0,.string (⟨#[]⟩ : ByteArray)]) (t:=26) ?hr ?_;(case hd => rfl);(case hg => rfl);(case hr => first|(go_simp;done)|(go_simp;rfl));intro gb241 hg w9 hbox hb;have n0_:=Aside0.mk (below_step (by repeat (first|(with_reducible first|exact HB.out|apply below_alloc|apply pw_below_drewN|apply below_drew1)|exact HB.out)) hb);have n1_:=Aside0.mk (hbox);have n2_:=Aside0.mk ((by rw [hg];exact (below_size (by repeat (first|(with_reducible first|exact HB.out|apply below_alloc|apply pw_below_drewN|apply below_drew1)|exact HB.out))) : w.heap.size ≤ gb241));have n3_:=Aside0.mk ((by rw [hg];exact (below_size (by repeat (first|(with_reducible first|exact HB.out|apply below_alloc|apply pw_below_drewN|apply below_drew1)|exact HB.out))) : w.heap.size ≤ gb241));clear HB;have HB:=n0_;have BK241:=n1_;have GW241:=n2_;have GE241:=n3_;clear n0_ n1_ n2_ n3_;clear hb hbox hg;have hcz10_0 : w9.cell? ⟨gb241,0,none⟩ = some (.int .i64 0):=(blk_cell BK241.out 0).trans rfl;have hcz10_1 : w9.cell? ⟨gb241,1,none⟩ = some (.string (⟨#[]⟩ : ByteArray)):=(blk_cell BK241.out 1).trans rfl;have hfz10_0:=blk_frozen BK241.out 0;have hfz10_1:=blk_frozen BK241.out 1)|((with_reducible refine gate_callee (f:=12) rfl ?_);refine goesL_ (some 26) rfl rfl Try.func12 (by kernel_rfl) rfl #[.agg #[.int .i64 (wrap64 (t238 + 1)),.string a2]] rfl (by (try simp only [List.map_toArray,List.map_cons,List.map_nil]);first|done|rfl|(simp only [List.length_drop,List.length_take];rfl)) ?_;(with_reducible refine (impl_ShowCopy.calls k (wrap64 (t238 + 1)) a2 t242 _ A6.out).mono ?_);rintro e w11 ⟨rfl,hb⟩;refine ⟨_,rfl,?_⟩;have n0_:=Aside0.mk (blk_below (g:=gb241) (o:=.cells #[.int .i64 t238,.string t239] 26 (0,0)) (by (with_reducible repeat (first|refine blk_drewN ?_ _|refine blk_drew ?_|refine blk_alloc ?_ _));refine blk_put (cs:=#[.int .i64 t238,.string (⟨#[]⟩ : ByteArray)]) ?_ 1 _ rfl;(with_reducible repeat (first|refine blk_drewN ?_ _|refine blk_drew ?_|refine blk_alloc ?_ _));refine blk_put (cs:=#[.int .i64 0,.string (⟨#[]⟩ : ByteArray)]) ?_ 0 _ rfl;(with_reducible repeat (first|refine blk_drewN ?_ _|refine blk_drew ?_|refine blk_alloc ?_ _));exact BK241.out) hb);have n1_:=Aside0.mk (below_step (by repeat (first|(with_reducible first|exact HB.out|apply below_alloc|apply pw_below_drewN|apply below_drew1|refine below_set ?_ GE241.out)|exact HB.out)) hb);clear BK241;clear HB;have BK241:=n0_;have HB:=n1_;clear n0_ n1_;(try clear hb);(try clear hb2);(try clear hk);(try clear hi)))
  go_ret2
  exact ⟨by first|rfl|(simp [errW_none,errW_some] <;> rfl)|(simp [*,errW_none,errW_some] <;> rfl),by repeat (first|(with_reducible first|exact HB.out|apply below_alloc|apply pw_below_drewN|apply below_drew1|refine below_set ?_ GE241.out)|exact HB.out)⟩
 ·
  rw [if_neg c7] at H
  have c7b0 : (t242.toList == ([] : List UInt8)) = false:=beq_eq_false_iff_ne.mpr c7
  have c7b1 : (t242.toList != ([] : List UInt8)) = true:=bne_iff_ne.mpr c7
  (try (have c7b2 : t242.toList.isEmpty = false:=by simpa using c7))
  replace H:=Option.bind_eq_some_iff.mp H
  obtain ⟨t243,A120,H⟩:=H
  replace H : (if t240 = true then (if a0.toList = t243.toList then (impl_MirrorPut.j0 k a0 a1 a3 t242 false) else (impl_MirrorPut.j0 k a0 a1 a3 t242 (a1.toList == t243.toList))) else (impl_MirrorPut.j0 k a0 a1 a3 t242 false)) = some (r1,r2):=H
  have A12:=Aside0.mk A120
  clear A120
  have HC13:=Aside0.mk H
  clear H
  go_enter Try.func21,Try.ntmps21
  go_upto_region 6 with (first|((with_reducible refine gate_callee (f:=17) rfl ?_);refine goesL_ (some 18) rfl rfl Try.func17 (by kernel_rfl) rfl #[.string a0,.string a1] rfl (by (try simp only [List.map_toArray,List.map_cons,List.map_nil]);first|done|rfl|(simp only [List.length_drop,List.length_take];rfl)) ?_;(with_reducible refine (impl_MirrorRead.calls k a0 a1 t238 t239 t240 _ A5.out).mono ?_);rintro e w14 ⟨rfl,hb⟩;refine ⟨_,rfl,?_⟩;have n0_:=Aside0.mk (below_step (by repeat (first|(with_reducible first|exact HB.out|apply below_alloc|apply pw_below_drewN|apply below_drew1)|exact HB.out)) hb);clear HB;have HB:=n0_;clear n0_;(try clear hb);(try clear hb2);(try clear hk);(try clear hi))|((with_reducible refine gate_dst (N:=10) rfl ?_);refine box_event ?hg (N:=10) ?hd (cs:=#[.int .i64 0,.string (⟨#[]⟩ : ByteArray)]) (t:=26) ?hr ?_;(case hd => rfl);(case hg => rfl);(case hr => first|(go_simp;done)|(go_simp;rfl));intro gb241 hg w15 hbox hb;have n0_:=Aside0.mk (below_step (by repeat (first|(with_reducible first|exact HB.out|apply below_alloc|apply pw_below_drewN|apply below_drew1)|exact HB.out)) hb);have n1_:=Aside0.mk (hbox);have n2_:=Aside0.mk ((by rw [hg];exact (below_size (by repeat (first|(with_reducible first|exact HB.out|apply below_alloc|apply pw_below_drewN|apply below_drew1)|exact HB.out))) : w.heap.size ≤ gb241));have n3_:=Aside0.mk ((by rw [hg];exact (below_size (by repeat (first|(with_reducible first|exact HB.out|apply below_alloc|apply pw_below_drewN|apply below_drew1)|exact HB.out))) : w.heap.size ≤ gb241));clear HB;have HB:=n0_;have BK241:=n1_;have GW241:=n2_;have GE241:=n3_;clear n0_ n1_ n2_ n3_;clear hb hbox hg;have hcz16_0 : w15.cell? ⟨gb241,0,none⟩ = some (.int .i64 0):=(blk_cell BK241.out 0).trans rfl;have hcz16_1 : w15.cell? ⟨gb241,1,none⟩ = some (.string (⟨#[]⟩ : ByteArray)):=(blk_cell BK241.out 1).trans rfl;have hfz16_0:=blk_frozen BK241.out 0;have hfz16_1:=blk_frozen BK241.out 1)|((with_reducible refine gate_callee (f:=12) rfl ?_);refine goesL_ (some 26) rfl rfl Try.func12 (by kernel_rfl) rfl #[.agg #[.int .i64 (wrap64 (t238 + 1)),.string a2]] rfl (by (try simp only [List.map_toArray,List.map_cons,List.map_nil]);first|done|rfl|(simp only [List.length_drop,List.length_take];rfl)) ?_;(with_reducible refine (impl_ShowCopy.calls k (wrap64 (t238 + 1)) a2 t242 _ A6.out).mono ?_);rintro e w17 ⟨rfl,hb⟩;refine ⟨_,rfl,?_⟩;have n0_:=Aside0.mk (blk_below (g:=gb241) (o:=.cells #[.int .i64 t238,.string t239] 26 (0,0)) (by (with_reducible repeat (first|refine blk_drewN ?_ _|refine blk_drew ?_|refine blk_alloc ?_ _));refine blk_put (cs:=#[.int .i64 t238,.string (⟨#[]⟩ : ByteArray)]) ?_ 1 _ rfl;(with_reducible repeat (first|refine blk_drewN ?_ _|refine blk_drew ?_|refine blk_alloc ?_ _));refine blk_put (cs:=#[.int .i64 0,.string (⟨#[]⟩ : ByteArray)]) ?_ 0 _ rfl;(with_reducible repeat (first|refine blk_drewN ?_ _|refine blk_drew ?_|refine blk_alloc ?_ _));exact BK241.out) hb);have n1_:=Aside0.mk (below_step (by repeat (first|(with_reducible first|exact HB.out|apply below_alloc|apply pw_below_drewN|apply below_drew1|refine below_set ?_ GE241.out)|exact HB.out)) hb);clear BK241;clear HB;have BK241:=n0_;have HB:=n1_;clear n0_ n1_;(try clear hb);(try clear hb2);(try clear hk);(try clear hi);have hcz18_0 : w17.cell? ⟨gb241,0,none⟩ = some (.int .i64 t238):=(blk_cell BK241.out 0).trans rfl;have hcz18_1 : w17.cell? ⟨gb241,1,none⟩ = some (.string t239):=(blk_cell BK241.out 1).trans rfl;have hfz18_0:=blk_frozen BK241.out 0;have hfz18_1:=blk_frozen BK241.out 1)|((with_reducible refine gate_callee (f:=12) rfl ?_);refine goesL_ (some 32) rfl rfl Try.func12 (by kernel_rfl) rfl #[.agg #[.int .i64 t238,.string t239]] rfl (by (try simp only [List.map_toArray,List.map_cons,List.map_nil]);first|done|rfl|(simp only [List.length_drop,List.length_take];rfl)) ?_;(with_reducible refine (impl_ShowCopy.calls k t238 t239 t243 _ A12.out).mono ?_);rintro e w19 ⟨rfl,hb⟩;refine ⟨_,rfl,?_⟩;have n0_:=Aside0.mk (blk_below (g:=gb241) (o:=.cells #[.int .i64 t238,.string t239] 26 (0,0)) (by (with_reducible repeat (first|refine blk_drewN ?_ _|refine blk_drew ?_|refine blk_alloc ?_ _));exact BK241.out) hb);have n1_:=Aside0.mk (below_step (by repeat (first|(with_reducible first|exact HB.out|apply below_alloc|apply pw_below_drewN|apply below_drew1|refine below_set ?_ GE241.out)|exact HB.out)) hb);clear BK241;clear HB;have BK241:=n0_;have HB:=n1_;clear n0_ n1_;(try clear hb);(try clear hb2);(try clear hk);(try clear hi)))
  (try simp only [Act.put,List.setIfInBounds_toArray,List.set_cons_zero,List.set_cons_succ])
  go_cut [14] (fun v14 wc => ∃ (kq : Nat) (x14_12 : Bool),v14 = .bool x14_12 ∧ Aside0 (impl_MirrorPut.j0 kq a0 a1 a3 t242 x14_12 = some (r1,r2)) ∧ Aside0 (kq ≤ k) ∧ Aside0 (wc.heap[gb241]? = some (.cells #[.int .i64 t238,.string t239] 26 (0,0))) ∧ Aside0 (Below w.heap.size w wc))
  case first =>
   have H:=HC13.out
   clear HC13
   by_cases c20 : t240 = true
   ·
    subst c20
    have H1 : (if a0.toList = t243.toList then (impl_MirrorPut.j0 k a0 a1 a3 t242 false) else (impl_MirrorPut.j0 k a0 a1 a3 t242 (a1.toList == t243.toList))) = some (r1,r2):=by rw [if_pos rfl] at H;exact H
    clear H
    have H:=H1
    clear H1
    by_cases c21 : a0.toList = t243.toList
    ·
     rw [if_pos c21] at H
     have c21b0 : (a0.toList == t243.toList) = true:=beq_iff_eq.mpr c21
     have c21b1 : (a0.toList != t243.toList) = false:=bne_eq_false_iff_eq.mpr c21
     clear c21
     (first|rw [c21b0]|(simp only [i64_w,i32_w];rw [c21b0])|rw [c21b2]|skip)
     have H':=Aside0.mk H
     clear H
     go_wp2
     go_meet
     case rel => exact ⟨_,(false),(by first|rfl|(simp;done)|(simp [*];done)),H',⟨by first|omega|exact Nat.le_refl _⟩,⟨by (with_reducible repeat (first|refine blk_drewN ?_ _|refine blk_drew ?_|refine blk_alloc ?_ _));exact BK241.out⟩,⟨by repeat (first|(with_reducible first|exact HB.out|apply below_alloc|apply pw_below_drewN|apply below_drew1|refine below_set ?_ GE241.out)|exact HB.out)⟩⟩
    ·
     rw [if_neg c21] at H
     have c21b0 : (a0.toList == t243.toList) = false:=beq_eq_false_iff_ne.mpr c21
     have c21b1 : (a0.toList != t243.toList) = true:=bne_iff_ne.mpr c21
     (first|rw [c21b0]|(simp only [i64_w,i32_w];rw [c21b0])|rw [c21b2]|skip)
     have H':=Aside0.mk H
     clear H
     go_wp2
     go_meet
     case rel => exact ⟨_,((a1.toList == t243.toList)),(by first|rfl|(simp;done)|(simp [*];done)),H',⟨by first|omega|exact Nat.le_refl _⟩,⟨by (with_reducible repeat (first|refine blk_drewN ?_ _|refine blk_drew ?_|refine blk_alloc ?_ _));exact BK241.out⟩,⟨by repeat (first|(with_reducible first|exact HB.out|apply below_alloc|apply pw_below_drewN|apply below_drew1|refine below_set ?_ GE241.out)|exact HB.out)⟩⟩
   ·
    replace c20:=Bool.eq_false_iff.mpr c20
    subst c20
    have H1 : (impl_MirrorPut.j0 k a0 a1 a3 t242 false) = some (r1,r2):=by rw [if_neg (show ¬ (false = true) by decide)] at H;exact H
    clear H
    have H:=H1
    clear H1
    have H':=Aside0.mk H
    clear H
    go_wp2
    go_meet
    case rel => exact ⟨_,(false),(by first|rfl|(simp;done)|(simp [*];done)),H',⟨by first|omega|exact Nat.le_refl _⟩,⟨by (with_reducible repeat (first|refine blk_drewN ?_ _|refine blk_drew ?_|refine blk_alloc ?_ _));exact BK241.out⟩,⟨by repeat (first|(with_reducible first|exact HB.out|apply below_alloc|apply pw_below_drewN|apply below_drew1|refine below_set ?_ GE241.out)|exact HB.out)⟩⟩
  case rest =>
   clear HC13
   try clear c1
   try clear c2
   try clear p2
   try clear p6
   try clear c7
   try clear c7b0
   try clear c7b1
   try clear c7b2
   try clear c12
   try clear c17
   try clear c20
   try clear c21
   try clear c21b0
   try clear c21b1
   try clear c21b2
   try clear hcz10_0
   try clear hcz10_1
   try clear hcz16_0
   try clear hcz16_1
   try clear hcz18_0
   try clear hcz18_1
   try clear hfz10_0
   try clear hfz10_1
   try clear hfz16_0
   try clear hfz16_1
   try clear hfz18_0
   try clear hfz18_1
   obtain ⟨kq,x14_12,rfl,HA,HJ12,BK241,HB⟩:=hcut
   cases kq with
   | zero => exact absurd HA.out (by simp [impl_MirrorPut.j0])
   | succ kj12 =>
    have H:=HA.out
    clear HA
    simp only [impl_MirrorPut.j0] at H
    have HC22:=Aside0.mk H
    clear H
    go_upto_region 7 with (fail)
    go_cut [56] (fun v56 wc => ∃ (kq : Nat) (x56_21 : Bool),v56 = .bool x56_21 ∧ Aside0 (impl_MirrorPut.j1 kq a0 a1 a3 t242 x14_12 x56_21 = some (r1,r2)) ∧ Aside0 (kq ≤ kj12) ∧ Aside0 (wc.heap[gb241]? = some (.cells #[.int .i64 t238,.string t239] 26 (0,0))) ∧ Aside0 (Below w.heap.size w wc))
    case first =>
     have H:=HC22.out
     clear HC22
     by_cases c23 : a3 ≥ 1
     ·
      rw [if_pos c23] at H
      have c23b0 : decide (1 ≤ a3) = true:=decide_eq_true c23
      clear c23
      (first|rw [c23b0]|(simp only [i64_w,i32_w];rw [c23b0])|rw [c23b2]|skip)
      by_cases c24 : x14_12 = true
      ·
       subst c24
       have H1 : (impl_MirrorPut.j1 kj12 a0 a1 a3 t242 true true) = some (r1,r2):=by rw [if_pos rfl] at H;exact H
       clear H
       have H:=H1
       clear H1
       have H':=Aside0.mk H
       clear H
       go_wp2
       go_meet
       case rel => exact ⟨_,(true),(by first|rfl|(simp;done)|(simp [*];done)),H',⟨by have:=HJ12.out;first|omega|exact Nat.le_refl _⟩,⟨by (with_reducible repeat (first|refine blk_drewN ?_ _|refine blk_drew ?_|refine blk_alloc ?_ _));exact BK241.out⟩,⟨by repeat (first|(with_reducible first|exact HB.out|apply below_alloc|apply pw_below_drewN|apply below_drew1|refine below_set ?_ GE241.out)|exact HB.out)⟩⟩
      ·
       replace c24:=Bool.eq_false_iff.mpr c24
       subst c24
       have H1 : (if a3 ≥ 2 then (impl_MirrorPut.j1 kj12 a0 a1 a3 t242 false (!false)) else (impl_MirrorPut.j1 kj12 a0 a1 a3 t242 false false)) = some (r1,r2):=by rw [if_neg (show ¬ (false = true) by decide)] at H;exact H
       clear H
       have H:=H1
       clear H1
       by_cases c25 : a3 ≥ 2
       ·
        rw [if_pos c25] at H
        have c25b0 : decide (2 ≤ a3) = true:=decide_eq_true c25
        clear c25
        have H':=Aside0.mk H
        clear H
        go_wp2
        go_meet
        case rel => exact ⟨_,(!false),(by first|rfl|(simp;done)|(simp [*];done)),H',⟨by have:=HJ12.out;first|omega|exact Nat.le_refl _⟩,⟨by (with_reducible repeat (first|refine blk_drewN ?_ _|refine blk_drew ?_|refine blk_alloc ?_ _));exact BK241.out⟩,⟨by repeat (first|(with_reducible first|exact HB.out|apply below_alloc|apply pw_below_drewN|apply below_drew1|refine below_set ?_ GE241.out)|exact HB.out)⟩⟩
       ·
        rw [if_neg c25] at H
        have c25b0 : decide (2 ≤ a3) = false:=decide_eq_false c25
        clear c25
        have H':=Aside0.mk H
        clear H
        go_wp2
        go_meet
        case rel => exact ⟨_,(false),(by first|rfl|(simp;done)|(simp [*];done)),H',⟨by have:=HJ12.out;first|omega|exact Nat.le_refl _⟩,⟨by (with_reducible repeat (first|refine blk_drewN ?_ _|refine blk_drew ?_|refine blk_alloc ?_ _));exact BK241.out⟩,⟨by repeat (first|(with_reducible first|exact HB.out|apply below_alloc|apply pw_below_drewN|apply below_drew1|refine below_set ?_ GE241.out)|exact HB.out)⟩⟩
     ·
      rw [if_neg c23] at H
      have c23b0 : decide (1 ≤ a3) = false:=decide_eq_false c23
      clear c23
      (first|rw [c23b0]|(simp only [i64_w,i32_w];rw [c23b0])|rw [c23b2]|skip)
      by_cases c26 : a3 ≥ 2
      ·
       rw [if_pos c26] at H
       have c26b0 : decide (2 ≤ a3) = true:=decide_eq_true c26
       clear c26
       have H':=Aside0.mk H
       clear H
       go_wp2
       go_meet
       case rel => exact ⟨_,(!x14_12),(by first|rfl|(simp;done)|(simp [*];done)),H',⟨by have:=HJ12.out;first|omega|exact Nat.le_refl _⟩,⟨by (with_reducible repeat (first|refine blk_drewN ?_ _|refine blk_drew ?_|refine blk_alloc ?_ _));exact BK241.out⟩,⟨by repeat (first|(with_reducible first|exact HB.out|apply below_alloc|apply pw_below_drewN|apply below_drew1|refine below_set ?_ GE241.out)|exact HB.out)⟩⟩
      ·
       rw [if_neg c26] at H
       have c26b0 : decide (2 ≤ a3) = false:=decide_eq_false c26
       clear c26
       have H':=Aside0.mk H
       clear H
       go_wp2
       go_meet
       case rel => exact ⟨_,(false),(by first|rfl|(simp;done)|(simp [*];done)),H',⟨by have:=HJ12.out;first|omega|exact Nat.le_refl _⟩,⟨by (with_reducible repeat (first|refine blk_drewN ?_ _|refine blk_drew ?_|refine blk_alloc ?_ _));exact BK241.out⟩,⟨by repeat (first|(with_reducible first|exact HB.out|apply below_alloc|apply pw_below_drewN|apply below_drew1|refine below_set ?_ GE241.out)|exact HB.out)⟩⟩
    case rest =>
     clear HC22
     try clear c1
     try clear c2
     try clear p2
     try clear p6
     try clear c7
     try clear c7b0
     try clear c7b1
     try clear c7b2
     try clear c12
     try clear c17
     try clear c20
     try clear c21
     try clear c21b0
     try clear c21b1
     try clear c21b2
     try clear c23
     try clear c23b0
     try clear c23b2
     try clear c24
     try clear c25
     try clear c25b0
     try clear c26
     try clear c26b0
     try clear hcz10_0
     try clear hcz10_1
     try clear hcz16_0
     try clear hcz16_1
     try clear hcz18_0
     try clear hcz18_1
     try clear hfz10_0
     try clear hfz10_1
     try clear hfz16_0
     try clear hfz16_1
     try clear hfz18_0
     try clear hfz18_1
     try clear p2
     try clear p6
     obtain ⟨kq,x56_21,rfl,HA,HJ21,BK241,HB⟩:=hcut
     cases kq with
     | zero => exact absurd HA.out (by simp [impl_MirrorPut.j1])
     | succ kj21 =>
      have H:=HA.out
      clear HA
      simp only [impl_MirrorPut.j1] at H
      by_cases c27 : x56_21 = true
      ·
       subst c27
       have H1 : (if a3 ≥ 1 then (if x14_12 = true then (if a3 ≥ 2 then (some (t242,t242)) else (some (t242,a1))) else (some (t242,t242))) else (if a3 ≥ 2 then (if x14_12 = true then (some (t242,t242)) else (some (t242,a1))) else (some (t242,a1)))) = some (r1,r2):=by rw [if_pos rfl] at H;exact H
       clear H
       have H:=H1
       clear H1
       by_cases c28 : a3 ≥ 1
       ·
        rw [if_pos c28] at H
        have c28b0 : decide (1 ≤ a3) = true:=decide_eq_true c28
        clear c28
        by_cases c29 : x14_12 = true
        ·
         subst c29
         have H1 : (if a3 ≥ 2 then (some (t242,t242)) else (some (t242,a1))) = some (r1,r2):=by rw [if_pos rfl] at H;exact H
         clear H
         have H:=H1
         clear H1
         by_cases c30 : a3 ≥ 2
         ·
          rw [if_pos c30] at H
          have c30b0 : decide (2 ≤ a3) = true:=decide_eq_true c30
          clear c30
          simp only [Option.some.injEq,Prod.mk.injEq] at H
          obtain ⟨rfl,rfl⟩:=H
          go_wp2
          go_ret2
          exact ⟨by first|rfl|(simp [errW_none,errW_some] <;> rfl)|(simp [*,errW_none,errW_some] <;> rfl),by repeat (first|(with_reducible first|exact HB.out|apply below_alloc|apply pw_below_drewN|apply below_drew1|refine below_set ?_ GE241.out)|exact HB.out)⟩
         ·
          rw [if_neg c30] at H
          have c30b0 : decide (2 ≤ a3) = false:=decide_eq_false c30
          clear c30
          simp only [Option.some.injEq,Prod.mk.injEq] at H
          obtain ⟨rfl,rfl⟩:=H
          go_wp2
          go_ret2
          exact ⟨by first|rfl|(simp [errW_none,errW_some] <;> rfl)|(simp [*,errW_none,errW_some] <;> rfl),by repeat (first|(with_reducible first|exact HB.out|apply below_alloc|apply pw_below_drewN|apply below_drew1|refine below_set ?_ GE241.out)|exact HB.out)⟩
        ·
         replace c29:=Bool.eq_false_iff.mpr c29
         subst c29
         have H1 : (some (t242,t242)) = some (r1,r2):=by rw [if_neg (show ¬ (false = true) by decide)] at H;exact H
         clear H
         have H:=H1
         clear H1
         simp only [Option.some.injEq,Prod.mk.injEq] at H
         obtain ⟨rfl,rfl⟩:=H
         go_wp2
         go_ret2
         exact ⟨by first|rfl|(simp [errW_none,errW_some] <;> rfl)|(simp [*,errW_none,errW_some] <;> rfl),by repeat (first|(with_reducible first|exact HB.out|apply below_alloc|apply pw_below_drewN|apply below_drew1|refine below_set ?_ GE241.out)|exact HB.out)⟩
       ·
        rw [if_neg c28] at H
        have c28b0 : decide (1 ≤ a3) = false:=decide_eq_false c28
        clear c28
        by_cases c31 : a3 ≥ 2
        ·
         rw [if_pos c31] at H
         have c31b0 : decide (2 ≤ a3) = true:=decide_eq_true c31
         clear c31
         by_cases c32 : x14_12 = true
         ·
          subst c32
          have H1 : (some (t242,t242)) = some (r1,r2):=by rw [if_pos rfl] at H;exact H
          clear H
          have H:=H1
          clear H1
          simp only [Option.some.injEq,Prod.mk.injEq] at H
          obtain ⟨rfl,rfl⟩:=H
          go_wp2
          go_ret2
          exact ⟨by first|rfl|(simp [errW_none,errW_some] <;> rfl)|(simp [*,errW_none,errW_some] <;> rfl),by repeat (first|(with_reducible first|exact HB.out|apply below_alloc|apply pw_below_drewN|apply below_drew1|refine below_set ?_ GE241.out)|exact HB.out)⟩
         ·
          replace c32:=Bool.eq_false_iff.mpr c32
          subst c32
          have H1 : (some (t242,a1)) = some (r1,r2):=by rw [if_neg (show ¬ (false = true) by decide)] at H;exact H
          clear H
          have H:=H1
          clear H1
          simp only [Option.some.injEq,Prod.mk.injEq] at H
          obtain ⟨rfl,rfl⟩:=H
          go_wp2
          go_ret2
          exact ⟨by first|rfl|(simp [errW_none,errW_some] <;> rfl)|(simp [*,errW_none,errW_some] <;> rfl),by repeat (first|(with_reducible first|exact HB.out|apply below_alloc|apply pw_below_drewN|apply below_drew1|refine below_set ?_ GE241.out)|exact HB.out)⟩
        ·
         rw [if_neg c31] at H
         have c31b0 : decide (2 ≤ a3) = false:=decide_eq_false c31
         clear c31
         simp only [Option.some.injEq,Prod.mk.injEq] at H
         obtain ⟨rfl,rfl⟩:=H
         go_wp2
         go_ret2
         exact ⟨by first|rfl|(simp [errW_none,errW_some] <;> rfl)|(simp [*,errW_none,errW_some] <;> rfl),by repeat (first|(with_reducible first|exact HB.out|apply below_alloc|apply pw_below_drewN|apply below_drew1|refine below_set ?_ GE241.out)|exact HB.out)⟩
      ·
       replace c27:=Bool.eq_false_iff.mpr c27
       subst c27
       have H1 : (if a3 ≥ 1 then (if x14_12 = true then (if a3 ≥ 2 then (some (a0,t242)) else (some (a0,a1))) else (some (a0,t242))) else (if a3 ≥ 2 then (if x14_12 = true then (some (a0,t242)) else (some (a0,a1))) else (some (a0,a1)))) = some (r1,r2):=by rw [if_neg (show ¬ (false = true) by decide)] at H;exact H
       clear H
       have H:=H1
       clear H1
       by_cases c33 : a3 ≥ 1
       ·
        rw [if_pos c33] at H
        have c33b0 : decide (1 ≤ a3) = true:=decide_eq_true c33
        clear c33
        by_cases c34 : x14_12 = true
        ·
         subst c34
         have H1 : (if a3 ≥ 2 then (some (a0,t242)) else (some (a0,a1))) = some (r1,r2):=by rw [if_pos rfl] at H;exact H
         clear H
         have H:=H1
         clear H1
         by_cases c35 : a3 ≥ 2
         ·
          rw [if_pos c35] at H
          have c35b0 : decide (2 ≤ a3) = true:=decide_eq_true c35
          clear c35
          simp only [Option.some.injEq,Prod.mk.injEq] at H
          obtain ⟨rfl,rfl⟩:=H
          go_wp2
          go_ret2
          exact ⟨by first|rfl|(simp [errW_none,errW_some] <;> rfl)|(simp [*,errW_none,errW_some] <;> rfl),by repeat (first|(with_reducible first|exact HB.out|apply below_alloc|apply pw_below_drewN|apply below_drew1|refine below_set ?_ GE241.out)|exact HB.out)⟩
         ·
          rw [if_neg c35] at H
          have c35b0 : decide (2 ≤ a3) = false:=decide_eq_false c35
          clear c35
          simp only [Option.some.injEq,Prod.mk.injEq] at H
          obtain ⟨rfl,rfl⟩:=H
          go_wp2
          go_ret2
          exact ⟨by first|rfl|(simp [errW_none,errW_some] <;> rfl)|(simp [*,errW_none,errW_some] <;> rfl),by repeat (first|(with_reducible first|exact HB.out|apply below_alloc|apply pw_below_drewN|apply below_drew1|refine below_set ?_ GE241.out)|exact HB.out)⟩
        ·
         replace c34:=Bool.eq_false_iff.mpr c34
         subst c34
         have H1 : (some (a0,t242)) = some (r1,r2):=by rw [if_neg (show ¬ (false = true) by decide)] at H;exact H
         clear H
         have H:=H1
         clear H1
         simp only [Option.some.injEq,Prod.mk.injEq] at H
         obtain ⟨rfl,rfl⟩:=H
         go_wp2
         go_ret2
         exact ⟨by first|rfl|(simp [errW_none,errW_some] <;> rfl)|(simp [*,errW_none,errW_some] <;> rfl),by repeat (first|(with_reducible first|exact HB.out|apply below_alloc|apply pw_below_drewN|apply below_drew1|refine below_set ?_ GE241.out)|exact HB.out)⟩
       ·
        rw [if_neg c33] at H
        have c33b0 : decide (1 ≤ a3) = false:=decide_eq_false c33
        clear c33
        by_cases c36 : a3 ≥ 2
        ·
         rw [if_pos c36] at H
         have c36b0 : decide (2 ≤ a3) = true:=decide_eq_true c36
         clear c36
         by_cases c37 : x14_12 = true
         ·
          subst c37
          have H1 : (some (a0,t242)) = some (r1,r2):=by rw [if_pos rfl] at H;exact H
          clear H
          have H:=H1
          clear H1
          simp only [Option.some.injEq,Prod.mk.injEq] at H
          obtain ⟨rfl,rfl⟩:=H
          go_wp2
          go_ret2
          exact ⟨by first|rfl|(simp [errW_none,errW_some] <;> rfl)|(simp [*,errW_none,errW_some] <;> rfl),by repeat (first|(with_reducible first|exact HB.out|apply below_alloc|apply pw_below_drewN|apply below_drew1|refine below_set ?_ GE241.out)|exact HB.out)⟩
         ·
          replace c37:=Bool.eq_false_iff.mpr c37
          subst c37
          have H1 : (some (a0,a1)) = some (r1,r2):=by rw [if_neg (show ¬ (false = true) by decide)] at H;exact H
          clear H
          have H:=H1
          clear H1
          simp only [Option.some.injEq,Prod.mk.injEq] at H
          obtain ⟨rfl,rfl⟩:=H
          go_wp2
          go_ret2
          exact ⟨by first|rfl|(simp [errW_none,errW_some] <;> rfl)|(simp [*,errW_none,errW_some] <;> rfl),by repeat (first|(with_reducible first|exact HB.out|apply below_alloc|apply pw_below_drewN|apply below_drew1|refine below_set ?_ GE241.out)|exact HB.out)⟩
        ·
         rw [if_neg c36] at H
         have c36b0 : decide (2 ≤ a3) = false:=decide_eq_false c36
         clear c36
         simp only [Option.some.injEq,Prod.mk.injEq] at H
         obtain ⟨rfl,rfl⟩:=H
         go_wp2
         go_ret2
         exact ⟨by first|rfl|(simp [errW_none,errW_some] <;> rfl)|(simp [*,errW_none,errW_some] <;> rfl),by repeat (first|(with_reducible first|exact HB.out|apply below_alloc|apply pw_below_drewN|apply below_drew1|refine below_set ?_ GE241.out)|exact HB.out)⟩
def laws_FnExactMirrorPut.f (k : Nat) (a0 : ByteArray) (a1 : ByteArray) (a2 : ByteArray) (a3 : Int) : Option (Bool):=if (a0.size : Int) > 1048576 then (some true) else (if (a1.size : Int) > 1048576 then (some true) else (if (a2.size : Int) > 1048576 then (some true) else ((spec_MirrorPut.f k a0 a1 a2 a3).bind fun bt244 => ((impl_MirrorPut.f k a0 a1 a2 a3).bind fun bt246 => (if bt246.1.toList = bt244.1.toList then (if bt246.2.toList = bt244.2.toList then (some true) else (some false)) else (some false))))))
set_option maxHeartbeats 8000000 in
set_option maxRecDepth 100000 in
theorem laws_FnExactMirrorPut.calls (k : Nat) (a0 : ByteArray) (a1 : ByteArray) (a2 : ByteArray) (a3 : Int) (r : Bool) (w : World) (h : laws_FnExactMirrorPut.f k a0 a1 a2 a3 = some r) (hrt_ : r = true) :
  Calls Try.prog 7 #[.string a0,.string a1,.string a2,.int .i64 a3] w fun e w' => e = .returned (.bool r) ∧ Below w.heap.size w w':=by
 have HB:=Aside0.mk (Below.refl w.heap.size w)
 have H : (if (a0.size : Int) > 1048576 then (some true) else (if (a1.size : Int) > 1048576 then (some true) else (if (a2.size : Int) > 1048576 then (some true) else ((spec_MirrorPut.f k a0 a1 a2 a3).bind fun bt244 => ((impl_MirrorPut.f k a0 a1 a2 a3).bind fun bt246 => (if bt246.1.toList = bt244.1.toList then (if bt246.2.toList = bt244.2.toList then (some true) else (some false)) else (some false))))))) = some r:=h
 clear h
 by_cases c5 : (a0.size : Int) > 1048576
 ·
  rw [if_pos c5] at H
  have c5b0 : decide (1048576 < (a0.size : Int)) = true:=decide_eq_true c5
  have c5b1 : decide (1048576 < a0.size) = true:=decide_eq_true (by omega)
  clear c5
  obtain rfl:=Option.some.inj H
  go_enter Try.func7,Try.ntmps7
  go_wp2
  go_ret
  exact ⟨by first|rfl|(simp [errW_none,errW_some] <;> rfl)|(simp [*,errW_none,errW_some] <;> rfl),by repeat (first|(with_reducible first|exact HB.out|apply below_alloc|apply pw_below_drewN|apply below_drew1)|exact HB.out)⟩
 ·
  rw [if_neg c5] at H
  have c5b0 : decide (1048576 < (a0.size : Int)) = false:=decide_eq_false c5
  have c5b1 : decide (1048576 < a0.size) = false:=decide_eq_false (by omega)
  clear c5
  by_cases c6 : (a1.size : Int) > 1048576
  ·
   rw [if_pos c6] at H
   have c6b0 : decide (1048576 < (a1.size : Int)) = true:=decide_eq_true c6
   have c6b1 : decide (1048576 < a1.size) = true:=decide_eq_true (by omega)
   clear c6
   obtain rfl:=Option.some.inj H
   go_enter Try.func7,Try.ntmps7
   go_wp2
   go_ret
   exact ⟨by first|rfl|(simp [errW_none,errW_some] <;> rfl)|(simp [*,errW_none,errW_some] <;> rfl),by repeat (first|(with_reducible first|exact HB.out|apply below_alloc|apply pw_below_drewN|apply below_drew1)|exact HB.out)⟩
  ·
   rw [if_neg c6] at H
   have c6b0 : decide (1048576 < (a1.size : Int)) = false:=decide_eq_false c6
   have c6b1 : decide (1048576 < a1.size) = false:=decide_eq_false (by omega)
   clear c6
   by_cases c7 : (a2.size : Int) > 1048576
   ·
    rw [if_pos c7] at H
    have c7b0 : decide (1048576 < (a2.size : Int)) = true:=decide_eq_true c7
    have c7b1 : decide (1048576 < a2.size) = true:=decide_eq_true (by omega)
    clear c7
    obtain rfl:=Option.some.inj H
    go_enter Try.func7,Try.ntmps7
    go_wp2
    go_ret
    exact ⟨by first|rfl|(simp [errW_none,errW_some] <;> rfl)|(simp [*,errW_none,errW_some] <;> rfl),by repeat (first|(with_reducible first|exact HB.out|apply below_alloc|apply pw_below_drewN|apply below_drew1)|exact HB.out)⟩
   ·
    rw [if_neg c7] at H
    have c7b0 : decide (1048576 < (a2.size : Int)) = false:=decide_eq_false c7
    have c7b1 : decide (1048576 < a2.size) = false:=decide_eq_false (by omega)
    clear c7
    replace H:=Option.bind_eq_some_iff.mp H
    obtain ⟨⟨t244,t245⟩,A80,H⟩:=H
    replace H : ((impl_MirrorPut.f k a0 a1 a2 a3).bind fun bt246 => (if bt246.1.toList = t244.toList then (if bt246.2.toList = t245.toList then (some true) else (some false)) else (some false))) = some r:=H
    have A8:=Aside0.mk A80
    clear A80
    replace H:=Option.bind_eq_some_iff.mp H
    obtain ⟨⟨t246,t247⟩,A90,H⟩:=H
    replace H : (if t246.toList = t244.toList then (if t247.toList = t245.toList then (some true) else (some false)) else (some false)) = some r:=H
    have A9:=Aside0.mk A90
    clear A90
    by_cases c10 : t246.toList = t244.toList
    ·
     rw [if_pos c10] at H
     have c10b0 : (t246.toList == t244.toList) = true:=beq_iff_eq.mpr c10
     have c10b1 : (t246.toList != t244.toList) = false:=bne_eq_false_iff_eq.mpr c10
     clear c10
     by_cases c11 : t247.toList = t245.toList
     ·
      rw [if_pos c11] at H
      have c11b0 : (t247.toList == t245.toList) = true:=beq_iff_eq.mpr c11
      have c11b1 : (t247.toList != t245.toList) = false:=bne_eq_false_iff_eq.mpr c11
      clear c11
      obtain rfl:=Option.some.inj H
      go_enter Try.func7,Try.ntmps7
      go_wp2_with (first|((with_reducible refine gate_callee (f:=20) rfl ?_);refine goesL_ (some 27) rfl rfl Try.func20 (by kernel_rfl) rfl #[.string a0,.string a1,.string a2,.int .i64 a3] rfl (by (try simp only [List.map_toArray,List.map_cons,List.map_nil]);first|done|rfl|(simp only [List.length_drop,List.length_take];rfl)) ?_;(with_reducible refine (spec_MirrorPut.calls k a0 a1 a2 a3 t244 t245 _ A8.out).mono ?_);rintro e w12 ⟨rfl,hb⟩;refine ⟨_,rfl,?_⟩;have n0_:=Aside0.mk (below_step (by repeat (first|(with_reducible first|exact HB.out|apply below_alloc|apply pw_below_drewN|apply below_drew1)|exact HB.out)) hb);clear HB;have HB:=n0_;clear n0_;(try clear hb);(try clear hb2);(try clear hk);(try clear hi))|((with_reducible refine gate_callee (f:=21) rfl ?_);refine goesL_ (some 35) rfl rfl Try.func21 (by kernel_rfl) rfl #[.string a0,.string a1,.string a2,.int .i64 a3] rfl (by (try simp only [List.map_toArray,List.map_cons,List.map_nil]);first|done|rfl|(simp only [List.length_drop,List.length_take];rfl)) ?_;(with_reducible refine (impl_MirrorPut.calls k a0 a1 a2 a3 t246 t247 _ A9.out).mono ?_);rintro e w13 ⟨rfl,hb⟩;refine ⟨_,rfl,?_⟩;have n0_:=Aside0.mk (below_step (by repeat (first|(with_reducible first|exact HB.out|apply below_alloc|apply pw_below_drewN|apply below_drew1)|exact HB.out)) hb);clear HB;have HB:=n0_;clear n0_;(try clear hb);(try clear hb2);(try clear hk);(try clear hi)))
      go_ret
      exact ⟨by first|rfl|(simp [errW_none,errW_some] <;> rfl)|(simp [*,errW_none,errW_some] <;> rfl),by repeat (first|(with_reducible first|exact HB.out|apply below_alloc|apply pw_below_drewN|apply below_drew1)|exact HB.out)⟩
     ·
      rw [if_neg c11] at H
      have c11b0 : (t247.toList == t245.toList) = false:=beq_eq_false_iff_ne.mpr c11
      have c11b1 : (t247.toList != t245.toList) = true:=bne_iff_ne.mpr c11
      exact absurd (hrt_ ▸ H) (by simp)
    ·
     rw [if_neg c10] at H
     have c10b0 : (t246.toList == t244.toList) = false:=beq_eq_false_iff_ne.mpr c10
     have c10b1 : (t246.toList != t244.toList) = true:=bne_iff_ne.mpr c10
     exact absurd (hrt_ ▸ H) (by simp)
def laws_FnExactMirrorPut.Pure : Prop:=∀ (a0 : ByteArray) (a1 : ByteArray) (a2 : ByteArray) (a3 : Int),(a0.size ≤ 140737488351232) → (a1.size ≤ 140737488351232) → (a2.size ≤ 140737488351232) → ((Lit.int .i64 a3).wf = true) → ∃ k,laws_FnExactMirrorPut.f k a0 a1 a2 a3 = some true
end Go.Proofs.Ytipolbckgifnbaa.P
