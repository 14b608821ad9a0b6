-- Ours: printed or written for this claim; cut to what the theorem needs.
import Derived.Test.YtlndidfeapkgcaaZPx0
import Derived.Test.YtlndidfeapkgcaaZPx3
import Derived.Test.YtlndidfeapkgcaaZPx4
namespace Go.Proofs.Ytlndidfeapkgcaa.P
open Go.RowKit Go.Proofs.YtlndidfeapkgcaaW.PrintWords Go.Proofs.YtlndidfeapkgcaaW.PrintLast Go.Proofs.YtlndidfeapkgcaaW.PrintMore
attribute [local go_sem] max2_int min2_int max_two min_two max_three min_three max_four min_four
set_option linter.unusedVariables false
set_option linter.unusedSimpArgs false
mutual
def spec_Spread.j0 : Nat → Int → ByteArray → Int → Option (List ByteArray × Bool)
  | 0,_,_,_ => none
  | k + 1,x0,x1,x6 => (spec_l1In.f x0 1 1000000).bind fun t215 => (if t215 = true then (spec_Spread.j1 k x0 x1 x6 (decide (x6 > 5))) else (spec_Spread.j1 k x0 x1 x6 true))
def spec_Spread.j1 : Nat → Int → ByteArray → Int → Bool → Option (List ByteArray × Bool)
  | 0,_,_,_,_ => none
  | k + 1,x0,x1,x6,x24 => if x24 = true then (some ((([] : List ByteArray)),false)) else (spec_Spread.l0 k x0 x1 x6 (([] : List ByteArray)) 0)
def spec_Spread.l0 : Nat → Int → ByteArray → Int → List ByteArray → Int → Option (List ByteArray × Bool)
  | 0,_,_,_,_,_ => none
  | k + 1,x0,x1,x6,x7,x8 => if x8 < x6 then (if (wrap64 ((wrap64 (x8 + 1)) * 12)) > (x1.size : Int) then (spec_Spread.j3 k x0 x1 x6 x7 x8 (x1.size : Int)) else (spec_Spread.j3 k x0 x1 x6 x7 x8 (wrap64 ((wrap64 (x8 + 1)) * 12)))) else (some (x7,true))
def spec_Spread.j3 : Nat → Int → ByteArray → Int → List ByteArray → Int → Int → Option (List ByteArray × Bool)
  | 0,_,_,_,_,_,_ => none
  | k + 1,x0,x1,x6,x7,x8,x9 => if 0 ≤ (wrap64 (x8 * 12)) then (if (wrap64 (x8 * 12)) ≤ x9 then (if x9 ≤ (x1.size : Int) then ((spec_Var.f k x0).bind fun t222 => ((spec_Var.f k x8).bind fun t223 => (if t222.size + t223.size ≤ 9223372036854775807 then ((spec_Var.f k x6).bind fun t224 => (if (t222 ++ t223).size + t224.size ≤ 9223372036854775807 then ((spec_Crc.f k x1).bind fun t225 => ((spec_Var.f k t225).bind fun t226 => (if ((t222 ++ t223) ++ t224).size + t226.size ≤ 9223372036854775807 then ((spec_l4Piece.f k (x1.extract ((wrap64 (x8 * 12)) : Int).toNat (x9 : Int).toNat)).bind fun t227 => (if (((t222 ++ t223) ++ t224) ++ t226).size + t227.size ≤ 9223372036854775807 then ((spec_l4Sum.f k ((((t222 ++ t223) ++ t224) ++ t226) ++ t227)).bind fun t228 => (if x7.length < 8796093022208 then (spec_Spread.l0 k x0 x1 x6 (x7 ++ [t228]) (wrap64 (x8 + 1))) else (none))) else (none))) else (none)))) else (none))) else (none)))) else (none)) else (none)) else (none)
end
def spec_Spread.f (k : Nat) (a0 : Int) (a1 : ByteArray) : Option (List ByteArray × Bool):=if a1.toList = ([] : List UInt8) then (spec_Spread.j0 k a0 a1 1) else (spec_Spread.j0 k a0 a1 (wrap64 (Int.tdiv (wrap64 ((wrap64 ((a1.size : Int) + 12)) - 1)) 12)))
set_option maxHeartbeats 8000000 in
set_option maxRecDepth 100000 in
theorem spec_Spread.calls (k : Nat) (a0 : Int) (a1 : ByteArray) (r1 : List ByteArray) (r2 : Bool) (w : World) (h : spec_Spread.f k a0 a1 = some (r1,r2)) :
  Calls Try.prog 15 #[.int .i64 a0,.string a1] w fun e w' => ∃ v0_ : Value,e = .returned (.tuple #[v0_,.bool r2]) ∧ Kd.R Kd.string 9 w' w.heap.size (fun _ => True) v0_ r1 ∧ Below w.heap.size w w':=by
 have HB:=Aside0.mk (Below.refl w.heap.size w)
 have H : (if a1.toList = ([] : List UInt8) then (spec_Spread.j0 k a0 a1 1) else (spec_Spread.j0 k a0 a1 (wrap64 (Int.tdiv (wrap64 ((wrap64 ((a1.size : Int) + 12)) - 1)) 12)))) = some (r1,r2):=h
 clear h
 have HC3:=Aside0.mk H
 clear H
 go_enter Try.func15,Try.ntmps15
 go_upto_if 17 with (fail)
 go_cut [6] (fun v6 wc => ∃ (kq : Nat) (x6_2 : Int),v6 = .int .i64 x6_2 ∧ Aside0 (spec_Spread.j0 kq a0 a1 x6_2 = some (r1,r2)) ∧ Aside0 (kq ≤ k) ∧ Aside0 (Below w.heap.size w wc))
 case first =>
  have H:=HC3.out
  clear HC3
  by_cases c4 : a1.toList = ([] : List UInt8)
  ·
   rw [if_pos c4] at H
   have c4b0 : (a1.toList == ([] : List UInt8)) = true:=beq_iff_eq.mpr c4
   have c4b1 : (a1.toList != ([] : List UInt8)) = false:=bne_eq_false_iff_eq.mpr c4
   (try (have c4b2 : a1.toList.isEmpty = true:=by simpa using c4))
   clear c4
   (first|rw [c4b0]|(simp only [i64_w,i32_w];rw [c4b0])|rw [c4b2]|skip)
   have H':=Aside0.mk H
   clear H
   go_wp2
   go_meet
   case rel => exact ⟨_,(1),(by first|rfl|(simp;done)|(simp [*];done)),H',⟨by first|omega|exact Nat.le_refl _⟩,⟨by repeat (first|(with_reducible first|exact HB.out|apply below_alloc|apply pw_below_drewN|apply below_drew1)|exact HB.out)⟩⟩
  ·
   rw [if_neg c4] at H
   have c4b0 : (a1.toList == ([] : List UInt8)) = false:=beq_eq_false_iff_ne.mpr c4
   have c4b1 : (a1.toList != ([] : List UInt8)) = true:=bne_iff_ne.mpr c4
   (try (have c4b2 : a1.toList.isEmpty = false:=by simpa using c4))
   (first|rw [c4b0]|(simp only [i64_w,i32_w];rw [c4b0])|rw [c4b2]|skip)
   have H':=Aside0.mk H
   clear H
   go_wp2
   go_meet
   case rel => exact ⟨_,(wrap64 (Int.tdiv (wrap64 ((wrap64 ((a1.size : Int) + 12)) - 1)) 12)),(by first|rfl|(simp;done)|(simp [*];done)),H',⟨by first|omega|exact Nat.le_refl _⟩,⟨by repeat (first|(with_reducible first|exact HB.out|apply below_alloc|apply pw_below_drewN|apply below_drew1)|exact HB.out)⟩⟩
 case rest =>
  clear HC3
  try clear c1
  try clear p2
  try clear c4
  try clear c4b0
  try clear c4b1
  try clear c4b2
  obtain ⟨kq,x6_2,rfl,HA,HJ2,HB⟩:=hcut
  cases kq with
  | zero => exact absurd HA.out (by simp [spec_Spread.j0])
  | succ kj2 =>
   have H:=HA.out
   clear HA
   simp only [spec_Spread.j0] at H
   have HC5:=Aside0.mk H
   clear H
   go_upto_region 4 with (fail)
   go_cut [24] (fun v24 wc => ∃ (kq : Nat) (x24_4 : Bool),v24 = .bool x24_4 ∧ Aside0 (spec_Spread.j1 kq a0 a1 x6_2 x24_4 = some (r1,r2)) ∧ Aside0 (kq ≤ kj2) ∧ Aside0 (Below w.heap.size w wc))
   case first =>
    have H:=HC5.out
    clear HC5
    replace H:=Option.bind_eq_some_iff.mp H
    obtain ⟨t215,A60,H⟩:=H
    replace H : (if t215 = true then (spec_Spread.j1 kj2 a0 a1 x6_2 (decide (x6_2 > 5))) else (spec_Spread.j1 kj2 a0 a1 x6_2 true)) = some (r1,r2):=H
    have A6:=Aside0.mk A60
    clear A60
    by_cases c7 : t215 = true
    ·
     subst c7
     have H1 : (spec_Spread.j1 kj2 a0 a1 x6_2 (decide (x6_2 > 5))) = some (r1,r2):=by rw [if_pos rfl] at H;exact H
     clear H
     have H:=H1
     clear H1
     have H':=Aside0.mk H
     clear H
     go_wp2_with (first|((with_reducible refine gate_callee (f:=26) rfl ?_);refine goesL_ (some 19) rfl rfl Try.func26 (by kernel_rfl) rfl #[.int .i64 a0,.int .i64 1,.int .i64 1000000] rfl (by (try simp only [List.map_toArray,List.map_cons,List.map_nil]);first|done|rfl|(simp only [List.length_drop,List.length_take];rfl)) ?_;(with_reducible refine (spec_l1In.calls a0 1 1000000 true _ A6.out).mono ?_);rintro e w' ⟨rfl,⟨nd,rfl⟩⟩;refine ⟨_,rfl,?_⟩))
     go_meet
     case rel => exact ⟨_,(decide (x6_2 > 5)),(by first|rfl|(simp;done)|(simp [*];done)),H',⟨by have:=HJ2.out;first|omega|exact Nat.le_refl _⟩,⟨by repeat (first|(with_reducible first|exact HB.out|apply below_alloc|apply pw_below_drewN|apply below_drew1)|exact HB.out)⟩⟩
    ·
     replace c7:=Bool.eq_false_iff.mpr c7
     subst c7
     have H1 : (spec_Spread.j1 kj2 a0 a1 x6_2 true) = some (r1,r2):=by rw [if_neg (show ¬ (false = true) by decide)] at H;exact H
     clear H
     have H:=H1
     clear H1
     have H':=Aside0.mk H
     clear H
     go_wp2_with (first|((with_reducible refine gate_callee (f:=26) rfl ?_);refine goesL_ (some 19) rfl rfl Try.func26 (by kernel_rfl) rfl #[.int .i64 a0,.int .i64 1,.int .i64 1000000] rfl (by (try simp only [List.map_toArray,List.map_cons,List.map_nil]);first|done|rfl|(simp only [List.length_drop,List.length_take];rfl)) ?_;(with_reducible refine (spec_l1In.calls a0 1 1000000 false _ A6.out).mono ?_);rintro e w' ⟨rfl,⟨nd,rfl⟩⟩;refine ⟨_,rfl,?_⟩))
     go_meet
     case rel => exact ⟨_,(true),(by first|rfl|(simp;done)|(simp [*];done)),H',⟨by have:=HJ2.out;first|omega|exact Nat.le_refl _⟩,⟨by repeat (first|(with_reducible first|exact HB.out|apply below_alloc|apply pw_below_drewN|apply below_drew1)|exact HB.out)⟩⟩
   case rest =>
    clear HC5
    try clear c1
    try clear c2
    try clear p2
    try clear c4
    try clear c4b0
    try clear c4b1
    try clear c4b2
    try clear p6
    try clear c7
    try clear p2
    obtain ⟨kq,x24_4,rfl,HA,HJ4,HB⟩:=hcut
    cases kq with
    | zero => exact absurd HA.out (by simp [spec_Spread.j1])
    | succ kj4 =>
     have H:=HA.out
     clear HA
     simp only [spec_Spread.j1] at H
     by_cases c8 : x24_4 = true
     ·
      subst c8
      have H1 : (some ((([] : List ByteArray)),false)) = some (r1,r2):=by rw [if_pos rfl] at H;exact H
      clear H
      have H:=H1
      clear H1
      obtain ⟨y216,hy216⟩ : ∃ y_ : List ByteArray,y_ = (([] : List ByteArray)):=⟨_,rfl⟩
      replace H : (some (y216,false)) = some (r1,r2):=by first|(rw [hy216];with_reducible exact H)|(have H2_:=(Option.bind_some _ _).symm.trans H;rw [hy216];with_reducible exact H2_)|(have H2_:=(Option.bind_some _ _).symm.trans H;with_reducible exact H2_)|with_reducible exact H|(rw [hy216];exact H)|exact H
      have Ny216:=Aside0.mk hy216
      clear hy216
      simp only [Option.some.injEq,Prod.mk.injEq] at H
      obtain ⟨rfl,rfl⟩:=H
      go_wp2_with (first|((with_reducible refine gate_dst (N:=25) rfl ?_);refine Kd.R_lit Kd.string _ 9 ?hg (N:=25) ?hd (xs:=([] : List ByteArray)) (inner:=[]) (ok:=fun _ => True) (okp:=fun _ => True) ?hr ?hp (fun _ hk => hk) trivial (Below.refl _ _) (Nat.le_refl _) (by simp) ?_;(case hd => rfl);(case hg => rfl);(case hr => first|(go_simp;done)|(go_simp;rfl));(case hp => exact (Reps.none _ _));intro v217 w9 ho10 hb hg_ hnew_;clear hg_ hnew_;(first|rw [← Ny216.out] at ho10|(simp only [Int.reduceToNat] at ho10;rw [← Ny216.out] at ho10));have n0_:=Aside0.mk (Kd.R_lower ho10 (below_size (by repeat (first|(with_reducible first|exact HB.out|apply below_alloc|apply pw_below_drewN|apply below_drew1)|exact HB.out))));have n1_:=Aside0.mk (below_step (by repeat (first|(with_reducible first|exact HB.out|apply below_alloc|apply pw_below_drewN|apply below_drew1)|exact HB.out)) hb);clear HB;have HO218:=n0_;have HB:=n1_;clear n0_ n1_;clear hb ho10))
      go_ret2
      exact ⟨_,by first|rfl|(simp [errW_none,errW_some] <;> rfl)|(simp [*,errW_none,errW_some] <;> rfl),by (with_reducible repeat (first|apply Kd.R_alloc|apply Kd.R_drewN|apply Kd.R_drew));exact HO218.out,by repeat (first|(with_reducible first|exact HB.out|apply below_alloc|apply pw_below_drewN|apply below_drew1)|exact HB.out)⟩
     ·
      replace c8:=Bool.eq_false_iff.mpr c8
      subst c8
      have H1 : (spec_Spread.l0 kj4 a0 a1 x6_2 (([] : List ByteArray)) 0) = some (r1,r2):=by rw [if_neg (show ¬ (false = true) by decide)] at H;exact H
      clear H
      have H:=H1
      clear H1
      obtain ⟨y219,hy219⟩ : ∃ y_ : List ByteArray,y_ = (([] : List ByteArray)):=⟨_,rfl⟩
      replace H : (spec_Spread.l0 kj4 a0 a1 x6_2 y219 0) = some (r1,r2):=by first|(rw [hy219];with_reducible exact H)|(have H2_:=(Option.bind_some _ _).symm.trans H;rw [hy219];with_reducible exact H2_)|(have H2_:=(Option.bind_some _ _).symm.trans H;with_reducible exact H2_)|with_reducible exact H|(rw [hy219];exact H)|exact H
      have Ny219:=Aside0.mk hy219
      clear hy219
      have H':=Aside0.mk H
      clear H
      go_wp2_with (first|((with_reducible refine gate_dst (N:=26) rfl ?_);refine Kd.R_lit Kd.string _ 9 ?hg (N:=26) ?hd (xs:=([] : List ByteArray)) (inner:=[]) (ok:=fun _ => True) (okp:=fun _ => True) ?hr ?hp (fun _ hk => hk) trivial (Below.refl _ _) (Nat.le_refl _) (by simp) ?_;(case hd => rfl);(case hg => rfl);(case hr => first|(go_simp;done)|(go_simp;rfl));(case hp => exact (Reps.none _ _));intro v220 w11 ho12 hb hg_ hnew_;clear hg_ hnew_;(first|rw [← Ny219.out] at ho12|(simp only [Int.reduceToNat] at ho12;rw [← Ny219.out] at ho12));have n0_:=Aside0.mk (Kd.R_lower ho12 (below_size (by repeat (first|(with_reducible first|exact HB.out|apply below_alloc|apply pw_below_drewN|apply below_drew1)|exact HB.out))));have n1_:=Aside0.mk (below_step (by repeat (first|(with_reducible first|exact HB.out|apply below_alloc|apply pw_below_drewN|apply below_drew1)|exact HB.out)) hb);clear HB;have HO221:=n0_;have HB:=n1_;clear n0_ n1_;clear hb ho12))
      go_loopg [7,8] kj4 (fun kq v7 v8 w' => ∃ (x7_3 : List ByteArray) (x8_3 : Int),v8 = .int .i64 x8_3 ∧ Aside0 (spec_Spread.l0 kq a0 a1 x6_2 x7_3 x8_3 = some (r1,r2)) ∧ Aside0 (kq ≤ kj4) ∧ Aside0 (Kd.R Kd.string 9 w' w.heap.size (fun _ => True) v7 x7_3) ∧ Aside0 (Below w.heap.size w w'))
      case atStart => exact ⟨(y219),(0),(by first|rfl|(simp;done)|(simp [*];done)),H',⟨Nat.le_refl _⟩,⟨by (with_reducible repeat (first|apply Kd.R_alloc|apply Kd.R_drewN|apply Kd.R_drew));exact HO221.out⟩,⟨by repeat (first|(with_reducible first|exact HB.out|apply below_alloc|apply pw_below_drewN|apply below_drew1)|exact HB.out)⟩⟩
      case round =>
       clear H'
       try clear c1
       try clear c2
       try clear p2
       try clear c4
       try clear c4b0
       try clear c4b1
       try clear c4b2
       try clear p6
       try clear c7
       try clear c8
       try clear p2
       try clear p6
       obtain ⟨x7_3,x8_3,rfl,HA,HK3,HO_7,HB⟩:=hrel
       cases gk with
       | zero => exact absurd HA.out (by simp [spec_Spread.l0])
       | succ k3 =>
        have H:=HA.out
        clear HA
        simp only [spec_Spread.l0] at H
        by_cases c13 : x8_3 < x6_2
        ·
         rw [if_pos c13] at H
         have c13b0 : decide (x8_3 < x6_2) = true:=decide_eq_true c13
         clear c13
         have HC14:=Aside0.mk H
         clear H
         go_upto_if 38 with (fail)
         go_cut [9] (fun v9 wc => ∃ (kq : Nat) (x9_13 : Int),v9 = .int .i64 x9_13 ∧ Aside0 (spec_Spread.j3 kq a0 a1 x6_2 x7_3 x8_3 x9_13 = some (r1,r2)) ∧ Aside0 (kq ≤ k3) ∧ Aside0 (Kd.R Kd.string 9 wc w.heap.size (fun _ => True) u7 x7_3) ∧ Aside0 (Below w.heap.size w wc))
         case first =>
          have H:=HC14.out
          clear HC14
          by_cases c15 : (wrap64 ((wrap64 (x8_3 + 1)) * 12)) > (a1.size : Int)
          ·
           rw [if_pos c15] at H
           have c15b0 : decide ((a1.size : Int) < (wrap64 ((wrap64 (x8_3 + 1)) * 12))) = true:=decide_eq_true c15
           clear c15
           (first|rw [c15b0]|(simp only [i64_w,i32_w];rw [c15b0])|rw [c15b2]|skip)
           have H':=Aside0.mk H
           clear H
           go_wp2
           go_meet
           case rel => exact ⟨_,((a1.size : Int)),(by first|rfl|(simp;done)|(simp [*];done)),H',⟨by have:=HJ2.out;have:=HJ4.out;have:=HK3.out;first|omega|exact Nat.le_refl _⟩,⟨by (with_reducible repeat (first|apply Kd.R_alloc|apply Kd.R_drewN|apply Kd.R_drew));exact HO_7.out⟩,⟨by repeat (first|(with_reducible first|exact HB.out|apply below_alloc|apply pw_below_drewN|apply below_drew1)|exact HB.out)⟩⟩
          ·
           rw [if_neg c15] at H
           have c15b0 : decide ((a1.size : Int) < (wrap64 ((wrap64 (x8_3 + 1)) * 12))) = false:=decide_eq_false c15
           clear c15
           (first|rw [c15b0]|(simp only [i64_w,i32_w];rw [c15b0])|rw [c15b2]|skip)
           have H':=Aside0.mk H
           clear H
           go_wp2
           go_meet
           case rel => exact ⟨_,(wrap64 ((wrap64 (x8_3 + 1)) * 12)),(by first|rfl|(simp;done)|(simp [*];done)),H',⟨by have:=HJ2.out;have:=HJ4.out;have:=HK3.out;first|omega|exact Nat.le_refl _⟩,⟨by (with_reducible repeat (first|apply Kd.R_alloc|apply Kd.R_drewN|apply Kd.R_drew));exact HO_7.out⟩,⟨by repeat (first|(with_reducible first|exact HB.out|apply below_alloc|apply pw_below_drewN|apply below_drew1)|exact HB.out)⟩⟩
         case rest =>
          clear HC14
          try clear c1
          try clear c2
          try clear p2
          try clear c4
          try clear c4b0
          try clear c4b1
          try clear c4b2
          try clear p6
          try clear c7
          try clear c8
          try clear c13
          try clear c13b0
          try clear c15
          try clear c15b0
          try clear c15b2
          try clear p2
          try clear p6
          obtain ⟨kq,x9_13,rfl,HA,HJ13,HO_7,HB⟩:=hcut
          cases kq with
          | zero => exact absurd HA.out (by simp [spec_Spread.j3])
          | succ kj13 =>
           have H:=HA.out
           clear HA
           simp only [spec_Spread.j3] at H
           obtain ⟨ji16,hji16⟩ : ∃ j_ : Int,(wrap64 (x8_3 * 12)) = j_:=⟨_,rfl⟩
           replace H : (if 0 ≤ (ji16) then (if (ji16) ≤ x9_13 then (if x9_13 ≤ (a1.size : Int) then ((spec_Var.f kj13 a0).bind fun t222 => ((spec_Var.f kj13 x8_3).bind fun t223 => (if t222.size + t223.size ≤ 9223372036854775807 then ((spec_Var.f kj13 x6_2).bind fun t224 => (if (t222 ++ t223).size + t224.size ≤ 9223372036854775807 then ((spec_Crc.f kj13 a1).bind fun t225 => ((spec_Var.f kj13 t225).bind fun t226 => (if ((t222 ++ t223) ++ t224).size + t226.size ≤ 9223372036854775807 then ((spec_l4Piece.f kj13 (a1.extract ((ji16) : Int).toNat (x9_13 : Int).toNat)).bind fun t227 => (if (((t222 ++ t223) ++ t224) ++ t226).size + t227.size ≤ 9223372036854775807 then ((spec_l4Sum.f kj13 ((((t222 ++ t223) ++ t224) ++ t226) ++ t227)).bind fun t228 => (if x7_3.length < 8796093022208 then (spec_Spread.l0 kj13 a0 a1 x6_2 (x7_3 ++ [t228]) (wrap64 (x8_3 + 1))) else (none))) else (none))) else (none)))) else (none))) else (none)))) else (none)) else (none)) else (none)) = some (r1,r2):=by first|(rw [hji16] at H;exact H)|(simp only [hji16] at H ⊢;exact H)
           have hji16w : (IntKind.i64.wrap (x8_3 * 12)) = ji16:=(i64_w _).trans hji16
           by_cases c17 : 0 ≤ (ji16)
           ·
            rw [if_pos c17] at H
            have c17b0:=eq_true c17
            have c17b1 : decide (0 ≤ (ji16)) = true:=decide_eq_true c17
            clear c17
            by_cases c18 : (ji16) ≤ x9_13
            ·
             rw [if_pos c18] at H
             have c18b0:=eq_true c18
             have c18b1 : decide ((ji16) ≤ x9_13) = true:=decide_eq_true c18
             clear c18
             by_cases c19 : x9_13 ≤ (a1.size : Int)
             ·
              rw [if_pos c19] at H
              have c19b0:=eq_true c19
              have c19b1 : decide (x9_13 ≤ (a1.size : Int)) = true:=decide_eq_true c19
              clear c19
              replace H:=Option.bind_eq_some_iff.mp H
              obtain ⟨t222,A200,H⟩:=H
              replace H : ((spec_Var.f kj13 x8_3).bind fun t223 => (if t222.size + t223.size ≤ 9223372036854775807 then ((spec_Var.f kj13 x6_2).bind fun t224 => (if (t222 ++ t223).size + t224.size ≤ 9223372036854775807 then ((spec_Crc.f kj13 a1).bind fun t225 => ((spec_Var.f kj13 t225).bind fun t226 => (if ((t222 ++ t223) ++ t224).size + t226.size ≤ 9223372036854775807 then ((spec_l4Piece.f kj13 (a1.extract ((ji16) : Int).toNat (x9_13 : Int).toNat)).bind fun t227 => (if (((t222 ++ t223) ++ t224) ++ t226).size + t227.size ≤ 9223372036854775807 then ((spec_l4Sum.f kj13 ((((t222 ++ t223) ++ t224) ++ t226) ++ t227)).bind fun t228 => (if x7_3.length < 8796093022208 then (spec_Spread.l0 kj13 a0 a1 x6_2 (x7_3 ++ [t228]) (wrap64 (x8_3 + 1))) else (none))) else (none))) else (none)))) else (none))) else (none))) = some (r1,r2):=H
              have A20:=Aside0.mk A200
              clear A200
              replace H:=Option.bind_eq_some_iff.mp H
              obtain ⟨t223,A210,H⟩:=H
              replace H : (if t222.size + t223.size ≤ 9223372036854775807 then ((spec_Var.f kj13 x6_2).bind fun t224 => (if (t222 ++ t223).size + t224.size ≤ 9223372036854775807 then ((spec_Crc.f kj13 a1).bind fun t225 => ((spec_Var.f kj13 t225).bind fun t226 => (if ((t222 ++ t223) ++ t224).size + t226.size ≤ 9223372036854775807 then ((spec_l4Piece.f kj13 (a1.extract ((ji16) : Int).toNat (x9_13 : Int).toNat)).bind fun t227 => (if (((t222 ++ t223) ++ t224) ++ t226).size + t227.size ≤ 9223372036854775807 then ((spec_l4Sum.f kj13 ((((t222 ++ t223) ++ t224) ++ t226) ++ t227)).bind fun t228 => (if x7_3.length < 8796093022208 then (spec_Spread.l0 kj13 a0 a1 x6_2 (x7_3 ++ [t228]) (wrap64 (x8_3 + 1))) else (none))) else (none))) else (none)))) else (none))) else (none)) = some (r1,r2):=H
              have A21:=Aside0.mk A210
              clear A210
              by_cases c22 : t222.size + t223.size ≤ 9223372036854775807
              ·
               rw [if_pos c22] at H
               have c22b0:=eq_true c22
               have c22b1 : decide (t222.size + t223.size ≤ 9223372036854775807) = true:=decide_eq_true c22
               try have c22b2 : (9223372036854775807 < t222.size + t223.size) = False:=eq_false (Nat.not_lt.2 c22)
               replace H:=Option.bind_eq_some_iff.mp H
               obtain ⟨t224,A230,H⟩:=H
               replace H : (if (t222 ++ t223).size + t224.size ≤ 9223372036854775807 then ((spec_Crc.f kj13 a1).bind fun t225 => ((spec_Var.f kj13 t225).bind fun t226 => (if ((t222 ++ t223) ++ t224).size + t226.size ≤ 9223372036854775807 then ((spec_l4Piece.f kj13 (a1.extract ((ji16) : Int).toNat (x9_13 : Int).toNat)).bind fun t227 => (if (((t222 ++ t223) ++ t224) ++ t226).size + t227.size ≤ 9223372036854775807 then ((spec_l4Sum.f kj13 ((((t222 ++ t223) ++ t224) ++ t226) ++ t227)).bind fun t228 => (if x7_3.length < 8796093022208 then (spec_Spread.l0 kj13 a0 a1 x6_2 (x7_3 ++ [t228]) (wrap64 (x8_3 + 1))) else (none))) else (none))) else (none)))) else (none)) = some (r1,r2):=H
               have A23:=Aside0.mk A230
               clear A230
               by_cases c24 : (t222 ++ t223).size + t224.size ≤ 9223372036854775807
               ·
                rw [if_pos c24] at H
                have c24b0:=eq_true c24
                have c24b1 : decide ((t222 ++ t223).size + t224.size ≤ 9223372036854775807) = true:=decide_eq_true c24
                try have c24b2 : (9223372036854775807 < (t222 ++ t223).size + t224.size) = False:=eq_false (Nat.not_lt.2 c24)
                try have c24b3:=c24b2
                (try simp only [ByteArray.size_append] at c24b3)
                replace H:=Option.bind_eq_some_iff.mp H
                obtain ⟨t225,A250,H⟩:=H
                replace H : ((spec_Var.f kj13 t225).bind fun t226 => (if ((t222 ++ t223) ++ t224).size + t226.size ≤ 9223372036854775807 then ((spec_l4Piece.f kj13 (a1.extract ((ji16) : Int).toNat (x9_13 : Int).toNat)).bind fun t227 => (if (((t222 ++ t223) ++ t224) ++ t226).size + t227.size ≤ 9223372036854775807 then ((spec_l4Sum.f kj13 ((((t222 ++ t223) ++ t224) ++ t226) ++ t227)).bind fun t228 => (if x7_3.length < 8796093022208 then (spec_Spread.l0 kj13 a0 a1 x6_2 (x7_3 ++ [t228]) (wrap64 (x8_3 + 1))) else (none))) else (none))) else (none))) = some (r1,r2):=H
                have A25:=Aside0.mk A250
                clear A250
                replace H:=Option.bind_eq_some_iff.mp H
                obtain ⟨t226,A260,H⟩:=H
                replace H : (if ((t222 ++ t223) ++ t224).size + t226.size ≤ 9223372036854775807 then ((spec_l4Piece.f kj13 (a1.extract ((ji16) : Int).toNat (x9_13 : Int).toNat)).bind fun t227 => (if (((t222 ++ t223) ++ t224) ++ t226).size + t227.size ≤ 9223372036854775807 then ((spec_l4Sum.f kj13 ((((t222 ++ t223) ++ t224) ++ t226) ++ t227)).bind fun t228 => (if x7_3.length < 8796093022208 then (spec_Spread.l0 kj13 a0 a1 x6_2 (x7_3 ++ [t228]) (wrap64 (x8_3 + 1))) else (none))) else (none))) else (none)) = some (r1,r2):=H
                have A26:=Aside0.mk A260
                clear A260
                by_cases c27 : ((t222 ++ t223) ++ t224).size + t226.size ≤ 9223372036854775807
                ·
                 rw [if_pos c27] at H
                 have c27b0:=eq_true c27
                 have c27b1 : decide (((t222 ++ t223) ++ t224).size + t226.size ≤ 9223372036854775807) = true:=decide_eq_true c27
                 try have c27b2 : (9223372036854775807 < ((t222 ++ t223) ++ t224).size + t226.size) = False:=eq_false (Nat.not_lt.2 c27)
                 try have c27b3:=c27b2
                 (try simp only [ByteArray.size_append] at c27b3)
                 replace H:=Option.bind_eq_some_iff.mp H
                 obtain ⟨t227,A280,H⟩:=H
                 replace H : (if (((t222 ++ t223) ++ t224) ++ t226).size + t227.size ≤ 9223372036854775807 then ((spec_l4Sum.f kj13 ((((t222 ++ t223) ++ t224) ++ t226) ++ t227)).bind fun t228 => (if x7_3.length < 8796093022208 then (spec_Spread.l0 kj13 a0 a1 x6_2 (x7_3 ++ [t228]) (wrap64 (x8_3 + 1))) else (none))) else (none)) = some (r1,r2):=H
                 have A28:=Aside0.mk A280
                 clear A280
                 by_cases c29 : (((t222 ++ t223) ++ t224) ++ t226).size + t227.size ≤ 9223372036854775807
                 ·
                  rw [if_pos c29] at H
                  have c29b0:=eq_true c29
                  have c29b1 : decide ((((t222 ++ t223) ++ t224) ++ t226).size + t227.size ≤ 9223372036854775807) = true:=decide_eq_true c29
                  try have c29b2 : (9223372036854775807 < (((t222 ++ t223) ++ t224) ++ t226).size + t227.size) = False:=eq_false (Nat.not_lt.2 c29)
                  try have c29b3:=c29b2
                  (try simp only [ByteArray.size_append] at c29b3)
                  replace H:=Option.bind_eq_some_iff.mp H
                  obtain ⟨t228,A300,H⟩:=H
                  replace H : (if x7_3.length < 8796093022208 then (spec_Spread.l0 kj13 a0 a1 x6_2 (x7_3 ++ [t228]) (wrap64 (x8_3 + 1))) else (none)) = some (r1,r2):=H
                  have A30:=Aside0.mk A300
                  clear A300
                  by_cases c31 : x7_3.length < 8796093022208
                  ·
                   rw [if_pos c31] at H
                   have LMc31:=Aside0.mk c31
                   clear c31
                   obtain ⟨y229,hy229⟩ : ∃ y_ : List ByteArray,y_ = (x7_3 ++ [t228]):=⟨_,rfl⟩
                   replace H : (spec_Spread.l0 kj13 a0 a1 x6_2 y229 (wrap64 (x8_3 + 1))) = some (r1,r2):=by first|(rw [hy229];with_reducible exact H)|(have H2_:=(Option.bind_some _ _).symm.trans H;rw [hy229];with_reducible exact H2_)|(have H2_:=(Option.bind_some _ _).symm.trans H;with_reducible exact H2_)|with_reducible exact H|(rw [hy229];exact H)|exact H
                   have Ny229:=Aside0.mk hy229
                   clear hy229
                   have H':=Aside0.mk H
                   clear H
                   go_wp2_with (first|((with_reducible refine gate_callee (f:=28) rfl ?_);refine goesL_ (some 48) rfl rfl Try.func28 (by kernel_rfl) rfl #[.int .i64 a0] rfl (by (try simp only [List.map_toArray,List.map_cons,List.map_nil]);first|done|rfl|(simp only [List.length_drop,List.length_take];rfl)) ?_;(with_reducible refine (spec_Var.calls kj13 a0 t222 _ A20.out).mono ?_);rintro e w32 ⟨rfl,hb⟩;refine ⟨_,rfl,?_⟩;have n0_:=Aside0.mk (Kd.R_below (by (with_reducible repeat (first|apply Kd.R_alloc|apply Kd.R_drewN|apply Kd.R_drew));exact HO_7.out) hb);have n1_:=Aside0.mk (below_step (by repeat (first|(with_reducible first|exact HB.out|apply below_alloc|apply pw_below_drewN|apply below_drew1)|exact HB.out)) hb);clear HO_7;clear HB;have HO_7:=n0_;have HB:=n1_;clear n0_ n1_;(try clear hb);(try clear hb2);(try clear hk);(try clear hi))|((with_reducible refine gate_callee (f:=28) rfl ?_);refine goesL_ (some 50) rfl rfl Try.func28 (by kernel_rfl) rfl #[.int .i64 x8_3] rfl (by (try simp only [List.map_toArray,List.map_cons,List.map_nil]);first|done|rfl|(simp only [List.length_drop,List.length_take];rfl)) ?_;(with_reducible refine (spec_Var.calls kj13 x8_3 t223 _ A21.out).mono ?_);rintro e w33 ⟨rfl,hb⟩;refine ⟨_,rfl,?_⟩;have n0_:=Aside0.mk (Kd.R_below (by (with_reducible repeat (first|apply Kd.R_alloc|apply Kd.R_drewN|apply Kd.R_drew));exact HO_7.out) hb);have n1_:=Aside0.mk (below_step (by repeat (first|(with_reducible first|exact HB.out|apply below_alloc|apply pw_below_drewN|apply below_drew1)|exact HB.out)) hb);clear HO_7;clear HB;have HO_7:=n0_;have HB:=n1_;clear n0_ n1_;(try clear hb);(try clear hb2);(try clear hk);(try clear hi))|((with_reducible refine gate_callee (f:=28) rfl ?_);refine goesL_ (some 53) rfl rfl Try.func28 (by kernel_rfl) rfl #[.int .i64 x6_2] rfl (by (try simp only [List.map_toArray,List.map_cons,List.map_nil]);first|done|rfl|(simp only [List.length_drop,List.length_take];rfl)) ?_;(with_reducible refine (spec_Var.calls kj13 x6_2 t224 _ A23.out).mono ?_);rintro e w34 ⟨rfl,hb⟩;refine ⟨_,rfl,?_⟩;have n0_:=Aside0.mk (Kd.R_below (by (with_reducible repeat (first|apply Kd.R_alloc|apply Kd.R_drewN|apply Kd.R_drew));exact HO_7.out) hb);have n1_:=Aside0.mk (below_step (by repeat (first|(with_reducible first|exact HB.out|apply below_alloc|apply pw_below_drewN|apply below_drew1)|exact HB.out)) hb);clear HO_7;clear HB;have HO_7:=n0_;have HB:=n1_;clear n0_ n1_;(try clear hb);(try clear hb2);(try clear hk);(try clear hi))|((with_reducible refine gate_callee (f:=29) rfl ?_);refine goesL_ (some 56) rfl rfl Try.func29 (by kernel_rfl) rfl #[.string a1] rfl (by (try simp only [List.map_toArray,List.map_cons,List.map_nil]);first|done|rfl|(simp only [List.length_drop,List.length_take];rfl)) ?_;(with_reducible refine (spec_Crc.calls kj13 a1 t225 _ A25.out).mono ?_);rintro e w' ⟨rfl,⟨nd,rfl⟩⟩;refine ⟨_,rfl,?_⟩)|((with_reducible refine gate_callee (f:=28) rfl ?_);refine goesL_ (some 57) rfl rfl Try.func28 (by kernel_rfl) rfl #[.int .i64 t225] rfl (by (try simp only [List.map_toArray,List.map_cons,List.map_nil]);first|done|rfl|(simp only [List.length_drop,List.length_take];rfl)) ?_;(with_reducible refine (spec_Var.calls kj13 t225 t226 _ A26.out).mono ?_);rintro e w35 ⟨rfl,hb⟩;refine ⟨_,rfl,?_⟩;have n0_:=Aside0.mk (Kd.R_below (by (with_reducible repeat (first|apply Kd.R_alloc|apply Kd.R_drewN|apply Kd.R_drew));exact HO_7.out) hb);have n1_:=Aside0.mk (below_step (by repeat (first|(with_reducible first|exact HB.out|apply below_alloc|apply pw_below_drewN|apply below_drew1)|exact HB.out)) hb);clear HO_7;clear HB;have HO_7:=n0_;have HB:=n1_;clear n0_ n1_;(try clear hb);(try clear hb2);(try clear hk);(try clear hi))|((with_reducible refine gate_callee (f:=30) rfl ?_);refine goesL_ (some 60) rfl rfl Try.func30 (by kernel_rfl) rfl #[.string (a1.extract ((ji16) : Int).toNat (x9_13 : Int).toNat)] rfl (by (try simp only [List.map_toArray,List.map_cons,List.map_nil]);first|done|(simp only [hji16];rfl)|rfl|(simp only [List.length_drop,List.length_take];rfl)) ?_;(with_reducible refine (spec_l4Piece.calls kj13 (a1.extract ((ji16) : Int).toNat (x9_13 : Int).toNat) t227 _ A28.out).mono ?_);rintro e w36 ⟨rfl,hb⟩;refine ⟨_,rfl,?_⟩;have n0_:=Aside0.mk (Kd.R_below (by (with_reducible repeat (first|apply Kd.R_alloc|apply Kd.R_drewN|apply Kd.R_drew));exact HO_7.out) hb);have n1_:=Aside0.mk (below_step (by repeat (first|(with_reducible first|exact HB.out|apply below_alloc|apply pw_below_drewN|apply below_drew1)|exact HB.out)) hb);clear HO_7;clear HB;have HO_7:=n0_;have HB:=n1_;clear n0_ n1_;(try clear hb);(try clear hb2);(try clear hk);(try clear hi))|((with_reducible refine gate_callee (f:=27) rfl ?_);refine goesL_ (some 62) rfl rfl Try.func27 (by kernel_rfl) rfl #[.string ((((t222 ++ t223) ++ t224) ++ t226) ++ t227)] rfl (by (try simp only [List.map_toArray,List.map_cons,List.map_nil]);first|done|rfl|(simp only [List.length_drop,List.length_take];rfl)) ?_;(with_reducible refine (spec_l4Sum.calls kj13 ((((t222 ++ t223) ++ t224) ++ t226) ++ t227) t228 _ A30.out).mono ?_);rintro e w37 ⟨rfl,hb⟩;refine ⟨_,rfl,?_⟩;have n0_:=Aside0.mk (Kd.R_below (by (with_reducible repeat (first|apply Kd.R_alloc|apply Kd.R_drewN|apply Kd.R_drew));exact HO_7.out) hb);have n1_:=Aside0.mk (below_step (by repeat (first|(with_reducible first|exact HB.out|apply below_alloc|apply pw_below_drewN|apply below_drew1)|exact HB.out)) hb);clear HO_7;clear HB;have HO_7:=n0_;have HB:=n1_;clear n0_ n1_;(try clear hb);(try clear hb2);(try clear hk);(try clear hi))|((with_reducible refine gate_builtin (b:=.append) (xs:=#[.tmp 46,.tmp 63]) rfl ?_);at_builtin;refine Kd.R_append Kd.string (w0:=w) w.heap.size rfl (.tmp 46) (.tmp 63) 22 9 (.string ⟨#[]⟩) 16 rfl Try.underlying22 info9 rfl (by decide) (by omega) u7 x7_3 t228 [.string t228] (fun _ => True) (fun _ => False) rfl rfl ?aP (fun _ hk => hk.elim) ?aF ?aO ?aB ?aS ?aL ?_;(case aP => exact rfl);(case aB => exact (by repeat (first|(with_reducible first|exact HB.out|apply below_alloc|apply pw_below_drewN|apply below_drew1)|exact HB.out)));(case aF => exact (fun _ _ => trivial));(case aO => exact (by (with_reducible repeat (first|apply Kd.R_alloc|apply Kd.R_drewN|apply Kd.R_drew));exact HO_7.out));(case aS => exact (below_size (by repeat (first|(with_reducible first|exact HB.out|apply below_alloc|apply pw_below_drewN|apply below_drew1)|exact HB.out))));(case aL => have:=LMc31.out;omega);intro v230 w38 ho hb hg hat;rw [← Ny229.out] at ho;have n0_:=Aside0.mk (hb);have n1_:=Aside0.mk (ho);clear HB;clear HO_7;have HB:=n0_;have HO231:=n1_;clear n0_ n1_;clear ho hb hg hat))
                   go_roundg kj13
                   case measure => have:=HJ2.out;have:=HJ4.out;have:=HK3.out;have:=HJ13.out;omega
                   case rel => exact ⟨(y229),(wrap64 (x8_3 + 1)),(by first|rfl|(simp;done)|(simp [*];done)),H',⟨by have:=HJ2.out;have:=HJ4.out;have:=HK3.out;have:=HJ13.out;omega⟩,⟨by (with_reducible repeat (first|apply Kd.R_alloc|apply Kd.R_drewN|apply Kd.R_drew));exact HO231.out⟩,⟨by repeat (first|(with_reducible first|exact HB.out|apply below_alloc|apply pw_below_drewN|apply below_drew1)|exact HB.out)⟩⟩
                  ·
                   rw [if_neg c31] at H
                   exact absurd H (by simp)
                 ·
                  rw [if_neg c29] at H
                  exact absurd H (by simp)
                ·
                 rw [if_neg c27] at H
                 exact absurd H (by simp)
               ·
                rw [if_neg c24] at H
                exact absurd H (by simp)
              ·
               rw [if_neg c22] at H
               exact absurd H (by simp)
             ·
              rw [if_neg c19] at H
              exact absurd H (by simp)
            ·
             rw [if_neg c18] at H
             exact absurd H (by simp)
           ·
            rw [if_neg c17] at H
            exact absurd H (by simp)
        ·
         rw [if_neg c13] at H
         have c13b0 : decide (x8_3 < x6_2) = false:=decide_eq_false c13
         clear c13
         simp only [Option.some.injEq,Prod.mk.injEq] at H
         obtain ⟨rfl,rfl⟩:=H
         go_wp2
         go_ret2
         exact ⟨_,by first|rfl|(simp [errW_none,errW_some] <;> rfl)|(simp [*,errW_none,errW_some] <;> rfl),by (with_reducible repeat (first|apply Kd.R_alloc|apply Kd.R_drewN|apply Kd.R_drew));exact HO_7.out,by repeat (first|(with_reducible first|exact HB.out|apply below_alloc|apply pw_below_drewN|apply below_drew1)|exact HB.out)⟩
def impl_in.f (a0 : Int) (a1 : Int) (a2 : Int) : Option (Bool):=if a1 ≤ a0 then (some (decide (a0 ≤ a2))) else (some false)
set_option maxHeartbeats 8000000 in
set_option maxRecDepth 100000 in
theorem impl_in.calls (a0 : Int) (a1 : Int) (a2 : Int) (r : Bool) (w : World) (h : impl_in.f a0 a1 a2 = some r) :
  Calls Try.prog 31 #[.int .i64 a0,.int .i64 a1,.int .i64 a2] w fun e w' => e = .returned (.bool r) ∧ Drawn0 w w':=by
 have H : (if a1 ≤ a0 then (some (decide (a0 ≤ a2))) else (some false)) = some r:=h
 clear h
 by_cases c4 : a1 ≤ a0
 ·
  rw [if_pos c4] at H
  have c4b0 : decide (a1 ≤ a0) = true:=decide_eq_true c4
  clear c4
  obtain rfl:=Option.some.inj H
  go_enter Try.func31,Try.ntmps31
  go_wp2
  go_ret
  exact ⟨by first|rfl|(simp;done)|(simp [*];done),by repeat (first|exact Drawn0.refl _|apply Drawn0.step)⟩
 ·
  rw [if_neg c4] at H
  have c4b0 : decide (a1 ≤ a0) = false:=decide_eq_false c4
  clear c4
  obtain rfl:=Option.some.inj H
  go_enter Try.func31,Try.ntmps31
  go_wp2
  go_ret
  exact ⟨by first|rfl|(simp;done)|(simp [*];done),by repeat (first|exact Drawn0.refl _|apply Drawn0.step)⟩
mutual
def impl_Crc.l0 : Nat → ByteArray → Int → Int → Int → Option (Int)
  | 0,_,_,_,_ => none
  | k + 1,x0,x3,x7,x8 => if x8 < x7 then (if 0 ≤ x8 then (if x8 < (x0.size : Int) then (impl_Crc.l1 k x0 (Go.bits .xor .u32 x3 ((bt x0 x8) % 4294967296)) x7 x8 0) else (none)) else (none)) else (some ((4294967295 - x3) % 4294967296))
def impl_Crc.l1 : Nat → ByteArray → Int → Int → Int → Int → Option (Int)
  | 0,_,_,_,_,_ => none
  | k + 1,x0,x3,x7,x8,x17 => if x17 < 8 then (if (Go.bits .and .u32 x3 1) = 1 then (impl_Crc.l1 k x0 (Go.bits .xor .u32 (x3 / 2) 2197175160) x7 x8 (wrap64 (x17 + 1))) else (impl_Crc.l1 k x0 (x3 / 2) x7 x8 (wrap64 (x17 + 1)))) else (impl_Crc.l0 k x0 x3 x7 (wrap64 (x8 + 1)))
end
def impl_Crc.f (k : Nat) (a0 : ByteArray) : Option (Int):=impl_Crc.l0 k a0 4294967295 (a0.size : Int) 0
set_option maxHeartbeats 8000000 in
set_option maxRecDepth 100000 in
theorem impl_Crc.calls (k : Nat) (a0 : ByteArray) (r : Int) (w : World) (h : impl_Crc.f k a0 = some r) :
  Calls Try.prog 47 #[.string a0] w fun e w' => e = .returned (.int .i64 r) ∧ Drawn0 w w':=by
 have H : (impl_Crc.l0 k a0 4294967295 (a0.size : Int) 0) = some r:=h
 clear h
 have H':=Aside0.mk H
 clear H
 go_enter Try.func47,Try.ntmps47
 go_wp2
 go_loopg [3,8] k (fun kq v3 v8 w' => ∃ (x3_1 : Int) (x8_1 : Int),v3 = .int .u32 x3_1 ∧ v8 = .int .i64 x8_1 ∧ Aside0 (impl_Crc.l0 kq a0 x3_1 (a0.size : Int) x8_1 = some r) ∧ Aside0 (kq ≤ k) ∧ Drawn0 w w')
 case atStart => exact ⟨(4294967295),(0),(by first|rfl|(simp;done)|(simp [*];done)),(by first|rfl|(simp;done)|(simp [*];done)),H',⟨Nat.le_refl _⟩,by repeat (first|exact Drawn0.refl _|apply Drawn0.step)⟩
 case round =>
  clear H'
  obtain ⟨x3_1,x8_1,rfl,rfl,HA,HK1,⟨m1,rfl⟩⟩:=hrel
  cases gk with
  | zero => exact absurd HA.out (by simp [impl_Crc.l0])
  | succ k1 =>
   have H:=HA.out
   clear HA
   simp only [impl_Crc.l0] at H
   by_cases c2 : x8_1 < (a0.size : Int)
   ·
    rw [if_pos c2] at H
    have c2b0 : decide (x8_1 < (a0.size : Int)) = true:=decide_eq_true c2
    clear c2
    by_cases c3 : 0 ≤ x8_1
    ·
     rw [if_pos c3] at H
     have c3b0 : decide (0 ≤ x8_1) = true:=decide_eq_true c3
     clear c3
     by_cases c4 : x8_1 < (a0.size : Int)
     ·
      rw [if_pos c4] at H
      have c4b0 : decide (x8_1 < (a0.size : Int)) = true:=decide_eq_true c4
      clear c4
      have H':=Aside0.mk H
      clear H
      have p5 : 0 ≤ (x8_1 : Int):=of_decide_eq_true (by first|(with_reducible assumption)|assumption)
      have q5 : x8_1 < (a0.size : Int):=of_decide_eq_true (by first|(with_reducible assumption)|assumption)
      have hx5:=bt_at a0 x8_1
      replace p5:=eq_true p5
      replace q5:=eq_true q5
      go_wp2
      go_loopg [3,17] k1 (fun kq v3 v17 w' => ∃ (x3_2 : Int) (x17_2 : Int),v3 = .int .u32 x3_2 ∧ v17 = .int .i64 x17_2 ∧ Aside0 (impl_Crc.l1 kq a0 x3_2 (a0.size : Int) x8_1 x17_2 = some r) ∧ Aside0 (kq ≤ k1) ∧ Drawn0 w w')
      case atStart => exact ⟨(Go.bits .xor .u32 x3_1 ((bt a0 x8_1) % 4294967296)),(0),(by first|rfl|(simp;done)|(simp [*];done)),(by first|rfl|(simp;done)|(simp [*];done)),H',⟨Nat.le_refl _⟩,by repeat (first|exact Drawn0.refl _|apply Drawn0.step)⟩
      case round =>
       clear H'
       try clear c2
       try clear c2b0
       try clear p2
       try clear c3
       try clear c3b0
       try clear c4
       try clear c4b0
       try clear p5
       try clear q5
       try clear hx5
       try clear p5
       try clear q5
       obtain ⟨x3_2,x17_2,rfl,rfl,HA,HK2,⟨m2,rfl⟩⟩:=hrel
       cases gk with
       | zero => exact absurd HA.out (by simp [impl_Crc.l1])
       | succ k2 =>
        have H:=HA.out
        clear HA
        simp only [impl_Crc.l1] at H
        by_cases c6 : x17_2 < 8
        ·
         rw [if_pos c6] at H
         have c6b0 : decide (x17_2 < 8) = true:=decide_eq_true c6
         clear c6
         by_cases c7 : (Go.bits .and .u32 x3_2 1) = 1
         ·
          rw [if_pos c7] at H
          have c7b0 : ((Go.bits .and .u32 x3_2 1) == 1) = true:=beq_iff_eq.mpr c7
          have c7b1 : ((Go.bits .and .u32 x3_2 1) != 1) = false:=bne_eq_false_iff_eq.mpr c7
          clear c7
          have H':=Aside0.mk H
          clear H
          go_wp2
          go_roundg k2
          case measure => have:=HK1.out;have:=HK2.out;omega
          case rel => exact ⟨(Go.bits .xor .u32 (x3_2 / 2) 2197175160),(wrap64 (x17_2 + 1)),(by first|rfl|(simp;done)|(simp [*];done)),(by first|rfl|(simp;done)|(simp [*];done)),H',⟨by have:=HK1.out;have:=HK2.out;omega⟩,by repeat (first|exact Drawn0.refl _|apply Drawn0.step)⟩
         ·
          rw [if_neg c7] at H
          have c7b0 : ((Go.bits .and .u32 x3_2 1) == 1) = false:=beq_eq_false_iff_ne.mpr c7
          have c7b1 : ((Go.bits .and .u32 x3_2 1) != 1) = true:=bne_iff_ne.mpr c7
          have H':=Aside0.mk H
          clear H
          go_wp2
          go_roundg k2
          case measure => have:=HK1.out;have:=HK2.out;omega
          case rel => exact ⟨(x3_2 / 2),(wrap64 (x17_2 + 1)),(by first|rfl|(simp;done)|(simp [*];done)),(by first|rfl|(simp;done)|(simp [*];done)),H',⟨by have:=HK1.out;have:=HK2.out;omega⟩,by repeat (first|exact Drawn0.refl _|apply Drawn0.step)⟩
        ·
         rw [if_neg c6] at H
         have c6b0 : decide (x17_2 < 8) = false:=decide_eq_false c6
         clear c6
         have H':=Aside0.mk H
         clear H
         go_wp2
         go_roundg k2
         case measure => have:=HK1.out;have:=HK2.out;omega
         case rel => exact ⟨(x3_2),(wrap64 (x8_1 + 1)),(by first|rfl|(simp;done)|(simp [*];done)),(by first|rfl|(simp;done)|(simp [*];done)),H',⟨by have:=HK1.out;have:=HK2.out;omega⟩,by repeat (first|exact Drawn0.refl _|apply Drawn0.step)⟩
     ·
      rw [if_neg c4] at H
      exact absurd H (by simp)
    ·
     rw [if_neg c3] at H
     exact absurd H (by simp)
   ·
    rw [if_neg c2] at H
    have c2b0 : decide (x8_1 < (a0.size : Int)) = false:=decide_eq_false c2
    clear c2
    obtain rfl:=Option.some.inj H
    go_wp2
    go_ret
    exact ⟨by first|rfl|(simp;done)|(simp [*];done),by repeat (first|exact Drawn0.refl _|apply Drawn0.step)⟩
end Go.Proofs.Ytlndidfeapkgcaa.P
