-- Ours: printed or written for this claim; cut to what the theorem needs.
import Derived.Test.YtlndidfeapkgcaaZPx0
import Derived.Test.YtlndidfeapkgcaaZPx2
import Derived.Test.YtlndidfeapkgcaaZPx3
import Derived.Test.YtlndidfeapkgcaaZPx5
import Derived.Test.YtlndidfeapkgcaaZPx6
namespace Go.Proofs.Ytlndidfeapkgcaa.P
open Go.RowKit Go.Proofs.YtlndidfeapkgcaaW.PrintWords Go.Proofs.YtlndidfeapkgcaaW.PrintLast Go.Proofs.YtlndidfeapkgcaaW.PrintMore
attribute [local go_sem] max2_int min2_int max_two min_two max_three min_three max_four min_four
set_option linter.unusedVariables false
set_option linter.unusedSimpArgs false
mutual
def impl_spread.l0 : Nat → Int → ByteArray → List ByteArray → ByteArray → Option (List ByteArray)
  | 0,_,_,_,_ => none
  | k + 1,x0,x1,x5,x6 => if (x6.size : Int) ≤ 12 then (if x5.length < 8796093022208 then ((some (x5 ++ [x6] : List ByteArray)).bind fun y254 => (impl_spread.l1 k x0 x1 y254 (([] : List ByteArray)) y254 (y254.length : Int) 0)) else (none)) else (if 0 ≤ 12 then (if 12 ≤ (x6.size : Int) then (if x5.length < 8796093022208 then (impl_spread.l0 k x0 x1 (x5 ++ [x6.extract 0 12]) (x6.extract 12 x6.size)) else (none)) else (none)) else (none))
def impl_spread.l1 : Nat → Int → ByteArray → List ByteArray → List ByteArray → List ByteArray → Int → Int → Option (List ByteArray)
  | 0,_,_,_,_,_,_,_ => none
  | k + 1,x0,x1,x5,x7,x27,x28,x29 => if x29 < x28 then (if 0 ≤ x29 then (if x29 < (x27.length : Int) then ((impl_Crc.f k x1).bind fun t264 => ((impl_vars.f k (([x0,x29,(x5.length : Int),t264,((rdOf ByteArray.empty x27 x29).size : Int)] : List Int))).bind fun t268 => (if t268.size + (rdOf ByteArray.empty x27 x29).size ≤ 9223372036854775807 then ((impl_packed.f k (t268 ++ (rdOf ByteArray.empty x27 x29))).bind fun t269 => (if x7.length < 8796093022208 then (impl_spread.l1 k x0 x1 x5 (x7 ++ [t269]) x27 x28 (wrap64 (x29 + 1))) else (none))) else (none)))) else (none)) else (none)) else (some x7)
end
def impl_spread.f (k : Nat) (a0 : Int) (a1 : ByteArray) : Option (List ByteArray):=impl_spread.l0 k a0 a1 (([] : List ByteArray)) a1
set_option maxHeartbeats 8000000 in
set_option maxRecDepth 100000 in
theorem impl_spread.calls (k : Nat) (a0 : Int) (a1 : ByteArray) (r : List ByteArray) (w : World) (h : impl_spread.f k a0 a1 = some r) :
  Calls Try.prog 32 #[.int .i64 a0,.string a1] w fun e w' => ∃ v0_ : Value,e = .returned (v0_) ∧ Kd.R Kd.string 9 w' w.heap.size (fun _ => True) v0_ r ∧ Below w.heap.size w w':=by
 have HB:=Aside0.mk (Below.refl w.heap.size w)
 have H : (impl_spread.l0 k a0 a1 (([] : List ByteArray)) a1) = some r:=h
 clear h
 obtain ⟨y251,hy251⟩ : ∃ y_ : List ByteArray,y_ = (([] : List ByteArray)):=⟨_,rfl⟩
 replace H : (impl_spread.l0 k a0 a1 y251 a1) = some r:=by first|(rw [hy251];with_reducible exact H)|(have H2_:=(Option.bind_some _ _).symm.trans H;rw [hy251];with_reducible exact H2_)|(have H2_:=(Option.bind_some _ _).symm.trans H;with_reducible exact H2_)|with_reducible exact H|(rw [hy251];exact H)|exact H
 have Ny251:=Aside0.mk hy251
 clear hy251
 have H':=Aside0.mk H
 clear H
 go_enter Try.func32,Try.ntmps32
 go_wp2_with (first|((with_reducible refine gate_dst (N:=10) rfl ?_);refine Kd.R_lit Kd.string _ 9 ?hg (N:=10) ?hd (xs:=([] : List ByteArray)) (inner:=[]) (ok:=fun _ => True) (okp:=fun _ => True) ?hr ?hp (fun _ hk => hk) trivial (Below.refl _ _) (Nat.le_refl _) (by simp) ?_;(case hd => rfl);(case hg => rfl);(case hr => first|(go_simp;done)|(go_simp;rfl));(case hp => exact (Reps.none _ _));intro v252 w3 ho4 hb hg_ hnew_;clear hg_ hnew_;(first|rw [← Ny251.out] at ho4|(simp only [Int.reduceToNat] at ho4;rw [← Ny251.out] at ho4));have n0_:=Aside0.mk (Kd.R_lower ho4 (below_size (by repeat (first|(with_reducible first|exact HB.out|apply below_alloc|apply pw_below_drewN|apply below_drew1)|exact HB.out))));have n1_:=Aside0.mk (below_step (by repeat (first|(with_reducible first|exact HB.out|apply below_alloc|apply pw_below_drewN|apply below_drew1)|exact HB.out)) hb);clear HB;have HO253:=n0_;have HB:=n1_;clear n0_ n1_;clear hb ho4))
 go_loopg [5,6] k (fun kq v5 v6 w' => ∃ (x5_1 : List ByteArray) (x6_1 : ByteArray),v6 = .string x6_1 ∧ Aside0 (impl_spread.l0 kq a0 a1 x5_1 x6_1 = some r) ∧ Aside0 (kq ≤ k) ∧ Aside0 (Kd.R Kd.string 9 w' w.heap.size (fun _ => True) v5 x5_1) ∧ Aside0 (Below w.heap.size w w'))
 case atStart => exact ⟨(y251),(a1),(by first|rfl|(simp;done)|(simp [*];done)),H',⟨Nat.le_refl _⟩,⟨by (with_reducible repeat (first|apply Kd.R_alloc|apply Kd.R_drewN|apply Kd.R_drew));exact HO253.out⟩,⟨by repeat (first|(with_reducible first|exact HB.out|apply below_alloc|apply pw_below_drewN|apply below_drew1)|exact HB.out)⟩⟩
 case round =>
  clear H'
  try clear p2
  try clear c3
  obtain ⟨x5_1,x6_1,rfl,HA,HK1,HO_5,HB⟩:=hrel
  cases gk with
  | zero => exact absurd HA.out (by simp [impl_spread.l0])
  | succ k1 =>
   have H:=HA.out
   clear HA
   simp only [impl_spread.l0] at H
   by_cases c5 : (x6_1.size : Int) ≤ 12
   ·
    rw [if_pos c5] at H
    have c5b0 : decide ((x6_1.size : Int) ≤ 12) = true:=decide_eq_true c5
    have c5b1 : decide (x6_1.size ≤ 12) = true:=decide_eq_true (by omega)
    clear c5
    by_cases c6 : x5_1.length < 8796093022208
    ·
     rw [if_pos c6] at H
     have LMc6:=Aside0.mk c6
     clear c6
     obtain ⟨y254,hy254⟩ : ∃ y_ : List ByteArray,y_ = (x5_1 ++ [x6_1]):=⟨_,rfl⟩
     replace H : (impl_spread.l1 k1 a0 a1 y254 (([] : List ByteArray)) y254 (y254.length : Int) 0) = some r:=by first|(rw [hy254];with_reducible exact H)|(have H2_:=(Option.bind_some _ _).symm.trans H;rw [hy254];with_reducible exact H2_)|(have H2_:=(Option.bind_some _ _).symm.trans H;with_reducible exact H2_)|with_reducible exact H|(rw [hy254];exact H)|exact H
     have Ny254:=Aside0.mk hy254
     clear hy254
     obtain ⟨y260,hy260⟩ : ∃ y_ : List ByteArray,y_ = (([] : List ByteArray)):=⟨_,rfl⟩
     replace H : (impl_spread.l1 k1 a0 a1 y254 y260 y254 (y254.length : Int) 0) = some r:=by first|(rw [hy260];with_reducible exact H)|(have H2_:=(Option.bind_some _ _).symm.trans H;rw [hy260];with_reducible exact H2_)|(have H2_:=(Option.bind_some _ _).symm.trans H;with_reducible exact H2_)|with_reducible exact H|(rw [hy260];exact H)|exact H
     have Ny260:=Aside0.mk hy260
     clear hy260
     have H':=Aside0.mk H
     clear H
     go_wp2_with (first|((with_reducible refine gate_builtin (b:=.append) (xs:=#[.tmp 17,.tmp 19]) rfl ?_);at_builtin;refine Kd.R_append Kd.string (w0:=w) w.heap.size rfl (.tmp 17) (.tmp 19) 22 9 (.string ⟨#[]⟩) 16 rfl Try.underlying22 info9 rfl (by decide) (by omega) u5 x5_1 x6_1 [.string x6_1] (fun _ => True) (fun _ => False) rfl rfl ?aP (fun _ hk => hk.elim) ?aF ?aO ?aB ?aS ?aL ?_;(case aP => exact rfl);(case aB => exact (by repeat (first|(with_reducible first|exact HB.out|apply below_alloc|apply pw_below_drewN|apply below_drew1)|exact HB.out)));(case aF => exact (fun _ _ => trivial));(case aO => exact (by (with_reducible repeat (first|apply Kd.R_alloc|apply Kd.R_drewN|apply Kd.R_drew));exact HO_5.out));(case aS => exact (below_size (by repeat (first|(with_reducible first|exact HB.out|apply below_alloc|apply pw_below_drewN|apply below_drew1)|exact HB.out))));(case aL => have:=LMc6.out;omega);intro v255 w7 ho hb hg hat;rw [← Ny254.out] at ho;have n0_:=Aside0.mk (hb);have n1_:=Aside0.mk (ho);clear HB;clear HO_5;have HB:=n0_;have HO256:=n1_;clear n0_ n1_;clear ho hb hg hat)|((with_reducible refine gate_dst (N:=26) rfl ?_);refine Kd.R_lit Kd.string _ 9 ?hg (N:=26) ?hd (xs:=([] : List ByteArray)) (inner:=[]) (ok:=fun _ => True) (okp:=fun _ => True) ?hr ?hp (fun _ hk => hk) trivial (Below.refl _ _) (Nat.le_refl _) (by simp) ?_;(case hd => rfl);(case hg => rfl);(case hr => first|(go_simp;done)|(go_simp;rfl));(case hp => exact (Reps.none _ _));intro v261 w8 ho9 hb hg_ hnew_;clear hg_ hnew_;(first|rw [← Ny260.out] at ho9|(simp only [Int.reduceToNat] at ho9;rw [← Ny260.out] at ho9));have n0_:=Aside0.mk (Kd.R_elder' (by (with_reducible repeat (first|apply Kd.R_alloc|apply Kd.R_drewN|apply Kd.R_drew));exact HO256.out) (Kd.R_base ho9) hb);have n1_:=Aside0.mk (Kd.R_lower (Kd.R_new' ho9 (Kd.R_lt (by (with_reducible repeat (first|apply Kd.R_alloc|apply Kd.R_drewN|apply Kd.R_drew));exact HO256.out))) (below_size (by repeat (first|(with_reducible first|exact HB.out|apply below_alloc|apply pw_below_drewN|apply below_drew1)|exact HB.out))));have n2_:=Aside0.mk (below_step (by repeat (first|(with_reducible first|exact HB.out|apply below_alloc|apply pw_below_drewN|apply below_drew1)|exact HB.out)) hb);clear HO256;clear HB;have HO256:=n0_;have HO262:=n1_;have HB:=n2_;clear n0_ n1_ n2_;clear hb ho9;obtain ⟨Ao10,co10,eo10⟩:=Kd.R_slice HO256.out;subst eo10))
     go_loopg [7,29] k1 (fun kq v7 v29 w' => ∃ (x7_2 : List ByteArray) (x29_2 : Int),v29 = .int .i64 x29_2 ∧ Aside0 (impl_spread.l1 kq a0 a1 y254 x7_2 y254 (y254.length : Int) x29_2 = some r) ∧ Aside0 (kq ≤ k1) ∧ Aside0 (Kd.R Kd.string 9 w' w.heap.size (fun k_ => some k_ ≠ (v7 : Value).ownBlock) (.slice Ao10 y254.length co10) y254) ∧ Aside0 (Kd.R Kd.string 9 w' w.heap.size (fun k_ => some k_ ≠ ((.slice Ao10 y254.length co10) : Value).ownBlock ∧ some k_ ≠ ((.slice Ao10 y254.length co10) : Value).ownBlock) v7 x7_2) ∧ Aside0 (Kd.R Kd.string 9 w' w.heap.size (fun k_ => some k_ ≠ (v7 : Value).ownBlock) (.slice Ao10 y254.length co10) y254) ∧ Aside0 (Below w.heap.size w w'))
     case atStart => exact ⟨(y260),(0),(by first|rfl|(simp;done)|(simp [*];done)),H',⟨Nat.le_refl _⟩,⟨by (with_reducible repeat (first|apply Kd.R_alloc|apply Kd.R_drewN|apply Kd.R_drew));exact Kd.R_mono HO256.out (fun _ hk => hk.2)⟩,⟨by (with_reducible repeat (first|apply Kd.R_alloc|apply Kd.R_drewN|apply Kd.R_drew));exact Kd.R_mono HO262.out (fun _ hk => ⟨hk.2,hk.2⟩)⟩,⟨by (with_reducible repeat (first|apply Kd.R_alloc|apply Kd.R_drewN|apply Kd.R_drew));exact Kd.R_mono HO256.out (fun _ hk => hk.2)⟩,⟨by repeat (first|(with_reducible first|exact HB.out|apply below_alloc|apply pw_below_drewN|apply below_drew1)|exact HB.out)⟩⟩
     case round =>
      clear H'
      try clear p2
      try clear c3
      try clear c5
      try clear c5b0
      try clear c5b1
      try clear c6
      try clear p2
      obtain ⟨x7_2,x29_2,rfl,HA,HK2,HO_5,HO_7,HO_27,HB⟩:=hrel
      cases gk with
      | zero => exact absurd HA.out (by simp [impl_spread.l1])
      | succ k2 =>
       have H:=HA.out
       clear HA
       simp only [impl_spread.l1] at H
       by_cases c11 : x29_2 < (y254.length : Int)
       ·
        rw [if_pos c11] at H
        have c11b0 : decide (x29_2 < (y254.length : Int)) = true:=decide_eq_true c11
        clear c11
        by_cases c12 : 0 ≤ x29_2
        ·
         rw [if_pos c12] at H
         have c12b0 : decide (0 ≤ x29_2) = true:=decide_eq_true c12
         clear c12
         by_cases c13 : x29_2 < (y254.length : Int)
         ·
          rw [if_pos c13] at H
          have c13b0 : decide (x29_2 < (y254.length : Int)) = true:=decide_eq_true c13
          clear c13
          replace H:=Option.bind_eq_some_iff.mp H
          obtain ⟨t264,A140,H⟩:=H
          replace H : ((impl_vars.f k2 (([a0,x29_2,(y254.length : Int),t264,((rdOf ByteArray.empty y254 x29_2).size : Int)] : List Int))).bind fun t268 => (if t268.size + (rdOf ByteArray.empty y254 x29_2).size ≤ 9223372036854775807 then ((impl_packed.f k2 (t268 ++ (rdOf ByteArray.empty y254 x29_2))).bind fun t269 => (if x7_2.length < 8796093022208 then (impl_spread.l1 k2 a0 a1 y254 (x7_2 ++ [t269]) y254 (y254.length : Int) (wrap64 (x29_2 + 1))) else (none))) else (none))) = some r:=H
          have A14:=Aside0.mk A140
          clear A140
          obtain ⟨y265,hy265⟩ : ∃ y_ : List Int,y_ = (([a0,x29_2,(y254.length : Int),t264,((rdOf ByteArray.empty y254 x29_2).size : Int)] : List Int)):=⟨_,rfl⟩
          replace H : ((impl_vars.f k2 y265).bind fun t268 => (if t268.size + (rdOf ByteArray.empty y254 x29_2).size ≤ 9223372036854775807 then ((impl_packed.f k2 (t268 ++ (rdOf ByteArray.empty y254 x29_2))).bind fun t269 => (if x7_2.length < 8796093022208 then (impl_spread.l1 k2 a0 a1 y254 (x7_2 ++ [t269]) y254 (y254.length : Int) (wrap64 (x29_2 + 1))) else (none))) else (none))) = some r:=by first|(rw [hy265];with_reducible exact H)|(have H2_:=(Option.bind_some _ _).symm.trans H;rw [hy265];with_reducible exact H2_)|(have H2_:=(Option.bind_some _ _).symm.trans H;with_reducible exact H2_)|with_reducible exact H|(rw [hy265];exact H)|exact H
          have Ny265:=Aside0.mk hy265
          clear hy265
          replace H:=Option.bind_eq_some_iff.mp H
          obtain ⟨t268,A150,H⟩:=H
          replace H : (if t268.size + (rdOf ByteArray.empty y254 x29_2).size ≤ 9223372036854775807 then ((impl_packed.f k2 (t268 ++ (rdOf ByteArray.empty y254 x29_2))).bind fun t269 => (if x7_2.length < 8796093022208 then (impl_spread.l1 k2 a0 a1 y254 (x7_2 ++ [t269]) y254 (y254.length : Int) (wrap64 (x29_2 + 1))) else (none))) else (none)) = some r:=H
          have A15:=Aside0.mk A150
          clear A150
          by_cases c16 : t268.size + (rdOf ByteArray.empty y254 x29_2).size ≤ 9223372036854775807
          ·
           rw [if_pos c16] at H
           have c16b0:=eq_true c16
           have c16b1 : decide (t268.size + (rdOf ByteArray.empty y254 x29_2).size ≤ 9223372036854775807) = true:=decide_eq_true c16
           try have c16b2 : (9223372036854775807 < t268.size + (rdOf ByteArray.empty y254 x29_2).size) = False:=eq_false (Nat.not_lt.2 c16)
           replace H:=Option.bind_eq_some_iff.mp H
           obtain ⟨t269,A170,H⟩:=H
           replace H : (if x7_2.length < 8796093022208 then (impl_spread.l1 k2 a0 a1 y254 (x7_2 ++ [t269]) y254 (y254.length : Int) (wrap64 (x29_2 + 1))) else (none)) = some r:=H
           have A17:=Aside0.mk A170
           clear A170
           by_cases c18 : x7_2.length < 8796093022208
           ·
            rw [if_pos c18] at H
            have LMc18:=Aside0.mk c18
            clear c18
            obtain ⟨y270,hy270⟩ : ∃ y_ : List ByteArray,y_ = (x7_2 ++ [t269]):=⟨_,rfl⟩
            replace H : (impl_spread.l1 k2 a0 a1 y254 y270 y254 (y254.length : Int) (wrap64 (x29_2 + 1))) = some r:=by first|(rw [hy270];with_reducible exact H)|(have H2_:=(Option.bind_some _ _).symm.trans H;rw [hy270];with_reducible exact H2_)|(have H2_:=(Option.bind_some _ _).symm.trans H;with_reducible exact H2_)|with_reducible exact H|(rw [hy270];exact H)|exact H
            have Ny270:=Aside0.mk hy270
            clear hy270
            have H':=Aside0.mk H
            clear H
            have p263 : 0 ≤ (x29_2 : Int):=of_decide_eq_true (by first|(with_reducible assumption)|assumption)
            have q263 : x29_2 < (y254.length : Int):=of_decide_eq_true (by first|(with_reducible assumption)|assumption)
            obtain ⟨ad263,e263,hx263_0⟩:=Kd.at_string (Kd.R_reads' HO_27.out).2.2 x29_2 p263 q263
            cases e263
            replace p263:=eq_true p263
            replace q263:=eq_true q263
            go_wp2_with (first|((with_reducible refine gate_callee (f:=47) rfl ?_);refine goesL_ (some 40) rfl rfl Try.func47 (by kernel_rfl) rfl #[.string a1] rfl (by (try simp only [List.map_toArray,List.map_cons,List.map_nil]);first|done|rfl|(simp only [List.length_drop,List.length_take];rfl)) ?_;(with_reducible refine (impl_Crc.calls k2 a1 t264 _ A14.out).mono ?_);rintro e w' ⟨rfl,⟨nd,rfl⟩⟩;refine ⟨_,rfl,?_⟩)|((with_reducible refine gate_dst (N:=43) rfl ?_);refine Kd.R_lit (Kd.int .i64) _ 3 ?hg (N:=43) ?hd (xs:=([a0,x29_2,(y254.length : Int),t264,((rdOf ByteArray.empty y254 x29_2).size : Int)] : List Int)) (inner:=[.int .i64 a0,.int .i64 x29_2,.int .i64 (y254.length : Int),.int .i64 t264,.int .i64 ((rdOf ByteArray.empty y254 x29_2).size : Int)]) (ok:=fun _ => True) (okp:=fun _ => True) ?hr ?hp (fun _ hk => hk) trivial (Below.refl _ _) (Nat.le_refl _) (by simp) ?_;(case hd => rfl);(case hg => rfl);(case hr => first|(go_simp;done)|(go_simp;rfl));(case hp => exact (Reps.one (show Kd.M (Kd.int .i64) _ _ _ a0 [.int .i64 a0] from rfl) (Reps.one (show Kd.M (Kd.int .i64) _ _ _ x29_2 [.int .i64 x29_2] from rfl) (Reps.one (show Kd.M (Kd.int .i64) _ _ _ (y254.length : Int) [.int .i64 (y254.length : Int)] from rfl) (Reps.one (show Kd.M (Kd.int .i64) _ _ _ t264 [.int .i64 t264] from rfl) (Reps.one (show Kd.M (Kd.int .i64) _ _ _ ((rdOf ByteArray.empty y254 x29_2).size : Int) [.int .i64 ((rdOf ByteArray.empty y254 x29_2).size : Int)] from rfl) (Reps.none _ _)))))));intro v266 w19 ho20 hb hg_ hnew_;clear hg_ hnew_;(first|rw [← Ny265.out] at ho20|(simp only [Int.reduceToNat] at ho20;rw [← Ny265.out] at ho20));have n0_:=Aside0.mk (Kd.R_below (by (with_reducible repeat (first|apply Kd.R_alloc|apply Kd.R_drewN|apply Kd.R_drew));exact HO_5.out) hb);have n1_:=Aside0.mk (Kd.R_below (by (with_reducible repeat (first|apply Kd.R_alloc|apply Kd.R_drewN|apply Kd.R_drew));exact HO_7.out) hb);have n2_:=Aside0.mk (Kd.R_below (by (with_reducible repeat (first|apply Kd.R_alloc|apply Kd.R_drewN|apply Kd.R_drew));exact HO_27.out) hb);have n3_:=Aside0.mk (Kd.R_lower ho20 (below_size (by repeat (first|(with_reducible first|exact HB.out|apply below_alloc|apply pw_below_drewN|apply below_drew1)|exact HB.out))));have n4_:=Aside0.mk (below_step (by repeat (first|(with_reducible first|exact HB.out|apply below_alloc|apply pw_below_drewN|apply below_drew1)|exact HB.out)) hb);clear HO_5;clear HO_7;clear HO_27;clear HB;have HO_5:=n0_;have HO_7:=n1_;have HO_27:=n2_;have HO267:=n3_;have HB:=n4_;clear n0_ n1_ n2_ n3_ n4_;clear hb ho20;obtain ⟨Ao21,co21,eo21⟩:=Kd.R_slice HO267.out;subst eo21)|((with_reducible refine gate_callee (f:=46) rfl ?_);refine goesL_ (some 44) rfl rfl Try.func46 (by kernel_rfl) rfl #[.slice Ao21 y265.length co21] rfl (by (try simp only [List.map_toArray,List.map_cons,List.map_nil]);first|done|rfl|(simp only [List.length_drop,List.length_take];rfl)) ?_;(with_reducible refine (impl_vars.calls k2 _ _ y265 t268 _ ?side1 ?side2 A15.out).mono ?_);(case side1 => repeat (first|exact (Kd.R_reads' HO267.out).2.2|(with_reducible refine Kd.C_alloc ?_ _)|(with_reducible refine Kd.C_drewN ?_ _)|(with_reducible refine Kd.C_drew ?_)));(case side2 => exact (Kd.R_reads' HO267.out).2.1);rintro e w22 ⟨rfl,hb⟩;refine ⟨_,rfl,?_⟩;have n0_:=Aside0.mk (Kd.R_below (by (with_reducible repeat (first|apply Kd.R_alloc|apply Kd.R_drewN|apply Kd.R_drew));exact HO_5.out) hb);have n1_:=Aside0.mk (Kd.R_below (by (with_reducible repeat (first|apply Kd.R_alloc|apply Kd.R_drewN|apply Kd.R_drew));exact HO_7.out) hb);have n2_:=Aside0.mk (Kd.R_below (by (with_reducible repeat (first|apply Kd.R_alloc|apply Kd.R_drewN|apply Kd.R_drew));exact HO_27.out) hb);have n3_:=Aside0.mk (Kd.R_below (by (with_reducible repeat (first|apply Kd.R_alloc|apply Kd.R_drewN|apply Kd.R_drew));exact HO267.out) hb);have n4_:=Aside0.mk (below_step (by repeat (first|(with_reducible first|exact HB.out|apply below_alloc|apply pw_below_drewN|apply below_drew1)|exact HB.out)) hb);clear HO_5;clear HO_7;clear HO_27;clear HO267;clear HB;have HO_5:=n0_;have HO_7:=n1_;have HO_27:=n2_;have HO267:=n3_;have HB:=n4_;clear n0_ n1_ n2_ n3_ n4_;(try clear hb);(try clear hb2);(try clear hk);(try clear hi))|((with_reducible refine gate_callee (f:=45) rfl ?_);refine goesL_ (some 47) rfl rfl Try.func45 (by kernel_rfl) rfl #[.string (t268 ++ (rdOf ByteArray.empty y254 x29_2))] rfl (by (try simp only [List.map_toArray,List.map_cons,List.map_nil]);first|done|rfl|(simp only [List.length_drop,List.length_take];rfl)) ?_;(with_reducible refine (impl_packed.calls k2 (t268 ++ (rdOf ByteArray.empty y254 x29_2)) t269 _ A17.out).mono ?_);rintro e w23 ⟨rfl,hb⟩;refine ⟨_,rfl,?_⟩;have n0_:=Aside0.mk (Kd.R_below (by (with_reducible repeat (first|apply Kd.R_alloc|apply Kd.R_drewN|apply Kd.R_drew));exact HO_5.out) hb);have n1_:=Aside0.mk (Kd.R_below (by (with_reducible repeat (first|apply Kd.R_alloc|apply Kd.R_drewN|apply Kd.R_drew));exact HO_7.out) hb);have n2_:=Aside0.mk (Kd.R_below (by (with_reducible repeat (first|apply Kd.R_alloc|apply Kd.R_drewN|apply Kd.R_drew));exact HO_27.out) hb);have n3_:=Aside0.mk (Kd.R_below (by (with_reducible repeat (first|apply Kd.R_alloc|apply Kd.R_drewN|apply Kd.R_drew));exact HO267.out) hb);have n4_:=Aside0.mk (below_step (by repeat (first|(with_reducible first|exact HB.out|apply below_alloc|apply pw_below_drewN|apply below_drew1)|exact HB.out)) hb);clear HO_5;clear HO_7;clear HO_27;clear HO267;clear HB;have HO_5:=n0_;have HO_7:=n1_;have HO_27:=n2_;have HO267:=n3_;have HB:=n4_;clear n0_ n1_ n2_ n3_ n4_;(try clear hb);(try clear hb2);(try clear hk);(try clear hi))|((with_reducible refine gate_builtin (b:=.append) (xs:=#[.tmp 34,.tmp 48]) rfl ?_);at_builtin;refine Kd.R_append Kd.string (w0:=w) w.heap.size rfl (.tmp 34) (.tmp 48) 22 9 (.string ⟨#[]⟩) 16 rfl Try.underlying22 info9 rfl (by decide) (by omega) u7 x7_2 t269 [.string t269] (fun k_ => some k_ ≠ (.slice (some ad263) y254.length co10 : Value).ownBlock ∧ some k_ ≠ (.slice (some ad263) y254.length co10 : Value).ownBlock) (fun _ => False) rfl rfl ?aP (fun _ hk => hk.elim) ?aF ?aO ?aB ?aS ?aL ?_;(case aP => exact rfl);(case aB => exact (by repeat (first|(with_reducible first|exact HB.out|apply below_alloc|apply pw_below_drewN|apply below_drew1)|exact HB.out)));(case aF => exact (fun k_ hk => ⟨Kd.fresh' (Kd.R_lt (by (with_reducible repeat (first|apply Kd.R_alloc|apply Kd.R_drewN|apply Kd.R_drew));exact HO_5.out)) k_ hk,Kd.fresh' (Kd.R_lt (by (with_reducible repeat (first|apply Kd.R_alloc|apply Kd.R_drewN|apply Kd.R_drew));exact HO_27.out)) k_ hk⟩));(case aO => exact (by (with_reducible repeat (first|apply Kd.R_alloc|apply Kd.R_drewN|apply Kd.R_drew));exact HO_7.out));(case aS => exact (below_size (by repeat (first|(with_reducible first|exact HB.out|apply below_alloc|apply pw_below_drewN|apply below_drew1)|exact HB.out))));(case aL => have:=LMc18.out;omega);intro v271 w24 ho hb hg hat;rw [← Ny270.out] at ho;have n0_:=Aside0.mk (Kd.R_after (ok:=(fun _ => True)) (by (with_reducible repeat (first|apply Kd.R_alloc|apply Kd.R_drewN|apply Kd.R_drew));exact Kd.R_mono HO_5.out (fun _ hk => ⟨trivial,hk⟩)) hg hat);have n1_:=Aside0.mk (Kd.R_after (ok:=(fun _ => True)) (by (with_reducible repeat (first|apply Kd.R_alloc|apply Kd.R_drewN|apply Kd.R_drew));exact Kd.R_mono HO_27.out (fun _ hk => ⟨trivial,hk⟩)) hg hat);have n2_:=Aside0.mk (Kd.R_over' (by (with_reducible repeat (first|apply Kd.R_alloc|apply Kd.R_drewN|apply Kd.R_drew));exact HO267.out) (Kd.R_typed (by (with_reducible repeat (first|apply Kd.R_alloc|apply Kd.R_drewN|apply Kd.R_drew));exact HO_7.out)) (by decide) hg);have n3_:=Aside0.mk (hb);have n4_:=Aside0.mk (ho);clear HO_5;clear HO_27;clear HO267;clear HB;clear HO_7;have HO_5:=n0_;have HO_27:=n1_;have HO267:=n2_;have HB:=n3_;have HO272:=n4_;clear n0_ n1_ n2_ n3_ n4_;clear ho hb hg hat))
            go_roundg k2
            case measure => have:=HK1.out;have:=HK2.out;omega
            case rel => exact ⟨(y270),(wrap64 (x29_2 + 1)),(by first|rfl|(simp;done)|(simp [*];done)),H',⟨by have:=HK1.out;have:=HK2.out;omega⟩,⟨by (with_reducible repeat (first|apply Kd.R_alloc|apply Kd.R_drewN|apply Kd.R_drew));exact Kd.R_mono HO_5.out (fun _ hk => hk.2)⟩,⟨by (with_reducible repeat (first|apply Kd.R_alloc|apply Kd.R_drewN|apply Kd.R_drew));exact HO272.out⟩,⟨by (with_reducible repeat (first|apply Kd.R_alloc|apply Kd.R_drewN|apply Kd.R_drew));exact Kd.R_mono HO_27.out (fun _ hk => hk.2)⟩,⟨by repeat (first|(with_reducible first|exact HB.out|apply below_alloc|apply pw_below_drewN|apply below_drew1)|exact HB.out)⟩⟩
           ·
            rw [if_neg c18] at H
            exact absurd H (by simp)
          ·
           rw [if_neg c16] at H
           exact absurd H (by simp)
         ·
          rw [if_neg c13] at H
          exact absurd H (by simp)
        ·
         rw [if_neg c12] at H
         exact absurd H (by simp)
       ·
        rw [if_neg c11] at H
        have c11b0 : decide (x29_2 < (y254.length : Int)) = false:=decide_eq_false c11
        clear c11
        obtain rfl:=Option.some.inj H
        go_wp2
        go_ret
        exact ⟨_,by first|rfl|(simp [errW_none,errW_some] <;> rfl)|(simp [*,errW_none,errW_some] <;> rfl),by (with_reducible repeat (first|apply Kd.R_alloc|apply Kd.R_drewN|apply Kd.R_drew));exact Kd.R_mono HO_7.out (fun _ hk => trivial),by repeat (first|(with_reducible first|exact HB.out|apply below_alloc|apply pw_below_drewN|apply below_drew1)|exact HB.out)⟩
    ·
     rw [if_neg c6] at H
     exact absurd H (by simp)
   ·
    rw [if_neg c5] at H
    have c5b0 : decide ((x6_1.size : Int) ≤ 12) = false:=decide_eq_false c5
    have c5b1 : decide (x6_1.size ≤ 12) = false:=decide_eq_false (by omega)
    clear c5
    by_cases c25 : 0 ≤ 12
    ·
     rw [if_pos c25] at H
     have c25b0:=eq_true c25
     have c25b1 : decide (0 ≤ 12) = true:=decide_eq_true c25
     clear c25
     by_cases c26 : 12 ≤ (x6_1.size : Int)
     ·
      rw [if_pos c26] at H
      have c26b0:=eq_true c26
      have c26b1 : decide (12 ≤ (x6_1.size : Int)) = true:=decide_eq_true c26
      clear c26
      by_cases c27 : x5_1.length < 8796093022208
      ·
       rw [if_pos c27] at H
       have LMc27:=Aside0.mk c27
       clear c27
       obtain ⟨y257,hy257⟩ : ∃ y_ : List ByteArray,y_ = (x5_1 ++ [x6_1.extract 0 12]):=⟨_,rfl⟩
       replace H : (impl_spread.l0 k1 a0 a1 y257 (x6_1.extract 12 x6_1.size)) = some r:=by first|(rw [hy257];with_reducible exact H)|(have H2_:=(Option.bind_some _ _).symm.trans H;rw [hy257];with_reducible exact H2_)|(have H2_:=(Option.bind_some _ _).symm.trans H;with_reducible exact H2_)|with_reducible exact H|(rw [hy257];exact H)|exact H
       have Ny257:=Aside0.mk hy257
       clear hy257
       have c28b0:=eq_true (of_decide_eq_true (by first|(with_reducible assumption)|assumption) : 12 ≤ (x6_1.size : Int))
       have H':=Aside0.mk H
       clear H
       go_wp2_with (first|((with_reducible refine gate_builtin (b:=.append) (xs:=#[.tmp 21,.tmp 24]) rfl ?_);at_builtin;refine Kd.R_append Kd.string (w0:=w) w.heap.size rfl (.tmp 21) (.tmp 24) 22 9 (.string ⟨#[]⟩) 16 rfl Try.underlying22 info9 rfl (by decide) (by omega) u5 x5_1 (x6_1.extract 0 12) [.string (x6_1.extract 0 12)] (fun _ => True) (fun _ => False) rfl rfl ?aP (fun _ hk => hk.elim) ?aF ?aO ?aB ?aS ?aL ?_;(case aP => exact rfl);(case aB => exact (by repeat (first|(with_reducible first|exact HB.out|apply below_alloc|apply pw_below_drewN|apply below_drew1)|exact HB.out)));(case aF => exact (fun _ _ => trivial));(case aO => exact (by (with_reducible repeat (first|apply Kd.R_alloc|apply Kd.R_drewN|apply Kd.R_drew));exact HO_5.out));(case aS => exact (below_size (by repeat (first|(with_reducible first|exact HB.out|apply below_alloc|apply pw_below_drewN|apply below_drew1)|exact HB.out))));(case aL => have:=LMc27.out;omega);intro v258 w29 ho hb hg hat;rw [← Ny257.out] at ho;have n0_:=Aside0.mk (hb);have n1_:=Aside0.mk (ho);clear HB;clear HO_5;have HB:=n0_;have HO259:=n1_;clear n0_ n1_;clear ho hb hg hat))
       go_roundg k1
       case measure => have:=HK1.out;omega
       case rel => exact ⟨(y257),(x6_1.extract 12 x6_1.size),(by first|rfl|(simp;done)|(simp [*];done)),H',⟨by have:=HK1.out;omega⟩,⟨by (with_reducible repeat (first|apply Kd.R_alloc|apply Kd.R_drewN|apply Kd.R_drew));exact HO259.out⟩,⟨by repeat (first|(with_reducible first|exact HB.out|apply below_alloc|apply pw_below_drewN|apply below_drew1)|exact HB.out)⟩⟩
      ·
       rw [if_neg c27] at H
       exact absurd H (by simp)
     ·
      rw [if_neg c26] at H
      exact absurd H (by simp)
    ·
     rw [if_neg c25] at H
     exact absurd H (by simp)
def impl_Spread.f (k : Nat) (a0 : Int) (a1 : ByteArray) : Option (List ByteArray × Bool):=(impl_in.f a0 1 1000000).bind fun t273 => (if t273 = true then (if (a1.size : Int) > 60 then (some (([] : List ByteArray),false)) else ((impl_spread.f k a0 a1).bind fun t274 => (some (t274,true)))) else (some (([] : List ByteArray),false)))
set_option maxHeartbeats 8000000 in
set_option maxRecDepth 100000 in
theorem impl_Spread.calls (k : Nat) (a0 : Int) (a1 : ByteArray) (r1 : List ByteArray) (r2 : Bool) (w : World) (h : impl_Spread.f k a0 a1 = some (r1,r2)) :
  Calls Try.prog 16 #[.int .i64 a0,.string a1] w fun e w' => ∃ v0_ : Value,e = .returned (.tuple #[v0_,.bool r2]) ∧ Kd.R Kd.string 9 w' w.heap.size (fun _ => True) v0_ r1 ∧ Below w.heap.size w w':=by
 have HB:=Aside0.mk (Below.refl w.heap.size w)
 have H : ((impl_in.f a0 1 1000000).bind fun t273 => (if t273 = true then (if (a1.size : Int) > 60 then (some (([] : List ByteArray),false)) else ((impl_spread.f k a0 a1).bind fun t274 => (some (t274,true)))) else (some (([] : List ByteArray),false)))) = some (r1,r2):=h
 clear h
 replace H:=Option.bind_eq_some_iff.mp H
 obtain ⟨t273,A30,H⟩:=H
 replace H : (if t273 = true then (if (a1.size : Int) > 60 then (some (([] : List ByteArray),false)) else ((impl_spread.f k a0 a1).bind fun t274 => (some (t274,true)))) else (some (([] : List ByteArray),false))) = some (r1,r2):=H
 have A3:=Aside0.mk A30
 clear A30
 by_cases c4 : t273 = true
 ·
  subst c4
  have H1 : (if (a1.size : Int) > 60 then (some (([] : List ByteArray),false)) else ((impl_spread.f k a0 a1).bind fun t274 => (some (t274,true)))) = some (r1,r2):=by rw [if_pos rfl] at H;exact H
  clear H
  have H:=H1
  clear H1
  by_cases c5 : (a1.size : Int) > 60
  ·
   rw [if_pos c5] at H
   have c5b0 : decide (60 < (a1.size : Int)) = true:=decide_eq_true c5
   have c5b1 : decide (60 < a1.size) = true:=decide_eq_true (by omega)
   clear c5
   simp only [Option.some.injEq,Prod.mk.injEq] at H
   obtain ⟨rfl,rfl⟩:=H
   go_enter Try.func16,Try.ntmps16
   go_wp2_with (first|((with_reducible refine gate_callee (f:=31) rfl ?_);refine goesL_ (some 7) rfl rfl Try.func31 (by kernel_rfl) rfl #[.int .i64 a0,.int .i64 1,.int .i64 1000000] rfl (by (try simp only [List.map_toArray,List.map_cons,List.map_nil]);first|done|rfl|(simp only [List.length_drop,List.length_take];rfl)) ?_;(with_reducible refine (impl_in.calls a0 1 1000000 true _ A3.out).mono ?_);rintro e w' ⟨rfl,⟨nd,rfl⟩⟩;refine ⟨_,rfl,?_⟩))
   go_ret2
   exact ⟨_,by first|rfl|(simp [errW_none,errW_some] <;> rfl)|(simp [*,errW_none,errW_some] <;> rfl),by first|exact Kd.R_nil _ _ _ _ _|exact Kd.N_nil _ _ _ _ _|exact Kd.V_nil _ _ _ _ _|exact Kd.Q_nil _ _ _ _ _|exact Kd.S_nil _ _ _ _ _,by repeat (first|(with_reducible first|exact HB.out|apply below_alloc|apply pw_below_drewN|apply below_drew1)|exact HB.out)⟩
  ·
   rw [if_neg c5] at H
   have c5b0 : decide (60 < (a1.size : Int)) = false:=decide_eq_false c5
   have c5b1 : decide (60 < a1.size) = false:=decide_eq_false (by omega)
   clear c5
   replace H:=Option.bind_eq_some_iff.mp H
   obtain ⟨t274,A60,H⟩:=H
   replace H : (some (t274,true)) = some (r1,r2):=H
   have A6:=Aside0.mk A60
   clear A60
   simp only [Option.some.injEq,Prod.mk.injEq] at H
   obtain ⟨rfl,rfl⟩:=H
   go_enter Try.func16,Try.ntmps16
   go_wp2_with (first|((with_reducible refine gate_callee (f:=31) rfl ?_);refine goesL_ (some 7) rfl rfl Try.func31 (by kernel_rfl) rfl #[.int .i64 a0,.int .i64 1,.int .i64 1000000] rfl (by (try simp only [List.map_toArray,List.map_cons,List.map_nil]);first|done|rfl|(simp only [List.length_drop,List.length_take];rfl)) ?_;(with_reducible refine (impl_in.calls a0 1 1000000 true _ A3.out).mono ?_);rintro e w' ⟨rfl,⟨nd,rfl⟩⟩;refine ⟨_,rfl,?_⟩)|((with_reducible refine gate_callee (f:=32) rfl ?_);refine goesL_ (some 16) rfl rfl Try.func32 (by kernel_rfl) rfl #[.int .i64 a0,.string a1] rfl (by (try simp only [List.map_toArray,List.map_cons,List.map_nil]);first|done|rfl|(simp only [List.length_drop,List.length_take];rfl)) ?_;(with_reducible refine (impl_spread.calls k a0 a1 t274 _ A6.out).mono ?_);rintro e w7 ⟨v275,rfl,ho0,hb⟩;refine ⟨_,rfl,?_⟩;have n0_:=Aside0.mk (Kd.R_lower ho0 (below_size (by repeat (first|(with_reducible first|exact HB.out|apply below_alloc|apply pw_below_drewN|apply below_drew1)|exact HB.out))));have n1_:=Aside0.mk (below_step (by repeat (first|(with_reducible first|exact HB.out|apply below_alloc|apply pw_below_drewN|apply below_drew1)|exact HB.out)) hb);clear HB;have HO276:=n0_;have HB:=n1_;clear n0_ n1_;(try clear hb);(try clear hb2);(try clear hk);(try clear hi);(try clear ho0)))
   go_ret2
   exact ⟨_,by first|rfl|(simp [errW_none,errW_some] <;> rfl)|(simp [*,errW_none,errW_some] <;> rfl),by (with_reducible repeat (first|apply Kd.R_alloc|apply Kd.R_drewN|apply Kd.R_drew));exact HO276.out,by repeat (first|(with_reducible first|exact HB.out|apply below_alloc|apply pw_below_drewN|apply below_drew1)|exact HB.out)⟩
 ·
  replace c4:=Bool.eq_false_iff.mpr c4
  subst c4
  have H1 : (some (([] : List ByteArray),false)) = some (r1,r2):=by rw [if_neg (show ¬ (false = true) by decide)] at H;exact H
  clear H
  have H:=H1
  clear H1
  simp only [Option.some.injEq,Prod.mk.injEq] at H
  obtain ⟨rfl,rfl⟩:=H
  go_enter Try.func16,Try.ntmps16
  go_wp2_with (first|((with_reducible refine gate_callee (f:=31) rfl ?_);refine goesL_ (some 7) rfl rfl Try.func31 (by kernel_rfl) rfl #[.int .i64 a0,.int .i64 1,.int .i64 1000000] rfl (by (try simp only [List.map_toArray,List.map_cons,List.map_nil]);first|done|rfl|(simp only [List.length_drop,List.length_take];rfl)) ?_;(with_reducible refine (impl_in.calls a0 1 1000000 false _ A3.out).mono ?_);rintro e w' ⟨rfl,⟨nd,rfl⟩⟩;refine ⟨_,rfl,?_⟩))
  go_ret2
  exact ⟨_,by first|rfl|(simp [errW_none,errW_some] <;> rfl)|(simp [*,errW_none,errW_some] <;> rfl),by first|exact Kd.R_nil _ _ _ _ _|exact Kd.N_nil _ _ _ _ _|exact Kd.V_nil _ _ _ _ _|exact Kd.Q_nil _ _ _ _ _|exact Kd.S_nil _ _ _ _ _,by repeat (first|(with_reducible first|exact HB.out|apply below_alloc|apply pw_below_drewN|apply below_drew1)|exact HB.out)⟩
def laws_FnExactSpread.f (k : Nat) (a0 : Int) (a1 : ByteArray) : Option (Bool):=if (a1.size : Int) > 1048576 then (some true) else ((spec_Spread.f k a0 a1).bind fun bt277 => ((impl_Spread.f k a0 a1).bind fun bt281 => ((laws_eqStringS.f k bt281.1 bt277.1).bind fun t285 => (if t285 = true then (if (bt281.2 != bt277.2) = true then (some false) else ((laws_markStringS.f k bt281.1 1).bind fun bt286 => ((laws_heldStringS.f k bt286.2 1).bind fun t288 => (if t288 < 0 then (some false) else (if t288 = bt286.1 then ((impl_Spread.f k a0 a1).bind fun bt289 => ((laws_eqStringS.f k bt289.1 bt277.1).bind fun t293 => (if t293 = true then (if (bt289.2 != bt277.2) = true then (some false) else ((laws_heldStringS.f k bt286.2 1).bind fun t294 => (if t294 < 0 then (some false) else (if t294 = bt286.1 then (some true) else (some false))))) else (some false)))) else (some false)))))) else (some false)))))
set_option maxHeartbeats 8000000 in
set_option maxRecDepth 100000 in
theorem laws_FnExactSpread.calls (k : Nat) (a0 : Int) (a1 : ByteArray) (r : Bool) (w : World) (h : laws_FnExactSpread.f k a0 a1 = some r) (hrt_ : r = true) :
  Calls Try.prog 4 #[.int .i64 a0,.string a1] w fun e w' => e = .returned (.bool r) ∧ Below w.heap.size w w':=by
 have HB:=Aside0.mk (Below.refl w.heap.size w)
 have H : (if (a1.size : Int) > 1048576 then (some true) else ((spec_Spread.f k a0 a1).bind fun bt277 => ((impl_Spread.f k a0 a1).bind fun bt281 => ((laws_eqStringS.f k bt281.1 bt277.1).bind fun t285 => (if t285 = true then (if (bt281.2 != bt277.2) = true then (some false) else ((laws_markStringS.f k bt281.1 1).bind fun bt286 => ((laws_heldStringS.f k bt286.2 1).bind fun t288 => (if t288 < 0 then (some false) else (if t288 = bt286.1 then ((impl_Spread.f k a0 a1).bind fun bt289 => ((laws_eqStringS.f k bt289.1 bt277.1).bind fun t293 => (if t293 = true then (if (bt289.2 != bt277.2) = true then (some false) else ((laws_heldStringS.f k bt286.2 1).bind fun t294 => (if t294 < 0 then (some false) else (if t294 = bt286.1 then (some true) else (some false))))) else (some false)))) else (some false)))))) else (some false)))))) = some r:=h
 clear h
 by_cases c3 : (a1.size : Int) > 1048576
 ·
  rw [if_pos c3] at H
  have c3b0 : decide (1048576 < (a1.size : Int)) = true:=decide_eq_true c3
  have c3b1 : decide (1048576 < a1.size) = true:=decide_eq_true (by omega)
  clear c3
  obtain rfl:=Option.some.inj H
  go_enter Try.func4,Try.ntmps4
  go_wp2
  go_ret
  exact ⟨by first|rfl|(simp [errW_none,errW_some] <;> rfl)|(simp [*,errW_none,errW_some] <;> rfl),by repeat (first|(with_reducible first|exact HB.out|apply below_alloc|apply pw_below_drewN|apply below_drew1)|exact HB.out)⟩
 ·
  rw [if_neg c3] at H
  have c3b0 : decide (1048576 < (a1.size : Int)) = false:=decide_eq_false c3
  have c3b1 : decide (1048576 < a1.size) = false:=decide_eq_false (by omega)
  clear c3
  replace H:=Option.bind_eq_some_iff.mp H
  obtain ⟨⟨t277,t278⟩,A40,H⟩:=H
  replace H : ((impl_Spread.f k a0 a1).bind fun bt281 => ((laws_eqStringS.f k bt281.1 t277).bind fun t285 => (if t285 = true then (if (bt281.2 != t278) = true then (some false) else ((laws_markStringS.f k bt281.1 1).bind fun bt286 => ((laws_heldStringS.f k bt286.2 1).bind fun t288 => (if t288 < 0 then (some false) else (if t288 = bt286.1 then ((impl_Spread.f k a0 a1).bind fun bt289 => ((laws_eqStringS.f k bt289.1 t277).bind fun t293 => (if t293 = true then (if (bt289.2 != t278) = true then (some false) else ((laws_heldStringS.f k bt286.2 1).bind fun t294 => (if t294 < 0 then (some false) else (if t294 = bt286.1 then (some true) else (some false))))) else (some false)))) else (some false)))))) else (some false)))) = some r:=H
  have A4:=Aside0.mk A40
  clear A40
  replace H:=Option.bind_eq_some_iff.mp H
  obtain ⟨⟨t281,t282⟩,A50,H⟩:=H
  replace H : ((laws_eqStringS.f k t281 t277).bind fun t285 => (if t285 = true then (if (t282 != t278) = true then (some false) else ((laws_markStringS.f k t281 1).bind fun bt286 => ((laws_heldStringS.f k bt286.2 1).bind fun t288 => (if t288 < 0 then (some false) else (if t288 = bt286.1 then ((impl_Spread.f k a0 a1).bind fun bt289 => ((laws_eqStringS.f k bt289.1 t277).bind fun t293 => (if t293 = true then (if (bt289.2 != t278) = true then (some false) else ((laws_heldStringS.f k bt286.2 1).bind fun t294 => (if t294 < 0 then (some false) else (if t294 = bt286.1 then (some true) else (some false))))) else (some false)))) else (some false)))))) else (some false))) = some r:=H
  have A5:=Aside0.mk A50
  clear A50
  replace H:=Option.bind_eq_some_iff.mp H
  obtain ⟨t285,A60,H⟩:=H
  replace H : (if t285 = true then (if (t282 != t278) = true then (some false) else ((laws_markStringS.f k t281 1).bind fun bt286 => ((laws_heldStringS.f k bt286.2 1).bind fun t288 => (if t288 < 0 then (some false) else (if t288 = bt286.1 then ((impl_Spread.f k a0 a1).bind fun bt289 => ((laws_eqStringS.f k bt289.1 t277).bind fun t293 => (if t293 = true then (if (bt289.2 != t278) = true then (some false) else ((laws_heldStringS.f k bt286.2 1).bind fun t294 => (if t294 < 0 then (some false) else (if t294 = bt286.1 then (some true) else (some false))))) else (some false)))) else (some false)))))) else (some false)) = some r:=H
  have A6:=Aside0.mk A60
  clear A60
  by_cases c7 : t285 = true
  ·
   subst c7
   have H1 : (if (t282 != t278) = true then (some false) else ((laws_markStringS.f k t281 1).bind fun bt286 => ((laws_heldStringS.f k bt286.2 1).bind fun t288 => (if t288 < 0 then (some false) else (if t288 = bt286.1 then ((impl_Spread.f k a0 a1).bind fun bt289 => ((laws_eqStringS.f k bt289.1 t277).bind fun t293 => (if t293 = true then (if (bt289.2 != t278) = true then (some false) else ((laws_heldStringS.f k bt286.2 1).bind fun t294 => (if t294 < 0 then (some false) else (if t294 = bt286.1 then (some true) else (some false))))) else (some false)))) else (some false)))))) = some r:=by rw [if_pos rfl] at H;exact H
   clear H
   have H:=H1
   clear H1
   by_cases c8 : (t282 != t278) = true
   ·
    rw [if_pos c8] at H
    have c8b0 : (t282 != t278) = true:=c8
    (try (have c8b1 : decide (t282 = t278) = false:=by simpa using c8))
    (try (have c8b2 : (t282 == t278) = false:=by simpa using c8))
    (try (have c8b3 : ¬ (t282 = t278):=by simpa using c8))
    clear c8
    exact absurd (hrt_ ▸ H) (by simp)
   ·
    rw [if_neg c8] at H
    have c8b0 : (t282 != t278) = false:=by simpa using c8
    (try (have c8b1 : decide (t282 = t278) = true:=by simpa using c8))
    (try (have c8b2 : (t282 == t278) = true:=by simpa using c8))
    clear c8
    replace H:=Option.bind_eq_some_iff.mp H
    obtain ⟨⟨t286,t287⟩,A90,H⟩:=H
    replace H : ((laws_heldStringS.f k t287 1).bind fun t288 => (if t288 < 0 then (some false) else (if t288 = t286 then ((impl_Spread.f k a0 a1).bind fun bt289 => ((laws_eqStringS.f k bt289.1 t277).bind fun t293 => (if t293 = true then (if (bt289.2 != t278) = true then (some false) else ((laws_heldStringS.f k t287 1).bind fun t294 => (if t294 < 0 then (some false) else (if t294 = t286 then (some true) else (some false))))) else (some false)))) else (some false)))) = some r:=H
    have A9:=Aside0.mk A90
    clear A90
    replace H:=Option.bind_eq_some_iff.mp H
    obtain ⟨t288,A100,H⟩:=H
    replace H : (if t288 < 0 then (some false) else (if t288 = t286 then ((impl_Spread.f k a0 a1).bind fun bt289 => ((laws_eqStringS.f k bt289.1 t277).bind fun t293 => (if t293 = true then (if (bt289.2 != t278) = true then (some false) else ((laws_heldStringS.f k t287 1).bind fun t294 => (if t294 < 0 then (some false) else (if t294 = t286 then (some true) else (some false))))) else (some false)))) else (some false))) = some r:=H
    have A10:=Aside0.mk A100
    clear A100
    by_cases c11 : t288 < 0
    ·
     rw [if_pos c11] at H
     have c11b0 : decide (t288 < 0) = true:=decide_eq_true c11
     clear c11
     exact absurd (hrt_ ▸ H) (by simp)
    ·
     rw [if_neg c11] at H
     have c11b0 : decide (t288 < 0) = false:=decide_eq_false c11
     clear c11
     by_cases c12 : t288 = t286
     ·
      rw [if_pos c12] at H
      have c12b0 : (t288 == t286) = true:=beq_iff_eq.mpr c12
      have c12b1 : (t288 != t286) = false:=bne_eq_false_iff_eq.mpr c12
      clear c12
      replace H:=Option.bind_eq_some_iff.mp H
      obtain ⟨⟨t289,t290⟩,A130,H⟩:=H
      replace H : ((laws_eqStringS.f k t289 t277).bind fun t293 => (if t293 = true then (if (t290 != t278) = true then (some false) else ((laws_heldStringS.f k t287 1).bind fun t294 => (if t294 < 0 then (some false) else (if t294 = t286 then (some true) else (some false))))) else (some false))) = some r:=H
      have A13:=Aside0.mk A130
      clear A130
      replace H:=Option.bind_eq_some_iff.mp H
      obtain ⟨t293,A140,H⟩:=H
      replace H : (if t293 = true then (if (t290 != t278) = true then (some false) else ((laws_heldStringS.f k t287 1).bind fun t294 => (if t294 < 0 then (some false) else (if t294 = t286 then (some true) else (some false))))) else (some false)) = some r:=H
      have A14:=Aside0.mk A140
      clear A140
      by_cases c15 : t293 = true
      ·
       subst c15
       have H1 : (if (t290 != t278) = true then (some false) else ((laws_heldStringS.f k t287 1).bind fun t294 => (if t294 < 0 then (some false) else (if t294 = t286 then (some true) else (some false))))) = some r:=by rw [if_pos rfl] at H;exact H
       clear H
       have H:=H1
       clear H1
       by_cases c16 : (t290 != t278) = true
       ·
        rw [if_pos c16] at H
        have c16b0 : (t290 != t278) = true:=c16
        (try (have c16b1 : decide (t290 = t278) = false:=by simpa using c16))
        (try (have c16b2 : (t290 == t278) = false:=by simpa using c16))
        (try (have c16b3 : ¬ (t290 = t278):=by simpa using c16))
        clear c16
        exact absurd (hrt_ ▸ H) (by simp)
       ·
        rw [if_neg c16] at H
        have c16b0 : (t290 != t278) = false:=by simpa using c16
        (try (have c16b1 : decide (t290 = t278) = true:=by simpa using c16))
        (try (have c16b2 : (t290 == t278) = true:=by simpa using c16))
        clear c16
        replace H:=Option.bind_eq_some_iff.mp H
        obtain ⟨t294,A170,H⟩:=H
        replace H : (if t294 < 0 then (some false) else (if t294 = t286 then (some true) else (some false))) = some r:=H
        have A17:=Aside0.mk A170
        clear A170
        by_cases c18 : t294 < 0
        ·
         rw [if_pos c18] at H
         have c18b0 : decide (t294 < 0) = true:=decide_eq_true c18
         clear c18
         exact absurd (hrt_ ▸ H) (by simp)
        ·
         rw [if_neg c18] at H
         have c18b0 : decide (t294 < 0) = false:=decide_eq_false c18
         clear c18
         by_cases c19 : t294 = t286
         ·
          rw [if_pos c19] at H
          have c19b0 : (t294 == t286) = true:=beq_iff_eq.mpr c19
          have c19b1 : (t294 != t286) = false:=bne_eq_false_iff_eq.mpr c19
          clear c19
          obtain rfl:=Option.some.inj H
          go_enter Try.func4,Try.ntmps4
          go_wp2_with (first|((with_reducible refine gate_callee (f:=15) rfl ?_);refine goesL_ (some 19) rfl rfl Try.func15 (by kernel_rfl) rfl #[.int .i64 a0,.string a1] rfl (by (try simp only [List.map_toArray,List.map_cons,List.map_nil]);first|done|rfl|(simp only [List.length_drop,List.length_take];rfl)) ?_;(with_reducible refine (spec_Spread.calls k a0 a1 t277 t278 _ A4.out).mono ?_);rintro e w20 ⟨v279,rfl,ho0,hb⟩;refine ⟨_,rfl,?_⟩;have n0_:=Aside0.mk (Kd.R_lower ho0 (below_size (by repeat (first|(with_reducible first|exact HB.out|apply below_alloc|apply pw_below_drewN|apply below_drew1)|exact HB.out))));have n1_:=Aside0.mk (below_step (by repeat (first|(with_reducible first|exact HB.out|apply below_alloc|apply pw_below_drewN|apply below_drew1)|exact HB.out)) hb);clear HB;have HO280:=n0_;have HB:=n1_;clear n0_ n1_;(try clear hb);(try clear hb2);(try clear hk);(try clear hi);(try clear ho0))|((with_reducible refine gate_callee (f:=16) rfl ?_);refine goesL_ (some 25) rfl rfl Try.func16 (by kernel_rfl) rfl #[.int .i64 a0,.string a1] rfl (by (try simp only [List.map_toArray,List.map_cons,List.map_nil]);first|done|rfl|(simp only [List.length_drop,List.length_take];rfl)) ?_;(with_reducible refine (impl_Spread.calls k a0 a1 t281 t282 _ A5.out).mono ?_);rintro e w21 ⟨v283,rfl,ho0,hb⟩;refine ⟨_,rfl,?_⟩;have n0_:=Aside0.mk (Kd.R_elder' (by (with_reducible repeat (first|apply Kd.R_alloc|apply Kd.R_drewN|apply Kd.R_drew));exact HO280.out) (Kd.R_base ho0) hb);have n1_:=Aside0.mk (Kd.R_lower (Kd.R_new' ho0 (Kd.R_lt (by (with_reducible repeat (first|apply Kd.R_alloc|apply Kd.R_drewN|apply Kd.R_drew));exact HO280.out))) (below_size (by repeat (first|(with_reducible first|exact HB.out|apply below_alloc|apply pw_below_drewN|apply below_drew1)|exact HB.out))));have n2_:=Aside0.mk (below_step (by repeat (first|(with_reducible first|exact HB.out|apply below_alloc|apply pw_below_drewN|apply below_drew1)|exact HB.out)) hb);clear HO280;clear HB;have HO280:=n0_;have HO284:=n1_;have HB:=n2_;clear n0_ n1_ n2_;(try clear hb);(try clear hb2);(try clear hk);(try clear hi);(try clear ho0);obtain ⟨Ao22,co22,eo22⟩:=Kd.R_slice HO284.out;subst eo22;obtain ⟨Ao23,co23,eo23⟩:=Kd.R_slice HO280.out;subst eo23)|((with_reducible refine gate_callee (f:=12) rfl ?_);refine goesL_ (some 30) rfl rfl Try.func12 (by kernel_rfl) rfl #[.slice Ao22 t281.length co22,.slice Ao23 t277.length co23] rfl (by (try simp only [List.map_toArray,List.map_cons,List.map_nil]);first|done|rfl|(simp only [List.length_drop,List.length_take];rfl)) ?_;(with_reducible refine (laws_eqStringS.calls k _ _ t281 _ _ t277 true _ ?side1 ?side2 ?side3 ?side4 A6.out).mono ?_);(case side1 => repeat (first|exact (Kd.R_reads' HO284.out).2.2|(with_reducible refine Kd.C_alloc ?_ _)|(with_reducible refine Kd.C_drewN ?_ _)|(with_reducible refine Kd.C_drew ?_)));(case side2 => exact (Kd.R_reads' HO284.out).2.1);(case side3 => repeat (first|exact (Kd.R_reads' HO280.out).2.2|(with_reducible refine Kd.C_alloc ?_ _)|(with_reducible refine Kd.C_drewN ?_ _)|(with_reducible refine Kd.C_drew ?_)));(case side4 => exact (Kd.R_reads' HO280.out).2.1);rintro e w' ⟨rfl,⟨nd,rfl⟩⟩;refine ⟨_,rfl,?_⟩)|((with_reducible refine gate_callee (f:=13) rfl ?_);refine goesL_ (some 39) rfl rfl Try.func13 (by kernel_rfl) rfl #[.slice Ao22 t281.length co22,.int .i64 1] rfl (by (try simp only [List.map_toArray,List.map_cons,List.map_nil]);first|done|rfl|(simp only [List.length_drop,List.length_take];rfl)) ?_;(with_reducible refine (laws_markStringS.calls k (fun k_ => some k_ = (.slice Ao22 t281.length co22 : Value).ownBlock) (.slice Ao22 t281.length co22) t281 1 t286 t287 w _ ?side1 ?side2 A9.out).mono ?_);(case side1 => repeat (first|(with_reducible first|exact HB.out|apply below_alloc|apply pw_below_drewN|apply below_drew1)|exact HB.out));(case side2 => exact Kd.R_tight rfl HO284.out);rintro e w24 ⟨rfl,hy0,hb,hkp⟩;refine ⟨_,rfl,?_⟩;have n0_:=Aside0.mk (Kd.R_mono (ok':=fun k_ => some k_ ≠ (.slice Ao22 t281.length co22 : Value).ownBlock) (Kd.R_keptB (HO280.out) hkp (fun k_ hk_ hs_ => (hk_.2) hs_)) (fun k_ hk_ => hk_.1.2));have n1_:=Aside0.mk (Kd.R_reok rfl hy0 (fun k_ e_ => HO284.out.1 k_ e_));have n2_:=Aside0.mk (hb);clear HO280;clear HO284;clear HB;have HO280:=n0_;have HO284:=n1_;have HB:=n2_;clear n0_ n1_ n2_;(try clear hb);(try clear hkp);(try clear hy0))|((with_reducible refine gate_callee (f:=14) rfl ?_);refine goesL_ (some 42) rfl rfl Try.func14 (by kernel_rfl) rfl #[.slice Ao22 t287.length co22,.int .i64 1] rfl (by (try simp only [List.map_toArray,List.map_cons,List.map_nil]);first|done|(rw [show t287.length = t281.length from (Kd.R_reads' HO284.out).1.symm] <;> rfl)|rfl|(simp only [List.length_drop,List.length_take];rfl)) ?_;(with_reducible refine (laws_heldStringS.calls k _ _ t287 1 t288 _ ?side1 ?side2 A10.out).mono ?_);(case side1 => repeat (first|exact (Kd.R_reads' HO284.out).2.2|(with_reducible refine Kd.C_alloc ?_ _)|(with_reducible refine Kd.C_drewN ?_ _)|(with_reducible refine Kd.C_drew ?_)));(case side2 => rw [show t287.length = t281.length from (Kd.R_reads' HO284.out).1.symm];exact (Kd.R_reads' HO284.out).2.1);rintro e w25 ⟨rfl,hb⟩;refine ⟨_,rfl,?_⟩;have n0_:=Aside0.mk (Kd.R_below (by (with_reducible repeat (first|apply Kd.R_alloc|apply Kd.R_drewN|apply Kd.R_drew));exact HO280.out) hb);have n1_:=Aside0.mk (Kd.R_below (by (with_reducible repeat (first|apply Kd.R_alloc|apply Kd.R_drewN|apply Kd.R_drew));exact HO284.out) hb);have n2_:=Aside0.mk (below_step (by repeat (first|(with_reducible first|exact HB.out|apply below_alloc|apply pw_below_drewN|apply below_drew1)|exact HB.out)) hb);clear HO280;clear HO284;clear HB;have HO280:=n0_;have HO284:=n1_;have HB:=n2_;clear n0_ n1_ n2_;(try clear hb);(try clear hb2);(try clear hk);(try clear hi))|((with_reducible refine gate_callee (f:=16) rfl ?_);refine goesL_ (some 51) rfl rfl Try.func16 (by kernel_rfl) rfl #[.int .i64 a0,.string a1] rfl (by (try simp only [List.map_toArray,List.map_cons,List.map_nil]);first|done|rfl|(simp only [List.length_drop,List.length_take];rfl)) ?_;(with_reducible refine (impl_Spread.calls k a0 a1 t289 t290 _ A13.out).mono ?_);rintro e w26 ⟨v291,rfl,ho0,hb⟩;refine ⟨_,rfl,?_⟩;have n0_:=Aside0.mk (Kd.R_elder' (by (with_reducible repeat (first|apply Kd.R_alloc|apply Kd.R_drewN|apply Kd.R_drew));exact HO280.out) (Kd.R_base ho0) hb);have n1_:=Aside0.mk (Kd.R_elder' (by (with_reducible repeat (first|apply Kd.R_alloc|apply Kd.R_drewN|apply Kd.R_drew));exact HO284.out) (Kd.R_base ho0) hb);have n2_:=Aside0.mk (Kd.R_lower (Kd.R_new' (Kd.R_new' ho0 (Kd.R_lt (by (with_reducible repeat (first|apply Kd.R_alloc|apply Kd.R_drewN|apply Kd.R_drew));exact HO280.out))) (Kd.R_lt (by (with_reducible repeat (first|apply Kd.R_alloc|apply Kd.R_drewN|apply Kd.R_drew));exact HO284.out))) (below_size (by repeat (first|(with_reducible first|exact HB.out|apply below_alloc|apply pw_below_drewN|apply below_drew1)|exact HB.out))));have n3_:=Aside0.mk (below_step (by repeat (first|(with_reducible first|exact HB.out|apply below_alloc|apply pw_below_drewN|apply below_drew1)|exact HB.out)) hb);clear HO280;clear HO284;clear HB;have HO280:=n0_;have HO284:=n1_;have HO292:=n2_;have HB:=n3_;clear n0_ n1_ n2_ n3_;(try clear hb);(try clear hb2);(try clear hk);(try clear hi);(try clear ho0);obtain ⟨Ao27,co27,eo27⟩:=Kd.R_slice HO292.out;subst eo27)|((with_reducible refine gate_callee (f:=12) rfl ?_);refine goesL_ (some 56) rfl rfl Try.func12 (by kernel_rfl) rfl #[.slice Ao27 t289.length co27,.slice Ao23 t277.length co23] rfl (by (try simp only [List.map_toArray,List.map_cons,List.map_nil]);first|done|rfl|(simp only [List.length_drop,List.length_take];rfl)) ?_;(with_reducible refine (laws_eqStringS.calls k _ _ t289 _ _ t277 true _ ?side1 ?side2 ?side3 ?side4 A14.out).mono ?_);(case side1 => repeat (first|exact (Kd.R_reads' HO292.out).2.2|(with_reducible refine Kd.C_alloc ?_ _)|(with_reducible refine Kd.C_drewN ?_ _)|(with_reducible refine Kd.C_drew ?_)));(case side2 => exact (Kd.R_reads' HO292.out).2.1);(case side3 => repeat (first|exact (Kd.R_reads' HO280.out).2.2|(with_reducible refine Kd.C_alloc ?_ _)|(with_reducible refine Kd.C_drewN ?_ _)|(with_reducible refine Kd.C_drew ?_)));(case side4 => exact (Kd.R_reads' HO280.out).2.1);rintro e w' ⟨rfl,⟨nd,rfl⟩⟩;refine ⟨_,rfl,?_⟩)|((with_reducible refine gate_callee (f:=14) rfl ?_);refine goesL_ (some 65) rfl rfl Try.func14 (by kernel_rfl) rfl #[.slice Ao22 t287.length co22,.int .i64 1] rfl (by (try simp only [List.map_toArray,List.map_cons,List.map_nil]);first|done|(rw [show t287.length = t281.length from (Kd.R_reads' HO284.out).1.symm] <;> rfl)|rfl|(simp only [List.length_drop,List.length_take];rfl)) ?_;(with_reducible refine (laws_heldStringS.calls k _ _ t287 1 t294 _ ?side1 ?side2 A17.out).mono ?_);(case side1 => repeat (first|exact (Kd.R_reads' HO284.out).2.2|(with_reducible refine Kd.C_alloc ?_ _)|(with_reducible refine Kd.C_drewN ?_ _)|(with_reducible refine Kd.C_drew ?_)));(case side2 => rw [show t287.length = t281.length from (Kd.R_reads' HO284.out).1.symm];exact (Kd.R_reads' HO284.out).2.1);rintro e w28 ⟨rfl,hb⟩;refine ⟨_,rfl,?_⟩;have n0_:=Aside0.mk (Kd.R_below (by (with_reducible repeat (first|apply Kd.R_alloc|apply Kd.R_drewN|apply Kd.R_drew));exact HO284.out) hb);have n1_:=Aside0.mk (below_step (by repeat (first|(with_reducible first|exact HB.out|apply below_alloc|apply pw_below_drewN|apply below_drew1)|exact HB.out)) hb);clear HO284;clear HB;(try clear HO280);(try clear HO292);have HO284:=n0_;have HB:=n1_;clear n0_ n1_;(try clear hb);(try clear hb2);(try clear hk);(try clear hi)))
          go_ret
          exact ⟨by first|rfl|(simp [errW_none,errW_some] <;> rfl)|(simp [*,errW_none,errW_some] <;> rfl),by repeat (first|(with_reducible first|exact HB.out|apply below_alloc|apply pw_below_drewN|apply below_drew1)|exact HB.out)⟩
         ·
          rw [if_neg c19] at H
          have c19b0 : (t294 == t286) = false:=beq_eq_false_iff_ne.mpr c19
          have c19b1 : (t294 != t286) = true:=bne_iff_ne.mpr c19
          exact absurd (hrt_ ▸ H) (by simp)
      ·
       replace c15:=Bool.eq_false_iff.mpr c15
       subst c15
       have H1 : (some false) = some r:=by rw [if_neg (show ¬ (false = true) by decide)] at H;exact H
       clear H
       have H:=H1
       clear H1
       exact absurd (hrt_ ▸ H) (by simp)
     ·
      rw [if_neg c12] at H
      have c12b0 : (t288 == t286) = false:=beq_eq_false_iff_ne.mpr c12
      have c12b1 : (t288 != t286) = true:=bne_iff_ne.mpr c12
      exact absurd (hrt_ ▸ H) (by simp)
  ·
   replace c7:=Bool.eq_false_iff.mpr c7
   subst c7
   have H1 : (some false) = some r:=by rw [if_neg (show ¬ (false = true) by decide)] at H;exact H
   clear H
   have H:=H1
   clear H1
   exact absurd (hrt_ ▸ H) (by simp)
def laws_FnExactSpread.Pure : Prop:=∀ (a0 : Int) (a1 : ByteArray),((Lit.int .i64 a0).wf = true) → (a1.size ≤ 140737488351232) → ∃ k,laws_FnExactSpread.f k a0 a1 = some true
end Go.Proofs.Ytlndidfeapkgcaa.P
