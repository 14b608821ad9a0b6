-- Ours: printed or written for this claim; cut to what the theorem needs.
import Derived.Test.YtnldanonpdijgaaZPx0
import Derived.Test.YtnldanonpdijgaaZPx6
import Derived.Test.YtnldanonpdijgaaZPx2
import Derived.Test.YtnldanonpdijgaaZPx3
import Derived.Test.YtnldanonpdijgaaZPx1
namespace Go.Proofs.Ytnldanonpdijgaa.P
open Go.RowKit Go.Proofs.YtnldanonpdijgaaW.PrintWords Go.Proofs.YtnldanonpdijgaaW.PrintLast Go.Proofs.YtnldanonpdijgaaW.PrintMore
attribute [local go_sem] max2_int min2_int max_two min_two max_three min_three max_four min_four
set_option linter.unusedVariables false
set_option linter.unusedSimpArgs false
def laws_markIntS.l0 : Nat → List Int → Int → Int → Option (Int × List Int)
  | 0,_,_,_ => none
  | k + 1,x0,x1,x5 => if x5 < (x0.length : Int) then (if 0 ≤ x5 then (laws_markIntS.l0 k (x0.set (x5 : Int).toNat x1) (wrap64 (x1 + 1)) (wrap64 (x5 + 1))) else (none)) else (some (x1,x0))
def laws_markIntS.f (k : Nat) (l0 : List Int) (a1 : Int) : Option (Int × List Int):=laws_markIntS.l0 k l0 a1 0
set_option maxHeartbeats 8000000 in
set_option maxRecDepth 100000 in
theorem laws_markIntS.calls (k : Nat) (P0_ : Nat → Prop) (u9000_ : Value) (l0 : List Int) (a1 : Int) (r1 : Int) (r2 : List Int) (w0 w : World) (hB : Below w0.heap.size w0 w) (ho0 : Kd.R (Kd.int .i64) 3 w w0.heap.size P0_ u9000_ l0) (h : laws_markIntS.f k l0 a1 = some (r1,r2)) :
  Calls Try.prog 27 #[u9000_,.int .i64 a1] w fun e w' => e = .returned (.int .i64 r1) ∧ Kd.R (Kd.int .i64) 3 w' w0.heap.size (fun k_ => (P0_ k_ ∨ w.heap.size ≤ k_)) u9000_ r2 ∧ Below w0.heap.size w0 w' ∧ Kept w w' (fun k_ => P0_ k_):=by
 have HO0:=Aside0.mk (show Kd.R (Kd.int .i64) 3 w w0.heap.size (fun k_ => (P0_ k_ ∨ w.heap.size ≤ k_)) u9000_ l0 from Kd.R_mono ho0 (fun k_ hk => (.inl hk)))
 have HK:=Aside0.mk (Kept.refl w (fun k_ => P0_ k_))
 have HW0:=Aside0.mk hB.size
 have HB:=Aside0.mk hB
 clear hB
 have H : (laws_markIntS.l0 k l0 a1 0) = some (r1,r2):=h
 clear h
 have H':=Aside0.mk H
 clear H
 go_enter Try.func27,Try.ntmps27
 go_wp2
 go_loopg [1,5] k (fun kq v1 v5 w' => ∃ (x0_1 : List Int) (x1_1 : Int) (x5_1 : Int),v1 = .int .i64 x1_1 ∧ v5 = .int .i64 x5_1 ∧ Aside0 (laws_markIntS.l0 kq x0_1 x1_1 x5_1 = some (r1,r2)) ∧ Aside0 (kq ≤ k) ∧ Aside0 (Kd.R (Kd.int .i64) 3 w' w0.heap.size (fun k_ => (P0_ k_ ∨ w.heap.size ≤ k_)) u9000_ x0_1) ∧ Aside0 (Kept w w' (fun k_ => P0_ k_)) ∧ Aside0 (Below w0.heap.size w0 w'))
 case atStart => exact ⟨(l0),(a1),(0),(by first|rfl|(simp;done)|(simp [*];done)),(by first|rfl|(simp;done)|(simp [*];done)),H',⟨Nat.le_refl _⟩,⟨by (with_reducible repeat (first|apply Kd.R_alloc|apply Kd.R_drewN|apply Kd.R_drew));exact HO0.out⟩,⟨by repeat (first|(with_reducible first|exact HK.out|apply Kept.alloc|apply Kept.drewN|apply Kept.drew)|exact HK.out)⟩,⟨by repeat (first|(with_reducible first|exact HB.out|apply below_alloc|apply pw_below_drewN|apply below_drew1)|exact HB.out)⟩⟩
 case round =>
  clear H'
  try clear c2
  try clear p2
  obtain ⟨x0_1,x1_1,x5_1,rfl,rfl,HA,HK1,HO_0,HK,HB⟩:=hrel
  cases gk with
  | zero => exact absurd HA.out (by simp [laws_markIntS.l0])
  | succ k1 =>
   have H:=HA.out
   clear HA
   simp only [laws_markIntS.l0] at H
   by_cases c3 : x5_1 < (x0_1.length : Int)
   ·
    rw [if_pos c3] at H
    have c3b0 : decide (x5_1 < (x0_1.length : Int)) = true:=decide_eq_true c3
    clear c3
    by_cases c4 : 0 ≤ x5_1
    ·
     rw [if_pos c4] at H
     have c4b0 : decide (0 ≤ x5_1) = true:=decide_eq_true c4
     clear c4
     obtain ⟨y352,hy352⟩ : ∃ y_ : List Int,y_ = (x0_1.set (x5_1 : Int).toNat x1_1):=⟨_,rfl⟩
     replace H : (laws_markIntS.l0 k1 y352 (wrap64 (x1_1 + 1)) (wrap64 (x5_1 + 1))) = some (r1,r2):=by first|(rw [hy352];with_reducible exact H)|(have H2_:=(Option.bind_some _ _).symm.trans H;rw [hy352];with_reducible exact H2_)|(have H2_:=(Option.bind_some _ _).symm.trans H;with_reducible exact H2_)|with_reducible exact H|(rw [hy352];exact H)|exact H
     have Ny352:=Aside0.mk hy352
     clear hy352
     have H':=Aside0.mk H
     clear H
     obtain ⟨Ao6,co6,eo6⟩:=Kd.R_slice HO_0.out
     subst eo6
     have p5 : 0 ≤ (x5_1 : Int):=of_decide_eq_true (by first|(with_reducible assumption)|assumption)
     have q5 : (x5_1 : Int) < ((x0_1.length : Int) : Int):=of_decide_eq_true (by first|(with_reducible assumption)|assumption)
     obtain ⟨go5,co5,eo5,gb5,gl5,cl5,HG5⟩:=Kd.R_form HO_0.out (by omega)
     (first|cases eo5|(injection eo5 with ea_ en_ ec_;(first|subst ea_|(injection ea_ with ea_;subst ea_));subst ec_;clear en_))
     have GB5:=Aside0.mk gb5
     have GG5:=Aside0.mk HG5
     clear gb5 gl5 HG5
     have HMgo5:=Aside0.mk (show (P0_ go5 ∨ w.heap.size ≤ go5) from (HO_0.out.1 _ rfl))
     obtain ⟨hx5_0,hf5_0⟩:=Kd.R_celln 0 HO_0.out (x5_1 : Int) p5 q5
     replace p5:=eq_true p5
     replace q5:=eq_true q5
     have HP7:=Kd.R_putg HO_0.out (x5_1 : Int) x1_1
     go_wp2_with (first|((with_reducible refine gate_store (t:=3) (p:=15) rfl ?_);refine store_event (t:=3) (p:=15) (v:=?vo_w8) (w1:=(wr.setCell ⟨go5,(x5_1 : Int).toNat,none⟩ (.int .i64 x1_1))) ?hg ?ho ?hn ?hr ?_;(case ho => rfl);(case hg => rfl);(case hn => rfl);(case hr => first|(go_simp;done)|(go_simp;rfl));intro w8 hw;have hg : wr.grownBy w8 (some go5):=(by rw [hw];exact HP7.2);have hp_ : Kd.R (Kd.int .i64) 3 w8 w0.heap.size (fun k_ => (P0_ k_ ∨ w.heap.size ≤ k_)) (.slice (some ⟨go5,0,none⟩) x0_1.length co6) y352:=(by rw [hw,Ny352.out];exact HP7.1);clear HP7;have n0_:=Aside0.mk (hp_);have n1_:=Aside0.mk ((by rw [hw];exact below_set (HB.out) GB5.out : Below w0.heap.size w0 w8));have n2_:=Aside0.mk (Kept.of_grown (S:=(fun k_ => P0_ k_)) hg (by repeat (first|(with_reducible first|exact HK.out|apply Kept.alloc|apply Kept.drewN|apply Kept.drew)|exact HK.out)) (fun k_ e_ => (HO_0.out.1 k_ e_)));clear HO_0;clear HB;clear HK;have HO_0:=n0_;have HB:=n1_;have HK:=n2_;clear n0_ n1_ n2_;clear hg hw hp_))
     go_roundg k1
     case measure => have:=HK1.out;omega
     case rel => exact ⟨(y352),(wrap64 (x1_1 + 1)),(wrap64 (x5_1 + 1)),(by first|rfl|(simp;done)|(simp [*];done)),(by first|rfl|(simp;done)|(simp [*];done)),H',⟨by have:=HK1.out;omega⟩,⟨by (with_reducible repeat (first|apply Kd.R_alloc|apply Kd.R_drewN|apply Kd.R_drew));exact HO_0.out⟩,⟨by repeat (first|(with_reducible first|exact HK.out|apply Kept.alloc|apply Kept.drewN|apply Kept.drew)|exact HK.out)⟩,⟨by repeat (first|(with_reducible first|exact HB.out|apply below_alloc|apply pw_below_drewN|apply below_drew1)|exact HB.out)⟩⟩
    ·
     rw [if_neg c4] at H
     exact absurd H (by simp)
   ·
    rw [if_neg c3] at H
    have c3b0 : decide (x5_1 < (x0_1.length : Int)) = false:=decide_eq_false c3
    clear c3
    simp only [Option.some.injEq,Prod.mk.injEq] at H
    obtain ⟨rfl,rfl⟩:=H
    obtain ⟨Ao9,co9,eo9⟩:=Kd.R_slice HO_0.out
    subst eo9
    go_wp2
    go_ret
    exact ⟨by first|rfl|(simp [errW_none,errW_some] <;> rfl)|(simp [*,errW_none,errW_some] <;> rfl),by (with_reducible repeat (first|apply Kd.R_alloc|apply Kd.R_drewN|apply Kd.R_drew));exact HO_0.out,by repeat (first|(with_reducible first|exact HB.out|apply below_alloc|apply pw_below_drewN|apply below_drew1)|exact HB.out),by repeat (first|(with_reducible first|exact HK.out|apply Kept.alloc|apply Kept.drewN|apply Kept.drew)|exact HK.out)⟩
def laws_markLsHostS.l0 : Nat → List (S50) → Int → Int → Option (Int × (List (S50)))
  | 0,_,_,_ => none
  | k + 1,x0,x1,x5 => if x5 < (x0.length : Int) then (if 0 ≤ x5 then ((some (x0.set (x5 : Int).toNat (⟨((Int.tmod x1 3) == 0),(rd_T50 x0 x5).f1,(rd_T50 x0 x5).f2,(rd_T50 x0 x5).f3,(rd_T50 x0 x5).f4,(rd_T50 x0 x5).f5⟩ : S50) : List (S50))).bind fun y353 => ((some (y353.set (x5 : Int).toNat (⟨(rd_T50 y353 x5).f0,wrap64 (x1 + 1),(rd_T50 y353 x5).f2,(rd_T50 y353 x5).f3,(rd_T50 y353 x5).f4,(rd_T50 y353 x5).f5⟩ : S50) : List (S50))).bind fun y354 => ((some (y354.set (x5 : Int).toNat (⟨(rd_T50 y354 x5).f0,(rd_T50 y354 x5).f1,((Int.tmod (wrap64 ((wrap64 (x1 + 1)) + 1)) 3) == 0),(rd_T50 y354 x5).f3,(rd_T50 y354 x5).f4,(rd_T50 y354 x5).f5⟩ : S50) : List (S50))).bind fun y355 => ((some (y355.set (x5 : Int).toNat (⟨(rd_T50 y355 x5).f0,(rd_T50 y355 x5).f1,(rd_T50 y355 x5).f2,wrap64 ((wrap64 ((wrap64 (x1 + 1)) + 1)) + 1),(rd_T50 y355 x5).f4,(rd_T50 y355 x5).f5⟩ : S50) : List (S50))).bind fun y356 => ((some (y356.set (x5 : Int).toNat (⟨(rd_T50 y356 x5).f0,(rd_T50 y356 x5).f1,(rd_T50 y356 x5).f2,(rd_T50 y356 x5).f3,wrap64 ((wrap64 ((wrap64 ((wrap64 (x1 + 1)) + 1)) + 1)) + 1),(rd_T50 y356 x5).f5⟩ : S50) : List (S50))).bind fun y357 => (laws_markLsHostS.l0 k (y357.set (x5 : Int).toNat (⟨(rd_T50 y357 x5).f0,(rd_T50 y357 x5).f1,(rd_T50 y357 x5).f2,(rd_T50 y357 x5).f3,(rd_T50 y357 x5).f4,wrap64 ((wrap64 ((wrap64 ((wrap64 ((wrap64 (x1 + 1)) + 1)) + 1)) + 1)) + 1)⟩ : S50)) (wrap64 ((wrap64 ((wrap64 ((wrap64 ((wrap64 ((wrap64 (x1 + 1)) + 1)) + 1)) + 1)) + 1)) + 1)) (wrap64 (x5 + 1)))))))) else (none)) else (some (x1,x0))
def laws_markLsHostS.f (k : Nat) (l0 : List (S50)) (a1 : Int) : Option (Int × (List (S50))):=laws_markLsHostS.l0 k l0 a1 0
set_option maxHeartbeats 8000000 in
set_option maxRecDepth 100000 in
theorem laws_markLsHostS.calls (k : Nat) (P0_ : Nat → Prop) (u9000_ : Value) (l0 : List (S50)) (a1 : Int) (r1 : Int) (r2 : List (S50)) (w0 w : World) (hB : Below w0.heap.size w0 w) (ho0 : Kd.R k50 50 w w0.heap.size P0_ u9000_ l0) (h : laws_markLsHostS.f k l0 a1 = some (r1,r2)) :
  Calls Try.prog 60 #[u9000_,.int .i64 a1] w fun e w' => e = .returned (.int .i64 r1) ∧ Kd.R k50 50 w' w0.heap.size (fun k_ => (P0_ k_ ∨ w.heap.size ≤ k_)) u9000_ r2 ∧ Below w0.heap.size w0 w' ∧ Kept w w' (fun k_ => P0_ k_):=by
 have HO0:=Aside0.mk (show Kd.R k50 50 w w0.heap.size (fun k_ => (P0_ k_ ∨ w.heap.size ≤ k_)) u9000_ l0 from Kd.R_mono ho0 (fun k_ hk => (.inl hk)))
 have HK:=Aside0.mk (Kept.refl w (fun k_ => P0_ k_))
 have HW0:=Aside0.mk hB.size
 have HB:=Aside0.mk hB
 clear hB
 have H : (laws_markLsHostS.l0 k l0 a1 0) = some (r1,r2):=h
 clear h
 have H':=Aside0.mk H
 clear H
 go_enter Try.func60,Try.ntmps60
 go_wp2
 go_loopg [1,5] k (fun kq v1 v5 w' => ∃ (x0_1 : List (S50)) (x1_1 : Int) (x5_1 : Int),v1 = .int .i64 x1_1 ∧ v5 = .int .i64 x5_1 ∧ Aside0 (laws_markLsHostS.l0 kq x0_1 x1_1 x5_1 = some (r1,r2)) ∧ Aside0 (kq ≤ k) ∧ Aside0 (Kd.R k50 50 w' w0.heap.size (fun k_ => (P0_ k_ ∨ w.heap.size ≤ k_)) u9000_ x0_1) ∧ Aside0 (Kept w w' (fun k_ => P0_ k_)) ∧ Aside0 (Below w0.heap.size w0 w'))
 case atStart => exact ⟨(l0),(a1),(0),(by first|rfl|(simp;done)|(simp [*];done)),(by first|rfl|(simp;done)|(simp [*];done)),H',⟨Nat.le_refl _⟩,⟨by (with_reducible repeat (first|apply Kd.R_alloc|apply Kd.R_drewN|apply Kd.R_drew));exact HO0.out⟩,⟨by repeat (first|(with_reducible first|exact HK.out|apply Kept.alloc|apply Kept.drewN|apply Kept.drew)|exact HK.out)⟩,⟨by repeat (first|(with_reducible first|exact HB.out|apply below_alloc|apply pw_below_drewN|apply below_drew1)|exact HB.out)⟩⟩
 case round =>
  clear H'
  try clear p2
  obtain ⟨x0_1,x1_1,x5_1,rfl,rfl,HA,HK1,HO_0,HK,HB⟩:=hrel
  cases gk with
  | zero => exact absurd HA.out (by simp [laws_markLsHostS.l0])
  | succ k1 =>
   have H:=HA.out
   clear HA
   simp only [laws_markLsHostS.l0] at H
   by_cases c3 : x5_1 < (x0_1.length : Int)
   ·
    rw [if_pos c3] at H
    have c3b0 : decide (x5_1 < (x0_1.length : Int)) = true:=decide_eq_true c3
    clear c3
    by_cases c4 : 0 ≤ x5_1
    ·
     rw [if_pos c4] at H
     have c4b0 : decide (0 ≤ x5_1) = true:=decide_eq_true c4
     clear c4
     obtain ⟨y353,hy353⟩ : ∃ y_ : List (S50),y_ = (x0_1.set (x5_1 : Int).toNat (⟨((Int.tmod x1_1 3) == 0),(rd_T50 x0_1 x5_1).f1,(rd_T50 x0_1 x5_1).f2,(rd_T50 x0_1 x5_1).f3,(rd_T50 x0_1 x5_1).f4,(rd_T50 x0_1 x5_1).f5⟩ : S50)):=⟨_,rfl⟩
     replace H : ((some (y353.set (x5_1 : Int).toNat (⟨(rd_T50 y353 x5_1).f0,wrap64 (x1_1 + 1),(rd_T50 y353 x5_1).f2,(rd_T50 y353 x5_1).f3,(rd_T50 y353 x5_1).f4,(rd_T50 y353 x5_1).f5⟩ : S50) : List (S50))).bind fun y354 => ((some (y354.set (x5_1 : Int).toNat (⟨(rd_T50 y354 x5_1).f0,(rd_T50 y354 x5_1).f1,((Int.tmod (wrap64 ((wrap64 (x1_1 + 1)) + 1)) 3) == 0),(rd_T50 y354 x5_1).f3,(rd_T50 y354 x5_1).f4,(rd_T50 y354 x5_1).f5⟩ : S50) : List (S50))).bind fun y355 => ((some (y355.set (x5_1 : Int).toNat (⟨(rd_T50 y355 x5_1).f0,(rd_T50 y355 x5_1).f1,(rd_T50 y355 x5_1).f2,wrap64 ((wrap64 ((wrap64 (x1_1 + 1)) + 1)) + 1),(rd_T50 y355 x5_1).f4,(rd_T50 y355 x5_1).f5⟩ : S50) : List (S50))).bind fun y356 => ((some (y356.set (x5_1 : Int).toNat (⟨(rd_T50 y356 x5_1).f0,(rd_T50 y356 x5_1).f1,(rd_T50 y356 x5_1).f2,(rd_T50 y356 x5_1).f3,wrap64 ((wrap64 ((wrap64 ((wrap64 (x1_1 + 1)) + 1)) + 1)) + 1),(rd_T50 y356 x5_1).f5⟩ : S50) : List (S50))).bind fun y357 => (laws_markLsHostS.l0 k1 (y357.set (x5_1 : Int).toNat (⟨(rd_T50 y357 x5_1).f0,(rd_T50 y357 x5_1).f1,(rd_T50 y357 x5_1).f2,(rd_T50 y357 x5_1).f3,(rd_T50 y357 x5_1).f4,wrap64 ((wrap64 ((wrap64 ((wrap64 ((wrap64 (x1_1 + 1)) + 1)) + 1)) + 1)) + 1)⟩ : S50)) (wrap64 ((wrap64 ((wrap64 ((wrap64 ((wrap64 ((wrap64 (x1_1 + 1)) + 1)) + 1)) + 1)) + 1)) + 1)) (wrap64 (x5_1 + 1))))))) = some (r1,r2):=by first|(rw [hy353];with_reducible exact H)|(have H2_:=(Option.bind_some _ _).symm.trans H;rw [hy353];with_reducible exact H2_)|(have H2_:=(Option.bind_some _ _).symm.trans H;with_reducible exact H2_)|with_reducible exact H|(rw [hy353];exact H)|exact H
     have Ny353:=Aside0.mk hy353
     clear hy353
     obtain ⟨y354,hy354⟩ : ∃ y_ : List (S50),y_ = (y353.set (x5_1 : Int).toNat (⟨(rd_T50 y353 x5_1).f0,wrap64 (x1_1 + 1),(rd_T50 y353 x5_1).f2,(rd_T50 y353 x5_1).f3,(rd_T50 y353 x5_1).f4,(rd_T50 y353 x5_1).f5⟩ : S50)):=⟨_,rfl⟩
     replace H : ((some (y354.set (x5_1 : Int).toNat (⟨(rd_T50 y354 x5_1).f0,(rd_T50 y354 x5_1).f1,((Int.tmod (wrap64 ((wrap64 (x1_1 + 1)) + 1)) 3) == 0),(rd_T50 y354 x5_1).f3,(rd_T50 y354 x5_1).f4,(rd_T50 y354 x5_1).f5⟩ : S50) : List (S50))).bind fun y355 => ((some (y355.set (x5_1 : Int).toNat (⟨(rd_T50 y355 x5_1).f0,(rd_T50 y355 x5_1).f1,(rd_T50 y355 x5_1).f2,wrap64 ((wrap64 ((wrap64 (x1_1 + 1)) + 1)) + 1),(rd_T50 y355 x5_1).f4,(rd_T50 y355 x5_1).f5⟩ : S50) : List (S50))).bind fun y356 => ((some (y356.set (x5_1 : Int).toNat (⟨(rd_T50 y356 x5_1).f0,(rd_T50 y356 x5_1).f1,(rd_T50 y356 x5_1).f2,(rd_T50 y356 x5_1).f3,wrap64 ((wrap64 ((wrap64 ((wrap64 (x1_1 + 1)) + 1)) + 1)) + 1),(rd_T50 y356 x5_1).f5⟩ : S50) : List (S50))).bind fun y357 => (laws_markLsHostS.l0 k1 (y357.set (x5_1 : Int).toNat (⟨(rd_T50 y357 x5_1).f0,(rd_T50 y357 x5_1).f1,(rd_T50 y357 x5_1).f2,(rd_T50 y357 x5_1).f3,(rd_T50 y357 x5_1).f4,wrap64 ((wrap64 ((wrap64 ((wrap64 ((wrap64 (x1_1 + 1)) + 1)) + 1)) + 1)) + 1)⟩ : S50)) (wrap64 ((wrap64 ((wrap64 ((wrap64 ((wrap64 ((wrap64 (x1_1 + 1)) + 1)) + 1)) + 1)) + 1)) + 1)) (wrap64 (x5_1 + 1)))))) = some (r1,r2):=by first|(rw [hy354];with_reducible exact H)|(have H2_:=(Option.bind_some _ _).symm.trans H;rw [hy354];with_reducible exact H2_)|(have H2_:=(Option.bind_some _ _).symm.trans H;with_reducible exact H2_)|with_reducible exact H|(rw [hy354];exact H)|exact H
     have Ny354:=Aside0.mk hy354
     clear hy354
     obtain ⟨y355,hy355⟩ : ∃ y_ : List (S50),y_ = (y354.set (x5_1 : Int).toNat (⟨(rd_T50 y354 x5_1).f0,(rd_T50 y354 x5_1).f1,((Int.tmod (wrap64 ((wrap64 (x1_1 + 1)) + 1)) 3) == 0),(rd_T50 y354 x5_1).f3,(rd_T50 y354 x5_1).f4,(rd_T50 y354 x5_1).f5⟩ : S50)):=⟨_,rfl⟩
     replace H : ((some (y355.set (x5_1 : Int).toNat (⟨(rd_T50 y355 x5_1).f0,(rd_T50 y355 x5_1).f1,(rd_T50 y355 x5_1).f2,wrap64 ((wrap64 ((wrap64 (x1_1 + 1)) + 1)) + 1),(rd_T50 y355 x5_1).f4,(rd_T50 y355 x5_1).f5⟩ : S50) : List (S50))).bind fun y356 => ((some (y356.set (x5_1 : Int).toNat (⟨(rd_T50 y356 x5_1).f0,(rd_T50 y356 x5_1).f1,(rd_T50 y356 x5_1).f2,(rd_T50 y356 x5_1).f3,wrap64 ((wrap64 ((wrap64 ((wrap64 (x1_1 + 1)) + 1)) + 1)) + 1),(rd_T50 y356 x5_1).f5⟩ : S50) : List (S50))).bind fun y357 => (laws_markLsHostS.l0 k1 (y357.set (x5_1 : Int).toNat (⟨(rd_T50 y357 x5_1).f0,(rd_T50 y357 x5_1).f1,(rd_T50 y357 x5_1).f2,(rd_T50 y357 x5_1).f3,(rd_T50 y357 x5_1).f4,wrap64 ((wrap64 ((wrap64 ((wrap64 ((wrap64 (x1_1 + 1)) + 1)) + 1)) + 1)) + 1)⟩ : S50)) (wrap64 ((wrap64 ((wrap64 ((wrap64 ((wrap64 ((wrap64 (x1_1 + 1)) + 1)) + 1)) + 1)) + 1)) + 1)) (wrap64 (x5_1 + 1))))) = some (r1,r2):=by first|(rw [hy355];with_reducible exact H)|(have H2_:=(Option.bind_some _ _).symm.trans H;rw [hy355];with_reducible exact H2_)|(have H2_:=(Option.bind_some _ _).symm.trans H;with_reducible exact H2_)|with_reducible exact H|(rw [hy355];exact H)|exact H
     have Ny355:=Aside0.mk hy355
     clear hy355
     obtain ⟨y356,hy356⟩ : ∃ y_ : List (S50),y_ = (y355.set (x5_1 : Int).toNat (⟨(rd_T50 y355 x5_1).f0,(rd_T50 y355 x5_1).f1,(rd_T50 y355 x5_1).f2,wrap64 ((wrap64 ((wrap64 (x1_1 + 1)) + 1)) + 1),(rd_T50 y355 x5_1).f4,(rd_T50 y355 x5_1).f5⟩ : S50)):=⟨_,rfl⟩
     replace H : ((some (y356.set (x5_1 : Int).toNat (⟨(rd_T50 y356 x5_1).f0,(rd_T50 y356 x5_1).f1,(rd_T50 y356 x5_1).f2,(rd_T50 y356 x5_1).f3,wrap64 ((wrap64 ((wrap64 ((wrap64 (x1_1 + 1)) + 1)) + 1)) + 1),(rd_T50 y356 x5_1).f5⟩ : S50) : List (S50))).bind fun y357 => (laws_markLsHostS.l0 k1 (y357.set (x5_1 : Int).toNat (⟨(rd_T50 y357 x5_1).f0,(rd_T50 y357 x5_1).f1,(rd_T50 y357 x5_1).f2,(rd_T50 y357 x5_1).f3,(rd_T50 y357 x5_1).f4,wrap64 ((wrap64 ((wrap64 ((wrap64 ((wrap64 (x1_1 + 1)) + 1)) + 1)) + 1)) + 1)⟩ : S50)) (wrap64 ((wrap64 ((wrap64 ((wrap64 ((wrap64 ((wrap64 (x1_1 + 1)) + 1)) + 1)) + 1)) + 1)) + 1)) (wrap64 (x5_1 + 1)))) = some (r1,r2):=by first|(rw [hy356];with_reducible exact H)|(have H2_:=(Option.bind_some _ _).symm.trans H;rw [hy356];with_reducible exact H2_)|(have H2_:=(Option.bind_some _ _).symm.trans H;with_reducible exact H2_)|with_reducible exact H|(rw [hy356];exact H)|exact H
     have Ny356:=Aside0.mk hy356
     clear hy356
     obtain ⟨y357,hy357⟩ : ∃ y_ : List (S50),y_ = (y356.set (x5_1 : Int).toNat (⟨(rd_T50 y356 x5_1).f0,(rd_T50 y356 x5_1).f1,(rd_T50 y356 x5_1).f2,(rd_T50 y356 x5_1).f3,wrap64 ((wrap64 ((wrap64 ((wrap64 (x1_1 + 1)) + 1)) + 1)) + 1),(rd_T50 y356 x5_1).f5⟩ : S50)):=⟨_,rfl⟩
     replace H : (laws_markLsHostS.l0 k1 (y357.set (x5_1 : Int).toNat (⟨(rd_T50 y357 x5_1).f0,(rd_T50 y357 x5_1).f1,(rd_T50 y357 x5_1).f2,(rd_T50 y357 x5_1).f3,(rd_T50 y357 x5_1).f4,wrap64 ((wrap64 ((wrap64 ((wrap64 ((wrap64 (x1_1 + 1)) + 1)) + 1)) + 1)) + 1)⟩ : S50)) (wrap64 ((wrap64 ((wrap64 ((wrap64 ((wrap64 ((wrap64 (x1_1 + 1)) + 1)) + 1)) + 1)) + 1)) + 1)) (wrap64 (x5_1 + 1))) = some (r1,r2):=by first|(rw [hy357];with_reducible exact H)|(have H2_:=(Option.bind_some _ _).symm.trans H;rw [hy357];with_reducible exact H2_)|(have H2_:=(Option.bind_some _ _).symm.trans H;with_reducible exact H2_)|with_reducible exact H|(rw [hy357];exact H)|exact H
     have Ny357:=Aside0.mk hy357
     clear hy357
     obtain ⟨y358,hy358⟩ : ∃ y_ : List (S50),y_ = (y357.set (x5_1 : Int).toNat (⟨(rd_T50 y357 x5_1).f0,(rd_T50 y357 x5_1).f1,(rd_T50 y357 x5_1).f2,(rd_T50 y357 x5_1).f3,(rd_T50 y357 x5_1).f4,wrap64 ((wrap64 ((wrap64 ((wrap64 ((wrap64 (x1_1 + 1)) + 1)) + 1)) + 1)) + 1)⟩ : S50)):=⟨_,rfl⟩
     replace H : (laws_markLsHostS.l0 k1 y358 (wrap64 ((wrap64 ((wrap64 ((wrap64 ((wrap64 ((wrap64 (x1_1 + 1)) + 1)) + 1)) + 1)) + 1)) + 1)) (wrap64 (x5_1 + 1))) = some (r1,r2):=by first|(rw [hy358];with_reducible exact H)|(have H2_:=(Option.bind_some _ _).symm.trans H;rw [hy358];with_reducible exact H2_)|(have H2_:=(Option.bind_some _ _).symm.trans H;with_reducible exact H2_)|with_reducible exact H|(rw [hy358];exact H)|exact H
     have Ny358:=Aside0.mk hy358
     clear hy358
     have H':=Aside0.mk H
     clear H
     obtain ⟨Ao11,co11,eo11⟩:=Kd.R_slice HO_0.out
     subst eo11
     have p5 : 0 ≤ (x5_1 : Int):=of_decide_eq_true (by first|(with_reducible assumption)|assumption)
     have q5 : (x5_1 : Int) < ((x0_1.length : Int) : Int):=of_decide_eq_true (by first|(with_reducible assumption)|assumption)
     obtain ⟨go5,co5,eo5,gb5,gl5,cl5,HG5⟩:=Kd.R_form HO_0.out (by omega)
     (first|cases eo5|(injection eo5 with ea_ en_ ec_;(first|subst ea_|(injection ea_ with ea_;subst ea_));subst ec_;clear en_))
     have GB5:=Aside0.mk gb5
     have GG5:=Aside0.mk HG5
     clear gb5 gl5 HG5
     have HMgo5:=Aside0.mk (show (P0_ go5 ∨ w.heap.size ≤ go5) from (HO_0.out.1 _ rfl))
     obtain ⟨ce5,hcl5,hM5,hcc5,hfr5⟩:=Kd.R_elem HO_0.out z50 (x5_1 : Int) p5 q5
     obtain rfl:=k50_openM hM5
     have hx5_0 : wr.cell? ⟨go5,(x5_1 : Int).toNat * 6,none⟩ = some (.bool ((rd_T50 x0_1 x5_1).f0)):=hcc5 0 _ rfl
     have hx5_1 : wr.cell? ⟨go5,(x5_1 : Int).toNat * 6 + 1,none⟩ = some (.int .i64 ((rd_T50 x0_1 x5_1).f1)):=hcc5 1 _ rfl
     have hx5_2 : wr.cell? ⟨go5,(x5_1 : Int).toNat * 6 + 2,none⟩ = some (.bool ((rd_T50 x0_1 x5_1).f2)):=hcc5 2 _ rfl
     have hx5_3 : wr.cell? ⟨go5,(x5_1 : Int).toNat * 6 + 3,none⟩ = some (.int .i64 ((rd_T50 x0_1 x5_1).f3)):=hcc5 3 _ rfl
     have hx5_4 : wr.cell? ⟨go5,(x5_1 : Int).toNat * 6 + 4,none⟩ = some (.int .i64 ((rd_T50 x0_1 x5_1).f4)):=hcc5 4 _ rfl
     have hx5_5 : wr.cell? ⟨go5,(x5_1 : Int).toNat * 6 + 5,none⟩ = some (.int .i64 ((rd_T50 x0_1 x5_1).f5)):=hcc5 5 _ rfl
     have hf5_0 : wr.frozen? ⟨go5,(x5_1 : Int).toNat * 6,none⟩ = false:=hfr5 0
     have hf5_1 : wr.frozen? ⟨go5,(x5_1 : Int).toNat * 6 + 1,none⟩ = false:=hfr5 1
     have hf5_2 : wr.frozen? ⟨go5,(x5_1 : Int).toNat * 6 + 2,none⟩ = false:=hfr5 2
     have hf5_3 : wr.frozen? ⟨go5,(x5_1 : Int).toNat * 6 + 3,none⟩ = false:=hfr5 3
     have hf5_4 : wr.frozen? ⟨go5,(x5_1 : Int).toNat * 6 + 4,none⟩ = false:=hfr5 4
     have hf5_5 : wr.frozen? ⟨go5,(x5_1 : Int).toNat * 6 + 5,none⟩ = false:=hfr5 5
     clear hcl5 hcc5 hfr5 hM5
     replace p5:=eq_true p5
     replace q5:=eq_true q5
     have HX12:=Aside0.mk (show Kd.R k50 50 wr w0.heap.size (fun k_ => (P0_ k_ ∨ w.heap.size ≤ k_)) (.slice (some ⟨go5,0,none⟩) x0_1.length co11) x0_1 from (by (with_reducible repeat (first|apply Kd.R_alloc|apply Kd.R_drewN|apply Kd.R_drew));exact HO_0.out))
     obtain ⟨ce12,hcl12,hM12,hcc12,hfr12⟩:=Kd.R_elem HX12.out z50 (x5_1 : Int) (of_decide_eq_true (by first|(with_reducible assumption)|assumption)) (by have h_ : (x5_1 : Int) < ((x0_1.length : Int) : Int):=of_decide_eq_true (by first|(with_reducible assumption)|assumption);first|exact h_|(have e_:=(Kd.R_reads' HO_0.out).1;omega)|simpa using h_)
     obtain rfl:=k50_openM hM12
     have HP12:=Kd.R_seg HX12.out (x5_1 : Int) (of_decide_eq_true (by first|(with_reducible assumption)|assumption)) (by have h_ : (x5_1 : Int) < ((x0_1.length : Int) : Int):=of_decide_eq_true (by first|(with_reducible assumption)|assumption);first|exact h_|(have e_:=(Kd.R_reads' HO_0.out).1;omega)|simpa using h_) (seg:=[.bool ((Int.tmod x1_1 3) == 0)]) (j:=0) hcl12 hcc12 (show 1 ≤ 6 from by decide) (x':=(⟨((Int.tmod x1_1 3) == 0),(rd_T50 x0_1 x5_1).f1,(rd_T50 x0_1 x5_1).f2,(rd_T50 x0_1 x5_1).f3,(rd_T50 x0_1 x5_1).f4,(rd_T50 x0_1 x5_1).f5⟩ : S50)) (k50_mkM _ _ _ (⟨((Int.tmod x1_1 3) == 0),(rd_T50 x0_1 x5_1).f1,(rd_T50 x0_1 x5_1).f2,(rd_T50 x0_1 x5_1).f3,(rd_T50 x0_1 x5_1).f4,(rd_T50 x0_1 x5_1).f5⟩ : S50) ) (fun _ hk => hk)
     have hx12_0:=hcc12 0 _ rfl
     (try simp only [show (k50).sz = 6 from rfl,Nat.mul_one,Nat.add_zero] at hx12_0)
     have hf12_0:=hfr12 0
     (try simp only [show (k50).sz = 6 from rfl,Nat.mul_one,Nat.add_zero] at hf12_0)
     clear hcl12 hcc12 hfr12 hM12
     go_wp2_with (first|((with_reducible refine gate_store (t:=4) (p:=18) rfl ?_);refine store_event (t:=4) (p:=18) (v:=?vo_w13) (w1:=(wr.setCell ⟨go5,(x5_1 : Int).toNat * 6,none⟩ (.bool ((Int.tmod x1_1 3) == 0)))) ?hg ?ho ?hn ?hr ?_;(case ho => rfl);(case hg => rfl);(case hn => rfl);(case hr => first|(go_simp;done)|(go_simp;rfl));intro w13 hw;have hg : wr.grownBy w13 (some go5):=(by rw [hw];exact HP12.2);have hp_ : Kd.R k50 50 w13 w0.heap.size (fun k_ => (P0_ k_ ∨ w.heap.size ≤ k_)) (.slice (some ⟨go5,0,none⟩) x0_1.length co11) y353:=(by rw [hw,Ny353.out];exact HP12.1);clear HP12;have n0_:=Aside0.mk (hp_);have n1_:=Aside0.mk ((by rw [hw];exact below_set (HB.out) GB5.out : Below w0.heap.size w0 w13));have n2_:=Aside0.mk (Kept.of_grown (S:=(fun k_ => P0_ k_)) hg (by repeat (first|(with_reducible first|exact HK.out|apply Kept.alloc|apply Kept.drewN|apply Kept.drew)|exact HK.out)) (fun k_ e_ => (HO_0.out.1 k_ e_)));clear HO_0;clear HB;clear HK;have HO_0:=n0_;have HB:=n1_;have HK:=n2_;clear n0_ n1_ n2_;clear hg hw hp_;have p6 : 0 ≤ (x5_1 : Int):=of_decide_eq_true (by first|(with_reducible assumption)|assumption);have q6 : (x5_1 : Int) < ((x0_1.length : Int) : Int):=of_decide_eq_true (by first|(with_reducible assumption)|assumption);obtain ⟨ce6,hcl6,hM6,hcc6,hfr6⟩:=Kd.R_elem HO_0.out z50 (x5_1 : Int) p6 q6;obtain rfl:=k50_openM hM6;have hx6_0 : w13.cell? ⟨go5,(x5_1 : Int).toNat * 6,none⟩ = some (.bool ((rd_T50 y353 x5_1).f0)):=hcc6 0 _ rfl;have hx6_1 : w13.cell? ⟨go5,(x5_1 : Int).toNat * 6 + 1,none⟩ = some (.int .i64 ((rd_T50 y353 x5_1).f1)):=hcc6 1 _ rfl;have hx6_2 : w13.cell? ⟨go5,(x5_1 : Int).toNat * 6 + 2,none⟩ = some (.bool ((rd_T50 y353 x5_1).f2)):=hcc6 2 _ rfl;have hx6_3 : w13.cell? ⟨go5,(x5_1 : Int).toNat * 6 + 3,none⟩ = some (.int .i64 ((rd_T50 y353 x5_1).f3)):=hcc6 3 _ rfl;have hx6_4 : w13.cell? ⟨go5,(x5_1 : Int).toNat * 6 + 4,none⟩ = some (.int .i64 ((rd_T50 y353 x5_1).f4)):=hcc6 4 _ rfl;have hx6_5 : w13.cell? ⟨go5,(x5_1 : Int).toNat * 6 + 5,none⟩ = some (.int .i64 ((rd_T50 y353 x5_1).f5)):=hcc6 5 _ rfl;have hf6_0 : w13.frozen? ⟨go5,(x5_1 : Int).toNat * 6,none⟩ = false:=hfr6 0;have hf6_1 : w13.frozen? ⟨go5,(x5_1 : Int).toNat * 6 + 1,none⟩ = false:=hfr6 1;have hf6_2 : w13.frozen? ⟨go5,(x5_1 : Int).toNat * 6 + 2,none⟩ = false:=hfr6 2;have hf6_3 : w13.frozen? ⟨go5,(x5_1 : Int).toNat * 6 + 3,none⟩ = false:=hfr6 3;have hf6_4 : w13.frozen? ⟨go5,(x5_1 : Int).toNat * 6 + 4,none⟩ = false:=hfr6 4;have hf6_5 : w13.frozen? ⟨go5,(x5_1 : Int).toNat * 6 + 5,none⟩ = false:=hfr6 5;clear hcl6 hcc6 hfr6 hM6;replace p6:=eq_true p6;replace q6:=eq_true q6;have HX14:=Aside0.mk (show Kd.R k50 50 w13 w0.heap.size (fun k_ => (P0_ k_ ∨ w.heap.size ≤ k_)) (.slice (some ⟨go5,0,none⟩) x0_1.length co11) y353 from (by (with_reducible repeat (first|apply Kd.R_alloc|apply Kd.R_drewN|apply Kd.R_drew));exact HO_0.out));obtain ⟨ce14,hcl14,hM14,hcc14,hfr14⟩:=Kd.R_elem HX14.out z50 (x5_1 : Int) (of_decide_eq_true (by first|(with_reducible assumption)|assumption)) (by have h_ : (x5_1 : Int) < ((x0_1.length : Int) : Int):=of_decide_eq_true (by first|(with_reducible assumption)|assumption);first|exact h_|(have e_:=(Kd.R_reads' HO_0.out).1;omega)|simpa using h_);obtain rfl:=k50_openM hM14;have HP14:=Kd.R_seg HX14.out (x5_1 : Int) (of_decide_eq_true (by first|(with_reducible assumption)|assumption)) (by have h_ : (x5_1 : Int) < ((x0_1.length : Int) : Int):=of_decide_eq_true (by first|(with_reducible assumption)|assumption);first|exact h_|(have e_:=(Kd.R_reads' HO_0.out).1;omega)|simpa using h_) (seg:=[.int .i64 (wrap64 (x1_1 + 1))]) (j:=1) hcl14 hcc14 (show 2 ≤ 6 from by decide) (x':=(⟨(rd_T50 y353 x5_1).f0,wrap64 (x1_1 + 1),(rd_T50 y353 x5_1).f2,(rd_T50 y353 x5_1).f3,(rd_T50 y353 x5_1).f4,(rd_T50 y353 x5_1).f5⟩ : S50)) (k50_mkM _ _ _ (⟨(rd_T50 y353 x5_1).f0,wrap64 (x1_1 + 1),(rd_T50 y353 x5_1).f2,(rd_T50 y353 x5_1).f3,(rd_T50 y353 x5_1).f4,(rd_T50 y353 x5_1).f5⟩ : S50) ) (fun _ hk => hk);have hx14_1:=hcc14 1 _ rfl;(try simp only [show (k50).sz = 6 from rfl,Nat.mul_one,Nat.add_zero] at hx14_1);have hf14_1:=hfr14 1;(try simp only [show (k50).sz = 6 from rfl,Nat.mul_one,Nat.add_zero] at hf14_1);clear hcl14 hcc14 hfr14 hM14)|((with_reducible refine gate_store (t:=3) (p:=25) rfl ?_);refine store_event (t:=3) (p:=25) (v:=?vo_w15) (w1:=(w13.setCell ⟨go5,(x5_1 : Int).toNat * 6 + 1,none⟩ (.int .i64 (wrap64 (x1_1 + 1))))) ?hg ?ho ?hn ?hr ?_;(case ho => rfl);(case hg => rfl);(case hn => rfl);(case hr => first|(go_simp;done)|(go_simp;rfl));intro w15 hw;have hg : w13.grownBy w15 (some go5):=(by rw [hw];exact HP14.2);have hp_ : Kd.R k50 50 w15 w0.heap.size (fun k_ => (P0_ k_ ∨ w.heap.size ≤ k_)) (.slice (some ⟨go5,0,none⟩) x0_1.length co11) y354:=(by rw [hw,Ny354.out];exact HP14.1);clear HP14;have n0_:=Aside0.mk (hp_);have n1_:=Aside0.mk ((by rw [hw];exact below_set (HB.out) GB5.out : Below w0.heap.size w0 w15));have n2_:=Aside0.mk (Kept.of_grown (S:=(fun k_ => P0_ k_)) hg (by repeat (first|(with_reducible first|exact HK.out|apply Kept.alloc|apply Kept.drewN|apply Kept.drew)|exact HK.out)) (fun k_ e_ => (HO_0.out.1 k_ e_)));clear HO_0;clear HB;clear HK;have HO_0:=n0_;have HB:=n1_;have HK:=n2_;clear n0_ n1_ n2_;clear hg hw hp_;have p7 : 0 ≤ (x5_1 : Int):=of_decide_eq_true (by first|(with_reducible assumption)|assumption);have q7 : (x5_1 : Int) < ((x0_1.length : Int) : Int):=of_decide_eq_true (by first|(with_reducible assumption)|assumption);obtain ⟨ce7,hcl7,hM7,hcc7,hfr7⟩:=Kd.R_elem HO_0.out z50 (x5_1 : Int) p7 q7;obtain rfl:=k50_openM hM7;have hx7_0 : w15.cell? ⟨go5,(x5_1 : Int).toNat * 6,none⟩ = some (.bool ((rd_T50 y354 x5_1).f0)):=hcc7 0 _ rfl;have hx7_1 : w15.cell? ⟨go5,(x5_1 : Int).toNat * 6 + 1,none⟩ = some (.int .i64 ((rd_T50 y354 x5_1).f1)):=hcc7 1 _ rfl;have hx7_2 : w15.cell? ⟨go5,(x5_1 : Int).toNat * 6 + 2,none⟩ = some (.bool ((rd_T50 y354 x5_1).f2)):=hcc7 2 _ rfl;have hx7_3 : w15.cell? ⟨go5,(x5_1 : Int).toNat * 6 + 3,none⟩ = some (.int .i64 ((rd_T50 y354 x5_1).f3)):=hcc7 3 _ rfl;have hx7_4 : w15.cell? ⟨go5,(x5_1 : Int).toNat * 6 + 4,none⟩ = some (.int .i64 ((rd_T50 y354 x5_1).f4)):=hcc7 4 _ rfl;have hx7_5 : w15.cell? ⟨go5,(x5_1 : Int).toNat * 6 + 5,none⟩ = some (.int .i64 ((rd_T50 y354 x5_1).f5)):=hcc7 5 _ rfl;have hf7_0 : w15.frozen? ⟨go5,(x5_1 : Int).toNat * 6,none⟩ = false:=hfr7 0;have hf7_1 : w15.frozen? ⟨go5,(x5_1 : Int).toNat * 6 + 1,none⟩ = false:=hfr7 1;have hf7_2 : w15.frozen? ⟨go5,(x5_1 : Int).toNat * 6 + 2,none⟩ = false:=hfr7 2;have hf7_3 : w15.frozen? ⟨go5,(x5_1 : Int).toNat * 6 + 3,none⟩ = false:=hfr7 3;have hf7_4 : w15.frozen? ⟨go5,(x5_1 : Int).toNat * 6 + 4,none⟩ = false:=hfr7 4;have hf7_5 : w15.frozen? ⟨go5,(x5_1 : Int).toNat * 6 + 5,none⟩ = false:=hfr7 5;clear hcl7 hcc7 hfr7 hM7;replace p7:=eq_true p7;replace q7:=eq_true q7;have HX16:=Aside0.mk (show Kd.R k50 50 w15 w0.heap.size (fun k_ => (P0_ k_ ∨ w.heap.size ≤ k_)) (.slice (some ⟨go5,0,none⟩) x0_1.length co11) y354 from (by (with_reducible repeat (first|apply Kd.R_alloc|apply Kd.R_drewN|apply Kd.R_drew));exact HO_0.out));obtain ⟨ce16,hcl16,hM16,hcc16,hfr16⟩:=Kd.R_elem HX16.out z50 (x5_1 : Int) (of_decide_eq_true (by first|(with_reducible assumption)|assumption)) (by have h_ : (x5_1 : Int) < ((x0_1.length : Int) : Int):=of_decide_eq_true (by first|(with_reducible assumption)|assumption);first|exact h_|(have e_:=(Kd.R_reads' HO_0.out).1;omega)|simpa using h_);obtain rfl:=k50_openM hM16;have HP16:=Kd.R_seg HX16.out (x5_1 : Int) (of_decide_eq_true (by first|(with_reducible assumption)|assumption)) (by have h_ : (x5_1 : Int) < ((x0_1.length : Int) : Int):=of_decide_eq_true (by first|(with_reducible assumption)|assumption);first|exact h_|(have e_:=(Kd.R_reads' HO_0.out).1;omega)|simpa using h_) (seg:=[.bool ((Int.tmod (wrap64 ((wrap64 (x1_1 + 1)) + 1)) 3) == 0)]) (j:=2) hcl16 hcc16 (show 3 ≤ 6 from by decide) (x':=(⟨(rd_T50 y354 x5_1).f0,(rd_T50 y354 x5_1).f1,((Int.tmod (wrap64 ((wrap64 (x1_1 + 1)) + 1)) 3) == 0),(rd_T50 y354 x5_1).f3,(rd_T50 y354 x5_1).f4,(rd_T50 y354 x5_1).f5⟩ : S50)) (k50_mkM _ _ _ (⟨(rd_T50 y354 x5_1).f0,(rd_T50 y354 x5_1).f1,((Int.tmod (wrap64 ((wrap64 (x1_1 + 1)) + 1)) 3) == 0),(rd_T50 y354 x5_1).f3,(rd_T50 y354 x5_1).f4,(rd_T50 y354 x5_1).f5⟩ : S50) ) (fun _ hk => hk);have hx16_2:=hcc16 2 _ rfl;(try simp only [show (k50).sz = 6 from rfl,Nat.mul_one,Nat.add_zero] at hx16_2);have hf16_2:=hfr16 2;(try simp only [show (k50).sz = 6 from rfl,Nat.mul_one,Nat.add_zero] at hf16_2);clear hcl16 hcc16 hfr16 hM16)|((with_reducible refine gate_store (t:=4) (p:=34) rfl ?_);refine store_event (t:=4) (p:=34) (v:=?vo_w17) (w1:=(w15.setCell ⟨go5,(x5_1 : Int).toNat * 6 + 2,none⟩ (.bool ((Int.tmod (wrap64 ((wrap64 (x1_1 + 1)) + 1)) 3) == 0)))) ?hg ?ho ?hn ?hr ?_;(case ho => rfl);(case hg => rfl);(case hn => rfl);(case hr => first|(go_simp;done)|(go_simp;rfl));intro w17 hw;have hg : w15.grownBy w17 (some go5):=(by rw [hw];exact HP16.2);have hp_ : Kd.R k50 50 w17 w0.heap.size (fun k_ => (P0_ k_ ∨ w.heap.size ≤ k_)) (.slice (some ⟨go5,0,none⟩) x0_1.length co11) y355:=(by rw [hw,Ny355.out];exact HP16.1);clear HP16;have n0_:=Aside0.mk (hp_);have n1_:=Aside0.mk ((by rw [hw];exact below_set (HB.out) GB5.out : Below w0.heap.size w0 w17));have n2_:=Aside0.mk (Kept.of_grown (S:=(fun k_ => P0_ k_)) hg (by repeat (first|(with_reducible first|exact HK.out|apply Kept.alloc|apply Kept.drewN|apply Kept.drew)|exact HK.out)) (fun k_ e_ => (HO_0.out.1 k_ e_)));clear HO_0;clear HB;clear HK;have HO_0:=n0_;have HB:=n1_;have HK:=n2_;clear n0_ n1_ n2_;clear hg hw hp_;have p8 : 0 ≤ (x5_1 : Int):=of_decide_eq_true (by first|(with_reducible assumption)|assumption);have q8 : (x5_1 : Int) < ((x0_1.length : Int) : Int):=of_decide_eq_true (by first|(with_reducible assumption)|assumption);obtain ⟨ce8,hcl8,hM8,hcc8,hfr8⟩:=Kd.R_elem HO_0.out z50 (x5_1 : Int) p8 q8;obtain rfl:=k50_openM hM8;have hx8_0 : w17.cell? ⟨go5,(x5_1 : Int).toNat * 6,none⟩ = some (.bool ((rd_T50 y355 x5_1).f0)):=hcc8 0 _ rfl;have hx8_1 : w17.cell? ⟨go5,(x5_1 : Int).toNat * 6 + 1,none⟩ = some (.int .i64 ((rd_T50 y355 x5_1).f1)):=hcc8 1 _ rfl;have hx8_2 : w17.cell? ⟨go5,(x5_1 : Int).toNat * 6 + 2,none⟩ = some (.bool ((rd_T50 y355 x5_1).f2)):=hcc8 2 _ rfl;have hx8_3 : w17.cell? ⟨go5,(x5_1 : Int).toNat * 6 + 3,none⟩ = some (.int .i64 ((rd_T50 y355 x5_1).f3)):=hcc8 3 _ rfl;have hx8_4 : w17.cell? ⟨go5,(x5_1 : Int).toNat * 6 + 4,none⟩ = some (.int .i64 ((rd_T50 y355 x5_1).f4)):=hcc8 4 _ rfl;have hx8_5 : w17.cell? ⟨go5,(x5_1 : Int).toNat * 6 + 5,none⟩ = some (.int .i64 ((rd_T50 y355 x5_1).f5)):=hcc8 5 _ rfl;have hf8_0 : w17.frozen? ⟨go5,(x5_1 : Int).toNat * 6,none⟩ = false:=hfr8 0;have hf8_1 : w17.frozen? ⟨go5,(x5_1 : Int).toNat * 6 + 1,none⟩ = false:=hfr8 1;have hf8_2 : w17.frozen? ⟨go5,(x5_1 : Int).toNat * 6 + 2,none⟩ = false:=hfr8 2;have hf8_3 : w17.frozen? ⟨go5,(x5_1 : Int).toNat * 6 + 3,none⟩ = false:=hfr8 3;have hf8_4 : w17.frozen? ⟨go5,(x5_1 : Int).toNat * 6 + 4,none⟩ = false:=hfr8 4;have hf8_5 : w17.frozen? ⟨go5,(x5_1 : Int).toNat * 6 + 5,none⟩ = false:=hfr8 5;clear hcl8 hcc8 hfr8 hM8;replace p8:=eq_true p8;replace q8:=eq_true q8;have HX18:=Aside0.mk (show Kd.R k50 50 w17 w0.heap.size (fun k_ => (P0_ k_ ∨ w.heap.size ≤ k_)) (.slice (some ⟨go5,0,none⟩) x0_1.length co11) y355 from (by (with_reducible repeat (first|apply Kd.R_alloc|apply Kd.R_drewN|apply Kd.R_drew));exact HO_0.out));obtain ⟨ce18,hcl18,hM18,hcc18,hfr18⟩:=Kd.R_elem HX18.out z50 (x5_1 : Int) (of_decide_eq_true (by first|(with_reducible assumption)|assumption)) (by have h_ : (x5_1 : Int) < ((x0_1.length : Int) : Int):=of_decide_eq_true (by first|(with_reducible assumption)|assumption);first|exact h_|(have e_:=(Kd.R_reads' HO_0.out).1;omega)|simpa using h_);obtain rfl:=k50_openM hM18;have HP18:=Kd.R_seg HX18.out (x5_1 : Int) (of_decide_eq_true (by first|(with_reducible assumption)|assumption)) (by have h_ : (x5_1 : Int) < ((x0_1.length : Int) : Int):=of_decide_eq_true (by first|(with_reducible assumption)|assumption);first|exact h_|(have e_:=(Kd.R_reads' HO_0.out).1;omega)|simpa using h_) (seg:=[.int .i64 (wrap64 ((wrap64 ((wrap64 (x1_1 + 1)) + 1)) + 1))]) (j:=3) hcl18 hcc18 (show 4 ≤ 6 from by decide) (x':=(⟨(rd_T50 y355 x5_1).f0,(rd_T50 y355 x5_1).f1,(rd_T50 y355 x5_1).f2,wrap64 ((wrap64 ((wrap64 (x1_1 + 1)) + 1)) + 1),(rd_T50 y355 x5_1).f4,(rd_T50 y355 x5_1).f5⟩ : S50)) (k50_mkM _ _ _ (⟨(rd_T50 y355 x5_1).f0,(rd_T50 y355 x5_1).f1,(rd_T50 y355 x5_1).f2,wrap64 ((wrap64 ((wrap64 (x1_1 + 1)) + 1)) + 1),(rd_T50 y355 x5_1).f4,(rd_T50 y355 x5_1).f5⟩ : S50) ) (fun _ hk => hk);have hx18_3:=hcc18 3 _ rfl;(try simp only [show (k50).sz = 6 from rfl,Nat.mul_one,Nat.add_zero] at hx18_3);have hf18_3:=hfr18 3;(try simp only [show (k50).sz = 6 from rfl,Nat.mul_one,Nat.add_zero] at hf18_3);clear hcl18 hcc18 hfr18 hM18)|((with_reducible refine gate_store (t:=3) (p:=41) rfl ?_);refine store_event (t:=3) (p:=41) (v:=?vo_w19) (w1:=(w17.setCell ⟨go5,(x5_1 : Int).toNat * 6 + 3,none⟩ (.int .i64 (wrap64 ((wrap64 ((wrap64 (x1_1 + 1)) + 1)) + 1))))) ?hg ?ho ?hn ?hr ?_;(case ho => rfl);(case hg => rfl);(case hn => rfl);(case hr => first|(go_simp;done)|(go_simp;rfl));intro w19 hw;have hg : w17.grownBy w19 (some go5):=(by rw [hw];exact HP18.2);have hp_ : Kd.R k50 50 w19 w0.heap.size (fun k_ => (P0_ k_ ∨ w.heap.size ≤ k_)) (.slice (some ⟨go5,0,none⟩) x0_1.length co11) y356:=(by rw [hw,Ny356.out];exact HP18.1);clear HP18;have n0_:=Aside0.mk (hp_);have n1_:=Aside0.mk ((by rw [hw];exact below_set (HB.out) GB5.out : Below w0.heap.size w0 w19));have n2_:=Aside0.mk (Kept.of_grown (S:=(fun k_ => P0_ k_)) hg (by repeat (first|(with_reducible first|exact HK.out|apply Kept.alloc|apply Kept.drewN|apply Kept.drew)|exact HK.out)) (fun k_ e_ => (HO_0.out.1 k_ e_)));clear HO_0;clear HB;clear HK;have HO_0:=n0_;have HB:=n1_;have HK:=n2_;clear n0_ n1_ n2_;clear hg hw hp_;have p9 : 0 ≤ (x5_1 : Int):=of_decide_eq_true (by first|(with_reducible assumption)|assumption);have q9 : (x5_1 : Int) < ((x0_1.length : Int) : Int):=of_decide_eq_true (by first|(with_reducible assumption)|assumption);obtain ⟨ce9,hcl9,hM9,hcc9,hfr9⟩:=Kd.R_elem HO_0.out z50 (x5_1 : Int) p9 q9;obtain rfl:=k50_openM hM9;have hx9_0 : w19.cell? ⟨go5,(x5_1 : Int).toNat * 6,none⟩ = some (.bool ((rd_T50 y356 x5_1).f0)):=hcc9 0 _ rfl;have hx9_1 : w19.cell? ⟨go5,(x5_1 : Int).toNat * 6 + 1,none⟩ = some (.int .i64 ((rd_T50 y356 x5_1).f1)):=hcc9 1 _ rfl;have hx9_2 : w19.cell? ⟨go5,(x5_1 : Int).toNat * 6 + 2,none⟩ = some (.bool ((rd_T50 y356 x5_1).f2)):=hcc9 2 _ rfl;have hx9_3 : w19.cell? ⟨go5,(x5_1 : Int).toNat * 6 + 3,none⟩ = some (.int .i64 ((rd_T50 y356 x5_1).f3)):=hcc9 3 _ rfl;have hx9_4 : w19.cell? ⟨go5,(x5_1 : Int).toNat * 6 + 4,none⟩ = some (.int .i64 ((rd_T50 y356 x5_1).f4)):=hcc9 4 _ rfl;have hx9_5 : w19.cell? ⟨go5,(x5_1 : Int).toNat * 6 + 5,none⟩ = some (.int .i64 ((rd_T50 y356 x5_1).f5)):=hcc9 5 _ rfl;have hf9_0 : w19.frozen? ⟨go5,(x5_1 : Int).toNat * 6,none⟩ = false:=hfr9 0;have hf9_1 : w19.frozen? ⟨go5,(x5_1 : Int).toNat * 6 + 1,none⟩ = false:=hfr9 1;have hf9_2 : w19.frozen? ⟨go5,(x5_1 : Int).toNat * 6 + 2,none⟩ = false:=hfr9 2;have hf9_3 : w19.frozen? ⟨go5,(x5_1 : Int).toNat * 6 + 3,none⟩ = false:=hfr9 3;have hf9_4 : w19.frozen? ⟨go5,(x5_1 : Int).toNat * 6 + 4,none⟩ = false:=hfr9 4;have hf9_5 : w19.frozen? ⟨go5,(x5_1 : Int).toNat * 6 + 5,none⟩ = false:=hfr9 5;clear hcl9 hcc9 hfr9 hM9;replace p9:=eq_true p9;replace q9:=eq_true q9;have HX20:=Aside0.mk (show Kd.R k50 50 w19 w0.heap.size (fun k_ => (P0_ k_ ∨ w.heap.size ≤ k_)) (.slice (some ⟨go5,0,none⟩) x0_1.length co11) y356 from (by (with_reducible repeat (first|apply Kd.R_alloc|apply Kd.R_drewN|apply Kd.R_drew));exact HO_0.out));obtain ⟨ce20,hcl20,hM20,hcc20,hfr20⟩:=Kd.R_elem HX20.out z50 (x5_1 : Int) (of_decide_eq_true (by first|(with_reducible assumption)|assumption)) (by have h_ : (x5_1 : Int) < ((x0_1.length : Int) : Int):=of_decide_eq_true (by first|(with_reducible assumption)|assumption);first|exact h_|(have e_:=(Kd.R_reads' HO_0.out).1;omega)|simpa using h_);obtain rfl:=k50_openM hM20;have HP20:=Kd.R_seg HX20.out (x5_1 : Int) (of_decide_eq_true (by first|(with_reducible assumption)|assumption)) (by have h_ : (x5_1 : Int) < ((x0_1.length : Int) : Int):=of_decide_eq_true (by first|(with_reducible assumption)|assumption);first|exact h_|(have e_:=(Kd.R_reads' HO_0.out).1;omega)|simpa using h_) (seg:=[.int .i64 (wrap64 ((wrap64 ((wrap64 ((wrap64 (x1_1 + 1)) + 1)) + 1)) + 1))]) (j:=4) hcl20 hcc20 (show 5 ≤ 6 from by decide) (x':=(⟨(rd_T50 y356 x5_1).f0,(rd_T50 y356 x5_1).f1,(rd_T50 y356 x5_1).f2,(rd_T50 y356 x5_1).f3,wrap64 ((wrap64 ((wrap64 ((wrap64 (x1_1 + 1)) + 1)) + 1)) + 1),(rd_T50 y356 x5_1).f5⟩ : S50)) (k50_mkM _ _ _ (⟨(rd_T50 y356 x5_1).f0,(rd_T50 y356 x5_1).f1,(rd_T50 y356 x5_1).f2,(rd_T50 y356 x5_1).f3,wrap64 ((wrap64 ((wrap64 ((wrap64 (x1_1 + 1)) + 1)) + 1)) + 1),(rd_T50 y356 x5_1).f5⟩ : S50) ) (fun _ hk => hk);have hx20_4:=hcc20 4 _ rfl;(try simp only [show (k50).sz = 6 from rfl,Nat.mul_one,Nat.add_zero] at hx20_4);have hf20_4:=hfr20 4;(try simp only [show (k50).sz = 6 from rfl,Nat.mul_one,Nat.add_zero] at hf20_4);clear hcl20 hcc20 hfr20 hM20)|((with_reducible refine gate_store (t:=3) (p:=48) rfl ?_);refine store_event (t:=3) (p:=48) (v:=?vo_w21) (w1:=(w19.setCell ⟨go5,(x5_1 : Int).toNat * 6 + 4,none⟩ (.int .i64 (wrap64 ((wrap64 ((wrap64 ((wrap64 (x1_1 + 1)) + 1)) + 1)) + 1))))) ?hg ?ho ?hn ?hr ?_;(case ho => rfl);(case hg => rfl);(case hn => rfl);(case hr => first|(go_simp;done)|(go_simp;rfl));intro w21 hw;have hg : w19.grownBy w21 (some go5):=(by rw [hw];exact HP20.2);have hp_ : Kd.R k50 50 w21 w0.heap.size (fun k_ => (P0_ k_ ∨ w.heap.size ≤ k_)) (.slice (some ⟨go5,0,none⟩) x0_1.length co11) y357:=(by rw [hw,Ny357.out];exact HP20.1);clear HP20;have n0_:=Aside0.mk (hp_);have n1_:=Aside0.mk ((by rw [hw];exact below_set (HB.out) GB5.out : Below w0.heap.size w0 w21));have n2_:=Aside0.mk (Kept.of_grown (S:=(fun k_ => P0_ k_)) hg (by repeat (first|(with_reducible first|exact HK.out|apply Kept.alloc|apply Kept.drewN|apply Kept.drew)|exact HK.out)) (fun k_ e_ => (HO_0.out.1 k_ e_)));clear HO_0;clear HB;clear HK;have HO_0:=n0_;have HB:=n1_;have HK:=n2_;clear n0_ n1_ n2_;clear hg hw hp_;have p10 : 0 ≤ (x5_1 : Int):=of_decide_eq_true (by first|(with_reducible assumption)|assumption);have q10 : (x5_1 : Int) < ((x0_1.length : Int) : Int):=of_decide_eq_true (by first|(with_reducible assumption)|assumption);obtain ⟨ce10,hcl10,hM10,hcc10,hfr10⟩:=Kd.R_elem HO_0.out z50 (x5_1 : Int) p10 q10;obtain rfl:=k50_openM hM10;have hx10_0 : w21.cell? ⟨go5,(x5_1 : Int).toNat * 6,none⟩ = some (.bool ((rd_T50 y357 x5_1).f0)):=hcc10 0 _ rfl;have hx10_1 : w21.cell? ⟨go5,(x5_1 : Int).toNat * 6 + 1,none⟩ = some (.int .i64 ((rd_T50 y357 x5_1).f1)):=hcc10 1 _ rfl;have hx10_2 : w21.cell? ⟨go5,(x5_1 : Int).toNat * 6 + 2,none⟩ = some (.bool ((rd_T50 y357 x5_1).f2)):=hcc10 2 _ rfl;have hx10_3 : w21.cell? ⟨go5,(x5_1 : Int).toNat * 6 + 3,none⟩ = some (.int .i64 ((rd_T50 y357 x5_1).f3)):=hcc10 3 _ rfl;have hx10_4 : w21.cell? ⟨go5,(x5_1 : Int).toNat * 6 + 4,none⟩ = some (.int .i64 ((rd_T50 y357 x5_1).f4)):=hcc10 4 _ rfl;have hx10_5 : w21.cell? ⟨go5,(x5_1 : Int).toNat * 6 + 5,none⟩ = some (.int .i64 ((rd_T50 y357 x5_1).f5)):=hcc10 5 _ rfl;have hf10_0 : w21.frozen? ⟨go5,(x5_1 : Int).toNat * 6,none⟩ = false:=hfr10 0;have hf10_1 : w21.frozen? ⟨go5,(x5_1 : Int).toNat * 6 + 1,none⟩ = false:=hfr10 1;have hf10_2 : w21.frozen? ⟨go5,(x5_1 : Int).toNat * 6 + 2,none⟩ = false:=hfr10 2;have hf10_3 : w21.frozen? ⟨go5,(x5_1 : Int).toNat * 6 + 3,none⟩ = false:=hfr10 3;have hf10_4 : w21.frozen? ⟨go5,(x5_1 : Int).toNat * 6 + 4,none⟩ = false:=hfr10 4;have hf10_5 : w21.frozen? ⟨go5,(x5_1 : Int).toNat * 6 + 5,none⟩ = false:=hfr10 5;clear hcl10 hcc10 hfr10 hM10;replace p10:=eq_true p10;replace q10:=eq_true q10;have HX22:=Aside0.mk (show Kd.R k50 50 w21 w0.heap.size (fun k_ => (P0_ k_ ∨ w.heap.size ≤ k_)) (.slice (some ⟨go5,0,none⟩) x0_1.length co11) y357 from (by (with_reducible repeat (first|apply Kd.R_alloc|apply Kd.R_drewN|apply Kd.R_drew));exact HO_0.out));obtain ⟨ce22,hcl22,hM22,hcc22,hfr22⟩:=Kd.R_elem HX22.out z50 (x5_1 : Int) (of_decide_eq_true (by first|(with_reducible assumption)|assumption)) (by have h_ : (x5_1 : Int) < ((x0_1.length : Int) : Int):=of_decide_eq_true (by first|(with_reducible assumption)|assumption);first|exact h_|(have e_:=(Kd.R_reads' HO_0.out).1;omega)|simpa using h_);obtain rfl:=k50_openM hM22;have HP22:=Kd.R_seg HX22.out (x5_1 : Int) (of_decide_eq_true (by first|(with_reducible assumption)|assumption)) (by have h_ : (x5_1 : Int) < ((x0_1.length : Int) : Int):=of_decide_eq_true (by first|(with_reducible assumption)|assumption);first|exact h_|(have e_:=(Kd.R_reads' HO_0.out).1;omega)|simpa using h_) (seg:=[.int .i64 (wrap64 ((wrap64 ((wrap64 ((wrap64 ((wrap64 (x1_1 + 1)) + 1)) + 1)) + 1)) + 1))]) (j:=5) hcl22 hcc22 (show 6 ≤ 6 from by decide) (x':=(⟨(rd_T50 y357 x5_1).f0,(rd_T50 y357 x5_1).f1,(rd_T50 y357 x5_1).f2,(rd_T50 y357 x5_1).f3,(rd_T50 y357 x5_1).f4,wrap64 ((wrap64 ((wrap64 ((wrap64 ((wrap64 (x1_1 + 1)) + 1)) + 1)) + 1)) + 1)⟩ : S50)) (k50_mkM _ _ _ (⟨(rd_T50 y357 x5_1).f0,(rd_T50 y357 x5_1).f1,(rd_T50 y357 x5_1).f2,(rd_T50 y357 x5_1).f3,(rd_T50 y357 x5_1).f4,wrap64 ((wrap64 ((wrap64 ((wrap64 ((wrap64 (x1_1 + 1)) + 1)) + 1)) + 1)) + 1)⟩ : S50) ) (fun _ hk => hk);have hx22_5:=hcc22 5 _ rfl;(try simp only [show (k50).sz = 6 from rfl,Nat.mul_one,Nat.add_zero] at hx22_5);have hf22_5:=hfr22 5;(try simp only [show (k50).sz = 6 from rfl,Nat.mul_one,Nat.add_zero] at hf22_5);clear hcl22 hcc22 hfr22 hM22)|((with_reducible refine gate_store (t:=3) (p:=55) rfl ?_);refine store_event (t:=3) (p:=55) (v:=?vo_w23) (w1:=(w21.setCell ⟨go5,(x5_1 : Int).toNat * 6 + 5,none⟩ (.int .i64 (wrap64 ((wrap64 ((wrap64 ((wrap64 ((wrap64 (x1_1 + 1)) + 1)) + 1)) + 1)) + 1))))) ?hg ?ho ?hn ?hr ?_;(case ho => rfl);(case hg => rfl);(case hn => rfl);(case hr => first|(go_simp;done)|(go_simp;rfl));intro w23 hw;have hg : w21.grownBy w23 (some go5):=(by rw [hw];exact HP22.2);have hp_ : Kd.R k50 50 w23 w0.heap.size (fun k_ => (P0_ k_ ∨ w.heap.size ≤ k_)) (.slice (some ⟨go5,0,none⟩) x0_1.length co11) y358:=(by rw [hw,Ny358.out];exact HP22.1);clear HP22;have n0_:=Aside0.mk (hp_);have n1_:=Aside0.mk ((by rw [hw];exact below_set (HB.out) GB5.out : Below w0.heap.size w0 w23));have n2_:=Aside0.mk (Kept.of_grown (S:=(fun k_ => P0_ k_)) hg (by repeat (first|(with_reducible first|exact HK.out|apply Kept.alloc|apply Kept.drewN|apply Kept.drew)|exact HK.out)) (fun k_ e_ => (HO_0.out.1 k_ e_)));clear HO_0;clear HB;clear HK;have HO_0:=n0_;have HB:=n1_;have HK:=n2_;clear n0_ n1_ n2_;clear hg hw hp_))
     go_roundg k1
     case measure => have:=HK1.out;omega
     case rel => exact ⟨(y358),(wrap64 ((wrap64 ((wrap64 ((wrap64 ((wrap64 ((wrap64 (x1_1 + 1)) + 1)) + 1)) + 1)) + 1)) + 1)),(wrap64 (x5_1 + 1)),(by first|rfl|(simp;done)|(simp [*];done)),(by first|rfl|(simp;done)|(simp [*];done)),H',⟨by have:=HK1.out;omega⟩,⟨by (with_reducible repeat (first|apply Kd.R_alloc|apply Kd.R_drewN|apply Kd.R_drew));exact HO_0.out⟩,⟨by repeat (first|(with_reducible first|exact HK.out|apply Kept.alloc|apply Kept.drewN|apply Kept.drew)|exact HK.out)⟩,⟨by repeat (first|(with_reducible first|exact HB.out|apply below_alloc|apply pw_below_drewN|apply below_drew1)|exact HB.out)⟩⟩
    ·
     rw [if_neg c4] at H
     exact absurd H (by simp)
   ·
    rw [if_neg c3] at H
    have c3b0 : decide (x5_1 < (x0_1.length : Int)) = false:=decide_eq_false c3
    clear c3
    simp only [Option.some.injEq,Prod.mk.injEq] at H
    obtain ⟨rfl,rfl⟩:=H
    obtain ⟨Ao24,co24,eo24⟩:=Kd.R_slice HO_0.out
    subst eo24
    go_wp2
    go_ret
    exact ⟨by first|rfl|(simp [errW_none,errW_some] <;> rfl)|(simp [*,errW_none,errW_some] <;> rfl),by (with_reducible repeat (first|apply Kd.R_alloc|apply Kd.R_drewN|apply Kd.R_drew));exact HO_0.out,by repeat (first|(with_reducible first|exact HB.out|apply below_alloc|apply pw_below_drewN|apply below_drew1)|exact HB.out),by repeat (first|(with_reducible first|exact HK.out|apply Kept.alloc|apply Kept.drewN|apply Kept.drew)|exact HK.out)⟩
def laws_markLs.f (k : Nat) (a0_0 : Int) (a0_1 : Int) (a0_2 : Int) (l0_3 : List Int) (a0_4 : Int) (a0_5 : Int) (l0_6 : List (S50)) (a1 : Int) : Option (Int × List Int × (List (S50))):=(laws_markIntS.f k l0_3 a1).bind fun bt360 => ((laws_markLsHostS.f k l0_6 bt360.1).bind fun bt362 => (some (bt362.1,bt360.2,bt362.2)))
set_option maxHeartbeats 8000000 in
set_option maxRecDepth 100000 in
theorem laws_markLs.calls (k : Nat) (a0_0 : Int) (a0_1 : Int) (a0_2 : Int) (P0_3_ : Nat → Prop) (u9000_ : Value) (l0_3 : List Int) (a0_4 : Int) (a0_5 : Int) (P0_6_ : Nat → Prop) (u9001_ : Value) (l0_6 : List (S50)) (a1 : Int) (r1 : Int) (r2 : List Int) (r3 : List (S50)) (w0 w : World) (hB : Below w0.heap.size w0 w) (ho0_3 : Kd.R (Kd.int .i64) 3 w w0.heap.size P0_3_ u9000_ l0_3) (ho0_6 : Kd.R k50 50 w w0.heap.size P0_6_ u9001_ l0_6) (h : laws_markLs.f k a0_0 a0_1 a0_2 l0_3 a0_4 a0_5 l0_6 a1 = some (r1,r2,r3)) :
  Calls Try.prog 26 #[.agg #[.int .i64 a0_0,.int .i64 a0_1,.int .i64 a0_2,u9000_,.int .i64 a0_4,.int .i64 a0_5,u9001_],.int .i64 a1] w fun e w' => e = .returned (.int .i64 r1) ∧ Kd.R (Kd.int .i64) 3 w' w0.heap.size (fun k_ => ((P0_3_ k_ ∨ P0_6_ k_) ∨ w.heap.size ≤ k_)) u9000_ r2 ∧ Kd.R k50 50 w' w0.heap.size (fun k_ => ((P0_3_ k_ ∨ P0_6_ k_) ∨ w.heap.size ≤ k_)) u9001_ r3 ∧ Below w0.heap.size w0 w' ∧ Kept w w' (fun k_ => P0_3_ k_ ∨ P0_6_ k_):=by
 have hu30:=Try.underlying30
 have HO0_3:=Aside0.mk (show Kd.R (Kd.int .i64) 3 w w0.heap.size (fun k_ => ((P0_3_ k_ ∨ P0_6_ k_) ∨ w.heap.size ≤ k_)) u9000_ l0_3 from Kd.R_mono ho0_3 (fun k_ hk => (.inl (.inl hk))))
 have HO0_6:=Aside0.mk (show Kd.R k50 50 w w0.heap.size (fun k_ => ((P0_3_ k_ ∨ P0_6_ k_) ∨ w.heap.size ≤ k_)) u9001_ l0_6 from Kd.R_mono ho0_6 (fun k_ hk => (.inl (.inr hk))))
 have HK:=Aside0.mk (Kept.refl w (fun k_ => P0_3_ k_ ∨ P0_6_ k_))
 have HW0:=Aside0.mk hB.size
 have HB:=Aside0.mk hB
 clear hB
 have H : ((laws_markIntS.f k l0_3 a1).bind fun bt360 => ((laws_markLsHostS.f k l0_6 bt360.1).bind fun bt362 => (some (bt362.1,bt360.2,bt362.2)))) = some (r1,r2,r3):=h
 clear h
 replace H:=Option.bind_eq_some_iff.mp H
 obtain ⟨⟨t360,t361⟩,A30,H⟩:=H
 replace H : ((laws_markLsHostS.f k l0_6 t360).bind fun bt362 => (some (bt362.1,t361,bt362.2))) = some (r1,r2,r3):=H
 have A3:=Aside0.mk A30
 clear A30
 replace H:=Option.bind_eq_some_iff.mp H
 obtain ⟨⟨t362,t363⟩,A40,H⟩:=H
 replace H : (some (t362,t361,t363)) = some (r1,r2,r3):=H
 have A4:=Aside0.mk A40
 clear A40
 simp only [Option.some.injEq,Prod.mk.injEq] at H
 obtain ⟨rfl,rfl,rfl⟩:=H
 obtain ⟨Ao5,co5,eo5⟩:=Kd.R_slice HO0_3.out
 subst eo5
 obtain ⟨Ao6,co6,eo6⟩:=Kd.R_slice HO0_6.out
 subst eo6
 go_enter Try.func26,Try.ntmps26
 go_wp2_with (first|((with_reducible refine gate_dst (N:=2) rfl ?_);refine box_event ?hg (N:=2) ?hd (cs:=#[.int .i64 a0_0,.int .i64 a0_1,.int .i64 a0_2,.slice Ao5 l0_3.length co5,.int .i64 a0_4,.int .i64 a0_5,.slice Ao6 l0_6.length co6]) (t:=30) ?hr ?_;(case hd => rfl);(case hg => rfl);(case hr => first|(go_simp;done)|(go_simp;rfl));intro gb359 hg w7 hbox hb;have n0_:=Aside0.mk (Kd.R_below (by (with_reducible repeat (first|apply Kd.R_alloc|apply Kd.R_drewN|apply Kd.R_drew));exact HO0_3.out) hb);have n1_:=Aside0.mk (Kd.R_below (by (with_reducible repeat (first|apply Kd.R_alloc|apply Kd.R_drewN|apply Kd.R_drew));exact HO0_6.out) hb);have n2_:=Aside0.mk (Kept.below (S:=(fun k_ => P0_3_ k_ ∨ P0_6_ k_)) (by repeat (first|(with_reducible first|exact HK.out|apply Kept.alloc|apply Kept.drewN|apply Kept.drew)|exact HK.out)) hb);have n3_:=Aside0.mk (below_step (by repeat (first|(with_reducible first|exact HB.out|apply below_alloc|apply pw_below_drewN|apply below_drew1)|exact HB.out)) hb);have n4_:=Aside0.mk (hbox);have n5_:=Aside0.mk ((by rw [hg];exact (by first|exact HK.out.1|exact (show Kept w _ (fun k_ => P0_3_ k_ ∨ P0_6_ k_) from by repeat (first|(with_reducible first|exact HK.out|apply Kept.alloc|apply Kept.drewN|apply Kept.drew)|exact HK.out)).1) : w.heap.size ≤ gb359));have n6_:=Aside0.mk ((by rw [hg];exact (below_size (by repeat (first|(with_reducible first|exact HB.out|apply below_alloc|apply pw_below_drewN|apply below_drew1)|exact HB.out))) : w0.heap.size ≤ gb359));clear HO0_3;clear HO0_6;clear HK;clear HB;have HO0_3:=n0_;have HO0_6:=n1_;have HK:=n2_;have HB:=n3_;have BK359:=n4_;have GW359:=n5_;have GE359:=n6_;clear n0_ n1_ n2_ n3_ n4_ n5_ n6_;clear hb hbox hg;have hcz8_0 : w7.cell? ⟨gb359,0,none⟩ = some (.int .i64 a0_0):=(blk_cell BK359.out 0).trans rfl;have hcz8_1 : w7.cell? ⟨gb359,1,none⟩ = some (.int .i64 a0_1):=(blk_cell BK359.out 1).trans rfl;have hcz8_2 : w7.cell? ⟨gb359,2,none⟩ = some (.int .i64 a0_2):=(blk_cell BK359.out 2).trans rfl;have hcz8_3 : w7.cell? ⟨gb359,3,none⟩ = some (.slice Ao5 l0_3.length co5):=(blk_cell BK359.out 3).trans rfl;have hcz8_4 : w7.cell? ⟨gb359,4,none⟩ = some (.int .i64 a0_4):=(blk_cell BK359.out 4).trans rfl;have hcz8_5 : w7.cell? ⟨gb359,5,none⟩ = some (.int .i64 a0_5):=(blk_cell BK359.out 5).trans rfl;have hcz8_6 : w7.cell? ⟨gb359,6,none⟩ = some (.slice Ao6 l0_6.length co6):=(blk_cell BK359.out 6).trans rfl;have hfz8_0:=blk_frozen BK359.out 0;have hfz8_1:=blk_frozen BK359.out 1;have hfz8_2:=blk_frozen BK359.out 2;have hfz8_3:=blk_frozen BK359.out 3;have hfz8_4:=blk_frozen BK359.out 4;have hfz8_5:=blk_frozen BK359.out 5;have hfz8_6:=blk_frozen BK359.out 6)|((with_reducible refine gate_callee (f:=27) rfl ?_);refine goesL_ (some 8) rfl rfl Try.func27 (by kernel_rfl) rfl #[.slice Ao5 l0_3.length co5,.int .i64 a1] rfl (by (try simp only [List.map_toArray,List.map_cons,List.map_nil]);first|done|rfl|(simp only [List.length_drop,List.length_take];rfl)) ?_;(with_reducible refine (laws_markIntS.calls k (fun k_ => some k_ = (.slice Ao5 l0_3.length co5 : Value).ownBlock) (.slice Ao5 l0_3.length co5) l0_3 a1 t360 t361 w0 _ ?side1 ?side2 A3.out).mono ?_);(case side1 => repeat (first|(with_reducible first|exact HB.out|apply below_alloc|apply pw_below_drewN|apply below_drew1|refine below_set ?_ GE359.out)|exact HB.out));(case side2 => exact Kd.R_tight rfl HO0_3.out);rintro e w9 ⟨rfl,hy0,hb,hkp⟩;refine ⟨_,rfl,?_⟩;have n0_:=Aside0.mk (Kd.R_reok rfl hy0 (fun k_ e_ => HO0_3.out.1 k_ e_));have n1_:=Aside0.mk (Kd.R_mono (ok':=fun k_ => ((P0_3_ k_ ∨ P0_6_ k_) ∨ w.heap.size ≤ k_)) (Kd.R_keptB ((Kd.R_apart' HO0_6.out (Kd.R_typed HO0_3.out) (by decide))) hkp (fun k_ hk_ hs_ => (hk_.2) hs_)) (fun k_ hk_ => hk_.1.1));have n2_:=Aside0.mk (blk_kept (by (with_reducible repeat (first|refine blk_drewN ?_ _|refine blk_drew ?_|refine blk_alloc ?_ _));exact BK359.out) hkp (fun hs_ => (fun e_ => (Kd.R_ne HO0_3.out BK359.out (by decide)) e_) hs_));have n3_:=Aside0.mk (Kept.then_ (S:=(fun k_ => P0_3_ k_ ∨ P0_6_ k_)) (by repeat (first|(with_reducible first|exact HK.out|apply Kept.alloc|apply Kept.drewN|apply Kept.drew|refine Kept.setCell ?_ (.inr GW359.out) _)|exact HK.out)) hkp (fun k_ hs_ => (fun e_ => (HO0_3.out.1 k_ e_.symm)) hs_));have n4_:=Aside0.mk (hb);clear HO0_3;clear HO0_6;clear BK359;clear HK;clear HB;have HO0_3:=n0_;have HO0_6:=n1_;have BK359:=n2_;have HK:=n3_;have HB:=n4_;clear n0_ n1_ n2_ n3_ n4_;(try clear hb);(try clear hkp);(try clear hy0);have hcz10_0 : w9.cell? ⟨gb359,0,none⟩ = some (.int .i64 a0_0):=(blk_cell BK359.out 0).trans rfl;have hcz10_1 : w9.cell? ⟨gb359,1,none⟩ = some (.int .i64 a0_1):=(blk_cell BK359.out 1).trans rfl;have hcz10_2 : w9.cell? ⟨gb359,2,none⟩ = some (.int .i64 a0_2):=(blk_cell BK359.out 2).trans rfl;have hcz10_3 : w9.cell? ⟨gb359,3,none⟩ = some (.slice Ao5 l0_3.length co5):=(blk_cell BK359.out 3).trans rfl;have hcz10_4 : w9.cell? ⟨gb359,4,none⟩ = some (.int .i64 a0_4):=(blk_cell BK359.out 4).trans rfl;have hcz10_5 : w9.cell? ⟨gb359,5,none⟩ = some (.int .i64 a0_5):=(blk_cell BK359.out 5).trans rfl;have hcz10_6 : w9.cell? ⟨gb359,6,none⟩ = some (.slice Ao6 l0_6.length co6):=(blk_cell BK359.out 6).trans rfl;have hfz10_0:=blk_frozen BK359.out 0;have hfz10_1:=blk_frozen BK359.out 1;have hfz10_2:=blk_frozen BK359.out 2;have hfz10_3:=blk_frozen BK359.out 3;have hfz10_4:=blk_frozen BK359.out 4;have hfz10_5:=blk_frozen BK359.out 5;have hfz10_6:=blk_frozen BK359.out 6)|((with_reducible refine gate_callee (f:=60) rfl ?_);refine goesL_ (some 12) rfl rfl Try.func60 (by kernel_rfl) rfl #[.slice Ao6 l0_6.length co6,.int .i64 t360] rfl (by (try simp only [List.map_toArray,List.map_cons,List.map_nil]);first|done|rfl|(simp only [List.length_drop,List.length_take];rfl)) ?_;(with_reducible refine (laws_markLsHostS.calls k (fun k_ => some k_ = (.slice Ao6 l0_6.length co6 : Value).ownBlock) (.slice Ao6 l0_6.length co6) l0_6 t360 t362 t363 w0 _ ?side1 ?side2 A4.out).mono ?_);(case side1 => repeat (first|(with_reducible first|exact HB.out|apply below_alloc|apply pw_below_drewN|apply below_drew1|refine below_set ?_ GE359.out)|exact HB.out));(case side2 => exact Kd.R_tight rfl HO0_6.out);rintro e w11 ⟨rfl,hy0,hb,hkp⟩;refine ⟨_,rfl,?_⟩;have n0_:=Aside0.mk (Kd.R_mono (ok':=fun k_ => ((P0_3_ k_ ∨ P0_6_ k_) ∨ w.heap.size ≤ k_)) (Kd.R_keptB ((Kd.R_apart' HO0_3.out (Kd.R_typed HO0_6.out) (by decide))) hkp (fun k_ hk_ hs_ => (hk_.2) hs_)) (fun k_ hk_ => hk_.1.1));have n1_:=Aside0.mk (Kd.R_reok rfl hy0 (fun k_ e_ => HO0_6.out.1 k_ e_));have n2_:=Aside0.mk (blk_kept (by (with_reducible repeat (first|refine blk_drewN ?_ _|refine blk_drew ?_|refine blk_alloc ?_ _));exact BK359.out) hkp (fun hs_ => (fun e_ => (Kd.R_ne HO0_6.out BK359.out (by decide)) e_) hs_));have n3_:=Aside0.mk (Kept.then_ (S:=(fun k_ => P0_3_ k_ ∨ P0_6_ k_)) (by repeat (first|(with_reducible first|exact HK.out|apply Kept.alloc|apply Kept.drewN|apply Kept.drew|refine Kept.setCell ?_ (.inr GW359.out) _)|exact HK.out)) hkp (fun k_ hs_ => (fun e_ => (HO0_6.out.1 k_ e_.symm)) hs_));have n4_:=Aside0.mk (hb);clear HO0_3;clear HO0_6;clear BK359;clear HK;clear HB;have HO0_3:=n0_;have HO0_6:=n1_;have BK359:=n2_;have HK:=n3_;have HB:=n4_;clear n0_ n1_ n2_ n3_ n4_;(try clear hb);(try clear hkp);(try clear hy0)))
 go_ret
 exact ⟨by first|rfl|(simp [errW_none,errW_some] <;> rfl)|(simp [*,errW_none,errW_some] <;> rfl),by (with_reducible repeat (first|apply Kd.R_alloc|apply Kd.R_drewN|apply Kd.R_drew));exact HO0_3.out,by (with_reducible repeat (first|apply Kd.R_alloc|apply Kd.R_drewN|apply Kd.R_drew));exact HO0_6.out,by repeat (first|(with_reducible first|exact HB.out|apply below_alloc|apply pw_below_drewN|apply below_drew1|refine below_set ?_ GE359.out)|exact HB.out),by repeat (first|(with_reducible first|exact HK.out|apply Kept.alloc|apply Kept.drewN|apply Kept.drew|refine Kept.setCell ?_ (.inr GW359.out) _)|exact HK.out)⟩
def laws_heldIntS.l0 : Nat → List Int → Int → Int → Option (Int)
  | 0,_,_,_ => none
  | k + 1,x0,x1,x5 => if x5 < (x0.length : Int) then (if 0 ≤ x5 then (if (rd x0 x5) = x1 then (laws_heldIntS.l0 k x0 (wrap64 (x1 + 1)) (wrap64 (x5 + 1))) else (some (-1))) else (none)) else (some x1)
def laws_heldIntS.f (k : Nat) (l0 : List Int) (a1 : Int) : Option (Int):=laws_heldIntS.l0 k l0 a1 0
set_option maxHeartbeats 8000000 in
set_option maxRecDepth 100000 in
theorem laws_heldIntS.calls (k : Nat) (A0 : Option Addr) (c0 : Nat) (l0 : List Int) (a1 : Int) (r : Int) (w : World) (hr0 : Kd.C (Kd.int .i64) w A0 l0.length l0) (hc0 : l0.length ≤ c0) (h : laws_heldIntS.f k l0 a1 = some r) :
  Calls Try.prog 28 #[.slice A0 l0.length c0,.int .i64 a1] w fun e w' => e = .returned (.int .i64 r) ∧ Drawn0 w w':=by
 have HR0:=Aside0.mk hr0
 have HC0:=Aside0.mk hc0
 clear hr0 hc0
 have H : (laws_heldIntS.l0 k l0 a1 0) = some r:=h
 clear h
 have H':=Aside0.mk H
 clear H
 go_enter Try.func28,Try.ntmps28
 go_wp2
 go_loopg [1,5] k (fun kq v1 v5 w' => ∃ (x1_1 : Int) (x5_1 : Int),v1 = .int .i64 x1_1 ∧ v5 = .int .i64 x5_1 ∧ Aside0 (laws_heldIntS.l0 kq l0 x1_1 x5_1 = some r) ∧ Aside0 (kq ≤ k) ∧ Drawn0 w w')
 case atStart => exact ⟨(a1),(0),(by first|rfl|(simp;done)|(simp [*];done)),(by first|rfl|(simp;done)|(simp [*];done)),H',⟨Nat.le_refl _⟩,by repeat (first|exact Drawn0.refl _|apply Drawn0.step)⟩
 case round =>
  clear H'
  try clear c2
  try clear p2
  obtain ⟨x1_1,x5_1,rfl,rfl,HA,HK1,⟨m1,rfl⟩⟩:=hrel
  cases gk with
  | zero => exact absurd HA.out (by simp [laws_heldIntS.l0])
  | succ k1 =>
   have H:=HA.out
   clear HA
   simp only [laws_heldIntS.l0] at H
   by_cases c3 : x5_1 < (l0.length : Int)
   ·
    rw [if_pos c3] at H
    have c3b0 : decide (x5_1 < (l0.length : Int)) = true:=decide_eq_true c3
    clear c3
    by_cases c4 : 0 ≤ x5_1
    ·
     rw [if_pos c4] at H
     have c4b0 : decide (0 ≤ x5_1) = true:=decide_eq_true c4
     clear c4
     by_cases c5 : (rd l0 x5_1) = x1_1
     ·
      rw [if_pos c5] at H
      have c5b0 : ((rd l0 x5_1) == x1_1) = true:=beq_iff_eq.mpr c5
      have c5b1 : ((rd l0 x5_1) != x1_1) = false:=bne_eq_false_iff_eq.mpr c5
      clear c5
      have H':=Aside0.mk H
      clear H
      have p364 : 0 ≤ (x5_1 : Int):=of_decide_eq_true (by first|(with_reducible assumption)|assumption)
      have q364 : x5_1 < (l0.length : Int):=of_decide_eq_true (by first|(with_reducible assumption)|assumption)
      obtain ⟨ad364,e364,hx364_0⟩:=Kd.at_int HR0.out x5_1 p364 q364
      cases e364
      replace p364:=eq_true p364
      replace q364:=eq_true q364
      go_wp2
      go_roundg k1
      case measure => have:=HK1.out;omega
      case rel => exact ⟨(wrap64 (x1_1 + 1)),(wrap64 (x5_1 + 1)),(by first|rfl|(simp;done)|(simp [*];done)),(by first|rfl|(simp;done)|(simp [*];done)),H',⟨by have:=HK1.out;omega⟩,by repeat (first|exact Drawn0.refl _|apply Drawn0.step)⟩
     ·
      rw [if_neg c5] at H
      have c5b0 : ((rd l0 x5_1) == x1_1) = false:=beq_eq_false_iff_ne.mpr c5
      have c5b1 : ((rd l0 x5_1) != x1_1) = true:=bne_iff_ne.mpr c5
      obtain rfl:=Option.some.inj H
      have p364 : 0 ≤ (x5_1 : Int):=of_decide_eq_true (by first|(with_reducible assumption)|assumption)
      have q364 : x5_1 < (l0.length : Int):=of_decide_eq_true (by first|(with_reducible assumption)|assumption)
      obtain ⟨ad364,e364,hx364_0⟩:=Kd.at_int HR0.out x5_1 p364 q364
      cases e364
      replace p364:=eq_true p364
      replace q364:=eq_true q364
      go_wp2
      go_ret
      exact ⟨by first|rfl|(simp;done)|(simp [*];done),by repeat (first|exact Drawn0.refl _|apply Drawn0.step)⟩
    ·
     rw [if_neg c4] at H
     exact absurd H (by simp)
   ·
    rw [if_neg c3] at H
    have c3b0 : decide (x5_1 < (l0.length : Int)) = false:=decide_eq_false c3
    clear c3
    obtain rfl:=Option.some.inj H
    go_wp2
    go_ret
    exact ⟨by first|rfl|(simp;done)|(simp [*];done),by repeat (first|exact Drawn0.refl _|apply Drawn0.step)⟩
end Go.Proofs.Ytnldanonpdijgaa.P
