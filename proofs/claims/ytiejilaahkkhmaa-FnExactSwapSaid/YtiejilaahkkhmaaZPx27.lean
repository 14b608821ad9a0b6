-- Ours: printed or written for this claim; cut to what the theorem needs.
import Derived.Test.YtiejilaahkkhmaaZPx0
import Derived.Test.YtiejilaahkkhmaaZPx25
import Derived.Test.YtiejilaahkkhmaaZPx26
open Bool renaming true → T, false → F
namespace Go.Proofs.Ytiejilaahkkhmaa.P
open Go.RowKit Go.Proofs.YtiejilaahkkhmaaW.PrintWords Go.Proofs.YtiejilaahkkhmaaW.PrintLast Go.Proofs.YtiejilaahkkhmaaW.PrintMore
attribute [local go_sem] max2_int min2_int max_two min_two max_three min_three max_four min_four
set_option linter.unusedVariables false
set_option linter.unusedSimpArgs false
def laws_heldIntS.l0 : Nat → List Int → Int → Int → Option (Int)
  | 0,_,_,_ => none
  | k + 1,x0,x1,x5 => if x5 < (x0.length : Int) then (if 0 ≤ x5 then (if (rd x0 x5) = x1 then (laws_heldIntS.l0 k x0 (wrap64 (x1 + 1)) (wrap64 (x5 + 1))) else (some (-1))) else (none)) else (some x1)
def laws_heldIntS.f (k : Nat) (l0 : List Int) (a1 : Int) : Option (Int):=laws_heldIntS.l0 k l0 a1 0
set_option maxHeartbeats 8000000 in
set_option maxRecDepth 100000 in
theorem laws_heldIntS.calls (k : Nat) (A0 : Option Addr) (c0 : Nat) (l0 : List Int) (a1 : Int) (r : Int) (w : World) (hr0 : Kd.C (Kd.int .i64) w A0 l0.length l0) (hc0 : l0.length ≤ c0) (h : laws_heldIntS.f k l0 a1 = some r) :
  Calls Try.prog 68 #[.slice A0 l0.length c0,.int .i64 a1] w fun e w' => e = .returned (.int .i64 r) ∧ Drawn0 w w':=by
 have HR0:=Aside0.mk hr0
 have HC0:=Aside0.mk hc0
 clear hr0 hc0
 have H : (laws_heldIntS.l0 k l0 a1 0) = some r:=h
 clear h
 have H':=Aside0.mk H
 clear H
 go_enter Try.func68,Try.ntmps68
 go_wp2
 go_loopg [1,5] k (fun kq v1 v5 w' => ∃ (x1_1 : Int) (x5_1 : Int),v1 = .int .i64 x1_1 ∧ v5 = .int .i64 x5_1 ∧ Aside0 (laws_heldIntS.l0 kq l0 x1_1 x5_1 = some r) ∧ Aside0 (kq ≤ k) ∧ Drawn0 w w')
 case atStart => exact ⟨(a1),(0),(by first|rfl|(simp;done)|(simp [*];done)),(by first|rfl|(simp;done)|(simp [*];done)),H',⟨Nat.le_refl _⟩,by repeat (first|exact Drawn0.refl _|apply Drawn0.step)⟩
 case round =>
  clear H'
  try clear p2
  obtain ⟨x1_1,x5_1,rfl,rfl,HA,HK1,⟨m1,rfl⟩⟩:=hrel
  cases gk with
  | zero => exact absurd HA.out (by simp [laws_heldIntS.l0])
  | succ k1 =>
   have H:=HA.out
   clear HA
   simp only [laws_heldIntS.l0] at H
   by_cases c3 : x5_1 < (l0.length : Int)
   ·
    rw [if_pos c3] at H
    have c3b0 : decide (x5_1 < (l0.length : Int)) = true:=decide_eq_true c3
    clear c3
    by_cases c4 : 0 ≤ x5_1
    ·
     rw [if_pos c4] at H
     have c4b0 : decide (0 ≤ x5_1) = true:=decide_eq_true c4
     clear c4
     by_cases c5 : (rd l0 x5_1) = x1_1
     ·
      rw [if_pos c5] at H
      have c5b0 : ((rd l0 x5_1) == x1_1) = true:=beq_iff_eq.mpr c5
      have c5b1 : ((rd l0 x5_1) != x1_1) = false:=bne_eq_false_iff_eq.mpr c5
      clear c5
      have H':=Aside0.mk H
      clear H
      have p828 : 0 ≤ (x5_1 : Int):=of_decide_eq_true (by first|(with_reducible assumption)|assumption)
      have q828 : x5_1 < (l0.length : Int):=of_decide_eq_true (by first|(with_reducible assumption)|assumption)
      obtain ⟨ad828,e828,hx828_0⟩:=Kd.at_int HR0.out x5_1 p828 q828
      cases e828
      replace p828:=eq_true p828
      replace q828:=eq_true q828
      go_wp2
      go_roundg k1
      case measure => have:=HK1.out;omega
      case rel => exact ⟨(wrap64 (x1_1 + 1)),(wrap64 (x5_1 + 1)),(by first|rfl|(simp;done)|(simp [*];done)),(by first|rfl|(simp;done)|(simp [*];done)),H',⟨by have:=HK1.out;omega⟩,by repeat (first|exact Drawn0.refl _|apply Drawn0.step)⟩
     ·
      rw [if_neg c5] at H
      have c5b0 : ((rd l0 x5_1) == x1_1) = false:=beq_eq_false_iff_ne.mpr c5
      have c5b1 : ((rd l0 x5_1) != x1_1) = true:=bne_iff_ne.mpr c5
      obtain rfl:=Option.some.inj H
      have p828 : 0 ≤ (x5_1 : Int):=of_decide_eq_true (by first|(with_reducible assumption)|assumption)
      have q828 : x5_1 < (l0.length : Int):=of_decide_eq_true (by first|(with_reducible assumption)|assumption)
      obtain ⟨ad828,e828,hx828_0⟩:=Kd.at_int HR0.out x5_1 p828 q828
      cases e828
      replace p828:=eq_true p828
      replace q828:=eq_true q828
      go_wp2
      go_ret
      exact ⟨by first|rfl|(simp;done)|(simp [*];done),by repeat (first|exact Drawn0.refl _|apply Drawn0.step)⟩
    ·
     rw [if_neg c4] at H
     exact absurd H (by simp)
   ·
    rw [if_neg c3] at H
    have c3b0 : decide (x5_1 < (l0.length : Int)) = false:=decide_eq_false c3
    clear c3
    obtain rfl:=Option.some.inj H
    go_wp2
    go_ret
    exact ⟨by first|rfl|(simp;done)|(simp [*];done),by repeat (first|exact Drawn0.refl _|apply Drawn0.step)⟩
def laws_heldWriteS.l0 : Nat → List (S36) → Int → Int → Option (Int)
  | 0,_,_,_ => none
  | k + 1,x0,x1,x5 => if x5 < (x0.length : Int) then (if 0 ≤ x5 then (if ((rd_T36 x0 x5).f0) = x1 then (if ((rd_T36 x0 x5).f1) = (wrap64 (x1 + 1)) then (if ((rd_T36 x0 x5).f2) = (wrap64 ((wrap64 (x1 + 1)) + 1)) then ((laws_markText.f k (wrap64 ((wrap64 ((wrap64 (x1 + 1)) + 1)) + 1))).bind fun t833 => (if ((rd_T36 x0 x5).f3).toList = t833.toList then (laws_heldWriteS.l0 k x0 (wrap64 ((wrap64 ((wrap64 ((wrap64 (x1 + 1)) + 1)) + 1)) + 1)) (wrap64 (x5 + 1))) else (some (-1)))) else (some (-1))) else (some (-1))) else (some (-1))) else (none)) else (some x1)
def laws_heldWriteS.f (k : Nat) (l0 : List (S36)) (a1 : Int) : Option (Int):=laws_heldWriteS.l0 k l0 a1 0
def laws_heldWriteS.T13 : Bool × List (List Nat × List Nat):=(true,[([],[]),([],[]),([0,1],[0,1]),([2],[2]),([3],[3]),([],[]),([5],[5]),([4,6],[4,6])])
def laws_heldWriteS.B13 : List Nat:=[0,0,3,7,15,0,32,127]
theorem laws_heldWriteS.tab13 : rtab .any (opsOf Try.f69 13) = laws_heldWriteS.T13:=by kernel_rfl
theorem laws_heldWriteS.bits13 : waitsOk laws_heldWriteS.T13.2 laws_heldWriteS.B13 = true:=by kernel_rfl
set_option maxHeartbeats 8000000 in
set_option maxRecDepth 100000 in
theorem laws_heldWriteS.calls (k : Nat) (A0 : Option Addr) (c0 : Nat) (l0 : List (S36)) (a1 : Int) (r : Int) (w : World) (hr0 : Kd.C k36 w A0 l0.length l0) (hc0 : l0.length ≤ c0) (h : laws_heldWriteS.f k l0 a1 = some r) :
  Calls Try.prog 69 #[.slice A0 l0.length c0,.int .i64 a1] w fun e w' => e = .returned (.int .i64 r) ∧ Below w.heap.size w w':=by
 have HR0:=Aside0.mk hr0
 have HC0:=Aside0.mk hc0
 clear hr0 hc0
 have HB:=Aside0.mk (Below.refl w.heap.size w)
 have H : (laws_heldWriteS.l0 k l0 a1 0) = some r:=h
 clear h
 have H':=Aside0.mk H
 clear H
 go_enter Try.func69,Try.ntmps69
 go_wp2
 go_loopg [1,5] k (fun kq v1 v5 w' => ∃ (x1_1 : Int) (x5_1 : Int),v1 = .int .i64 x1_1 ∧ v5 = .int .i64 x5_1 ∧ Aside0 (laws_heldWriteS.l0 kq l0 x1_1 x5_1 = some r) ∧ Aside0 (kq ≤ k) ∧ Aside0 (Below w.heap.size w w'))
 case atStart => exact ⟨(a1),(0),(by first|rfl|(simp;done)|(simp [*];done)),(by first|rfl|(simp;done)|(simp [*];done)),H',⟨Nat.le_refl _⟩,⟨by repeat (first|(with_reducible first|exact HB.out|apply below_alloc|apply pw_below_drewN|apply below_drew1)|exact HB.out)⟩⟩
 case round =>
  clear H'
  try clear p2
  obtain ⟨x1_1,x5_1,rfl,rfl,HA,HK1,HB⟩:=hrel
  cases gk with
  | zero => exact absurd HA.out (by simp [laws_heldWriteS.l0])
  | succ k1 =>
   have H:=HA.out
   clear HA
   simp only [laws_heldWriteS.l0] at H
   by_cases c3 : x5_1 < (l0.length : Int)
   ·
    rw [if_pos c3] at H
    have c3b0 : decide (x5_1 < (l0.length : Int)) = true:=decide_eq_true c3
    clear c3
    by_cases c4 : 0 ≤ x5_1
    ·
     rw [if_pos c4] at H
     have c4b0 : decide (0 ≤ x5_1) = true:=decide_eq_true c4
     clear c4
     by_cases c5 : ((rd_T36 l0 x5_1).f0) = x1_1
     ·
      rw [if_pos c5] at H
      have c5b0 : (((rd_T36 l0 x5_1).f0) == x1_1) = true:=beq_iff_eq.mpr c5
      have c5b1 : (((rd_T36 l0 x5_1).f0) != x1_1) = false:=bne_eq_false_iff_eq.mpr c5
      clear c5
      by_cases c6 : ((rd_T36 l0 x5_1).f1) = (wrap64 (x1_1 + 1))
      ·
       rw [if_pos c6] at H
       have c6b0 : (((rd_T36 l0 x5_1).f1) == (wrap64 (x1_1 + 1))) = true:=beq_iff_eq.mpr c6
       have c6b1 : (((rd_T36 l0 x5_1).f1) != (wrap64 (x1_1 + 1))) = false:=bne_eq_false_iff_eq.mpr c6
       clear c6
       by_cases c7 : ((rd_T36 l0 x5_1).f2) = (wrap64 ((wrap64 (x1_1 + 1)) + 1))
       ·
        rw [if_pos c7] at H
        have c7b0 : (((rd_T36 l0 x5_1).f2) == (wrap64 ((wrap64 (x1_1 + 1)) + 1))) = true:=beq_iff_eq.mpr c7
        have c7b1 : (((rd_T36 l0 x5_1).f2) != (wrap64 ((wrap64 (x1_1 + 1)) + 1))) = false:=bne_eq_false_iff_eq.mpr c7
        clear c7
        replace H:=Option.bind_eq_some_iff.mp H
        obtain ⟨t833,A80,H⟩:=H
        replace H : (if ((rd_T36 l0 x5_1).f3).toList = t833.toList then (laws_heldWriteS.l0 k1 l0 (wrap64 ((wrap64 ((wrap64 ((wrap64 (x1_1 + 1)) + 1)) + 1)) + 1)) (wrap64 (x5_1 + 1))) else (some (-1))) = some r:=H
        have A8:=Aside0.mk A80
        clear A80
        by_cases c9 : ((rd_T36 l0 x5_1).f3).toList = t833.toList
        ·
         rw [if_pos c9] at H
         have c9b0 : (((rd_T36 l0 x5_1).f3).toList == t833.toList) = true:=beq_iff_eq.mpr c9
         have c9b1 : (((rd_T36 l0 x5_1).f3).toList != t833.toList) = false:=bne_eq_false_iff_eq.mpr c9
         clear c9
         have H':=Aside0.mk H
         clear H
         have p829 : 0 ≤ (x5_1 : Int):=of_decide_eq_true (by first|(with_reducible assumption)|assumption)
         have q829 : x5_1 < (l0.length : Int):=of_decide_eq_true (by first|(with_reducible assumption)|assumption)
         obtain ⟨ad829,e829,hx829_0,hx829_1,hx829_2,hx829_3⟩:=at_T36 HR0.out x5_1 p829 q829
         cases e829
         replace hx829_0:=(HB.out.cell (World.block_lt_of_cell? w _ hx829_0)).trans hx829_0
         replace hx829_1:=(HB.out.cell (World.block_lt_of_cell? w _ hx829_1)).trans hx829_1
         replace hx829_2:=(HB.out.cell (World.block_lt_of_cell? w _ hx829_2)).trans hx829_2
         replace hx829_3:=(HB.out.cell (World.block_lt_of_cell? w _ hx829_3)).trans hx829_3
         replace p829:=eq_true p829
         replace q829:=eq_true q829
         have p830 : 0 ≤ (x5_1 : Int):=of_decide_eq_true (by first|(with_reducible assumption)|assumption)
         have q830 : x5_1 < (l0.length : Int):=of_decide_eq_true (by first|(with_reducible assumption)|assumption)
         obtain ⟨ad830,e830,hx830_0,hx830_1,hx830_2,hx830_3⟩:=at_T36 HR0.out x5_1 p830 q830
         obtain rfl : ad829 = ad830:=(by injection e830)
         replace hx830_0:=(HB.out.cell (World.block_lt_of_cell? w _ hx830_0)).trans hx830_0
         replace hx830_1:=(HB.out.cell (World.block_lt_of_cell? w _ hx830_1)).trans hx830_1
         replace hx830_2:=(HB.out.cell (World.block_lt_of_cell? w _ hx830_2)).trans hx830_2
         replace hx830_3:=(HB.out.cell (World.block_lt_of_cell? w _ hx830_3)).trans hx830_3
         replace p830:=eq_true p830
         replace q830:=eq_true q830
         have p831 : 0 ≤ (x5_1 : Int):=of_decide_eq_true (by first|(with_reducible assumption)|assumption)
         have q831 : x5_1 < (l0.length : Int):=of_decide_eq_true (by first|(with_reducible assumption)|assumption)
         obtain ⟨ad831,e831,hx831_0,hx831_1,hx831_2,hx831_3⟩:=at_T36 HR0.out x5_1 p831 q831
         obtain rfl : ad829 = ad831:=(by injection e831)
         replace hx831_0:=(HB.out.cell (World.block_lt_of_cell? w _ hx831_0)).trans hx831_0
         replace hx831_1:=(HB.out.cell (World.block_lt_of_cell? w _ hx831_1)).trans hx831_1
         replace hx831_2:=(HB.out.cell (World.block_lt_of_cell? w _ hx831_2)).trans hx831_2
         replace hx831_3:=(HB.out.cell (World.block_lt_of_cell? w _ hx831_3)).trans hx831_3
         replace p831:=eq_true p831
         replace q831:=eq_true q831
         try go_wp2
         have n0_:=Aside0.mk (below_drew1 HB.out)
         clear HB
         have HB:=n0_
         clear n0_
         have p832 : 0 ≤ (x5_1 : Int):=of_decide_eq_true (by first|(with_reducible assumption)|assumption)
         have q832 : x5_1 < (l0.length : Int):=of_decide_eq_true (by first|(with_reducible assumption)|assumption)
         obtain ⟨ad832,e832,hx832_0,hx832_1,hx832_2,hx832_3⟩:=at_T36 HR0.out x5_1 p832 q832
         have hw832_3:=hx832_3
         have hw832_2:=hx832_2
         have hw832_1:=hx832_1
         have hw832_0:=hx832_0
         obtain rfl : ad829 = ad832:=(by injection e832)
         replace hx832_0:=(HB.out.cell (World.block_lt_of_cell? w _ hx832_0)).trans hx832_0
         replace hx832_1:=(HB.out.cell (World.block_lt_of_cell? w _ hx832_1)).trans hx832_1
         replace hx832_2:=(HB.out.cell (World.block_lt_of_cell? w _ hx832_2)).trans hx832_2
         replace hx832_3:=(HB.out.cell (World.block_lt_of_cell? w _ hx832_3)).trans hx832_3
         replace p832:=eq_true p832
         replace q832:=eq_true q832
         refine start_ (n:=8) (S:=fun w' => w'.cell? (ad829.add ((x5_1).toNat * 4)) = some (.int .i64 ((rd_T36 l0 x5_1).f0)) ∧ w'.cell? ⟨(ad829.add ((x5_1).toNat * 4)).block,(ad829.add ((x5_1).toNat * 4)).off + 1,none⟩ = some (.int .i64 ((rd_T36 l0 x5_1).f1)) ∧ w'.cell? ⟨(ad829.add ((x5_1).toNat * 4)).block,(ad829.add ((x5_1).toNat * 4)).off + 2,none⟩ = some (.int .i64 ((rd_T36 l0 x5_1).f2)) ∧ w'.cell? ⟨(ad829.add ((x5_1).toNat * 4)).block,(ad829.add ((x5_1).toNat * 4)).off + 3,none⟩ = some (.string ((rd_T36 l0 x5_1).f3))) (ds:=[]) #[F,F,F,F,F,F,F,F] (by kernel_rfl) rfl rfl ⟨((HB.out.cell (World.block_lt_of_cell? w _ hw832_0)).trans hw832_0),((HB.out.cell (World.block_lt_of_cell? w _ hw832_1)).trans hw832_1),((HB.out.cell (World.block_lt_of_cell? w _ hw832_2)).trans hw832_2),((HB.out.cell (World.block_lt_of_cell? w _ hw832_3)).trans hw832_3)⟩ (fun hHeld => ?_);refine with_tabW laws_heldWriteS.tab13 laws_heldWriteS.bits13 (fun HT_ HW_ => ?_)
         generalize wr.drew = w10 at HB hx832_0 hx832_1 hx832_2 hx832_3 hHeld ⊢
         refine pure_ (i:=0) (N:=some 39) (v:=?_) (a':=?_) #[T,F,F,F,F,F,F,F] rfl rfl (any_of HT_.out (by kernel_rfl)) (fun _ _ _ h => h) (Or.inl ⟨by rfl,?_⟩) ?_ ?_
         rotate_left
         ·
          intro w'
          go_simp
          with_reducible rfl
         rotate_left
         ·
          simp only [Act.put,List.setIfInBounds_toArray,List.set_cons_zero,List.set_cons_succ,i64_w,i32_w]
          rfl
         refine pure_ (i:=1) (N:=some 40) (v:=?_) (a':=?_) #[T,T,F,F,F,F,F,F] rfl rfl (any_of HT_.out (by kernel_rfl)) (fun _ _ _ h => h) (Or.inl ⟨by rfl,?_⟩) ?_ ?_
         rotate_left
         ·
          intro w'
          go_simp
          with_reducible rfl
         rotate_left
         ·
          simp only [Act.put,List.setIfInBounds_toArray,List.set_cons_zero,List.set_cons_succ,i64_w,i32_w]
          rfl
         refine pure_ (i:=2) (N:=some 41) (v:=?_) (a':=?_) #[T,T,T,F,F,F,F,F] rfl rfl (any_of HT_.out (by kernel_rfl)) (fun _ _ _ h => h) (Or.inl ⟨by rfl,?_⟩) ?_ ?_
         rotate_left
         ·
          intro w'
          go_simp
          with_reducible rfl
         rotate_left
         ·
          simp only [Act.put,List.setIfInBounds_toArray,List.set_cons_zero,List.set_cons_succ,i64_w,i32_w]
          rfl
         refine pure_ (i:=3) (N:=some 42) (v:=?_) (a':=?_) #[T,T,T,T,F,F,F,F] rfl rfl (any_of HT_.out (by kernel_rfl)) (fun _ _ _ h => h) (Or.inl ⟨by rfl,?_⟩) ?_ ?_
         rotate_left
         ·
          intro w'
          go_simp
          with_reducible rfl
         rotate_left
         ·
          simp only [Act.put,List.setIfInBounds_toArray,List.set_cons_zero,List.set_cons_succ,i64_w,i32_w]
          rfl
         refine pure_ (i:=5) (N:=some 44) (v:=?_) (a':=?_) #[T,T,T,T,F,T,F,F] rfl rfl (any_of HT_.out (by kernel_rfl)) (fun _ _ _ h => h) (Or.inl ⟨by rfl,?_⟩) ?_ ?_
         rotate_left
         ·
          intro w'
          go_simp
          with_reducible rfl
         rotate_left
         ·
          simp only [Act.put,List.setIfInBounds_toArray,List.set_cons_zero,List.set_cons_succ,i64_w,i32_w]
          rfl
         refine take_ (i:=4) (N:=some 43) (v:=?_) (a':=?_) #[T,T,T,T,T,T,F,F] rfl rfl (take_ofW HT_.out HW_.out (by kernel_rfl)) (fun _ _ _ h => h) (Or.inl ⟨by rfl,?_⟩) hHeld ?_ ?_
         rotate_left
         ·
          rintro w' ⟨s0,s1,s2,s3⟩
          go_simp
          with_reducible rfl
         rotate_left
         ·
          simp only [Act.put,List.setIfInBounds_toArray,List.set_cons_zero,List.set_cons_succ,i64_w,i32_w]
          rfl
         refine one_ (i:=6) (N:=some 45) #[T,T,T,T,T,T,T,F] rfl rfl (one_of HT_.out (by kernel_rfl)) (by decide) (fun K hK => ?_)
         refine goes_ Try.func97 (by kernel_rfl) rfl #[.int .i64 (wrap64 ((wrap64 ((wrap64 (x1_1 + 1)) + 1)) + 1))] (by rfl) rfl rfl (by (try simp only [List.map_toArray,List.map_cons,List.map_nil]);first|done|rfl|(simp only [List.length_drop,List.length_take];rfl)) ?_
         with_reducible refine (laws_markText.calls k1 (wrap64 ((wrap64 ((wrap64 (x1_1 + 1)) + 1)) + 1)) t833 _ A8.out).mono ?_
         rintro e w11 ⟨rfl,hb⟩
         refine ⟨_,rfl,?_⟩
         have n0_:=Aside0.mk (below_step (by repeat (first|(with_reducible first|exact HB.out|apply below_alloc|apply pw_below_drewN|apply below_drew1)|exact HB.out)) hb)
         clear HB
         have HB:=n0_
         clear n0_
         (try clear hb)
         (try clear hb2)
         (try clear hk)
         (try clear hi)
         refine hK.out _ _ ⟨((HB.out.cell (World.block_lt_of_cell? w _ hw832_0)).trans hw832_0),((HB.out.cell (World.block_lt_of_cell? w _ hw832_1)).trans hw832_1),((HB.out.cell (World.block_lt_of_cell? w _ hw832_2)).trans hw832_2),((HB.out.cell (World.block_lt_of_cell? w _ hw832_3)).trans hw832_3)⟩ (fun hHeld => ?_)
         clear hK K
         refine norm_ (a':=?_) ?_ ?_
         rotate_left
         ·
          show Act.put _ (some 45) _ = _
          simp only [Act.put,List.setIfInBounds_toArray,List.set_cons_zero,List.set_cons_succ,i64_w,i32_w]
          rfl
         refine pure_ (i:=7) (N:=some 46) (v:=?_) (a':=?_) #[T,T,T,T,T,T,T,T] rfl rfl (any_of HT_.out (by kernel_rfl)) (fun _ _ _ h => h) (Or.inl ⟨by rfl,?_⟩) ?_ ?_
         rotate_left
         ·
          intro w'
          go_simp
          with_reducible rfl
         rotate_left
         ·
          simp only [Act.put,List.setIfInBounds_toArray,List.set_cons_zero,List.set_cons_succ,i64_w,i32_w]
          rfl
         refine done_ (done_of HT_.out (by kernel_rfl)) ?_
         try go_wp2
         go_roundg k1
         case measure => have:=HK1.out;omega
         case rel => exact ⟨(wrap64 ((wrap64 ((wrap64 ((wrap64 (x1_1 + 1)) + 1)) + 1)) + 1)),(wrap64 (x5_1 + 1)),(by first|rfl|(simp;done)|(simp [*];done)),(by first|rfl|(simp;done)|(simp [*];done)),H',⟨by have:=HK1.out;omega⟩,⟨by repeat (first|(with_reducible first|exact HB.out|apply below_alloc|apply pw_below_drewN|apply below_drew1)|exact HB.out)⟩⟩
        ·
         rw [if_neg c9] at H
         have c9b0 : (((rd_T36 l0 x5_1).f3).toList == t833.toList) = false:=beq_eq_false_iff_ne.mpr c9
         have c9b1 : (((rd_T36 l0 x5_1).f3).toList != t833.toList) = true:=bne_iff_ne.mpr c9
         obtain rfl:=Option.some.inj H
         have p829 : 0 ≤ (x5_1 : Int):=of_decide_eq_true (by first|(with_reducible assumption)|assumption)
         have q829 : x5_1 < (l0.length : Int):=of_decide_eq_true (by first|(with_reducible assumption)|assumption)
         obtain ⟨ad829,e829,hx829_0,hx829_1,hx829_2,hx829_3⟩:=at_T36 HR0.out x5_1 p829 q829
         cases e829
         replace hx829_0:=(HB.out.cell (World.block_lt_of_cell? w _ hx829_0)).trans hx829_0
         replace hx829_1:=(HB.out.cell (World.block_lt_of_cell? w _ hx829_1)).trans hx829_1
         replace hx829_2:=(HB.out.cell (World.block_lt_of_cell? w _ hx829_2)).trans hx829_2
         replace hx829_3:=(HB.out.cell (World.block_lt_of_cell? w _ hx829_3)).trans hx829_3
         replace p829:=eq_true p829
         replace q829:=eq_true q829
         have p830 : 0 ≤ (x5_1 : Int):=of_decide_eq_true (by first|(with_reducible assumption)|assumption)
         have q830 : x5_1 < (l0.length : Int):=of_decide_eq_true (by first|(with_reducible assumption)|assumption)
         obtain ⟨ad830,e830,hx830_0,hx830_1,hx830_2,hx830_3⟩:=at_T36 HR0.out x5_1 p830 q830
         obtain rfl : ad829 = ad830:=(by injection e830)
         replace hx830_0:=(HB.out.cell (World.block_lt_of_cell? w _ hx830_0)).trans hx830_0
         replace hx830_1:=(HB.out.cell (World.block_lt_of_cell? w _ hx830_1)).trans hx830_1
         replace hx830_2:=(HB.out.cell (World.block_lt_of_cell? w _ hx830_2)).trans hx830_2
         replace hx830_3:=(HB.out.cell (World.block_lt_of_cell? w _ hx830_3)).trans hx830_3
         replace p830:=eq_true p830
         replace q830:=eq_true q830
         have p831 : 0 ≤ (x5_1 : Int):=of_decide_eq_true (by first|(with_reducible assumption)|assumption)
         have q831 : x5_1 < (l0.length : Int):=of_decide_eq_true (by first|(with_reducible assumption)|assumption)
         obtain ⟨ad831,e831,hx831_0,hx831_1,hx831_2,hx831_3⟩:=at_T36 HR0.out x5_1 p831 q831
         obtain rfl : ad829 = ad831:=(by injection e831)
         replace hx831_0:=(HB.out.cell (World.block_lt_of_cell? w _ hx831_0)).trans hx831_0
         replace hx831_1:=(HB.out.cell (World.block_lt_of_cell? w _ hx831_1)).trans hx831_1
         replace hx831_2:=(HB.out.cell (World.block_lt_of_cell? w _ hx831_2)).trans hx831_2
         replace hx831_3:=(HB.out.cell (World.block_lt_of_cell? w _ hx831_3)).trans hx831_3
         replace p831:=eq_true p831
         replace q831:=eq_true q831
         try go_wp2
         have n0_:=Aside0.mk (below_drew1 HB.out)
         clear HB
         have HB:=n0_
         clear n0_
         have p832 : 0 ≤ (x5_1 : Int):=of_decide_eq_true (by first|(with_reducible assumption)|assumption)
         have q832 : x5_1 < (l0.length : Int):=of_decide_eq_true (by first|(with_reducible assumption)|assumption)
         obtain ⟨ad832,e832,hx832_0,hx832_1,hx832_2,hx832_3⟩:=at_T36 HR0.out x5_1 p832 q832
         have hw832_3:=hx832_3
         have hw832_2:=hx832_2
         have hw832_1:=hx832_1
         have hw832_0:=hx832_0
         obtain rfl : ad829 = ad832:=(by injection e832)
         replace hx832_0:=(HB.out.cell (World.block_lt_of_cell? w _ hx832_0)).trans hx832_0
         replace hx832_1:=(HB.out.cell (World.block_lt_of_cell? w _ hx832_1)).trans hx832_1
         replace hx832_2:=(HB.out.cell (World.block_lt_of_cell? w _ hx832_2)).trans hx832_2
         replace hx832_3:=(HB.out.cell (World.block_lt_of_cell? w _ hx832_3)).trans hx832_3
         replace p832:=eq_true p832
         replace q832:=eq_true q832
         refine start_ (n:=8) (S:=fun w' => w'.cell? (ad829.add ((x5_1).toNat * 4)) = some (.int .i64 ((rd_T36 l0 x5_1).f0)) ∧ w'.cell? ⟨(ad829.add ((x5_1).toNat * 4)).block,(ad829.add ((x5_1).toNat * 4)).off + 1,none⟩ = some (.int .i64 ((rd_T36 l0 x5_1).f1)) ∧ w'.cell? ⟨(ad829.add ((x5_1).toNat * 4)).block,(ad829.add ((x5_1).toNat * 4)).off + 2,none⟩ = some (.int .i64 ((rd_T36 l0 x5_1).f2)) ∧ w'.cell? ⟨(ad829.add ((x5_1).toNat * 4)).block,(ad829.add ((x5_1).toNat * 4)).off + 3,none⟩ = some (.string ((rd_T36 l0 x5_1).f3))) (ds:=[]) #[F,F,F,F,F,F,F,F] (by kernel_rfl) rfl rfl ⟨((HB.out.cell (World.block_lt_of_cell? w _ hw832_0)).trans hw832_0),((HB.out.cell (World.block_lt_of_cell? w _ hw832_1)).trans hw832_1),((HB.out.cell (World.block_lt_of_cell? w _ hw832_2)).trans hw832_2),((HB.out.cell (World.block_lt_of_cell? w _ hw832_3)).trans hw832_3)⟩ (fun hHeld => ?_);refine with_tabW laws_heldWriteS.tab13 laws_heldWriteS.bits13 (fun HT_ HW_ => ?_)
         generalize wr.drew = w12 at HB hx832_0 hx832_1 hx832_2 hx832_3 hHeld ⊢
         refine pure_ (i:=0) (N:=some 39) (v:=?_) (a':=?_) #[T,F,F,F,F,F,F,F] rfl rfl (any_of HT_.out (by kernel_rfl)) (fun _ _ _ h => h) (Or.inl ⟨by rfl,?_⟩) ?_ ?_
         rotate_left
         ·
          intro w'
          go_simp
          with_reducible rfl
         rotate_left
         ·
          simp only [Act.put,List.setIfInBounds_toArray,List.set_cons_zero,List.set_cons_succ,i64_w,i32_w]
          rfl
         refine pure_ (i:=1) (N:=some 40) (v:=?_) (a':=?_) #[T,T,F,F,F,F,F,F] rfl rfl (any_of HT_.out (by kernel_rfl)) (fun _ _ _ h => h) (Or.inl ⟨by rfl,?_⟩) ?_ ?_
         rotate_left
         ·
          intro w'
          go_simp
          with_reducible rfl
         rotate_left
         ·
          simp only [Act.put,List.setIfInBounds_toArray,List.set_cons_zero,List.set_cons_succ,i64_w,i32_w]
          rfl
         refine pure_ (i:=2) (N:=some 41) (v:=?_) (a':=?_) #[T,T,T,F,F,F,F,F] rfl rfl (any_of HT_.out (by kernel_rfl)) (fun _ _ _ h => h) (Or.inl ⟨by rfl,?_⟩) ?_ ?_
         rotate_left
         ·
          intro w'
          go_simp
          with_reducible rfl
         rotate_left
         ·
          simp only [Act.put,List.setIfInBounds_toArray,List.set_cons_zero,List.set_cons_succ,i64_w,i32_w]
          rfl
         refine pure_ (i:=3) (N:=some 42) (v:=?_) (a':=?_) #[T,T,T,T,F,F,F,F] rfl rfl (any_of HT_.out (by kernel_rfl)) (fun _ _ _ h => h) (Or.inl ⟨by rfl,?_⟩) ?_ ?_
         rotate_left
         ·
          intro w'
          go_simp
          with_reducible rfl
         rotate_left
         ·
          simp only [Act.put,List.setIfInBounds_toArray,List.set_cons_zero,List.set_cons_succ,i64_w,i32_w]
          rfl
         refine pure_ (i:=5) (N:=some 44) (v:=?_) (a':=?_) #[T,T,T,T,F,T,F,F] rfl rfl (any_of HT_.out (by kernel_rfl)) (fun _ _ _ h => h) (Or.inl ⟨by rfl,?_⟩) ?_ ?_
         rotate_left
         ·
          intro w'
          go_simp
          with_reducible rfl
         rotate_left
         ·
          simp only [Act.put,List.setIfInBounds_toArray,List.set_cons_zero,List.set_cons_succ,i64_w,i32_w]
          rfl
         refine take_ (i:=4) (N:=some 43) (v:=?_) (a':=?_) #[T,T,T,T,T,T,F,F] rfl rfl (take_ofW HT_.out HW_.out (by kernel_rfl)) (fun _ _ _ h => h) (Or.inl ⟨by rfl,?_⟩) hHeld ?_ ?_
         rotate_left
         ·
          rintro w' ⟨s0,s1,s2,s3⟩
          go_simp
          with_reducible rfl
         rotate_left
         ·
          simp only [Act.put,List.setIfInBounds_toArray,List.set_cons_zero,List.set_cons_succ,i64_w,i32_w]
          rfl
         refine one_ (i:=6) (N:=some 45) #[T,T,T,T,T,T,T,F] rfl rfl (one_of HT_.out (by kernel_rfl)) (by decide) (fun K hK => ?_)
         refine goes_ Try.func97 (by kernel_rfl) rfl #[.int .i64 (wrap64 ((wrap64 ((wrap64 (x1_1 + 1)) + 1)) + 1))] (by rfl) rfl rfl (by (try simp only [List.map_toArray,List.map_cons,List.map_nil]);first|done|rfl|(simp only [List.length_drop,List.length_take];rfl)) ?_
         with_reducible refine (laws_markText.calls k1 (wrap64 ((wrap64 ((wrap64 (x1_1 + 1)) + 1)) + 1)) t833 _ A8.out).mono ?_
         rintro e w13 ⟨rfl,hb⟩
         refine ⟨_,rfl,?_⟩
         have n0_:=Aside0.mk (below_step (by repeat (first|(with_reducible first|exact HB.out|apply below_alloc|apply pw_below_drewN|apply below_drew1)|exact HB.out)) hb)
         clear HB
         have HB:=n0_
         clear n0_
         (try clear hb)
         (try clear hb2)
         (try clear hk)
         (try clear hi)
         refine hK.out _ _ ⟨((HB.out.cell (World.block_lt_of_cell? w _ hw832_0)).trans hw832_0),((HB.out.cell (World.block_lt_of_cell? w _ hw832_1)).trans hw832_1),((HB.out.cell (World.block_lt_of_cell? w _ hw832_2)).trans hw832_2),((HB.out.cell (World.block_lt_of_cell? w _ hw832_3)).trans hw832_3)⟩ (fun hHeld => ?_)
         clear hK K
         refine norm_ (a':=?_) ?_ ?_
         rotate_left
         ·
          show Act.put _ (some 45) _ = _
          simp only [Act.put,List.setIfInBounds_toArray,List.set_cons_zero,List.set_cons_succ,i64_w,i32_w]
          rfl
         refine pure_ (i:=7) (N:=some 46) (v:=?_) (a':=?_) #[T,T,T,T,T,T,T,T] rfl rfl (any_of HT_.out (by kernel_rfl)) (fun _ _ _ h => h) (Or.inl ⟨by rfl,?_⟩) ?_ ?_
         rotate_left
         ·
          intro w'
          go_simp
          with_reducible rfl
         rotate_left
         ·
          simp only [Act.put,List.setIfInBounds_toArray,List.set_cons_zero,List.set_cons_succ,i64_w,i32_w]
          rfl
         refine done_ (done_of HT_.out (by kernel_rfl)) ?_
         try go_wp2
         go_ret
         exact ⟨by first|rfl|(simp [errW_none,errW_some] <;> rfl)|(simp [*,errW_none,errW_some] <;> rfl),by repeat (first|(with_reducible first|exact HB.out|apply below_alloc|apply pw_below_drewN|apply below_drew1)|exact HB.out)⟩
       ·
        rw [if_neg c7] at H
        have c7b0 : (((rd_T36 l0 x5_1).f2) == (wrap64 ((wrap64 (x1_1 + 1)) + 1))) = false:=beq_eq_false_iff_ne.mpr c7
        have c7b1 : (((rd_T36 l0 x5_1).f2) != (wrap64 ((wrap64 (x1_1 + 1)) + 1))) = true:=bne_iff_ne.mpr c7
        obtain rfl:=Option.some.inj H
        have p829 : 0 ≤ (x5_1 : Int):=of_decide_eq_true (by first|(with_reducible assumption)|assumption)
        have q829 : x5_1 < (l0.length : Int):=of_decide_eq_true (by first|(with_reducible assumption)|assumption)
        obtain ⟨ad829,e829,hx829_0,hx829_1,hx829_2,hx829_3⟩:=at_T36 HR0.out x5_1 p829 q829
        cases e829
        replace hx829_0:=(HB.out.cell (World.block_lt_of_cell? w _ hx829_0)).trans hx829_0
        replace hx829_1:=(HB.out.cell (World.block_lt_of_cell? w _ hx829_1)).trans hx829_1
        replace hx829_2:=(HB.out.cell (World.block_lt_of_cell? w _ hx829_2)).trans hx829_2
        replace hx829_3:=(HB.out.cell (World.block_lt_of_cell? w _ hx829_3)).trans hx829_3
        replace p829:=eq_true p829
        replace q829:=eq_true q829
        have p830 : 0 ≤ (x5_1 : Int):=of_decide_eq_true (by first|(with_reducible assumption)|assumption)
        have q830 : x5_1 < (l0.length : Int):=of_decide_eq_true (by first|(with_reducible assumption)|assumption)
        obtain ⟨ad830,e830,hx830_0,hx830_1,hx830_2,hx830_3⟩:=at_T36 HR0.out x5_1 p830 q830
        obtain rfl : ad829 = ad830:=(by injection e830)
        replace hx830_0:=(HB.out.cell (World.block_lt_of_cell? w _ hx830_0)).trans hx830_0
        replace hx830_1:=(HB.out.cell (World.block_lt_of_cell? w _ hx830_1)).trans hx830_1
        replace hx830_2:=(HB.out.cell (World.block_lt_of_cell? w _ hx830_2)).trans hx830_2
        replace hx830_3:=(HB.out.cell (World.block_lt_of_cell? w _ hx830_3)).trans hx830_3
        replace p830:=eq_true p830
        replace q830:=eq_true q830
        have p831 : 0 ≤ (x5_1 : Int):=of_decide_eq_true (by first|(with_reducible assumption)|assumption)
        have q831 : x5_1 < (l0.length : Int):=of_decide_eq_true (by first|(with_reducible assumption)|assumption)
        obtain ⟨ad831,e831,hx831_0,hx831_1,hx831_2,hx831_3⟩:=at_T36 HR0.out x5_1 p831 q831
        obtain rfl : ad829 = ad831:=(by injection e831)
        replace hx831_0:=(HB.out.cell (World.block_lt_of_cell? w _ hx831_0)).trans hx831_0
        replace hx831_1:=(HB.out.cell (World.block_lt_of_cell? w _ hx831_1)).trans hx831_1
        replace hx831_2:=(HB.out.cell (World.block_lt_of_cell? w _ hx831_2)).trans hx831_2
        replace hx831_3:=(HB.out.cell (World.block_lt_of_cell? w _ hx831_3)).trans hx831_3
        replace p831:=eq_true p831
        replace q831:=eq_true q831
        go_wp2
        go_ret
        exact ⟨by first|rfl|(simp [errW_none,errW_some] <;> rfl)|(simp [*,errW_none,errW_some] <;> rfl),by repeat (first|(with_reducible first|exact HB.out|apply below_alloc|apply pw_below_drewN|apply below_drew1)|exact HB.out)⟩
      ·
       rw [if_neg c6] at H
       have c6b0 : (((rd_T36 l0 x5_1).f1) == (wrap64 (x1_1 + 1))) = false:=beq_eq_false_iff_ne.mpr c6
       have c6b1 : (((rd_T36 l0 x5_1).f1) != (wrap64 (x1_1 + 1))) = true:=bne_iff_ne.mpr c6
       obtain rfl:=Option.some.inj H
       have p829 : 0 ≤ (x5_1 : Int):=of_decide_eq_true (by first|(with_reducible assumption)|assumption)
       have q829 : x5_1 < (l0.length : Int):=of_decide_eq_true (by first|(with_reducible assumption)|assumption)
       obtain ⟨ad829,e829,hx829_0,hx829_1,hx829_2,hx829_3⟩:=at_T36 HR0.out x5_1 p829 q829
       cases e829
       replace hx829_0:=(HB.out.cell (World.block_lt_of_cell? w _ hx829_0)).trans hx829_0
       replace hx829_1:=(HB.out.cell (World.block_lt_of_cell? w _ hx829_1)).trans hx829_1
       replace hx829_2:=(HB.out.cell (World.block_lt_of_cell? w _ hx829_2)).trans hx829_2
       replace hx829_3:=(HB.out.cell (World.block_lt_of_cell? w _ hx829_3)).trans hx829_3
       replace p829:=eq_true p829
       replace q829:=eq_true q829
       have p830 : 0 ≤ (x5_1 : Int):=of_decide_eq_true (by first|(with_reducible assumption)|assumption)
       have q830 : x5_1 < (l0.length : Int):=of_decide_eq_true (by first|(with_reducible assumption)|assumption)
       obtain ⟨ad830,e830,hx830_0,hx830_1,hx830_2,hx830_3⟩:=at_T36 HR0.out x5_1 p830 q830
       obtain rfl : ad829 = ad830:=(by injection e830)
       replace hx830_0:=(HB.out.cell (World.block_lt_of_cell? w _ hx830_0)).trans hx830_0
       replace hx830_1:=(HB.out.cell (World.block_lt_of_cell? w _ hx830_1)).trans hx830_1
       replace hx830_2:=(HB.out.cell (World.block_lt_of_cell? w _ hx830_2)).trans hx830_2
       replace hx830_3:=(HB.out.cell (World.block_lt_of_cell? w _ hx830_3)).trans hx830_3
       replace p830:=eq_true p830
       replace q830:=eq_true q830
       go_wp2
       go_ret
       exact ⟨by first|rfl|(simp [errW_none,errW_some] <;> rfl)|(simp [*,errW_none,errW_some] <;> rfl),by repeat (first|(with_reducible first|exact HB.out|apply below_alloc|apply pw_below_drewN|apply below_drew1)|exact HB.out)⟩
     ·
      rw [if_neg c5] at H
      have c5b0 : (((rd_T36 l0 x5_1).f0) == x1_1) = false:=beq_eq_false_iff_ne.mpr c5
      have c5b1 : (((rd_T36 l0 x5_1).f0) != x1_1) = true:=bne_iff_ne.mpr c5
      obtain rfl:=Option.some.inj H
      have p829 : 0 ≤ (x5_1 : Int):=of_decide_eq_true (by first|(with_reducible assumption)|assumption)
      have q829 : x5_1 < (l0.length : Int):=of_decide_eq_true (by first|(with_reducible assumption)|assumption)
      obtain ⟨ad829,e829,hx829_0,hx829_1,hx829_2,hx829_3⟩:=at_T36 HR0.out x5_1 p829 q829
      cases e829
      replace hx829_0:=(HB.out.cell (World.block_lt_of_cell? w _ hx829_0)).trans hx829_0
      replace hx829_1:=(HB.out.cell (World.block_lt_of_cell? w _ hx829_1)).trans hx829_1
      replace hx829_2:=(HB.out.cell (World.block_lt_of_cell? w _ hx829_2)).trans hx829_2
      replace hx829_3:=(HB.out.cell (World.block_lt_of_cell? w _ hx829_3)).trans hx829_3
      replace p829:=eq_true p829
      replace q829:=eq_true q829
      go_wp2
      go_ret
      exact ⟨by first|rfl|(simp [errW_none,errW_some] <;> rfl)|(simp [*,errW_none,errW_some] <;> rfl),by repeat (first|(with_reducible first|exact HB.out|apply below_alloc|apply pw_below_drewN|apply below_drew1)|exact HB.out)⟩
    ·
     rw [if_neg c4] at H
     exact absurd H (by simp)
   ·
    rw [if_neg c3] at H
    have c3b0 : decide (x5_1 < (l0.length : Int)) = false:=decide_eq_false c3
    clear c3
    obtain rfl:=Option.some.inj H
    go_wp2
    go_ret
    exact ⟨by first|rfl|(simp [errW_none,errW_some] <;> rfl)|(simp [*,errW_none,errW_some] <;> rfl),by repeat (first|(with_reducible first|exact HB.out|apply below_alloc|apply pw_below_drewN|apply below_drew1)|exact HB.out)⟩
def laws_heldDisk.f (k : Nat) (l0_0 : List ByteArray) (l0_1 : List Int) (l0_2 : List (S36)) (a1 : Int) : Option (Int):=(laws_heldStringS.f k l0_0 a1).bind fun t835 => (if t835 < 0 then (some (-1)) else ((laws_heldIntS.f k l0_1 t835).bind fun t836 => (if t836 < 0 then (some (-1)) else ((laws_heldWriteS.f k l0_2 t836).bind fun t837 => (if t837 < 0 then (some (-1)) else (some t837))))))
set_option maxHeartbeats 8000000 in
set_option maxRecDepth 100000 in
theorem laws_heldDisk.calls (k : Nat) (A0_0 : Option Addr) (c0_0 : Nat) (l0_0 : List ByteArray) (A0_1 : Option Addr) (c0_1 : Nat) (l0_1 : List Int) (A0_2 : Option Addr) (c0_2 : Nat) (l0_2 : List (S36)) (a1 : Int) (r : Int) (w : World) (hr0_0 : Kd.C Kd.string w A0_0 l0_0.length l0_0) (hc0_0 : l0_0.length ≤ c0_0) (hr0_1 : Kd.C (Kd.int .i64) w A0_1 l0_1.length l0_1) (hc0_1 : l0_1.length ≤ c0_1) (hr0_2 : Kd.C k36 w A0_2 l0_2.length l0_2) (hc0_2 : l0_2.length ≤ c0_2) (h : laws_heldDisk.f k l0_0 l0_1 l0_2 a1 = some r) :
  Calls Try.prog 27 #[.agg #[.slice A0_0 l0_0.length c0_0,.slice A0_1 l0_1.length c0_1,.slice A0_2 l0_2.length c0_2],.int .i64 a1] w fun e w' => e = .returned (.int .i64 r) ∧ Below w.heap.size w w':=by
 have hu28:=Try.underlying28
 have HR0_0:=Aside0.mk hr0_0
 have HC0_0:=Aside0.mk hc0_0
 clear hr0_0 hc0_0
 have HR0_1:=Aside0.mk hr0_1
 have HC0_1:=Aside0.mk hc0_1
 clear hr0_1 hc0_1
 have HR0_2:=Aside0.mk hr0_2
 have HC0_2:=Aside0.mk hc0_2
 clear hr0_2 hc0_2
 have HB:=Aside0.mk (Below.refl w.heap.size w)
 have H : ((laws_heldStringS.f k l0_0 a1).bind fun t835 => (if t835 < 0 then (some (-1)) else ((laws_heldIntS.f k l0_1 t835).bind fun t836 => (if t836 < 0 then (some (-1)) else ((laws_heldWriteS.f k l0_2 t836).bind fun t837 => (if t837 < 0 then (some (-1)) else (some t837))))))) = some r:=h
 clear h
 replace H:=Option.bind_eq_some_iff.mp H
 obtain ⟨t835,A30,H⟩:=H
 replace H : (if t835 < 0 then (some (-1)) else ((laws_heldIntS.f k l0_1 t835).bind fun t836 => (if t836 < 0 then (some (-1)) else ((laws_heldWriteS.f k l0_2 t836).bind fun t837 => (if t837 < 0 then (some (-1)) else (some t837)))))) = some r:=H
 have A3:=Aside0.mk A30
 clear A30
 by_cases c4 : t835 < 0
 ·
  rw [if_pos c4] at H
  have c4b0 : decide (t835 < 0) = true:=decide_eq_true c4
  clear c4
  obtain rfl:=Option.some.inj H
  go_enter Try.func27,Try.ntmps27
  go_wp2_with (first|((with_reducible refine gate_dst (N:=2) rfl ?_);refine box_event ?hg (N:=2) ?hd (cs:=#[.slice A0_0 l0_0.length c0_0,.slice A0_1 l0_1.length c0_1,.slice A0_2 l0_2.length c0_2]) (t:=28) ?hr ?_;(case hd => rfl);(case hg => rfl);(case hr => first|(go_simp;done)|(go_simp;rfl));intro gb834 hg w5 hbox hb;have n0_:=Aside0.mk (below_step (by exact HB.out) hb);have n1_:=Aside0.mk (hbox);have n2_:=Aside0.mk ((by rw [hg];exact (below_size (by exact HB.out)) : w.heap.size ≤ gb834));have n3_:=Aside0.mk ((by rw [hg];exact (below_size (by exact HB.out)) : w.heap.size ≤ gb834));clear HB;have HB:=n0_;have BK834:=n1_;have GW834:=n2_;have GE834:=n3_;clear n0_ n1_ n2_ n3_;clear hb hbox hg;have hcz6_0 : w5.cell? ⟨gb834,0,none⟩ = some (.slice A0_0 l0_0.length c0_0):=(blk_cell BK834.out 0).trans rfl;have hcz6_1 : w5.cell? ⟨gb834,1,none⟩ = some (.slice A0_1 l0_1.length c0_1):=(blk_cell BK834.out 1).trans rfl;have hcz6_2 : w5.cell? ⟨gb834,2,none⟩ = some (.slice A0_2 l0_2.length c0_2):=(blk_cell BK834.out 2).trans rfl;have hfz6_0:=blk_frozen BK834.out 0;have hfz6_1:=blk_frozen BK834.out 1;have hfz6_2:=blk_frozen BK834.out 2)|((with_reducible refine gate_callee (f:=67) rfl ?_);refine goesL_ (some 8) rfl rfl Try.func67 (by kernel_rfl) rfl #[.slice A0_0 l0_0.length c0_0,.int .i64 a1] rfl (by (try simp only [List.map_toArray,List.map_cons,List.map_nil]);first|done|rfl|(simp only [List.length_drop,List.length_take];rfl)) ?_;(with_reducible refine (laws_heldStringS.calls k _ _ l0_0 a1 t835 _ ?side1 ?side2 A3.out).mono ?_);(case side1 => repeat (first|exact (Kd.C_below HR0_0.out HB.out)|(with_reducible refine Kd.C_alloc ?_ _)|(with_reducible refine Kd.C_drewN ?_ _)|(with_reducible refine Kd.C_drew ?_)));(case side2 => exact HC0_0.out);rintro e w7 ⟨rfl,hb⟩;refine ⟨_,rfl,?_⟩;have n0_:=Aside0.mk (blk_below BK834.out hb);have n1_:=Aside0.mk (below_step (by exact HB.out) hb);clear BK834;clear HB;have BK834:=n0_;have HB:=n1_;clear n0_ n1_;(try clear hb);(try clear hb2);(try clear hk);(try clear hi)))
  go_ret
  exact ⟨by first|rfl|(simp [errW_none,errW_some] <;> rfl)|(simp [*,errW_none,errW_some] <;> rfl),by repeat (first|(with_reducible first|exact HB.out|apply below_alloc|apply pw_below_drewN|apply below_drew1|refine below_set ?_ GE834.out)|exact HB.out)⟩
 ·
  rw [if_neg c4] at H
  have c4b0 : decide (t835 < 0) = false:=decide_eq_false c4
  clear c4
  replace H:=Option.bind_eq_some_iff.mp H
  obtain ⟨t836,A80,H⟩:=H
  replace H : (if t836 < 0 then (some (-1)) else ((laws_heldWriteS.f k l0_2 t836).bind fun t837 => (if t837 < 0 then (some (-1)) else (some t837)))) = some r:=H
  have A8:=Aside0.mk A80
  clear A80
  by_cases c9 : t836 < 0
  ·
   rw [if_pos c9] at H
   have c9b0 : decide (t836 < 0) = true:=decide_eq_true c9
   clear c9
   obtain rfl:=Option.some.inj H
   go_enter Try.func27,Try.ntmps27
   go_wp2_with (first|((with_reducible refine gate_dst (N:=2) rfl ?_);refine box_event ?hg (N:=2) ?hd (cs:=#[.slice A0_0 l0_0.length c0_0,.slice A0_1 l0_1.length c0_1,.slice A0_2 l0_2.length c0_2]) (t:=28) ?hr ?_;(case hd => rfl);(case hg => rfl);(case hr => first|(go_simp;done)|(go_simp;rfl));intro gb834 hg w10 hbox hb;have n0_:=Aside0.mk (below_step (by exact HB.out) hb);have n1_:=Aside0.mk (hbox);have n2_:=Aside0.mk ((by rw [hg];exact (below_size (by exact HB.out)) : w.heap.size ≤ gb834));have n3_:=Aside0.mk ((by rw [hg];exact (below_size (by exact HB.out)) : w.heap.size ≤ gb834));clear HB;have HB:=n0_;have BK834:=n1_;have GW834:=n2_;have GE834:=n3_;clear n0_ n1_ n2_ n3_;clear hb hbox hg;have hcz11_0 : w10.cell? ⟨gb834,0,none⟩ = some (.slice A0_0 l0_0.length c0_0):=(blk_cell BK834.out 0).trans rfl;have hcz11_1 : w10.cell? ⟨gb834,1,none⟩ = some (.slice A0_1 l0_1.length c0_1):=(blk_cell BK834.out 1).trans rfl;have hcz11_2 : w10.cell? ⟨gb834,2,none⟩ = some (.slice A0_2 l0_2.length c0_2):=(blk_cell BK834.out 2).trans rfl;have hfz11_0:=blk_frozen BK834.out 0;have hfz11_1:=blk_frozen BK834.out 1;have hfz11_2:=blk_frozen BK834.out 2)|((with_reducible refine gate_callee (f:=67) rfl ?_);refine goesL_ (some 8) rfl rfl Try.func67 (by kernel_rfl) rfl #[.slice A0_0 l0_0.length c0_0,.int .i64 a1] rfl (by (try simp only [List.map_toArray,List.map_cons,List.map_nil]);first|done|rfl|(simp only [List.length_drop,List.length_take];rfl)) ?_;(with_reducible refine (laws_heldStringS.calls k _ _ l0_0 a1 t835 _ ?side1 ?side2 A3.out).mono ?_);(case side1 => repeat (first|exact (Kd.C_below HR0_0.out HB.out)|(with_reducible refine Kd.C_alloc ?_ _)|(with_reducible refine Kd.C_drewN ?_ _)|(with_reducible refine Kd.C_drew ?_)));(case side2 => exact HC0_0.out);rintro e w12 ⟨rfl,hb⟩;refine ⟨_,rfl,?_⟩;have n0_:=Aside0.mk (blk_below BK834.out hb);have n1_:=Aside0.mk (below_step (by exact HB.out) hb);clear BK834;clear HB;have BK834:=n0_;have HB:=n1_;clear n0_ n1_;(try clear hb);(try clear hb2);(try clear hk);(try clear hi);have hcz13_0 : w12.cell? ⟨gb834,0,none⟩ = some (.slice A0_0 l0_0.length c0_0):=(blk_cell BK834.out 0).trans rfl;have hcz13_1 : w12.cell? ⟨gb834,1,none⟩ = some (.slice A0_1 l0_1.length c0_1):=(blk_cell BK834.out 1).trans rfl;have hcz13_2 : w12.cell? ⟨gb834,2,none⟩ = some (.slice A0_2 l0_2.length c0_2):=(blk_cell BK834.out 2).trans rfl;have hfz13_0:=blk_frozen BK834.out 0;have hfz13_1:=blk_frozen BK834.out 1;have hfz13_2:=blk_frozen BK834.out 2)|((with_reducible refine gate_callee (f:=68) rfl ?_);refine goesL_ (some 14) rfl rfl Try.func68 (by kernel_rfl) rfl #[.slice A0_1 l0_1.length c0_1,.int .i64 t835] rfl (by (try simp only [List.map_toArray,List.map_cons,List.map_nil]);first|done|rfl|(simp only [List.length_drop,List.length_take];rfl)) ?_;(with_reducible refine (laws_heldIntS.calls k _ _ l0_1 t835 t836 _ ?side1 ?side2 A8.out).mono ?_);(case side1 => repeat (first|exact (Kd.C_below HR0_1.out HB.out)|(with_reducible refine Kd.C_alloc ?_ _)|(with_reducible refine Kd.C_drewN ?_ _)|(with_reducible refine Kd.C_drew ?_)));(case side2 => exact HC0_1.out);rintro e w' ⟨rfl,⟨nd,rfl⟩⟩;refine ⟨_,rfl,?_⟩))
   go_ret
   exact ⟨by first|rfl|(simp [errW_none,errW_some] <;> rfl)|(simp [*,errW_none,errW_some] <;> rfl),by repeat (first|(with_reducible first|exact HB.out|apply below_alloc|apply pw_below_drewN|apply below_drew1|refine below_set ?_ GE834.out)|exact HB.out)⟩
  ·
   rw [if_neg c9] at H
   have c9b0 : decide (t836 < 0) = false:=decide_eq_false c9
   clear c9
   replace H:=Option.bind_eq_some_iff.mp H
   obtain ⟨t837,A140,H⟩:=H
   replace H : (if t837 < 0 then (some (-1)) else (some t837)) = some r:=H
   have A14:=Aside0.mk A140
   clear A140
   by_cases c15 : t837 < 0
   ·
    rw [if_pos c15] at H
    have c15b0 : decide (t837 < 0) = true:=decide_eq_true c15
    clear c15
    obtain rfl:=Option.some.inj H
    go_enter Try.func27,Try.ntmps27
    go_wp2_with (first|((with_reducible refine gate_dst (N:=2) rfl ?_);refine box_event ?hg (N:=2) ?hd (cs:=#[.slice A0_0 l0_0.length c0_0,.slice A0_1 l0_1.length c0_1,.slice A0_2 l0_2.length c0_2]) (t:=28) ?hr ?_;(case hd => rfl);(case hg => rfl);(case hr => first|(go_simp;done)|(go_simp;rfl));intro gb834 hg w16 hbox hb;have n0_:=Aside0.mk (below_step (by exact HB.out) hb);have n1_:=Aside0.mk (hbox);have n2_:=Aside0.mk ((by rw [hg];exact (below_size (by exact HB.out)) : w.heap.size ≤ gb834));have n3_:=Aside0.mk ((by rw [hg];exact (below_size (by exact HB.out)) : w.heap.size ≤ gb834));clear HB;have HB:=n0_;have BK834:=n1_;have GW834:=n2_;have GE834:=n3_;clear n0_ n1_ n2_ n3_;clear hb hbox hg;have hcz17_0 : w16.cell? ⟨gb834,0,none⟩ = some (.slice A0_0 l0_0.length c0_0):=(blk_cell BK834.out 0).trans rfl;have hcz17_1 : w16.cell? ⟨gb834,1,none⟩ = some (.slice A0_1 l0_1.length c0_1):=(blk_cell BK834.out 1).trans rfl;have hcz17_2 : w16.cell? ⟨gb834,2,none⟩ = some (.slice A0_2 l0_2.length c0_2):=(blk_cell BK834.out 2).trans rfl;have hfz17_0:=blk_frozen BK834.out 0;have hfz17_1:=blk_frozen BK834.out 1;have hfz17_2:=blk_frozen BK834.out 2)|((with_reducible refine gate_callee (f:=67) rfl ?_);refine goesL_ (some 8) rfl rfl Try.func67 (by kernel_rfl) rfl #[.slice A0_0 l0_0.length c0_0,.int .i64 a1] rfl (by (try simp only [List.map_toArray,List.map_cons,List.map_nil]);first|done|rfl|(simp only [List.length_drop,List.length_take];rfl)) ?_;(with_reducible refine (laws_heldStringS.calls k _ _ l0_0 a1 t835 _ ?side1 ?side2 A3.out).mono ?_);(case side1 => repeat (first|exact (Kd.C_below HR0_0.out HB.out)|(with_reducible refine Kd.C_alloc ?_ _)|(with_reducible refine Kd.C_drewN ?_ _)|(with_reducible refine Kd.C_drew ?_)));(case side2 => exact HC0_0.out);rintro e w18 ⟨rfl,hb⟩;refine ⟨_,rfl,?_⟩;have n0_:=Aside0.mk (blk_below BK834.out hb);have n1_:=Aside0.mk (below_step (by exact HB.out) hb);clear BK834;clear HB;have BK834:=n0_;have HB:=n1_;clear n0_ n1_;(try clear hb);(try clear hb2);(try clear hk);(try clear hi);have hcz19_0 : w18.cell? ⟨gb834,0,none⟩ = some (.slice A0_0 l0_0.length c0_0):=(blk_cell BK834.out 0).trans rfl;have hcz19_1 : w18.cell? ⟨gb834,1,none⟩ = some (.slice A0_1 l0_1.length c0_1):=(blk_cell BK834.out 1).trans rfl;have hcz19_2 : w18.cell? ⟨gb834,2,none⟩ = some (.slice A0_2 l0_2.length c0_2):=(blk_cell BK834.out 2).trans rfl;have hfz19_0:=blk_frozen BK834.out 0;have hfz19_1:=blk_frozen BK834.out 1;have hfz19_2:=blk_frozen BK834.out 2)|((with_reducible refine gate_callee (f:=68) rfl ?_);refine goesL_ (some 14) rfl rfl Try.func68 (by kernel_rfl) rfl #[.slice A0_1 l0_1.length c0_1,.int .i64 t835] rfl (by (try simp only [List.map_toArray,List.map_cons,List.map_nil]);first|done|rfl|(simp only [List.length_drop,List.length_take];rfl)) ?_;(with_reducible refine (laws_heldIntS.calls k _ _ l0_1 t835 t836 _ ?side1 ?side2 A8.out).mono ?_);(case side1 => repeat (first|exact (Kd.C_below HR0_1.out HB.out)|(with_reducible refine Kd.C_alloc ?_ _)|(with_reducible refine Kd.C_drewN ?_ _)|(with_reducible refine Kd.C_drew ?_)));(case side2 => exact HC0_1.out);rintro e w' ⟨rfl,⟨nd,rfl⟩⟩;refine ⟨_,rfl,?_⟩)|((with_reducible refine gate_callee (f:=69) rfl ?_);refine goesL_ (some 20) rfl rfl Try.func69 (by kernel_rfl) rfl #[.slice A0_2 l0_2.length c0_2,.int .i64 t836] rfl (by (try simp only [List.map_toArray,List.map_cons,List.map_nil]);first|done|rfl|(simp only [List.length_drop,List.length_take];rfl)) ?_;(with_reducible refine (laws_heldWriteS.calls k _ _ l0_2 t836 t837 _ ?side1 ?side2 A14.out).mono ?_);(case side1 => repeat (first|exact (Kd.C_below HR0_2.out (by repeat (first|(with_reducible first|exact HB.out|apply below_alloc|apply pw_below_drewN|apply below_drew1|refine below_set ?_ GE834.out)|exact HB.out)))|(with_reducible refine Kd.C_alloc ?_ _)|(with_reducible refine Kd.C_drewN ?_ _)|(with_reducible refine Kd.C_drew ?_)));(case side2 => exact HC0_2.out);rintro e w20 ⟨rfl,hb⟩;refine ⟨_,rfl,?_⟩;have n0_:=Aside0.mk (blk_below (g:=gb834) (o:=.cells #[.slice A0_0 l0_0.length c0_0,.slice A0_1 l0_1.length c0_1,.slice A0_2 l0_2.length c0_2] 28 (0,0)) (by (with_reducible repeat (first|refine blk_drewN ?_ _|refine blk_drew ?_|refine blk_alloc ?_ _));exact BK834.out) hb);have n1_:=Aside0.mk (below_step (by repeat (first|(with_reducible first|exact HB.out|apply below_alloc|apply pw_below_drewN|apply below_drew1|refine below_set ?_ GE834.out)|exact HB.out)) hb);clear BK834;clear HB;have BK834:=n0_;have HB:=n1_;clear n0_ n1_;(try clear hb);(try clear hb2);(try clear hk);(try clear hi)))
    go_ret
    exact ⟨by first|rfl|(simp [errW_none,errW_some] <;> rfl)|(simp [*,errW_none,errW_some] <;> rfl),by repeat (first|(with_reducible first|exact HB.out|apply below_alloc|apply pw_below_drewN|apply below_drew1|refine below_set ?_ GE834.out)|exact HB.out)⟩
   ·
    rw [if_neg c15] at H
    have c15b0 : decide (t837 < 0) = false:=decide_eq_false c15
    clear c15
    obtain rfl:=Option.some.inj H
    go_enter Try.func27,Try.ntmps27
    go_wp2_with (first|((with_reducible refine gate_dst (N:=2) rfl ?_);refine box_event ?hg (N:=2) ?hd (cs:=#[.slice A0_0 l0_0.length c0_0,.slice A0_1 l0_1.length c0_1,.slice A0_2 l0_2.length c0_2]) (t:=28) ?hr ?_;(case hd => rfl);(case hg => rfl);(case hr => first|(go_simp;done)|(go_simp;rfl));intro gb834 hg w21 hbox hb;have n0_:=Aside0.mk (below_step (by exact HB.out) hb);have n1_:=Aside0.mk (hbox);have n2_:=Aside0.mk ((by rw [hg];exact (below_size (by exact HB.out)) : w.heap.size ≤ gb834));have n3_:=Aside0.mk ((by rw [hg];exact (below_size (by exact HB.out)) : w.heap.size ≤ gb834));clear HB;have HB:=n0_;have BK834:=n1_;have GW834:=n2_;have GE834:=n3_;clear n0_ n1_ n2_ n3_;clear hb hbox hg;have hcz22_0 : w21.cell? ⟨gb834,0,none⟩ = some (.slice A0_0 l0_0.length c0_0):=(blk_cell BK834.out 0).trans rfl;have hcz22_1 : w21.cell? ⟨gb834,1,none⟩ = some (.slice A0_1 l0_1.length c0_1):=(blk_cell BK834.out 1).trans rfl;have hcz22_2 : w21.cell? ⟨gb834,2,none⟩ = some (.slice A0_2 l0_2.length c0_2):=(blk_cell BK834.out 2).trans rfl;have hfz22_0:=blk_frozen BK834.out 0;have hfz22_1:=blk_frozen BK834.out 1;have hfz22_2:=blk_frozen BK834.out 2)|((with_reducible refine gate_callee (f:=67) rfl ?_);refine goesL_ (some 8) rfl rfl Try.func67 (by kernel_rfl) rfl #[.slice A0_0 l0_0.length c0_0,.int .i64 a1] rfl (by (try simp only [List.map_toArray,List.map_cons,List.map_nil]);first|done|rfl|(simp only [List.length_drop,List.length_take];rfl)) ?_;(with_reducible refine (laws_heldStringS.calls k _ _ l0_0 a1 t835 _ ?side1 ?side2 A3.out).mono ?_);(case side1 => repeat (first|exact (Kd.C_below HR0_0.out HB.out)|(with_reducible refine Kd.C_alloc ?_ _)|(with_reducible refine Kd.C_drewN ?_ _)|(with_reducible refine Kd.C_drew ?_)));(case side2 => exact HC0_0.out);rintro e w23 ⟨rfl,hb⟩;refine ⟨_,rfl,?_⟩;have n0_:=Aside0.mk (blk_below BK834.out hb);have n1_:=Aside0.mk (below_step (by exact HB.out) hb);clear BK834;clear HB;have BK834:=n0_;have HB:=n1_;clear n0_ n1_;(try clear hb);(try clear hb2);(try clear hk);(try clear hi);have hcz24_0 : w23.cell? ⟨gb834,0,none⟩ = some (.slice A0_0 l0_0.length c0_0):=(blk_cell BK834.out 0).trans rfl;have hcz24_1 : w23.cell? ⟨gb834,1,none⟩ = some (.slice A0_1 l0_1.length c0_1):=(blk_cell BK834.out 1).trans rfl;have hcz24_2 : w23.cell? ⟨gb834,2,none⟩ = some (.slice A0_2 l0_2.length c0_2):=(blk_cell BK834.out 2).trans rfl;have hfz24_0:=blk_frozen BK834.out 0;have hfz24_1:=blk_frozen BK834.out 1;have hfz24_2:=blk_frozen BK834.out 2)|((with_reducible refine gate_callee (f:=68) rfl ?_);refine goesL_ (some 14) rfl rfl Try.func68 (by kernel_rfl) rfl #[.slice A0_1 l0_1.length c0_1,.int .i64 t835] rfl (by (try simp only [List.map_toArray,List.map_cons,List.map_nil]);first|done|rfl|(simp only [List.length_drop,List.length_take];rfl)) ?_;(with_reducible refine (laws_heldIntS.calls k _ _ l0_1 t835 t836 _ ?side1 ?side2 A8.out).mono ?_);(case side1 => repeat (first|exact (Kd.C_below HR0_1.out HB.out)|(with_reducible refine Kd.C_alloc ?_ _)|(with_reducible refine Kd.C_drewN ?_ _)|(with_reducible refine Kd.C_drew ?_)));(case side2 => exact HC0_1.out);rintro e w' ⟨rfl,⟨nd,rfl⟩⟩;refine ⟨_,rfl,?_⟩)|((with_reducible refine gate_callee (f:=69) rfl ?_);refine goesL_ (some 20) rfl rfl Try.func69 (by kernel_rfl) rfl #[.slice A0_2 l0_2.length c0_2,.int .i64 t836] rfl (by (try simp only [List.map_toArray,List.map_cons,List.map_nil]);first|done|rfl|(simp only [List.length_drop,List.length_take];rfl)) ?_;(with_reducible refine (laws_heldWriteS.calls k _ _ l0_2 t836 t837 _ ?side1 ?side2 A14.out).mono ?_);(case side1 => repeat (first|exact (Kd.C_below HR0_2.out (by repeat (first|(with_reducible first|exact HB.out|apply below_alloc|apply pw_below_drewN|apply below_drew1|refine below_set ?_ GE834.out)|exact HB.out)))|(with_reducible refine Kd.C_alloc ?_ _)|(with_reducible refine Kd.C_drewN ?_ _)|(with_reducible refine Kd.C_drew ?_)));(case side2 => exact HC0_2.out);rintro e w25 ⟨rfl,hb⟩;refine ⟨_,rfl,?_⟩;have n0_:=Aside0.mk (blk_below (g:=gb834) (o:=.cells #[.slice A0_0 l0_0.length c0_0,.slice A0_1 l0_1.length c0_1,.slice A0_2 l0_2.length c0_2] 28 (0,0)) (by (with_reducible repeat (first|refine blk_drewN ?_ _|refine blk_drew ?_|refine blk_alloc ?_ _));exact BK834.out) hb);have n1_:=Aside0.mk (below_step (by repeat (first|(with_reducible first|exact HB.out|apply below_alloc|apply pw_below_drewN|apply below_drew1|refine below_set ?_ GE834.out)|exact HB.out)) hb);clear BK834;clear HB;have BK834:=n0_;have HB:=n1_;clear n0_ n1_;(try clear hb);(try clear hb2);(try clear hk);(try clear hi)))
    go_ret
    exact ⟨by first|rfl|(simp [errW_none,errW_some] <;> rfl)|(simp [*,errW_none,errW_some] <;> rfl),by repeat (first|(with_reducible first|exact HB.out|apply below_alloc|apply pw_below_drewN|apply below_drew1|refine below_set ?_ GE834.out)|exact HB.out)⟩
end Go.Proofs.Ytiejilaahkkhmaa.P
