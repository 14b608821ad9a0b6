-- Ours: printed or written for this claim; cut to what the theorem needs.
import Derived.Test.YtnldanonpdijgaaZPx0
import Derived.Test.YtnldanonpdijgaaZPx15
namespace Go.Proofs.Ytnldanonpdijgaa.P
open Go.RowKit Go.Proofs.YtnldanonpdijgaaW.PrintWords Go.Proofs.YtnldanonpdijgaaW.PrintLast Go.Proofs.YtnldanonpdijgaaW.PrintMore
attribute [local go_sem] max2_int min2_int max_two min_two max_three min_three max_four min_four
set_option linter.unusedVariables false
set_option linter.unusedSimpArgs false
def laws_heldLsHostS.l0 : Nat → List (S50) → Int → Int → Option (Int)
  | 0,_,_,_ => none
  | k + 1,x0,x1,x5 => if x5 < (x0.length : Int) then (if 0 ≤ x5 then (if (((rd_T50 x0 x5).f0) != ((Int.tmod x1 3) == 0)) = true then (some (-1)) else (if ((rd_T50 x0 x5).f1) = (wrap64 (x1 + 1)) then (if (((rd_T50 x0 x5).f2) != ((Int.tmod (wrap64 ((wrap64 (x1 + 1)) + 1)) 3) == 0)) = true then (some (-1)) else (if ((rd_T50 x0 x5).f3) = (wrap64 ((wrap64 ((wrap64 (x1 + 1)) + 1)) + 1)) then (if ((rd_T50 x0 x5).f4) = (wrap64 ((wrap64 ((wrap64 ((wrap64 (x1 + 1)) + 1)) + 1)) + 1)) then (if ((rd_T50 x0 x5).f5) = (wrap64 ((wrap64 ((wrap64 ((wrap64 ((wrap64 (x1 + 1)) + 1)) + 1)) + 1)) + 1)) then (laws_heldLsHostS.l0 k x0 (wrap64 ((wrap64 ((wrap64 ((wrap64 ((wrap64 ((wrap64 (x1 + 1)) + 1)) + 1)) + 1)) + 1)) + 1)) (wrap64 (x5 + 1))) else (some (-1))) else (some (-1))) else (some (-1)))) else (some (-1)))) else (none)) else (some x1)
def laws_heldLsHostS.f (k : Nat) (l0 : List (S50)) (a1 : Int) : Option (Int):=laws_heldLsHostS.l0 k l0 a1 0
set_option maxHeartbeats 8000000 in
set_option maxRecDepth 100000 in
theorem laws_heldLsHostS.calls (k : Nat) (A0 : Option Addr) (c0 : Nat) (l0 : List (S50)) (a1 : Int) (r : Int) (w : World) (hr0 : Kd.C k50 w A0 l0.length l0) (hc0 : l0.length ≤ c0) (h : laws_heldLsHostS.f k l0 a1 = some r) :
  Calls Try.prog 71 #[.slice A0 l0.length c0,.int .i64 a1] w fun e w' => e = .returned (.int .i64 r) ∧ Drawn0 w w':=by
 have HR0:=Aside0.mk hr0
 have HC0:=Aside0.mk hc0
 clear hr0 hc0
 have H : (laws_heldLsHostS.l0 k l0 a1 0) = some r:=h
 clear h
 have H':=Aside0.mk H
 clear H
 go_enter Try.func71,Try.ntmps71
 go_wp2
 go_loopg [1,5] k (fun kq v1 v5 w' => ∃ (x1_1 : Int) (x5_1 : Int),v1 = .int .i64 x1_1 ∧ v5 = .int .i64 x5_1 ∧ Aside0 (laws_heldLsHostS.l0 kq l0 x1_1 x5_1 = some r) ∧ Aside0 (kq ≤ k) ∧ Drawn0 w w')
 case atStart => exact ⟨(a1),(0),(by first|rfl|(simp;done)|(simp [*];done)),(by first|rfl|(simp;done)|(simp [*];done)),H',⟨Nat.le_refl _⟩,by repeat (first|exact Drawn0.refl _|apply Drawn0.step)⟩
 case round =>
  clear H'
  try clear p2
  obtain ⟨x1_1,x5_1,rfl,rfl,HA,HK1,⟨m1,rfl⟩⟩:=hrel
  cases gk with
  | zero => exact absurd HA.out (by simp [laws_heldLsHostS.l0])
  | succ k1 =>
   have H:=HA.out
   clear HA
   simp only [laws_heldLsHostS.l0] at H
   by_cases c3 : x5_1 < (l0.length : Int)
   ·
    rw [if_pos c3] at H
    have c3b0 : decide (x5_1 < (l0.length : Int)) = true:=decide_eq_true c3
    clear c3
    by_cases c4 : 0 ≤ x5_1
    ·
     rw [if_pos c4] at H
     have c4b0 : decide (0 ≤ x5_1) = true:=decide_eq_true c4
     clear c4
     by_cases c5 : (((rd_T50 l0 x5_1).f0) != ((Int.tmod x1_1 3) == 0)) = true
     ·
      rw [if_pos c5] at H
      have c5b0 : (((rd_T50 l0 x5_1).f0) != ((Int.tmod x1_1 3) == 0)) = true:=c5
      (try (have c5b1 : decide (((rd_T50 l0 x5_1).f0) = ((Int.tmod x1_1 3) == 0)) = false:=by simpa using c5))
      (try (have c5b2 : (((rd_T50 l0 x5_1).f0) == ((Int.tmod x1_1 3) == 0)) = false:=by simpa using c5))
      (try (have c5b3 : ¬ (((rd_T50 l0 x5_1).f0) = ((Int.tmod x1_1 3) == 0)):=by simpa using c5))
      clear c5
      obtain rfl:=Option.some.inj H
      have p628 : 0 ≤ (x5_1 : Int):=of_decide_eq_true (by first|(with_reducible assumption)|assumption)
      have q628 : x5_1 < (l0.length : Int):=of_decide_eq_true (by first|(with_reducible assumption)|assumption)
      obtain ⟨ad628,e628,hx628_0,hx628_1,hx628_2,hx628_3,hx628_4,hx628_5⟩:=at_T50 HR0.out x5_1 p628 q628
      cases e628
      replace p628:=eq_true p628
      replace q628:=eq_true q628
      go_wp2
      go_ret
      exact ⟨by first|rfl|(simp;done)|(simp [*];done),by repeat (first|exact Drawn0.refl _|apply Drawn0.step)⟩
     ·
      rw [if_neg c5] at H
      have c5b0 : (((rd_T50 l0 x5_1).f0) != ((Int.tmod x1_1 3) == 0)) = false:=by simpa using c5
      (try (have c5b1 : decide (((rd_T50 l0 x5_1).f0) = ((Int.tmod x1_1 3) == 0)) = true:=by simpa using c5))
      (try (have c5b2 : (((rd_T50 l0 x5_1).f0) == ((Int.tmod x1_1 3) == 0)) = true:=by simpa using c5))
      clear c5
      by_cases c6 : ((rd_T50 l0 x5_1).f1) = (wrap64 (x1_1 + 1))
      ·
       rw [if_pos c6] at H
       have c6b0 : (((rd_T50 l0 x5_1).f1) == (wrap64 (x1_1 + 1))) = true:=beq_iff_eq.mpr c6
       have c6b1 : (((rd_T50 l0 x5_1).f1) != (wrap64 (x1_1 + 1))) = false:=bne_eq_false_iff_eq.mpr c6
       clear c6
       by_cases c7 : (((rd_T50 l0 x5_1).f2) != ((Int.tmod (wrap64 ((wrap64 (x1_1 + 1)) + 1)) 3) == 0)) = true
       ·
        rw [if_pos c7] at H
        have c7b0 : (((rd_T50 l0 x5_1).f2) != ((Int.tmod (wrap64 ((wrap64 (x1_1 + 1)) + 1)) 3) == 0)) = true:=c7
        (try (have c7b1 : decide (((rd_T50 l0 x5_1).f2) = ((Int.tmod (wrap64 ((wrap64 (x1_1 + 1)) + 1)) 3) == 0)) = false:=by simpa using c7))
        (try (have c7b2 : (((rd_T50 l0 x5_1).f2) == ((Int.tmod (wrap64 ((wrap64 (x1_1 + 1)) + 1)) 3) == 0)) = false:=by simpa using c7))
        (try (have c7b3 : ¬ (((rd_T50 l0 x5_1).f2) = ((Int.tmod (wrap64 ((wrap64 (x1_1 + 1)) + 1)) 3) == 0)):=by simpa using c7))
        clear c7
        obtain rfl:=Option.some.inj H
        have p628 : 0 ≤ (x5_1 : Int):=of_decide_eq_true (by first|(with_reducible assumption)|assumption)
        have q628 : x5_1 < (l0.length : Int):=of_decide_eq_true (by first|(with_reducible assumption)|assumption)
        obtain ⟨ad628,e628,hx628_0,hx628_1,hx628_2,hx628_3,hx628_4,hx628_5⟩:=at_T50 HR0.out x5_1 p628 q628
        cases e628
        replace p628:=eq_true p628
        replace q628:=eq_true q628
        have p629 : 0 ≤ (x5_1 : Int):=of_decide_eq_true (by first|(with_reducible assumption)|assumption)
        have q629 : x5_1 < (l0.length : Int):=of_decide_eq_true (by first|(with_reducible assumption)|assumption)
        obtain ⟨ad629,e629,hx629_0,hx629_1,hx629_2,hx629_3,hx629_4,hx629_5⟩:=at_T50 HR0.out x5_1 p629 q629
        obtain rfl : ad628 = ad629:=(by injection e629)
        replace p629:=eq_true p629
        replace q629:=eq_true q629
        have p630 : 0 ≤ (x5_1 : Int):=of_decide_eq_true (by first|(with_reducible assumption)|assumption)
        have q630 : x5_1 < (l0.length : Int):=of_decide_eq_true (by first|(with_reducible assumption)|assumption)
        obtain ⟨ad630,e630,hx630_0,hx630_1,hx630_2,hx630_3,hx630_4,hx630_5⟩:=at_T50 HR0.out x5_1 p630 q630
        obtain rfl : ad628 = ad630:=(by injection e630)
        replace p630:=eq_true p630
        replace q630:=eq_true q630
        go_wp2
        go_ret
        exact ⟨by first|rfl|(simp;done)|(simp [*];done),by repeat (first|exact Drawn0.refl _|apply Drawn0.step)⟩
       ·
        rw [if_neg c7] at H
        have c7b0 : (((rd_T50 l0 x5_1).f2) != ((Int.tmod (wrap64 ((wrap64 (x1_1 + 1)) + 1)) 3) == 0)) = false:=by simpa using c7
        (try (have c7b1 : decide (((rd_T50 l0 x5_1).f2) = ((Int.tmod (wrap64 ((wrap64 (x1_1 + 1)) + 1)) 3) == 0)) = true:=by simpa using c7))
        (try (have c7b2 : (((rd_T50 l0 x5_1).f2) == ((Int.tmod (wrap64 ((wrap64 (x1_1 + 1)) + 1)) 3) == 0)) = true:=by simpa using c7))
        clear c7
        by_cases c8 : ((rd_T50 l0 x5_1).f3) = (wrap64 ((wrap64 ((wrap64 (x1_1 + 1)) + 1)) + 1))
        ·
         rw [if_pos c8] at H
         have c8b0 : (((rd_T50 l0 x5_1).f3) == (wrap64 ((wrap64 ((wrap64 (x1_1 + 1)) + 1)) + 1))) = true:=beq_iff_eq.mpr c8
         have c8b1 : (((rd_T50 l0 x5_1).f3) != (wrap64 ((wrap64 ((wrap64 (x1_1 + 1)) + 1)) + 1))) = false:=bne_eq_false_iff_eq.mpr c8
         clear c8
         by_cases c9 : ((rd_T50 l0 x5_1).f4) = (wrap64 ((wrap64 ((wrap64 ((wrap64 (x1_1 + 1)) + 1)) + 1)) + 1))
         ·
          rw [if_pos c9] at H
          have c9b0 : (((rd_T50 l0 x5_1).f4) == (wrap64 ((wrap64 ((wrap64 ((wrap64 (x1_1 + 1)) + 1)) + 1)) + 1))) = true:=beq_iff_eq.mpr c9
          have c9b1 : (((rd_T50 l0 x5_1).f4) != (wrap64 ((wrap64 ((wrap64 ((wrap64 (x1_1 + 1)) + 1)) + 1)) + 1))) = false:=bne_eq_false_iff_eq.mpr c9
          clear c9
          by_cases c10 : ((rd_T50 l0 x5_1).f5) = (wrap64 ((wrap64 ((wrap64 ((wrap64 ((wrap64 (x1_1 + 1)) + 1)) + 1)) + 1)) + 1))
          ·
           rw [if_pos c10] at H
           have c10b0 : (((rd_T50 l0 x5_1).f5) == (wrap64 ((wrap64 ((wrap64 ((wrap64 ((wrap64 (x1_1 + 1)) + 1)) + 1)) + 1)) + 1))) = true:=beq_iff_eq.mpr c10
           have c10b1 : (((rd_T50 l0 x5_1).f5) != (wrap64 ((wrap64 ((wrap64 ((wrap64 ((wrap64 (x1_1 + 1)) + 1)) + 1)) + 1)) + 1))) = false:=bne_eq_false_iff_eq.mpr c10
           clear c10
           have H':=Aside0.mk H
           clear H
           have p628 : 0 ≤ (x5_1 : Int):=of_decide_eq_true (by first|(with_reducible assumption)|assumption)
           have q628 : x5_1 < (l0.length : Int):=of_decide_eq_true (by first|(with_reducible assumption)|assumption)
           obtain ⟨ad628,e628,hx628_0,hx628_1,hx628_2,hx628_3,hx628_4,hx628_5⟩:=at_T50 HR0.out x5_1 p628 q628
           cases e628
           replace p628:=eq_true p628
           replace q628:=eq_true q628
           have p629 : 0 ≤ (x5_1 : Int):=of_decide_eq_true (by first|(with_reducible assumption)|assumption)
           have q629 : x5_1 < (l0.length : Int):=of_decide_eq_true (by first|(with_reducible assumption)|assumption)
           obtain ⟨ad629,e629,hx629_0,hx629_1,hx629_2,hx629_3,hx629_4,hx629_5⟩:=at_T50 HR0.out x5_1 p629 q629
           obtain rfl : ad628 = ad629:=(by injection e629)
           replace p629:=eq_true p629
           replace q629:=eq_true q629
           have p630 : 0 ≤ (x5_1 : Int):=of_decide_eq_true (by first|(with_reducible assumption)|assumption)
           have q630 : x5_1 < (l0.length : Int):=of_decide_eq_true (by first|(with_reducible assumption)|assumption)
           obtain ⟨ad630,e630,hx630_0,hx630_1,hx630_2,hx630_3,hx630_4,hx630_5⟩:=at_T50 HR0.out x5_1 p630 q630
           obtain rfl : ad628 = ad630:=(by injection e630)
           replace p630:=eq_true p630
           replace q630:=eq_true q630
           have p631 : 0 ≤ (x5_1 : Int):=of_decide_eq_true (by first|(with_reducible assumption)|assumption)
           have q631 : x5_1 < (l0.length : Int):=of_decide_eq_true (by first|(with_reducible assumption)|assumption)
           obtain ⟨ad631,e631,hx631_0,hx631_1,hx631_2,hx631_3,hx631_4,hx631_5⟩:=at_T50 HR0.out x5_1 p631 q631
           obtain rfl : ad628 = ad631:=(by injection e631)
           replace p631:=eq_true p631
           replace q631:=eq_true q631
           have p632 : 0 ≤ (x5_1 : Int):=of_decide_eq_true (by first|(with_reducible assumption)|assumption)
           have q632 : x5_1 < (l0.length : Int):=of_decide_eq_true (by first|(with_reducible assumption)|assumption)
           obtain ⟨ad632,e632,hx632_0,hx632_1,hx632_2,hx632_3,hx632_4,hx632_5⟩:=at_T50 HR0.out x5_1 p632 q632
           obtain rfl : ad628 = ad632:=(by injection e632)
           replace p632:=eq_true p632
           replace q632:=eq_true q632
           have p633 : 0 ≤ (x5_1 : Int):=of_decide_eq_true (by first|(with_reducible assumption)|assumption)
           have q633 : x5_1 < (l0.length : Int):=of_decide_eq_true (by first|(with_reducible assumption)|assumption)
           obtain ⟨ad633,e633,hx633_0,hx633_1,hx633_2,hx633_3,hx633_4,hx633_5⟩:=at_T50 HR0.out x5_1 p633 q633
           obtain rfl : ad628 = ad633:=(by injection e633)
           replace p633:=eq_true p633
           replace q633:=eq_true q633
           go_wp2
           go_roundg k1
           case measure => have:=HK1.out;omega
           case rel => exact ⟨(wrap64 ((wrap64 ((wrap64 ((wrap64 ((wrap64 ((wrap64 (x1_1 + 1)) + 1)) + 1)) + 1)) + 1)) + 1)),(wrap64 (x5_1 + 1)),(by first|rfl|(simp;done)|(simp [*];done)),(by first|rfl|(simp;done)|(simp [*];done)),H',⟨by have:=HK1.out;omega⟩,by repeat (first|exact Drawn0.refl _|apply Drawn0.step)⟩
          ·
           rw [if_neg c10] at H
           have c10b0 : (((rd_T50 l0 x5_1).f5) == (wrap64 ((wrap64 ((wrap64 ((wrap64 ((wrap64 (x1_1 + 1)) + 1)) + 1)) + 1)) + 1))) = false:=beq_eq_false_iff_ne.mpr c10
           have c10b1 : (((rd_T50 l0 x5_1).f5) != (wrap64 ((wrap64 ((wrap64 ((wrap64 ((wrap64 (x1_1 + 1)) + 1)) + 1)) + 1)) + 1))) = true:=bne_iff_ne.mpr c10
           obtain rfl:=Option.some.inj H
           have p628 : 0 ≤ (x5_1 : Int):=of_decide_eq_true (by first|(with_reducible assumption)|assumption)
           have q628 : x5_1 < (l0.length : Int):=of_decide_eq_true (by first|(with_reducible assumption)|assumption)
           obtain ⟨ad628,e628,hx628_0,hx628_1,hx628_2,hx628_3,hx628_4,hx628_5⟩:=at_T50 HR0.out x5_1 p628 q628
           cases e628
           replace p628:=eq_true p628
           replace q628:=eq_true q628
           have p629 : 0 ≤ (x5_1 : Int):=of_decide_eq_true (by first|(with_reducible assumption)|assumption)
           have q629 : x5_1 < (l0.length : Int):=of_decide_eq_true (by first|(with_reducible assumption)|assumption)
           obtain ⟨ad629,e629,hx629_0,hx629_1,hx629_2,hx629_3,hx629_4,hx629_5⟩:=at_T50 HR0.out x5_1 p629 q629
           obtain rfl : ad628 = ad629:=(by injection e629)
           replace p629:=eq_true p629
           replace q629:=eq_true q629
           have p630 : 0 ≤ (x5_1 : Int):=of_decide_eq_true (by first|(with_reducible assumption)|assumption)
           have q630 : x5_1 < (l0.length : Int):=of_decide_eq_true (by first|(with_reducible assumption)|assumption)
           obtain ⟨ad630,e630,hx630_0,hx630_1,hx630_2,hx630_3,hx630_4,hx630_5⟩:=at_T50 HR0.out x5_1 p630 q630
           obtain rfl : ad628 = ad630:=(by injection e630)
           replace p630:=eq_true p630
           replace q630:=eq_true q630
           have p631 : 0 ≤ (x5_1 : Int):=of_decide_eq_true (by first|(with_reducible assumption)|assumption)
           have q631 : x5_1 < (l0.length : Int):=of_decide_eq_true (by first|(with_reducible assumption)|assumption)
           obtain ⟨ad631,e631,hx631_0,hx631_1,hx631_2,hx631_3,hx631_4,hx631_5⟩:=at_T50 HR0.out x5_1 p631 q631
           obtain rfl : ad628 = ad631:=(by injection e631)
           replace p631:=eq_true p631
           replace q631:=eq_true q631
           have p632 : 0 ≤ (x5_1 : Int):=of_decide_eq_true (by first|(with_reducible assumption)|assumption)
           have q632 : x5_1 < (l0.length : Int):=of_decide_eq_true (by first|(with_reducible assumption)|assumption)
           obtain ⟨ad632,e632,hx632_0,hx632_1,hx632_2,hx632_3,hx632_4,hx632_5⟩:=at_T50 HR0.out x5_1 p632 q632
           obtain rfl : ad628 = ad632:=(by injection e632)
           replace p632:=eq_true p632
           replace q632:=eq_true q632
           have p633 : 0 ≤ (x5_1 : Int):=of_decide_eq_true (by first|(with_reducible assumption)|assumption)
           have q633 : x5_1 < (l0.length : Int):=of_decide_eq_true (by first|(with_reducible assumption)|assumption)
           obtain ⟨ad633,e633,hx633_0,hx633_1,hx633_2,hx633_3,hx633_4,hx633_5⟩:=at_T50 HR0.out x5_1 p633 q633
           obtain rfl : ad628 = ad633:=(by injection e633)
           replace p633:=eq_true p633
           replace q633:=eq_true q633
           go_wp2
           go_ret
           exact ⟨by first|rfl|(simp;done)|(simp [*];done),by repeat (first|exact Drawn0.refl _|apply Drawn0.step)⟩
         ·
          rw [if_neg c9] at H
          have c9b0 : (((rd_T50 l0 x5_1).f4) == (wrap64 ((wrap64 ((wrap64 ((wrap64 (x1_1 + 1)) + 1)) + 1)) + 1))) = false:=beq_eq_false_iff_ne.mpr c9
          have c9b1 : (((rd_T50 l0 x5_1).f4) != (wrap64 ((wrap64 ((wrap64 ((wrap64 (x1_1 + 1)) + 1)) + 1)) + 1))) = true:=bne_iff_ne.mpr c9
          obtain rfl:=Option.some.inj H
          have p628 : 0 ≤ (x5_1 : Int):=of_decide_eq_true (by first|(with_reducible assumption)|assumption)
          have q628 : x5_1 < (l0.length : Int):=of_decide_eq_true (by first|(with_reducible assumption)|assumption)
          obtain ⟨ad628,e628,hx628_0,hx628_1,hx628_2,hx628_3,hx628_4,hx628_5⟩:=at_T50 HR0.out x5_1 p628 q628
          cases e628
          replace p628:=eq_true p628
          replace q628:=eq_true q628
          have p629 : 0 ≤ (x5_1 : Int):=of_decide_eq_true (by first|(with_reducible assumption)|assumption)
          have q629 : x5_1 < (l0.length : Int):=of_decide_eq_true (by first|(with_reducible assumption)|assumption)
          obtain ⟨ad629,e629,hx629_0,hx629_1,hx629_2,hx629_3,hx629_4,hx629_5⟩:=at_T50 HR0.out x5_1 p629 q629
          obtain rfl : ad628 = ad629:=(by injection e629)
          replace p629:=eq_true p629
          replace q629:=eq_true q629
          have p630 : 0 ≤ (x5_1 : Int):=of_decide_eq_true (by first|(with_reducible assumption)|assumption)
          have q630 : x5_1 < (l0.length : Int):=of_decide_eq_true (by first|(with_reducible assumption)|assumption)
          obtain ⟨ad630,e630,hx630_0,hx630_1,hx630_2,hx630_3,hx630_4,hx630_5⟩:=at_T50 HR0.out x5_1 p630 q630
          obtain rfl : ad628 = ad630:=(by injection e630)
          replace p630:=eq_true p630
          replace q630:=eq_true q630
          have p631 : 0 ≤ (x5_1 : Int):=of_decide_eq_true (by first|(with_reducible assumption)|assumption)
          have q631 : x5_1 < (l0.length : Int):=of_decide_eq_true (by first|(with_reducible assumption)|assumption)
          obtain ⟨ad631,e631,hx631_0,hx631_1,hx631_2,hx631_3,hx631_4,hx631_5⟩:=at_T50 HR0.out x5_1 p631 q631
          obtain rfl : ad628 = ad631:=(by injection e631)
          replace p631:=eq_true p631
          replace q631:=eq_true q631
          have p632 : 0 ≤ (x5_1 : Int):=of_decide_eq_true (by first|(with_reducible assumption)|assumption)
          have q632 : x5_1 < (l0.length : Int):=of_decide_eq_true (by first|(with_reducible assumption)|assumption)
          obtain ⟨ad632,e632,hx632_0,hx632_1,hx632_2,hx632_3,hx632_4,hx632_5⟩:=at_T50 HR0.out x5_1 p632 q632
          obtain rfl : ad628 = ad632:=(by injection e632)
          replace p632:=eq_true p632
          replace q632:=eq_true q632
          go_wp2
          go_ret
          exact ⟨by first|rfl|(simp;done)|(simp [*];done),by repeat (first|exact Drawn0.refl _|apply Drawn0.step)⟩
        ·
         rw [if_neg c8] at H
         have c8b0 : (((rd_T50 l0 x5_1).f3) == (wrap64 ((wrap64 ((wrap64 (x1_1 + 1)) + 1)) + 1))) = false:=beq_eq_false_iff_ne.mpr c8
         have c8b1 : (((rd_T50 l0 x5_1).f3) != (wrap64 ((wrap64 ((wrap64 (x1_1 + 1)) + 1)) + 1))) = true:=bne_iff_ne.mpr c8
         obtain rfl:=Option.some.inj H
         have p628 : 0 ≤ (x5_1 : Int):=of_decide_eq_true (by first|(with_reducible assumption)|assumption)
         have q628 : x5_1 < (l0.length : Int):=of_decide_eq_true (by first|(with_reducible assumption)|assumption)
         obtain ⟨ad628,e628,hx628_0,hx628_1,hx628_2,hx628_3,hx628_4,hx628_5⟩:=at_T50 HR0.out x5_1 p628 q628
         cases e628
         replace p628:=eq_true p628
         replace q628:=eq_true q628
         have p629 : 0 ≤ (x5_1 : Int):=of_decide_eq_true (by first|(with_reducible assumption)|assumption)
         have q629 : x5_1 < (l0.length : Int):=of_decide_eq_true (by first|(with_reducible assumption)|assumption)
         obtain ⟨ad629,e629,hx629_0,hx629_1,hx629_2,hx629_3,hx629_4,hx629_5⟩:=at_T50 HR0.out x5_1 p629 q629
         obtain rfl : ad628 = ad629:=(by injection e629)
         replace p629:=eq_true p629
         replace q629:=eq_true q629
         have p630 : 0 ≤ (x5_1 : Int):=of_decide_eq_true (by first|(with_reducible assumption)|assumption)
         have q630 : x5_1 < (l0.length : Int):=of_decide_eq_true (by first|(with_reducible assumption)|assumption)
         obtain ⟨ad630,e630,hx630_0,hx630_1,hx630_2,hx630_3,hx630_4,hx630_5⟩:=at_T50 HR0.out x5_1 p630 q630
         obtain rfl : ad628 = ad630:=(by injection e630)
         replace p630:=eq_true p630
         replace q630:=eq_true q630
         have p631 : 0 ≤ (x5_1 : Int):=of_decide_eq_true (by first|(with_reducible assumption)|assumption)
         have q631 : x5_1 < (l0.length : Int):=of_decide_eq_true (by first|(with_reducible assumption)|assumption)
         obtain ⟨ad631,e631,hx631_0,hx631_1,hx631_2,hx631_3,hx631_4,hx631_5⟩:=at_T50 HR0.out x5_1 p631 q631
         obtain rfl : ad628 = ad631:=(by injection e631)
         replace p631:=eq_true p631
         replace q631:=eq_true q631
         go_wp2
         go_ret
         exact ⟨by first|rfl|(simp;done)|(simp [*];done),by repeat (first|exact Drawn0.refl _|apply Drawn0.step)⟩
      ·
       rw [if_neg c6] at H
       have c6b0 : (((rd_T50 l0 x5_1).f1) == (wrap64 (x1_1 + 1))) = false:=beq_eq_false_iff_ne.mpr c6
       have c6b1 : (((rd_T50 l0 x5_1).f1) != (wrap64 (x1_1 + 1))) = true:=bne_iff_ne.mpr c6
       obtain rfl:=Option.some.inj H
       have p628 : 0 ≤ (x5_1 : Int):=of_decide_eq_true (by first|(with_reducible assumption)|assumption)
       have q628 : x5_1 < (l0.length : Int):=of_decide_eq_true (by first|(with_reducible assumption)|assumption)
       obtain ⟨ad628,e628,hx628_0,hx628_1,hx628_2,hx628_3,hx628_4,hx628_5⟩:=at_T50 HR0.out x5_1 p628 q628
       cases e628
       replace p628:=eq_true p628
       replace q628:=eq_true q628
       have p629 : 0 ≤ (x5_1 : Int):=of_decide_eq_true (by first|(with_reducible assumption)|assumption)
       have q629 : x5_1 < (l0.length : Int):=of_decide_eq_true (by first|(with_reducible assumption)|assumption)
       obtain ⟨ad629,e629,hx629_0,hx629_1,hx629_2,hx629_3,hx629_4,hx629_5⟩:=at_T50 HR0.out x5_1 p629 q629
       obtain rfl : ad628 = ad629:=(by injection e629)
       replace p629:=eq_true p629
       replace q629:=eq_true q629
       go_wp2
       go_ret
       exact ⟨by first|rfl|(simp;done)|(simp [*];done),by repeat (first|exact Drawn0.refl _|apply Drawn0.step)⟩
    ·
     rw [if_neg c4] at H
     exact absurd H (by simp)
   ·
    rw [if_neg c3] at H
    have c3b0 : decide (x5_1 < (l0.length : Int)) = false:=decide_eq_false c3
    clear c3
    obtain rfl:=Option.some.inj H
    go_wp2
    go_ret
    exact ⟨by first|rfl|(simp;done)|(simp [*];done),by repeat (first|exact Drawn0.refl _|apply Drawn0.step)⟩
def laws_heldLs.f (k : Nat) (a0_0 : Int) (a0_1 : Int) (a0_2 : Int) (l0_3 : List Int) (a0_4 : Int) (a0_5 : Int) (l0_6 : List (S50)) (a1 : Int) : Option (Int):=(laws_heldIntS.f k l0_3 a1).bind fun t635 => (if t635 < 0 then (some (-1)) else ((laws_heldLsHostS.f k l0_6 t635).bind fun t636 => (if t636 < 0 then (some (-1)) else (some t636))))
set_option maxHeartbeats 8000000 in
set_option maxRecDepth 100000 in
theorem laws_heldLs.calls (k : Nat) (a0_0 : Int) (a0_1 : Int) (a0_2 : Int) (A0_3 : Option Addr) (c0_3 : Nat) (l0_3 : List Int) (a0_4 : Int) (a0_5 : Int) (A0_6 : Option Addr) (c0_6 : Nat) (l0_6 : List (S50)) (a1 : Int) (r : Int) (w : World) (hr0_3 : Kd.C (Kd.int .i64) w A0_3 l0_3.length l0_3) (hc0_3 : l0_3.length ≤ c0_3) (hr0_6 : Kd.C k50 w A0_6 l0_6.length l0_6) (hc0_6 : l0_6.length ≤ c0_6) (h : laws_heldLs.f k a0_0 a0_1 a0_2 l0_3 a0_4 a0_5 l0_6 a1 = some r) :
  Calls Try.prog 40 #[.agg #[.int .i64 a0_0,.int .i64 a0_1,.int .i64 a0_2,.slice A0_3 l0_3.length c0_3,.int .i64 a0_4,.int .i64 a0_5,.slice A0_6 l0_6.length c0_6],.int .i64 a1] w fun e w' => e = .returned (.int .i64 r) ∧ Below w.heap.size w w':=by
 have hu30:=Try.underlying30
 have HR0_3:=Aside0.mk hr0_3
 have HC0_3:=Aside0.mk hc0_3
 clear hr0_3 hc0_3
 have HR0_6:=Aside0.mk hr0_6
 have HC0_6:=Aside0.mk hc0_6
 clear hr0_6 hc0_6
 have HB:=Aside0.mk (Below.refl w.heap.size w)
 have H : ((laws_heldIntS.f k l0_3 a1).bind fun t635 => (if t635 < 0 then (some (-1)) else ((laws_heldLsHostS.f k l0_6 t635).bind fun t636 => (if t636 < 0 then (some (-1)) else (some t636))))) = some r:=h
 clear h
 replace H:=Option.bind_eq_some_iff.mp H
 obtain ⟨t635,A30,H⟩:=H
 replace H : (if t635 < 0 then (some (-1)) else ((laws_heldLsHostS.f k l0_6 t635).bind fun t636 => (if t636 < 0 then (some (-1)) else (some t636)))) = some r:=H
 have A3:=Aside0.mk A30
 clear A30
 by_cases c4 : t635 < 0
 ·
  rw [if_pos c4] at H
  have c4b0 : decide (t635 < 0) = true:=decide_eq_true c4
  clear c4
  obtain rfl:=Option.some.inj H
  go_enter Try.func40,Try.ntmps40
  go_wp2_with (first|((with_reducible refine gate_dst (N:=2) rfl ?_);refine box_event ?hg (N:=2) ?hd (cs:=#[.int .i64 a0_0,.int .i64 a0_1,.int .i64 a0_2,.slice A0_3 l0_3.length c0_3,.int .i64 a0_4,.int .i64 a0_5,.slice A0_6 l0_6.length c0_6]) (t:=30) ?hr ?_;(case hd => rfl);(case hg => rfl);(case hr => first|(go_simp;done)|(go_simp;rfl));intro gb634 hg w5 hbox hb;have n0_:=Aside0.mk (below_step (by repeat (first|(with_reducible first|exact HB.out|apply below_alloc|apply pw_below_drewN|apply below_drew1)|exact HB.out)) hb);have n1_:=Aside0.mk (hbox);have n2_:=Aside0.mk ((by rw [hg];exact (below_size (by repeat (first|(with_reducible first|exact HB.out|apply below_alloc|apply pw_below_drewN|apply below_drew1)|exact HB.out))) : w.heap.size ≤ gb634));have n3_:=Aside0.mk ((by rw [hg];exact (below_size (by repeat (first|(with_reducible first|exact HB.out|apply below_alloc|apply pw_below_drewN|apply below_drew1)|exact HB.out))) : w.heap.size ≤ gb634));clear HB;have HB:=n0_;have BK634:=n1_;have GW634:=n2_;have GE634:=n3_;clear n0_ n1_ n2_ n3_;clear hb hbox hg;have hcz6_0 : w5.cell? ⟨gb634,0,none⟩ = some (.int .i64 a0_0):=(blk_cell BK634.out 0).trans rfl;have hcz6_1 : w5.cell? ⟨gb634,1,none⟩ = some (.int .i64 a0_1):=(blk_cell BK634.out 1).trans rfl;have hcz6_2 : w5.cell? ⟨gb634,2,none⟩ = some (.int .i64 a0_2):=(blk_cell BK634.out 2).trans rfl;have hcz6_3 : w5.cell? ⟨gb634,3,none⟩ = some (.slice A0_3 l0_3.length c0_3):=(blk_cell BK634.out 3).trans rfl;have hcz6_4 : w5.cell? ⟨gb634,4,none⟩ = some (.int .i64 a0_4):=(blk_cell BK634.out 4).trans rfl;have hcz6_5 : w5.cell? ⟨gb634,5,none⟩ = some (.int .i64 a0_5):=(blk_cell BK634.out 5).trans rfl;have hcz6_6 : w5.cell? ⟨gb634,6,none⟩ = some (.slice A0_6 l0_6.length c0_6):=(blk_cell BK634.out 6).trans rfl;have hfz6_0:=blk_frozen BK634.out 0;have hfz6_1:=blk_frozen BK634.out 1;have hfz6_2:=blk_frozen BK634.out 2;have hfz6_3:=blk_frozen BK634.out 3;have hfz6_4:=blk_frozen BK634.out 4;have hfz6_5:=blk_frozen BK634.out 5;have hfz6_6:=blk_frozen BK634.out 6)|((with_reducible refine gate_callee (f:=28) rfl ?_);refine goesL_ (some 8) rfl rfl Try.func28 (by kernel_rfl) rfl #[.slice A0_3 l0_3.length c0_3,.int .i64 a1] rfl (by (try simp only [List.map_toArray,List.map_cons,List.map_nil]);first|done|rfl|(simp only [List.length_drop,List.length_take];rfl)) ?_;(with_reducible refine (laws_heldIntS.calls k _ _ l0_3 a1 t635 _ ?side1 ?side2 A3.out).mono ?_);(case side1 => repeat (first|exact (Kd.C_below HR0_3.out HB.out)|(with_reducible refine Kd.C_alloc ?_ _)|(with_reducible refine Kd.C_drewN ?_ _)|(with_reducible refine Kd.C_drew ?_)));(case side2 => exact HC0_3.out);rintro e w' ⟨rfl,⟨nd,rfl⟩⟩;refine ⟨_,rfl,?_⟩))
  go_ret
  exact ⟨by first|rfl|(simp [errW_none,errW_some] <;> rfl)|(simp [*,errW_none,errW_some] <;> rfl),by repeat (first|(with_reducible first|exact HB.out|apply below_alloc|apply pw_below_drewN|apply below_drew1|refine below_set ?_ GE634.out)|exact HB.out)⟩
 ·
  rw [if_neg c4] at H
  have c4b0 : decide (t635 < 0) = false:=decide_eq_false c4
  clear c4
  replace H:=Option.bind_eq_some_iff.mp H
  obtain ⟨t636,A70,H⟩:=H
  replace H : (if t636 < 0 then (some (-1)) else (some t636)) = some r:=H
  have A7:=Aside0.mk A70
  clear A70
  by_cases c8 : t636 < 0
  ·
   rw [if_pos c8] at H
   have c8b0 : decide (t636 < 0) = true:=decide_eq_true c8
   clear c8
   obtain rfl:=Option.some.inj H
   go_enter Try.func40,Try.ntmps40
   go_wp2_with (first|((with_reducible refine gate_dst (N:=2) rfl ?_);refine box_event ?hg (N:=2) ?hd (cs:=#[.int .i64 a0_0,.int .i64 a0_1,.int .i64 a0_2,.slice A0_3 l0_3.length c0_3,.int .i64 a0_4,.int .i64 a0_5,.slice A0_6 l0_6.length c0_6]) (t:=30) ?hr ?_;(case hd => rfl);(case hg => rfl);(case hr => first|(go_simp;done)|(go_simp;rfl));intro gb634 hg w9 hbox hb;have n0_:=Aside0.mk (below_step (by repeat (first|(with_reducible first|exact HB.out|apply below_alloc|apply pw_below_drewN|apply below_drew1)|exact HB.out)) hb);have n1_:=Aside0.mk (hbox);have n2_:=Aside0.mk ((by rw [hg];exact (below_size (by repeat (first|(with_reducible first|exact HB.out|apply below_alloc|apply pw_below_drewN|apply below_drew1)|exact HB.out))) : w.heap.size ≤ gb634));have n3_:=Aside0.mk ((by rw [hg];exact (below_size (by repeat (first|(with_reducible first|exact HB.out|apply below_alloc|apply pw_below_drewN|apply below_drew1)|exact HB.out))) : w.heap.size ≤ gb634));clear HB;have HB:=n0_;have BK634:=n1_;have GW634:=n2_;have GE634:=n3_;clear n0_ n1_ n2_ n3_;clear hb hbox hg;have hcz10_0 : w9.cell? ⟨gb634,0,none⟩ = some (.int .i64 a0_0):=(blk_cell BK634.out 0).trans rfl;have hcz10_1 : w9.cell? ⟨gb634,1,none⟩ = some (.int .i64 a0_1):=(blk_cell BK634.out 1).trans rfl;have hcz10_2 : w9.cell? ⟨gb634,2,none⟩ = some (.int .i64 a0_2):=(blk_cell BK634.out 2).trans rfl;have hcz10_3 : w9.cell? ⟨gb634,3,none⟩ = some (.slice A0_3 l0_3.length c0_3):=(blk_cell BK634.out 3).trans rfl;have hcz10_4 : w9.cell? ⟨gb634,4,none⟩ = some (.int .i64 a0_4):=(blk_cell BK634.out 4).trans rfl;have hcz10_5 : w9.cell? ⟨gb634,5,none⟩ = some (.int .i64 a0_5):=(blk_cell BK634.out 5).trans rfl;have hcz10_6 : w9.cell? ⟨gb634,6,none⟩ = some (.slice A0_6 l0_6.length c0_6):=(blk_cell BK634.out 6).trans rfl;have hfz10_0:=blk_frozen BK634.out 0;have hfz10_1:=blk_frozen BK634.out 1;have hfz10_2:=blk_frozen BK634.out 2;have hfz10_3:=blk_frozen BK634.out 3;have hfz10_4:=blk_frozen BK634.out 4;have hfz10_5:=blk_frozen BK634.out 5;have hfz10_6:=blk_frozen BK634.out 6)|((with_reducible refine gate_callee (f:=28) rfl ?_);refine goesL_ (some 8) rfl rfl Try.func28 (by kernel_rfl) rfl #[.slice A0_3 l0_3.length c0_3,.int .i64 a1] rfl (by (try simp only [List.map_toArray,List.map_cons,List.map_nil]);first|done|rfl|(simp only [List.length_drop,List.length_take];rfl)) ?_;(with_reducible refine (laws_heldIntS.calls k _ _ l0_3 a1 t635 _ ?side1 ?side2 A3.out).mono ?_);(case side1 => repeat (first|exact (Kd.C_below HR0_3.out HB.out)|(with_reducible refine Kd.C_alloc ?_ _)|(with_reducible refine Kd.C_drewN ?_ _)|(with_reducible refine Kd.C_drew ?_)));(case side2 => exact HC0_3.out);rintro e w' ⟨rfl,⟨nd,rfl⟩⟩;refine ⟨_,rfl,?_⟩)|((with_reducible refine gate_callee (f:=71) rfl ?_);refine goesL_ (some 14) rfl rfl Try.func71 (by kernel_rfl) rfl #[.slice A0_6 l0_6.length c0_6,.int .i64 t635] rfl (by (try simp only [List.map_toArray,List.map_cons,List.map_nil]);first|done|rfl|(simp only [List.length_drop,List.length_take];rfl)) ?_;(with_reducible refine (laws_heldLsHostS.calls k _ _ l0_6 t635 t636 _ ?side1 ?side2 A7.out).mono ?_);(case side1 => repeat (first|exact (Kd.C_below HR0_6.out (by repeat (first|(with_reducible first|exact HB.out|apply below_alloc|apply pw_below_drewN|apply below_drew1|refine below_set ?_ GE634.out)|exact HB.out)))|(with_reducible refine Kd.C_alloc ?_ _)|(with_reducible refine Kd.C_drewN ?_ _)|(with_reducible refine Kd.C_drew ?_)));(case side2 => exact HC0_6.out);rintro e w' ⟨rfl,⟨nd,rfl⟩⟩;refine ⟨_,rfl,?_⟩))
   go_ret
   exact ⟨by first|rfl|(simp [errW_none,errW_some] <;> rfl)|(simp [*,errW_none,errW_some] <;> rfl),by repeat (first|(with_reducible first|exact HB.out|apply below_alloc|apply pw_below_drewN|apply below_drew1|refine below_set ?_ GE634.out)|exact HB.out)⟩
  ·
   rw [if_neg c8] at H
   have c8b0 : decide (t636 < 0) = false:=decide_eq_false c8
   clear c8
   obtain rfl:=Option.some.inj H
   go_enter Try.func40,Try.ntmps40
   go_wp2_with (first|((with_reducible refine gate_dst (N:=2) rfl ?_);refine box_event ?hg (N:=2) ?hd (cs:=#[.int .i64 a0_0,.int .i64 a0_1,.int .i64 a0_2,.slice A0_3 l0_3.length c0_3,.int .i64 a0_4,.int .i64 a0_5,.slice A0_6 l0_6.length c0_6]) (t:=30) ?hr ?_;(case hd => rfl);(case hg => rfl);(case hr => first|(go_simp;done)|(go_simp;rfl));intro gb634 hg w11 hbox hb;have n0_:=Aside0.mk (below_step (by repeat (first|(with_reducible first|exact HB.out|apply below_alloc|apply pw_below_drewN|apply below_drew1)|exact HB.out)) hb);have n1_:=Aside0.mk (hbox);have n2_:=Aside0.mk ((by rw [hg];exact (below_size (by repeat (first|(with_reducible first|exact HB.out|apply below_alloc|apply pw_below_drewN|apply below_drew1)|exact HB.out))) : w.heap.size ≤ gb634));have n3_:=Aside0.mk ((by rw [hg];exact (below_size (by repeat (first|(with_reducible first|exact HB.out|apply below_alloc|apply pw_below_drewN|apply below_drew1)|exact HB.out))) : w.heap.size ≤ gb634));clear HB;have HB:=n0_;have BK634:=n1_;have GW634:=n2_;have GE634:=n3_;clear n0_ n1_ n2_ n3_;clear hb hbox hg;have hcz12_0 : w11.cell? ⟨gb634,0,none⟩ = some (.int .i64 a0_0):=(blk_cell BK634.out 0).trans rfl;have hcz12_1 : w11.cell? ⟨gb634,1,none⟩ = some (.int .i64 a0_1):=(blk_cell BK634.out 1).trans rfl;have hcz12_2 : w11.cell? ⟨gb634,2,none⟩ = some (.int .i64 a0_2):=(blk_cell BK634.out 2).trans rfl;have hcz12_3 : w11.cell? ⟨gb634,3,none⟩ = some (.slice A0_3 l0_3.length c0_3):=(blk_cell BK634.out 3).trans rfl;have hcz12_4 : w11.cell? ⟨gb634,4,none⟩ = some (.int .i64 a0_4):=(blk_cell BK634.out 4).trans rfl;have hcz12_5 : w11.cell? ⟨gb634,5,none⟩ = some (.int .i64 a0_5):=(blk_cell BK634.out 5).trans rfl;have hcz12_6 : w11.cell? ⟨gb634,6,none⟩ = some (.slice A0_6 l0_6.length c0_6):=(blk_cell BK634.out 6).trans rfl;have hfz12_0:=blk_frozen BK634.out 0;have hfz12_1:=blk_frozen BK634.out 1;have hfz12_2:=blk_frozen BK634.out 2;have hfz12_3:=blk_frozen BK634.out 3;have hfz12_4:=blk_frozen BK634.out 4;have hfz12_5:=blk_frozen BK634.out 5;have hfz12_6:=blk_frozen BK634.out 6)|((with_reducible refine gate_callee (f:=28) rfl ?_);refine goesL_ (some 8) rfl rfl Try.func28 (by kernel_rfl) rfl #[.slice A0_3 l0_3.length c0_3,.int .i64 a1] rfl (by (try simp only [List.map_toArray,List.map_cons,List.map_nil]);first|done|rfl|(simp only [List.length_drop,List.length_take];rfl)) ?_;(with_reducible refine (laws_heldIntS.calls k _ _ l0_3 a1 t635 _ ?side1 ?side2 A3.out).mono ?_);(case side1 => repeat (first|exact (Kd.C_below HR0_3.out HB.out)|(with_reducible refine Kd.C_alloc ?_ _)|(with_reducible refine Kd.C_drewN ?_ _)|(with_reducible refine Kd.C_drew ?_)));(case side2 => exact HC0_3.out);rintro e w' ⟨rfl,⟨nd,rfl⟩⟩;refine ⟨_,rfl,?_⟩)|((with_reducible refine gate_callee (f:=71) rfl ?_);refine goesL_ (some 14) rfl rfl Try.func71 (by kernel_rfl) rfl #[.slice A0_6 l0_6.length c0_6,.int .i64 t635] rfl (by (try simp only [List.map_toArray,List.map_cons,List.map_nil]);first|done|rfl|(simp only [List.length_drop,List.length_take];rfl)) ?_;(with_reducible refine (laws_heldLsHostS.calls k _ _ l0_6 t635 t636 _ ?side1 ?side2 A7.out).mono ?_);(case side1 => repeat (first|exact (Kd.C_below HR0_6.out (by repeat (first|(with_reducible first|exact HB.out|apply below_alloc|apply pw_below_drewN|apply below_drew1|refine below_set ?_ GE634.out)|exact HB.out)))|(with_reducible refine Kd.C_alloc ?_ _)|(with_reducible refine Kd.C_drewN ?_ _)|(with_reducible refine Kd.C_drew ?_)));(case side2 => exact HC0_6.out);rintro e w' ⟨rfl,⟨nd,rfl⟩⟩;refine ⟨_,rfl,?_⟩))
   go_ret
   exact ⟨by first|rfl|(simp [errW_none,errW_some] <;> rfl)|(simp [*,errW_none,errW_some] <;> rfl),by repeat (first|(with_reducible first|exact HB.out|apply below_alloc|apply pw_below_drewN|apply below_drew1|refine below_set ?_ GE634.out)|exact HB.out)⟩
def spec_l18Copy.f (a0_0 : Int) (a0_1 : Int) (a0_2 : Int) (l0_3 : List Int) (a0_4 : Int) (a0_5 : Int) (l0_6 : List (S50)) : Option (Int × Int × Int × List Int × Int × Int × (List (S50))):=(some (([] : List Int) : List Int)).bind fun y658 => (if y658.length + l0_3.length < 17592186044416 then ((some (([] : List (S50)) : List (S50))).bind fun y664 => (if y664.length + l0_6.length < 2932031007402 then (some (a0_0,a0_1,a0_2,(y658 ++ l0_3),a0_4,a0_5,(y664 ++ l0_6))) else (none))) else (none))
set_option maxHeartbeats 8000000 in
set_option maxRecDepth 100000 in
theorem spec_l18Copy.calls (a0_0 : Int) (a0_1 : Int) (a0_2 : Int) (A0_3 : Option Addr) (c0_3 : Nat) (l0_3 : List Int) (a0_4 : Int) (a0_5 : Int) (A0_6 : Option Addr) (c0_6 : Nat) (l0_6 : List (S50)) (r1 : Int) (r2 : Int) (r3 : Int) (r4 : List Int) (r5 : Int) (r6 : Int) (r7 : List (S50)) (w : World) (hr0_3 : Kd.C (Kd.int .i64) w A0_3 l0_3.length l0_3) (hc0_3 : l0_3.length ≤ c0_3) (hr0_6 : Kd.C k50 w A0_6 l0_6.length l0_6) (hc0_6 : l0_6.length ≤ c0_6) (h : spec_l18Copy.f a0_0 a0_1 a0_2 l0_3 a0_4 a0_5 l0_6 = some (r1,r2,r3,r4,r5,r6,r7)) :
  Calls Try.prog 72 #[.agg #[.int .i64 a0_0,.int .i64 a0_1,.int .i64 a0_2,.slice A0_3 l0_3.length c0_3,.int .i64 a0_4,.int .i64 a0_5,.slice A0_6 l0_6.length c0_6]] w fun e w' => ∃ v3_ v6_ : Value,e = .returned (.agg #[.int .i64 r1,.int .i64 r2,.int .i64 r3,v3_,.int .i64 r5,.int .i64 r6,v6_]) ∧ Kd.R (Kd.int .i64) 3 w' w.heap.size (fun _ => True) v3_ r4 ∧ Kd.R k50 50 w' w.heap.size (fun _ => True) v6_ r7 ∧ Below w.heap.size w w':=by
 have hu30:=Try.underlying30
 have HR0_3:=Aside0.mk hr0_3
 have HC0_3:=Aside0.mk hc0_3
 clear hr0_3 hc0_3
 have HR0_6:=Aside0.mk hr0_6
 have HC0_6:=Aside0.mk hc0_6
 clear hr0_6 hc0_6
 have HB:=Aside0.mk (Below.refl w.heap.size w)
 have H : ((some (([] : List Int) : List Int)).bind fun y658 => (if y658.length + l0_3.length < 17592186044416 then ((some (([] : List (S50)) : List (S50))).bind fun y664 => (if y664.length + l0_6.length < 2932031007402 then (some (a0_0,a0_1,a0_2,(y658 ++ l0_3),a0_4,a0_5,(y664 ++ l0_6))) else (none))) else (none))) = some (r1,r2,r3,r4,r5,r6,r7):=h
 clear h
 obtain ⟨y658,hy658⟩ : ∃ y_ : List Int,y_ = (([] : List Int)):=⟨_,rfl⟩
 replace H : (if y658.length + l0_3.length < 17592186044416 then ((some (([] : List (S50)) : List (S50))).bind fun y664 => (if y664.length + l0_6.length < 2932031007402 then (some (a0_0,a0_1,a0_2,(y658 ++ l0_3),a0_4,a0_5,(y664 ++ l0_6))) else (none))) else (none)) = some (r1,r2,r3,r4,r5,r6,r7):=by first|(rw [hy658];with_reducible exact H)|(have H2_:=(Option.bind_some _ _).symm.trans H;rw [hy658];with_reducible exact H2_)|(have H2_:=(Option.bind_some _ _).symm.trans H;with_reducible exact H2_)|with_reducible exact H|(rw [hy658];exact H)|exact H
 have Ny658:=Aside0.mk hy658
 clear hy658
 by_cases c2 : y658.length + l0_3.length < 17592186044416
 ·
  rw [if_pos c2] at H
  have LMc2:=Aside0.mk c2
  clear c2
  obtain ⟨y661,hy661⟩ : ∃ y_ : List Int,y_ = (y658 ++ l0_3):=⟨_,rfl⟩
  replace H : ((some (([] : List (S50)) : List (S50))).bind fun y664 => (if y664.length + l0_6.length < 2932031007402 then (some (a0_0,a0_1,a0_2,y661,a0_4,a0_5,(y664 ++ l0_6))) else (none))) = some (r1,r2,r3,r4,r5,r6,r7):=by first|(rw [hy661];with_reducible exact H)|(have H2_:=(Option.bind_some _ _).symm.trans H;rw [hy661];with_reducible exact H2_)|(have H2_:=(Option.bind_some _ _).symm.trans H;with_reducible exact H2_)|with_reducible exact H|(rw [hy661];exact H)|exact H
  have Ny661:=Aside0.mk hy661
  clear hy661
  obtain ⟨y664,hy664⟩ : ∃ y_ : List (S50),y_ = (([] : List (S50))):=⟨_,rfl⟩
  replace H : (if y664.length + l0_6.length < 2932031007402 then (some (a0_0,a0_1,a0_2,y661,a0_4,a0_5,(y664 ++ l0_6))) else (none)) = some (r1,r2,r3,r4,r5,r6,r7):=by first|(rw [hy664];with_reducible exact H)|(have H2_:=(Option.bind_some _ _).symm.trans H;rw [hy664];with_reducible exact H2_)|(have H2_:=(Option.bind_some _ _).symm.trans H;with_reducible exact H2_)|with_reducible exact H|(rw [hy664];exact H)|exact H
  have Ny664:=Aside0.mk hy664
  clear hy664
  by_cases c3 : y664.length + l0_6.length < 2932031007402
  ·
   rw [if_pos c3] at H
   have LMc3:=Aside0.mk c3
   clear c3
   obtain ⟨y667,hy667⟩ : ∃ y_ : List (S50),y_ = (y664 ++ l0_6):=⟨_,rfl⟩
   replace H : (some (a0_0,a0_1,a0_2,y661,a0_4,a0_5,y667)) = some (r1,r2,r3,r4,r5,r6,r7):=by first|(rw [hy667];with_reducible exact H)|(have H2_:=(Option.bind_some _ _).symm.trans H;rw [hy667];with_reducible exact H2_)|(have H2_:=(Option.bind_some _ _).symm.trans H;with_reducible exact H2_)|with_reducible exact H|(rw [hy667];exact H)|exact H
   have Ny667:=Aside0.mk hy667
   clear hy667
   simp only [Option.some.injEq,Prod.mk.injEq] at H
   obtain ⟨rfl,rfl,rfl,rfl,rfl,rfl,rfl⟩:=H
   go_enter Try.func72,Try.ntmps72
   go_wp2_with (first|((with_reducible refine gate_dst (N:=1) rfl ?_);refine box_event ?hg (N:=1) ?hd (cs:=#[.int .i64 a0_0,.int .i64 a0_1,.int .i64 a0_2,.slice A0_3 l0_3.length c0_3,.int .i64 a0_4,.int .i64 a0_5,.slice A0_6 l0_6.length c0_6]) (t:=30) ?hr ?_;(case hd => rfl);(case hg => rfl);(case hr => first|(go_simp;done)|(go_simp;rfl));intro gb656 hg w4 hbox hb;have n0_:=Aside0.mk (below_step (by repeat (first|(with_reducible first|exact HB.out|apply below_alloc|apply pw_below_drewN|apply below_drew1)|exact HB.out)) hb);have n1_:=Aside0.mk (hbox);have n2_:=Aside0.mk ((by rw [hg];exact (below_size (by repeat (first|(with_reducible first|exact HB.out|apply below_alloc|apply pw_below_drewN|apply below_drew1)|exact HB.out))) : w.heap.size ≤ gb656));have n3_:=Aside0.mk ((by rw [hg];exact (below_size (by repeat (first|(with_reducible first|exact HB.out|apply below_alloc|apply pw_below_drewN|apply below_drew1)|exact HB.out))) : w.heap.size ≤ gb656));clear HB;have HB:=n0_;have BK656:=n1_;have GW656:=n2_;have GE656:=n3_;clear n0_ n1_ n2_ n3_;clear hb hbox hg)|((with_reducible refine gate_dst (N:=2) rfl ?_);refine box_event ?hg (N:=2) ?hd (cs:=#[.int .i64 0,.int .i64 0,.int .i64 0,.slice none 0 0,.int .i64 0,.int .i64 0,.slice none 0 0]) (t:=30) ?hr ?_;(case hd => rfl);(case hg => rfl);(case hr => first|(go_simp;done)|(go_simp;rfl));intro gb657 hg w5 hbox hb;have n0_:=Aside0.mk (blk_below (g:=gb656) (o:=.cells #[.int .i64 a0_0,.int .i64 a0_1,.int .i64 a0_2,.slice A0_3 l0_3.length c0_3,.int .i64 a0_4,.int .i64 a0_5,.slice A0_6 l0_6.length c0_6] 30 (0,0)) (by (with_reducible repeat (first|refine blk_drewN ?_ _|refine blk_drew ?_|refine blk_alloc ?_ _));exact BK656.out) hb);have n1_:=Aside0.mk (below_step (by repeat (first|(with_reducible first|exact HB.out|apply below_alloc|apply pw_below_drewN|apply below_drew1|refine below_set ?_ GE656.out)|exact HB.out)) hb);have n2_:=Aside0.mk (hbox);have n3_:=Aside0.mk ((by rw [hg];exact (below_size (by repeat (first|(with_reducible first|exact HB.out|apply below_alloc|apply pw_below_drewN|apply below_drew1|refine below_set ?_ GE656.out)|exact HB.out))) : w.heap.size ≤ gb657));have n4_:=Aside0.mk ((by rw [hg];exact (below_size (by repeat (first|(with_reducible first|exact HB.out|apply below_alloc|apply pw_below_drewN|apply below_drew1|refine below_set ?_ GE656.out)|exact HB.out))) : w.heap.size ≤ gb657));have n5_:=Aside0.mk ((by rw [hg];exact Nat.ne_of_lt (blk_lt (g:=gb656) (o:=.cells #[.int .i64 a0_0,.int .i64 a0_1,.int .i64 a0_2,.slice A0_3 l0_3.length c0_3,.int .i64 a0_4,.int .i64 a0_5,.slice A0_6 l0_6.length c0_6] 30 (0,0)) (by (with_reducible repeat (first|refine blk_drewN ?_ _|refine blk_drew ?_|refine blk_alloc ?_ _));exact BK656.out)) : gb656 ≠ gb657));have n6_:=Aside0.mk ((by rw [hg];exact Nat.ne_of_gt (blk_lt (g:=gb656) (o:=.cells #[.int .i64 a0_0,.int .i64 a0_1,.int .i64 a0_2,.slice A0_3 l0_3.length c0_3,.int .i64 a0_4,.int .i64 a0_5,.slice A0_6 l0_6.length c0_6] 30 (0,0)) (by (with_reducible repeat (first|refine blk_drewN ?_ _|refine blk_drew ?_|refine blk_alloc ?_ _));exact BK656.out)) : gb657 ≠ gb656));clear BK656;clear HB;have BK656:=n0_;have HB:=n1_;have BK657:=n2_;have GW657:=n3_;have GE657:=n4_;have NB656_657:=n5_;have NB657_656:=n6_;clear n0_ n1_ n2_ n3_ n4_ n5_ n6_;clear hb hbox hg)|((with_reducible refine gate_dst (N:=3) rfl ?_);refine Kd.R_lit (Kd.int .i64) _ 3 ?hg (N:=3) ?hd (xs:=([] : List Int)) (inner:=[]) (ok:=fun _ => True) (okp:=fun _ => True) ?hr ?hp (fun _ hk => hk) trivial (Below.refl _ _) (Nat.le_refl _) (by simp) ?_;(case hd => rfl);(case hg => rfl);(case hr => first|(go_simp;done)|(go_simp;rfl));(case hp => exact (Reps.none _ _));intro v659 w6 ho7 hb hg_ hnew_;clear hg_ hnew_;(first|rw [← Ny658.out] at ho7|(simp only [Int.reduceToNat] at ho7;rw [← Ny658.out] at ho7));have n0_:=Aside0.mk (Kd.R_lower ho7 (below_size (by repeat (first|(with_reducible first|exact HB.out|apply below_alloc|apply pw_below_drewN|apply below_drew1|refine below_set ?_ GE656.out|refine below_set ?_ GE657.out)|exact HB.out))));have n1_:=Aside0.mk (blk_below (g:=gb656) (o:=.cells #[.int .i64 a0_0,.int .i64 a0_1,.int .i64 a0_2,.slice A0_3 l0_3.length c0_3,.int .i64 a0_4,.int .i64 a0_5,.slice A0_6 l0_6.length c0_6] 30 (0,0)) (by (with_reducible repeat (first|refine blk_drewN ?_ _|refine blk_drew ?_|refine blk_alloc ?_ _));exact BK656.out) hb);have n2_:=Aside0.mk (blk_below (g:=gb657) (o:=.cells #[.int .i64 0,.int .i64 0,.int .i64 0,.slice none 0 0,.int .i64 0,.int .i64 0,.slice none 0 0] 30 (0,0)) (by (with_reducible repeat (first|refine blk_drewN ?_ _|refine blk_drew ?_|refine blk_alloc ?_ _));exact BK657.out) hb);have n3_:=Aside0.mk (below_step (by repeat (first|(with_reducible first|exact HB.out|apply below_alloc|apply pw_below_drewN|apply below_drew1|refine below_set ?_ GE656.out|refine below_set ?_ GE657.out)|exact HB.out)) hb);clear BK656;clear BK657;clear HB;have HO660:=n0_;have BK656:=n1_;have BK657:=n2_;have HB:=n3_;clear n0_ n1_ n2_ n3_;clear hb ho7;have hnb8:=NB656_657.out;have hnc8:=NB657_656.out;have hcz9_0 : w6.cell? ⟨gb656,0,none⟩ = some (.int .i64 a0_0):=(blk_cell BK656.out 0).trans rfl;have hcz9_1 : w6.cell? ⟨gb656,1,none⟩ = some (.int .i64 a0_1):=(blk_cell BK656.out 1).trans rfl;have hcz9_2 : w6.cell? ⟨gb656,2,none⟩ = some (.int .i64 a0_2):=(blk_cell BK656.out 2).trans rfl;have hcz9_3 : w6.cell? ⟨gb656,3,none⟩ = some (.slice A0_3 l0_3.length c0_3):=(blk_cell BK656.out 3).trans rfl;have hcz9_4 : w6.cell? ⟨gb656,4,none⟩ = some (.int .i64 a0_4):=(blk_cell BK656.out 4).trans rfl;have hcz9_5 : w6.cell? ⟨gb656,5,none⟩ = some (.int .i64 a0_5):=(blk_cell BK656.out 5).trans rfl;have hcz9_6 : w6.cell? ⟨gb656,6,none⟩ = some (.slice A0_6 l0_6.length c0_6):=(blk_cell BK656.out 6).trans rfl;have hfz9_0:=blk_frozen BK656.out 0;have hfz9_1:=blk_frozen BK656.out 1;have hfz9_2:=blk_frozen BK656.out 2;have hfz9_3:=blk_frozen BK656.out 3;have hfz9_4:=blk_frozen BK656.out 4;have hfz9_5:=blk_frozen BK656.out 5;have hfz9_6:=blk_frozen BK656.out 6)|((with_reducible refine gate_builtin (b:=.append) (xs:=#[.tmp 3,.tmp 5]) rfl ?_);at_builtin;refine Kd.R_append_rows (Kd.int .i64) (w0:=w) w.heap.size rfl (.tmp 3) (.tmp 5) 22 3 (.int .i64 0) 8 rfl Try.underlying22 info3 rfl (by decide) (by omega) v659 y658 l0_3 _ _ _ (fun _ => True) (fun _ => False) rfl rfl ?aO ?aR (fun _ _ h => h) (fun _ h => h.elim) ?aF ?aB ?aS ?aL ?_;(case aR => repeat (first|exact (Kd.C_below HR0_3.out HB.out)|(with_reducible refine Kd.C_alloc ?_ _)|(with_reducible refine Kd.C_drewN ?_ _)|(with_reducible refine Kd.C_drew ?_)));(case aB => exact (by repeat (first|(with_reducible first|exact HB.out|apply below_alloc|apply pw_below_drewN|apply below_drew1|refine below_set ?_ GE656.out|refine below_set ?_ GE657.out)|exact HB.out)));(case aF => exact (fun _ _ => trivial));(case aO => exact (by (with_reducible repeat (first|apply Kd.R_alloc|apply Kd.R_drewN|apply Kd.R_drew));exact HO660.out));(case aS => exact (below_size (by repeat (first|(with_reducible first|exact HB.out|apply below_alloc|apply pw_below_drewN|apply below_drew1|refine below_set ?_ GE656.out|refine below_set ?_ GE657.out)|exact HB.out))));(case aL => have:=LMc2.out;omega);intro v662 w10 ho hb hg hat;rw [← Ny661.out] at ho;have n0_:=Aside0.mk (blk_grown (g:=gb656) (o:=.cells #[.int .i64 a0_0,.int .i64 a0_1,.int .i64 a0_2,.slice A0_3 l0_3.length c0_3,.int .i64 a0_4,.int .i64 a0_5,.slice A0_6 l0_6.length c0_6] 30 (0,0)) (by (with_reducible repeat (first|refine blk_drewN ?_ _|refine blk_drew ?_|refine blk_alloc ?_ _));exact BK656.out) hg (Kd.R_ne HO660.out BK656.out (by decide)));have n1_:=Aside0.mk (blk_grown (g:=gb657) (o:=.cells #[.int .i64 0,.int .i64 0,.int .i64 0,.slice none 0 0,.int .i64 0,.int .i64 0,.slice none 0 0] 30 (0,0)) (by (with_reducible repeat (first|refine blk_drewN ?_ _|refine blk_drew ?_|refine blk_alloc ?_ _));exact BK657.out) hg (Kd.R_ne HO660.out BK657.out (by decide)));have n2_:=Aside0.mk (hb);have n3_:=Aside0.mk (ho);clear BK656;clear BK657;clear HB;clear HO660;have BK656:=n0_;have BK657:=n1_;have HB:=n2_;have HO663:=n3_;clear n0_ n1_ n2_ n3_;clear ho hb hg hat;obtain ⟨Ao11,co11,eo11⟩:=Kd.R_slice HO663.out;subst eo11;have hcz12_0 : w10.cell? ⟨gb656,0,none⟩ = some (.int .i64 a0_0):=(blk_cell BK656.out 0).trans rfl;have hcz12_1 : w10.cell? ⟨gb656,1,none⟩ = some (.int .i64 a0_1):=(blk_cell BK656.out 1).trans rfl;have hcz12_2 : w10.cell? ⟨gb656,2,none⟩ = some (.int .i64 a0_2):=(blk_cell BK656.out 2).trans rfl;have hcz12_3 : w10.cell? ⟨gb656,3,none⟩ = some (.slice A0_3 l0_3.length c0_3):=(blk_cell BK656.out 3).trans rfl;have hcz12_4 : w10.cell? ⟨gb656,4,none⟩ = some (.int .i64 a0_4):=(blk_cell BK656.out 4).trans rfl;have hcz12_5 : w10.cell? ⟨gb656,5,none⟩ = some (.int .i64 a0_5):=(blk_cell BK656.out 5).trans rfl;have hcz12_6 : w10.cell? ⟨gb656,6,none⟩ = some (.slice A0_6 l0_6.length c0_6):=(blk_cell BK656.out 6).trans rfl;have hfz12_0:=blk_frozen BK656.out 0;have hfz12_1:=blk_frozen BK656.out 1;have hfz12_2:=blk_frozen BK656.out 2;have hfz12_3:=blk_frozen BK656.out 3;have hfz12_4:=blk_frozen BK656.out 4;have hfz12_5:=blk_frozen BK656.out 5;have hfz12_6:=blk_frozen BK656.out 6)|((with_reducible refine gate_dst (N:=8) rfl ?_);refine Kd.R_lit k50 _ 50 ?hg (N:=8) ?hd (xs:=([] : List (S50))) (inner:=[]) (ok:=fun _ => True) (okp:=fun _ => True) ?hr ?hp (fun _ hk => hk) trivial (Below.refl _ _) (Nat.le_refl _) (by simp) ?_;(case hd => rfl);(case hg => rfl);(case hr => first|(go_simp;done)|(go_simp;rfl));(case hp => exact (Reps.none _ _));intro v665 w13 ho14 hb hg_ hnew_;clear hg_ hnew_;(first|rw [← Ny664.out] at ho14|(simp only [Int.reduceToNat] at ho14;rw [← Ny664.out] at ho14));have n0_:=Aside0.mk (Kd.R_below (by (with_reducible repeat (first|apply Kd.R_alloc|apply Kd.R_drewN|apply Kd.R_drew));exact (Kd.R_mono (Kd.R_far (p:=⟨gb656,3,none⟩) (Kd.R_types HO663.out BK656.out (by decide)) (fun _ hk => hk.2) (.slice Ao11 y661.length co11)) (fun _ h_ => h_.1))) hb);have n1_:=Aside0.mk (Kd.R_lower ho14 (below_size (by repeat (first|(with_reducible first|exact HB.out|apply below_alloc|apply pw_below_drewN|apply below_drew1|refine below_set ?_ GE656.out|refine below_set ?_ GE657.out)|exact HB.out))));have n2_:=Aside0.mk (blk_below (g:=gb656) (o:=.cells #[.int .i64 a0_0,.int .i64 a0_1,.int .i64 a0_2,.slice Ao11 y661.length co11,.int .i64 a0_4,.int .i64 a0_5,.slice A0_6 l0_6.length c0_6] 30 (0,0)) (by (with_reducible repeat (first|refine blk_drewN ?_ _|refine blk_drew ?_|refine blk_alloc ?_ _));refine blk_put (cs:=#[.int .i64 a0_0,.int .i64 a0_1,.int .i64 a0_2,.slice A0_3 l0_3.length c0_3,.int .i64 a0_4,.int .i64 a0_5,.slice A0_6 l0_6.length c0_6]) ?_ 3 _ rfl;(with_reducible repeat (first|refine blk_drewN ?_ _|refine blk_drew ?_|refine blk_alloc ?_ _));exact BK656.out) hb);have n3_:=Aside0.mk (blk_below (g:=gb657) (o:=.cells #[.int .i64 0,.int .i64 0,.int .i64 0,.slice none 0 0,.int .i64 0,.int .i64 0,.slice none 0 0] 30 (0,0)) (by (with_reducible repeat (first|refine blk_drewN ?_ _|refine blk_drew ?_|refine blk_alloc ?_ _));refine blk_far ?_ NB657_656.out _;(with_reducible repeat (first|refine blk_drewN ?_ _|refine blk_drew ?_|refine blk_alloc ?_ _));exact BK657.out) hb);have n4_:=Aside0.mk (below_step (by repeat (first|(with_reducible first|exact HB.out|apply below_alloc|apply pw_below_drewN|apply below_drew1|refine below_set ?_ GE656.out|refine below_set ?_ GE657.out)|exact HB.out)) hb);clear HO663;clear BK656;clear BK657;clear HB;have HO663:=n0_;have HO666:=n1_;have BK656:=n2_;have BK657:=n3_;have HB:=n4_;clear n0_ n1_ n2_ n3_ n4_;clear hb ho14;have hcz15_0 : w13.cell? ⟨gb656,0,none⟩ = some (.int .i64 a0_0):=(blk_cell BK656.out 0).trans rfl;have hcz15_1 : w13.cell? ⟨gb656,1,none⟩ = some (.int .i64 a0_1):=(blk_cell BK656.out 1).trans rfl;have hcz15_2 : w13.cell? ⟨gb656,2,none⟩ = some (.int .i64 a0_2):=(blk_cell BK656.out 2).trans rfl;have hcz15_3 : w13.cell? ⟨gb656,3,none⟩ = some (.slice Ao11 y661.length co11):=(blk_cell BK656.out 3).trans rfl;have hcz15_4 : w13.cell? ⟨gb656,4,none⟩ = some (.int .i64 a0_4):=(blk_cell BK656.out 4).trans rfl;have hcz15_5 : w13.cell? ⟨gb656,5,none⟩ = some (.int .i64 a0_5):=(blk_cell BK656.out 5).trans rfl;have hcz15_6 : w13.cell? ⟨gb656,6,none⟩ = some (.slice A0_6 l0_6.length c0_6):=(blk_cell BK656.out 6).trans rfl;have hfz15_0:=blk_frozen BK656.out 0;have hfz15_1:=blk_frozen BK656.out 1;have hfz15_2:=blk_frozen BK656.out 2;have hfz15_3:=blk_frozen BK656.out 3;have hfz15_4:=blk_frozen BK656.out 4;have hfz15_5:=blk_frozen BK656.out 5;have hfz15_6:=blk_frozen BK656.out 6)|((with_reducible refine gate_builtin (b:=.append) (xs:=#[.tmp 8,.tmp 10]) rfl ?_);at_builtin;refine Kd.R_append_rows k50 (w0:=w) w.heap.size rfl (.tmp 8) (.tmp 10) 28 50 (.agg #[(.bool false),(.int .i64 0),(.bool false),(.int .i64 0),(.int .i64 0),(.int .i64 0)]) 48 rfl Try.underlying28 info50 rfl (by decide) (by omega) v665 y664 l0_6 _ _ _ (fun _ => True) (fun _ => False) rfl rfl ?aO ?aR (fun _ _ h => h) (fun _ h => h.elim) ?aF ?aB ?aS ?aL ?_;(case aR => repeat (first|exact (Kd.C_below HR0_6.out HB.out)|(with_reducible refine Kd.C_alloc ?_ _)|(with_reducible refine Kd.C_drewN ?_ _)|(with_reducible refine Kd.C_drew ?_)));(case aB => exact (by repeat (first|(with_reducible first|exact HB.out|apply below_alloc|apply pw_below_drewN|apply below_drew1|refine below_set ?_ GE656.out|refine below_set ?_ GE657.out)|exact HB.out)));(case aF => exact (fun _ _ => trivial));(case aO => exact (by (with_reducible repeat (first|apply Kd.R_alloc|apply Kd.R_drewN|apply Kd.R_drew));exact HO666.out));(case aS => exact (below_size (by repeat (first|(with_reducible first|exact HB.out|apply below_alloc|apply pw_below_drewN|apply below_drew1|refine below_set ?_ GE656.out|refine below_set ?_ GE657.out)|exact HB.out))));(case aL => have:=LMc3.out;omega);intro v668 w16 ho hb hg hat;rw [← Ny667.out] at ho;have n0_:=Aside0.mk (blk_grown (g:=gb656) (o:=.cells #[.int .i64 a0_0,.int .i64 a0_1,.int .i64 a0_2,.slice Ao11 y661.length co11,.int .i64 a0_4,.int .i64 a0_5,.slice A0_6 l0_6.length c0_6] 30 (0,0)) (by (with_reducible repeat (first|refine blk_drewN ?_ _|refine blk_drew ?_|refine blk_alloc ?_ _));exact BK656.out) hg (Kd.R_ne HO666.out BK656.out (by decide)));have n1_:=Aside0.mk (blk_grown (g:=gb657) (o:=.cells #[.int .i64 0,.int .i64 0,.int .i64 0,.slice none 0 0,.int .i64 0,.int .i64 0,.slice none 0 0] 30 (0,0)) (by (with_reducible repeat (first|refine blk_drewN ?_ _|refine blk_drew ?_|refine blk_alloc ?_ _));exact BK657.out) hg (Kd.R_ne HO666.out BK657.out (by decide)));have n2_:=Aside0.mk (Kd.R_over' (by (with_reducible repeat (first|apply Kd.R_alloc|apply Kd.R_drewN|apply Kd.R_drew));exact HO663.out) (Kd.R_typed (by (with_reducible repeat (first|apply Kd.R_alloc|apply Kd.R_drewN|apply Kd.R_drew));exact HO666.out)) (by decide) hg);have n3_:=Aside0.mk (hb);have n4_:=Aside0.mk (ho);clear BK656;clear BK657;clear HO663;clear HB;clear HO666;have BK656:=n0_;have BK657:=n1_;have HO663:=n2_;have HB:=n3_;have HO669:=n4_;clear n0_ n1_ n2_ n3_ n4_;clear ho hb hg hat;obtain ⟨Ao17,co17,eo17⟩:=Kd.R_slice HO669.out;subst eo17;have hcz18_0 : w16.cell? ⟨gb656,0,none⟩ = some (.int .i64 a0_0):=(blk_cell BK656.out 0).trans rfl;have hcz18_1 : w16.cell? ⟨gb656,1,none⟩ = some (.int .i64 a0_1):=(blk_cell BK656.out 1).trans rfl;have hcz18_2 : w16.cell? ⟨gb656,2,none⟩ = some (.int .i64 a0_2):=(blk_cell BK656.out 2).trans rfl;have hcz18_3 : w16.cell? ⟨gb656,3,none⟩ = some (.slice Ao11 y661.length co11):=(blk_cell BK656.out 3).trans rfl;have hcz18_4 : w16.cell? ⟨gb656,4,none⟩ = some (.int .i64 a0_4):=(blk_cell BK656.out 4).trans rfl;have hcz18_5 : w16.cell? ⟨gb656,5,none⟩ = some (.int .i64 a0_5):=(blk_cell BK656.out 5).trans rfl;have hcz18_6 : w16.cell? ⟨gb656,6,none⟩ = some (.slice A0_6 l0_6.length c0_6):=(blk_cell BK656.out 6).trans rfl;have hfz18_0:=blk_frozen BK656.out 0;have hfz18_1:=blk_frozen BK656.out 1;have hfz18_2:=blk_frozen BK656.out 2;have hfz18_3:=blk_frozen BK656.out 3;have hfz18_4:=blk_frozen BK656.out 4;have hfz18_5:=blk_frozen BK656.out 5;have hfz18_6:=blk_frozen BK656.out 6;have hcz19_0 : w16.cell? ⟨gb657,0,none⟩ = some (.int .i64 0):=(blk_cell BK657.out 0).trans rfl;have hcz19_1 : w16.cell? ⟨gb657,1,none⟩ = some (.int .i64 0):=(blk_cell BK657.out 1).trans rfl;have hcz19_2 : w16.cell? ⟨gb657,2,none⟩ = some (.int .i64 0):=(blk_cell BK657.out 2).trans rfl;have hcz19_3 : w16.cell? ⟨gb657,3,none⟩ = some (.slice none 0 0):=(blk_cell BK657.out 3).trans rfl;have hcz19_4 : w16.cell? ⟨gb657,4,none⟩ = some (.int .i64 0):=(blk_cell BK657.out 4).trans rfl;have hcz19_5 : w16.cell? ⟨gb657,5,none⟩ = some (.int .i64 0):=(blk_cell BK657.out 5).trans rfl;have hcz19_6 : w16.cell? ⟨gb657,6,none⟩ = some (.slice none 0 0):=(blk_cell BK657.out 6).trans rfl;have hfz19_0:=blk_frozen BK657.out 0;have hfz19_1:=blk_frozen BK657.out 1;have hfz19_2:=blk_frozen BK657.out 2;have hfz19_3:=blk_frozen BK657.out 3;have hfz19_4:=blk_frozen BK657.out 4;have hfz19_5:=blk_frozen BK657.out 5;have hfz19_6:=blk_frozen BK657.out 6))
   refine bodyPost_ret (results_cell_row rfl _ _ gb657 30 #[.int .i64 a0_0,.int .i64 a0_1,.int .i64 a0_2,.slice Ao11 y661.length co11,.int .i64 a0_4,.int .i64 a0_5,.slice Ao17 y667.length co17] (0,0) _ rfl (by (with_reducible repeat (first|refine blk_drewN ?_ _|refine blk_drew ?_|refine blk_alloc ?_ _));refine blk_put (cs:=#[.int .i64 a0_0,.int .i64 a0_1,.int .i64 a0_2,.slice Ao11 y661.length co11,.int .i64 a0_4,.int .i64 a0_5,.slice none 0 0]) ?_ 6 _ rfl;(with_reducible repeat (first|refine blk_drewN ?_ _|refine blk_drew ?_|refine blk_alloc ?_ _));refine blk_put (cs:=#[.int .i64 a0_0,.int .i64 a0_1,.int .i64 a0_2,.slice Ao11 y661.length co11,.int .i64 a0_4,.int .i64 0,.slice none 0 0]) ?_ 5 _ rfl;(with_reducible repeat (first|refine blk_drewN ?_ _|refine blk_drew ?_|refine blk_alloc ?_ _));refine blk_put (cs:=#[.int .i64 a0_0,.int .i64 a0_1,.int .i64 a0_2,.slice Ao11 y661.length co11,.int .i64 0,.int .i64 0,.slice none 0 0]) ?_ 4 _ rfl;(with_reducible repeat (first|refine blk_drewN ?_ _|refine blk_drew ?_|refine blk_alloc ?_ _));refine blk_put (cs:=#[.int .i64 a0_0,.int .i64 a0_1,.int .i64 a0_2,.slice none 0 0,.int .i64 0,.int .i64 0,.slice none 0 0]) ?_ 3 _ rfl;(with_reducible repeat (first|refine blk_drewN ?_ _|refine blk_drew ?_|refine blk_alloc ?_ _));refine blk_put (cs:=#[.int .i64 a0_0,.int .i64 a0_1,.int .i64 0,.slice none 0 0,.int .i64 0,.int .i64 0,.slice none 0 0]) ?_ 2 _ rfl;(with_reducible repeat (first|refine blk_drewN ?_ _|refine blk_drew ?_|refine blk_alloc ?_ _));refine blk_put (cs:=#[.int .i64 a0_0,.int .i64 0,.int .i64 0,.slice none 0 0,.int .i64 0,.int .i64 0,.slice none 0 0]) ?_ 1 _ rfl;(with_reducible repeat (first|refine blk_drewN ?_ _|refine blk_drew ?_|refine blk_alloc ?_ _));refine blk_put (cs:=#[.int .i64 0,.int .i64 0,.int .i64 0,.slice none 0 0,.int .i64 0,.int .i64 0,.slice none 0 0]) ?_ 0 _ rfl;(with_reducible repeat (first|refine blk_drewN ?_ _|refine blk_drew ?_|refine blk_alloc ?_ _));refine blk_far ?_ NB657_656.out _;(with_reducible repeat (first|refine blk_drewN ?_ _|refine blk_drew ?_|refine blk_alloc ?_ _));exact BK657.out) Try.underlying30 rfl (by kernel_rfl)) rfl ?_
   exact ⟨_,_,by first|rfl|(simp [errW_none,errW_some] <;> rfl)|(simp [*,errW_none,errW_some] <;> rfl),by (with_reducible repeat (first|apply Kd.R_alloc|apply Kd.R_drewN|apply Kd.R_drew));exact Kd.R_mono (Kd.R_far (p:=⟨gb657,6,none⟩) (Kd.R_far (p:=⟨gb657,5,none⟩) (Kd.R_far (p:=⟨gb657,4,none⟩) (Kd.R_far (p:=⟨gb657,3,none⟩) (Kd.R_far (p:=⟨gb657,2,none⟩) (Kd.R_far (p:=⟨gb657,1,none⟩) (Kd.R_far (p:=⟨gb657,0,none⟩) (Kd.R_far (p:=⟨gb656,6,none⟩) (Kd.R_types (Kd.R_types HO663.out BK656.out (by decide)) BK657.out (by decide)) (fun _ hk => hk.1.2) (.slice Ao17 y667.length co17)) (fun _ hk => hk.2) (.int .i64 a0_0)) (fun _ hk => hk.2) (.int .i64 a0_1)) (fun _ hk => hk.2) (.int .i64 a0_2)) (fun _ hk => hk.2) (.slice Ao11 y661.length co11)) (fun _ hk => hk.2) (.int .i64 a0_4)) (fun _ hk => hk.2) (.int .i64 a0_5)) (fun _ hk => hk.2) (.slice Ao17 y667.length co17)) (fun _ hk => trivial),by (with_reducible repeat (first|apply Kd.R_alloc|apply Kd.R_drewN|apply Kd.R_drew));exact Kd.R_mono (Kd.R_far (p:=⟨gb657,6,none⟩) (Kd.R_far (p:=⟨gb657,5,none⟩) (Kd.R_far (p:=⟨gb657,4,none⟩) (Kd.R_far (p:=⟨gb657,3,none⟩) (Kd.R_far (p:=⟨gb657,2,none⟩) (Kd.R_far (p:=⟨gb657,1,none⟩) (Kd.R_far (p:=⟨gb657,0,none⟩) (Kd.R_far (p:=⟨gb656,6,none⟩) (Kd.R_types (Kd.R_types HO669.out BK656.out (by decide)) BK657.out (by decide)) (fun _ hk => hk.1.2) (.slice Ao17 y667.length co17)) (fun _ hk => hk.2) (.int .i64 a0_0)) (fun _ hk => hk.2) (.int .i64 a0_1)) (fun _ hk => hk.2) (.int .i64 a0_2)) (fun _ hk => hk.2) (.slice Ao11 y661.length co11)) (fun _ hk => hk.2) (.int .i64 a0_4)) (fun _ hk => hk.2) (.int .i64 a0_5)) (fun _ hk => hk.2) (.slice Ao17 y667.length co17)) (fun _ hk => trivial),by repeat (first|(with_reducible first|exact HB.out|apply below_alloc|apply pw_below_drewN|apply below_drew1|refine below_set ?_ GE656.out|refine below_set ?_ GE657.out)|exact HB.out)⟩
  ·
   rw [if_neg c3] at H
   exact absurd H (by simp)
 ·
  rw [if_neg c2] at H
  exact absurd H (by simp)
end Go.Proofs.Ytnldanonpdijgaa.P
