-- Ours: printed or written for this claim; cut to what the theorem needs.
import Derived.Test.YtnldanonpdijgaaZPx0
import Derived.Test.YtnldanonpdijgaaZPx3
import Derived.Test.YtnldanonpdijgaaZPx4
import Derived.Test.YtnldanonpdijgaaZPx5
namespace Go.Proofs.Ytnldanonpdijgaa.P
open Go.RowKit Go.Proofs.YtnldanonpdijgaaW.PrintWords Go.Proofs.YtnldanonpdijgaaW.PrintLast Go.Proofs.YtnldanonpdijgaaW.PrintMore
attribute [local go_sem] max2_int min2_int max_two min_two max_three min_three max_four min_four
set_option linter.unusedVariables false
set_option linter.unusedSimpArgs false
mutual
def impl_isLs.j0 : Nat → Bool → Int → Int → Int → List Int → Int → Int → List (S50) → Option (Bool)
  | 0,_,_,_,_,_,_,_,_ => none
  | k + 1,x35,x164000,x164001,x164002,x164003,x164004,x164005,x164006 => if x35 = true then (some false) else ((slices_ContainsFunc_int_at_isLs_1.f k x164003).bind fun t168 => (if t168 = true then (impl_isLs.j1 k true x164000 x164001 x164002 x164003 x164004 x164005 x164006) else ((impl_Ls_isOwner.f x164000 x164001 x164002 x164003 x164004 x164005 x164006 x164004).bind fun t169 => (if t169 = true then ((impl_in.f x164005 0 100000).bind fun t170 => (impl_isLs.j1 k (!t170) x164000 x164001 x164002 x164003 x164004 x164005 x164006)) else (impl_isLs.j1 k true x164000 x164001 x164002 x164003 x164004 x164005 x164006)))))
def impl_isLs.j1 : Nat → Bool → Int → Int → Int → List Int → Int → Int → List (S50) → Option (Bool)
  | 0,_,_,_,_,_,_,_,_ => none
  | k + 1,x50,x164000,x164001,x164002,x164003,x164004,x164005,x164006 => if x50 = true then (some false) else (impl_isLs.l0 k (x164006.length : Int) 0 x164000 x164001 x164002 x164003 x164004 x164005 x164006)
def impl_isLs.l0 : Nat → Int → Int → Int → Int → Int → List Int → Int → Int → List (S50) → Option (Bool)
  | 0,_,_,_,_,_,_,_,_,_ => none
  | k + 1,x53,x54,x164000,x164001,x164002,x164003,x164004,x164005,x164006 => if x54 < x53 then ((impl_Ls_hostOk.f k x164000 x164001 x164002 x164003 x164004 x164005 x164006 x54).bind fun t171 => (if t171 = true then (impl_isLs.l0 k x53 (wrap64 (x54 + 1)) x164000 x164001 x164002 x164003 x164004 x164005 x164006) else (some false))) else (some true)
end
def impl_isLs.f (k : Nat) (a0_0 : Int) (a0_1 : Int) (a0_2 : Int) (l0_3 : List Int) (a0_4 : Int) (a0_5 : Int) (l0_6 : List (S50)) : Option (Bool):=(impl_in.f a0_0 1 1000).bind fun t164 => (if t164 = true then ((impl_in.f a0_1 1 1000).bind fun t165 => (if t165 = true then ((impl_in.f a0_2 0 100000).bind fun t166 => (if t166 = true then ((impl_in.f (l0_3.length : Int) 1 4).bind fun t167 => (if t167 = true then (impl_isLs.j0 k ((l0_6.length : Int) != (l0_3.length : Int)) a0_0 a0_1 a0_2 l0_3 a0_4 a0_5 l0_6) else (impl_isLs.j0 k true a0_0 a0_1 a0_2 l0_3 a0_4 a0_5 l0_6))) else (impl_isLs.j0 k true a0_0 a0_1 a0_2 l0_3 a0_4 a0_5 l0_6))) else (impl_isLs.j0 k true a0_0 a0_1 a0_2 l0_3 a0_4 a0_5 l0_6))) else (impl_isLs.j0 k true a0_0 a0_1 a0_2 l0_3 a0_4 a0_5 l0_6))
set_option maxHeartbeats 8000000 in
set_option maxRecDepth 100000 in
theorem impl_isLs.calls (k : Nat) (a0_0 : Int) (a0_1 : Int) (a0_2 : Int) (A0_3 : Option Addr) (c0_3 : Nat) (l0_3 : List Int) (a0_4 : Int) (a0_5 : Int) (A0_6 : Option Addr) (c0_6 : Nat) (l0_6 : List (S50)) (r : Bool) (w : World) (hr0_3 : Kd.C (Kd.int .i64) w A0_3 l0_3.length l0_3) (hc0_3 : l0_3.length ≤ c0_3) (hr0_6 : Kd.C k50 w A0_6 l0_6.length l0_6) (hc0_6 : l0_6.length ≤ c0_6) (h : impl_isLs.f k a0_0 a0_1 a0_2 l0_3 a0_4 a0_5 l0_6 = some r) :
  Calls Try.prog 51 #[.agg #[.int .i64 a0_0,.int .i64 a0_1,.int .i64 a0_2,.slice A0_3 l0_3.length c0_3,.int .i64 a0_4,.int .i64 a0_5,.slice A0_6 l0_6.length c0_6]] w fun e w' => e = .returned (.bool r) ∧ Below w.heap.size w w':=by
 have hu30:=Try.underlying30
 have HR0_3:=Aside0.mk hr0_3
 have HC0_3:=Aside0.mk hc0_3
 clear hr0_3 hc0_3
 have HR0_6:=Aside0.mk hr0_6
 have HC0_6:=Aside0.mk hc0_6
 clear hr0_6 hc0_6
 have HB:=Aside0.mk (Below.refl w.heap.size w)
 have H : ((impl_in.f a0_0 1 1000).bind fun t164 => (if t164 = true then ((impl_in.f a0_1 1 1000).bind fun t165 => (if t165 = true then ((impl_in.f a0_2 0 100000).bind fun t166 => (if t166 = true then ((impl_in.f (l0_3.length : Int) 1 4).bind fun t167 => (if t167 = true then (impl_isLs.j0 k ((l0_6.length : Int) != (l0_3.length : Int)) a0_0 a0_1 a0_2 l0_3 a0_4 a0_5 l0_6) else (impl_isLs.j0 k true a0_0 a0_1 a0_2 l0_3 a0_4 a0_5 l0_6))) else (impl_isLs.j0 k true a0_0 a0_1 a0_2 l0_3 a0_4 a0_5 l0_6))) else (impl_isLs.j0 k true a0_0 a0_1 a0_2 l0_3 a0_4 a0_5 l0_6))) else (impl_isLs.j0 k true a0_0 a0_1 a0_2 l0_3 a0_4 a0_5 l0_6))) = some r:=h
 clear h
 have HC2:=Aside0.mk H
 clear H
 go_enter Try.func51,Try.ntmps51
 go_upto_region 1 with (first|((with_reducible refine gate_dst (N:=1) rfl ?_);(try (refine gate_guard (by rfl) ?_;dsimp only));refine box_event ?hg (N:=1) ?hd (cs:=#[.int .i64 a0_0,.int .i64 a0_1,.int .i64 a0_2,.slice A0_3 l0_3.length c0_3,.int .i64 a0_4,.int .i64 a0_5,.slice A0_6 l0_6.length c0_6]) (t:=30) ?hr ?_;(case hd => rfl);(case hg => rfl);(case hr => first|(go_simp;done)|(go_simp;rfl));intro gb163 hg w3 hbox hb;have n0_:=Aside0.mk (below_step (by repeat (first|(with_reducible first|exact HB.out|apply below_alloc|apply pw_below_drewN|apply below_drew1)|exact HB.out)) hb);have n1_:=Aside0.mk (hbox);have n2_:=Aside0.mk ((by rw [hg];exact (below_size (by repeat (first|(with_reducible first|exact HB.out|apply below_alloc|apply pw_below_drewN|apply below_drew1)|exact HB.out))) : w.heap.size ≤ gb163));have n3_:=Aside0.mk ((by rw [hg];exact (below_size (by repeat (first|(with_reducible first|exact HB.out|apply below_alloc|apply pw_below_drewN|apply below_drew1)|exact HB.out))) : w.heap.size ≤ gb163));clear HB;have HB:=n0_;have BK163:=n1_;have GW163:=n2_;have GE163:=n3_;clear n0_ n1_ n2_ n3_;clear hb hbox hg))
 (try simp only [Act.put,List.setIfInBounds_toArray,List.set_cons_zero,List.set_cons_succ])
 go_cut [35] (fun v35 wc => ∃ (kq : Nat) (x35_1 : Bool),v35 = .bool x35_1 ∧ Aside0 (impl_isLs.j0 kq x35_1 a0_0 a0_1 a0_2 l0_3 a0_4 a0_5 l0_6 = some r) ∧ Aside0 (kq ≤ k) ∧ Aside0 (wc.heap[gb163]? = some (.cells #[.int .i64 a0_0,.int .i64 a0_1,.int .i64 a0_2,(.slice A0_3 l0_3.length c0_3),.int .i64 a0_4,.int .i64 a0_5,(.slice A0_6 l0_6.length c0_6)] 30 (0,0))) ∧ Aside0 (Below w.heap.size w wc))
 case first =>
  have H:=HC2.out
  clear HC2
  replace H:=Option.bind_eq_some_iff.mp H
  obtain ⟨t164,A40,H⟩:=H
  replace H : (if t164 = true then ((impl_in.f a0_1 1 1000).bind fun t165 => (if t165 = true then ((impl_in.f a0_2 0 100000).bind fun t166 => (if t166 = true then ((impl_in.f (l0_3.length : Int) 1 4).bind fun t167 => (if t167 = true then (impl_isLs.j0 k ((l0_6.length : Int) != (l0_3.length : Int)) a0_0 a0_1 a0_2 l0_3 a0_4 a0_5 l0_6) else (impl_isLs.j0 k true a0_0 a0_1 a0_2 l0_3 a0_4 a0_5 l0_6))) else (impl_isLs.j0 k true a0_0 a0_1 a0_2 l0_3 a0_4 a0_5 l0_6))) else (impl_isLs.j0 k true a0_0 a0_1 a0_2 l0_3 a0_4 a0_5 l0_6))) else (impl_isLs.j0 k true a0_0 a0_1 a0_2 l0_3 a0_4 a0_5 l0_6)) = some r:=H
  have A4:=Aside0.mk A40
  clear A40
  by_cases c5 : t164 = true
  ·
   subst c5
   have H1 : ((impl_in.f a0_1 1 1000).bind fun t165 => (if t165 = true then ((impl_in.f a0_2 0 100000).bind fun t166 => (if t166 = true then ((impl_in.f (l0_3.length : Int) 1 4).bind fun t167 => (if t167 = true then (impl_isLs.j0 k ((l0_6.length : Int) != (l0_3.length : Int)) a0_0 a0_1 a0_2 l0_3 a0_4 a0_5 l0_6) else (impl_isLs.j0 k true a0_0 a0_1 a0_2 l0_3 a0_4 a0_5 l0_6))) else (impl_isLs.j0 k true a0_0 a0_1 a0_2 l0_3 a0_4 a0_5 l0_6))) else (impl_isLs.j0 k true a0_0 a0_1 a0_2 l0_3 a0_4 a0_5 l0_6))) = some r:=by rw [if_pos rfl] at H;exact H
   clear H
   have H:=H1
   clear H1
   replace H:=Option.bind_eq_some_iff.mp H
   obtain ⟨t165,A60,H⟩:=H
   replace H : (if t165 = true then ((impl_in.f a0_2 0 100000).bind fun t166 => (if t166 = true then ((impl_in.f (l0_3.length : Int) 1 4).bind fun t167 => (if t167 = true then (impl_isLs.j0 k ((l0_6.length : Int) != (l0_3.length : Int)) a0_0 a0_1 a0_2 l0_3 a0_4 a0_5 l0_6) else (impl_isLs.j0 k true a0_0 a0_1 a0_2 l0_3 a0_4 a0_5 l0_6))) else (impl_isLs.j0 k true a0_0 a0_1 a0_2 l0_3 a0_4 a0_5 l0_6))) else (impl_isLs.j0 k true a0_0 a0_1 a0_2 l0_3 a0_4 a0_5 l0_6)) = some r:=H
   have A6:=Aside0.mk A60
   clear A60
   by_cases c7 : t165 = true
   ·
    subst c7
    have H1 : ((impl_in.f a0_2 0 100000).bind fun t166 => (if t166 = true then ((impl_in.f (l0_3.length : Int) 1 4).bind fun t167 => (if t167 = true then (impl_isLs.j0 k ((l0_6.length : Int) != (l0_3.length : Int)) a0_0 a0_1 a0_2 l0_3 a0_4 a0_5 l0_6) else (impl_isLs.j0 k true a0_0 a0_1 a0_2 l0_3 a0_4 a0_5 l0_6))) else (impl_isLs.j0 k true a0_0 a0_1 a0_2 l0_3 a0_4 a0_5 l0_6))) = some r:=by rw [if_pos rfl] at H;exact H
    clear H
    have H:=H1
    clear H1
    replace H:=Option.bind_eq_some_iff.mp H
    obtain ⟨t166,A80,H⟩:=H
    replace H : (if t166 = true then ((impl_in.f (l0_3.length : Int) 1 4).bind fun t167 => (if t167 = true then (impl_isLs.j0 k ((l0_6.length : Int) != (l0_3.length : Int)) a0_0 a0_1 a0_2 l0_3 a0_4 a0_5 l0_6) else (impl_isLs.j0 k true a0_0 a0_1 a0_2 l0_3 a0_4 a0_5 l0_6))) else (impl_isLs.j0 k true a0_0 a0_1 a0_2 l0_3 a0_4 a0_5 l0_6)) = some r:=H
    have A8:=Aside0.mk A80
    clear A80
    by_cases c9 : t166 = true
    ·
     subst c9
     have H1 : ((impl_in.f (l0_3.length : Int) 1 4).bind fun t167 => (if t167 = true then (impl_isLs.j0 k ((l0_6.length : Int) != (l0_3.length : Int)) a0_0 a0_1 a0_2 l0_3 a0_4 a0_5 l0_6) else (impl_isLs.j0 k true a0_0 a0_1 a0_2 l0_3 a0_4 a0_5 l0_6))) = some r:=by rw [if_pos rfl] at H;exact H
     clear H
     have H:=H1
     clear H1
     replace H:=Option.bind_eq_some_iff.mp H
     obtain ⟨t167,A100,H⟩:=H
     replace H : (if t167 = true then (impl_isLs.j0 k ((l0_6.length : Int) != (l0_3.length : Int)) a0_0 a0_1 a0_2 l0_3 a0_4 a0_5 l0_6) else (impl_isLs.j0 k true a0_0 a0_1 a0_2 l0_3 a0_4 a0_5 l0_6)) = some r:=H
     have A10:=Aside0.mk A100
     clear A100
     by_cases c11 : t167 = true
     ·
      subst c11
      have H1 : (impl_isLs.j0 k ((l0_6.length : Int) != (l0_3.length : Int)) a0_0 a0_1 a0_2 l0_3 a0_4 a0_5 l0_6) = some r:=by rw [if_pos rfl] at H;exact H
      clear H
      have H:=H1
      clear H1
      have H':=Aside0.mk H
      clear H
      have hcz12_0 : w3.cell? ⟨gb163,0,none⟩ = some (.int .i64 a0_0):=(blk_cell BK163.out 0).trans rfl
      have hcz12_1 : w3.cell? ⟨gb163,1,none⟩ = some (.int .i64 a0_1):=(blk_cell BK163.out 1).trans rfl
      have hcz12_2 : w3.cell? ⟨gb163,2,none⟩ = some (.int .i64 a0_2):=(blk_cell BK163.out 2).trans rfl
      have hcz12_3 : w3.cell? ⟨gb163,3,none⟩ = some (.slice A0_3 l0_3.length c0_3):=(blk_cell BK163.out 3).trans rfl
      have hcz12_4 : w3.cell? ⟨gb163,4,none⟩ = some (.int .i64 a0_4):=(blk_cell BK163.out 4).trans rfl
      have hcz12_5 : w3.cell? ⟨gb163,5,none⟩ = some (.int .i64 a0_5):=(blk_cell BK163.out 5).trans rfl
      have hcz12_6 : w3.cell? ⟨gb163,6,none⟩ = some (.slice A0_6 l0_6.length c0_6):=(blk_cell BK163.out 6).trans rfl
      have hfz12_0:=blk_frozen BK163.out 0
      have hfz12_1:=blk_frozen BK163.out 1
      have hfz12_2:=blk_frozen BK163.out 2
      have hfz12_3:=blk_frozen BK163.out 3
      have hfz12_4:=blk_frozen BK163.out 4
      have hfz12_5:=blk_frozen BK163.out 5
      have hfz12_6:=blk_frozen BK163.out 6
      go_wp2_with (first|((with_reducible refine gate_callee (f:=54) rfl ?_);refine goesL_ (some 6) rfl rfl Try.func54 (by kernel_rfl) rfl #[.int .i64 a0_0,.int .i64 1,.int .i64 1000] rfl (by (try simp only [List.map_toArray,List.map_cons,List.map_nil]);first|done|rfl|(simp only [List.length_drop,List.length_take];rfl)) ?_;(with_reducible refine (impl_in.calls a0_0 1 1000 true _ A4.out).mono ?_);rintro e w' ⟨rfl,⟨nd,rfl⟩⟩;refine ⟨_,rfl,?_⟩)|(go_at_call 54;(with_reducible refine (impl_in.calls a0_1 1 1000 true _ A6.out).mono ?_);rintro e w' ⟨rfl,⟨nd,rfl⟩⟩)|(go_at_call 54;(with_reducible refine (impl_in.calls a0_2 0 100000 true _ A8.out).mono ?_);rintro e w' ⟨rfl,⟨nd,rfl⟩⟩)|(go_at_call 54;(with_reducible refine (impl_in.calls (l0_3.length : Int) 1 4 true _ A10.out).mono ?_);rintro e w' ⟨rfl,⟨nd,rfl⟩⟩))
      go_meet
      case rel => exact ⟨_,(((l0_6.length : Int) != (l0_3.length : Int))),(by first|rfl|(simp;done)|(simp [*];done)),H',⟨by first|omega|exact Nat.le_refl _⟩,⟨by (with_reducible repeat (first|refine blk_drewN ?_ _|refine blk_drew ?_|refine blk_alloc ?_ _));exact BK163.out⟩,⟨by repeat (first|(with_reducible first|exact HB.out|apply below_alloc|apply pw_below_drewN|apply below_drew1|refine below_set ?_ GE163.out)|exact HB.out)⟩⟩
     ·
      replace c11:=Bool.eq_false_iff.mpr c11
      subst c11
      have H1 : (impl_isLs.j0 k true a0_0 a0_1 a0_2 l0_3 a0_4 a0_5 l0_6) = some r:=by rw [if_neg (show ¬ (false = true) by decide)] at H;exact H
      clear H
      have H:=H1
      clear H1
      have H':=Aside0.mk H
      clear H
      have hcz13_0 : w3.cell? ⟨gb163,0,none⟩ = some (.int .i64 a0_0):=(blk_cell BK163.out 0).trans rfl
      have hcz13_1 : w3.cell? ⟨gb163,1,none⟩ = some (.int .i64 a0_1):=(blk_cell BK163.out 1).trans rfl
      have hcz13_2 : w3.cell? ⟨gb163,2,none⟩ = some (.int .i64 a0_2):=(blk_cell BK163.out 2).trans rfl
      have hcz13_3 : w3.cell? ⟨gb163,3,none⟩ = some (.slice A0_3 l0_3.length c0_3):=(blk_cell BK163.out 3).trans rfl
      have hcz13_4 : w3.cell? ⟨gb163,4,none⟩ = some (.int .i64 a0_4):=(blk_cell BK163.out 4).trans rfl
      have hcz13_5 : w3.cell? ⟨gb163,5,none⟩ = some (.int .i64 a0_5):=(blk_cell BK163.out 5).trans rfl
      have hcz13_6 : w3.cell? ⟨gb163,6,none⟩ = some (.slice A0_6 l0_6.length c0_6):=(blk_cell BK163.out 6).trans rfl
      have hfz13_0:=blk_frozen BK163.out 0
      have hfz13_1:=blk_frozen BK163.out 1
      have hfz13_2:=blk_frozen BK163.out 2
      have hfz13_3:=blk_frozen BK163.out 3
      have hfz13_4:=blk_frozen BK163.out 4
      have hfz13_5:=blk_frozen BK163.out 5
      have hfz13_6:=blk_frozen BK163.out 6
      go_wp2_with (first|((with_reducible refine gate_callee (f:=54) rfl ?_);refine goesL_ (some 6) rfl rfl Try.func54 (by kernel_rfl) rfl #[.int .i64 a0_0,.int .i64 1,.int .i64 1000] rfl (by (try simp only [List.map_toArray,List.map_cons,List.map_nil]);first|done|rfl|(simp only [List.length_drop,List.length_take];rfl)) ?_;(with_reducible refine (impl_in.calls a0_0 1 1000 true _ A4.out).mono ?_);rintro e w' ⟨rfl,⟨nd,rfl⟩⟩;refine ⟨_,rfl,?_⟩)|(go_at_call 54;(with_reducible refine (impl_in.calls a0_1 1 1000 true _ A6.out).mono ?_);rintro e w' ⟨rfl,⟨nd,rfl⟩⟩)|(go_at_call 54;(with_reducible refine (impl_in.calls a0_2 0 100000 true _ A8.out).mono ?_);rintro e w' ⟨rfl,⟨nd,rfl⟩⟩)|(go_at_call 54;(with_reducible refine (impl_in.calls (l0_3.length : Int) 1 4 false _ A10.out).mono ?_);rintro e w' ⟨rfl,⟨nd,rfl⟩⟩))
      go_meet
      case rel => exact ⟨_,(true),(by first|rfl|(simp;done)|(simp [*];done)),H',⟨by first|omega|exact Nat.le_refl _⟩,⟨by (with_reducible repeat (first|refine blk_drewN ?_ _|refine blk_drew ?_|refine blk_alloc ?_ _));exact BK163.out⟩,⟨by repeat (first|(with_reducible first|exact HB.out|apply below_alloc|apply pw_below_drewN|apply below_drew1|refine below_set ?_ GE163.out)|exact HB.out)⟩⟩
    ·
     replace c9:=Bool.eq_false_iff.mpr c9
     subst c9
     have H1 : (impl_isLs.j0 k true a0_0 a0_1 a0_2 l0_3 a0_4 a0_5 l0_6) = some r:=by rw [if_neg (show ¬ (false = true) by decide)] at H;exact H
     clear H
     have H:=H1
     clear H1
     have H':=Aside0.mk H
     clear H
     have hcz14_0 : w3.cell? ⟨gb163,0,none⟩ = some (.int .i64 a0_0):=(blk_cell BK163.out 0).trans rfl
     have hcz14_1 : w3.cell? ⟨gb163,1,none⟩ = some (.int .i64 a0_1):=(blk_cell BK163.out 1).trans rfl
     have hcz14_2 : w3.cell? ⟨gb163,2,none⟩ = some (.int .i64 a0_2):=(blk_cell BK163.out 2).trans rfl
     have hcz14_3 : w3.cell? ⟨gb163,3,none⟩ = some (.slice A0_3 l0_3.length c0_3):=(blk_cell BK163.out 3).trans rfl
     have hcz14_4 : w3.cell? ⟨gb163,4,none⟩ = some (.int .i64 a0_4):=(blk_cell BK163.out 4).trans rfl
     have hcz14_5 : w3.cell? ⟨gb163,5,none⟩ = some (.int .i64 a0_5):=(blk_cell BK163.out 5).trans rfl
     have hcz14_6 : w3.cell? ⟨gb163,6,none⟩ = some (.slice A0_6 l0_6.length c0_6):=(blk_cell BK163.out 6).trans rfl
     have hfz14_0:=blk_frozen BK163.out 0
     have hfz14_1:=blk_frozen BK163.out 1
     have hfz14_2:=blk_frozen BK163.out 2
     have hfz14_3:=blk_frozen BK163.out 3
     have hfz14_4:=blk_frozen BK163.out 4
     have hfz14_5:=blk_frozen BK163.out 5
     have hfz14_6:=blk_frozen BK163.out 6
     go_wp2_with (first|((with_reducible refine gate_callee (f:=54) rfl ?_);refine goesL_ (some 6) rfl rfl Try.func54 (by kernel_rfl) rfl #[.int .i64 a0_0,.int .i64 1,.int .i64 1000] rfl (by (try simp only [List.map_toArray,List.map_cons,List.map_nil]);first|done|rfl|(simp only [List.length_drop,List.length_take];rfl)) ?_;(with_reducible refine (impl_in.calls a0_0 1 1000 true _ A4.out).mono ?_);rintro e w' ⟨rfl,⟨nd,rfl⟩⟩;refine ⟨_,rfl,?_⟩)|(go_at_call 54;(with_reducible refine (impl_in.calls a0_1 1 1000 true _ A6.out).mono ?_);rintro e w' ⟨rfl,⟨nd,rfl⟩⟩)|(go_at_call 54;(with_reducible refine (impl_in.calls a0_2 0 100000 false _ A8.out).mono ?_);rintro e w' ⟨rfl,⟨nd,rfl⟩⟩))
     go_meet
     case rel => exact ⟨_,(true),(by first|rfl|(simp;done)|(simp [*];done)),H',⟨by first|omega|exact Nat.le_refl _⟩,⟨by (with_reducible repeat (first|refine blk_drewN ?_ _|refine blk_drew ?_|refine blk_alloc ?_ _));exact BK163.out⟩,⟨by repeat (first|(with_reducible first|exact HB.out|apply below_alloc|apply pw_below_drewN|apply below_drew1|refine below_set ?_ GE163.out)|exact HB.out)⟩⟩
   ·
    replace c7:=Bool.eq_false_iff.mpr c7
    subst c7
    have H1 : (impl_isLs.j0 k true a0_0 a0_1 a0_2 l0_3 a0_4 a0_5 l0_6) = some r:=by rw [if_neg (show ¬ (false = true) by decide)] at H;exact H
    clear H
    have H:=H1
    clear H1
    have H':=Aside0.mk H
    clear H
    have hcz15_0 : w3.cell? ⟨gb163,0,none⟩ = some (.int .i64 a0_0):=(blk_cell BK163.out 0).trans rfl
    have hcz15_1 : w3.cell? ⟨gb163,1,none⟩ = some (.int .i64 a0_1):=(blk_cell BK163.out 1).trans rfl
    have hcz15_2 : w3.cell? ⟨gb163,2,none⟩ = some (.int .i64 a0_2):=(blk_cell BK163.out 2).trans rfl
    have hcz15_3 : w3.cell? ⟨gb163,3,none⟩ = some (.slice A0_3 l0_3.length c0_3):=(blk_cell BK163.out 3).trans rfl
    have hcz15_4 : w3.cell? ⟨gb163,4,none⟩ = some (.int .i64 a0_4):=(blk_cell BK163.out 4).trans rfl
    have hcz15_5 : w3.cell? ⟨gb163,5,none⟩ = some (.int .i64 a0_5):=(blk_cell BK163.out 5).trans rfl
    have hcz15_6 : w3.cell? ⟨gb163,6,none⟩ = some (.slice A0_6 l0_6.length c0_6):=(blk_cell BK163.out 6).trans rfl
    have hfz15_0:=blk_frozen BK163.out 0
    have hfz15_1:=blk_frozen BK163.out 1
    have hfz15_2:=blk_frozen BK163.out 2
    have hfz15_3:=blk_frozen BK163.out 3
    have hfz15_4:=blk_frozen BK163.out 4
    have hfz15_5:=blk_frozen BK163.out 5
    have hfz15_6:=blk_frozen BK163.out 6
    go_wp2_with (first|((with_reducible refine gate_callee (f:=54) rfl ?_);refine goesL_ (some 6) rfl rfl Try.func54 (by kernel_rfl) rfl #[.int .i64 a0_0,.int .i64 1,.int .i64 1000] rfl (by (try simp only [List.map_toArray,List.map_cons,List.map_nil]);first|done|rfl|(simp only [List.length_drop,List.length_take];rfl)) ?_;(with_reducible refine (impl_in.calls a0_0 1 1000 true _ A4.out).mono ?_);rintro e w' ⟨rfl,⟨nd,rfl⟩⟩;refine ⟨_,rfl,?_⟩)|(go_at_call 54;(with_reducible refine (impl_in.calls a0_1 1 1000 false _ A6.out).mono ?_);rintro e w' ⟨rfl,⟨nd,rfl⟩⟩))
    go_meet
    case rel => exact ⟨_,(true),(by first|rfl|(simp;done)|(simp [*];done)),H',⟨by first|omega|exact Nat.le_refl _⟩,⟨by (with_reducible repeat (first|refine blk_drewN ?_ _|refine blk_drew ?_|refine blk_alloc ?_ _));exact BK163.out⟩,⟨by repeat (first|(with_reducible first|exact HB.out|apply below_alloc|apply pw_below_drewN|apply below_drew1|refine below_set ?_ GE163.out)|exact HB.out)⟩⟩
  ·
   replace c5:=Bool.eq_false_iff.mpr c5
   subst c5
   have H1 : (impl_isLs.j0 k true a0_0 a0_1 a0_2 l0_3 a0_4 a0_5 l0_6) = some r:=by rw [if_neg (show ¬ (false = true) by decide)] at H;exact H
   clear H
   have H:=H1
   clear H1
   have H':=Aside0.mk H
   clear H
   have hcz16_0 : w3.cell? ⟨gb163,0,none⟩ = some (.int .i64 a0_0):=(blk_cell BK163.out 0).trans rfl
   have hcz16_1 : w3.cell? ⟨gb163,1,none⟩ = some (.int .i64 a0_1):=(blk_cell BK163.out 1).trans rfl
   have hcz16_2 : w3.cell? ⟨gb163,2,none⟩ = some (.int .i64 a0_2):=(blk_cell BK163.out 2).trans rfl
   have hcz16_3 : w3.cell? ⟨gb163,3,none⟩ = some (.slice A0_3 l0_3.length c0_3):=(blk_cell BK163.out 3).trans rfl
   have hcz16_4 : w3.cell? ⟨gb163,4,none⟩ = some (.int .i64 a0_4):=(blk_cell BK163.out 4).trans rfl
   have hcz16_5 : w3.cell? ⟨gb163,5,none⟩ = some (.int .i64 a0_5):=(blk_cell BK163.out 5).trans rfl
   have hcz16_6 : w3.cell? ⟨gb163,6,none⟩ = some (.slice A0_6 l0_6.length c0_6):=(blk_cell BK163.out 6).trans rfl
   have hfz16_0:=blk_frozen BK163.out 0
   have hfz16_1:=blk_frozen BK163.out 1
   have hfz16_2:=blk_frozen BK163.out 2
   have hfz16_3:=blk_frozen BK163.out 3
   have hfz16_4:=blk_frozen BK163.out 4
   have hfz16_5:=blk_frozen BK163.out 5
   have hfz16_6:=blk_frozen BK163.out 6
   go_wp2_with (first|((with_reducible refine gate_callee (f:=54) rfl ?_);refine goesL_ (some 6) rfl rfl Try.func54 (by kernel_rfl) rfl #[.int .i64 a0_0,.int .i64 1,.int .i64 1000] rfl (by (try simp only [List.map_toArray,List.map_cons,List.map_nil]);first|done|rfl|(simp only [List.length_drop,List.length_take];rfl)) ?_;(with_reducible refine (impl_in.calls a0_0 1 1000 false _ A4.out).mono ?_);rintro e w' ⟨rfl,⟨nd,rfl⟩⟩;refine ⟨_,rfl,?_⟩))
   go_meet
   case rel => exact ⟨_,(true),(by first|rfl|(simp;done)|(simp [*];done)),H',⟨by first|omega|exact Nat.le_refl _⟩,⟨by (with_reducible repeat (first|refine blk_drewN ?_ _|refine blk_drew ?_|refine blk_alloc ?_ _));exact BK163.out⟩,⟨by repeat (first|(with_reducible first|exact HB.out|apply below_alloc|apply pw_below_drewN|apply below_drew1|refine below_set ?_ GE163.out)|exact HB.out)⟩⟩
 case rest =>
  clear HC2
  try clear c1
  try clear p2
  try clear c5
  try clear c7
  try clear c9
  try clear c11
  try clear hcz12_0
  try clear hcz12_1
  try clear hcz12_2
  try clear hcz12_3
  try clear hcz12_4
  try clear hcz12_5
  try clear hcz12_6
  try clear hcz13_0
  try clear hcz13_1
  try clear hcz13_2
  try clear hcz13_3
  try clear hcz13_4
  try clear hcz13_5
  try clear hcz13_6
  try clear hcz14_0
  try clear hcz14_1
  try clear hcz14_2
  try clear hcz14_3
  try clear hcz14_4
  try clear hcz14_5
  try clear hcz14_6
  try clear hcz15_0
  try clear hcz15_1
  try clear hcz15_2
  try clear hcz15_3
  try clear hcz15_4
  try clear hcz15_5
  try clear hcz15_6
  try clear hcz16_0
  try clear hcz16_1
  try clear hcz16_2
  try clear hcz16_3
  try clear hcz16_4
  try clear hcz16_5
  try clear hcz16_6
  try clear hfz12_0
  try clear hfz12_1
  try clear hfz12_2
  try clear hfz12_3
  try clear hfz12_4
  try clear hfz12_5
  try clear hfz12_6
  try clear hfz13_0
  try clear hfz13_1
  try clear hfz13_2
  try clear hfz13_3
  try clear hfz13_4
  try clear hfz13_5
  try clear hfz13_6
  try clear hfz14_0
  try clear hfz14_1
  try clear hfz14_2
  try clear hfz14_3
  try clear hfz14_4
  try clear hfz14_5
  try clear hfz14_6
  try clear hfz15_0
  try clear hfz15_1
  try clear hfz15_2
  try clear hfz15_3
  try clear hfz15_4
  try clear hfz15_5
  try clear hfz15_6
  try clear hfz16_0
  try clear hfz16_1
  try clear hfz16_2
  try clear hfz16_3
  try clear hfz16_4
  try clear hfz16_5
  try clear hfz16_6
  obtain ⟨kq,x35_1,rfl,HA,HJ1,BK163,HB⟩:=hcut
  cases kq with
  | zero => exact absurd HA.out (by simp [impl_isLs.j0])
  | succ kj1 =>
   have H:=HA.out
   clear HA
   simp only [impl_isLs.j0] at H
   by_cases c17 : x35_1 = true
   ·
    subst c17
    have H1 : (some false) = some r:=by rw [if_pos rfl] at H;exact H
    clear H
    have H:=H1
    clear H1
    obtain rfl:=Option.some.inj H
    go_wp2
    go_ret
    exact ⟨by first|rfl|(simp [errW_none,errW_some] <;> rfl)|(simp [*,errW_none,errW_some] <;> rfl),by repeat (first|(with_reducible first|exact HB.out|apply below_alloc|apply pw_below_drewN|apply below_drew1|refine below_set ?_ GE163.out)|exact HB.out)⟩
   ·
    replace c17:=Bool.eq_false_iff.mpr c17
    subst c17
    have H1 : ((slices_ContainsFunc_int_at_isLs_1.f kj1 l0_3).bind fun t168 => (if t168 = true then (impl_isLs.j1 kj1 true a0_0 a0_1 a0_2 l0_3 a0_4 a0_5 l0_6) else ((impl_Ls_isOwner.f a0_0 a0_1 a0_2 l0_3 a0_4 a0_5 l0_6 a0_4).bind fun t169 => (if t169 = true then ((impl_in.f a0_5 0 100000).bind fun t170 => (impl_isLs.j1 kj1 (!t170) a0_0 a0_1 a0_2 l0_3 a0_4 a0_5 l0_6)) else (impl_isLs.j1 kj1 true a0_0 a0_1 a0_2 l0_3 a0_4 a0_5 l0_6))))) = some r:=by rw [if_neg (show ¬ (false = true) by decide)] at H;exact H
    clear H
    have H:=H1
    clear H1
    have HC18:=Aside0.mk H
    clear H
    go_upto_region 3 with (fail)
    go_cut [50] (fun v50 wc => ∃ (kq : Nat) (x50_17 : Bool),v50 = .bool x50_17 ∧ Aside0 (impl_isLs.j1 kq x50_17 a0_0 a0_1 a0_2 l0_3 a0_4 a0_5 l0_6 = some r) ∧ Aside0 (kq ≤ kj1) ∧ Aside0 (wc.heap[gb163]? = some (.cells #[.int .i64 a0_0,.int .i64 a0_1,.int .i64 a0_2,(.slice A0_3 l0_3.length c0_3),.int .i64 a0_4,.int .i64 a0_5,(.slice A0_6 l0_6.length c0_6)] 30 (0,0))) ∧ Aside0 (Below w.heap.size w wc))
    case first =>
     have H:=HC18.out
     clear HC18
     replace H:=Option.bind_eq_some_iff.mp H
     obtain ⟨t168,A190,H⟩:=H
     replace H : (if t168 = true then (impl_isLs.j1 kj1 true a0_0 a0_1 a0_2 l0_3 a0_4 a0_5 l0_6) else ((impl_Ls_isOwner.f a0_0 a0_1 a0_2 l0_3 a0_4 a0_5 l0_6 a0_4).bind fun t169 => (if t169 = true then ((impl_in.f a0_5 0 100000).bind fun t170 => (impl_isLs.j1 kj1 (!t170) a0_0 a0_1 a0_2 l0_3 a0_4 a0_5 l0_6)) else (impl_isLs.j1 kj1 true a0_0 a0_1 a0_2 l0_3 a0_4 a0_5 l0_6)))) = some r:=H
     have A19:=Aside0.mk A190
     clear A190
     by_cases c20 : t168 = true
     ·
      subst c20
      have H1 : (impl_isLs.j1 kj1 true a0_0 a0_1 a0_2 l0_3 a0_4 a0_5 l0_6) = some r:=by rw [if_pos rfl] at H;exact H
      clear H
      have H:=H1
      clear H1
      have H':=Aside0.mk H
      clear H
      have hcz21_0 : wc.cell? ⟨gb163,0,none⟩ = some (.int .i64 a0_0):=(blk_cell BK163.out 0).trans rfl
      have hcz21_1 : wc.cell? ⟨gb163,1,none⟩ = some (.int .i64 a0_1):=(blk_cell BK163.out 1).trans rfl
      have hcz21_2 : wc.cell? ⟨gb163,2,none⟩ = some (.int .i64 a0_2):=(blk_cell BK163.out 2).trans rfl
      have hcz21_3 : wc.cell? ⟨gb163,3,none⟩ = some (.slice A0_3 l0_3.length c0_3):=(blk_cell BK163.out 3).trans rfl
      have hcz21_4 : wc.cell? ⟨gb163,4,none⟩ = some (.int .i64 a0_4):=(blk_cell BK163.out 4).trans rfl
      have hcz21_5 : wc.cell? ⟨gb163,5,none⟩ = some (.int .i64 a0_5):=(blk_cell BK163.out 5).trans rfl
      have hcz21_6 : wc.cell? ⟨gb163,6,none⟩ = some (.slice A0_6 l0_6.length c0_6):=(blk_cell BK163.out 6).trans rfl
      have hfz21_0:=blk_frozen BK163.out 0
      have hfz21_1:=blk_frozen BK163.out 1
      have hfz21_2:=blk_frozen BK163.out 2
      have hfz21_3:=blk_frozen BK163.out 3
      have hfz21_4:=blk_frozen BK163.out 4
      have hfz21_5:=blk_frozen BK163.out 5
      have hfz21_6:=blk_frozen BK163.out 6
      go_wp2_with (first|((with_reducible refine gate_callee (f:=74) rfl ?_);refine goesL_ (some 38) rfl rfl Try.func74 (by kernel_rfl) rfl #[.slice A0_3 l0_3.length c0_3,.func (.func 75) #[] #[]] rfl (by (try simp only [List.map_toArray,List.map_cons,List.map_nil]);first|done|rfl|(simp only [List.length_drop,List.length_take];rfl)) ?_;(with_reducible refine (slices_ContainsFunc_int_at_isLs_1.calls kj1 _ _ l0_3  true _ ?side1 ?side2 A19.out).mono ?_);(case side1 => repeat (first|exact (Kd.C_below HR0_3.out HB.out)|(with_reducible refine Kd.C_alloc ?_ _)|(with_reducible refine Kd.C_drewN ?_ _)|(with_reducible refine Kd.C_drew ?_)));(case side2 => exact HC0_3.out);rintro e w' ⟨rfl,⟨nd,rfl⟩⟩;refine ⟨_,rfl,?_⟩))
      go_meet
      case rel => exact ⟨_,(true),(by first|rfl|(simp;done)|(simp [*];done)),H',⟨by have:=HJ1.out;first|omega|exact Nat.le_refl _⟩,⟨by (with_reducible repeat (first|refine blk_drewN ?_ _|refine blk_drew ?_|refine blk_alloc ?_ _));exact BK163.out⟩,⟨by repeat (first|(with_reducible first|exact HB.out|apply below_alloc|apply pw_below_drewN|apply below_drew1|refine below_set ?_ GE163.out)|exact HB.out)⟩⟩
     ·
      replace c20:=Bool.eq_false_iff.mpr c20
      subst c20
      have H1 : ((impl_Ls_isOwner.f a0_0 a0_1 a0_2 l0_3 a0_4 a0_5 l0_6 a0_4).bind fun t169 => (if t169 = true then ((impl_in.f a0_5 0 100000).bind fun t170 => (impl_isLs.j1 kj1 (!t170) a0_0 a0_1 a0_2 l0_3 a0_4 a0_5 l0_6)) else (impl_isLs.j1 kj1 true a0_0 a0_1 a0_2 l0_3 a0_4 a0_5 l0_6))) = some r:=by rw [if_neg (show ¬ (false = true) by decide)] at H;exact H
      clear H
      have H:=H1
      clear H1
      replace H:=Option.bind_eq_some_iff.mp H
      obtain ⟨t169,A220,H⟩:=H
      replace H : (if t169 = true then ((impl_in.f a0_5 0 100000).bind fun t170 => (impl_isLs.j1 kj1 (!t170) a0_0 a0_1 a0_2 l0_3 a0_4 a0_5 l0_6)) else (impl_isLs.j1 kj1 true a0_0 a0_1 a0_2 l0_3 a0_4 a0_5 l0_6)) = some r:=H
      have A22:=Aside0.mk A220
      clear A220
      by_cases c23 : t169 = true
      ·
       subst c23
       have H1 : ((impl_in.f a0_5 0 100000).bind fun t170 => (impl_isLs.j1 kj1 (!t170) a0_0 a0_1 a0_2 l0_3 a0_4 a0_5 l0_6)) = some r:=by rw [if_pos rfl] at H;exact H
       clear H
       have H:=H1
       clear H1
       replace H:=Option.bind_eq_some_iff.mp H
       obtain ⟨t170,A240,H⟩:=H
       replace H : (impl_isLs.j1 kj1 (!t170) a0_0 a0_1 a0_2 l0_3 a0_4 a0_5 l0_6) = some r:=H
       have A24:=Aside0.mk A240
       clear A240
       have H':=Aside0.mk H
       clear H
       have hcz25_0 : wc.cell? ⟨gb163,0,none⟩ = some (.int .i64 a0_0):=(blk_cell BK163.out 0).trans rfl
       have hcz25_1 : wc.cell? ⟨gb163,1,none⟩ = some (.int .i64 a0_1):=(blk_cell BK163.out 1).trans rfl
       have hcz25_2 : wc.cell? ⟨gb163,2,none⟩ = some (.int .i64 a0_2):=(blk_cell BK163.out 2).trans rfl
       have hcz25_3 : wc.cell? ⟨gb163,3,none⟩ = some (.slice A0_3 l0_3.length c0_3):=(blk_cell BK163.out 3).trans rfl
       have hcz25_4 : wc.cell? ⟨gb163,4,none⟩ = some (.int .i64 a0_4):=(blk_cell BK163.out 4).trans rfl
       have hcz25_5 : wc.cell? ⟨gb163,5,none⟩ = some (.int .i64 a0_5):=(blk_cell BK163.out 5).trans rfl
       have hcz25_6 : wc.cell? ⟨gb163,6,none⟩ = some (.slice A0_6 l0_6.length c0_6):=(blk_cell BK163.out 6).trans rfl
       have hfz25_0:=blk_frozen BK163.out 0
       have hfz25_1:=blk_frozen BK163.out 1
       have hfz25_2:=blk_frozen BK163.out 2
       have hfz25_3:=blk_frozen BK163.out 3
       have hfz25_4:=blk_frozen BK163.out 4
       have hfz25_5:=blk_frozen BK163.out 5
       have hfz25_6:=blk_frozen BK163.out 6
       go_wp2_with (first|((with_reducible refine gate_callee (f:=74) rfl ?_);refine goesL_ (some 38) rfl rfl Try.func74 (by kernel_rfl) rfl #[.slice A0_3 l0_3.length c0_3,.func (.func 75) #[] #[]] rfl (by (try simp only [List.map_toArray,List.map_cons,List.map_nil]);first|done|rfl|(simp only [List.length_drop,List.length_take];rfl)) ?_;(with_reducible refine (slices_ContainsFunc_int_at_isLs_1.calls kj1 _ _ l0_3  false _ ?side1 ?side2 A19.out).mono ?_);(case side1 => repeat (first|exact (Kd.C_below HR0_3.out HB.out)|(with_reducible refine Kd.C_alloc ?_ _)|(with_reducible refine Kd.C_drewN ?_ _)|(with_reducible refine Kd.C_drew ?_)));(case side2 => exact HC0_3.out);rintro e w' ⟨rfl,⟨nd,rfl⟩⟩;refine ⟨_,rfl,?_⟩)|(go_at_call 76;(with_reducible refine (impl_Ls_isOwner.calls gb163 a0_0 a0_1 a0_2 A0_3 c0_3 l0_3 a0_4 a0_5 A0_6 c0_6 l0_6 a0_4 true _ ?side1 ?side2 ?side3 ?side4 ?side5 A22.out).mono ?_);(case side1 => exact (by (with_reducible repeat (first|refine blk_drewN ?_ _|refine blk_drew ?_|refine blk_alloc ?_ _));exact BK163.out));(case side2 => repeat (first|exact (Kd.C_below HR0_3.out (by repeat (first|(with_reducible first|exact HB.out|apply below_alloc|apply pw_below_drewN|apply below_drew1|refine below_set ?_ GE163.out)|exact HB.out)))|(with_reducible refine Kd.C_alloc ?_ _)|(with_reducible refine Kd.C_drewN ?_ _)|(with_reducible refine Kd.C_drew ?_)));(case side3 => exact HC0_3.out);(case side4 => repeat (first|exact (Kd.C_below HR0_6.out (by repeat (first|(with_reducible first|exact HB.out|apply below_alloc|apply pw_below_drewN|apply below_drew1|refine below_set ?_ GE163.out)|exact HB.out)))|(with_reducible refine Kd.C_alloc ?_ _)|(with_reducible refine Kd.C_drewN ?_ _)|(with_reducible refine Kd.C_drew ?_)));(case side5 => exact HC0_6.out);rintro e w' ⟨rfl,⟨nd,rfl⟩⟩)|(go_at_call 54;(with_reducible refine (impl_in.calls a0_5 0 100000 t170 _ A24.out).mono ?_);rintro e w' ⟨rfl,⟨nd,rfl⟩⟩))
       go_meet
       case rel => exact ⟨_,(!t170),(by first|rfl|(simp;done)|(simp [*];done)),H',⟨by have:=HJ1.out;first|omega|exact Nat.le_refl _⟩,⟨by (with_reducible repeat (first|refine blk_drewN ?_ _|refine blk_drew ?_|refine blk_alloc ?_ _));exact BK163.out⟩,⟨by repeat (first|(with_reducible first|exact HB.out|apply below_alloc|apply pw_below_drewN|apply below_drew1|refine below_set ?_ GE163.out)|exact HB.out)⟩⟩
      ·
       replace c23:=Bool.eq_false_iff.mpr c23
       subst c23
       have H1 : (impl_isLs.j1 kj1 true a0_0 a0_1 a0_2 l0_3 a0_4 a0_5 l0_6) = some r:=by rw [if_neg (show ¬ (false = true) by decide)] at H;exact H
       clear H
       have H:=H1
       clear H1
       have H':=Aside0.mk H
       clear H
       have hcz26_0 : wc.cell? ⟨gb163,0,none⟩ = some (.int .i64 a0_0):=(blk_cell BK163.out 0).trans rfl
       have hcz26_1 : wc.cell? ⟨gb163,1,none⟩ = some (.int .i64 a0_1):=(blk_cell BK163.out 1).trans rfl
       have hcz26_2 : wc.cell? ⟨gb163,2,none⟩ = some (.int .i64 a0_2):=(blk_cell BK163.out 2).trans rfl
       have hcz26_3 : wc.cell? ⟨gb163,3,none⟩ = some (.slice A0_3 l0_3.length c0_3):=(blk_cell BK163.out 3).trans rfl
       have hcz26_4 : wc.cell? ⟨gb163,4,none⟩ = some (.int .i64 a0_4):=(blk_cell BK163.out 4).trans rfl
       have hcz26_5 : wc.cell? ⟨gb163,5,none⟩ = some (.int .i64 a0_5):=(blk_cell BK163.out 5).trans rfl
       have hcz26_6 : wc.cell? ⟨gb163,6,none⟩ = some (.slice A0_6 l0_6.length c0_6):=(blk_cell BK163.out 6).trans rfl
       have hfz26_0:=blk_frozen BK163.out 0
       have hfz26_1:=blk_frozen BK163.out 1
       have hfz26_2:=blk_frozen BK163.out 2
       have hfz26_3:=blk_frozen BK163.out 3
       have hfz26_4:=blk_frozen BK163.out 4
       have hfz26_5:=blk_frozen BK163.out 5
       have hfz26_6:=blk_frozen BK163.out 6
       go_wp2_with (first|((with_reducible refine gate_callee (f:=74) rfl ?_);refine goesL_ (some 38) rfl rfl Try.func74 (by kernel_rfl) rfl #[.slice A0_3 l0_3.length c0_3,.func (.func 75) #[] #[]] rfl (by (try simp only [List.map_toArray,List.map_cons,List.map_nil]);first|done|rfl|(simp only [List.length_drop,List.length_take];rfl)) ?_;(with_reducible refine (slices_ContainsFunc_int_at_isLs_1.calls kj1 _ _ l0_3  false _ ?side1 ?side2 A19.out).mono ?_);(case side1 => repeat (first|exact (Kd.C_below HR0_3.out HB.out)|(with_reducible refine Kd.C_alloc ?_ _)|(with_reducible refine Kd.C_drewN ?_ _)|(with_reducible refine Kd.C_drew ?_)));(case side2 => exact HC0_3.out);rintro e w' ⟨rfl,⟨nd,rfl⟩⟩;refine ⟨_,rfl,?_⟩)|(go_at_call 76;(with_reducible refine (impl_Ls_isOwner.calls gb163 a0_0 a0_1 a0_2 A0_3 c0_3 l0_3 a0_4 a0_5 A0_6 c0_6 l0_6 a0_4 false _ ?side1 ?side2 ?side3 ?side4 ?side5 A22.out).mono ?_);(case side1 => exact (by (with_reducible repeat (first|refine blk_drewN ?_ _|refine blk_drew ?_|refine blk_alloc ?_ _));exact BK163.out));(case side2 => repeat (first|exact (Kd.C_below HR0_3.out (by repeat (first|(with_reducible first|exact HB.out|apply below_alloc|apply pw_below_drewN|apply below_drew1|refine below_set ?_ GE163.out)|exact HB.out)))|(with_reducible refine Kd.C_alloc ?_ _)|(with_reducible refine Kd.C_drewN ?_ _)|(with_reducible refine Kd.C_drew ?_)));(case side3 => exact HC0_3.out);(case side4 => repeat (first|exact (Kd.C_below HR0_6.out (by repeat (first|(with_reducible first|exact HB.out|apply below_alloc|apply pw_below_drewN|apply below_drew1|refine below_set ?_ GE163.out)|exact HB.out)))|(with_reducible refine Kd.C_alloc ?_ _)|(with_reducible refine Kd.C_drewN ?_ _)|(with_reducible refine Kd.C_drew ?_)));(case side5 => exact HC0_6.out);rintro e w' ⟨rfl,⟨nd,rfl⟩⟩))
       go_meet
       case rel => exact ⟨_,(true),(by first|rfl|(simp;done)|(simp [*];done)),H',⟨by have:=HJ1.out;first|omega|exact Nat.le_refl _⟩,⟨by (with_reducible repeat (first|refine blk_drewN ?_ _|refine blk_drew ?_|refine blk_alloc ?_ _));exact BK163.out⟩,⟨by repeat (first|(with_reducible first|exact HB.out|apply below_alloc|apply pw_below_drewN|apply below_drew1|refine below_set ?_ GE163.out)|exact HB.out)⟩⟩
    case rest =>
     clear HC18
     try clear c1
     try clear c2
     try clear p2
     try clear c5
     try clear c7
     try clear c9
     try clear c11
     try clear c17
     try clear c20
     try clear c23
     try clear hcz12_0
     try clear hcz12_1
     try clear hcz12_2
     try clear hcz12_3
     try clear hcz12_4
     try clear hcz12_5
     try clear hcz12_6
     try clear hcz13_0
     try clear hcz13_1
     try clear hcz13_2
     try clear hcz13_3
     try clear hcz13_4
     try clear hcz13_5
     try clear hcz13_6
     try clear hcz14_0
     try clear hcz14_1
     try clear hcz14_2
     try clear hcz14_3
     try clear hcz14_4
     try clear hcz14_5
     try clear hcz14_6
     try clear hcz15_0
     try clear hcz15_1
     try clear hcz15_2
     try clear hcz15_3
     try clear hcz15_4
     try clear hcz15_5
     try clear hcz15_6
     try clear hcz16_0
     try clear hcz16_1
     try clear hcz16_2
     try clear hcz16_3
     try clear hcz16_4
     try clear hcz16_5
     try clear hcz16_6
     try clear hcz21_0
     try clear hcz21_1
     try clear hcz21_2
     try clear hcz21_3
     try clear hcz21_4
     try clear hcz21_5
     try clear hcz21_6
     try clear hcz25_0
     try clear hcz25_1
     try clear hcz25_2
     try clear hcz25_3
     try clear hcz25_4
     try clear hcz25_5
     try clear hcz25_6
     try clear hcz26_0
     try clear hcz26_1
     try clear hcz26_2
     try clear hcz26_3
     try clear hcz26_4
     try clear hcz26_5
     try clear hcz26_6
     try clear hfz12_0
     try clear hfz12_1
     try clear hfz12_2
     try clear hfz12_3
     try clear hfz12_4
     try clear hfz12_5
     try clear hfz12_6
     try clear hfz13_0
     try clear hfz13_1
     try clear hfz13_2
     try clear hfz13_3
     try clear hfz13_4
     try clear hfz13_5
     try clear hfz13_6
     try clear hfz14_0
     try clear hfz14_1
     try clear hfz14_2
     try clear hfz14_3
     try clear hfz14_4
     try clear hfz14_5
     try clear hfz14_6
     try clear hfz15_0
     try clear hfz15_1
     try clear hfz15_2
     try clear hfz15_3
     try clear hfz15_4
     try clear hfz15_5
     try clear hfz15_6
     try clear hfz16_0
     try clear hfz16_1
     try clear hfz16_2
     try clear hfz16_3
     try clear hfz16_4
     try clear hfz16_5
     try clear hfz16_6
     try clear hfz21_0
     try clear hfz21_1
     try clear hfz21_2
     try clear hfz21_3
     try clear hfz21_4
     try clear hfz21_5
     try clear hfz21_6
     try clear hfz25_0
     try clear hfz25_1
     try clear hfz25_2
     try clear hfz25_3
     try clear hfz25_4
     try clear hfz25_5
     try clear hfz25_6
     try clear hfz26_0
     try clear hfz26_1
     try clear hfz26_2
     try clear hfz26_3
     try clear hfz26_4
     try clear hfz26_5
     try clear hfz26_6
     try clear p2
     obtain ⟨kq,x50_17,rfl,HA,HJ17,BK163,HB⟩:=hcut
     cases kq with
     | zero => exact absurd HA.out (by simp [impl_isLs.j1])
     | succ kj17 =>
      have H:=HA.out
      clear HA
      simp only [impl_isLs.j1] at H
      by_cases c27 : x50_17 = true
      ·
       subst c27
       have H1 : (some false) = some r:=by rw [if_pos rfl] at H;exact H
       clear H
       have H:=H1
       clear H1
       obtain rfl:=Option.some.inj H
       go_wp2
       go_ret
       exact ⟨by first|rfl|(simp [errW_none,errW_some] <;> rfl)|(simp [*,errW_none,errW_some] <;> rfl),by repeat (first|(with_reducible first|exact HB.out|apply below_alloc|apply pw_below_drewN|apply below_drew1|refine below_set ?_ GE163.out)|exact HB.out)⟩
      ·
       replace c27:=Bool.eq_false_iff.mpr c27
       subst c27
       have H1 : (impl_isLs.l0 kj17 (l0_6.length : Int) 0 a0_0 a0_1 a0_2 l0_3 a0_4 a0_5 l0_6) = some r:=by rw [if_neg (show ¬ (false = true) by decide)] at H;exact H
       clear H
       have H:=H1
       clear H1
       have H':=Aside0.mk H
       clear H
       have hcz28_0 : wc.cell? ⟨gb163,0,none⟩ = some (.int .i64 a0_0):=(blk_cell BK163.out 0).trans rfl
       have hcz28_1 : wc.cell? ⟨gb163,1,none⟩ = some (.int .i64 a0_1):=(blk_cell BK163.out 1).trans rfl
       have hcz28_2 : wc.cell? ⟨gb163,2,none⟩ = some (.int .i64 a0_2):=(blk_cell BK163.out 2).trans rfl
       have hcz28_3 : wc.cell? ⟨gb163,3,none⟩ = some (.slice A0_3 l0_3.length c0_3):=(blk_cell BK163.out 3).trans rfl
       have hcz28_4 : wc.cell? ⟨gb163,4,none⟩ = some (.int .i64 a0_4):=(blk_cell BK163.out 4).trans rfl
       have hcz28_5 : wc.cell? ⟨gb163,5,none⟩ = some (.int .i64 a0_5):=(blk_cell BK163.out 5).trans rfl
       have hcz28_6 : wc.cell? ⟨gb163,6,none⟩ = some (.slice A0_6 l0_6.length c0_6):=(blk_cell BK163.out 6).trans rfl
       have hfz28_0:=blk_frozen BK163.out 0
       have hfz28_1:=blk_frozen BK163.out 1
       have hfz28_2:=blk_frozen BK163.out 2
       have hfz28_3:=blk_frozen BK163.out 3
       have hfz28_4:=blk_frozen BK163.out 4
       have hfz28_5:=blk_frozen BK163.out 5
       have hfz28_6:=blk_frozen BK163.out 6
       go_wp2
       go_loopg [54] kj17 (fun kq v54 w' => ∃ (x54_3 : Int),v54 = .int .i64 x54_3 ∧ Aside0 (impl_isLs.l0 kq (l0_6.length : Int) x54_3 a0_0 a0_1 a0_2 l0_3 a0_4 a0_5 l0_6 = some r) ∧ Aside0 (kq ≤ kj17) ∧ Aside0 (w'.heap[gb163]? = some (.cells #[.int .i64 a0_0,.int .i64 a0_1,.int .i64 a0_2,(.slice A0_3 l0_3.length c0_3),.int .i64 a0_4,.int .i64 a0_5,(.slice A0_6 l0_6.length c0_6)] 30 (0,0))) ∧ Aside0 (Below w.heap.size w w'))
       case atStart => exact ⟨(0),(by first|rfl|(simp;done)|(simp [*];done)),H',⟨Nat.le_refl _⟩,⟨by (with_reducible repeat (first|refine blk_drewN ?_ _|refine blk_drew ?_|refine blk_alloc ?_ _));exact BK163.out⟩,⟨by repeat (first|(with_reducible first|exact HB.out|apply below_alloc|apply pw_below_drewN|apply below_drew1|refine below_set ?_ GE163.out)|exact HB.out)⟩⟩
       case round =>
        clear H'
        try clear c1
        try clear c2
        try clear p2
        try clear c5
        try clear c7
        try clear c9
        try clear c11
        try clear c17
        try clear c20
        try clear c23
        try clear c27
        try clear hcz12_0
        try clear hcz12_1
        try clear hcz12_2
        try clear hcz12_3
        try clear hcz12_4
        try clear hcz12_5
        try clear hcz12_6
        try clear hcz13_0
        try clear hcz13_1
        try clear hcz13_2
        try clear hcz13_3
        try clear hcz13_4
        try clear hcz13_5
        try clear hcz13_6
        try clear hcz14_0
        try clear hcz14_1
        try clear hcz14_2
        try clear hcz14_3
        try clear hcz14_4
        try clear hcz14_5
        try clear hcz14_6
        try clear hcz15_0
        try clear hcz15_1
        try clear hcz15_2
        try clear hcz15_3
        try clear hcz15_4
        try clear hcz15_5
        try clear hcz15_6
        try clear hcz16_0
        try clear hcz16_1
        try clear hcz16_2
        try clear hcz16_3
        try clear hcz16_4
        try clear hcz16_5
        try clear hcz16_6
        try clear hcz21_0
        try clear hcz21_1
        try clear hcz21_2
        try clear hcz21_3
        try clear hcz21_4
        try clear hcz21_5
        try clear hcz21_6
        try clear hcz25_0
        try clear hcz25_1
        try clear hcz25_2
        try clear hcz25_3
        try clear hcz25_4
        try clear hcz25_5
        try clear hcz25_6
        try clear hcz26_0
        try clear hcz26_1
        try clear hcz26_2
        try clear hcz26_3
        try clear hcz26_4
        try clear hcz26_5
        try clear hcz26_6
        try clear hcz28_0
        try clear hcz28_1
        try clear hcz28_2
        try clear hcz28_3
        try clear hcz28_4
        try clear hcz28_5
        try clear hcz28_6
        try clear hfz12_0
        try clear hfz12_1
        try clear hfz12_2
        try clear hfz12_3
        try clear hfz12_4
        try clear hfz12_5
        try clear hfz12_6
        try clear hfz13_0
        try clear hfz13_1
        try clear hfz13_2
        try clear hfz13_3
        try clear hfz13_4
        try clear hfz13_5
        try clear hfz13_6
        try clear hfz14_0
        try clear hfz14_1
        try clear hfz14_2
        try clear hfz14_3
        try clear hfz14_4
        try clear hfz14_5
        try clear hfz14_6
        try clear hfz15_0
        try clear hfz15_1
        try clear hfz15_2
        try clear hfz15_3
        try clear hfz15_4
        try clear hfz15_5
        try clear hfz15_6
        try clear hfz16_0
        try clear hfz16_1
        try clear hfz16_2
        try clear hfz16_3
        try clear hfz16_4
        try clear hfz16_5
        try clear hfz16_6
        try clear hfz21_0
        try clear hfz21_1
        try clear hfz21_2
        try clear hfz21_3
        try clear hfz21_4
        try clear hfz21_5
        try clear hfz21_6
        try clear hfz25_0
        try clear hfz25_1
        try clear hfz25_2
        try clear hfz25_3
        try clear hfz25_4
        try clear hfz25_5
        try clear hfz25_6
        try clear hfz26_0
        try clear hfz26_1
        try clear hfz26_2
        try clear hfz26_3
        try clear hfz26_4
        try clear hfz26_5
        try clear hfz26_6
        try clear hfz28_0
        try clear hfz28_1
        try clear hfz28_2
        try clear hfz28_3
        try clear hfz28_4
        try clear hfz28_5
        try clear hfz28_6
        try clear p2
        obtain ⟨x54_3,rfl,HA,HK3,BK163,HB⟩:=hrel
        cases gk with
        | zero => exact absurd HA.out (by simp [impl_isLs.l0])
        | succ k3 =>
         have H:=HA.out
         clear HA
         simp only [impl_isLs.l0] at H
         by_cases c29 : x54_3 < (l0_6.length : Int)
         ·
          rw [if_pos c29] at H
          have c29b0 : decide (x54_3 < (l0_6.length : Int)) = true:=decide_eq_true c29
          clear c29
          replace H:=Option.bind_eq_some_iff.mp H
          obtain ⟨t171,A300,H⟩:=H
          replace H : (if t171 = true then (impl_isLs.l0 k3 (l0_6.length : Int) (wrap64 (x54_3 + 1)) a0_0 a0_1 a0_2 l0_3 a0_4 a0_5 l0_6) else (some false)) = some r:=H
          have A30:=Aside0.mk A300
          clear A300
          by_cases c31 : t171 = true
          ·
           subst c31
           have H1 : (impl_isLs.l0 k3 (l0_6.length : Int) (wrap64 (x54_3 + 1)) a0_0 a0_1 a0_2 l0_3 a0_4 a0_5 l0_6) = some r:=by rw [if_pos rfl] at H;exact H
           clear H
           have H:=H1
           clear H1
           have H':=Aside0.mk H
           clear H
           go_wp2_with (first|((with_reducible refine gate_callee (f:=77) rfl ?_);refine goesL_ (some 58) rfl rfl Try.func77 (by kernel_rfl) rfl #[.pointer (some ⟨gb163,0,none⟩),.int .i64 x54_3] rfl (by (try simp only [List.map_toArray,List.map_cons,List.map_nil]);first|done|rfl|(simp only [List.length_drop,List.length_take];rfl)) ?_;(with_reducible refine (impl_Ls_hostOk.calls k3 gb163 a0_0 a0_1 a0_2 A0_3 c0_3 l0_3 a0_4 a0_5 A0_6 c0_6 l0_6 x54_3 true _ ?side1 ?side2 ?side3 ?side4 ?side5 A30.out).mono ?_);(case side1 => exact (by (with_reducible repeat (first|refine blk_drewN ?_ _|refine blk_drew ?_|refine blk_alloc ?_ _));exact BK163.out));(case side2 => repeat (first|exact (Kd.C_below HR0_3.out HB.out)|(with_reducible refine Kd.C_alloc ?_ _)|(with_reducible refine Kd.C_drewN ?_ _)|(with_reducible refine Kd.C_drew ?_)));(case side3 => exact HC0_3.out);(case side4 => repeat (first|exact (Kd.C_below HR0_6.out HB.out)|(with_reducible refine Kd.C_alloc ?_ _)|(with_reducible refine Kd.C_drewN ?_ _)|(with_reducible refine Kd.C_drew ?_)));(case side5 => exact HC0_6.out);rintro e w32 ⟨rfl,hb⟩;refine ⟨_,rfl,?_⟩;have n0_:=Aside0.mk (blk_below (g:=gb163) (o:=.cells #[.int .i64 a0_0,.int .i64 a0_1,.int .i64 a0_2,.slice A0_3 l0_3.length c0_3,.int .i64 a0_4,.int .i64 a0_5,.slice A0_6 l0_6.length c0_6] 30 (0,0)) (by (with_reducible repeat (first|refine blk_drewN ?_ _|refine blk_drew ?_|refine blk_alloc ?_ _));exact BK163.out) hb);have n1_:=Aside0.mk (below_step (by repeat (first|(with_reducible first|exact HB.out|apply below_alloc|apply pw_below_drewN|apply below_drew1|refine below_set ?_ GE163.out)|exact HB.out)) hb);clear BK163;clear HB;have BK163:=n0_;have HB:=n1_;clear n0_ n1_;(try clear hb);(try clear hb2);(try clear hk);(try clear hi)))
           go_roundg k3
           case measure => have:=HJ1.out;have:=HJ17.out;have:=HK3.out;omega
           case rel => exact ⟨(wrap64 (x54_3 + 1)),(by first|rfl|(simp;done)|(simp [*];done)),H',⟨by have:=HJ1.out;have:=HJ17.out;have:=HK3.out;omega⟩,⟨by (with_reducible repeat (first|refine blk_drewN ?_ _|refine blk_drew ?_|refine blk_alloc ?_ _));exact BK163.out⟩,⟨by repeat (first|(with_reducible first|exact HB.out|apply below_alloc|apply pw_below_drewN|apply below_drew1|refine below_set ?_ GE163.out)|exact HB.out)⟩⟩
          ·
           replace c31:=Bool.eq_false_iff.mpr c31
           subst c31
           have H1 : (some false) = some r:=by rw [if_neg (show ¬ (false = true) by decide)] at H;exact H
           clear H
           have H:=H1
           clear H1
           obtain rfl:=Option.some.inj H
           go_wp2_with (first|((with_reducible refine gate_callee (f:=77) rfl ?_);refine goesL_ (some 58) rfl rfl Try.func77 (by kernel_rfl) rfl #[.pointer (some ⟨gb163,0,none⟩),.int .i64 x54_3] rfl (by (try simp only [List.map_toArray,List.map_cons,List.map_nil]);first|done|rfl|(simp only [List.length_drop,List.length_take];rfl)) ?_;(with_reducible refine (impl_Ls_hostOk.calls k3 gb163 a0_0 a0_1 a0_2 A0_3 c0_3 l0_3 a0_4 a0_5 A0_6 c0_6 l0_6 x54_3 false _ ?side1 ?side2 ?side3 ?side4 ?side5 A30.out).mono ?_);(case side1 => exact (by (with_reducible repeat (first|refine blk_drewN ?_ _|refine blk_drew ?_|refine blk_alloc ?_ _));exact BK163.out));(case side2 => repeat (first|exact (Kd.C_below HR0_3.out HB.out)|(with_reducible refine Kd.C_alloc ?_ _)|(with_reducible refine Kd.C_drewN ?_ _)|(with_reducible refine Kd.C_drew ?_)));(case side3 => exact HC0_3.out);(case side4 => repeat (first|exact (Kd.C_below HR0_6.out HB.out)|(with_reducible refine Kd.C_alloc ?_ _)|(with_reducible refine Kd.C_drewN ?_ _)|(with_reducible refine Kd.C_drew ?_)));(case side5 => exact HC0_6.out);rintro e w33 ⟨rfl,hb⟩;refine ⟨_,rfl,?_⟩;have n0_:=Aside0.mk (blk_below (g:=gb163) (o:=.cells #[.int .i64 a0_0,.int .i64 a0_1,.int .i64 a0_2,.slice A0_3 l0_3.length c0_3,.int .i64 a0_4,.int .i64 a0_5,.slice A0_6 l0_6.length c0_6] 30 (0,0)) (by (with_reducible repeat (first|refine blk_drewN ?_ _|refine blk_drew ?_|refine blk_alloc ?_ _));exact BK163.out) hb);have n1_:=Aside0.mk (below_step (by repeat (first|(with_reducible first|exact HB.out|apply below_alloc|apply pw_below_drewN|apply below_drew1|refine below_set ?_ GE163.out)|exact HB.out)) hb);clear BK163;clear HB;have BK163:=n0_;have HB:=n1_;clear n0_ n1_;(try clear hb);(try clear hb2);(try clear hk);(try clear hi)))
           go_ret
           exact ⟨by first|rfl|(simp [errW_none,errW_some] <;> rfl)|(simp [*,errW_none,errW_some] <;> rfl),by repeat (first|(with_reducible first|exact HB.out|apply below_alloc|apply pw_below_drewN|apply below_drew1|refine below_set ?_ GE163.out)|exact HB.out)⟩
         ·
          rw [if_neg c29] at H
          have c29b0 : decide (x54_3 < (l0_6.length : Int)) = false:=decide_eq_false c29
          clear c29
          obtain rfl:=Option.some.inj H
          go_wp2
          go_ret
          exact ⟨by first|rfl|(simp [errW_none,errW_some] <;> rfl)|(simp [*,errW_none,errW_some] <;> rfl),by repeat (first|(with_reducible first|exact HB.out|apply below_alloc|apply pw_below_drewN|apply below_drew1|refine below_set ?_ GE163.out)|exact HB.out)⟩
end Go.Proofs.Ytnldanonpdijgaa.P
