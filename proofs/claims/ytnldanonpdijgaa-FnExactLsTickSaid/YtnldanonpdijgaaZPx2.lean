-- Ours: printed or written for this claim; cut to what the theorem needs.
import Derived.Test.YtnldanonpdijgaaZPx0
import Derived.Test.YtnldanonpdijgaaZPx1
namespace Go.Proofs.Ytnldanonpdijgaa.P
open Go.RowKit Go.Proofs.YtnldanonpdijgaaW.PrintWords Go.Proofs.YtnldanonpdijgaaW.PrintLast Go.Proofs.YtnldanonpdijgaaW.PrintMore
attribute [local go_sem] max2_int min2_int max_two min_two max_three min_three max_four min_four
set_option linter.unusedVariables false
set_option linter.unusedSimpArgs false
mutual
def spec_LsOk.j0 : Nat → Bool → Int → Int → Int → List Int → Int → Int → List (S50) → Option (Bool)
  | 0,_,_,_,_,_,_,_,_ => none
  | k + 1,x53,x107000,x107001,x107002,x107003,x107004,x107005,x107006 => if x53 = true then (some false) else (spec_LsOk.l0 k 0 x107000 x107001 x107002 x107003 x107004 x107005 x107006)
def spec_LsOk.l0 : Nat → Int → Int → Int → Int → List Int → Int → Int → List (S50) → Option (Bool)
  | 0,_,_,_,_,_,_,_,_ => none
  | k + 1,x3,x107000,x107001,x107002,x107003,x107004,x107005,x107006 => if x3 < (x107003.length : Int) then (if 0 ≤ x3 then ((spec_l1In.f (rd x107003 x3) 50 150).bind fun t114 => (if t114 = true then (if x3 < (x107006.length : Int) then ((spec_l18At.f x107000 x107001 x107002 x107003 x107004 x107005 x107006 x3).bind fun t117 => ((spec_l1In.f ((rd_T50 x107006 x3).f1) 0 t117).bind fun t118 => (if t118 = true then ((spec_l1In.f ((rd_T50 x107006 x3).f5) 0 t117).bind fun t119 => (if t119 = true then ((spec_l1In.f ((rd_T50 x107006 x3).f3) (-1) (wrap64 ((x107003.length : Int) - 1))).bind fun t120 => (if t120 = true then ((spec_l1In.f ((rd_T50 x107006 x3).f4) 0 x107005).bind fun t121 => (if t121 = true then (if ((rd_T50 x107006 x3).f0 = true) then (if ((rd_T50 x107006 x3).f2 = true) then (spec_LsOk.j2 k x3 false x107000 x107001 x107002 x107003 x107004 x107005 x107006) else (if ((rd_T50 x107006 x3).f3) = (-1) then (if ((rd_T50 x107006 x3).f4) = 0 then (spec_LsOk.j2 k x3 (((rd_T50 x107006 x3).f5) != 0) x107000 x107001 x107002 x107003 x107004 x107005 x107006) else (spec_LsOk.j2 k x3 true x107000 x107001 x107002 x107003 x107004 x107005 x107006)) else (spec_LsOk.j2 k x3 true x107000 x107001 x107002 x107003 x107004 x107005 x107006))) else (if ((rd_T50 x107006 x3).f1) = 0 then (if ((rd_T50 x107006 x3).f2 = true) then (spec_LsOk.j2 k x3 false x107000 x107001 x107002 x107003 x107004 x107005 x107006) else (if ((rd_T50 x107006 x3).f3) = (-1) then (if ((rd_T50 x107006 x3).f4) = 0 then (spec_LsOk.j2 k x3 (((rd_T50 x107006 x3).f5) != 0) x107000 x107001 x107002 x107003 x107004 x107005 x107006) else (spec_LsOk.j2 k x3 true x107000 x107001 x107002 x107003 x107004 x107005 x107006)) else (spec_LsOk.j2 k x3 true x107000 x107001 x107002 x107003 x107004 x107005 x107006))) else (spec_LsOk.j2 k x3 true x107000 x107001 x107002 x107003 x107004 x107005 x107006))) else (spec_LsOk.j2 k x3 true x107000 x107001 x107002 x107003 x107004 x107005 x107006))) else (spec_LsOk.j2 k x3 true x107000 x107001 x107002 x107003 x107004 x107005 x107006))) else (spec_LsOk.j2 k x3 true x107000 x107001 x107002 x107003 x107004 x107005 x107006))) else (spec_LsOk.j2 k x3 true x107000 x107001 x107002 x107003 x107004 x107005 x107006)))) else (none)) else (some false))) else (none)) else (some true)
def spec_LsOk.j2 : Nat → Int → Bool → Int → Int → Int → List Int → Int → Int → List (S50) → Option (Bool)
  | 0,_,_,_,_,_,_,_,_,_ => none
  | k + 1,x3,x135,x107000,x107001,x107002,x107003,x107004,x107005,x107006 => if x135 = true then (some false) else (spec_LsOk.l0 k (wrap64 (x3 + 1)) x107000 x107001 x107002 x107003 x107004 x107005 x107006)
end
def spec_LsOk.f (k : Nat) (a0_0 : Int) (a0_1 : Int) (a0_2 : Int) (l0_3 : List Int) (a0_4 : Int) (a0_5 : Int) (l0_6 : List (S50)) : Option (Bool):=(spec_l1In.f a0_0 1 1000).bind fun t107 => (if t107 = true then ((spec_l1In.f a0_1 1 1000).bind fun t108 => (if t108 = true then ((spec_l1In.f a0_2 0 100000).bind fun t109 => (if t109 = true then ((spec_l1In.f (l0_3.length : Int) 1 4).bind fun t110 => (if t110 = true then (if (l0_6.length : Int) = (l0_3.length : Int) then ((spec_l1In.f a0_4 (-1) (wrap64 ((l0_3.length : Int) - 1))).bind fun t111 => (if t111 = true then ((spec_l1In.f a0_5 0 100000).bind fun t112 => (spec_LsOk.j0 k (!t112) a0_0 a0_1 a0_2 l0_3 a0_4 a0_5 l0_6)) else (spec_LsOk.j0 k true a0_0 a0_1 a0_2 l0_3 a0_4 a0_5 l0_6))) else (spec_LsOk.j0 k true a0_0 a0_1 a0_2 l0_3 a0_4 a0_5 l0_6)) else (spec_LsOk.j0 k true a0_0 a0_1 a0_2 l0_3 a0_4 a0_5 l0_6))) else (spec_LsOk.j0 k true a0_0 a0_1 a0_2 l0_3 a0_4 a0_5 l0_6))) else (spec_LsOk.j0 k true a0_0 a0_1 a0_2 l0_3 a0_4 a0_5 l0_6))) else (spec_LsOk.j0 k true a0_0 a0_1 a0_2 l0_3 a0_4 a0_5 l0_6))
set_option maxHeartbeats 8000000 in
set_option maxRecDepth 100000 in
theorem spec_LsOk.calls (k : Nat) (a0_0 : Int) (a0_1 : Int) (a0_2 : Int) (A0_3 : Option Addr) (c0_3 : Nat) (l0_3 : List Int) (a0_4 : Int) (a0_5 : Int) (A0_6 : Option Addr) (c0_6 : Nat) (l0_6 : List (S50)) (r : Bool) (w : World) (hr0_3 : Kd.C (Kd.int .i64) w A0_3 l0_3.length l0_3) (hc0_3 : l0_3.length ≤ c0_3) (hr0_6 : Kd.C k50 w A0_6 l0_6.length l0_6) (hc0_6 : l0_6.length ≤ c0_6) (h : spec_LsOk.f k a0_0 a0_1 a0_2 l0_3 a0_4 a0_5 l0_6 = some r) :
  Calls Try.prog 15 #[.agg #[.int .i64 a0_0,.int .i64 a0_1,.int .i64 a0_2,.slice A0_3 l0_3.length c0_3,.int .i64 a0_4,.int .i64 a0_5,.slice A0_6 l0_6.length c0_6]] w fun e w' => e = .returned (.bool r) ∧ Below w.heap.size w w':=by
 have hu30:=Try.underlying30
 have hu50:=Try.underlying50
 have HR0_3:=Aside0.mk hr0_3
 have HC0_3:=Aside0.mk hc0_3
 clear hr0_3 hc0_3
 have HR0_6:=Aside0.mk hr0_6
 have HC0_6:=Aside0.mk hc0_6
 clear hr0_6 hc0_6
 have HB:=Aside0.mk (Below.refl w.heap.size w)
 have H : ((spec_l1In.f a0_0 1 1000).bind fun t107 => (if t107 = true then ((spec_l1In.f a0_1 1 1000).bind fun t108 => (if t108 = true then ((spec_l1In.f a0_2 0 100000).bind fun t109 => (if t109 = true then ((spec_l1In.f (l0_3.length : Int) 1 4).bind fun t110 => (if t110 = true then (if (l0_6.length : Int) = (l0_3.length : Int) then ((spec_l1In.f a0_4 (-1) (wrap64 ((l0_3.length : Int) - 1))).bind fun t111 => (if t111 = true then ((spec_l1In.f a0_5 0 100000).bind fun t112 => (spec_LsOk.j0 k (!t112) a0_0 a0_1 a0_2 l0_3 a0_4 a0_5 l0_6)) else (spec_LsOk.j0 k true a0_0 a0_1 a0_2 l0_3 a0_4 a0_5 l0_6))) else (spec_LsOk.j0 k true a0_0 a0_1 a0_2 l0_3 a0_4 a0_5 l0_6)) else (spec_LsOk.j0 k true a0_0 a0_1 a0_2 l0_3 a0_4 a0_5 l0_6))) else (spec_LsOk.j0 k true a0_0 a0_1 a0_2 l0_3 a0_4 a0_5 l0_6))) else (spec_LsOk.j0 k true a0_0 a0_1 a0_2 l0_3 a0_4 a0_5 l0_6))) else (spec_LsOk.j0 k true a0_0 a0_1 a0_2 l0_3 a0_4 a0_5 l0_6))) = some r:=h
 clear h
 have HC2:=Aside0.mk H
 clear H
 go_enter Try.func15,Try.ntmps15
 go_upto_region 1 with (first|((with_reducible refine gate_dst (N:=1) rfl ?_);(try (refine gate_guard (by rfl) ?_;dsimp only));refine box_event ?hg (N:=1) ?hd (cs:=#[.int .i64 a0_0,.int .i64 a0_1,.int .i64 a0_2,.slice A0_3 l0_3.length c0_3,.int .i64 a0_4,.int .i64 a0_5,.slice A0_6 l0_6.length c0_6]) (t:=30) ?hr ?_;(case hd => rfl);(case hg => rfl);(case hr => first|(go_simp;done)|(go_simp;rfl));intro gb106 hg w3 hbox hb;have n0_:=Aside0.mk (below_step (by repeat (first|(with_reducible first|exact HB.out|apply below_alloc|apply pw_below_drewN|apply below_drew1)|exact HB.out)) hb);have n1_:=Aside0.mk (hbox);have n2_:=Aside0.mk ((by rw [hg];exact (below_size (by repeat (first|(with_reducible first|exact HB.out|apply below_alloc|apply pw_below_drewN|apply below_drew1)|exact HB.out))) : w.heap.size ≤ gb106));have n3_:=Aside0.mk ((by rw [hg];exact (below_size (by repeat (first|(with_reducible first|exact HB.out|apply below_alloc|apply pw_below_drewN|apply below_drew1)|exact HB.out))) : w.heap.size ≤ gb106));clear HB;have HB:=n0_;have BK106:=n1_;have GW106:=n2_;have GE106:=n3_;clear n0_ n1_ n2_ n3_;clear hb hbox hg))
 (try simp only [Act.put,List.setIfInBounds_toArray,List.set_cons_zero,List.set_cons_succ])
 go_cut [53] (fun v53 wc => ∃ (kq : Nat) (x53_1 : Bool),v53 = .bool x53_1 ∧ Aside0 (spec_LsOk.j0 kq x53_1 a0_0 a0_1 a0_2 l0_3 a0_4 a0_5 l0_6 = some r) ∧ Aside0 (kq ≤ k) ∧ Aside0 (wc.heap[gb106]? = some (.cells #[.int .i64 a0_0,.int .i64 a0_1,.int .i64 a0_2,(.slice A0_3 l0_3.length c0_3),.int .i64 a0_4,.int .i64 a0_5,(.slice A0_6 l0_6.length c0_6)] 30 (0,0))) ∧ Aside0 (Below w.heap.size w wc))
 case first =>
  have H:=HC2.out
  clear HC2
  replace H:=Option.bind_eq_some_iff.mp H
  obtain ⟨t107,A40,H⟩:=H
  replace H : (if t107 = true then ((spec_l1In.f a0_1 1 1000).bind fun t108 => (if t108 = true then ((spec_l1In.f a0_2 0 100000).bind fun t109 => (if t109 = true then ((spec_l1In.f (l0_3.length : Int) 1 4).bind fun t110 => (if t110 = true then (if (l0_6.length : Int) = (l0_3.length : Int) then ((spec_l1In.f a0_4 (-1) (wrap64 ((l0_3.length : Int) - 1))).bind fun t111 => (if t111 = true then ((spec_l1In.f a0_5 0 100000).bind fun t112 => (spec_LsOk.j0 k (!t112) a0_0 a0_1 a0_2 l0_3 a0_4 a0_5 l0_6)) else (spec_LsOk.j0 k true a0_0 a0_1 a0_2 l0_3 a0_4 a0_5 l0_6))) else (spec_LsOk.j0 k true a0_0 a0_1 a0_2 l0_3 a0_4 a0_5 l0_6)) else (spec_LsOk.j0 k true a0_0 a0_1 a0_2 l0_3 a0_4 a0_5 l0_6))) else (spec_LsOk.j0 k true a0_0 a0_1 a0_2 l0_3 a0_4 a0_5 l0_6))) else (spec_LsOk.j0 k true a0_0 a0_1 a0_2 l0_3 a0_4 a0_5 l0_6))) else (spec_LsOk.j0 k true a0_0 a0_1 a0_2 l0_3 a0_4 a0_5 l0_6)) = some r:=H
  have A4:=Aside0.mk A40
  clear A40
  by_cases c5 : t107 = true
  ·
   subst c5
   have H1 : ((spec_l1In.f a0_1 1 1000).bind fun t108 => (if t108 = true then ((spec_l1In.f a0_2 0 100000).bind fun t109 => (if t109 = true then ((spec_l1In.f (l0_3.length : Int) 1 4).bind fun t110 => (if t110 = true then (if (l0_6.length : Int) = (l0_3.length : Int) then ((spec_l1In.f a0_4 (-1) (wrap64 ((l0_3.length : Int) - 1))).bind fun t111 => (if t111 = true then ((spec_l1In.f a0_5 0 100000).bind fun t112 => (spec_LsOk.j0 k (!t112) a0_0 a0_1 a0_2 l0_3 a0_4 a0_5 l0_6)) else (spec_LsOk.j0 k true a0_0 a0_1 a0_2 l0_3 a0_4 a0_5 l0_6))) else (spec_LsOk.j0 k true a0_0 a0_1 a0_2 l0_3 a0_4 a0_5 l0_6)) else (spec_LsOk.j0 k true a0_0 a0_1 a0_2 l0_3 a0_4 a0_5 l0_6))) else (spec_LsOk.j0 k true a0_0 a0_1 a0_2 l0_3 a0_4 a0_5 l0_6))) else (spec_LsOk.j0 k true a0_0 a0_1 a0_2 l0_3 a0_4 a0_5 l0_6))) = some r:=by rw [if_pos rfl] at H;exact H
   clear H
   have H:=H1
   clear H1
   replace H:=Option.bind_eq_some_iff.mp H
   obtain ⟨t108,A60,H⟩:=H
   replace H : (if t108 = true then ((spec_l1In.f a0_2 0 100000).bind fun t109 => (if t109 = true then ((spec_l1In.f (l0_3.length : Int) 1 4).bind fun t110 => (if t110 = true then (if (l0_6.length : Int) = (l0_3.length : Int) then ((spec_l1In.f a0_4 (-1) (wrap64 ((l0_3.length : Int) - 1))).bind fun t111 => (if t111 = true then ((spec_l1In.f a0_5 0 100000).bind fun t112 => (spec_LsOk.j0 k (!t112) a0_0 a0_1 a0_2 l0_3 a0_4 a0_5 l0_6)) else (spec_LsOk.j0 k true a0_0 a0_1 a0_2 l0_3 a0_4 a0_5 l0_6))) else (spec_LsOk.j0 k true a0_0 a0_1 a0_2 l0_3 a0_4 a0_5 l0_6)) else (spec_LsOk.j0 k true a0_0 a0_1 a0_2 l0_3 a0_4 a0_5 l0_6))) else (spec_LsOk.j0 k true a0_0 a0_1 a0_2 l0_3 a0_4 a0_5 l0_6))) else (spec_LsOk.j0 k true a0_0 a0_1 a0_2 l0_3 a0_4 a0_5 l0_6)) = some r:=H
   have A6:=Aside0.mk A60
   clear A60
   by_cases c7 : t108 = true
   ·
    subst c7
    have H1 : ((spec_l1In.f a0_2 0 100000).bind fun t109 => (if t109 = true then ((spec_l1In.f (l0_3.length : Int) 1 4).bind fun t110 => (if t110 = true then (if (l0_6.length : Int) = (l0_3.length : Int) then ((spec_l1In.f a0_4 (-1) (wrap64 ((l0_3.length : Int) - 1))).bind fun t111 => (if t111 = true then ((spec_l1In.f a0_5 0 100000).bind fun t112 => (spec_LsOk.j0 k (!t112) a0_0 a0_1 a0_2 l0_3 a0_4 a0_5 l0_6)) else (spec_LsOk.j0 k true a0_0 a0_1 a0_2 l0_3 a0_4 a0_5 l0_6))) else (spec_LsOk.j0 k true a0_0 a0_1 a0_2 l0_3 a0_4 a0_5 l0_6)) else (spec_LsOk.j0 k true a0_0 a0_1 a0_2 l0_3 a0_4 a0_5 l0_6))) else (spec_LsOk.j0 k true a0_0 a0_1 a0_2 l0_3 a0_4 a0_5 l0_6))) = some r:=by rw [if_pos rfl] at H;exact H
    clear H
    have H:=H1
    clear H1
    replace H:=Option.bind_eq_some_iff.mp H
    obtain ⟨t109,A80,H⟩:=H
    replace H : (if t109 = true then ((spec_l1In.f (l0_3.length : Int) 1 4).bind fun t110 => (if t110 = true then (if (l0_6.length : Int) = (l0_3.length : Int) then ((spec_l1In.f a0_4 (-1) (wrap64 ((l0_3.length : Int) - 1))).bind fun t111 => (if t111 = true then ((spec_l1In.f a0_5 0 100000).bind fun t112 => (spec_LsOk.j0 k (!t112) a0_0 a0_1 a0_2 l0_3 a0_4 a0_5 l0_6)) else (spec_LsOk.j0 k true a0_0 a0_1 a0_2 l0_3 a0_4 a0_5 l0_6))) else (spec_LsOk.j0 k true a0_0 a0_1 a0_2 l0_3 a0_4 a0_5 l0_6)) else (spec_LsOk.j0 k true a0_0 a0_1 a0_2 l0_3 a0_4 a0_5 l0_6))) else (spec_LsOk.j0 k true a0_0 a0_1 a0_2 l0_3 a0_4 a0_5 l0_6)) = some r:=H
    have A8:=Aside0.mk A80
    clear A80
    by_cases c9 : t109 = true
    ·
     subst c9
     have H1 : ((spec_l1In.f (l0_3.length : Int) 1 4).bind fun t110 => (if t110 = true then (if (l0_6.length : Int) = (l0_3.length : Int) then ((spec_l1In.f a0_4 (-1) (wrap64 ((l0_3.length : Int) - 1))).bind fun t111 => (if t111 = true then ((spec_l1In.f a0_5 0 100000).bind fun t112 => (spec_LsOk.j0 k (!t112) a0_0 a0_1 a0_2 l0_3 a0_4 a0_5 l0_6)) else (spec_LsOk.j0 k true a0_0 a0_1 a0_2 l0_3 a0_4 a0_5 l0_6))) else (spec_LsOk.j0 k true a0_0 a0_1 a0_2 l0_3 a0_4 a0_5 l0_6)) else (spec_LsOk.j0 k true a0_0 a0_1 a0_2 l0_3 a0_4 a0_5 l0_6))) = some r:=by rw [if_pos rfl] at H;exact H
     clear H
     have H:=H1
     clear H1
     replace H:=Option.bind_eq_some_iff.mp H
     obtain ⟨t110,A100,H⟩:=H
     replace H : (if t110 = true then (if (l0_6.length : Int) = (l0_3.length : Int) then ((spec_l1In.f a0_4 (-1) (wrap64 ((l0_3.length : Int) - 1))).bind fun t111 => (if t111 = true then ((spec_l1In.f a0_5 0 100000).bind fun t112 => (spec_LsOk.j0 k (!t112) a0_0 a0_1 a0_2 l0_3 a0_4 a0_5 l0_6)) else (spec_LsOk.j0 k true a0_0 a0_1 a0_2 l0_3 a0_4 a0_5 l0_6))) else (spec_LsOk.j0 k true a0_0 a0_1 a0_2 l0_3 a0_4 a0_5 l0_6)) else (spec_LsOk.j0 k true a0_0 a0_1 a0_2 l0_3 a0_4 a0_5 l0_6)) = some r:=H
     have A10:=Aside0.mk A100
     clear A100
     by_cases c11 : t110 = true
     ·
      subst c11
      have H1 : (if (l0_6.length : Int) = (l0_3.length : Int) then ((spec_l1In.f a0_4 (-1) (wrap64 ((l0_3.length : Int) - 1))).bind fun t111 => (if t111 = true then ((spec_l1In.f a0_5 0 100000).bind fun t112 => (spec_LsOk.j0 k (!t112) a0_0 a0_1 a0_2 l0_3 a0_4 a0_5 l0_6)) else (spec_LsOk.j0 k true a0_0 a0_1 a0_2 l0_3 a0_4 a0_5 l0_6))) else (spec_LsOk.j0 k true a0_0 a0_1 a0_2 l0_3 a0_4 a0_5 l0_6)) = some r:=by rw [if_pos rfl] at H;exact H
      clear H
      have H:=H1
      clear H1
      by_cases c12 : (l0_6.length : Int) = (l0_3.length : Int)
      ·
       rw [if_pos c12] at H
       have c12b0 : ((l0_6.length : Int) == (l0_3.length : Int)) = true:=beq_iff_eq.mpr c12
       have c12b1 : ((l0_6.length : Int) != (l0_3.length : Int)) = false:=bne_eq_false_iff_eq.mpr c12
       have c12b2 : (l0_6.length == l0_3.length) = true:=by first|simpa using c12|(simp at c12 ⊢;omega)
       clear c12
       (first|rw [c12b0]|(simp only [i64_w,i32_w];rw [c12b0])|rw [c12b2]|skip)
       replace H:=Option.bind_eq_some_iff.mp H
       obtain ⟨t111,A130,H⟩:=H
       replace H : (if t111 = true then ((spec_l1In.f a0_5 0 100000).bind fun t112 => (spec_LsOk.j0 k (!t112) a0_0 a0_1 a0_2 l0_3 a0_4 a0_5 l0_6)) else (spec_LsOk.j0 k true a0_0 a0_1 a0_2 l0_3 a0_4 a0_5 l0_6)) = some r:=H
       have A13:=Aside0.mk A130
       clear A130
       by_cases c14 : t111 = true
       ·
        subst c14
        have H1 : ((spec_l1In.f a0_5 0 100000).bind fun t112 => (spec_LsOk.j0 k (!t112) a0_0 a0_1 a0_2 l0_3 a0_4 a0_5 l0_6)) = some r:=by rw [if_pos rfl] at H;exact H
        clear H
        have H:=H1
        clear H1
        replace H:=Option.bind_eq_some_iff.mp H
        obtain ⟨t112,A150,H⟩:=H
        replace H : (spec_LsOk.j0 k (!t112) a0_0 a0_1 a0_2 l0_3 a0_4 a0_5 l0_6) = some r:=H
        have A15:=Aside0.mk A150
        clear A150
        have H':=Aside0.mk H
        clear H
        have hcz16_0 : w3.cell? ⟨gb106,0,none⟩ = some (.int .i64 a0_0):=(blk_cell BK106.out 0).trans rfl
        have hcz16_1 : w3.cell? ⟨gb106,1,none⟩ = some (.int .i64 a0_1):=(blk_cell BK106.out 1).trans rfl
        have hcz16_2 : w3.cell? ⟨gb106,2,none⟩ = some (.int .i64 a0_2):=(blk_cell BK106.out 2).trans rfl
        have hcz16_3 : w3.cell? ⟨gb106,3,none⟩ = some (.slice A0_3 l0_3.length c0_3):=(blk_cell BK106.out 3).trans rfl
        have hcz16_4 : w3.cell? ⟨gb106,4,none⟩ = some (.int .i64 a0_4):=(blk_cell BK106.out 4).trans rfl
        have hcz16_5 : w3.cell? ⟨gb106,5,none⟩ = some (.int .i64 a0_5):=(blk_cell BK106.out 5).trans rfl
        have hcz16_6 : w3.cell? ⟨gb106,6,none⟩ = some (.slice A0_6 l0_6.length c0_6):=(blk_cell BK106.out 6).trans rfl
        have hfz16_0:=blk_frozen BK106.out 0
        have hfz16_1:=blk_frozen BK106.out 1
        have hfz16_2:=blk_frozen BK106.out 2
        have hfz16_3:=blk_frozen BK106.out 3
        have hfz16_4:=blk_frozen BK106.out 4
        have hfz16_5:=blk_frozen BK106.out 5
        have hfz16_6:=blk_frozen BK106.out 6
        go_wp2_with (first|((with_reducible refine gate_callee (f:=48) rfl ?_);refine goesL_ (some 8) rfl rfl Try.func48 (by kernel_rfl) rfl #[.int .i64 a0_0,.int .i64 1,.int .i64 1000] rfl (by (try simp only [List.map_toArray,List.map_cons,List.map_nil]);first|done|rfl|(simp only [List.length_drop,List.length_take];rfl)) ?_;(with_reducible refine (spec_l1In.calls a0_0 1 1000 true _ A4.out).mono ?_);rintro e w' ⟨rfl,⟨nd,rfl⟩⟩;refine ⟨_,rfl,?_⟩)|(go_at_call 48;(with_reducible refine (spec_l1In.calls a0_1 1 1000 true _ A6.out).mono ?_);rintro e w' ⟨rfl,⟨nd,rfl⟩⟩)|(go_at_call 48;(with_reducible refine (spec_l1In.calls a0_2 0 100000 true _ A8.out).mono ?_);rintro e w' ⟨rfl,⟨nd,rfl⟩⟩)|(go_at_call 48;(with_reducible refine (spec_l1In.calls (l0_3.length : Int) 1 4 true _ A10.out).mono ?_);rintro e w' ⟨rfl,⟨nd,rfl⟩⟩)|(go_at_call 48;(with_reducible refine (spec_l1In.calls a0_4 (-1) (wrap64 ((l0_3.length : Int) - 1)) true _ A13.out).mono ?_);rintro e w' ⟨rfl,⟨nd,rfl⟩⟩)|(go_at_call 48;(with_reducible refine (spec_l1In.calls a0_5 0 100000 t112 _ A15.out).mono ?_);rintro e w' ⟨rfl,⟨nd,rfl⟩⟩))
        go_meet
        case rel => exact ⟨_,(!t112),(by first|rfl|(simp;done)|(simp [*];done)),H',⟨by first|omega|exact Nat.le_refl _⟩,⟨by (with_reducible repeat (first|refine blk_drewN ?_ _|refine blk_drew ?_|refine blk_alloc ?_ _));exact BK106.out⟩,⟨by repeat (first|(with_reducible first|exact HB.out|apply below_alloc|apply pw_below_drewN|apply below_drew1|refine below_set ?_ GE106.out)|exact HB.out)⟩⟩
       ·
        replace c14:=Bool.eq_false_iff.mpr c14
        subst c14
        have H1 : (spec_LsOk.j0 k true a0_0 a0_1 a0_2 l0_3 a0_4 a0_5 l0_6) = some r:=by rw [if_neg (show ¬ (false = true) by decide)] at H;exact H
        clear H
        have H:=H1
        clear H1
        have H':=Aside0.mk H
        clear H
        have hcz17_0 : w3.cell? ⟨gb106,0,none⟩ = some (.int .i64 a0_0):=(blk_cell BK106.out 0).trans rfl
        have hcz17_1 : w3.cell? ⟨gb106,1,none⟩ = some (.int .i64 a0_1):=(blk_cell BK106.out 1).trans rfl
        have hcz17_2 : w3.cell? ⟨gb106,2,none⟩ = some (.int .i64 a0_2):=(blk_cell BK106.out 2).trans rfl
        have hcz17_3 : w3.cell? ⟨gb106,3,none⟩ = some (.slice A0_3 l0_3.length c0_3):=(blk_cell BK106.out 3).trans rfl
        have hcz17_4 : w3.cell? ⟨gb106,4,none⟩ = some (.int .i64 a0_4):=(blk_cell BK106.out 4).trans rfl
        have hcz17_5 : w3.cell? ⟨gb106,5,none⟩ = some (.int .i64 a0_5):=(blk_cell BK106.out 5).trans rfl
        have hcz17_6 : w3.cell? ⟨gb106,6,none⟩ = some (.slice A0_6 l0_6.length c0_6):=(blk_cell BK106.out 6).trans rfl
        have hfz17_0:=blk_frozen BK106.out 0
        have hfz17_1:=blk_frozen BK106.out 1
        have hfz17_2:=blk_frozen BK106.out 2
        have hfz17_3:=blk_frozen BK106.out 3
        have hfz17_4:=blk_frozen BK106.out 4
        have hfz17_5:=blk_frozen BK106.out 5
        have hfz17_6:=blk_frozen BK106.out 6
        go_wp2_with (first|((with_reducible refine gate_callee (f:=48) rfl ?_);refine goesL_ (some 8) rfl rfl Try.func48 (by kernel_rfl) rfl #[.int .i64 a0_0,.int .i64 1,.int .i64 1000] rfl (by (try simp only [List.map_toArray,List.map_cons,List.map_nil]);first|done|rfl|(simp only [List.length_drop,List.length_take];rfl)) ?_;(with_reducible refine (spec_l1In.calls a0_0 1 1000 true _ A4.out).mono ?_);rintro e w' ⟨rfl,⟨nd,rfl⟩⟩;refine ⟨_,rfl,?_⟩)|(go_at_call 48;(with_reducible refine (spec_l1In.calls a0_1 1 1000 true _ A6.out).mono ?_);rintro e w' ⟨rfl,⟨nd,rfl⟩⟩)|(go_at_call 48;(with_reducible refine (spec_l1In.calls a0_2 0 100000 true _ A8.out).mono ?_);rintro e w' ⟨rfl,⟨nd,rfl⟩⟩)|(go_at_call 48;(with_reducible refine (spec_l1In.calls (l0_3.length : Int) 1 4 true _ A10.out).mono ?_);rintro e w' ⟨rfl,⟨nd,rfl⟩⟩)|(go_at_call 48;(with_reducible refine (spec_l1In.calls a0_4 (-1) (wrap64 ((l0_3.length : Int) - 1)) false _ A13.out).mono ?_);rintro e w' ⟨rfl,⟨nd,rfl⟩⟩))
        go_meet
        case rel => exact ⟨_,(true),(by first|rfl|(simp;done)|(simp [*];done)),H',⟨by first|omega|exact Nat.le_refl _⟩,⟨by (with_reducible repeat (first|refine blk_drewN ?_ _|refine blk_drew ?_|refine blk_alloc ?_ _));exact BK106.out⟩,⟨by repeat (first|(with_reducible first|exact HB.out|apply below_alloc|apply pw_below_drewN|apply below_drew1|refine below_set ?_ GE106.out)|exact HB.out)⟩⟩
      ·
       rw [if_neg c12] at H
       have c12b0 : ((l0_6.length : Int) == (l0_3.length : Int)) = false:=beq_eq_false_iff_ne.mpr c12
       have c12b1 : ((l0_6.length : Int) != (l0_3.length : Int)) = true:=bne_iff_ne.mpr c12
       have c12b2 : (l0_6.length == l0_3.length) = false:=by first|simpa using c12|(simp at c12 ⊢;omega)
       (first|rw [c12b0]|(simp only [i64_w,i32_w];rw [c12b0])|rw [c12b2]|skip)
       have H':=Aside0.mk H
       clear H
       have hcz18_0 : w3.cell? ⟨gb106,0,none⟩ = some (.int .i64 a0_0):=(blk_cell BK106.out 0).trans rfl
       have hcz18_1 : w3.cell? ⟨gb106,1,none⟩ = some (.int .i64 a0_1):=(blk_cell BK106.out 1).trans rfl
       have hcz18_2 : w3.cell? ⟨gb106,2,none⟩ = some (.int .i64 a0_2):=(blk_cell BK106.out 2).trans rfl
       have hcz18_3 : w3.cell? ⟨gb106,3,none⟩ = some (.slice A0_3 l0_3.length c0_3):=(blk_cell BK106.out 3).trans rfl
       have hcz18_4 : w3.cell? ⟨gb106,4,none⟩ = some (.int .i64 a0_4):=(blk_cell BK106.out 4).trans rfl
       have hcz18_5 : w3.cell? ⟨gb106,5,none⟩ = some (.int .i64 a0_5):=(blk_cell BK106.out 5).trans rfl
       have hcz18_6 : w3.cell? ⟨gb106,6,none⟩ = some (.slice A0_6 l0_6.length c0_6):=(blk_cell BK106.out 6).trans rfl
       have hfz18_0:=blk_frozen BK106.out 0
       have hfz18_1:=blk_frozen BK106.out 1
       have hfz18_2:=blk_frozen BK106.out 2
       have hfz18_3:=blk_frozen BK106.out 3
       have hfz18_4:=blk_frozen BK106.out 4
       have hfz18_5:=blk_frozen BK106.out 5
       have hfz18_6:=blk_frozen BK106.out 6
       go_wp2_with (first|((with_reducible refine gate_callee (f:=48) rfl ?_);refine goesL_ (some 8) rfl rfl Try.func48 (by kernel_rfl) rfl #[.int .i64 a0_0,.int .i64 1,.int .i64 1000] rfl (by (try simp only [List.map_toArray,List.map_cons,List.map_nil]);first|done|rfl|(simp only [List.length_drop,List.length_take];rfl)) ?_;(with_reducible refine (spec_l1In.calls a0_0 1 1000 true _ A4.out).mono ?_);rintro e w' ⟨rfl,⟨nd,rfl⟩⟩;refine ⟨_,rfl,?_⟩)|(go_at_call 48;(with_reducible refine (spec_l1In.calls a0_1 1 1000 true _ A6.out).mono ?_);rintro e w' ⟨rfl,⟨nd,rfl⟩⟩)|(go_at_call 48;(with_reducible refine (spec_l1In.calls a0_2 0 100000 true _ A8.out).mono ?_);rintro e w' ⟨rfl,⟨nd,rfl⟩⟩)|(go_at_call 48;(with_reducible refine (spec_l1In.calls (l0_3.length : Int) 1 4 true _ A10.out).mono ?_);rintro e w' ⟨rfl,⟨nd,rfl⟩⟩))
       go_meet
       case rel => exact ⟨_,(true),(by first|rfl|(simp;done)|(simp [*];done)),H',⟨by first|omega|exact Nat.le_refl _⟩,⟨by (with_reducible repeat (first|refine blk_drewN ?_ _|refine blk_drew ?_|refine blk_alloc ?_ _));exact BK106.out⟩,⟨by repeat (first|(with_reducible first|exact HB.out|apply below_alloc|apply pw_below_drewN|apply below_drew1|refine below_set ?_ GE106.out)|exact HB.out)⟩⟩
     ·
      replace c11:=Bool.eq_false_iff.mpr c11
      subst c11
      have H1 : (spec_LsOk.j0 k true a0_0 a0_1 a0_2 l0_3 a0_4 a0_5 l0_6) = some r:=by rw [if_neg (show ¬ (false = true) by decide)] at H;exact H
      clear H
      have H:=H1
      clear H1
      have H':=Aside0.mk H
      clear H
      have hcz19_0 : w3.cell? ⟨gb106,0,none⟩ = some (.int .i64 a0_0):=(blk_cell BK106.out 0).trans rfl
      have hcz19_1 : w3.cell? ⟨gb106,1,none⟩ = some (.int .i64 a0_1):=(blk_cell BK106.out 1).trans rfl
      have hcz19_2 : w3.cell? ⟨gb106,2,none⟩ = some (.int .i64 a0_2):=(blk_cell BK106.out 2).trans rfl
      have hcz19_3 : w3.cell? ⟨gb106,3,none⟩ = some (.slice A0_3 l0_3.length c0_3):=(blk_cell BK106.out 3).trans rfl
      have hcz19_4 : w3.cell? ⟨gb106,4,none⟩ = some (.int .i64 a0_4):=(blk_cell BK106.out 4).trans rfl
      have hcz19_5 : w3.cell? ⟨gb106,5,none⟩ = some (.int .i64 a0_5):=(blk_cell BK106.out 5).trans rfl
      have hcz19_6 : w3.cell? ⟨gb106,6,none⟩ = some (.slice A0_6 l0_6.length c0_6):=(blk_cell BK106.out 6).trans rfl
      have hfz19_0:=blk_frozen BK106.out 0
      have hfz19_1:=blk_frozen BK106.out 1
      have hfz19_2:=blk_frozen BK106.out 2
      have hfz19_3:=blk_frozen BK106.out 3
      have hfz19_4:=blk_frozen BK106.out 4
      have hfz19_5:=blk_frozen BK106.out 5
      have hfz19_6:=blk_frozen BK106.out 6
      go_wp2_with (first|((with_reducible refine gate_callee (f:=48) rfl ?_);refine goesL_ (some 8) rfl rfl Try.func48 (by kernel_rfl) rfl #[.int .i64 a0_0,.int .i64 1,.int .i64 1000] rfl (by (try simp only [List.map_toArray,List.map_cons,List.map_nil]);first|done|rfl|(simp only [List.length_drop,List.length_take];rfl)) ?_;(with_reducible refine (spec_l1In.calls a0_0 1 1000 true _ A4.out).mono ?_);rintro e w' ⟨rfl,⟨nd,rfl⟩⟩;refine ⟨_,rfl,?_⟩)|(go_at_call 48;(with_reducible refine (spec_l1In.calls a0_1 1 1000 true _ A6.out).mono ?_);rintro e w' ⟨rfl,⟨nd,rfl⟩⟩)|(go_at_call 48;(with_reducible refine (spec_l1In.calls a0_2 0 100000 true _ A8.out).mono ?_);rintro e w' ⟨rfl,⟨nd,rfl⟩⟩)|(go_at_call 48;(with_reducible refine (spec_l1In.calls (l0_3.length : Int) 1 4 false _ A10.out).mono ?_);rintro e w' ⟨rfl,⟨nd,rfl⟩⟩))
      go_meet
      case rel => exact ⟨_,(true),(by first|rfl|(simp;done)|(simp [*];done)),H',⟨by first|omega|exact Nat.le_refl _⟩,⟨by (with_reducible repeat (first|refine blk_drewN ?_ _|refine blk_drew ?_|refine blk_alloc ?_ _));exact BK106.out⟩,⟨by repeat (first|(with_reducible first|exact HB.out|apply below_alloc|apply pw_below_drewN|apply below_drew1|refine below_set ?_ GE106.out)|exact HB.out)⟩⟩
    ·
     replace c9:=Bool.eq_false_iff.mpr c9
     subst c9
     have H1 : (spec_LsOk.j0 k true a0_0 a0_1 a0_2 l0_3 a0_4 a0_5 l0_6) = some r:=by rw [if_neg (show ¬ (false = true) by decide)] at H;exact H
     clear H
     have H:=H1
     clear H1
     have H':=Aside0.mk H
     clear H
     have hcz20_0 : w3.cell? ⟨gb106,0,none⟩ = some (.int .i64 a0_0):=(blk_cell BK106.out 0).trans rfl
     have hcz20_1 : w3.cell? ⟨gb106,1,none⟩ = some (.int .i64 a0_1):=(blk_cell BK106.out 1).trans rfl
     have hcz20_2 : w3.cell? ⟨gb106,2,none⟩ = some (.int .i64 a0_2):=(blk_cell BK106.out 2).trans rfl
     have hcz20_3 : w3.cell? ⟨gb106,3,none⟩ = some (.slice A0_3 l0_3.length c0_3):=(blk_cell BK106.out 3).trans rfl
     have hcz20_4 : w3.cell? ⟨gb106,4,none⟩ = some (.int .i64 a0_4):=(blk_cell BK106.out 4).trans rfl
     have hcz20_5 : w3.cell? ⟨gb106,5,none⟩ = some (.int .i64 a0_5):=(blk_cell BK106.out 5).trans rfl
     have hcz20_6 : w3.cell? ⟨gb106,6,none⟩ = some (.slice A0_6 l0_6.length c0_6):=(blk_cell BK106.out 6).trans rfl
     have hfz20_0:=blk_frozen BK106.out 0
     have hfz20_1:=blk_frozen BK106.out 1
     have hfz20_2:=blk_frozen BK106.out 2
     have hfz20_3:=blk_frozen BK106.out 3
     have hfz20_4:=blk_frozen BK106.out 4
     have hfz20_5:=blk_frozen BK106.out 5
     have hfz20_6:=blk_frozen BK106.out 6
     go_wp2_with (first|((with_reducible refine gate_callee (f:=48) rfl ?_);refine goesL_ (some 8) rfl rfl Try.func48 (by kernel_rfl) rfl #[.int .i64 a0_0,.int .i64 1,.int .i64 1000] rfl (by (try simp only [List.map_toArray,List.map_cons,List.map_nil]);first|done|rfl|(simp only [List.length_drop,List.length_take];rfl)) ?_;(with_reducible refine (spec_l1In.calls a0_0 1 1000 true _ A4.out).mono ?_);rintro e w' ⟨rfl,⟨nd,rfl⟩⟩;refine ⟨_,rfl,?_⟩)|(go_at_call 48;(with_reducible refine (spec_l1In.calls a0_1 1 1000 true _ A6.out).mono ?_);rintro e w' ⟨rfl,⟨nd,rfl⟩⟩)|(go_at_call 48;(with_reducible refine (spec_l1In.calls a0_2 0 100000 false _ A8.out).mono ?_);rintro e w' ⟨rfl,⟨nd,rfl⟩⟩))
     go_meet
     case rel => exact ⟨_,(true),(by first|rfl|(simp;done)|(simp [*];done)),H',⟨by first|omega|exact Nat.le_refl _⟩,⟨by (with_reducible repeat (first|refine blk_drewN ?_ _|refine blk_drew ?_|refine blk_alloc ?_ _));exact BK106.out⟩,⟨by repeat (first|(with_reducible first|exact HB.out|apply below_alloc|apply pw_below_drewN|apply below_drew1|refine below_set ?_ GE106.out)|exact HB.out)⟩⟩
   ·
    replace c7:=Bool.eq_false_iff.mpr c7
    subst c7
    have H1 : (spec_LsOk.j0 k true a0_0 a0_1 a0_2 l0_3 a0_4 a0_5 l0_6) = some r:=by rw [if_neg (show ¬ (false = true) by decide)] at H;exact H
    clear H
    have H:=H1
    clear H1
    have H':=Aside0.mk H
    clear H
    have hcz21_0 : w3.cell? ⟨gb106,0,none⟩ = some (.int .i64 a0_0):=(blk_cell BK106.out 0).trans rfl
    have hcz21_1 : w3.cell? ⟨gb106,1,none⟩ = some (.int .i64 a0_1):=(blk_cell BK106.out 1).trans rfl
    have hcz21_2 : w3.cell? ⟨gb106,2,none⟩ = some (.int .i64 a0_2):=(blk_cell BK106.out 2).trans rfl
    have hcz21_3 : w3.cell? ⟨gb106,3,none⟩ = some (.slice A0_3 l0_3.length c0_3):=(blk_cell BK106.out 3).trans rfl
    have hcz21_4 : w3.cell? ⟨gb106,4,none⟩ = some (.int .i64 a0_4):=(blk_cell BK106.out 4).trans rfl
    have hcz21_5 : w3.cell? ⟨gb106,5,none⟩ = some (.int .i64 a0_5):=(blk_cell BK106.out 5).trans rfl
    have hcz21_6 : w3.cell? ⟨gb106,6,none⟩ = some (.slice A0_6 l0_6.length c0_6):=(blk_cell BK106.out 6).trans rfl
    have hfz21_0:=blk_frozen BK106.out 0
    have hfz21_1:=blk_frozen BK106.out 1
    have hfz21_2:=blk_frozen BK106.out 2
    have hfz21_3:=blk_frozen BK106.out 3
    have hfz21_4:=blk_frozen BK106.out 4
    have hfz21_5:=blk_frozen BK106.out 5
    have hfz21_6:=blk_frozen BK106.out 6
    go_wp2_with (first|((with_reducible refine gate_callee (f:=48) rfl ?_);refine goesL_ (some 8) rfl rfl Try.func48 (by kernel_rfl) rfl #[.int .i64 a0_0,.int .i64 1,.int .i64 1000] rfl (by (try simp only [List.map_toArray,List.map_cons,List.map_nil]);first|done|rfl|(simp only [List.length_drop,List.length_take];rfl)) ?_;(with_reducible refine (spec_l1In.calls a0_0 1 1000 true _ A4.out).mono ?_);rintro e w' ⟨rfl,⟨nd,rfl⟩⟩;refine ⟨_,rfl,?_⟩)|(go_at_call 48;(with_reducible refine (spec_l1In.calls a0_1 1 1000 false _ A6.out).mono ?_);rintro e w' ⟨rfl,⟨nd,rfl⟩⟩))
    go_meet
    case rel => exact ⟨_,(true),(by first|rfl|(simp;done)|(simp [*];done)),H',⟨by first|omega|exact Nat.le_refl _⟩,⟨by (with_reducible repeat (first|refine blk_drewN ?_ _|refine blk_drew ?_|refine blk_alloc ?_ _));exact BK106.out⟩,⟨by repeat (first|(with_reducible first|exact HB.out|apply below_alloc|apply pw_below_drewN|apply below_drew1|refine below_set ?_ GE106.out)|exact HB.out)⟩⟩
  ·
   replace c5:=Bool.eq_false_iff.mpr c5
   subst c5
   have H1 : (spec_LsOk.j0 k true a0_0 a0_1 a0_2 l0_3 a0_4 a0_5 l0_6) = some r:=by rw [if_neg (show ¬ (false = true) by decide)] at H;exact H
   clear H
   have H:=H1
   clear H1
   have H':=Aside0.mk H
   clear H
   have hcz22_0 : w3.cell? ⟨gb106,0,none⟩ = some (.int .i64 a0_0):=(blk_cell BK106.out 0).trans rfl
   have hcz22_1 : w3.cell? ⟨gb106,1,none⟩ = some (.int .i64 a0_1):=(blk_cell BK106.out 1).trans rfl
   have hcz22_2 : w3.cell? ⟨gb106,2,none⟩ = some (.int .i64 a0_2):=(blk_cell BK106.out 2).trans rfl
   have hcz22_3 : w3.cell? ⟨gb106,3,none⟩ = some (.slice A0_3 l0_3.length c0_3):=(blk_cell BK106.out 3).trans rfl
   have hcz22_4 : w3.cell? ⟨gb106,4,none⟩ = some (.int .i64 a0_4):=(blk_cell BK106.out 4).trans rfl
   have hcz22_5 : w3.cell? ⟨gb106,5,none⟩ = some (.int .i64 a0_5):=(blk_cell BK106.out 5).trans rfl
   have hcz22_6 : w3.cell? ⟨gb106,6,none⟩ = some (.slice A0_6 l0_6.length c0_6):=(blk_cell BK106.out 6).trans rfl
   have hfz22_0:=blk_frozen BK106.out 0
   have hfz22_1:=blk_frozen BK106.out 1
   have hfz22_2:=blk_frozen BK106.out 2
   have hfz22_3:=blk_frozen BK106.out 3
   have hfz22_4:=blk_frozen BK106.out 4
   have hfz22_5:=blk_frozen BK106.out 5
   have hfz22_6:=blk_frozen BK106.out 6
   go_wp2_with (first|((with_reducible refine gate_callee (f:=48) rfl ?_);refine goesL_ (some 8) rfl rfl Try.func48 (by kernel_rfl) rfl #[.int .i64 a0_0,.int .i64 1,.int .i64 1000] rfl (by (try simp only [List.map_toArray,List.map_cons,List.map_nil]);first|done|rfl|(simp only [List.length_drop,List.length_take];rfl)) ?_;(with_reducible refine (spec_l1In.calls a0_0 1 1000 false _ A4.out).mono ?_);rintro e w' ⟨rfl,⟨nd,rfl⟩⟩;refine ⟨_,rfl,?_⟩))
   go_meet
   case rel => exact ⟨_,(true),(by first|rfl|(simp;done)|(simp [*];done)),H',⟨by first|omega|exact Nat.le_refl _⟩,⟨by (with_reducible repeat (first|refine blk_drewN ?_ _|refine blk_drew ?_|refine blk_alloc ?_ _));exact BK106.out⟩,⟨by repeat (first|(with_reducible first|exact HB.out|apply below_alloc|apply pw_below_drewN|apply below_drew1|refine below_set ?_ GE106.out)|exact HB.out)⟩⟩
 case rest =>
  clear HC2
  try clear c1
  try clear p2
  try clear c4
  try clear c5
  try clear p6
  try clear c7
  try clear c9
  try clear c11
  try clear c12
  try clear c12b0
  try clear c12b1
  try clear c12b2
  try clear c14
  try clear c15
  try clear hcz16_0
  try clear hcz16_1
  try clear hcz16_2
  try clear hcz16_3
  try clear hcz16_4
  try clear hcz16_5
  try clear hcz16_6
  try clear hcz17_0
  try clear hcz17_1
  try clear hcz17_2
  try clear hcz17_3
  try clear hcz17_4
  try clear hcz17_5
  try clear hcz17_6
  try clear hcz18_0
  try clear hcz18_1
  try clear hcz18_2
  try clear hcz18_3
  try clear hcz18_4
  try clear hcz18_5
  try clear hcz18_6
  try clear hcz19_0
  try clear hcz19_1
  try clear hcz19_2
  try clear hcz19_3
  try clear hcz19_4
  try clear hcz19_5
  try clear hcz19_6
  try clear hcz20_0
  try clear hcz20_1
  try clear hcz20_2
  try clear hcz20_3
  try clear hcz20_4
  try clear hcz20_5
  try clear hcz20_6
  try clear hcz21_0
  try clear hcz21_1
  try clear hcz21_2
  try clear hcz21_3
  try clear hcz21_4
  try clear hcz21_5
  try clear hcz21_6
  try clear hcz22_0
  try clear hcz22_1
  try clear hcz22_2
  try clear hcz22_3
  try clear hcz22_4
  try clear hcz22_5
  try clear hcz22_6
  try clear hfz16_0
  try clear hfz16_1
  try clear hfz16_2
  try clear hfz16_3
  try clear hfz16_4
  try clear hfz16_5
  try clear hfz16_6
  try clear hfz17_0
  try clear hfz17_1
  try clear hfz17_2
  try clear hfz17_3
  try clear hfz17_4
  try clear hfz17_5
  try clear hfz17_6
  try clear hfz18_0
  try clear hfz18_1
  try clear hfz18_2
  try clear hfz18_3
  try clear hfz18_4
  try clear hfz18_5
  try clear hfz18_6
  try clear hfz19_0
  try clear hfz19_1
  try clear hfz19_2
  try clear hfz19_3
  try clear hfz19_4
  try clear hfz19_5
  try clear hfz19_6
  try clear hfz20_0
  try clear hfz20_1
  try clear hfz20_2
  try clear hfz20_3
  try clear hfz20_4
  try clear hfz20_5
  try clear hfz20_6
  try clear hfz21_0
  try clear hfz21_1
  try clear hfz21_2
  try clear hfz21_3
  try clear hfz21_4
  try clear hfz21_5
  try clear hfz21_6
  try clear hfz22_0
  try clear hfz22_1
  try clear hfz22_2
  try clear hfz22_3
  try clear hfz22_4
  try clear hfz22_5
  try clear hfz22_6
  obtain ⟨kq,x53_1,rfl,HA,HJ1,BK106,HB⟩:=hcut
  cases kq with
  | zero => exact absurd HA.out (by simp [spec_LsOk.j0])
  | succ kj1 =>
   have H:=HA.out
   clear HA
   simp only [spec_LsOk.j0] at H
   by_cases c23 : x53_1 = true
   ·
    subst c23
    have H1 : (some false) = some r:=by rw [if_pos rfl] at H;exact H
    clear H
    have H:=H1
    clear H1
    obtain rfl:=Option.some.inj H
    go_wp2
    go_ret
    exact ⟨by first|rfl|(simp [errW_none,errW_some] <;> rfl)|(simp [*,errW_none,errW_some] <;> rfl),by repeat (first|(with_reducible first|exact HB.out|apply below_alloc|apply pw_below_drewN|apply below_drew1|refine below_set ?_ GE106.out)|exact HB.out)⟩
   ·
    replace c23:=Bool.eq_false_iff.mpr c23
    subst c23
    have H1 : (spec_LsOk.l0 kj1 0 a0_0 a0_1 a0_2 l0_3 a0_4 a0_5 l0_6) = some r:=by rw [if_neg (show ¬ (false = true) by decide)] at H;exact H
    clear H
    have H:=H1
    clear H1
    have H':=Aside0.mk H
    clear H
    go_wp2
    go_loopg [3] kj1 (fun kq v3 w' => ∃ (x3_2 : Int),v3 = .int .i64 x3_2 ∧ Aside0 (spec_LsOk.l0 kq x3_2 a0_0 a0_1 a0_2 l0_3 a0_4 a0_5 l0_6 = some r) ∧ Aside0 (kq ≤ kj1) ∧ Aside0 (w'.heap[gb106]? = some (.cells #[.int .i64 a0_0,.int .i64 a0_1,.int .i64 a0_2,(.slice A0_3 l0_3.length c0_3),.int .i64 a0_4,.int .i64 a0_5,(.slice A0_6 l0_6.length c0_6)] 30 (0,0))) ∧ Aside0 (Below w.heap.size w w'))
    case atStart => exact ⟨(0),(by first|rfl|(simp;done)|(simp [*];done)),H',⟨Nat.le_refl _⟩,⟨by (with_reducible repeat (first|refine blk_drewN ?_ _|refine blk_drew ?_|refine blk_alloc ?_ _));exact BK106.out⟩,⟨by repeat (first|(with_reducible first|exact HB.out|apply below_alloc|apply pw_below_drewN|apply below_drew1|refine below_set ?_ GE106.out)|exact HB.out)⟩⟩
    case round =>
     clear H'
     try clear c1
     try clear c2
     try clear p2
     try clear c4
     try clear c5
     try clear p6
     try clear c7
     try clear c9
     try clear c11
     try clear c12
     try clear c12b0
     try clear c12b1
     try clear c12b2
     try clear c14
     try clear c15
     try clear c23
     try clear hcz16_0
     try clear hcz16_1
     try clear hcz16_2
     try clear hcz16_3
     try clear hcz16_4
     try clear hcz16_5
     try clear hcz16_6
     try clear hcz17_0
     try clear hcz17_1
     try clear hcz17_2
     try clear hcz17_3
     try clear hcz17_4
     try clear hcz17_5
     try clear hcz17_6
     try clear hcz18_0
     try clear hcz18_1
     try clear hcz18_2
     try clear hcz18_3
     try clear hcz18_4
     try clear hcz18_5
     try clear hcz18_6
     try clear hcz19_0
     try clear hcz19_1
     try clear hcz19_2
     try clear hcz19_3
     try clear hcz19_4
     try clear hcz19_5
     try clear hcz19_6
     try clear hcz20_0
     try clear hcz20_1
     try clear hcz20_2
     try clear hcz20_3
     try clear hcz20_4
     try clear hcz20_5
     try clear hcz20_6
     try clear hcz21_0
     try clear hcz21_1
     try clear hcz21_2
     try clear hcz21_3
     try clear hcz21_4
     try clear hcz21_5
     try clear hcz21_6
     try clear hcz22_0
     try clear hcz22_1
     try clear hcz22_2
     try clear hcz22_3
     try clear hcz22_4
     try clear hcz22_5
     try clear hcz22_6
     try clear hfz16_0
     try clear hfz16_1
     try clear hfz16_2
     try clear hfz16_3
     try clear hfz16_4
     try clear hfz16_5
     try clear hfz16_6
     try clear hfz17_0
     try clear hfz17_1
     try clear hfz17_2
     try clear hfz17_3
     try clear hfz17_4
     try clear hfz17_5
     try clear hfz17_6
     try clear hfz18_0
     try clear hfz18_1
     try clear hfz18_2
     try clear hfz18_3
     try clear hfz18_4
     try clear hfz18_5
     try clear hfz18_6
     try clear hfz19_0
     try clear hfz19_1
     try clear hfz19_2
     try clear hfz19_3
     try clear hfz19_4
     try clear hfz19_5
     try clear hfz19_6
     try clear hfz20_0
     try clear hfz20_1
     try clear hfz20_2
     try clear hfz20_3
     try clear hfz20_4
     try clear hfz20_5
     try clear hfz20_6
     try clear hfz21_0
     try clear hfz21_1
     try clear hfz21_2
     try clear hfz21_3
     try clear hfz21_4
     try clear hfz21_5
     try clear hfz21_6
     try clear hfz22_0
     try clear hfz22_1
     try clear hfz22_2
     try clear hfz22_3
     try clear hfz22_4
     try clear hfz22_5
     try clear hfz22_6
     try clear p2
     try clear p6
     obtain ⟨x3_2,rfl,HA,HK2,BK106,HB⟩:=hrel
     cases gk with
     | zero => exact absurd HA.out (by simp [spec_LsOk.l0])
     | succ k2 =>
      have H:=HA.out
      clear HA
      simp only [spec_LsOk.l0] at H
      by_cases c24 : x3_2 < (l0_3.length : Int)
      ·
       rw [if_pos c24] at H
       have c24b0 : decide (x3_2 < (l0_3.length : Int)) = true:=decide_eq_true c24
       clear c24
       by_cases c25 : 0 ≤ x3_2
       ·
        rw [if_pos c25] at H
        have c25b0 : decide (0 ≤ x3_2) = true:=decide_eq_true c25
        clear c25
        replace H:=Option.bind_eq_some_iff.mp H
        obtain ⟨t114,A260,H⟩:=H
        replace H : (if t114 = true then (if x3_2 < (l0_6.length : Int) then ((spec_l18At.f a0_0 a0_1 a0_2 l0_3 a0_4 a0_5 l0_6 x3_2).bind fun t117 => ((spec_l1In.f ((rd_T50 l0_6 x3_2).f1) 0 t117).bind fun t118 => (if t118 = true then ((spec_l1In.f ((rd_T50 l0_6 x3_2).f5) 0 t117).bind fun t119 => (if t119 = true then ((spec_l1In.f ((rd_T50 l0_6 x3_2).f3) (-1) (wrap64 ((l0_3.length : Int) - 1))).bind fun t120 => (if t120 = true then ((spec_l1In.f ((rd_T50 l0_6 x3_2).f4) 0 a0_5).bind fun t121 => (if t121 = true then (if ((rd_T50 l0_6 x3_2).f0 = true) then (if ((rd_T50 l0_6 x3_2).f2 = true) then (spec_LsOk.j2 k2 x3_2 false a0_0 a0_1 a0_2 l0_3 a0_4 a0_5 l0_6) else (if ((rd_T50 l0_6 x3_2).f3) = (-1) then (if ((rd_T50 l0_6 x3_2).f4) = 0 then (spec_LsOk.j2 k2 x3_2 (((rd_T50 l0_6 x3_2).f5) != 0) a0_0 a0_1 a0_2 l0_3 a0_4 a0_5 l0_6) else (spec_LsOk.j2 k2 x3_2 true a0_0 a0_1 a0_2 l0_3 a0_4 a0_5 l0_6)) else (spec_LsOk.j2 k2 x3_2 true a0_0 a0_1 a0_2 l0_3 a0_4 a0_5 l0_6))) else (if ((rd_T50 l0_6 x3_2).f1) = 0 then (if ((rd_T50 l0_6 x3_2).f2 = true) then (spec_LsOk.j2 k2 x3_2 false a0_0 a0_1 a0_2 l0_3 a0_4 a0_5 l0_6) else (if ((rd_T50 l0_6 x3_2).f3) = (-1) then (if ((rd_T50 l0_6 x3_2).f4) = 0 then (spec_LsOk.j2 k2 x3_2 (((rd_T50 l0_6 x3_2).f5) != 0) a0_0 a0_1 a0_2 l0_3 a0_4 a0_5 l0_6) else (spec_LsOk.j2 k2 x3_2 true a0_0 a0_1 a0_2 l0_3 a0_4 a0_5 l0_6)) else (spec_LsOk.j2 k2 x3_2 true a0_0 a0_1 a0_2 l0_3 a0_4 a0_5 l0_6))) else (spec_LsOk.j2 k2 x3_2 true a0_0 a0_1 a0_2 l0_3 a0_4 a0_5 l0_6))) else (spec_LsOk.j2 k2 x3_2 true a0_0 a0_1 a0_2 l0_3 a0_4 a0_5 l0_6))) else (spec_LsOk.j2 k2 x3_2 true a0_0 a0_1 a0_2 l0_3 a0_4 a0_5 l0_6))) else (spec_LsOk.j2 k2 x3_2 true a0_0 a0_1 a0_2 l0_3 a0_4 a0_5 l0_6))) else (spec_LsOk.j2 k2 x3_2 true a0_0 a0_1 a0_2 l0_3 a0_4 a0_5 l0_6)))) else (none)) else (some false)) = some r:=H
        have A26:=Aside0.mk A260
        clear A260
        by_cases c27 : t114 = true
        ·
         subst c27
         have H1 : (if x3_2 < (l0_6.length : Int) then ((spec_l18At.f a0_0 a0_1 a0_2 l0_3 a0_4 a0_5 l0_6 x3_2).bind fun t117 => ((spec_l1In.f ((rd_T50 l0_6 x3_2).f1) 0 t117).bind fun t118 => (if t118 = true then ((spec_l1In.f ((rd_T50 l0_6 x3_2).f5) 0 t117).bind fun t119 => (if t119 = true then ((spec_l1In.f ((rd_T50 l0_6 x3_2).f3) (-1) (wrap64 ((l0_3.length : Int) - 1))).bind fun t120 => (if t120 = true then ((spec_l1In.f ((rd_T50 l0_6 x3_2).f4) 0 a0_5).bind fun t121 => (if t121 = true then (if ((rd_T50 l0_6 x3_2).f0 = true) then (if ((rd_T50 l0_6 x3_2).f2 = true) then (spec_LsOk.j2 k2 x3_2 false a0_0 a0_1 a0_2 l0_3 a0_4 a0_5 l0_6) else (if ((rd_T50 l0_6 x3_2).f3) = (-1) then (if ((rd_T50 l0_6 x3_2).f4) = 0 then (spec_LsOk.j2 k2 x3_2 (((rd_T50 l0_6 x3_2).f5) != 0) a0_0 a0_1 a0_2 l0_3 a0_4 a0_5 l0_6) else (spec_LsOk.j2 k2 x3_2 true a0_0 a0_1 a0_2 l0_3 a0_4 a0_5 l0_6)) else (spec_LsOk.j2 k2 x3_2 true a0_0 a0_1 a0_2 l0_3 a0_4 a0_5 l0_6))) else (if ((rd_T50 l0_6 x3_2).f1) = 0 then (if ((rd_T50 l0_6 x3_2).f2 = true) then (spec_LsOk.j2 k2 x3_2 false a0_0 a0_1 a0_2 l0_3 a0_4 a0_5 l0_6) else (if ((rd_T50 l0_6 x3_2).f3) = (-1) then (if ((rd_T50 l0_6 x3_2).f4) = 0 then (spec_LsOk.j2 k2 x3_2 (((rd_T50 l0_6 x3_2).f5) != 0) a0_0 a0_1 a0_2 l0_3 a0_4 a0_5 l0_6) else (spec_LsOk.j2 k2 x3_2 true a0_0 a0_1 a0_2 l0_3 a0_4 a0_5 l0_6)) else (spec_LsOk.j2 k2 x3_2 true a0_0 a0_1 a0_2 l0_3 a0_4 a0_5 l0_6))) else (spec_LsOk.j2 k2 x3_2 true a0_0 a0_1 a0_2 l0_3 a0_4 a0_5 l0_6))) else (spec_LsOk.j2 k2 x3_2 true a0_0 a0_1 a0_2 l0_3 a0_4 a0_5 l0_6))) else (spec_LsOk.j2 k2 x3_2 true a0_0 a0_1 a0_2 l0_3 a0_4 a0_5 l0_6))) else (spec_LsOk.j2 k2 x3_2 true a0_0 a0_1 a0_2 l0_3 a0_4 a0_5 l0_6))) else (spec_LsOk.j2 k2 x3_2 true a0_0 a0_1 a0_2 l0_3 a0_4 a0_5 l0_6)))) else (none)) = some r:=by rw [if_pos rfl] at H;exact H
         clear H
         have H:=H1
         clear H1
         by_cases c28 : x3_2 < (l0_6.length : Int)
         ·
          rw [if_pos c28] at H
          have c28b0 : decide (x3_2 < (l0_6.length : Int)) = true:=decide_eq_true c28
          clear c28
          replace H:=Option.bind_eq_some_iff.mp H
          obtain ⟨t117,A290,H⟩:=H
          replace H : ((spec_l1In.f ((rd_T50 l0_6 x3_2).f1) 0 t117).bind fun t118 => (if t118 = true then ((spec_l1In.f ((rd_T50 l0_6 x3_2).f5) 0 t117).bind fun t119 => (if t119 = true then ((spec_l1In.f ((rd_T50 l0_6 x3_2).f3) (-1) (wrap64 ((l0_3.length : Int) - 1))).bind fun t120 => (if t120 = true then ((spec_l1In.f ((rd_T50 l0_6 x3_2).f4) 0 a0_5).bind fun t121 => (if t121 = true then (if ((rd_T50 l0_6 x3_2).f0 = true) then (if ((rd_T50 l0_6 x3_2).f2 = true) then (spec_LsOk.j2 k2 x3_2 false a0_0 a0_1 a0_2 l0_3 a0_4 a0_5 l0_6) else (if ((rd_T50 l0_6 x3_2).f3) = (-1) then (if ((rd_T50 l0_6 x3_2).f4) = 0 then (spec_LsOk.j2 k2 x3_2 (((rd_T50 l0_6 x3_2).f5) != 0) a0_0 a0_1 a0_2 l0_3 a0_4 a0_5 l0_6) else (spec_LsOk.j2 k2 x3_2 true a0_0 a0_1 a0_2 l0_3 a0_4 a0_5 l0_6)) else (spec_LsOk.j2 k2 x3_2 true a0_0 a0_1 a0_2 l0_3 a0_4 a0_5 l0_6))) else (if ((rd_T50 l0_6 x3_2).f1) = 0 then (if ((rd_T50 l0_6 x3_2).f2 = true) then (spec_LsOk.j2 k2 x3_2 false a0_0 a0_1 a0_2 l0_3 a0_4 a0_5 l0_6) else (if ((rd_T50 l0_6 x3_2).f3) = (-1) then (if ((rd_T50 l0_6 x3_2).f4) = 0 then (spec_LsOk.j2 k2 x3_2 (((rd_T50 l0_6 x3_2).f5) != 0) a0_0 a0_1 a0_2 l0_3 a0_4 a0_5 l0_6) else (spec_LsOk.j2 k2 x3_2 true a0_0 a0_1 a0_2 l0_3 a0_4 a0_5 l0_6)) else (spec_LsOk.j2 k2 x3_2 true a0_0 a0_1 a0_2 l0_3 a0_4 a0_5 l0_6))) else (spec_LsOk.j2 k2 x3_2 true a0_0 a0_1 a0_2 l0_3 a0_4 a0_5 l0_6))) else (spec_LsOk.j2 k2 x3_2 true a0_0 a0_1 a0_2 l0_3 a0_4 a0_5 l0_6))) else (spec_LsOk.j2 k2 x3_2 true a0_0 a0_1 a0_2 l0_3 a0_4 a0_5 l0_6))) else (spec_LsOk.j2 k2 x3_2 true a0_0 a0_1 a0_2 l0_3 a0_4 a0_5 l0_6))) else (spec_LsOk.j2 k2 x3_2 true a0_0 a0_1 a0_2 l0_3 a0_4 a0_5 l0_6))) = some r:=H
          have A29:=Aside0.mk A290
          clear A290
          have HC30:=Aside0.mk H
          clear H
          have hcz31_0 : wr.cell? ⟨gb106,0,none⟩ = some (.int .i64 a0_0):=(blk_cell BK106.out 0).trans rfl
          have hcz31_1 : wr.cell? ⟨gb106,1,none⟩ = some (.int .i64 a0_1):=(blk_cell BK106.out 1).trans rfl
          have hcz31_2 : wr.cell? ⟨gb106,2,none⟩ = some (.int .i64 a0_2):=(blk_cell BK106.out 2).trans rfl
          have hcz31_3 : wr.cell? ⟨gb106,3,none⟩ = some (.slice A0_3 l0_3.length c0_3):=(blk_cell BK106.out 3).trans rfl
          have hcz31_4 : wr.cell? ⟨gb106,4,none⟩ = some (.int .i64 a0_4):=(blk_cell BK106.out 4).trans rfl
          have hcz31_5 : wr.cell? ⟨gb106,5,none⟩ = some (.int .i64 a0_5):=(blk_cell BK106.out 5).trans rfl
          have hcz31_6 : wr.cell? ⟨gb106,6,none⟩ = some (.slice A0_6 l0_6.length c0_6):=(blk_cell BK106.out 6).trans rfl
          have hfz31_0:=blk_frozen BK106.out 0
          have hfz31_1:=blk_frozen BK106.out 1
          have hfz31_2:=blk_frozen BK106.out 2
          have hfz31_3:=blk_frozen BK106.out 3
          have hfz31_4:=blk_frozen BK106.out 4
          have hfz31_5:=blk_frozen BK106.out 5
          have hfz31_6:=blk_frozen BK106.out 6
          have p113 : 0 ≤ (x3_2 : Int):=of_decide_eq_true (by first|(with_reducible assumption)|assumption)
          have q113 : x3_2 < (l0_3.length : Int):=of_decide_eq_true (by first|(with_reducible assumption)|assumption)
          obtain ⟨ad113,e113,hx113_0⟩:=Kd.at_int HR0_3.out x3_2 p113 q113
          cases e113
          replace hx113_0:=(HB.out.cell (World.block_lt_of_cell? w _ hx113_0)).trans hx113_0
          replace p113:=eq_true p113
          replace q113:=eq_true q113
          go_upto_region 10 with (first|((with_reducible refine gate_callee (f:=48) rfl ?_);refine goesL_ (some 66) rfl rfl Try.func48 (by kernel_rfl) rfl #[.int .i64 (rd l0_3 x3_2),.int .i64 50,.int .i64 150] rfl (by (try simp only [List.map_toArray,List.map_cons,List.map_nil]);first|done|rfl|(simp only [List.length_drop,List.length_take];rfl)) ?_;(with_reducible refine (spec_l1In.calls (rd l0_3 x3_2) 50 150 true _ A26.out).mono ?_);rintro e w' ⟨rfl,⟨nd,rfl⟩⟩;refine ⟨_,rfl,?_⟩;(try (rw [drewN_self wr];generalize hq_ : World.drewN wr _ = wr;have n0_ : Aside0 (wr.heap[gb106]? = some (.cells #[.int .i64 a0_0,.int .i64 a0_1,.int .i64 a0_2,.slice (some ad113) l0_3.length c0_3,.int .i64 a0_4,.int .i64 a0_5,.slice A0_6 l0_6.length c0_6] 30 (0,0))):=⟨by rw [← hq_];exact (by (with_reducible repeat (first|refine blk_drewN ?_ _|refine blk_drew ?_|refine blk_alloc ?_ _));exact BK106.out)⟩;have n1_ : Aside0 (Below w.heap.size w wr):=⟨by rw [← hq_];exact (by repeat (first|(with_reducible first|exact HB.out|apply below_alloc|apply pw_below_drewN|apply below_drew1|refine below_set ?_ GE106.out)|exact HB.out))⟩;clear BK106 HB hq_;have BK106:=n0_;have HB:=n1_;clear n0_ n1_));have hcz32_0 : wr.cell? ⟨gb106,0,none⟩ = some (.int .i64 a0_0):=(blk_cell BK106.out 0).trans rfl;have hcz32_1 : wr.cell? ⟨gb106,1,none⟩ = some (.int .i64 a0_1):=(blk_cell BK106.out 1).trans rfl;have hcz32_2 : wr.cell? ⟨gb106,2,none⟩ = some (.int .i64 a0_2):=(blk_cell BK106.out 2).trans rfl;have hcz32_3 : wr.cell? ⟨gb106,3,none⟩ = some (.slice (some ad113) l0_3.length c0_3):=(blk_cell BK106.out 3).trans rfl;have hcz32_4 : wr.cell? ⟨gb106,4,none⟩ = some (.int .i64 a0_4):=(blk_cell BK106.out 4).trans rfl;have hcz32_5 : wr.cell? ⟨gb106,5,none⟩ = some (.int .i64 a0_5):=(blk_cell BK106.out 5).trans rfl;have hcz32_6 : wr.cell? ⟨gb106,6,none⟩ = some (.slice A0_6 l0_6.length c0_6):=(blk_cell BK106.out 6).trans rfl;have hfz32_0:=blk_frozen BK106.out 0;have hfz32_1:=blk_frozen BK106.out 1;have hfz32_2:=blk_frozen BK106.out 2;have hfz32_3:=blk_frozen BK106.out 3;have hfz32_4:=blk_frozen BK106.out 4;have hfz32_5:=blk_frozen BK106.out 5;have hfz32_6:=blk_frozen BK106.out 6;have p115 : 0 ≤ (x3_2 : Int):=of_decide_eq_true (by first|(with_reducible assumption)|assumption);have q115 : x3_2 < (l0_6.length : Int):=of_decide_eq_true (by first|(with_reducible assumption)|assumption);obtain ⟨ad115,e115,hx115_0,hx115_1,hx115_2,hx115_3,hx115_4,hx115_5⟩:=at_T50 HR0_6.out x3_2 p115 q115;cases e115;replace hx115_0:=(HB.out.cell (World.block_lt_of_cell? w _ hx115_0)).trans hx115_0;replace hx115_1:=(HB.out.cell (World.block_lt_of_cell? w _ hx115_1)).trans hx115_1;replace hx115_2:=(HB.out.cell (World.block_lt_of_cell? w _ hx115_2)).trans hx115_2;replace hx115_3:=(HB.out.cell (World.block_lt_of_cell? w _ hx115_3)).trans hx115_3;replace hx115_4:=(HB.out.cell (World.block_lt_of_cell? w _ hx115_4)).trans hx115_4;replace hx115_5:=(HB.out.cell (World.block_lt_of_cell? w _ hx115_5)).trans hx115_5;replace p115:=eq_true p115;replace q115:=eq_true q115)|((with_reducible refine gate_dst (N:=4) rfl ?_);(try (refine gate_guard (by rfl) ?_;dsimp only));refine box_event ?hg (N:=4) ?hd (cs:=#[.bool false,.int .i64 0,.bool false,.int .i64 0,.int .i64 0,.int .i64 0]) (t:=50) ?hr ?_;(case hd => rfl);(case hg => rfl);(case hr => first|(go_simp;done)|(go_simp;rfl));intro gb116 hg w33 hbox hb;have n0_:=Aside0.mk (blk_below (g:=gb106) (o:=.cells #[.int .i64 a0_0,.int .i64 a0_1,.int .i64 a0_2,.slice (some ad113) l0_3.length c0_3,.int .i64 a0_4,.int .i64 a0_5,.slice (some ad115) l0_6.length c0_6] 30 (0,0)) (by (with_reducible repeat (first|refine blk_drewN ?_ _|refine blk_drew ?_|refine blk_alloc ?_ _));exact BK106.out) hb);have n1_:=Aside0.mk (below_step (by repeat (first|(with_reducible first|exact HB.out|apply below_alloc|apply pw_below_drewN|apply below_drew1|refine below_set ?_ GE106.out)|exact HB.out)) hb);have n2_:=Aside0.mk (hbox);have n3_:=Aside0.mk ((by rw [hg];exact (below_size (by repeat (first|(with_reducible first|exact HB.out|apply below_alloc|apply pw_below_drewN|apply below_drew1|refine below_set ?_ GE106.out)|exact HB.out))) : w.heap.size ≤ gb116));have n4_:=Aside0.mk ((by rw [hg];exact (below_size (by repeat (first|(with_reducible first|exact HB.out|apply below_alloc|apply pw_below_drewN|apply below_drew1|refine below_set ?_ GE106.out)|exact HB.out))) : w.heap.size ≤ gb116));have n5_:=Aside0.mk ((by rw [hg];exact Nat.ne_of_lt (blk_lt (g:=gb106) (o:=.cells #[.int .i64 a0_0,.int .i64 a0_1,.int .i64 a0_2,.slice (some ad113) l0_3.length c0_3,.int .i64 a0_4,.int .i64 a0_5,.slice (some ad115) l0_6.length c0_6] 30 (0,0)) (by (with_reducible repeat (first|refine blk_drewN ?_ _|refine blk_drew ?_|refine blk_alloc ?_ _));exact BK106.out)) : gb106 ≠ gb116));have n6_:=Aside0.mk ((by rw [hg];exact Nat.ne_of_gt (blk_lt (g:=gb106) (o:=.cells #[.int .i64 a0_0,.int .i64 a0_1,.int .i64 a0_2,.slice (some ad113) l0_3.length c0_3,.int .i64 a0_4,.int .i64 a0_5,.slice (some ad115) l0_6.length c0_6] 30 (0,0)) (by (with_reducible repeat (first|refine blk_drewN ?_ _|refine blk_drew ?_|refine blk_alloc ?_ _));exact BK106.out)) : gb116 ≠ gb106));clear BK106;clear HB;have BK106:=n0_;have HB:=n1_;have BK116:=n2_;have GW116:=n3_;have GE116:=n4_;have NB106_116:=n5_;have NB116_106:=n6_;clear n0_ n1_ n2_ n3_ n4_ n5_ n6_;clear hb hbox hg;have hnb34:=NB116_106.out;have hnc34:=NB106_116.out;have hcz35_0 : w33.cell? ⟨gb116,0,none⟩ = some (.bool false):=(blk_cell BK116.out 0).trans rfl;have hcz35_1 : w33.cell? ⟨gb116,1,none⟩ = some (.int .i64 0):=(blk_cell BK116.out 1).trans rfl;have hcz35_2 : w33.cell? ⟨gb116,2,none⟩ = some (.bool false):=(blk_cell BK116.out 2).trans rfl;have hcz35_3 : w33.cell? ⟨gb116,3,none⟩ = some (.int .i64 0):=(blk_cell BK116.out 3).trans rfl;have hcz35_4 : w33.cell? ⟨gb116,4,none⟩ = some (.int .i64 0):=(blk_cell BK116.out 4).trans rfl;have hcz35_5 : w33.cell? ⟨gb116,5,none⟩ = some (.int .i64 0):=(blk_cell BK116.out 5).trans rfl;have hfz35_0:=blk_frozen BK116.out 0;have hfz35_1:=blk_frozen BK116.out 1;have hfz35_2:=blk_frozen BK116.out 2;have hfz35_3:=blk_frozen BK116.out 3;have hfz35_4:=blk_frozen BK116.out 4;have hfz35_5:=blk_frozen BK116.out 5;have hcz36_0 : w33.cell? ⟨gb106,0,none⟩ = some (.int .i64 a0_0):=(blk_cell BK106.out 0).trans rfl;have hcz36_1 : w33.cell? ⟨gb106,1,none⟩ = some (.int .i64 a0_1):=(blk_cell BK106.out 1).trans rfl;have hcz36_2 : w33.cell? ⟨gb106,2,none⟩ = some (.int .i64 a0_2):=(blk_cell BK106.out 2).trans rfl;have hcz36_3 : w33.cell? ⟨gb106,3,none⟩ = some (.slice (some ad113) l0_3.length c0_3):=(blk_cell BK106.out 3).trans rfl;have hcz36_4 : w33.cell? ⟨gb106,4,none⟩ = some (.int .i64 a0_4):=(blk_cell BK106.out 4).trans rfl;have hcz36_5 : w33.cell? ⟨gb106,5,none⟩ = some (.int .i64 a0_5):=(blk_cell BK106.out 5).trans rfl;have hcz36_6 : w33.cell? ⟨gb106,6,none⟩ = some (.slice (some ad115) l0_6.length c0_6):=(blk_cell BK106.out 6).trans rfl;have hfz36_0:=blk_frozen BK106.out 0;have hfz36_1:=blk_frozen BK106.out 1;have hfz36_2:=blk_frozen BK106.out 2;have hfz36_3:=blk_frozen BK106.out 3;have hfz36_4:=blk_frozen BK106.out 4;have hfz36_5:=blk_frozen BK106.out 5;have hfz36_6:=blk_frozen BK106.out 6)|((with_reducible refine gate_callee (f:=49) rfl ?_);refine goesL_ (some 75) rfl rfl Try.func49 (by kernel_rfl) rfl #[.agg #[.int .i64 a0_0,.int .i64 a0_1,.int .i64 a0_2,.slice (some ad113) l0_3.length c0_3,.int .i64 a0_4,.int .i64 a0_5,.slice (some ad115) l0_6.length c0_6],.int .i64 x3_2] rfl (by (try simp only [List.map_toArray,List.map_cons,List.map_nil]);first|done|rfl|(simp only [List.length_drop,List.length_take];rfl)) ?_;(with_reducible refine (spec_l18At.calls a0_0 a0_1 a0_2 _ _ l0_3 a0_4 a0_5 _ _ l0_6 x3_2 t117 _ ?side1 ?side2 ?side3 ?side4 A29.out).mono ?_);(case side1 => exact Kd.C_below HR0_3.out (by repeat (first|(with_reducible first|exact HB.out|apply below_alloc|apply pw_below_drewN|apply below_drew1|refine below_set ?_ GE106.out|refine below_set ?_ GE116.out)|exact HB.out)));(case side2 => exact HC0_3.out);(case side3 => exact Kd.C_below HR0_6.out (by repeat (first|(with_reducible first|exact HB.out|apply below_alloc|apply pw_below_drewN|apply below_drew1|refine below_set ?_ GE106.out|refine below_set ?_ GE116.out)|exact HB.out)));(case side4 => exact HC0_6.out);rintro e w37 ⟨rfl,hb⟩;refine ⟨_,rfl,?_⟩;have n0_:=Aside0.mk (blk_below (g:=gb106) (o:=.cells #[.int .i64 a0_0,.int .i64 a0_1,.int .i64 a0_2,.slice (some ad113) l0_3.length c0_3,.int .i64 a0_4,.int .i64 a0_5,.slice (some ad115) l0_6.length c0_6] 30 (0,0)) (by (with_reducible repeat (first|refine blk_drewN ?_ _|refine blk_drew ?_|refine blk_alloc ?_ _));refine blk_far ?_ NB106_116.out _;(with_reducible repeat (first|refine blk_drewN ?_ _|refine blk_drew ?_|refine blk_alloc ?_ _));refine blk_far ?_ NB106_116.out _;(with_reducible repeat (first|refine blk_drewN ?_ _|refine blk_drew ?_|refine blk_alloc ?_ _));refine blk_far ?_ NB106_116.out _;(with_reducible repeat (first|refine blk_drewN ?_ _|refine blk_drew ?_|refine blk_alloc ?_ _));refine blk_far ?_ NB106_116.out _;(with_reducible repeat (first|refine blk_drewN ?_ _|refine blk_drew ?_|refine blk_alloc ?_ _));refine blk_far ?_ NB106_116.out _;(with_reducible repeat (first|refine blk_drewN ?_ _|refine blk_drew ?_|refine blk_alloc ?_ _));refine blk_far ?_ NB106_116.out _;(with_reducible repeat (first|refine blk_drewN ?_ _|refine blk_drew ?_|refine blk_alloc ?_ _));exact BK106.out) hb);have n1_:=Aside0.mk (blk_below (g:=gb116) (o:=.cells #[.bool ((rd_T50 l0_6 x3_2).f0),.int .i64 ((rd_T50 l0_6 x3_2).f1),.bool ((rd_T50 l0_6 x3_2).f2),.int .i64 ((rd_T50 l0_6 x3_2).f3),.int .i64 ((rd_T50 l0_6 x3_2).f4),.int .i64 ((rd_T50 l0_6 x3_2).f5)] 50 (0,0)) (by (with_reducible repeat (first|refine blk_drewN ?_ _|refine blk_drew ?_|refine blk_alloc ?_ _));refine blk_put (cs:=#[.bool ((rd_T50 l0_6 x3_2).f0),.int .i64 ((rd_T50 l0_6 x3_2).f1),.bool ((rd_T50 l0_6 x3_2).f2),.int .i64 ((rd_T50 l0_6 x3_2).f3),.int .i64 ((rd_T50 l0_6 x3_2).f4),.int .i64 0]) ?_ 5 _ rfl;(with_reducible repeat (first|refine blk_drewN ?_ _|refine blk_drew ?_|refine blk_alloc ?_ _));refine blk_put (cs:=#[.bool ((rd_T50 l0_6 x3_2).f0),.int .i64 ((rd_T50 l0_6 x3_2).f1),.bool ((rd_T50 l0_6 x3_2).f2),.int .i64 ((rd_T50 l0_6 x3_2).f3),.int .i64 0,.int .i64 0]) ?_ 4 _ rfl;(with_reducible repeat (first|refine blk_drewN ?_ _|refine blk_drew ?_|refine blk_alloc ?_ _));refine blk_put (cs:=#[.bool ((rd_T50 l0_6 x3_2).f0),.int .i64 ((rd_T50 l0_6 x3_2).f1),.bool ((rd_T50 l0_6 x3_2).f2),.int .i64 0,.int .i64 0,.int .i64 0]) ?_ 3 _ rfl;(with_reducible repeat (first|refine blk_drewN ?_ _|refine blk_drew ?_|refine blk_alloc ?_ _));refine blk_put (cs:=#[.bool ((rd_T50 l0_6 x3_2).f0),.int .i64 ((rd_T50 l0_6 x3_2).f1),.bool false,.int .i64 0,.int .i64 0,.int .i64 0]) ?_ 2 _ rfl;(with_reducible repeat (first|refine blk_drewN ?_ _|refine blk_drew ?_|refine blk_alloc ?_ _));refine blk_put (cs:=#[.bool ((rd_T50 l0_6 x3_2).f0),.int .i64 0,.bool false,.int .i64 0,.int .i64 0,.int .i64 0]) ?_ 1 _ rfl;(with_reducible repeat (first|refine blk_drewN ?_ _|refine blk_drew ?_|refine blk_alloc ?_ _));refine blk_put (cs:=#[.bool false,.int .i64 0,.bool false,.int .i64 0,.int .i64 0,.int .i64 0]) ?_ 0 _ rfl;(with_reducible repeat (first|refine blk_drewN ?_ _|refine blk_drew ?_|refine blk_alloc ?_ _));exact BK116.out) hb);have n2_:=Aside0.mk (below_step (by repeat (first|(with_reducible first|exact HB.out|apply below_alloc|apply pw_below_drewN|apply below_drew1|refine below_set ?_ GE106.out|refine below_set ?_ GE116.out)|exact HB.out)) hb);clear BK106;clear BK116;clear HB;have BK106:=n0_;have BK116:=n1_;have HB:=n2_;clear n0_ n1_ n2_;(try clear hb);(try clear hb2);(try clear hk);(try clear hi)))
          (try simp only [Act.put,List.setIfInBounds_toArray,List.set_cons_zero,List.set_cons_succ])
          go_cut [135] (fun v135 wc => ∃ (kq : Nat) (x135_29 : Bool),v135 = .bool x135_29 ∧ Aside0 (spec_LsOk.j2 kq x3_2 x135_29 a0_0 a0_1 a0_2 l0_3 a0_4 a0_5 l0_6 = some r) ∧ Aside0 (kq ≤ k2) ∧ Aside0 (wc.heap[gb106]? = some (.cells #[.int .i64 a0_0,.int .i64 a0_1,.int .i64 a0_2,(.slice (some ad113) l0_3.length c0_3),.int .i64 a0_4,.int .i64 a0_5,(.slice (some ad115) l0_6.length c0_6)] 30 (0,0))) ∧ Aside0 (wc.heap[gb116]? = some (.cells #[.bool ((rd_T50 l0_6 x3_2).f0),.int .i64 ((rd_T50 l0_6 x3_2).f1),.bool ((rd_T50 l0_6 x3_2).f2),.int .i64 ((rd_T50 l0_6 x3_2).f3),.int .i64 ((rd_T50 l0_6 x3_2).f4),.int .i64 ((rd_T50 l0_6 x3_2).f5)] 50 (0,0))) ∧ Aside0 (Below w.heap.size w wc))
          case first =>
           have H:=HC30.out
           clear HC30
           replace H:=Option.bind_eq_some_iff.mp H
           obtain ⟨t118,A380,H⟩:=H
           replace H : (if t118 = true then ((spec_l1In.f ((rd_T50 l0_6 x3_2).f5) 0 t117).bind fun t119 => (if t119 = true then ((spec_l1In.f ((rd_T50 l0_6 x3_2).f3) (-1) (wrap64 ((l0_3.length : Int) - 1))).bind fun t120 => (if t120 = true then ((spec_l1In.f ((rd_T50 l0_6 x3_2).f4) 0 a0_5).bind fun t121 => (if t121 = true then (if ((rd_T50 l0_6 x3_2).f0 = true) then (if ((rd_T50 l0_6 x3_2).f2 = true) then (spec_LsOk.j2 k2 x3_2 false a0_0 a0_1 a0_2 l0_3 a0_4 a0_5 l0_6) else (if ((rd_T50 l0_6 x3_2).f3) = (-1) then (if ((rd_T50 l0_6 x3_2).f4) = 0 then (spec_LsOk.j2 k2 x3_2 (((rd_T50 l0_6 x3_2).f5) != 0) a0_0 a0_1 a0_2 l0_3 a0_4 a0_5 l0_6) else (spec_LsOk.j2 k2 x3_2 true a0_0 a0_1 a0_2 l0_3 a0_4 a0_5 l0_6)) else (spec_LsOk.j2 k2 x3_2 true a0_0 a0_1 a0_2 l0_3 a0_4 a0_5 l0_6))) else (if ((rd_T50 l0_6 x3_2).f1) = 0 then (if ((rd_T50 l0_6 x3_2).f2 = true) then (spec_LsOk.j2 k2 x3_2 false a0_0 a0_1 a0_2 l0_3 a0_4 a0_5 l0_6) else (if ((rd_T50 l0_6 x3_2).f3) = (-1) then (if ((rd_T50 l0_6 x3_2).f4) = 0 then (spec_LsOk.j2 k2 x3_2 (((rd_T50 l0_6 x3_2).f5) != 0) a0_0 a0_1 a0_2 l0_3 a0_4 a0_5 l0_6) else (spec_LsOk.j2 k2 x3_2 true a0_0 a0_1 a0_2 l0_3 a0_4 a0_5 l0_6)) else (spec_LsOk.j2 k2 x3_2 true a0_0 a0_1 a0_2 l0_3 a0_4 a0_5 l0_6))) else (spec_LsOk.j2 k2 x3_2 true a0_0 a0_1 a0_2 l0_3 a0_4 a0_5 l0_6))) else (spec_LsOk.j2 k2 x3_2 true a0_0 a0_1 a0_2 l0_3 a0_4 a0_5 l0_6))) else (spec_LsOk.j2 k2 x3_2 true a0_0 a0_1 a0_2 l0_3 a0_4 a0_5 l0_6))) else (spec_LsOk.j2 k2 x3_2 true a0_0 a0_1 a0_2 l0_3 a0_4 a0_5 l0_6))) else (spec_LsOk.j2 k2 x3_2 true a0_0 a0_1 a0_2 l0_3 a0_4 a0_5 l0_6)) = some r:=H
           have A38:=Aside0.mk A380
           clear A380
           by_cases c39 : t118 = true
           ·
            subst c39
            have H1 : ((spec_l1In.f ((rd_T50 l0_6 x3_2).f5) 0 t117).bind fun t119 => (if t119 = true then ((spec_l1In.f ((rd_T50 l0_6 x3_2).f3) (-1) (wrap64 ((l0_3.length : Int) - 1))).bind fun t120 => (if t120 = true then ((spec_l1In.f ((rd_T50 l0_6 x3_2).f4) 0 a0_5).bind fun t121 => (if t121 = true then (if ((rd_T50 l0_6 x3_2).f0 = true) then (if ((rd_T50 l0_6 x3_2).f2 = true) then (spec_LsOk.j2 k2 x3_2 false a0_0 a0_1 a0_2 l0_3 a0_4 a0_5 l0_6) else (if ((rd_T50 l0_6 x3_2).f3) = (-1) then (if ((rd_T50 l0_6 x3_2).f4) = 0 then (spec_LsOk.j2 k2 x3_2 (((rd_T50 l0_6 x3_2).f5) != 0) a0_0 a0_1 a0_2 l0_3 a0_4 a0_5 l0_6) else (spec_LsOk.j2 k2 x3_2 true a0_0 a0_1 a0_2 l0_3 a0_4 a0_5 l0_6)) else (spec_LsOk.j2 k2 x3_2 true a0_0 a0_1 a0_2 l0_3 a0_4 a0_5 l0_6))) else (if ((rd_T50 l0_6 x3_2).f1) = 0 then (if ((rd_T50 l0_6 x3_2).f2 = true) then (spec_LsOk.j2 k2 x3_2 false a0_0 a0_1 a0_2 l0_3 a0_4 a0_5 l0_6) else (if ((rd_T50 l0_6 x3_2).f3) = (-1) then (if ((rd_T50 l0_6 x3_2).f4) = 0 then (spec_LsOk.j2 k2 x3_2 (((rd_T50 l0_6 x3_2).f5) != 0) a0_0 a0_1 a0_2 l0_3 a0_4 a0_5 l0_6) else (spec_LsOk.j2 k2 x3_2 true a0_0 a0_1 a0_2 l0_3 a0_4 a0_5 l0_6)) else (spec_LsOk.j2 k2 x3_2 true a0_0 a0_1 a0_2 l0_3 a0_4 a0_5 l0_6))) else (spec_LsOk.j2 k2 x3_2 true a0_0 a0_1 a0_2 l0_3 a0_4 a0_5 l0_6))) else (spec_LsOk.j2 k2 x3_2 true a0_0 a0_1 a0_2 l0_3 a0_4 a0_5 l0_6))) else (spec_LsOk.j2 k2 x3_2 true a0_0 a0_1 a0_2 l0_3 a0_4 a0_5 l0_6))) else (spec_LsOk.j2 k2 x3_2 true a0_0 a0_1 a0_2 l0_3 a0_4 a0_5 l0_6))) = some r:=by rw [if_pos rfl] at H;exact H
            clear H
            have H:=H1
            clear H1
            replace H:=Option.bind_eq_some_iff.mp H
            obtain ⟨t119,A400,H⟩:=H
            replace H : (if t119 = true then ((spec_l1In.f ((rd_T50 l0_6 x3_2).f3) (-1) (wrap64 ((l0_3.length : Int) - 1))).bind fun t120 => (if t120 = true then ((spec_l1In.f ((rd_T50 l0_6 x3_2).f4) 0 a0_5).bind fun t121 => (if t121 = true then (if ((rd_T50 l0_6 x3_2).f0 = true) then (if ((rd_T50 l0_6 x3_2).f2 = true) then (spec_LsOk.j2 k2 x3_2 false a0_0 a0_1 a0_2 l0_3 a0_4 a0_5 l0_6) else (if ((rd_T50 l0_6 x3_2).f3) = (-1) then (if ((rd_T50 l0_6 x3_2).f4) = 0 then (spec_LsOk.j2 k2 x3_2 (((rd_T50 l0_6 x3_2).f5) != 0) a0_0 a0_1 a0_2 l0_3 a0_4 a0_5 l0_6) else (spec_LsOk.j2 k2 x3_2 true a0_0 a0_1 a0_2 l0_3 a0_4 a0_5 l0_6)) else (spec_LsOk.j2 k2 x3_2 true a0_0 a0_1 a0_2 l0_3 a0_4 a0_5 l0_6))) else (if ((rd_T50 l0_6 x3_2).f1) = 0 then (if ((rd_T50 l0_6 x3_2).f2 = true) then (spec_LsOk.j2 k2 x3_2 false a0_0 a0_1 a0_2 l0_3 a0_4 a0_5 l0_6) else (if ((rd_T50 l0_6 x3_2).f3) = (-1) then (if ((rd_T50 l0_6 x3_2).f4) = 0 then (spec_LsOk.j2 k2 x3_2 (((rd_T50 l0_6 x3_2).f5) != 0) a0_0 a0_1 a0_2 l0_3 a0_4 a0_5 l0_6) else (spec_LsOk.j2 k2 x3_2 true a0_0 a0_1 a0_2 l0_3 a0_4 a0_5 l0_6)) else (spec_LsOk.j2 k2 x3_2 true a0_0 a0_1 a0_2 l0_3 a0_4 a0_5 l0_6))) else (spec_LsOk.j2 k2 x3_2 true a0_0 a0_1 a0_2 l0_3 a0_4 a0_5 l0_6))) else (spec_LsOk.j2 k2 x3_2 true a0_0 a0_1 a0_2 l0_3 a0_4 a0_5 l0_6))) else (spec_LsOk.j2 k2 x3_2 true a0_0 a0_1 a0_2 l0_3 a0_4 a0_5 l0_6))) else (spec_LsOk.j2 k2 x3_2 true a0_0 a0_1 a0_2 l0_3 a0_4 a0_5 l0_6)) = some r:=H
            have A40:=Aside0.mk A400
            clear A400
            by_cases c41 : t119 = true
            ·
             subst c41
             have H1 : ((spec_l1In.f ((rd_T50 l0_6 x3_2).f3) (-1) (wrap64 ((l0_3.length : Int) - 1))).bind fun t120 => (if t120 = true then ((spec_l1In.f ((rd_T50 l0_6 x3_2).f4) 0 a0_5).bind fun t121 => (if t121 = true then (if ((rd_T50 l0_6 x3_2).f0 = true) then (if ((rd_T50 l0_6 x3_2).f2 = true) then (spec_LsOk.j2 k2 x3_2 false a0_0 a0_1 a0_2 l0_3 a0_4 a0_5 l0_6) else (if ((rd_T50 l0_6 x3_2).f3) = (-1) then (if ((rd_T50 l0_6 x3_2).f4) = 0 then (spec_LsOk.j2 k2 x3_2 (((rd_T50 l0_6 x3_2).f5) != 0) a0_0 a0_1 a0_2 l0_3 a0_4 a0_5 l0_6) else (spec_LsOk.j2 k2 x3_2 true a0_0 a0_1 a0_2 l0_3 a0_4 a0_5 l0_6)) else (spec_LsOk.j2 k2 x3_2 true a0_0 a0_1 a0_2 l0_3 a0_4 a0_5 l0_6))) else (if ((rd_T50 l0_6 x3_2).f1) = 0 then (if ((rd_T50 l0_6 x3_2).f2 = true) then (spec_LsOk.j2 k2 x3_2 false a0_0 a0_1 a0_2 l0_3 a0_4 a0_5 l0_6) else (if ((rd_T50 l0_6 x3_2).f3) = (-1) then (if ((rd_T50 l0_6 x3_2).f4) = 0 then (spec_LsOk.j2 k2 x3_2 (((rd_T50 l0_6 x3_2).f5) != 0) a0_0 a0_1 a0_2 l0_3 a0_4 a0_5 l0_6) else (spec_LsOk.j2 k2 x3_2 true a0_0 a0_1 a0_2 l0_3 a0_4 a0_5 l0_6)) else (spec_LsOk.j2 k2 x3_2 true a0_0 a0_1 a0_2 l0_3 a0_4 a0_5 l0_6))) else (spec_LsOk.j2 k2 x3_2 true a0_0 a0_1 a0_2 l0_3 a0_4 a0_5 l0_6))) else (spec_LsOk.j2 k2 x3_2 true a0_0 a0_1 a0_2 l0_3 a0_4 a0_5 l0_6))) else (spec_LsOk.j2 k2 x3_2 true a0_0 a0_1 a0_2 l0_3 a0_4 a0_5 l0_6))) = some r:=by rw [if_pos rfl] at H;exact H
             clear H
             have H:=H1
             clear H1
             replace H:=Option.bind_eq_some_iff.mp H
             obtain ⟨t120,A420,H⟩:=H
             replace H : (if t120 = true then ((spec_l1In.f ((rd_T50 l0_6 x3_2).f4) 0 a0_5).bind fun t121 => (if t121 = true then (if ((rd_T50 l0_6 x3_2).f0 = true) then (if ((rd_T50 l0_6 x3_2).f2 = true) then (spec_LsOk.j2 k2 x3_2 false a0_0 a0_1 a0_2 l0_3 a0_4 a0_5 l0_6) else (if ((rd_T50 l0_6 x3_2).f3) = (-1) then (if ((rd_T50 l0_6 x3_2).f4) = 0 then (spec_LsOk.j2 k2 x3_2 (((rd_T50 l0_6 x3_2).f5) != 0) a0_0 a0_1 a0_2 l0_3 a0_4 a0_5 l0_6) else (spec_LsOk.j2 k2 x3_2 true a0_0 a0_1 a0_2 l0_3 a0_4 a0_5 l0_6)) else (spec_LsOk.j2 k2 x3_2 true a0_0 a0_1 a0_2 l0_3 a0_4 a0_5 l0_6))) else (if ((rd_T50 l0_6 x3_2).f1) = 0 then (if ((rd_T50 l0_6 x3_2).f2 = true) then (spec_LsOk.j2 k2 x3_2 false a0_0 a0_1 a0_2 l0_3 a0_4 a0_5 l0_6) else (if ((rd_T50 l0_6 x3_2).f3) = (-1) then (if ((rd_T50 l0_6 x3_2).f4) = 0 then (spec_LsOk.j2 k2 x3_2 (((rd_T50 l0_6 x3_2).f5) != 0) a0_0 a0_1 a0_2 l0_3 a0_4 a0_5 l0_6) else (spec_LsOk.j2 k2 x3_2 true a0_0 a0_1 a0_2 l0_3 a0_4 a0_5 l0_6)) else (spec_LsOk.j2 k2 x3_2 true a0_0 a0_1 a0_2 l0_3 a0_4 a0_5 l0_6))) else (spec_LsOk.j2 k2 x3_2 true a0_0 a0_1 a0_2 l0_3 a0_4 a0_5 l0_6))) else (spec_LsOk.j2 k2 x3_2 true a0_0 a0_1 a0_2 l0_3 a0_4 a0_5 l0_6))) else (spec_LsOk.j2 k2 x3_2 true a0_0 a0_1 a0_2 l0_3 a0_4 a0_5 l0_6)) = some r:=H
             have A42:=Aside0.mk A420
             clear A420
             by_cases c43 : t120 = true
             ·
              subst c43
              have H1 : ((spec_l1In.f ((rd_T50 l0_6 x3_2).f4) 0 a0_5).bind fun t121 => (if t121 = true then (if ((rd_T50 l0_6 x3_2).f0 = true) then (if ((rd_T50 l0_6 x3_2).f2 = true) then (spec_LsOk.j2 k2 x3_2 false a0_0 a0_1 a0_2 l0_3 a0_4 a0_5 l0_6) else (if ((rd_T50 l0_6 x3_2).f3) = (-1) then (if ((rd_T50 l0_6 x3_2).f4) = 0 then (spec_LsOk.j2 k2 x3_2 (((rd_T50 l0_6 x3_2).f5) != 0) a0_0 a0_1 a0_2 l0_3 a0_4 a0_5 l0_6) else (spec_LsOk.j2 k2 x3_2 true a0_0 a0_1 a0_2 l0_3 a0_4 a0_5 l0_6)) else (spec_LsOk.j2 k2 x3_2 true a0_0 a0_1 a0_2 l0_3 a0_4 a0_5 l0_6))) else (if ((rd_T50 l0_6 x3_2).f1) = 0 then (if ((rd_T50 l0_6 x3_2).f2 = true) then (spec_LsOk.j2 k2 x3_2 false a0_0 a0_1 a0_2 l0_3 a0_4 a0_5 l0_6) else (if ((rd_T50 l0_6 x3_2).f3) = (-1) then (if ((rd_T50 l0_6 x3_2).f4) = 0 then (spec_LsOk.j2 k2 x3_2 (((rd_T50 l0_6 x3_2).f5) != 0) a0_0 a0_1 a0_2 l0_3 a0_4 a0_5 l0_6) else (spec_LsOk.j2 k2 x3_2 true a0_0 a0_1 a0_2 l0_3 a0_4 a0_5 l0_6)) else (spec_LsOk.j2 k2 x3_2 true a0_0 a0_1 a0_2 l0_3 a0_4 a0_5 l0_6))) else (spec_LsOk.j2 k2 x3_2 true a0_0 a0_1 a0_2 l0_3 a0_4 a0_5 l0_6))) else (spec_LsOk.j2 k2 x3_2 true a0_0 a0_1 a0_2 l0_3 a0_4 a0_5 l0_6))) = some r:=by rw [if_pos rfl] at H;exact H
              clear H
              have H:=H1
              clear H1
              replace H:=Option.bind_eq_some_iff.mp H
              obtain ⟨t121,A440,H⟩:=H
              replace H : (if t121 = true then (if ((rd_T50 l0_6 x3_2).f0 = true) then (if ((rd_T50 l0_6 x3_2).f2 = true) then (spec_LsOk.j2 k2 x3_2 false a0_0 a0_1 a0_2 l0_3 a0_4 a0_5 l0_6) else (if ((rd_T50 l0_6 x3_2).f3) = (-1) then (if ((rd_T50 l0_6 x3_2).f4) = 0 then (spec_LsOk.j2 k2 x3_2 (((rd_T50 l0_6 x3_2).f5) != 0) a0_0 a0_1 a0_2 l0_3 a0_4 a0_5 l0_6) else (spec_LsOk.j2 k2 x3_2 true a0_0 a0_1 a0_2 l0_3 a0_4 a0_5 l0_6)) else (spec_LsOk.j2 k2 x3_2 true a0_0 a0_1 a0_2 l0_3 a0_4 a0_5 l0_6))) else (if ((rd_T50 l0_6 x3_2).f1) = 0 then (if ((rd_T50 l0_6 x3_2).f2 = true) then (spec_LsOk.j2 k2 x3_2 false a0_0 a0_1 a0_2 l0_3 a0_4 a0_5 l0_6) else (if ((rd_T50 l0_6 x3_2).f3) = (-1) then (if ((rd_T50 l0_6 x3_2).f4) = 0 then (spec_LsOk.j2 k2 x3_2 (((rd_T50 l0_6 x3_2).f5) != 0) a0_0 a0_1 a0_2 l0_3 a0_4 a0_5 l0_6) else (spec_LsOk.j2 k2 x3_2 true a0_0 a0_1 a0_2 l0_3 a0_4 a0_5 l0_6)) else (spec_LsOk.j2 k2 x3_2 true a0_0 a0_1 a0_2 l0_3 a0_4 a0_5 l0_6))) else (spec_LsOk.j2 k2 x3_2 true a0_0 a0_1 a0_2 l0_3 a0_4 a0_5 l0_6))) else (spec_LsOk.j2 k2 x3_2 true a0_0 a0_1 a0_2 l0_3 a0_4 a0_5 l0_6)) = some r:=H
              have A44:=Aside0.mk A440
              clear A440
              by_cases c45 : t121 = true
              ·
               subst c45
               have H1 : (if ((rd_T50 l0_6 x3_2).f0 = true) then (if ((rd_T50 l0_6 x3_2).f2 = true) then (spec_LsOk.j2 k2 x3_2 false a0_0 a0_1 a0_2 l0_3 a0_4 a0_5 l0_6) else (if ((rd_T50 l0_6 x3_2).f3) = (-1) then (if ((rd_T50 l0_6 x3_2).f4) = 0 then (spec_LsOk.j2 k2 x3_2 (((rd_T50 l0_6 x3_2).f5) != 0) a0_0 a0_1 a0_2 l0_3 a0_4 a0_5 l0_6) else (spec_LsOk.j2 k2 x3_2 true a0_0 a0_1 a0_2 l0_3 a0_4 a0_5 l0_6)) else (spec_LsOk.j2 k2 x3_2 true a0_0 a0_1 a0_2 l0_3 a0_4 a0_5 l0_6))) else (if ((rd_T50 l0_6 x3_2).f1) = 0 then (if ((rd_T50 l0_6 x3_2).f2 = true) then (spec_LsOk.j2 k2 x3_2 false a0_0 a0_1 a0_2 l0_3 a0_4 a0_5 l0_6) else (if ((rd_T50 l0_6 x3_2).f3) = (-1) then (if ((rd_T50 l0_6 x3_2).f4) = 0 then (spec_LsOk.j2 k2 x3_2 (((rd_T50 l0_6 x3_2).f5) != 0) a0_0 a0_1 a0_2 l0_3 a0_4 a0_5 l0_6) else (spec_LsOk.j2 k2 x3_2 true a0_0 a0_1 a0_2 l0_3 a0_4 a0_5 l0_6)) else (spec_LsOk.j2 k2 x3_2 true a0_0 a0_1 a0_2 l0_3 a0_4 a0_5 l0_6))) else (spec_LsOk.j2 k2 x3_2 true a0_0 a0_1 a0_2 l0_3 a0_4 a0_5 l0_6))) = some r:=by rw [if_pos rfl] at H;exact H
               clear H
               have H:=H1
               clear H1
               obtain ⟨bq46,hbq46⟩ : ∃ b_ : Bool,b_ = ((rd_T50 l0_6 x3_2).f0):=⟨_,rfl⟩
               replace H : (if (bq46 = true) then (if ((rd_T50 l0_6 x3_2).f2 = true) then (spec_LsOk.j2 k2 x3_2 false a0_0 a0_1 a0_2 l0_3 a0_4 a0_5 l0_6) else (if ((rd_T50 l0_6 x3_2).f3) = (-1) then (if ((rd_T50 l0_6 x3_2).f4) = 0 then (spec_LsOk.j2 k2 x3_2 (((rd_T50 l0_6 x3_2).f5) != 0) a0_0 a0_1 a0_2 l0_3 a0_4 a0_5 l0_6) else (spec_LsOk.j2 k2 x3_2 true a0_0 a0_1 a0_2 l0_3 a0_4 a0_5 l0_6)) else (spec_LsOk.j2 k2 x3_2 true a0_0 a0_1 a0_2 l0_3 a0_4 a0_5 l0_6))) else (if ((rd_T50 l0_6 x3_2).f1) = 0 then (if ((rd_T50 l0_6 x3_2).f2 = true) then (spec_LsOk.j2 k2 x3_2 false a0_0 a0_1 a0_2 l0_3 a0_4 a0_5 l0_6) else (if ((rd_T50 l0_6 x3_2).f3) = (-1) then (if ((rd_T50 l0_6 x3_2).f4) = 0 then (spec_LsOk.j2 k2 x3_2 (((rd_T50 l0_6 x3_2).f5) != 0) a0_0 a0_1 a0_2 l0_3 a0_4 a0_5 l0_6) else (spec_LsOk.j2 k2 x3_2 true a0_0 a0_1 a0_2 l0_3 a0_4 a0_5 l0_6)) else (spec_LsOk.j2 k2 x3_2 true a0_0 a0_1 a0_2 l0_3 a0_4 a0_5 l0_6))) else (spec_LsOk.j2 k2 x3_2 true a0_0 a0_1 a0_2 l0_3 a0_4 a0_5 l0_6))) = some r:=by rw [← hbq46] at H;exact H
               have Nbq46:=Aside0.mk hbq46
               clear hbq46
               (try rw [← Nbq46.out])
               (try rw [← Nbq46.out] at BK116)
               by_cases c47 : (bq46 = true)
               ·
                subst c47
                have H1 : (if ((rd_T50 l0_6 x3_2).f2 = true) then (spec_LsOk.j2 k2 x3_2 false a0_0 a0_1 a0_2 l0_3 a0_4 a0_5 l0_6) else (if ((rd_T50 l0_6 x3_2).f3) = (-1) then (if ((rd_T50 l0_6 x3_2).f4) = 0 then (spec_LsOk.j2 k2 x3_2 (((rd_T50 l0_6 x3_2).f5) != 0) a0_0 a0_1 a0_2 l0_3 a0_4 a0_5 l0_6) else (spec_LsOk.j2 k2 x3_2 true a0_0 a0_1 a0_2 l0_3 a0_4 a0_5 l0_6)) else (spec_LsOk.j2 k2 x3_2 true a0_0 a0_1 a0_2 l0_3 a0_4 a0_5 l0_6))) = some r:=by rw [if_pos rfl] at H;exact H
                clear H
                have H:=H1
                clear H1
                obtain ⟨bq48,hbq48⟩ : ∃ b_ : Bool,b_ = ((rd_T50 l0_6 x3_2).f2):=⟨_,rfl⟩
                replace H : (if (bq48 = true) then (spec_LsOk.j2 k2 x3_2 false a0_0 a0_1 a0_2 l0_3 a0_4 a0_5 l0_6) else (if ((rd_T50 l0_6 x3_2).f3) = (-1) then (if ((rd_T50 l0_6 x3_2).f4) = 0 then (spec_LsOk.j2 k2 x3_2 (((rd_T50 l0_6 x3_2).f5) != 0) a0_0 a0_1 a0_2 l0_3 a0_4 a0_5 l0_6) else (spec_LsOk.j2 k2 x3_2 true a0_0 a0_1 a0_2 l0_3 a0_4 a0_5 l0_6)) else (spec_LsOk.j2 k2 x3_2 true a0_0 a0_1 a0_2 l0_3 a0_4 a0_5 l0_6))) = some r:=by rw [← hbq48] at H;exact H
                have Nbq48:=Aside0.mk hbq48
                clear hbq48
                (try rw [← Nbq48.out] at BK116)
                by_cases c49 : (bq48 = true)
                ·
                 subst c49
                 have H1 : (spec_LsOk.j2 k2 x3_2 false a0_0 a0_1 a0_2 l0_3 a0_4 a0_5 l0_6) = some r:=by rw [if_pos rfl] at H;exact H
                 clear H
                 have H:=H1
                 clear H1
                 have H':=Aside0.mk H
                 clear H
                 have hnb50:=NB116_106.out
                 have hnc50:=NB106_116.out
                 have hcz51_0 : w37.cell? ⟨gb116,0,none⟩ = some (.bool true):=(blk_cell BK116.out 0).trans rfl
                 have hcz51_1 : w37.cell? ⟨gb116,1,none⟩ = some (.int .i64 ((rd_T50 l0_6 x3_2).f1)):=(blk_cell BK116.out 1).trans rfl
                 have hcz51_2 : w37.cell? ⟨gb116,2,none⟩ = some (.bool true):=(blk_cell BK116.out 2).trans rfl
                 have hcz51_3 : w37.cell? ⟨gb116,3,none⟩ = some (.int .i64 ((rd_T50 l0_6 x3_2).f3)):=(blk_cell BK116.out 3).trans rfl
                 have hcz51_4 : w37.cell? ⟨gb116,4,none⟩ = some (.int .i64 ((rd_T50 l0_6 x3_2).f4)):=(blk_cell BK116.out 4).trans rfl
                 have hcz51_5 : w37.cell? ⟨gb116,5,none⟩ = some (.int .i64 ((rd_T50 l0_6 x3_2).f5)):=(blk_cell BK116.out 5).trans rfl
                 have hfz51_0:=blk_frozen BK116.out 0
                 have hfz51_1:=blk_frozen BK116.out 1
                 have hfz51_2:=blk_frozen BK116.out 2
                 have hfz51_3:=blk_frozen BK116.out 3
                 have hfz51_4:=blk_frozen BK116.out 4
                 have hfz51_5:=blk_frozen BK116.out 5
                 go_wp2_with (first|((with_reducible refine gate_callee (f:=48) rfl ?_);refine goesL_ (some 79) rfl rfl Try.func48 (by kernel_rfl) rfl #[.int .i64 ((rd_T50 l0_6 x3_2).f1),.int .i64 0,.int .i64 t117] rfl (by (try simp only [List.map_toArray,List.map_cons,List.map_nil]);first|done|rfl|(simp only [List.length_drop,List.length_take];rfl)) ?_;(with_reducible refine (spec_l1In.calls ((rd_T50 l0_6 x3_2).f1) 0 t117 true _ A38.out).mono ?_);rintro e w' ⟨rfl,⟨nd,rfl⟩⟩;refine ⟨_,rfl,?_⟩)|(go_at_call 48;(with_reducible refine (spec_l1In.calls ((rd_T50 l0_6 x3_2).f5) 0 t117 true _ A40.out).mono ?_);rintro e w' ⟨rfl,⟨nd,rfl⟩⟩;have hcz52_0 : w37.cell? ⟨gb106,0,none⟩ = some (.int .i64 a0_0):=(blk_cell BK106.out 0).trans rfl;have hcz52_1 : w37.cell? ⟨gb106,1,none⟩ = some (.int .i64 a0_1):=(blk_cell BK106.out 1).trans rfl;have hcz52_2 : w37.cell? ⟨gb106,2,none⟩ = some (.int .i64 a0_2):=(blk_cell BK106.out 2).trans rfl;have hcz52_3 : w37.cell? ⟨gb106,3,none⟩ = some (.slice (some ad113) l0_3.length c0_3):=(blk_cell BK106.out 3).trans rfl;have hcz52_4 : w37.cell? ⟨gb106,4,none⟩ = some (.int .i64 a0_4):=(blk_cell BK106.out 4).trans rfl;have hcz52_5 : w37.cell? ⟨gb106,5,none⟩ = some (.int .i64 a0_5):=(blk_cell BK106.out 5).trans rfl;have hcz52_6 : w37.cell? ⟨gb106,6,none⟩ = some (.slice (some ad115) l0_6.length c0_6):=(blk_cell BK106.out 6).trans rfl;have hfz52_0:=blk_frozen BK106.out 0;have hfz52_1:=blk_frozen BK106.out 1;have hfz52_2:=blk_frozen BK106.out 2;have hfz52_3:=blk_frozen BK106.out 3;have hfz52_4:=blk_frozen BK106.out 4;have hfz52_5:=blk_frozen BK106.out 5;have hfz52_6:=blk_frozen BK106.out 6)|(go_at_call 48;(with_reducible refine (spec_l1In.calls ((rd_T50 l0_6 x3_2).f3) (-1) (wrap64 ((l0_3.length : Int) - 1)) true _ A42.out).mono ?_);rintro e w' ⟨rfl,⟨nd,rfl⟩⟩)|(go_at_call 48;(with_reducible refine (spec_l1In.calls ((rd_T50 l0_6 x3_2).f4) 0 a0_5 true _ A44.out).mono ?_);rintro e w' ⟨rfl,⟨nd,rfl⟩⟩))
                 go_meet
                 case rel => (try rw [← Nbq46.out]);(try rw [← Nbq48.out]);exact ⟨_,(false),(by first|rfl|(simp;done)|(simp [*];done)),H',⟨by have:=HJ1.out;have:=HK2.out;first|omega|exact Nat.le_refl _⟩,⟨by (with_reducible repeat (first|refine blk_drewN ?_ _|refine blk_drew ?_|refine blk_alloc ?_ _));exact BK106.out⟩,⟨by (with_reducible repeat (first|refine blk_drewN ?_ _|refine blk_drew ?_|refine blk_alloc ?_ _));exact BK116.out⟩,⟨by repeat (first|(with_reducible first|exact HB.out|apply below_alloc|apply pw_below_drewN|apply below_drew1|refine below_set ?_ GE106.out|refine below_set ?_ GE116.out)|exact HB.out)⟩⟩
                ·
                 replace c49:=Bool.eq_false_iff.mpr c49
                 subst c49
                 have H1 : (if ((rd_T50 l0_6 x3_2).f3) = (-1) then (if ((rd_T50 l0_6 x3_2).f4) = 0 then (spec_LsOk.j2 k2 x3_2 (((rd_T50 l0_6 x3_2).f5) != 0) a0_0 a0_1 a0_2 l0_3 a0_4 a0_5 l0_6) else (spec_LsOk.j2 k2 x3_2 true a0_0 a0_1 a0_2 l0_3 a0_4 a0_5 l0_6)) else (spec_LsOk.j2 k2 x3_2 true a0_0 a0_1 a0_2 l0_3 a0_4 a0_5 l0_6)) = some r:=by rw [if_neg (show ¬ (false = true) by decide)] at H;exact H
                 clear H
                 have H:=H1
                 clear H1
                 by_cases c53 : ((rd_T50 l0_6 x3_2).f3) = (-1)
                 ·
                  rw [if_pos c53] at H
                  have c53b0 : (((rd_T50 l0_6 x3_2).f3) == (-1)) = true:=beq_iff_eq.mpr c53
                  have c53b1 : (((rd_T50 l0_6 x3_2).f3) != (-1)) = false:=bne_eq_false_iff_eq.mpr c53
                  clear c53
                  by_cases c54 : ((rd_T50 l0_6 x3_2).f4) = 0
                  ·
                   rw [if_pos c54] at H
                   have c54b0 : (((rd_T50 l0_6 x3_2).f4) == 0) = true:=beq_iff_eq.mpr c54
                   have c54b1 : (((rd_T50 l0_6 x3_2).f4) != 0) = false:=bne_eq_false_iff_eq.mpr c54
                   clear c54
                   have H':=Aside0.mk H
                   clear H
                   have hnb55:=NB116_106.out
                   have hnc55:=NB106_116.out
                   have hcz56_0 : w37.cell? ⟨gb116,0,none⟩ = some (.bool true):=(blk_cell BK116.out 0).trans rfl
                   have hcz56_1 : w37.cell? ⟨gb116,1,none⟩ = some (.int .i64 ((rd_T50 l0_6 x3_2).f1)):=(blk_cell BK116.out 1).trans rfl
                   have hcz56_2 : w37.cell? ⟨gb116,2,none⟩ = some (.bool false):=(blk_cell BK116.out 2).trans rfl
                   have hcz56_3 : w37.cell? ⟨gb116,3,none⟩ = some (.int .i64 ((rd_T50 l0_6 x3_2).f3)):=(blk_cell BK116.out 3).trans rfl
                   have hcz56_4 : w37.cell? ⟨gb116,4,none⟩ = some (.int .i64 ((rd_T50 l0_6 x3_2).f4)):=(blk_cell BK116.out 4).trans rfl
                   have hcz56_5 : w37.cell? ⟨gb116,5,none⟩ = some (.int .i64 ((rd_T50 l0_6 x3_2).f5)):=(blk_cell BK116.out 5).trans rfl
                   have hfz56_0:=blk_frozen BK116.out 0
                   have hfz56_1:=blk_frozen BK116.out 1
                   have hfz56_2:=blk_frozen BK116.out 2
                   have hfz56_3:=blk_frozen BK116.out 3
                   have hfz56_4:=blk_frozen BK116.out 4
                   have hfz56_5:=blk_frozen BK116.out 5
                   go_wp2_with (first|((with_reducible refine gate_callee (f:=48) rfl ?_);refine goesL_ (some 79) rfl rfl Try.func48 (by kernel_rfl) rfl #[.int .i64 ((rd_T50 l0_6 x3_2).f1),.int .i64 0,.int .i64 t117] rfl (by (try simp only [List.map_toArray,List.map_cons,List.map_nil]);first|done|rfl|(simp only [List.length_drop,List.length_take];rfl)) ?_;(with_reducible refine (spec_l1In.calls ((rd_T50 l0_6 x3_2).f1) 0 t117 true _ A38.out).mono ?_);rintro e w' ⟨rfl,⟨nd,rfl⟩⟩;refine ⟨_,rfl,?_⟩)|(go_at_call 48;(with_reducible refine (spec_l1In.calls ((rd_T50 l0_6 x3_2).f5) 0 t117 true _ A40.out).mono ?_);rintro e w' ⟨rfl,⟨nd,rfl⟩⟩;have hcz57_0 : w37.cell? ⟨gb106,0,none⟩ = some (.int .i64 a0_0):=(blk_cell BK106.out 0).trans rfl;have hcz57_1 : w37.cell? ⟨gb106,1,none⟩ = some (.int .i64 a0_1):=(blk_cell BK106.out 1).trans rfl;have hcz57_2 : w37.cell? ⟨gb106,2,none⟩ = some (.int .i64 a0_2):=(blk_cell BK106.out 2).trans rfl;have hcz57_3 : w37.cell? ⟨gb106,3,none⟩ = some (.slice (some ad113) l0_3.length c0_3):=(blk_cell BK106.out 3).trans rfl;have hcz57_4 : w37.cell? ⟨gb106,4,none⟩ = some (.int .i64 a0_4):=(blk_cell BK106.out 4).trans rfl;have hcz57_5 : w37.cell? ⟨gb106,5,none⟩ = some (.int .i64 a0_5):=(blk_cell BK106.out 5).trans rfl;have hcz57_6 : w37.cell? ⟨gb106,6,none⟩ = some (.slice (some ad115) l0_6.length c0_6):=(blk_cell BK106.out 6).trans rfl;have hfz57_0:=blk_frozen BK106.out 0;have hfz57_1:=blk_frozen BK106.out 1;have hfz57_2:=blk_frozen BK106.out 2;have hfz57_3:=blk_frozen BK106.out 3;have hfz57_4:=blk_frozen BK106.out 4;have hfz57_5:=blk_frozen BK106.out 5;have hfz57_6:=blk_frozen BK106.out 6)|(go_at_call 48;(with_reducible refine (spec_l1In.calls ((rd_T50 l0_6 x3_2).f3) (-1) (wrap64 ((l0_3.length : Int) - 1)) true _ A42.out).mono ?_);rintro e w' ⟨rfl,⟨nd,rfl⟩⟩)|(go_at_call 48;(with_reducible refine (spec_l1In.calls ((rd_T50 l0_6 x3_2).f4) 0 a0_5 true _ A44.out).mono ?_);rintro e w' ⟨rfl,⟨nd,rfl⟩⟩))
                   go_meet
                   case rel => (try rw [← Nbq46.out]);(try rw [← Nbq48.out]);exact ⟨_,((((rd_T50 l0_6 x3_2).f5) != 0)),(by first|rfl|(simp;done)|(simp [*];done)),H',⟨by have:=HJ1.out;have:=HK2.out;first|omega|exact Nat.le_refl _⟩,⟨by (with_reducible repeat (first|refine blk_drewN ?_ _|refine blk_drew ?_|refine blk_alloc ?_ _));exact BK106.out⟩,⟨by (with_reducible repeat (first|refine blk_drewN ?_ _|refine blk_drew ?_|refine blk_alloc ?_ _));exact BK116.out⟩,⟨by repeat (first|(with_reducible first|exact HB.out|apply below_alloc|apply pw_below_drewN|apply below_drew1|refine below_set ?_ GE106.out|refine below_set ?_ GE116.out)|exact HB.out)⟩⟩
                  ·
                   rw [if_neg c54] at H
                   have c54b0 : (((rd_T50 l0_6 x3_2).f4) == 0) = false:=beq_eq_false_iff_ne.mpr c54
                   have c54b1 : (((rd_T50 l0_6 x3_2).f4) != 0) = true:=bne_iff_ne.mpr c54
                   have H':=Aside0.mk H
                   clear H
                   have hnb58:=NB116_106.out
                   have hnc58:=NB106_116.out
                   have hcz59_0 : w37.cell? ⟨gb116,0,none⟩ = some (.bool true):=(blk_cell BK116.out 0).trans rfl
                   have hcz59_1 : w37.cell? ⟨gb116,1,none⟩ = some (.int .i64 ((rd_T50 l0_6 x3_2).f1)):=(blk_cell BK116.out 1).trans rfl
                   have hcz59_2 : w37.cell? ⟨gb116,2,none⟩ = some (.bool false):=(blk_cell BK116.out 2).trans rfl
                   have hcz59_3 : w37.cell? ⟨gb116,3,none⟩ = some (.int .i64 ((rd_T50 l0_6 x3_2).f3)):=(blk_cell BK116.out 3).trans rfl
                   have hcz59_4 : w37.cell? ⟨gb116,4,none⟩ = some (.int .i64 ((rd_T50 l0_6 x3_2).f4)):=(blk_cell BK116.out 4).trans rfl
                   have hcz59_5 : w37.cell? ⟨gb116,5,none⟩ = some (.int .i64 ((rd_T50 l0_6 x3_2).f5)):=(blk_cell BK116.out 5).trans rfl
                   have hfz59_0:=blk_frozen BK116.out 0
                   have hfz59_1:=blk_frozen BK116.out 1
                   have hfz59_2:=blk_frozen BK116.out 2
                   have hfz59_3:=blk_frozen BK116.out 3
                   have hfz59_4:=blk_frozen BK116.out 4
                   have hfz59_5:=blk_frozen BK116.out 5
                   go_wp2_with (first|((with_reducible refine gate_callee (f:=48) rfl ?_);refine goesL_ (some 79) rfl rfl Try.func48 (by kernel_rfl) rfl #[.int .i64 ((rd_T50 l0_6 x3_2).f1),.int .i64 0,.int .i64 t117] rfl (by (try simp only [List.map_toArray,List.map_cons,List.map_nil]);first|done|rfl|(simp only [List.length_drop,List.length_take];rfl)) ?_;(with_reducible refine (spec_l1In.calls ((rd_T50 l0_6 x3_2).f1) 0 t117 true _ A38.out).mono ?_);rintro e w' ⟨rfl,⟨nd,rfl⟩⟩;refine ⟨_,rfl,?_⟩)|(go_at_call 48;(with_reducible refine (spec_l1In.calls ((rd_T50 l0_6 x3_2).f5) 0 t117 true _ A40.out).mono ?_);rintro e w' ⟨rfl,⟨nd,rfl⟩⟩;have hcz60_0 : w37.cell? ⟨gb106,0,none⟩ = some (.int .i64 a0_0):=(blk_cell BK106.out 0).trans rfl;have hcz60_1 : w37.cell? ⟨gb106,1,none⟩ = some (.int .i64 a0_1):=(blk_cell BK106.out 1).trans rfl;have hcz60_2 : w37.cell? ⟨gb106,2,none⟩ = some (.int .i64 a0_2):=(blk_cell BK106.out 2).trans rfl;have hcz60_3 : w37.cell? ⟨gb106,3,none⟩ = some (.slice (some ad113) l0_3.length c0_3):=(blk_cell BK106.out 3).trans rfl;have hcz60_4 : w37.cell? ⟨gb106,4,none⟩ = some (.int .i64 a0_4):=(blk_cell BK106.out 4).trans rfl;have hcz60_5 : w37.cell? ⟨gb106,5,none⟩ = some (.int .i64 a0_5):=(blk_cell BK106.out 5).trans rfl;have hcz60_6 : w37.cell? ⟨gb106,6,none⟩ = some (.slice (some ad115) l0_6.length c0_6):=(blk_cell BK106.out 6).trans rfl;have hfz60_0:=blk_frozen BK106.out 0;have hfz60_1:=blk_frozen BK106.out 1;have hfz60_2:=blk_frozen BK106.out 2;have hfz60_3:=blk_frozen BK106.out 3;have hfz60_4:=blk_frozen BK106.out 4;have hfz60_5:=blk_frozen BK106.out 5;have hfz60_6:=blk_frozen BK106.out 6)|(go_at_call 48;(with_reducible refine (spec_l1In.calls ((rd_T50 l0_6 x3_2).f3) (-1) (wrap64 ((l0_3.length : Int) - 1)) true _ A42.out).mono ?_);rintro e w' ⟨rfl,⟨nd,rfl⟩⟩)|(go_at_call 48;(with_reducible refine (spec_l1In.calls ((rd_T50 l0_6 x3_2).f4) 0 a0_5 true _ A44.out).mono ?_);rintro e w' ⟨rfl,⟨nd,rfl⟩⟩))
                   go_meet
                   case rel => (try rw [← Nbq46.out]);(try rw [← Nbq48.out]);exact ⟨_,(true),(by first|rfl|(simp;done)|(simp [*];done)),H',⟨by have:=HJ1.out;have:=HK2.out;first|omega|exact Nat.le_refl _⟩,⟨by (with_reducible repeat (first|refine blk_drewN ?_ _|refine blk_drew ?_|refine blk_alloc ?_ _));exact BK106.out⟩,⟨by (with_reducible repeat (first|refine blk_drewN ?_ _|refine blk_drew ?_|refine blk_alloc ?_ _));exact BK116.out⟩,⟨by repeat (first|(with_reducible first|exact HB.out|apply below_alloc|apply pw_below_drewN|apply below_drew1|refine below_set ?_ GE106.out|refine below_set ?_ GE116.out)|exact HB.out)⟩⟩
                 ·
                  rw [if_neg c53] at H
                  have c53b0 : (((rd_T50 l0_6 x3_2).f3) == (-1)) = false:=beq_eq_false_iff_ne.mpr c53
                  have c53b1 : (((rd_T50 l0_6 x3_2).f3) != (-1)) = true:=bne_iff_ne.mpr c53
                  have H':=Aside0.mk H
                  clear H
                  have hnb61:=NB116_106.out
                  have hnc61:=NB106_116.out
                  have hcz62_0 : w37.cell? ⟨gb116,0,none⟩ = some (.bool true):=(blk_cell BK116.out 0).trans rfl
                  have hcz62_1 : w37.cell? ⟨gb116,1,none⟩ = some (.int .i64 ((rd_T50 l0_6 x3_2).f1)):=(blk_cell BK116.out 1).trans rfl
                  have hcz62_2 : w37.cell? ⟨gb116,2,none⟩ = some (.bool false):=(blk_cell BK116.out 2).trans rfl
                  have hcz62_3 : w37.cell? ⟨gb116,3,none⟩ = some (.int .i64 ((rd_T50 l0_6 x3_2).f3)):=(blk_cell BK116.out 3).trans rfl
                  have hcz62_4 : w37.cell? ⟨gb116,4,none⟩ = some (.int .i64 ((rd_T50 l0_6 x3_2).f4)):=(blk_cell BK116.out 4).trans rfl
                  have hcz62_5 : w37.cell? ⟨gb116,5,none⟩ = some (.int .i64 ((rd_T50 l0_6 x3_2).f5)):=(blk_cell BK116.out 5).trans rfl
                  have hfz62_0:=blk_frozen BK116.out 0
                  have hfz62_1:=blk_frozen BK116.out 1
                  have hfz62_2:=blk_frozen BK116.out 2
                  have hfz62_3:=blk_frozen BK116.out 3
                  have hfz62_4:=blk_frozen BK116.out 4
                  have hfz62_5:=blk_frozen BK116.out 5
                  go_wp2_with (first|((with_reducible refine gate_callee (f:=48) rfl ?_);refine goesL_ (some 79) rfl rfl Try.func48 (by kernel_rfl) rfl #[.int .i64 ((rd_T50 l0_6 x3_2).f1),.int .i64 0,.int .i64 t117] rfl (by (try simp only [List.map_toArray,List.map_cons,List.map_nil]);first|done|rfl|(simp only [List.length_drop,List.length_take];rfl)) ?_;(with_reducible refine (spec_l1In.calls ((rd_T50 l0_6 x3_2).f1) 0 t117 true _ A38.out).mono ?_);rintro e w' ⟨rfl,⟨nd,rfl⟩⟩;refine ⟨_,rfl,?_⟩)|(go_at_call 48;(with_reducible refine (spec_l1In.calls ((rd_T50 l0_6 x3_2).f5) 0 t117 true _ A40.out).mono ?_);rintro e w' ⟨rfl,⟨nd,rfl⟩⟩;have hcz63_0 : w37.cell? ⟨gb106,0,none⟩ = some (.int .i64 a0_0):=(blk_cell BK106.out 0).trans rfl;have hcz63_1 : w37.cell? ⟨gb106,1,none⟩ = some (.int .i64 a0_1):=(blk_cell BK106.out 1).trans rfl;have hcz63_2 : w37.cell? ⟨gb106,2,none⟩ = some (.int .i64 a0_2):=(blk_cell BK106.out 2).trans rfl;have hcz63_3 : w37.cell? ⟨gb106,3,none⟩ = some (.slice (some ad113) l0_3.length c0_3):=(blk_cell BK106.out 3).trans rfl;have hcz63_4 : w37.cell? ⟨gb106,4,none⟩ = some (.int .i64 a0_4):=(blk_cell BK106.out 4).trans rfl;have hcz63_5 : w37.cell? ⟨gb106,5,none⟩ = some (.int .i64 a0_5):=(blk_cell BK106.out 5).trans rfl;have hcz63_6 : w37.cell? ⟨gb106,6,none⟩ = some (.slice (some ad115) l0_6.length c0_6):=(blk_cell BK106.out 6).trans rfl;have hfz63_0:=blk_frozen BK106.out 0;have hfz63_1:=blk_frozen BK106.out 1;have hfz63_2:=blk_frozen BK106.out 2;have hfz63_3:=blk_frozen BK106.out 3;have hfz63_4:=blk_frozen BK106.out 4;have hfz63_5:=blk_frozen BK106.out 5;have hfz63_6:=blk_frozen BK106.out 6)|(go_at_call 48;(with_reducible refine (spec_l1In.calls ((rd_T50 l0_6 x3_2).f3) (-1) (wrap64 ((l0_3.length : Int) - 1)) true _ A42.out).mono ?_);rintro e w' ⟨rfl,⟨nd,rfl⟩⟩)|(go_at_call 48;(with_reducible refine (spec_l1In.calls ((rd_T50 l0_6 x3_2).f4) 0 a0_5 true _ A44.out).mono ?_);rintro e w' ⟨rfl,⟨nd,rfl⟩⟩))
                  go_meet
                  case rel => (try rw [← Nbq46.out]);(try rw [← Nbq48.out]);exact ⟨_,(true),(by first|rfl|(simp;done)|(simp [*];done)),H',⟨by have:=HJ1.out;have:=HK2.out;first|omega|exact Nat.le_refl _⟩,⟨by (with_reducible repeat (first|refine blk_drewN ?_ _|refine blk_drew ?_|refine blk_alloc ?_ _));exact BK106.out⟩,⟨by (with_reducible repeat (first|refine blk_drewN ?_ _|refine blk_drew ?_|refine blk_alloc ?_ _));exact BK116.out⟩,⟨by repeat (first|(with_reducible first|exact HB.out|apply below_alloc|apply pw_below_drewN|apply below_drew1|refine below_set ?_ GE106.out|refine below_set ?_ GE116.out)|exact HB.out)⟩⟩
               ·
                replace c47:=Bool.eq_false_iff.mpr c47
                subst c47
                have H1 : (if ((rd_T50 l0_6 x3_2).f1) = 0 then (if ((rd_T50 l0_6 x3_2).f2 = true) then (spec_LsOk.j2 k2 x3_2 false a0_0 a0_1 a0_2 l0_3 a0_4 a0_5 l0_6) else (if ((rd_T50 l0_6 x3_2).f3) = (-1) then (if ((rd_T50 l0_6 x3_2).f4) = 0 then (spec_LsOk.j2 k2 x3_2 (((rd_T50 l0_6 x3_2).f5) != 0) a0_0 a0_1 a0_2 l0_3 a0_4 a0_5 l0_6) else (spec_LsOk.j2 k2 x3_2 true a0_0 a0_1 a0_2 l0_3 a0_4 a0_5 l0_6)) else (spec_LsOk.j2 k2 x3_2 true a0_0 a0_1 a0_2 l0_3 a0_4 a0_5 l0_6))) else (spec_LsOk.j2 k2 x3_2 true a0_0 a0_1 a0_2 l0_3 a0_4 a0_5 l0_6)) = some r:=by rw [if_neg (show ¬ (false = true) by decide)] at H;exact H
                clear H
                have H:=H1
                clear H1
                by_cases c64 : ((rd_T50 l0_6 x3_2).f1) = 0
                ·
                 rw [if_pos c64] at H
                 have c64b0 : (((rd_T50 l0_6 x3_2).f1) == 0) = true:=beq_iff_eq.mpr c64
                 have c64b1 : (((rd_T50 l0_6 x3_2).f1) != 0) = false:=bne_eq_false_iff_eq.mpr c64
                 clear c64
                 obtain ⟨bq65,hbq65⟩ : ∃ b_ : Bool,b_ = ((rd_T50 l0_6 x3_2).f2):=⟨_,rfl⟩
                 replace H : (if (bq65 = true) then (spec_LsOk.j2 k2 x3_2 false a0_0 a0_1 a0_2 l0_3 a0_4 a0_5 l0_6) else (if ((rd_T50 l0_6 x3_2).f3) = (-1) then (if ((rd_T50 l0_6 x3_2).f4) = 0 then (spec_LsOk.j2 k2 x3_2 (((rd_T50 l0_6 x3_2).f5) != 0) a0_0 a0_1 a0_2 l0_3 a0_4 a0_5 l0_6) else (spec_LsOk.j2 k2 x3_2 true a0_0 a0_1 a0_2 l0_3 a0_4 a0_5 l0_6)) else (spec_LsOk.j2 k2 x3_2 true a0_0 a0_1 a0_2 l0_3 a0_4 a0_5 l0_6))) = some r:=by rw [← hbq65] at H;exact H
                 have Nbq65:=Aside0.mk hbq65
                 clear hbq65
                 (try rw [← Nbq65.out] at BK116)
                 by_cases c66 : (bq65 = true)
                 ·
                  subst c66
                  have H1 : (spec_LsOk.j2 k2 x3_2 false a0_0 a0_1 a0_2 l0_3 a0_4 a0_5 l0_6) = some r:=by rw [if_pos rfl] at H;exact H
                  clear H
                  have H:=H1
                  clear H1
                  have H':=Aside0.mk H
                  clear H
                  have hnb67:=NB116_106.out
                  have hnc67:=NB106_116.out
                  have hcz68_0 : w37.cell? ⟨gb116,0,none⟩ = some (.bool false):=(blk_cell BK116.out 0).trans rfl
                  have hcz68_1 : w37.cell? ⟨gb116,1,none⟩ = some (.int .i64 ((rd_T50 l0_6 x3_2).f1)):=(blk_cell BK116.out 1).trans rfl
                  have hcz68_2 : w37.cell? ⟨gb116,2,none⟩ = some (.bool true):=(blk_cell BK116.out 2).trans rfl
                  have hcz68_3 : w37.cell? ⟨gb116,3,none⟩ = some (.int .i64 ((rd_T50 l0_6 x3_2).f3)):=(blk_cell BK116.out 3).trans rfl
                  have hcz68_4 : w37.cell? ⟨gb116,4,none⟩ = some (.int .i64 ((rd_T50 l0_6 x3_2).f4)):=(blk_cell BK116.out 4).trans rfl
                  have hcz68_5 : w37.cell? ⟨gb116,5,none⟩ = some (.int .i64 ((rd_T50 l0_6 x3_2).f5)):=(blk_cell BK116.out 5).trans rfl
                  have hfz68_0:=blk_frozen BK116.out 0
                  have hfz68_1:=blk_frozen BK116.out 1
                  have hfz68_2:=blk_frozen BK116.out 2
                  have hfz68_3:=blk_frozen BK116.out 3
                  have hfz68_4:=blk_frozen BK116.out 4
                  have hfz68_5:=blk_frozen BK116.out 5
                  go_wp2_with (first|((with_reducible refine gate_callee (f:=48) rfl ?_);refine goesL_ (some 79) rfl rfl Try.func48 (by kernel_rfl) rfl #[.int .i64 ((rd_T50 l0_6 x3_2).f1),.int .i64 0,.int .i64 t117] rfl (by (try simp only [List.map_toArray,List.map_cons,List.map_nil]);first|done|rfl|(simp only [List.length_drop,List.length_take];rfl)) ?_;(with_reducible refine (spec_l1In.calls ((rd_T50 l0_6 x3_2).f1) 0 t117 true _ A38.out).mono ?_);rintro e w' ⟨rfl,⟨nd,rfl⟩⟩;refine ⟨_,rfl,?_⟩)|(go_at_call 48;(with_reducible refine (spec_l1In.calls ((rd_T50 l0_6 x3_2).f5) 0 t117 true _ A40.out).mono ?_);rintro e w' ⟨rfl,⟨nd,rfl⟩⟩;have hcz69_0 : w37.cell? ⟨gb106,0,none⟩ = some (.int .i64 a0_0):=(blk_cell BK106.out 0).trans rfl;have hcz69_1 : w37.cell? ⟨gb106,1,none⟩ = some (.int .i64 a0_1):=(blk_cell BK106.out 1).trans rfl;have hcz69_2 : w37.cell? ⟨gb106,2,none⟩ = some (.int .i64 a0_2):=(blk_cell BK106.out 2).trans rfl;have hcz69_3 : w37.cell? ⟨gb106,3,none⟩ = some (.slice (some ad113) l0_3.length c0_3):=(blk_cell BK106.out 3).trans rfl;have hcz69_4 : w37.cell? ⟨gb106,4,none⟩ = some (.int .i64 a0_4):=(blk_cell BK106.out 4).trans rfl;have hcz69_5 : w37.cell? ⟨gb106,5,none⟩ = some (.int .i64 a0_5):=(blk_cell BK106.out 5).trans rfl;have hcz69_6 : w37.cell? ⟨gb106,6,none⟩ = some (.slice (some ad115) l0_6.length c0_6):=(blk_cell BK106.out 6).trans rfl;have hfz69_0:=blk_frozen BK106.out 0;have hfz69_1:=blk_frozen BK106.out 1;have hfz69_2:=blk_frozen BK106.out 2;have hfz69_3:=blk_frozen BK106.out 3;have hfz69_4:=blk_frozen BK106.out 4;have hfz69_5:=blk_frozen BK106.out 5;have hfz69_6:=blk_frozen BK106.out 6)|(go_at_call 48;(with_reducible refine (spec_l1In.calls ((rd_T50 l0_6 x3_2).f3) (-1) (wrap64 ((l0_3.length : Int) - 1)) true _ A42.out).mono ?_);rintro e w' ⟨rfl,⟨nd,rfl⟩⟩)|(go_at_call 48;(with_reducible refine (spec_l1In.calls ((rd_T50 l0_6 x3_2).f4) 0 a0_5 true _ A44.out).mono ?_);rintro e w' ⟨rfl,⟨nd,rfl⟩⟩))
                  go_meet
                  case rel => (try rw [← Nbq46.out]);(try rw [← Nbq65.out]);exact ⟨_,(false),(by first|rfl|(simp;done)|(simp [*];done)),H',⟨by have:=HJ1.out;have:=HK2.out;first|omega|exact Nat.le_refl _⟩,⟨by (with_reducible repeat (first|refine blk_drewN ?_ _|refine blk_drew ?_|refine blk_alloc ?_ _));exact BK106.out⟩,⟨by (with_reducible repeat (first|refine blk_drewN ?_ _|refine blk_drew ?_|refine blk_alloc ?_ _));exact BK116.out⟩,⟨by repeat (first|(with_reducible first|exact HB.out|apply below_alloc|apply pw_below_drewN|apply below_drew1|refine below_set ?_ GE106.out|refine below_set ?_ GE116.out)|exact HB.out)⟩⟩
                 ·
                  replace c66:=Bool.eq_false_iff.mpr c66
                  subst c66
                  have H1 : (if ((rd_T50 l0_6 x3_2).f3) = (-1) then (if ((rd_T50 l0_6 x3_2).f4) = 0 then (spec_LsOk.j2 k2 x3_2 (((rd_T50 l0_6 x3_2).f5) != 0) a0_0 a0_1 a0_2 l0_3 a0_4 a0_5 l0_6) else (spec_LsOk.j2 k2 x3_2 true a0_0 a0_1 a0_2 l0_3 a0_4 a0_5 l0_6)) else (spec_LsOk.j2 k2 x3_2 true a0_0 a0_1 a0_2 l0_3 a0_4 a0_5 l0_6)) = some r:=by rw [if_neg (show ¬ (false = true) by decide)] at H;exact H
                  clear H
                  have H:=H1
                  clear H1
                  by_cases c70 : ((rd_T50 l0_6 x3_2).f3) = (-1)
                  ·
                   rw [if_pos c70] at H
                   have c70b0 : (((rd_T50 l0_6 x3_2).f3) == (-1)) = true:=beq_iff_eq.mpr c70
                   have c70b1 : (((rd_T50 l0_6 x3_2).f3) != (-1)) = false:=bne_eq_false_iff_eq.mpr c70
                   clear c70
                   by_cases c71 : ((rd_T50 l0_6 x3_2).f4) = 0
                   ·
                    rw [if_pos c71] at H
                    have c71b0 : (((rd_T50 l0_6 x3_2).f4) == 0) = true:=beq_iff_eq.mpr c71
                    have c71b1 : (((rd_T50 l0_6 x3_2).f4) != 0) = false:=bne_eq_false_iff_eq.mpr c71
                    clear c71
                    have H':=Aside0.mk H
                    clear H
                    have hnb72:=NB116_106.out
                    have hnc72:=NB106_116.out
                    have hcz73_0 : w37.cell? ⟨gb116,0,none⟩ = some (.bool false):=(blk_cell BK116.out 0).trans rfl
                    have hcz73_1 : w37.cell? ⟨gb116,1,none⟩ = some (.int .i64 ((rd_T50 l0_6 x3_2).f1)):=(blk_cell BK116.out 1).trans rfl
                    have hcz73_2 : w37.cell? ⟨gb116,2,none⟩ = some (.bool false):=(blk_cell BK116.out 2).trans rfl
                    have hcz73_3 : w37.cell? ⟨gb116,3,none⟩ = some (.int .i64 ((rd_T50 l0_6 x3_2).f3)):=(blk_cell BK116.out 3).trans rfl
                    have hcz73_4 : w37.cell? ⟨gb116,4,none⟩ = some (.int .i64 ((rd_T50 l0_6 x3_2).f4)):=(blk_cell BK116.out 4).trans rfl
                    have hcz73_5 : w37.cell? ⟨gb116,5,none⟩ = some (.int .i64 ((rd_T50 l0_6 x3_2).f5)):=(blk_cell BK116.out 5).trans rfl
                    have hfz73_0:=blk_frozen BK116.out 0
                    have hfz73_1:=blk_frozen BK116.out 1
                    have hfz73_2:=blk_frozen BK116.out 2
                    have hfz73_3:=blk_frozen BK116.out 3
                    have hfz73_4:=blk_frozen BK116.out 4
                    have hfz73_5:=blk_frozen BK116.out 5
                    go_wp2_with (first|((with_reducible refine gate_callee (f:=48) rfl ?_);refine goesL_ (some 79) rfl rfl Try.func48 (by kernel_rfl) rfl #[.int .i64 ((rd_T50 l0_6 x3_2).f1),.int .i64 0,.int .i64 t117] rfl (by (try simp only [List.map_toArray,List.map_cons,List.map_nil]);first|done|rfl|(simp only [List.length_drop,List.length_take];rfl)) ?_;(with_reducible refine (spec_l1In.calls ((rd_T50 l0_6 x3_2).f1) 0 t117 true _ A38.out).mono ?_);rintro e w' ⟨rfl,⟨nd,rfl⟩⟩;refine ⟨_,rfl,?_⟩)|(go_at_call 48;(with_reducible refine (spec_l1In.calls ((rd_T50 l0_6 x3_2).f5) 0 t117 true _ A40.out).mono ?_);rintro e w' ⟨rfl,⟨nd,rfl⟩⟩;have hcz74_0 : w37.cell? ⟨gb106,0,none⟩ = some (.int .i64 a0_0):=(blk_cell BK106.out 0).trans rfl;have hcz74_1 : w37.cell? ⟨gb106,1,none⟩ = some (.int .i64 a0_1):=(blk_cell BK106.out 1).trans rfl;have hcz74_2 : w37.cell? ⟨gb106,2,none⟩ = some (.int .i64 a0_2):=(blk_cell BK106.out 2).trans rfl;have hcz74_3 : w37.cell? ⟨gb106,3,none⟩ = some (.slice (some ad113) l0_3.length c0_3):=(blk_cell BK106.out 3).trans rfl;have hcz74_4 : w37.cell? ⟨gb106,4,none⟩ = some (.int .i64 a0_4):=(blk_cell BK106.out 4).trans rfl;have hcz74_5 : w37.cell? ⟨gb106,5,none⟩ = some (.int .i64 a0_5):=(blk_cell BK106.out 5).trans rfl;have hcz74_6 : w37.cell? ⟨gb106,6,none⟩ = some (.slice (some ad115) l0_6.length c0_6):=(blk_cell BK106.out 6).trans rfl;have hfz74_0:=blk_frozen BK106.out 0;have hfz74_1:=blk_frozen BK106.out 1;have hfz74_2:=blk_frozen BK106.out 2;have hfz74_3:=blk_frozen BK106.out 3;have hfz74_4:=blk_frozen BK106.out 4;have hfz74_5:=blk_frozen BK106.out 5;have hfz74_6:=blk_frozen BK106.out 6)|(go_at_call 48;(with_reducible refine (spec_l1In.calls ((rd_T50 l0_6 x3_2).f3) (-1) (wrap64 ((l0_3.length : Int) - 1)) true _ A42.out).mono ?_);rintro e w' ⟨rfl,⟨nd,rfl⟩⟩)|(go_at_call 48;(with_reducible refine (spec_l1In.calls ((rd_T50 l0_6 x3_2).f4) 0 a0_5 true _ A44.out).mono ?_);rintro e w' ⟨rfl,⟨nd,rfl⟩⟩))
                    go_meet
                    case rel => (try rw [← Nbq46.out]);(try rw [← Nbq65.out]);exact ⟨_,((((rd_T50 l0_6 x3_2).f5) != 0)),(by first|rfl|(simp;done)|(simp [*];done)),H',⟨by have:=HJ1.out;have:=HK2.out;first|omega|exact Nat.le_refl _⟩,⟨by (with_reducible repeat (first|refine blk_drewN ?_ _|refine blk_drew ?_|refine blk_alloc ?_ _));exact BK106.out⟩,⟨by (with_reducible repeat (first|refine blk_drewN ?_ _|refine blk_drew ?_|refine blk_alloc ?_ _));exact BK116.out⟩,⟨by repeat (first|(with_reducible first|exact HB.out|apply below_alloc|apply pw_below_drewN|apply below_drew1|refine below_set ?_ GE106.out|refine below_set ?_ GE116.out)|exact HB.out)⟩⟩
                   ·
                    rw [if_neg c71] at H
                    have c71b0 : (((rd_T50 l0_6 x3_2).f4) == 0) = false:=beq_eq_false_iff_ne.mpr c71
                    have c71b1 : (((rd_T50 l0_6 x3_2).f4) != 0) = true:=bne_iff_ne.mpr c71
                    have H':=Aside0.mk H
                    clear H
                    have hnb75:=NB116_106.out
                    have hnc75:=NB106_116.out
                    have hcz76_0 : w37.cell? ⟨gb116,0,none⟩ = some (.bool false):=(blk_cell BK116.out 0).trans rfl
                    have hcz76_1 : w37.cell? ⟨gb116,1,none⟩ = some (.int .i64 ((rd_T50 l0_6 x3_2).f1)):=(blk_cell BK116.out 1).trans rfl
                    have hcz76_2 : w37.cell? ⟨gb116,2,none⟩ = some (.bool false):=(blk_cell BK116.out 2).trans rfl
                    have hcz76_3 : w37.cell? ⟨gb116,3,none⟩ = some (.int .i64 ((rd_T50 l0_6 x3_2).f3)):=(blk_cell BK116.out 3).trans rfl
                    have hcz76_4 : w37.cell? ⟨gb116,4,none⟩ = some (.int .i64 ((rd_T50 l0_6 x3_2).f4)):=(blk_cell BK116.out 4).trans rfl
                    have hcz76_5 : w37.cell? ⟨gb116,5,none⟩ = some (.int .i64 ((rd_T50 l0_6 x3_2).f5)):=(blk_cell BK116.out 5).trans rfl
                    have hfz76_0:=blk_frozen BK116.out 0
                    have hfz76_1:=blk_frozen BK116.out 1
                    have hfz76_2:=blk_frozen BK116.out 2
                    have hfz76_3:=blk_frozen BK116.out 3
                    have hfz76_4:=blk_frozen BK116.out 4
                    have hfz76_5:=blk_frozen BK116.out 5
                    go_wp2_with (first|((with_reducible refine gate_callee (f:=48) rfl ?_);refine goesL_ (some 79) rfl rfl Try.func48 (by kernel_rfl) rfl #[.int .i64 ((rd_T50 l0_6 x3_2).f1),.int .i64 0,.int .i64 t117] rfl (by (try simp only [List.map_toArray,List.map_cons,List.map_nil]);first|done|rfl|(simp only [List.length_drop,List.length_take];rfl)) ?_;(with_reducible refine (spec_l1In.calls ((rd_T50 l0_6 x3_2).f1) 0 t117 true _ A38.out).mono ?_);rintro e w' ⟨rfl,⟨nd,rfl⟩⟩;refine ⟨_,rfl,?_⟩)|(go_at_call 48;(with_reducible refine (spec_l1In.calls ((rd_T50 l0_6 x3_2).f5) 0 t117 true _ A40.out).mono ?_);rintro e w' ⟨rfl,⟨nd,rfl⟩⟩;have hcz77_0 : w37.cell? ⟨gb106,0,none⟩ = some (.int .i64 a0_0):=(blk_cell BK106.out 0).trans rfl;have hcz77_1 : w37.cell? ⟨gb106,1,none⟩ = some (.int .i64 a0_1):=(blk_cell BK106.out 1).trans rfl;have hcz77_2 : w37.cell? ⟨gb106,2,none⟩ = some (.int .i64 a0_2):=(blk_cell BK106.out 2).trans rfl;have hcz77_3 : w37.cell? ⟨gb106,3,none⟩ = some (.slice (some ad113) l0_3.length c0_3):=(blk_cell BK106.out 3).trans rfl;have hcz77_4 : w37.cell? ⟨gb106,4,none⟩ = some (.int .i64 a0_4):=(blk_cell BK106.out 4).trans rfl;have hcz77_5 : w37.cell? ⟨gb106,5,none⟩ = some (.int .i64 a0_5):=(blk_cell BK106.out 5).trans rfl;have hcz77_6 : w37.cell? ⟨gb106,6,none⟩ = some (.slice (some ad115) l0_6.length c0_6):=(blk_cell BK106.out 6).trans rfl;have hfz77_0:=blk_frozen BK106.out 0;have hfz77_1:=blk_frozen BK106.out 1;have hfz77_2:=blk_frozen BK106.out 2;have hfz77_3:=blk_frozen BK106.out 3;have hfz77_4:=blk_frozen BK106.out 4;have hfz77_5:=blk_frozen BK106.out 5;have hfz77_6:=blk_frozen BK106.out 6)|(go_at_call 48;(with_reducible refine (spec_l1In.calls ((rd_T50 l0_6 x3_2).f3) (-1) (wrap64 ((l0_3.length : Int) - 1)) true _ A42.out).mono ?_);rintro e w' ⟨rfl,⟨nd,rfl⟩⟩)|(go_at_call 48;(with_reducible refine (spec_l1In.calls ((rd_T50 l0_6 x3_2).f4) 0 a0_5 true _ A44.out).mono ?_);rintro e w' ⟨rfl,⟨nd,rfl⟩⟩))
                    go_meet
                    case rel => (try rw [← Nbq46.out]);(try rw [← Nbq65.out]);exact ⟨_,(true),(by first|rfl|(simp;done)|(simp [*];done)),H',⟨by have:=HJ1.out;have:=HK2.out;first|omega|exact Nat.le_refl _⟩,⟨by (with_reducible repeat (first|refine blk_drewN ?_ _|refine blk_drew ?_|refine blk_alloc ?_ _));exact BK106.out⟩,⟨by (with_reducible repeat (first|refine blk_drewN ?_ _|refine blk_drew ?_|refine blk_alloc ?_ _));exact BK116.out⟩,⟨by repeat (first|(with_reducible first|exact HB.out|apply below_alloc|apply pw_below_drewN|apply below_drew1|refine below_set ?_ GE106.out|refine below_set ?_ GE116.out)|exact HB.out)⟩⟩
                  ·
                   rw [if_neg c70] at H
                   have c70b0 : (((rd_T50 l0_6 x3_2).f3) == (-1)) = false:=beq_eq_false_iff_ne.mpr c70
                   have c70b1 : (((rd_T50 l0_6 x3_2).f3) != (-1)) = true:=bne_iff_ne.mpr c70
                   have H':=Aside0.mk H
                   clear H
                   have hnb78:=NB116_106.out
                   have hnc78:=NB106_116.out
                   have hcz79_0 : w37.cell? ⟨gb116,0,none⟩ = some (.bool false):=(blk_cell BK116.out 0).trans rfl
                   have hcz79_1 : w37.cell? ⟨gb116,1,none⟩ = some (.int .i64 ((rd_T50 l0_6 x3_2).f1)):=(blk_cell BK116.out 1).trans rfl
                   have hcz79_2 : w37.cell? ⟨gb116,2,none⟩ = some (.bool false):=(blk_cell BK116.out 2).trans rfl
                   have hcz79_3 : w37.cell? ⟨gb116,3,none⟩ = some (.int .i64 ((rd_T50 l0_6 x3_2).f3)):=(blk_cell BK116.out 3).trans rfl
                   have hcz79_4 : w37.cell? ⟨gb116,4,none⟩ = some (.int .i64 ((rd_T50 l0_6 x3_2).f4)):=(blk_cell BK116.out 4).trans rfl
                   have hcz79_5 : w37.cell? ⟨gb116,5,none⟩ = some (.int .i64 ((rd_T50 l0_6 x3_2).f5)):=(blk_cell BK116.out 5).trans rfl
                   have hfz79_0:=blk_frozen BK116.out 0
                   have hfz79_1:=blk_frozen BK116.out 1
                   have hfz79_2:=blk_frozen BK116.out 2
                   have hfz79_3:=blk_frozen BK116.out 3
                   have hfz79_4:=blk_frozen BK116.out 4
                   have hfz79_5:=blk_frozen BK116.out 5
                   go_wp2_with (first|((with_reducible refine gate_callee (f:=48) rfl ?_);refine goesL_ (some 79) rfl rfl Try.func48 (by kernel_rfl) rfl #[.int .i64 ((rd_T50 l0_6 x3_2).f1),.int .i64 0,.int .i64 t117] rfl (by (try simp only [List.map_toArray,List.map_cons,List.map_nil]);first|done|rfl|(simp only [List.length_drop,List.length_take];rfl)) ?_;(with_reducible refine (spec_l1In.calls ((rd_T50 l0_6 x3_2).f1) 0 t117 true _ A38.out).mono ?_);rintro e w' ⟨rfl,⟨nd,rfl⟩⟩;refine ⟨_,rfl,?_⟩)|(go_at_call 48;(with_reducible refine (spec_l1In.calls ((rd_T50 l0_6 x3_2).f5) 0 t117 true _ A40.out).mono ?_);rintro e w' ⟨rfl,⟨nd,rfl⟩⟩;have hcz80_0 : w37.cell? ⟨gb106,0,none⟩ = some (.int .i64 a0_0):=(blk_cell BK106.out 0).trans rfl;have hcz80_1 : w37.cell? ⟨gb106,1,none⟩ = some (.int .i64 a0_1):=(blk_cell BK106.out 1).trans rfl;have hcz80_2 : w37.cell? ⟨gb106,2,none⟩ = some (.int .i64 a0_2):=(blk_cell BK106.out 2).trans rfl;have hcz80_3 : w37.cell? ⟨gb106,3,none⟩ = some (.slice (some ad113) l0_3.length c0_3):=(blk_cell BK106.out 3).trans rfl;have hcz80_4 : w37.cell? ⟨gb106,4,none⟩ = some (.int .i64 a0_4):=(blk_cell BK106.out 4).trans rfl;have hcz80_5 : w37.cell? ⟨gb106,5,none⟩ = some (.int .i64 a0_5):=(blk_cell BK106.out 5).trans rfl;have hcz80_6 : w37.cell? ⟨gb106,6,none⟩ = some (.slice (some ad115) l0_6.length c0_6):=(blk_cell BK106.out 6).trans rfl;have hfz80_0:=blk_frozen BK106.out 0;have hfz80_1:=blk_frozen BK106.out 1;have hfz80_2:=blk_frozen BK106.out 2;have hfz80_3:=blk_frozen BK106.out 3;have hfz80_4:=blk_frozen BK106.out 4;have hfz80_5:=blk_frozen BK106.out 5;have hfz80_6:=blk_frozen BK106.out 6)|(go_at_call 48;(with_reducible refine (spec_l1In.calls ((rd_T50 l0_6 x3_2).f3) (-1) (wrap64 ((l0_3.length : Int) - 1)) true _ A42.out).mono ?_);rintro e w' ⟨rfl,⟨nd,rfl⟩⟩)|(go_at_call 48;(with_reducible refine (spec_l1In.calls ((rd_T50 l0_6 x3_2).f4) 0 a0_5 true _ A44.out).mono ?_);rintro e w' ⟨rfl,⟨nd,rfl⟩⟩))
                   go_meet
                   case rel => (try rw [← Nbq46.out]);(try rw [← Nbq65.out]);exact ⟨_,(true),(by first|rfl|(simp;done)|(simp [*];done)),H',⟨by have:=HJ1.out;have:=HK2.out;first|omega|exact Nat.le_refl _⟩,⟨by (with_reducible repeat (first|refine blk_drewN ?_ _|refine blk_drew ?_|refine blk_alloc ?_ _));exact BK106.out⟩,⟨by (with_reducible repeat (first|refine blk_drewN ?_ _|refine blk_drew ?_|refine blk_alloc ?_ _));exact BK116.out⟩,⟨by repeat (first|(with_reducible first|exact HB.out|apply below_alloc|apply pw_below_drewN|apply below_drew1|refine below_set ?_ GE106.out|refine below_set ?_ GE116.out)|exact HB.out)⟩⟩
                ·
                 rw [if_neg c64] at H
                 have c64b0 : (((rd_T50 l0_6 x3_2).f1) == 0) = false:=beq_eq_false_iff_ne.mpr c64
                 have c64b1 : (((rd_T50 l0_6 x3_2).f1) != 0) = true:=bne_iff_ne.mpr c64
                 have H':=Aside0.mk H
                 clear H
                 have hnb81:=NB116_106.out
                 have hnc81:=NB106_116.out
                 have hcz82_0 : w37.cell? ⟨gb116,0,none⟩ = some (.bool false):=(blk_cell BK116.out 0).trans rfl
                 have hcz82_1 : w37.cell? ⟨gb116,1,none⟩ = some (.int .i64 ((rd_T50 l0_6 x3_2).f1)):=(blk_cell BK116.out 1).trans rfl
                 have hcz82_2 : w37.cell? ⟨gb116,2,none⟩ = some (.bool ((rd_T50 l0_6 x3_2).f2)):=(blk_cell BK116.out 2).trans rfl
                 have hcz82_3 : w37.cell? ⟨gb116,3,none⟩ = some (.int .i64 ((rd_T50 l0_6 x3_2).f3)):=(blk_cell BK116.out 3).trans rfl
                 have hcz82_4 : w37.cell? ⟨gb116,4,none⟩ = some (.int .i64 ((rd_T50 l0_6 x3_2).f4)):=(blk_cell BK116.out 4).trans rfl
                 have hcz82_5 : w37.cell? ⟨gb116,5,none⟩ = some (.int .i64 ((rd_T50 l0_6 x3_2).f5)):=(blk_cell BK116.out 5).trans rfl
                 have hfz82_0:=blk_frozen BK116.out 0
                 have hfz82_1:=blk_frozen BK116.out 1
                 have hfz82_2:=blk_frozen BK116.out 2
                 have hfz82_3:=blk_frozen BK116.out 3
                 have hfz82_4:=blk_frozen BK116.out 4
                 have hfz82_5:=blk_frozen BK116.out 5
                 go_wp2_with (first|((with_reducible refine gate_callee (f:=48) rfl ?_);refine goesL_ (some 79) rfl rfl Try.func48 (by kernel_rfl) rfl #[.int .i64 ((rd_T50 l0_6 x3_2).f1),.int .i64 0,.int .i64 t117] rfl (by (try simp only [List.map_toArray,List.map_cons,List.map_nil]);first|done|rfl|(simp only [List.length_drop,List.length_take];rfl)) ?_;(with_reducible refine (spec_l1In.calls ((rd_T50 l0_6 x3_2).f1) 0 t117 true _ A38.out).mono ?_);rintro e w' ⟨rfl,⟨nd,rfl⟩⟩;refine ⟨_,rfl,?_⟩)|(go_at_call 48;(with_reducible refine (spec_l1In.calls ((rd_T50 l0_6 x3_2).f5) 0 t117 true _ A40.out).mono ?_);rintro e w' ⟨rfl,⟨nd,rfl⟩⟩;have hcz83_0 : w37.cell? ⟨gb106,0,none⟩ = some (.int .i64 a0_0):=(blk_cell BK106.out 0).trans rfl;have hcz83_1 : w37.cell? ⟨gb106,1,none⟩ = some (.int .i64 a0_1):=(blk_cell BK106.out 1).trans rfl;have hcz83_2 : w37.cell? ⟨gb106,2,none⟩ = some (.int .i64 a0_2):=(blk_cell BK106.out 2).trans rfl;have hcz83_3 : w37.cell? ⟨gb106,3,none⟩ = some (.slice (some ad113) l0_3.length c0_3):=(blk_cell BK106.out 3).trans rfl;have hcz83_4 : w37.cell? ⟨gb106,4,none⟩ = some (.int .i64 a0_4):=(blk_cell BK106.out 4).trans rfl;have hcz83_5 : w37.cell? ⟨gb106,5,none⟩ = some (.int .i64 a0_5):=(blk_cell BK106.out 5).trans rfl;have hcz83_6 : w37.cell? ⟨gb106,6,none⟩ = some (.slice (some ad115) l0_6.length c0_6):=(blk_cell BK106.out 6).trans rfl;have hfz83_0:=blk_frozen BK106.out 0;have hfz83_1:=blk_frozen BK106.out 1;have hfz83_2:=blk_frozen BK106.out 2;have hfz83_3:=blk_frozen BK106.out 3;have hfz83_4:=blk_frozen BK106.out 4;have hfz83_5:=blk_frozen BK106.out 5;have hfz83_6:=blk_frozen BK106.out 6)|(go_at_call 48;(with_reducible refine (spec_l1In.calls ((rd_T50 l0_6 x3_2).f3) (-1) (wrap64 ((l0_3.length : Int) - 1)) true _ A42.out).mono ?_);rintro e w' ⟨rfl,⟨nd,rfl⟩⟩)|(go_at_call 48;(with_reducible refine (spec_l1In.calls ((rd_T50 l0_6 x3_2).f4) 0 a0_5 true _ A44.out).mono ?_);rintro e w' ⟨rfl,⟨nd,rfl⟩⟩))
                 go_meet
                 case rel => (try rw [← Nbq46.out]);exact ⟨_,(true),(by first|rfl|(simp;done)|(simp [*];done)),H',⟨by have:=HJ1.out;have:=HK2.out;first|omega|exact Nat.le_refl _⟩,⟨by (with_reducible repeat (first|refine blk_drewN ?_ _|refine blk_drew ?_|refine blk_alloc ?_ _));exact BK106.out⟩,⟨by (with_reducible repeat (first|refine blk_drewN ?_ _|refine blk_drew ?_|refine blk_alloc ?_ _));exact BK116.out⟩,⟨by repeat (first|(with_reducible first|exact HB.out|apply below_alloc|apply pw_below_drewN|apply below_drew1|refine below_set ?_ GE106.out|refine below_set ?_ GE116.out)|exact HB.out)⟩⟩
              ·
               replace c45:=Bool.eq_false_iff.mpr c45
               subst c45
               have H1 : (spec_LsOk.j2 k2 x3_2 true a0_0 a0_1 a0_2 l0_3 a0_4 a0_5 l0_6) = some r:=by rw [if_neg (show ¬ (false = true) by decide)] at H;exact H
               clear H
               have H:=H1
               clear H1
               have H':=Aside0.mk H
               clear H
               have hnb84:=NB116_106.out
               have hnc84:=NB106_116.out
               have hcz85_0 : w37.cell? ⟨gb116,0,none⟩ = some (.bool ((rd_T50 l0_6 x3_2).f0)):=(blk_cell BK116.out 0).trans rfl
               have hcz85_1 : w37.cell? ⟨gb116,1,none⟩ = some (.int .i64 ((rd_T50 l0_6 x3_2).f1)):=(blk_cell BK116.out 1).trans rfl
               have hcz85_2 : w37.cell? ⟨gb116,2,none⟩ = some (.bool ((rd_T50 l0_6 x3_2).f2)):=(blk_cell BK116.out 2).trans rfl
               have hcz85_3 : w37.cell? ⟨gb116,3,none⟩ = some (.int .i64 ((rd_T50 l0_6 x3_2).f3)):=(blk_cell BK116.out 3).trans rfl
               have hcz85_4 : w37.cell? ⟨gb116,4,none⟩ = some (.int .i64 ((rd_T50 l0_6 x3_2).f4)):=(blk_cell BK116.out 4).trans rfl
               have hcz85_5 : w37.cell? ⟨gb116,5,none⟩ = some (.int .i64 ((rd_T50 l0_6 x3_2).f5)):=(blk_cell BK116.out 5).trans rfl
               have hfz85_0:=blk_frozen BK116.out 0
               have hfz85_1:=blk_frozen BK116.out 1
               have hfz85_2:=blk_frozen BK116.out 2
               have hfz85_3:=blk_frozen BK116.out 3
               have hfz85_4:=blk_frozen BK116.out 4
               have hfz85_5:=blk_frozen BK116.out 5
               go_wp2_with (first|((with_reducible refine gate_callee (f:=48) rfl ?_);refine goesL_ (some 79) rfl rfl Try.func48 (by kernel_rfl) rfl #[.int .i64 ((rd_T50 l0_6 x3_2).f1),.int .i64 0,.int .i64 t117] rfl (by (try simp only [List.map_toArray,List.map_cons,List.map_nil]);first|done|rfl|(simp only [List.length_drop,List.length_take];rfl)) ?_;(with_reducible refine (spec_l1In.calls ((rd_T50 l0_6 x3_2).f1) 0 t117 true _ A38.out).mono ?_);rintro e w' ⟨rfl,⟨nd,rfl⟩⟩;refine ⟨_,rfl,?_⟩)|(go_at_call 48;(with_reducible refine (spec_l1In.calls ((rd_T50 l0_6 x3_2).f5) 0 t117 true _ A40.out).mono ?_);rintro e w' ⟨rfl,⟨nd,rfl⟩⟩;have hcz86_0 : w37.cell? ⟨gb106,0,none⟩ = some (.int .i64 a0_0):=(blk_cell BK106.out 0).trans rfl;have hcz86_1 : w37.cell? ⟨gb106,1,none⟩ = some (.int .i64 a0_1):=(blk_cell BK106.out 1).trans rfl;have hcz86_2 : w37.cell? ⟨gb106,2,none⟩ = some (.int .i64 a0_2):=(blk_cell BK106.out 2).trans rfl;have hcz86_3 : w37.cell? ⟨gb106,3,none⟩ = some (.slice (some ad113) l0_3.length c0_3):=(blk_cell BK106.out 3).trans rfl;have hcz86_4 : w37.cell? ⟨gb106,4,none⟩ = some (.int .i64 a0_4):=(blk_cell BK106.out 4).trans rfl;have hcz86_5 : w37.cell? ⟨gb106,5,none⟩ = some (.int .i64 a0_5):=(blk_cell BK106.out 5).trans rfl;have hcz86_6 : w37.cell? ⟨gb106,6,none⟩ = some (.slice (some ad115) l0_6.length c0_6):=(blk_cell BK106.out 6).trans rfl;have hfz86_0:=blk_frozen BK106.out 0;have hfz86_1:=blk_frozen BK106.out 1;have hfz86_2:=blk_frozen BK106.out 2;have hfz86_3:=blk_frozen BK106.out 3;have hfz86_4:=blk_frozen BK106.out 4;have hfz86_5:=blk_frozen BK106.out 5;have hfz86_6:=blk_frozen BK106.out 6)|(go_at_call 48;(with_reducible refine (spec_l1In.calls ((rd_T50 l0_6 x3_2).f3) (-1) (wrap64 ((l0_3.length : Int) - 1)) true _ A42.out).mono ?_);rintro e w' ⟨rfl,⟨nd,rfl⟩⟩)|(go_at_call 48;(with_reducible refine (spec_l1In.calls ((rd_T50 l0_6 x3_2).f4) 0 a0_5 false _ A44.out).mono ?_);rintro e w' ⟨rfl,⟨nd,rfl⟩⟩))
               go_meet
               case rel => exact ⟨_,(true),(by first|rfl|(simp;done)|(simp [*];done)),H',⟨by have:=HJ1.out;have:=HK2.out;first|omega|exact Nat.le_refl _⟩,⟨by (with_reducible repeat (first|refine blk_drewN ?_ _|refine blk_drew ?_|refine blk_alloc ?_ _));exact BK106.out⟩,⟨by (with_reducible repeat (first|refine blk_drewN ?_ _|refine blk_drew ?_|refine blk_alloc ?_ _));exact BK116.out⟩,⟨by repeat (first|(with_reducible first|exact HB.out|apply below_alloc|apply pw_below_drewN|apply below_drew1|refine below_set ?_ GE106.out|refine below_set ?_ GE116.out)|exact HB.out)⟩⟩
             ·
              replace c43:=Bool.eq_false_iff.mpr c43
              subst c43
              have H1 : (spec_LsOk.j2 k2 x3_2 true a0_0 a0_1 a0_2 l0_3 a0_4 a0_5 l0_6) = some r:=by rw [if_neg (show ¬ (false = true) by decide)] at H;exact H
              clear H
              have H:=H1
              clear H1
              have H':=Aside0.mk H
              clear H
              have hnb87:=NB116_106.out
              have hnc87:=NB106_116.out
              have hcz88_0 : w37.cell? ⟨gb116,0,none⟩ = some (.bool ((rd_T50 l0_6 x3_2).f0)):=(blk_cell BK116.out 0).trans rfl
              have hcz88_1 : w37.cell? ⟨gb116,1,none⟩ = some (.int .i64 ((rd_T50 l0_6 x3_2).f1)):=(blk_cell BK116.out 1).trans rfl
              have hcz88_2 : w37.cell? ⟨gb116,2,none⟩ = some (.bool ((rd_T50 l0_6 x3_2).f2)):=(blk_cell BK116.out 2).trans rfl
              have hcz88_3 : w37.cell? ⟨gb116,3,none⟩ = some (.int .i64 ((rd_T50 l0_6 x3_2).f3)):=(blk_cell BK116.out 3).trans rfl
              have hcz88_4 : w37.cell? ⟨gb116,4,none⟩ = some (.int .i64 ((rd_T50 l0_6 x3_2).f4)):=(blk_cell BK116.out 4).trans rfl
              have hcz88_5 : w37.cell? ⟨gb116,5,none⟩ = some (.int .i64 ((rd_T50 l0_6 x3_2).f5)):=(blk_cell BK116.out 5).trans rfl
              have hfz88_0:=blk_frozen BK116.out 0
              have hfz88_1:=blk_frozen BK116.out 1
              have hfz88_2:=blk_frozen BK116.out 2
              have hfz88_3:=blk_frozen BK116.out 3
              have hfz88_4:=blk_frozen BK116.out 4
              have hfz88_5:=blk_frozen BK116.out 5
              go_wp2_with (first|((with_reducible refine gate_callee (f:=48) rfl ?_);refine goesL_ (some 79) rfl rfl Try.func48 (by kernel_rfl) rfl #[.int .i64 ((rd_T50 l0_6 x3_2).f1),.int .i64 0,.int .i64 t117] rfl (by (try simp only [List.map_toArray,List.map_cons,List.map_nil]);first|done|rfl|(simp only [List.length_drop,List.length_take];rfl)) ?_;(with_reducible refine (spec_l1In.calls ((rd_T50 l0_6 x3_2).f1) 0 t117 true _ A38.out).mono ?_);rintro e w' ⟨rfl,⟨nd,rfl⟩⟩;refine ⟨_,rfl,?_⟩)|(go_at_call 48;(with_reducible refine (spec_l1In.calls ((rd_T50 l0_6 x3_2).f5) 0 t117 true _ A40.out).mono ?_);rintro e w' ⟨rfl,⟨nd,rfl⟩⟩;have hcz89_0 : w37.cell? ⟨gb106,0,none⟩ = some (.int .i64 a0_0):=(blk_cell BK106.out 0).trans rfl;have hcz89_1 : w37.cell? ⟨gb106,1,none⟩ = some (.int .i64 a0_1):=(blk_cell BK106.out 1).trans rfl;have hcz89_2 : w37.cell? ⟨gb106,2,none⟩ = some (.int .i64 a0_2):=(blk_cell BK106.out 2).trans rfl;have hcz89_3 : w37.cell? ⟨gb106,3,none⟩ = some (.slice (some ad113) l0_3.length c0_3):=(blk_cell BK106.out 3).trans rfl;have hcz89_4 : w37.cell? ⟨gb106,4,none⟩ = some (.int .i64 a0_4):=(blk_cell BK106.out 4).trans rfl;have hcz89_5 : w37.cell? ⟨gb106,5,none⟩ = some (.int .i64 a0_5):=(blk_cell BK106.out 5).trans rfl;have hcz89_6 : w37.cell? ⟨gb106,6,none⟩ = some (.slice (some ad115) l0_6.length c0_6):=(blk_cell BK106.out 6).trans rfl;have hfz89_0:=blk_frozen BK106.out 0;have hfz89_1:=blk_frozen BK106.out 1;have hfz89_2:=blk_frozen BK106.out 2;have hfz89_3:=blk_frozen BK106.out 3;have hfz89_4:=blk_frozen BK106.out 4;have hfz89_5:=blk_frozen BK106.out 5;have hfz89_6:=blk_frozen BK106.out 6)|(go_at_call 48;(with_reducible refine (spec_l1In.calls ((rd_T50 l0_6 x3_2).f3) (-1) (wrap64 ((l0_3.length : Int) - 1)) false _ A42.out).mono ?_);rintro e w' ⟨rfl,⟨nd,rfl⟩⟩))
              go_meet
              case rel => exact ⟨_,(true),(by first|rfl|(simp;done)|(simp [*];done)),H',⟨by have:=HJ1.out;have:=HK2.out;first|omega|exact Nat.le_refl _⟩,⟨by (with_reducible repeat (first|refine blk_drewN ?_ _|refine blk_drew ?_|refine blk_alloc ?_ _));exact BK106.out⟩,⟨by (with_reducible repeat (first|refine blk_drewN ?_ _|refine blk_drew ?_|refine blk_alloc ?_ _));exact BK116.out⟩,⟨by repeat (first|(with_reducible first|exact HB.out|apply below_alloc|apply pw_below_drewN|apply below_drew1|refine below_set ?_ GE106.out|refine below_set ?_ GE116.out)|exact HB.out)⟩⟩
            ·
             replace c41:=Bool.eq_false_iff.mpr c41
             subst c41
             have H1 : (spec_LsOk.j2 k2 x3_2 true a0_0 a0_1 a0_2 l0_3 a0_4 a0_5 l0_6) = some r:=by rw [if_neg (show ¬ (false = true) by decide)] at H;exact H
             clear H
             have H:=H1
             clear H1
             have H':=Aside0.mk H
             clear H
             have hnb90:=NB116_106.out
             have hnc90:=NB106_116.out
             have hcz91_0 : w37.cell? ⟨gb116,0,none⟩ = some (.bool ((rd_T50 l0_6 x3_2).f0)):=(blk_cell BK116.out 0).trans rfl
             have hcz91_1 : w37.cell? ⟨gb116,1,none⟩ = some (.int .i64 ((rd_T50 l0_6 x3_2).f1)):=(blk_cell BK116.out 1).trans rfl
             have hcz91_2 : w37.cell? ⟨gb116,2,none⟩ = some (.bool ((rd_T50 l0_6 x3_2).f2)):=(blk_cell BK116.out 2).trans rfl
             have hcz91_3 : w37.cell? ⟨gb116,3,none⟩ = some (.int .i64 ((rd_T50 l0_6 x3_2).f3)):=(blk_cell BK116.out 3).trans rfl
             have hcz91_4 : w37.cell? ⟨gb116,4,none⟩ = some (.int .i64 ((rd_T50 l0_6 x3_2).f4)):=(blk_cell BK116.out 4).trans rfl
             have hcz91_5 : w37.cell? ⟨gb116,5,none⟩ = some (.int .i64 ((rd_T50 l0_6 x3_2).f5)):=(blk_cell BK116.out 5).trans rfl
             have hfz91_0:=blk_frozen BK116.out 0
             have hfz91_1:=blk_frozen BK116.out 1
             have hfz91_2:=blk_frozen BK116.out 2
             have hfz91_3:=blk_frozen BK116.out 3
             have hfz91_4:=blk_frozen BK116.out 4
             have hfz91_5:=blk_frozen BK116.out 5
             go_wp2_with (first|((with_reducible refine gate_callee (f:=48) rfl ?_);refine goesL_ (some 79) rfl rfl Try.func48 (by kernel_rfl) rfl #[.int .i64 ((rd_T50 l0_6 x3_2).f1),.int .i64 0,.int .i64 t117] rfl (by (try simp only [List.map_toArray,List.map_cons,List.map_nil]);first|done|rfl|(simp only [List.length_drop,List.length_take];rfl)) ?_;(with_reducible refine (spec_l1In.calls ((rd_T50 l0_6 x3_2).f1) 0 t117 true _ A38.out).mono ?_);rintro e w' ⟨rfl,⟨nd,rfl⟩⟩;refine ⟨_,rfl,?_⟩)|(go_at_call 48;(with_reducible refine (spec_l1In.calls ((rd_T50 l0_6 x3_2).f5) 0 t117 false _ A40.out).mono ?_);rintro e w' ⟨rfl,⟨nd,rfl⟩⟩))
             go_meet
             case rel => exact ⟨_,(true),(by first|rfl|(simp;done)|(simp [*];done)),H',⟨by have:=HJ1.out;have:=HK2.out;first|omega|exact Nat.le_refl _⟩,⟨by (with_reducible repeat (first|refine blk_drewN ?_ _|refine blk_drew ?_|refine blk_alloc ?_ _));exact BK106.out⟩,⟨by (with_reducible repeat (first|refine blk_drewN ?_ _|refine blk_drew ?_|refine blk_alloc ?_ _));exact BK116.out⟩,⟨by repeat (first|(with_reducible first|exact HB.out|apply below_alloc|apply pw_below_drewN|apply below_drew1|refine below_set ?_ GE106.out|refine below_set ?_ GE116.out)|exact HB.out)⟩⟩
           ·
            replace c39:=Bool.eq_false_iff.mpr c39
            subst c39
            have H1 : (spec_LsOk.j2 k2 x3_2 true a0_0 a0_1 a0_2 l0_3 a0_4 a0_5 l0_6) = some r:=by rw [if_neg (show ¬ (false = true) by decide)] at H;exact H
            clear H
            have H:=H1
            clear H1
            have H':=Aside0.mk H
            clear H
            have hnb92:=NB116_106.out
            have hnc92:=NB106_116.out
            have hcz93_0 : w37.cell? ⟨gb116,0,none⟩ = some (.bool ((rd_T50 l0_6 x3_2).f0)):=(blk_cell BK116.out 0).trans rfl
            have hcz93_1 : w37.cell? ⟨gb116,1,none⟩ = some (.int .i64 ((rd_T50 l0_6 x3_2).f1)):=(blk_cell BK116.out 1).trans rfl
            have hcz93_2 : w37.cell? ⟨gb116,2,none⟩ = some (.bool ((rd_T50 l0_6 x3_2).f2)):=(blk_cell BK116.out 2).trans rfl
            have hcz93_3 : w37.cell? ⟨gb116,3,none⟩ = some (.int .i64 ((rd_T50 l0_6 x3_2).f3)):=(blk_cell BK116.out 3).trans rfl
            have hcz93_4 : w37.cell? ⟨gb116,4,none⟩ = some (.int .i64 ((rd_T50 l0_6 x3_2).f4)):=(blk_cell BK116.out 4).trans rfl
            have hcz93_5 : w37.cell? ⟨gb116,5,none⟩ = some (.int .i64 ((rd_T50 l0_6 x3_2).f5)):=(blk_cell BK116.out 5).trans rfl
            have hfz93_0:=blk_frozen BK116.out 0
            have hfz93_1:=blk_frozen BK116.out 1
            have hfz93_2:=blk_frozen BK116.out 2
            have hfz93_3:=blk_frozen BK116.out 3
            have hfz93_4:=blk_frozen BK116.out 4
            have hfz93_5:=blk_frozen BK116.out 5
            go_wp2_with (first|((with_reducible refine gate_callee (f:=48) rfl ?_);refine goesL_ (some 79) rfl rfl Try.func48 (by kernel_rfl) rfl #[.int .i64 ((rd_T50 l0_6 x3_2).f1),.int .i64 0,.int .i64 t117] rfl (by (try simp only [List.map_toArray,List.map_cons,List.map_nil]);first|done|rfl|(simp only [List.length_drop,List.length_take];rfl)) ?_;(with_reducible refine (spec_l1In.calls ((rd_T50 l0_6 x3_2).f1) 0 t117 false _ A38.out).mono ?_);rintro e w' ⟨rfl,⟨nd,rfl⟩⟩;refine ⟨_,rfl,?_⟩))
            go_meet
            case rel => exact ⟨_,(true),(by first|rfl|(simp;done)|(simp [*];done)),H',⟨by have:=HJ1.out;have:=HK2.out;first|omega|exact Nat.le_refl _⟩,⟨by (with_reducible repeat (first|refine blk_drewN ?_ _|refine blk_drew ?_|refine blk_alloc ?_ _));exact BK106.out⟩,⟨by (with_reducible repeat (first|refine blk_drewN ?_ _|refine blk_drew ?_|refine blk_alloc ?_ _));exact BK116.out⟩,⟨by repeat (first|(with_reducible first|exact HB.out|apply below_alloc|apply pw_below_drewN|apply below_drew1|refine below_set ?_ GE106.out|refine below_set ?_ GE116.out)|exact HB.out)⟩⟩
          case rest =>
           clear HC30
           try clear c1
           try clear p1
           try clear q1
           try clear hx1
           try clear c2
           try clear p2
           try clear c3
           try clear c4
           try clear q4
           try clear c5
           try clear c6
           try clear p6
           try clear q6
           try clear c7
           try clear c8
           try clear c9
           try clear c11
           try clear p11
           try clear q11
           try clear hx11
           try clear c12
           try clear c12b0
           try clear c12b1
           try clear c12b2
           try clear c14
           try clear c15
           try clear c23
           try clear c24
           try clear c24b0
           try clear c25
           try clear c25b0
           try clear c27
           try clear c28
           try clear c28b0
           try clear c34
           try clear c39
           try clear c41
           try clear c43
           try clear c45
           try clear q46
           try clear c47
           try clear c48
           try clear q48
           try clear c49
           try clear c50
           try clear c53
           try clear c53b0
           try clear c53b1
           try clear c54
           try clear c54b0
           try clear c54b1
           try clear c55
           try clear c58
           try clear c61
           try clear c64
           try clear c64b0
           try clear c64b1
           try clear p64
           try clear q65
           try clear c66
           try clear c67
           try clear c70
           try clear c70b0
           try clear c70b1
           try clear c71
           try clear c71b0
           try clear c71b1
           try clear c72
           try clear c75
           try clear c78
           try clear c81
           try clear c84
           try clear c87
           try clear c90
           try clear c92
           try clear hcz16_0
           try clear hcz16_1
           try clear hcz16_2
           try clear hcz16_3
           try clear hcz16_4
           try clear hcz16_5
           try clear hcz16_6
           try clear hcz17_0
           try clear hcz17_1
           try clear hcz17_2
           try clear hcz17_3
           try clear hcz17_4
           try clear hcz17_5
           try clear hcz17_6
           try clear hcz18_0
           try clear hcz18_1
           try clear hcz18_2
           try clear hcz18_3
           try clear hcz18_4
           try clear hcz18_5
           try clear hcz18_6
           try clear hcz19_0
           try clear hcz19_1
           try clear hcz19_2
           try clear hcz19_3
           try clear hcz19_4
           try clear hcz19_5
           try clear hcz19_6
           try clear hcz20_0
           try clear hcz20_1
           try clear hcz20_2
           try clear hcz20_3
           try clear hcz20_4
           try clear hcz20_5
           try clear hcz20_6
           try clear hcz21_0
           try clear hcz21_1
           try clear hcz21_2
           try clear hcz21_3
           try clear hcz21_4
           try clear hcz21_5
           try clear hcz21_6
           try clear hcz22_0
           try clear hcz22_1
           try clear hcz22_2
           try clear hcz22_3
           try clear hcz22_4
           try clear hcz22_5
           try clear hcz22_6
           try clear hcz31_0
           try clear hcz31_1
           try clear hcz31_2
           try clear hcz31_3
           try clear hcz31_4
           try clear hcz31_5
           try clear hcz31_6
           try clear hcz32_0
           try clear hcz32_1
           try clear hcz32_2
           try clear hcz32_3
           try clear hcz32_4
           try clear hcz32_5
           try clear hcz32_6
           try clear hcz35_0
           try clear hcz35_1
           try clear hcz35_2
           try clear hcz35_3
           try clear hcz35_4
           try clear hcz35_5
           try clear hcz36_0
           try clear hcz36_1
           try clear hcz36_2
           try clear hcz36_3
           try clear hcz36_4
           try clear hcz36_5
           try clear hcz36_6
           try clear hcz51_0
           try clear hcz51_1
           try clear hcz51_2
           try clear hcz51_3
           try clear hcz51_4
           try clear hcz51_5
           try clear hcz52_0
           try clear hcz52_1
           try clear hcz52_2
           try clear hcz52_3
           try clear hcz52_4
           try clear hcz52_5
           try clear hcz52_6
           try clear hcz56_0
           try clear hcz56_1
           try clear hcz56_2
           try clear hcz56_3
           try clear hcz56_4
           try clear hcz56_5
           try clear hcz57_0
           try clear hcz57_1
           try clear hcz57_2
           try clear hcz57_3
           try clear hcz57_4
           try clear hcz57_5
           try clear hcz57_6
           try clear hcz59_0
           try clear hcz59_1
           try clear hcz59_2
           try clear hcz59_3
           try clear hcz59_4
           try clear hcz59_5
           try clear hcz60_0
           try clear hcz60_1
           try clear hcz60_2
           try clear hcz60_3
           try clear hcz60_4
           try clear hcz60_5
           try clear hcz60_6
           try clear hcz62_0
           try clear hcz62_1
           try clear hcz62_2
           try clear hcz62_3
           try clear hcz62_4
           try clear hcz62_5
           try clear hcz63_0
           try clear hcz63_1
           try clear hcz63_2
           try clear hcz63_3
           try clear hcz63_4
           try clear hcz63_5
           try clear hcz63_6
           try clear hcz68_0
           try clear hcz68_1
           try clear hcz68_2
           try clear hcz68_3
           try clear hcz68_4
           try clear hcz68_5
           try clear hcz69_0
           try clear hcz69_1
           try clear hcz69_2
           try clear hcz69_3
           try clear hcz69_4
           try clear hcz69_5
           try clear hcz69_6
           try clear hcz73_0
           try clear hcz73_1
           try clear hcz73_2
           try clear hcz73_3
           try clear hcz73_4
           try clear hcz73_5
           try clear hcz74_0
           try clear hcz74_1
           try clear hcz74_2
           try clear hcz74_3
           try clear hcz74_4
           try clear hcz74_5
           try clear hcz74_6
           try clear hcz76_0
           try clear hcz76_1
           try clear hcz76_2
           try clear hcz76_3
           try clear hcz76_4
           try clear hcz76_5
           try clear hcz77_0
           try clear hcz77_1
           try clear hcz77_2
           try clear hcz77_3
           try clear hcz77_4
           try clear hcz77_5
           try clear hcz77_6
           try clear hcz79_0
           try clear hcz79_1
           try clear hcz79_2
           try clear hcz79_3
           try clear hcz79_4
           try clear hcz79_5
           try clear hcz80_0
           try clear hcz80_1
           try clear hcz80_2
           try clear hcz80_3
           try clear hcz80_4
           try clear hcz80_5
           try clear hcz80_6
           try clear hcz82_0
           try clear hcz82_1
           try clear hcz82_2
           try clear hcz82_3
           try clear hcz82_4
           try clear hcz82_5
           try clear hcz83_0
           try clear hcz83_1
           try clear hcz83_2
           try clear hcz83_3
           try clear hcz83_4
           try clear hcz83_5
           try clear hcz83_6
           try clear hcz85_0
           try clear hcz85_1
           try clear hcz85_2
           try clear hcz85_3
           try clear hcz85_4
           try clear hcz85_5
           try clear hcz86_0
           try clear hcz86_1
           try clear hcz86_2
           try clear hcz86_3
           try clear hcz86_4
           try clear hcz86_5
           try clear hcz86_6
           try clear hcz88_0
           try clear hcz88_1
           try clear hcz88_2
           try clear hcz88_3
           try clear hcz88_4
           try clear hcz88_5
           try clear hcz89_0
           try clear hcz89_1
           try clear hcz89_2
           try clear hcz89_3
           try clear hcz89_4
           try clear hcz89_5
           try clear hcz89_6
           try clear hcz91_0
           try clear hcz91_1
           try clear hcz91_2
           try clear hcz91_3
           try clear hcz91_4
           try clear hcz91_5
           try clear hcz93_0
           try clear hcz93_1
           try clear hcz93_2
           try clear hcz93_3
           try clear hcz93_4
           try clear hcz93_5
           try clear hfz16_0
           try clear hfz16_1
           try clear hfz16_2
           try clear hfz16_3
           try clear hfz16_4
           try clear hfz16_5
           try clear hfz16_6
           try clear hfz17_0
           try clear hfz17_1
           try clear hfz17_2
           try clear hfz17_3
           try clear hfz17_4
           try clear hfz17_5
           try clear hfz17_6
           try clear hfz18_0
           try clear hfz18_1
           try clear hfz18_2
           try clear hfz18_3
           try clear hfz18_4
           try clear hfz18_5
           try clear hfz18_6
           try clear hfz19_0
           try clear hfz19_1
           try clear hfz19_2
           try clear hfz19_3
           try clear hfz19_4
           try clear hfz19_5
           try clear hfz19_6
           try clear hfz20_0
           try clear hfz20_1
           try clear hfz20_2
           try clear hfz20_3
           try clear hfz20_4
           try clear hfz20_5
           try clear hfz20_6
           try clear hfz21_0
           try clear hfz21_1
           try clear hfz21_2
           try clear hfz21_3
           try clear hfz21_4
           try clear hfz21_5
           try clear hfz21_6
           try clear hfz22_0
           try clear hfz22_1
           try clear hfz22_2
           try clear hfz22_3
           try clear hfz22_4
           try clear hfz22_5
           try clear hfz22_6
           try clear hfz31_0
           try clear hfz31_1
           try clear hfz31_2
           try clear hfz31_3
           try clear hfz31_4
           try clear hfz31_5
           try clear hfz31_6
           try clear hfz32_0
           try clear hfz32_1
           try clear hfz32_2
           try clear hfz32_3
           try clear hfz32_4
           try clear hfz32_5
           try clear hfz32_6
           try clear hfz35_0
           try clear hfz35_1
           try clear hfz35_2
           try clear hfz35_3
           try clear hfz35_4
           try clear hfz35_5
           try clear hfz36_0
           try clear hfz36_1
           try clear hfz36_2
           try clear hfz36_3
           try clear hfz36_4
           try clear hfz36_5
           try clear hfz36_6
           try clear hfz51_0
           try clear hfz51_1
           try clear hfz51_2
           try clear hfz51_3
           try clear hfz51_4
           try clear hfz51_5
           try clear hfz52_0
           try clear hfz52_1
           try clear hfz52_2
           try clear hfz52_3
           try clear hfz52_4
           try clear hfz52_5
           try clear hfz52_6
           try clear hfz56_0
           try clear hfz56_1
           try clear hfz56_2
           try clear hfz56_3
           try clear hfz56_4
           try clear hfz56_5
           try clear hfz57_0
           try clear hfz57_1
           try clear hfz57_2
           try clear hfz57_3
           try clear hfz57_4
           try clear hfz57_5
           try clear hfz57_6
           try clear hfz59_0
           try clear hfz59_1
           try clear hfz59_2
           try clear hfz59_3
           try clear hfz59_4
           try clear hfz59_5
           try clear hfz60_0
           try clear hfz60_1
           try clear hfz60_2
           try clear hfz60_3
           try clear hfz60_4
           try clear hfz60_5
           try clear hfz60_6
           try clear hfz62_0
           try clear hfz62_1
           try clear hfz62_2
           try clear hfz62_3
           try clear hfz62_4
           try clear hfz62_5
           try clear hfz63_0
           try clear hfz63_1
           try clear hfz63_2
           try clear hfz63_3
           try clear hfz63_4
           try clear hfz63_5
           try clear hfz63_6
           try clear hfz68_0
           try clear hfz68_1
           try clear hfz68_2
           try clear hfz68_3
           try clear hfz68_4
           try clear hfz68_5
           try clear hfz69_0
           try clear hfz69_1
           try clear hfz69_2
           try clear hfz69_3
           try clear hfz69_4
           try clear hfz69_5
           try clear hfz69_6
           try clear hfz73_0
           try clear hfz73_1
           try clear hfz73_2
           try clear hfz73_3
           try clear hfz73_4
           try clear hfz73_5
           try clear hfz74_0
           try clear hfz74_1
           try clear hfz74_2
           try clear hfz74_3
           try clear hfz74_4
           try clear hfz74_5
           try clear hfz74_6
           try clear hfz76_0
           try clear hfz76_1
           try clear hfz76_2
           try clear hfz76_3
           try clear hfz76_4
           try clear hfz76_5
           try clear hfz77_0
           try clear hfz77_1
           try clear hfz77_2
           try clear hfz77_3
           try clear hfz77_4
           try clear hfz77_5
           try clear hfz77_6
           try clear hfz79_0
           try clear hfz79_1
           try clear hfz79_2
           try clear hfz79_3
           try clear hfz79_4
           try clear hfz79_5
           try clear hfz80_0
           try clear hfz80_1
           try clear hfz80_2
           try clear hfz80_3
           try clear hfz80_4
           try clear hfz80_5
           try clear hfz80_6
           try clear hfz82_0
           try clear hfz82_1
           try clear hfz82_2
           try clear hfz82_3
           try clear hfz82_4
           try clear hfz82_5
           try clear hfz83_0
           try clear hfz83_1
           try clear hfz83_2
           try clear hfz83_3
           try clear hfz83_4
           try clear hfz83_5
           try clear hfz83_6
           try clear hfz85_0
           try clear hfz85_1
           try clear hfz85_2
           try clear hfz85_3
           try clear hfz85_4
           try clear hfz85_5
           try clear hfz86_0
           try clear hfz86_1
           try clear hfz86_2
           try clear hfz86_3
           try clear hfz86_4
           try clear hfz86_5
           try clear hfz86_6
           try clear hfz88_0
           try clear hfz88_1
           try clear hfz88_2
           try clear hfz88_3
           try clear hfz88_4
           try clear hfz88_5
           try clear hfz89_0
           try clear hfz89_1
           try clear hfz89_2
           try clear hfz89_3
           try clear hfz89_4
           try clear hfz89_5
           try clear hfz89_6
           try clear hfz91_0
           try clear hfz91_1
           try clear hfz91_2
           try clear hfz91_3
           try clear hfz91_4
           try clear hfz91_5
           try clear hfz93_0
           try clear hfz93_1
           try clear hfz93_2
           try clear hfz93_3
           try clear hfz93_4
           try clear hfz93_5
           try clear hx113_0
           try clear hx115_0
           try clear hx115_1
           try clear hx115_2
           try clear hx115_3
           try clear hx115_4
           try clear hx115_5
           try clear p113
           try clear p115
           try clear p2
           try clear p6
           try clear q113
           try clear q115
           obtain ⟨kq,x135_29,rfl,HA,HJ29,BK106,BK116,HB⟩:=hcut
           cases kq with
           | zero => exact absurd HA.out (by simp [spec_LsOk.j2])
           | succ kj29 =>
            have H:=HA.out
            clear HA
            simp only [spec_LsOk.j2] at H
            by_cases c94 : x135_29 = true
            ·
             subst c94
             have H1 : (some false) = some r:=by rw [if_pos rfl] at H;exact H
             clear H
             have H:=H1
             clear H1
             obtain rfl:=Option.some.inj H
             go_wp2
             go_ret
             exact ⟨by first|rfl|(simp [errW_none,errW_some] <;> rfl)|(simp [*,errW_none,errW_some] <;> rfl),by repeat (first|(with_reducible first|exact HB.out|apply below_alloc|apply pw_below_drewN|apply below_drew1|refine below_set ?_ GE106.out|refine below_set ?_ GE116.out)|exact HB.out)⟩
            ·
             replace c94:=Bool.eq_false_iff.mpr c94
             subst c94
             have H1 : (spec_LsOk.l0 kj29 (wrap64 (x3_2 + 1)) a0_0 a0_1 a0_2 l0_3 a0_4 a0_5 l0_6) = some r:=by rw [if_neg (show ¬ (false = true) by decide)] at H;exact H
             clear H
             have H:=H1
             clear H1
             have H':=Aside0.mk H
             clear H
             go_wp2
             go_roundg kj29
             case measure => have:=HJ1.out;have:=HK2.out;have:=HJ29.out;omega
             case rel => exact ⟨(wrap64 (x3_2 + 1)),(by first|rfl|(simp;done)|(simp [*];done)),H',⟨by have:=HJ1.out;have:=HK2.out;have:=HJ29.out;omega⟩,⟨by (with_reducible repeat (first|refine blk_drewN ?_ _|refine blk_drew ?_|refine blk_alloc ?_ _));exact BK106.out⟩,⟨by repeat (first|(with_reducible first|exact HB.out|apply below_alloc|apply pw_below_drewN|apply below_drew1|refine below_set ?_ GE106.out|refine below_set ?_ GE116.out)|exact HB.out)⟩⟩
         ·
          rw [if_neg c28] at H
          exact absurd H (by simp)
        ·
         replace c27:=Bool.eq_false_iff.mpr c27
         subst c27
         have H1 : (some false) = some r:=by rw [if_neg (show ¬ (false = true) by decide)] at H;exact H
         clear H
         have H:=H1
         clear H1
         obtain rfl:=Option.some.inj H
         have hcz95_0 : wr.cell? ⟨gb106,0,none⟩ = some (.int .i64 a0_0):=(blk_cell BK106.out 0).trans rfl
         have hcz95_1 : wr.cell? ⟨gb106,1,none⟩ = some (.int .i64 a0_1):=(blk_cell BK106.out 1).trans rfl
         have hcz95_2 : wr.cell? ⟨gb106,2,none⟩ = some (.int .i64 a0_2):=(blk_cell BK106.out 2).trans rfl
         have hcz95_3 : wr.cell? ⟨gb106,3,none⟩ = some (.slice A0_3 l0_3.length c0_3):=(blk_cell BK106.out 3).trans rfl
         have hcz95_4 : wr.cell? ⟨gb106,4,none⟩ = some (.int .i64 a0_4):=(blk_cell BK106.out 4).trans rfl
         have hcz95_5 : wr.cell? ⟨gb106,5,none⟩ = some (.int .i64 a0_5):=(blk_cell BK106.out 5).trans rfl
         have hcz95_6 : wr.cell? ⟨gb106,6,none⟩ = some (.slice A0_6 l0_6.length c0_6):=(blk_cell BK106.out 6).trans rfl
         have hfz95_0:=blk_frozen BK106.out 0
         have hfz95_1:=blk_frozen BK106.out 1
         have hfz95_2:=blk_frozen BK106.out 2
         have hfz95_3:=blk_frozen BK106.out 3
         have hfz95_4:=blk_frozen BK106.out 4
         have hfz95_5:=blk_frozen BK106.out 5
         have hfz95_6:=blk_frozen BK106.out 6
         have p113 : 0 ≤ (x3_2 : Int):=of_decide_eq_true (by first|(with_reducible assumption)|assumption)
         have q113 : x3_2 < (l0_3.length : Int):=of_decide_eq_true (by first|(with_reducible assumption)|assumption)
         obtain ⟨ad113,e113,hx113_0⟩:=Kd.at_int HR0_3.out x3_2 p113 q113
         cases e113
         replace hx113_0:=(HB.out.cell (World.block_lt_of_cell? w _ hx113_0)).trans hx113_0
         replace p113:=eq_true p113
         replace q113:=eq_true q113
         go_wp2_with (first|((with_reducible refine gate_callee (f:=48) rfl ?_);refine goesL_ (some 66) rfl rfl Try.func48 (by kernel_rfl) rfl #[.int .i64 (rd l0_3 x3_2),.int .i64 50,.int .i64 150] rfl (by (try simp only [List.map_toArray,List.map_cons,List.map_nil]);first|done|rfl|(simp only [List.length_drop,List.length_take];rfl)) ?_;(with_reducible refine (spec_l1In.calls (rd l0_3 x3_2) 50 150 false _ A26.out).mono ?_);rintro e w' ⟨rfl,⟨nd,rfl⟩⟩;refine ⟨_,rfl,?_⟩))
         go_ret
         exact ⟨by first|rfl|(simp [errW_none,errW_some] <;> rfl)|(simp [*,errW_none,errW_some] <;> rfl),by repeat (first|(with_reducible first|exact HB.out|apply below_alloc|apply pw_below_drewN|apply below_drew1|refine below_set ?_ GE106.out)|exact HB.out)⟩
       ·
        rw [if_neg c25] at H
        exact absurd H (by simp)
      ·
       rw [if_neg c24] at H
       have c24b0 : decide (x3_2 < (l0_3.length : Int)) = false:=decide_eq_false c24
       clear c24
       obtain rfl:=Option.some.inj H
       have hcz96_0 : wr.cell? ⟨gb106,0,none⟩ = some (.int .i64 a0_0):=(blk_cell BK106.out 0).trans rfl
       have hcz96_1 : wr.cell? ⟨gb106,1,none⟩ = some (.int .i64 a0_1):=(blk_cell BK106.out 1).trans rfl
       have hcz96_2 : wr.cell? ⟨gb106,2,none⟩ = some (.int .i64 a0_2):=(blk_cell BK106.out 2).trans rfl
       have hcz96_3 : wr.cell? ⟨gb106,3,none⟩ = some (.slice A0_3 l0_3.length c0_3):=(blk_cell BK106.out 3).trans rfl
       have hcz96_4 : wr.cell? ⟨gb106,4,none⟩ = some (.int .i64 a0_4):=(blk_cell BK106.out 4).trans rfl
       have hcz96_5 : wr.cell? ⟨gb106,5,none⟩ = some (.int .i64 a0_5):=(blk_cell BK106.out 5).trans rfl
       have hcz96_6 : wr.cell? ⟨gb106,6,none⟩ = some (.slice A0_6 l0_6.length c0_6):=(blk_cell BK106.out 6).trans rfl
       have hfz96_0:=blk_frozen BK106.out 0
       have hfz96_1:=blk_frozen BK106.out 1
       have hfz96_2:=blk_frozen BK106.out 2
       have hfz96_3:=blk_frozen BK106.out 3
       have hfz96_4:=blk_frozen BK106.out 4
       have hfz96_5:=blk_frozen BK106.out 5
       have hfz96_6:=blk_frozen BK106.out 6
       go_wp2
       go_ret
       exact ⟨by first|rfl|(simp [errW_none,errW_some] <;> rfl)|(simp [*,errW_none,errW_some] <;> rfl),by repeat (first|(with_reducible first|exact HB.out|apply below_alloc|apply pw_below_drewN|apply below_drew1|refine below_set ?_ GE106.out)|exact HB.out)⟩
end Go.Proofs.Ytnldanonpdijgaa.P
