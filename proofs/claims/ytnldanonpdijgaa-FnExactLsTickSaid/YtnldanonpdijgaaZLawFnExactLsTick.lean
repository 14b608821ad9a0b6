-- Ours: printed or written for this claim; cut to what the theorem needs.
import Derived.Test.YtnldanonpdijgaaRows
import Derived.Test.YtnldanonpdijgaaZPx30
import Derived.Test.YtnldanonpdijgaaZPureFnExactLsTick
import Derived.Test.YtnldanonpdijgaaZR
import Derived.WalkKit
import Derived.ProofKit
import Derived.OpenShut
import Derived.ShutString
import Derived.ChangeOld
import Derived.Below
import Derived.SizedLaws
namespace Go.Proofs.Ytnldanonpdijgaa.fnExactLsTick
open Go.ChangeShapes Go.WideShapes Go.ChangeAt Go.RowKit Go.Proofs.YtnldanonpdijgaaW.PrintWords Go.Proofs.Ytnldanonpdijgaa.P
open Go.ChangeMaps (open_string shut_string)
set_option linter.unusedVariables false
theorem own : ownKnob Try.prog.godebug = none:=by kernel_rfl
theorem laidOut : laidOutB Try.prog = true:=by kernel_rfl
set_option maxRecDepth 100000 in
theorem lifted (os : Os) (started : os.Started) (H : Type) (enc : TypeId × Value → H) :
    ReturnsInHanded {} Try.checked os 9 .any (Rows.fnExactLsTickSpec.pre6 enc Try.prog Try.f9 Rows.fnExactLsTickRow.domain false) (Rows.fnExactLsTickSpec.post enc Try.prog Try.f9 false true false false):=by
  refine returnsInHanded_of_change_sized (C:=Try.checked) own started (by kernel_rfl) Try.func9
    (ChangeSpec.witness6 (enc:=enc) (C:=Try.checked) false ⟨#[],#[.agg #[.int .i64 0,.int .i64 0,.int .i64 0,.slice none 0 0,.int .i64 0,.int .i64 0,.slice none 0 0],.int .i64 0],[]⟩ 8 (by kernel_rfl) (by kernel_rfl) (by kernel_rfl) (by kernel_rfl)) ?_
  intro W base args ds gs before hval0 hW hcnd hsz0 _
  have hsz : (DataW.weightsEach Try.prog (Try.f9.params.toList ++ Rows.fnExactLsTickSpec.plain.varTypes Try.prog) (ds ++ gs)).all (· ≤ reachBytes) = true:=hsz0
  have hval : ∀ (j : Nat) t v,Try.f9.params[j]? = some t → args[j]? = some v → Value.okWide Try.prog W .any base t v:=hval0
  have hW':=hW
  obtain ⟨p,q,hA0,hV,rfl,hfz,hnd⟩:=hW
  have hA : DataW.TrodAll enc Try.prog W 0 (fun _ => true) true Try.f9.params.toList args.toList ds p:=hA0
  rw [Try.params9] at hA hval hsz
  obtain ⟨v0,vs0,d0,ds0,p0,q0,hargs,rfl,rfl,h0,r0⟩:=trodAll_cons hA
  obtain ⟨v1,vs1,d1,ds1,p1,q1,rfl,rfl,rfl,h1,r1⟩:=trodAll_cons r0
  obtain ⟨rfl,rfl,rfl⟩:=trodAll_nil r1
  obtain rfl : args = #[v0,v1]:=by cases args;simp_all
  obtain ⟨rfl,rfl⟩:=trodVars_none hV
  have lt0 : ∀ x ∈ p0,x.block < W.heap.size:=by obtain ⟨m,hm⟩:=h0;exact DataW.trod_lt m _ _ _ hm
  obtain ⟨s0,cs0,rfl,hK0,w0⟩:=R.open_struct Try.underlying25 (R.rdr_struct (fun x : S25 => (x.f0,x.f1,x.f2,x.f3,x.f4,x.f5,x.f6)) (fun a_ => ⟨⟨a_.1,a_.2.1,a_.2.2.1,a_.2.2.2.1,a_.2.2.2.2.1,a_.2.2.2.2.2.1,a_.2.2.2.2.2.2⟩,rfl⟩) Try.underlying25 (by kernel_rfl) (R.rdrFs_cons (off2:=1) (R.rdr_int Try.underlying3) rfl (by kernel_rfl) rfl (R.rdrFs_cons (off2:=2) (R.rdr_int Try.underlying3) rfl (by kernel_rfl) rfl (R.rdrFs_cons (off2:=3) (R.rdr_int Try.underlying3) rfl (by kernel_rfl) rfl (R.rdrFs_cons (off2:=4) (R.rdr_slice (B:=8) Try.underlying22 (by kernel_rfl) (by kernel_rfl) (R.rdr_int Try.underlying3)) rfl (by kernel_rfl) rfl (R.rdrFs_cons (off2:=5) (R.rdr_int Try.underlying3) rfl (by kernel_rfl) rfl (R.rdrFs_cons (off2:=6) (R.rdr_int Try.underlying3) rfl (by kernel_rfl) rfl (R.rdrFs_one (R.rdr_slice (B:=48) Try.underlying23 (by kernel_rfl) (by kernel_rfl) (R.rdr_struct (fun x : S68 => (x.f0,x.f1,x.f2,x.f3,x.f4,x.f5)) (fun a_ => ⟨⟨a_.1,a_.2.1,a_.2.2.1,a_.2.2.2.1,a_.2.2.2.2.1,a_.2.2.2.2.2⟩,rfl⟩) Try.underlying68 (by kernel_rfl) (R.rdrFs_cons (off2:=1) (R.rdr_bool Try.underlying4) rfl (by kernel_rfl) rfl (R.rdrFs_cons (off2:=2) (R.rdr_int Try.underlying3) rfl (by kernel_rfl) rfl (R.rdrFs_cons (off2:=3) (R.rdr_bool Try.underlying4) rfl (by kernel_rfl) rfl (R.rdrFs_cons (off2:=4) (R.rdr_int Try.underlying3) rfl (by kernel_rfl) rfl (R.rdrFs_cons (off2:=5) (R.rdr_int Try.underlying3) rfl (by kernel_rfl) rfl (R.rdrFs_one (R.rdr_int Try.underlying3) rfl (by kernel_rfl))))))))) rfl (by kernel_rfl))))))))) (hval 0 25 v0 rfl rfl) h0 (R.each_weight hsz (j:=0) (t:=25) rfl rfl)
  obtain ⟨A0_3,c0_3,A0_6,c0_6,rfl,hc0_3,hr0_3,hc0_6,hr0_6⟩:=k25_open hK0
  obtain ⟨a1,rfl,rfl,rfl,w1⟩:=open_int Try.underlying3 (hval 1 3 v1 rfl rfl) h1
  clear hA0 hval0 hsz0 hsz
  obtain ⟨k,h⟩:=Pure.FnExactLsTick s0.f0 s0.f1 s0.f2 s0.f3 s0.f4 s0.f5 s0.f6 a1 w0 w1
  refine (laws_FnExactLsTick.calls k s0.f0 s0.f1 s0.f2 _ _ s0.f3 s0.f4 s0.f5 _ _ s0.f6 a1 true W hr0_3 hc0_3 hr0_6 hc0_6 h rfl).mono fun e W' ⟨he,hb_⟩ => ?_
  have bel : Below W.heap.size W W':=hb_
  subst he
  exact ⟨_,rfl,_,_,_,[],_,[],hW',trodAll_mk1 (shut_bool Try.underlying4 _),(trodAll_cons_mk (Below.trod laidOut (by kernel_rfl) (of_decide_eq_true (by kernel_rfl)) h0 bel lt0) (trodAll_cons_mk (shut_int Try.underlying3 w1) trodAll_mk0)),rfl,bel.frame _,fun h => by cases h⟩
theorem over : Rows.fnExactLsTickRow.holds Try.pinned (OpenSpec.ofChange Rows.fnExactLsTickSpec) :=
  OpenClaim.holds_of_wide 9 Try.f9 rfl rfl rfl rfl rfl rfl rfl ⟨rfl,rfl,rfl,rfl,rfl⟩ rfl rfl rfl rfl rfl (by kernel_rfl) Try.func9 (by kernel_rfl)
    (of_decide_eq_true (by kernel_rfl)) (by unfold Func.isWrapper;first|(rw [if_pos (by decide +kernel)];kernel_rfl)|(rw [if_neg (by decide +kernel)];exact ⟨rfl,rfl⟩))
    (fun os started H enc _ => lifted os started H enc)
theorem proved : Rows.FnExactLsTickSaid:=over
#print axioms proved
end Go.Proofs.Ytnldanonpdijgaa.fnExactLsTick
namespace Go.Proofs.Ytnldanonpdijgaa
theorem fnExactLsTick_holds : Rows.FnExactLsTickSaid:=fnExactLsTick.proved
end Go.Proofs.Ytnldanonpdijgaa
