-- Ours: printed or written for this claim; cut to what the theorem needs.
import Derived.Test.YtpngfnhkibkebaaRows
import Derived.Test.YtpngfnhkibkebaaZPx15
import Derived.Test.YtpngfnhkibkebaaZPureFnExactQuotaSet
import Derived.Test.YtpngfnhkibkebaaZR
import Derived.WalkKit
import Derived.ProofKit
import Derived.OpenShut
import Derived.ShutString
import Derived.ChangeOld
import Derived.Below
import Derived.SizedLaws
namespace Go.Proofs.Ytpngfnhkibkebaa.fnExactQuotaSet
open Go.ChangeShapes Go.WideShapes Go.ChangeAt Go.RowKit Go.Proofs.YtpngfnhkibkebaaW.PrintWords Go.Proofs.Ytpngfnhkibkebaa.P
open Go.ChangeMaps (open_string shut_string)
set_option linter.unusedVariables false
theorem own : ownKnob Try.prog.godebug = none:=by kernel_rfl
theorem laidOut : laidOutB Try.prog = true:=by kernel_rfl
set_option maxRecDepth 100000 in
theorem lifted (os : Os) (started : os.Started) (H : Type) (enc : TypeId × Value → H) :
    ReturnsInHanded {} Try.checked os 7 .any (Rows.fnExactQuotaSetSpec.pre6 enc Try.prog Try.f7 Rows.fnExactQuotaSetRow.domain false) (Rows.fnExactQuotaSetSpec.post enc Try.prog Try.f7 false true false false):=by
  refine returnsInHanded_of_change_sized (C:=Try.checked) own started (by kernel_rfl) Try.func7
    (ChangeSpec.witness6 (enc:=enc) (C:=Try.checked) false ⟨#[],#[.agg #[.int .i64 0,.slice none 0 0,.slice none 0 0,.slice none 0 0],.int .i64 0,.int .i64 0,.int .i64 0],[]⟩ 8 (by kernel_rfl) (by kernel_rfl) (by kernel_rfl) (by kernel_rfl)) ?_
  intro W base args ds gs before hval0 hW hcnd hsz0 _
  have hsz : (DataW.weightsEach Try.prog (Try.f7.params.toList ++ Rows.fnExactQuotaSetSpec.plain.varTypes Try.prog) (ds ++ gs)).all (· ≤ reachBytes) = true:=hsz0
  have hval : ∀ (j : Nat) t v,Try.f7.params[j]? = some t → args[j]? = some v → Value.okWide Try.prog W .any base t v:=hval0
  have hW':=hW
  obtain ⟨p,q,hA0,hV,rfl,hfz,hnd⟩:=hW
  have hA : DataW.TrodAll enc Try.prog W 0 (fun _ => true) true Try.f7.params.toList args.toList ds p:=hA0
  rw [Try.params7] at hA hval hsz
  obtain ⟨v0,vs0,d0,ds0,p0,q0,hargs,rfl,rfl,h0,r0⟩:=trodAll_cons hA
  obtain ⟨v1,vs1,d1,ds1,p1,q1,rfl,rfl,rfl,h1,r1⟩:=trodAll_cons r0
  obtain ⟨v2,vs2,d2,ds2,p2,q2,rfl,rfl,rfl,h2,r2⟩:=trodAll_cons r1
  obtain ⟨v3,vs3,d3,ds3,p3,q3,rfl,rfl,rfl,h3,r3⟩:=trodAll_cons r2
  obtain ⟨rfl,rfl,rfl⟩:=trodAll_nil r3
  obtain rfl : args = #[v0,v1,v2,v3]:=by cases args;simp_all
  obtain ⟨rfl,rfl⟩:=trodVars_none hV
  have lt0 : ∀ x ∈ p0,x.block < W.heap.size:=by obtain ⟨m,hm⟩:=h0;exact DataW.trod_lt m _ _ _ hm
  obtain ⟨s0,cs0,rfl,hK0,w0⟩:=R.open_struct Try.underlying24 (R.rdr_struct (fun x : S24 => (x.f0,x.f1,x.f2,x.f3)) (fun a_ => ⟨⟨a_.1,a_.2.1,a_.2.2.1,a_.2.2.2⟩,rfl⟩) Try.underlying24 (by kernel_rfl) (R.rdrFs_cons (off2:=1) (R.rdr_int Try.underlying3) rfl (by kernel_rfl) rfl (R.rdrFs_cons (off2:=2) (R.rdr_slice (B:=8) Try.underlying22 (by kernel_rfl) (by kernel_rfl) (R.rdr_int Try.underlying3)) rfl (by kernel_rfl) rfl (R.rdrFs_cons (off2:=3) (R.rdr_slice (B:=8) Try.underlying22 (by kernel_rfl) (by kernel_rfl) (R.rdr_int Try.underlying3)) rfl (by kernel_rfl) rfl (R.rdrFs_one (R.rdr_slice (B:=8) Try.underlying22 (by kernel_rfl) (by kernel_rfl) (R.rdr_int Try.underlying3)) rfl (by kernel_rfl)))))) (hval 0 24 v0 rfl rfl) h0 (R.each_weight hsz (j:=0) (t:=24) rfl rfl)
  obtain ⟨A0_1,c0_1,A0_2,c0_2,A0_3,c0_3,rfl,hc0_1,hr0_1,hc0_2,hr0_2,hc0_3,hr0_3⟩:=k24_open hK0
  obtain ⟨a1,rfl,rfl,rfl,w1⟩:=open_int Try.underlying3 (hval 1 3 v1 rfl rfl) h1
  obtain ⟨a2,rfl,rfl,rfl,w2⟩:=open_int Try.underlying3 (hval 2 3 v2 rfl rfl) h2
  obtain ⟨a3,rfl,rfl,rfl,w3⟩:=open_int Try.underlying3 (hval 3 3 v3 rfl rfl) h3
  clear hA0 hval0 hsz0 hsz
  obtain ⟨k,h⟩:=Pure.FnExactQuotaSet s0.f0 s0.f1 s0.f2 s0.f3 a1 a2 a3 w0 w1 w2 w3
  refine (laws_FnExactQuotaSet.calls k s0.f0 _ _ s0.f1 _ _ s0.f2 _ _ s0.f3 a1 a2 a3 true W hr0_1 hc0_1 hr0_2 hc0_2 hr0_3 hc0_3 h rfl).mono fun e W' ⟨he,hb_⟩ => ?_
  have bel : Below W.heap.size W W':=hb_
  subst he
  exact ⟨_,rfl,_,_,_,[],_,[],hW',trodAll_mk1 (shut_bool Try.underlying4 _),(trodAll_cons_mk (Below.trod laidOut (by kernel_rfl) (of_decide_eq_true (by kernel_rfl)) h0 bel lt0) (trodAll_cons_mk (shut_int Try.underlying3 w1) (trodAll_cons_mk (shut_int Try.underlying3 w2) (trodAll_cons_mk (shut_int Try.underlying3 w3) trodAll_mk0)))),rfl,bel.frame _,fun h => by cases h⟩
theorem over : Rows.fnExactQuotaSetRow.holds Try.pinned (OpenSpec.ofChange Rows.fnExactQuotaSetSpec) :=
  OpenClaim.holds_of_wide 7 Try.f7 rfl rfl rfl rfl rfl rfl rfl ⟨rfl,rfl,rfl,rfl,rfl⟩ rfl rfl rfl rfl rfl (by kernel_rfl) Try.func7 (by kernel_rfl)
    (of_decide_eq_true (by kernel_rfl)) (by unfold Func.isWrapper;first|(rw [if_pos (by decide +kernel)];kernel_rfl)|(rw [if_neg (by decide +kernel)];exact ⟨rfl,rfl⟩))
    (fun os started H enc _ => lifted os started H enc)
theorem proved : Rows.FnExactQuotaSetSaid:=over
#print axioms proved
end Go.Proofs.Ytpngfnhkibkebaa.fnExactQuotaSet
namespace Go.Proofs.Ytpngfnhkibkebaa
theorem fnExactQuotaSet_holds : Rows.FnExactQuotaSetSaid:=fnExactQuotaSet.proved
end Go.Proofs.Ytpngfnhkibkebaa
