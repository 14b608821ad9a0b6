-- Ours: printed or written for this claim; cut to what the theorem needs.
import Derived.Test.YtiejilaahkkhmaaRows
import Derived.Test.YtiejilaahkkhmaaZPx31
import Derived.Test.YtiejilaahkkhmaaZPureFnExactSwap
import Derived.Test.YtiejilaahkkhmaaZR
import Derived.WalkKit
import Derived.ProofKit
import Derived.OpenShut
import Derived.ShutString
import Derived.ChangeOld
import Derived.Below
import Derived.SizedLaws
namespace Go.Proofs.Ytiejilaahkkhmaa.fnExactSwap
open Go.ChangeShapes Go.WideShapes Go.ChangeAt Go.RowKit Go.Proofs.YtiejilaahkkhmaaW.PrintWords Go.Proofs.Ytiejilaahkkhmaa.P
open Go.ChangeMaps (open_string shut_string)
set_option linter.unusedVariables false
theorem own : ownKnob Try.prog.godebug = none:=by kernel_rfl
theorem laidOut : laidOutB Try.prog = true:=by kernel_rfl
set_option maxRecDepth 100000 in
theorem lifted (os : Os) (started : os.Started) (H : Type) (enc : TypeId × Value → H) :
    ReturnsInHanded {} Try.checked os 9 .any (Rows.fnExactSwapSpec.pre6 enc Try.prog Try.f9 Rows.fnExactSwapRow.domain false) (Rows.fnExactSwapSpec.post enc Try.prog Try.f9 false true false false):=by
  refine returnsInHanded_of_change_sized (C:=Try.checked) own started (by kernel_rfl) Try.func9
    (ChangeSpec.witness6 (enc:=enc) (C:=Try.checked) false ⟨#[],#[.agg #[.slice none 0 0,.slice none 0 0,.slice none 0 0],.int .i64 0,.int .i64 0,.int .i64 0,.string ByteArray.empty,.string ByteArray.empty],[]⟩ 8 (by kernel_rfl) (by kernel_rfl) (by kernel_rfl) (by kernel_rfl)) ?_
  intro W base args ds gs before hval0 hW hcnd hsz0 _
  have hsz : (DataW.weightsEach Try.prog (Try.f9.params.toList ++ Rows.fnExactSwapSpec.plain.varTypes Try.prog) (ds ++ gs)).all (· ≤ reachBytes) = true:=hsz0
  have hval : ∀ (j : Nat) t v,Try.f9.params[j]? = some t → args[j]? = some v → Value.okWide Try.prog W .any base t v:=hval0
  have hW':=hW
  obtain ⟨p,q,hA0,hV,rfl,hfz,hnd⟩:=hW
  have hA : DataW.TrodAll enc Try.prog W 0 (fun _ => true) true Try.f9.params.toList args.toList ds p:=hA0
  rw [Try.params9] at hA hval hsz
  obtain ⟨v0,vs0,d0,ds0,p0,q0,hargs,rfl,rfl,h0,r0⟩:=trodAll_cons hA
  obtain ⟨v1,vs1,d1,ds1,p1,q1,rfl,rfl,rfl,h1,r1⟩:=trodAll_cons r0
  obtain ⟨v2,vs2,d2,ds2,p2,q2,rfl,rfl,rfl,h2,r2⟩:=trodAll_cons r1
  obtain ⟨v3,vs3,d3,ds3,p3,q3,rfl,rfl,rfl,h3,r3⟩:=trodAll_cons r2
  obtain ⟨v4,vs4,d4,ds4,p4,q4,rfl,rfl,rfl,h4,r4⟩:=trodAll_cons r3
  obtain ⟨v5,vs5,d5,ds5,p5,q5,rfl,rfl,rfl,h5,r5⟩:=trodAll_cons r4
  obtain ⟨rfl,rfl,rfl⟩:=trodAll_nil r5
  obtain rfl : args = #[v0,v1,v2,v3,v4,v5]:=by cases args;simp_all
  obtain ⟨rfl,rfl⟩:=trodVars_none hV
  have lt0 : ∀ x ∈ p0,x.block < W.heap.size:=by obtain ⟨m,hm⟩:=h0;exact DataW.trod_lt m _ _ _ hm
  obtain ⟨s0,cs0,rfl,hK0,w0⟩:=R.open_struct Try.underlying45 (R.rdr_struct (fun x : S45 => (x.f0,x.f1,x.f2)) (fun a_ => ⟨⟨a_.1,a_.2.1,a_.2.2⟩,rfl⟩) Try.underlying45 (by kernel_rfl) (R.rdrFs_cons (off2:=1) (R.rdr_slice (B:=16) Try.underlying24 (by kernel_rfl) (by kernel_rfl) (R.rdr_string Try.underlying9)) rfl (by kernel_rfl) rfl (R.rdrFs_cons (off2:=2) (R.rdr_slice (B:=8) Try.underlying25 (by kernel_rfl) (by kernel_rfl) (R.rdr_int Try.underlying3)) rfl (by kernel_rfl) rfl (R.rdrFs_one (R.rdr_slice (B:=40) Try.underlying43 (by kernel_rfl) (by kernel_rfl) (R.rdr_struct (fun x : S95 => (x.f0,x.f1,x.f2,x.f3)) (fun a_ => ⟨⟨a_.1,a_.2.1,a_.2.2.1,a_.2.2.2⟩,rfl⟩) Try.underlying95 (by kernel_rfl) (R.rdrFs_cons (off2:=1) (R.rdr_int Try.underlying3) rfl (by kernel_rfl) rfl (R.rdrFs_cons (off2:=2) (R.rdr_int Try.underlying3) rfl (by kernel_rfl) rfl (R.rdrFs_cons (off2:=3) (R.rdr_int Try.underlying3) rfl (by kernel_rfl) rfl (R.rdrFs_one (R.rdr_string Try.underlying9) rfl (by kernel_rfl))))))) rfl (by kernel_rfl))))) (hval 0 45 v0 rfl rfl) h0 (R.each_weight hsz (j:=0) (t:=45) rfl rfl)
  obtain ⟨A0_0,c0_0,A0_1,c0_1,A0_2,c0_2,rfl,hc0_0,hr0_0,hc0_1,hr0_1,hc0_2,hr0_2⟩:=k45_open hK0
  obtain ⟨a1,rfl,rfl,rfl,w1⟩:=open_int Try.underlying3 (hval 1 3 v1 rfl rfl) h1
  obtain ⟨a2,rfl,rfl,rfl,w2⟩:=open_int Try.underlying3 (hval 2 3 v2 rfl rfl) h2
  obtain ⟨a3,rfl,rfl,rfl,w3⟩:=open_int Try.underlying3 (hval 3 3 v3 rfl rfl) h3
  obtain ⟨a4,rfl,rfl,rfl,y4⟩:=open_string Try.underlying9 (hval 4 9 v4 rfl rfl) h4
  have w4 : a4.size ≤ 140737488351232:=by
    have z:=sized_string hsz (j:=4) (t:=9) rfl rfl
    rw [Array.length_toList] at z
    exact z
  obtain ⟨a5,rfl,rfl,rfl,y5⟩:=open_string Try.underlying9 (hval 5 9 v5 rfl rfl) h5
  have w5 : a5.size ≤ 140737488351232:=by
    have z:=sized_string hsz (j:=5) (t:=9) rfl rfl
    rw [Array.length_toList] at z
    exact z
  clear hA0 hval0 hsz0 hsz
  obtain ⟨k,h⟩:=Pure.FnExactSwap s0.f0 s0.f1 s0.f2 a1 a2 a3 a4 a5 w0 w1 w2 w3 w4 w5
  refine (laws_FnExactSwap.calls k _ _ s0.f0 _ _ s0.f1 _ _ s0.f2 a1 a2 a3 a4 a5 true W hr0_0 hc0_0 hr0_1 hc0_1 hr0_2 hc0_2 h rfl).mono fun e W' ⟨he,hb_⟩ => ?_
  have bel : Below W.heap.size W W':=hb_
  subst he
  exact ⟨_,rfl,_,_,_,[],_,[],hW',trodAll_mk1 (shut_bool Try.underlying4 _),(trodAll_cons_mk (Below.trod laidOut (by kernel_rfl) (of_decide_eq_true (by kernel_rfl)) h0 bel lt0) (trodAll_cons_mk (shut_int Try.underlying3 w1) (trodAll_cons_mk (shut_int Try.underlying3 w2) (trodAll_cons_mk (shut_int Try.underlying3 w3) (trodAll_cons_mk (shut_string Try.underlying9 y4) (trodAll_cons_mk (shut_string Try.underlying9 y5) trodAll_mk0)))))),rfl,bel.frame _,fun h => by cases h⟩
theorem over : Rows.fnExactSwapRow.holds Try.pinned (OpenSpec.ofChange Rows.fnExactSwapSpec) :=
  OpenClaim.holds_of_wide 9 Try.f9 rfl rfl rfl rfl rfl rfl rfl ⟨rfl,rfl,rfl,rfl,rfl⟩ rfl rfl rfl rfl rfl (by kernel_rfl) Try.func9 (by kernel_rfl)
    (of_decide_eq_true (by kernel_rfl)) (by unfold Func.isWrapper;first|(rw [if_pos (by decide +kernel)];kernel_rfl)|(rw [if_neg (by decide +kernel)];exact ⟨rfl,rfl⟩))
    (fun os started H enc _ => lifted os started H enc)
theorem proved : Rows.FnExactSwapSaid:=over
#print axioms proved
end Go.Proofs.Ytiejilaahkkhmaa.fnExactSwap
namespace Go.Proofs.Ytiejilaahkkhmaa
theorem fnExactSwap_holds : Rows.FnExactSwapSaid:=fnExactSwap.proved
end Go.Proofs.Ytiejilaahkkhmaa
