-- Ours: printed or written for this claim; cut to what the theorem needs.
import Derived.Test.YtoohnmeapmccjaaZWWords
import Derived.ChangeArms
import Derived.SizedLaws
import Derived.WideShapes
import Derived.OpenShut
import Derived.ChangeMaps5
set_option linter.unusedVariables false
namespace Go.Proofs.Ytoohnmeapmccjaa.R
open Go.RowKit Go.Proofs.YtoohnmeapmccjaaW.PrintWords
def Rdr (P : Program) (t : TypeId) {α : Type} (d : Kd α) (wf : α → Prop) : Prop :=
  ∀ {H : Type} (enc : TypeId × Value → H) (W : World) (fuel : Nat) (cs : List Value) (x : DataW H × List MemPlace),
    DataW.trod enc P W 0 (fun _ => true) true fuel t cs = some x → (∀ n ∈ x.1.weights P t,n ≤ reachBytes) → ∃ a,d.K W a cs ∧ wf a
theorem rdr_int {P : Program} {t : TypeId} {k : IntKind} (ht : P.underlying t = some (.int k)) : Rdr P t (Kd.int k) (fun n => (Lit.int k n).wf = true):=by
  intro H enc W fuel cs x h _
  obtain ⟨n,rfl,_,hw⟩:=DataW.trod_int ht h
  exact ⟨n,rfl,hw⟩
theorem weightsAll_mem {H : Type} {P : Program} {e : TypeId} {d : DataW H} : ∀ {l : List (DataW H)},d ∈ l → ∀ n ∈ d.weights P e,n ∈ DataW.weightsAll P e l
  | y :: l,hd,n,hn => by
    simp only [DataW.weightsAll,List.mem_append]
    rcases List.mem_cons.1 hd with rfl|hd
    · exact Or.inl hn
    · exact Or.inr (weightsAll_mem hd n hn)
theorem rdr_slice {P : Program} {t e : TypeId} {α : Type} {d : Kd α} {wf : α → Prop} {B : Nat} (ht : P.underlying t = some (.slice e)) (hsz : P.cellsOf e = d.sz) (hB : P.bytesOf e = B) (r : Rdr P e d wf) :
    Rdr P t (Kd.slice e d) (fun xs => xs.length * B ≤ 140737488351232 ∧ xs.length ≤ maxLen ∧ ∀ x ∈ xs,wf x):=by
  intro H enc W fuel cs x h hw
  rcases DataW.trod_slice ht h with ⟨rfl,_⟩|⟨a,len,cap,elems,rest,n,_,rfl,rfl,hb,hl,hm,hlen,hel,hsp,_⟩
  · refine ⟨[],⟨none,0,rfl,Nat.le_refl _,rfl,by simp,fun h0 => absurd h0 (by simp)⟩,by simp,by simp,fun x hx => by simp at hx⟩
  · have hsm : (elems.length + rest.length) * B ≤ 140737488351232:=by
      have:=hw ((elems.length + rest.length) * P.bytesOf e) (by simp [DataW.weights,ht])
      rw [hB] at this
      simpa [reachBytes] using this
    have each : ∀ i,i < len → ∃ (p : α) (c : List Value),c.length = d.sz ∧ d.K W p c ∧ wf p ∧ ∀ j u,c[j]? = some u → W.cell? (a.add (i * d.sz + j)) = some u:=by
      intro i hi
      have h1:=hel i hi
      rw [List.getElem?_eq_getElem (by omega : i < elems.length),Option.bind_eq_some_iff,hsz] at h1
      obtain ⟨c,hc,ht2⟩:=h1
      have hwt : ∀ m ∈ (elems[i]'(by omega)).1.weights P e,m ≤ reachBytes:=by
        intro m hmm
        refine hw m ?_
        simp only [DataW.weights,ht,List.mem_cons,List.mem_append]
        refine Or.inr (Or.inl (weightsAll_mem (d:=(elems[i]'(by omega)).1) ?_ m hmm))
        exact List.mem_map.2 ⟨elems[i]'(by omega),List.getElem_mem _,rfl⟩
      obtain ⟨p,hK,hwf⟩:=r enc W n c _ ht2 hwt
      refine ⟨p,c,d.K_len hK,hK,hwf,fun j u hj => ?_⟩
      simp only [World.cells?,Nat.zero_le,if_true] at hc
      have hjl : j < d.sz:=by rw [← d.K_len hK];exact (List.getElem?_eq_some_iff.1 hj).1
      have h3:=mapM_some_get hc j j (by rw [List.getElem?_range hjl])
      rw [hj] at h3
      rw [← h3]
      congr 1
      unfold Addr.add
      by_cases q1 : i * d.sz = 0 <;> by_cases q2 : j = 0 <;> simp [q1,q2,Nat.add_assoc]
    have list : ∀ m,m ≤ len → ∃ xs : List α,xs.length = m ∧ (∀ x ∈ xs,wf x) ∧ ∀ j p,xs[j]? = some p → ∃ c,c.length = d.sz ∧ d.K W p c ∧ ∀ i u,c[i]? = some u → W.cell? (a.add (j * d.sz + i)) = some u:=by
      intro m
      induction m with
      | zero => intro _;exact ⟨[],rfl,fun x hx => by simp at hx,fun j p hj => by simp at hj⟩
      | succ m ih =>
        intro hm2
        obtain ⟨xs,h1,h2,h3⟩:=ih (by omega)
        obtain ⟨p,c,hc1,hc2,hc3,hc4⟩:=each m (by omega)
        refine ⟨xs ++ [p],by simp [h1],?_,?_⟩
        · intro x hx
          rcases List.mem_append.1 hx with hx|hx
          · exact h2 x hx
          · rw [List.mem_singleton.1 hx];exact hc3
        · intro j q hj
          rcases Nat.lt_or_ge j xs.length with hlt|hge
          · rw [List.getElem?_append_left hlt] at hj
            exact h3 j q hj
          · have hj2 : j = m:=by
              have:=(List.getElem?_eq_some_iff.1 hj).1
              simp at this
              omega
            subst hj2
            rw [List.getElem?_append_right (by omega),h1,Nat.sub_self] at hj
            simp at hj
            subst hj
            exact ⟨c,hc1,hc2,hc4⟩
    obtain ⟨xs,hx1,hx2,hx3⟩:=list len (Nat.le_refl _)
    subst hx1
    refine ⟨xs,⟨some a,cap,rfl,hl,rfl,?_,fun _ => ⟨a,rfl,hx3⟩⟩,?_,by omega,hx2⟩
    · simp only [maxLen] at hm;omega
    · exact Nat.le_trans (Nat.mul_le_mul_right _ (by omega)) hsm
theorem each_weight {H : Type} {P : Program} {ts : List TypeId} {ds : List (DataW H)} {j : Nat} {t : TypeId} {d : DataW H} (h : (DataW.weightsEach P ts ds).all (· ≤ reachBytes) = true) (ht : ts[j]? = some t) (hd : ds[j]? = some d) : ∀ n ∈ d.weights P t,n ≤ reachBytes :=
  fun n hn => by simpa using List.all_eq_true.1 h _ (DataW.weights_mem_each ht hd n hn)
theorem open_row {P : Program} {t e : TypeId} {α : Type} {d : Kd α} {wf : List α → Prop} (ht : P.underlying t = some (.slice e)) (r : Rdr P t (Kd.slice e d) wf) {H : Type} {enc : TypeId × Value → H} {W : World} {rr : Reach} {b0 : Nat} {v : Value} {x : DataW H} {ps : List MemPlace}
    (hval : Value.okWide P W rr b0 t v) (h : DataW.Trod enc P W 0 (fun _ => true) true t v x ps) (hw : ∀ n ∈ x.weights P t,n ≤ reachBytes) :
    ∃ (A : Option Addr) (c : Nat) (xs : List α),v = .slice A xs.length c ∧ xs.length ≤ c ∧ Kd.C d W A xs.length xs ∧ wf xs:=by
  obtain ⟨a,l,c,rfl⟩:=Go.WideShapes.okWide_slice ht hval
  obtain ⟨fuel,hf⟩:=h
  obtain ⟨xs,⟨A,c2,he,hl,hC⟩,hwf⟩:=r enc W fuel _ _ hf hw
  simp [Value.cells] at he
  obtain ⟨rfl,rfl,rfl⟩:=he
  exact ⟨a,c,xs,rfl,hl,hC,hwf⟩
end Go.Proofs.Ytoohnmeapmccjaa.R
