-- Ours: printed or written for this claim; cut to what the theorem needs.
import Derived.Test.YtnldanonpdijgaaZWWords
import Derived.ChangeArms
import Derived.SizedLaws
import Derived.WideShapes
import Derived.OpenShut
import Derived.ChangeMaps5
set_option linter.unusedVariables false
namespace Go.Proofs.Ytnldanonpdijgaa.R
open Go.RowKit Go.Proofs.YtnldanonpdijgaaW.PrintWords
def Rdr (P : Program) (t : TypeId) {α : Type} (d : Kd α) (wf : α → Prop) : Prop :=
  ∀ {H : Type} (enc : TypeId × Value → H) (W : World) (fuel : Nat) (cs : List Value) (x : DataW H × List MemPlace),
    DataW.trod enc P W 0 (fun _ => true) true fuel t cs = some x → (∀ n ∈ x.1.weights P t,n ≤ reachBytes) → ∃ a,d.K W a cs ∧ wf a
theorem rdr_int {P : Program} {t : TypeId} {k : IntKind} (ht : P.underlying t = some (.int k)) : Rdr P t (Kd.int k) (fun n => (Lit.int k n).wf = true):=by
  intro H enc W fuel cs x h _
  obtain ⟨n,rfl,_,hw⟩:=DataW.trod_int ht h
  exact ⟨n,rfl,hw⟩
theorem rdr_bool {P : Program} {t : TypeId} (ht : P.underlying t = some .bool) : Rdr P t Kd.bool (fun _ => True):=by
  intro H enc W fuel cs x h _
  obtain ⟨n,rfl,_⟩:=DataW.trod_bool ht h
  exact ⟨n,rfl,trivial⟩
theorem weightsAll_mem {H : Type} {P : Program} {e : TypeId} {d : DataW H} : ∀ {l : List (DataW H)},d ∈ l → ∀ n ∈ d.weights P e,n ∈ DataW.weightsAll P e l
  | y :: l,hd,n,hn => by
    simp only [DataW.weightsAll,List.mem_append]
    rcases List.mem_cons.1 hd with rfl|hd
    · exact Or.inl hn
    · exact Or.inr (weightsAll_mem hd n hn)
theorem rdr_slice {P : Program} {t e : TypeId} {α : Type} {d : Kd α} {wf : α → Prop} {B : Nat} (ht : P.underlying t = some (.slice e)) (hsz : P.cellsOf e = d.sz) (hB : P.bytesOf e = B) (r : Rdr P e d wf) :
    Rdr P t (Kd.slice e d) (fun xs => xs.length * B ≤ 140737488351232 ∧ xs.length ≤ maxLen ∧ ∀ x ∈ xs,wf x):=by
  intro H enc W fuel cs x h hw
  rcases DataW.trod_slice ht h with ⟨rfl,_⟩|⟨a,len,cap,elems,rest,n,_,rfl,rfl,hb,hl,hm,hlen,hel,hsp,_⟩
  · refine ⟨[],⟨none,0,rfl,Nat.le_refl _,rfl,by simp,fun h0 => absurd h0 (by simp)⟩,by simp,by simp,fun x hx => by simp at hx⟩
  · have hsm : (elems.length + rest.length) * B ≤ 140737488351232:=by
      have:=hw ((elems.length + rest.length) * P.bytesOf e) (by simp [DataW.weights,ht])
      rw [hB] at this
      simpa [reachBytes] using this
    have each : ∀ i,i < len → ∃ (p : α) (c : List Value),c.length = d.sz ∧ d.K W p c ∧ wf p ∧ ∀ j u,c[j]? = some u → W.cell? (a.add (i * d.sz + j)) = some u:=by
      intro i hi
      have h1:=hel i hi
      rw [List.getElem?_eq_getElem (by omega : i < elems.length),Option.bind_eq_some_iff,hsz] at h1
      obtain ⟨c,hc,ht2⟩:=h1
      have hwt : ∀ m ∈ (elems[i]'(by omega)).1.weights P e,m ≤ reachBytes:=by
        intro m hmm
        refine hw m ?_
        simp only [DataW.weights,ht,List.mem_cons,List.mem_append]
        refine Or.inr (Or.inl (weightsAll_mem (d:=(elems[i]'(by omega)).1) ?_ m hmm))
        exact List.mem_map.2 ⟨elems[i]'(by omega),List.getElem_mem _,rfl⟩
      obtain ⟨p,hK,hwf⟩:=r enc W n c _ ht2 hwt
      refine ⟨p,c,d.K_len hK,hK,hwf,fun j u hj => ?_⟩
      simp only [World.cells?,Nat.zero_le,if_true] at hc
      have hjl : j < d.sz:=by rw [← d.K_len hK];exact (List.getElem?_eq_some_iff.1 hj).1
      have h3:=mapM_some_get hc j j (by rw [List.getElem?_range hjl])
      rw [hj] at h3
      rw [← h3]
      congr 1
      unfold Addr.add
      by_cases q1 : i * d.sz = 0 <;> by_cases q2 : j = 0 <;> simp [q1,q2,Nat.add_assoc]
    have list : ∀ m,m ≤ len → ∃ xs : List α,xs.length = m ∧ (∀ x ∈ xs,wf x) ∧ ∀ j p,xs[j]? = some p → ∃ c,c.length = d.sz ∧ d.K W p c ∧ ∀ i u,c[i]? = some u → W.cell? (a.add (j * d.sz + i)) = some u:=by
      intro m
      induction m with
      | zero => intro _;exact ⟨[],rfl,fun x hx => by simp at hx,fun j p hj => by simp at hj⟩
      | succ m ih =>
        intro hm2
        obtain ⟨xs,h1,h2,h3⟩:=ih (by omega)
        obtain ⟨p,c,hc1,hc2,hc3,hc4⟩:=each m (by omega)
        refine ⟨xs ++ [p],by simp [h1],?_,?_⟩
        · intro x hx
          rcases List.mem_append.1 hx with hx|hx
          · exact h2 x hx
          · rw [List.mem_singleton.1 hx];exact hc3
        · intro j q hj
          rcases Nat.lt_or_ge j xs.length with hlt|hge
          · rw [List.getElem?_append_left hlt] at hj
            exact h3 j q hj
          · have hj2 : j = m:=by
              have:=(List.getElem?_eq_some_iff.1 hj).1
              simp at this
              omega
            subst hj2
            rw [List.getElem?_append_right (by omega),h1,Nat.sub_self] at hj
            simp at hj
            subst hj
            exact ⟨c,hc1,hc2,hc4⟩
    obtain ⟨xs,hx1,hx2,hx3⟩:=list len (Nat.le_refl _)
    subst hx1
    refine ⟨xs,⟨some a,cap,rfl,hl,rfl,?_,fun _ => ⟨a,rfl,hx3⟩⟩,?_,by omega,hx2⟩
    · simp only [maxLen] at hm;omega
    · exact Nat.le_trans (Nat.mul_le_mul_right _ (by omega)) hsm
def RdrFs (P : Program) (fs : List Field) (off : Nat) {α : Type} (d : Kd α) (wf : α → Prop) : Prop :=
  ∀ {H : Type} (enc : TypeId × Value → H) (W : World) (n : Nat) (cs : List Value) (xs : List (DataW H × List MemPlace)),xs.length = fs.length → off + d.sz ≤ cs.length →
    (∀ (i : Nat) (f : Field),fs[i]? = some f → DataW.trod enc P W 0 (fun _ => true) true n f.type ((cs.drop f.offset).take (P.cellsOf f.type)) = xs[i]?) →
    (∀ m ∈ DataW.weightsEach P (fs.map (·.type)) (xs.map (·.1)),m ≤ reachBytes) → ∃ a,d.K W a ((cs.drop off).take d.sz) ∧ wf a
theorem rdrFs_one {P : Program} {f : Field} {off : Nat} {α : Type} {d : Kd α} {wf : α → Prop} (r : Rdr P f.type d wf) (ho : f.offset = off) (hsz : P.cellsOf f.type = d.sz) : RdrFs P [f] off d wf:=by
  intro H enc W n cs xs hl hc hf hw
  match xs,hl with
  | [x],_ =>
    have h0:=hf 0 f rfl
    rw [ho,hsz] at h0
    exact r enc W n _ x (by simpa using h0) (fun m hm => hw m (by simpa [DataW.weightsEach] using hm))
theorem rdrFs_cons {P : Program} {f : Field} {fs : List Field} {off off2 : Nat} {α β : Type} {d : Kd α} {d2 : Kd β} {wf : α → Prop} {wf2 : β → Prop} (r : Rdr P f.type d wf) (ho : f.offset = off) (hsz : P.cellsOf f.type = d.sz) (h2 : off + d.sz = off2)
    (rs : RdrFs P fs off2 d2 wf2) : RdrFs P (f :: fs) off (Kd.pair d d2) (fun x => wf x.1 ∧ wf2 x.2):=by
  intro H enc W n cs xs hl hc hf hw
  match xs,hl with
  | x :: xs,hl =>
    have h0:=hf 0 f rfl
    rw [ho,hsz] at h0
    have hc' : off + (d.sz + d2.sz) ≤ cs.length:=hc
    obtain ⟨a,ha,hwa⟩:=r enc W n _ x (by simpa using h0) (fun m hm => hw m (by simp [DataW.weightsEach];exact Or.inl hm))
    obtain ⟨b,hb,hwb⟩:=rs enc W n cs xs (by simpa using hl) (by omega) (fun i g hg => hf (i + 1) g hg) (fun m hm => hw m (by simp [DataW.weightsEach];exact Or.inr (by simpa using hm)))
    refine ⟨(a,b),⟨_,_,?_,ha,hb⟩,hwa,hwb⟩
    subst h2
    show (cs.drop off).take (d.sz + d2.sz) = _
    rw [List.take_add,List.drop_drop]
theorem rdr_struct {P : Program} {t : TypeId} {fs : Array Field} {α β : Type} {d : Kd α} {wf : α → Prop} (g : β → α) (hg : ∀ a,∃ b,g b = a) (ht : P.underlying t = some (.struct fs)) (hsz : P.cellsOf t = d.sz) (rs : RdrFs P fs.toList 0 d wf) :
    Rdr P t (Kd.iso d g) (fun x => wf (g x)):=by
  intro H enc W fuel cs x h hw
  obtain ⟨xs,n,_,rfl,hl,hx,hf⟩:=DataW.trod_struct ht h
  obtain ⟨a,ha,hwa⟩:=rs enc W n cs xs (by simpa using hx) (by omega) (fun i f hi => hf i f (by simpa using hi)) (fun m hm => hw m (by simpa [DataW.weights,ht] using hm))
  obtain ⟨b,rfl⟩:=hg a
  refine ⟨b,?_,hwa⟩
  have : (cs.drop 0).take d.sz = cs:=by rw [List.drop_zero];exact List.take_of_length_le (by omega)
  rw [this] at ha
  exact ha
theorem each_weight {H : Type} {P : Program} {ts : List TypeId} {ds : List (DataW H)} {j : Nat} {t : TypeId} {d : DataW H} (h : (DataW.weightsEach P ts ds).all (· ≤ reachBytes) = true) (ht : ts[j]? = some t) (hd : ds[j]? = some d) : ∀ n ∈ d.weights P t,n ≤ reachBytes :=
  fun n hn => by simpa using List.all_eq_true.1 h _ (DataW.weights_mem_each ht hd n hn)
theorem open_struct {P : Program} {t : TypeId} {fs : Array Field} {α : Type} {d : Kd α} {wf : α → Prop} (ht : P.underlying t = some (.struct fs)) (r : Rdr P t d wf) {H : Type} {enc : TypeId × Value → H} {W : World} {rr : Reach} {b0 : Nat} {v : Value} {x : DataW H} {ps : List MemPlace}
    (hval : Value.okWide P W rr b0 t v) (h : DataW.Trod enc P W 0 (fun _ => true) true t v x ps) (hw : ∀ n ∈ x.weights P t,n ≤ reachBytes) :
    ∃ (a : α) (cs : List Value),v = .agg cs.toArray ∧ d.K W a cs ∧ wf a:=by
  obtain ⟨cs,rfl,_⟩:=Go.WideShapes.okWide_struct ht hval
  obtain ⟨fuel,hf⟩:=h
  obtain ⟨a,hK,hwf⟩:=r enc W fuel _ _ hf hw
  exact ⟨a,cs.toList,by simp,hK,hwf⟩
end Go.Proofs.Ytnldanonpdijgaa.R
