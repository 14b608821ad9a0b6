-- Ours: printed or written for this claim; cut to what the theorem needs.
import Derived.Test.YtipolbckgifnbaaZWWords
import Derived.ChangeArms
import Derived.SizedLaws
import Derived.WideShapes
import Derived.OpenShut
import Derived.ChangeMaps5
set_option linter.unusedVariables false
namespace Go.Proofs.Ytipolbckgifnbaa.R
open Go.RowKit Go.Proofs.YtipolbckgifnbaaW.PrintWords
def Rdr (P : Program) (t : TypeId) {α : Type} (d : Kd α) (wf : α → Prop) : Prop :=
  ∀ {H : Type} (enc : TypeId × Value → H) (W : World) (fuel : Nat) (cs : List Value) (x : DataW H × List MemPlace),
    DataW.trod enc P W 0 (fun _ => true) true fuel t cs = some x → (∀ n ∈ x.1.weights P t, n ≤ reachBytes) → ∃ a, d.K W a cs ∧ wf a
theorem rdr_int {P : Program} {t : TypeId} {k : IntKind} (ht : P.underlying t = some (.int k)) : Rdr P t (Kd.int k) (fun n => (Lit.int k n).wf = true) := by
  intro H enc W fuel cs x h _
  obtain ⟨n, rfl, _, hw⟩ := DataW.trod_int ht h
  exact ⟨n, rfl, hw⟩
theorem rdr_string {P : Program} {t : TypeId} (ht : P.underlying t = some .string) : Rdr P t Kd.string (fun s => s.size ≤ 140737488351232) := by
  intro H enc W fuel cs x h hw
  obtain ⟨s, rfl, rfl, _⟩ := DataW.trod_string ht h
  refine ⟨s, rfl, ?_⟩
  have := hw s.data.toList.length (by simp [DataW.weights])
  simpa [reachBytes] using this
def RdrFs (P : Program) (fs : List Field) (off : Nat) {α : Type} (d : Kd α) (wf : α → Prop) : Prop :=
  ∀ {H : Type} (enc : TypeId × Value → H) (W : World) (n : Nat) (cs : List Value) (xs : List (DataW H × List MemPlace)), xs.length = fs.length → off + d.sz ≤ cs.length →
    (∀ (i : Nat) (f : Field), fs[i]? = some f → DataW.trod enc P W 0 (fun _ => true) true n f.type ((cs.drop f.offset).take (P.cellsOf f.type)) = xs[i]?) →
    (∀ m ∈ DataW.weightsEach P (fs.map (·.type)) (xs.map (·.1)), m ≤ reachBytes) → ∃ a, d.K W a ((cs.drop off).take d.sz) ∧ wf a
theorem rdrFs_one {P : Program} {f : Field} {off : Nat} {α : Type} {d : Kd α} {wf : α → Prop} (r : Rdr P f.type d wf) (ho : f.offset = off) (hsz : P.cellsOf f.type = d.sz) : RdrFs P [f] off d wf := by
  intro H enc W n cs xs hl hc hf hw
  match xs, hl with
  | [x], _ =>
    have h0 := hf 0 f rfl
    rw [ho, hsz] at h0
    exact r enc W n _ x (by simpa using h0) (fun m hm => hw m (by simpa [DataW.weightsEach] using hm))
theorem rdrFs_cons {P : Program} {f : Field} {fs : List Field} {off off2 : Nat} {α β : Type} {d : Kd α} {d2 : Kd β} {wf : α → Prop} {wf2 : β → Prop} (r : Rdr P f.type d wf) (ho : f.offset = off) (hsz : P.cellsOf f.type = d.sz) (h2 : off + d.sz = off2)
    (rs : RdrFs P fs off2 d2 wf2) : RdrFs P (f :: fs) off (Kd.pair d d2) (fun x => wf x.1 ∧ wf2 x.2) := by
  intro H enc W n cs xs hl hc hf hw
  match xs, hl with
  | x :: xs, hl =>
    have h0 := hf 0 f rfl
    rw [ho, hsz] at h0
    have hc' : off + (d.sz + d2.sz) ≤ cs.length := hc
    obtain ⟨a, ha, hwa⟩ := r enc W n _ x (by simpa using h0) (fun m hm => hw m (by simp [DataW.weightsEach]; exact Or.inl hm))
    obtain ⟨b, hb, hwb⟩ := rs enc W n cs xs (by simpa using hl) (by omega) (fun i g hg => hf (i + 1) g hg) (fun m hm => hw m (by simp [DataW.weightsEach]; exact Or.inr (by simpa using hm)))
    refine ⟨(a, b), ⟨_, _, ?_, ha, hb⟩, hwa, hwb⟩
    subst h2
    show (cs.drop off).take (d.sz + d2.sz) = _
    rw [List.take_add, List.drop_drop]
theorem rdr_struct {P : Program} {t : TypeId} {fs : Array Field} {α β : Type} {d : Kd α} {wf : α → Prop} (g : β → α) (hg : ∀ a, ∃ b, g b = a) (ht : P.underlying t = some (.struct fs)) (hsz : P.cellsOf t = d.sz) (rs : RdrFs P fs.toList 0 d wf) :
    Rdr P t (Kd.iso d g) (fun x => wf (g x)) := by
  intro H enc W fuel cs x h hw
  obtain ⟨xs, n, _, rfl, hl, hx, hf⟩ := DataW.trod_struct ht h
  obtain ⟨a, ha, hwa⟩ := rs enc W n cs xs (by simpa using hx) (by omega) (fun i f hi => hf i f (by simpa using hi)) (fun m hm => hw m (by simpa [DataW.weights, ht] using hm))
  obtain ⟨b, rfl⟩ := hg a
  refine ⟨b, ?_, hwa⟩
  have : (cs.drop 0).take d.sz = cs := by rw [List.drop_zero]; exact List.take_of_length_le (by omega)
  rw [this] at ha
  exact ha
theorem each_weight {H : Type} {P : Program} {ts : List TypeId} {ds : List (DataW H)} {j : Nat} {t : TypeId} {d : DataW H} (h : (DataW.weightsEach P ts ds).all (· ≤ reachBytes) = true) (ht : ts[j]? = some t) (hd : ds[j]? = some d) : ∀ n ∈ d.weights P t, n ≤ reachBytes :=
  fun n hn => by simpa using List.all_eq_true.1 h _ (DataW.weights_mem_each ht hd n hn)
theorem open_struct {P : Program} {t : TypeId} {fs : Array Field} {α : Type} {d : Kd α} {wf : α → Prop} (ht : P.underlying t = some (.struct fs)) (r : Rdr P t d wf) {H : Type} {enc : TypeId × Value → H} {W : World} {rr : Reach} {b0 : Nat} {v : Value} {x : DataW H} {ps : List MemPlace}
    (hval : Value.okWide P W rr b0 t v) (h : DataW.Trod enc P W 0 (fun _ => true) true t v x ps) (hw : ∀ n ∈ x.weights P t, n ≤ reachBytes) :
    ∃ (a : α) (cs : List Value), v = .agg cs.toArray ∧ d.K W a cs ∧ wf a := by
  obtain ⟨cs, rfl, _⟩ := Go.WideShapes.okWide_struct ht hval
  obtain ⟨fuel, hf⟩ := h
  obtain ⟨a, hK, hwf⟩ := r enc W fuel _ _ hf hw
  exact ⟨a, cs.toList, by simp, hK, hwf⟩
end Go.Proofs.Ytipolbckgifnbaa.R
