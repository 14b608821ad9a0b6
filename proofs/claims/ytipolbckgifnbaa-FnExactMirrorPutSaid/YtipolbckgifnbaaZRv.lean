-- Ours: printed or written for this claim; cut to what the theorem needs.
import Derived.Test.YtipolbckgifnbaaZPx5
import Derived.Test.YtipolbckgifnbaaZPx6
import Derived.Test.YtipolbckgifnbaaZFix
set_option linter.unusedVariables false
namespace Go.Proofs.Ytipolbckgifnbaa.L
open Go.RowKit Go.Proofs.Ytipolbckgifnbaa.P Go.Proofs.YtipolbckgifnbaaW.PrintWords Go.Proofs.YtipolbckgifnbaaW.PrintLast Go.Proofs.YtipolbckgifnbaaW.PrintMore Go.Proofs.Ytipolbckgifnbaa.U
theorem loop_eq (s : ByteArray) : ∀ (d i : Nat) (r : List UInt8),i + d = s.size → ByteArray.toList.loop s i r = r.reverse ++ s.data.toList.drop i:=by
  intro d
  induction d with
  | zero =>
    intro i r h
    rw [ByteArray.toList.loop,if_neg (by omega),List.drop_of_length_le (by rw [data_length];omega)]
    simp
  | succ d ih =>
    intro i r h
    have hl : i < s.data.toList.length:=by rw [data_length];omega
    rw [ByteArray.toList.loop,if_pos (by omega),ih (i + 1) _ (by omega),List.drop_eq_getElem_cons hl]
    have e : s.get! i = s.data.toList[i]:=by
      have hs : i < s.data.size:=by simpa using hl
      show s.data.get!Internal i = _
      simp [Array.get!Internal,Array.getD]
      rw [dif_pos (show i < s.size from hs)]
    simp [e]
theorem toList_eq (s : ByteArray) : s.toList = s.data.toList:=by
  unfold ByteArray.toList
  rw [loop_eq s s.size 0 [] (by omega)]
  rfl
theorem toList_inj {a b : ByteArray} (h : a.toList = b.toList) : a = b:=by
  rw [toList_eq,toList_eq] at h
  obtain ⟨⟨x⟩⟩:=a
  obtain ⟨⟨y⟩⟩:=b
  simp at h
  rw [h]
theorem bytesOf_length (s : ByteArray) : (bytesOf s).length = s.size:=by unfold bytesOf;rw [List.length_map,data_length]
theorem bytesOf_get (s : ByteArray) (i : Nat) (h : i < (bytesOf s).length) : (bytesOf s)[i] = bt s (i : Int):=by
  have h2 : i < s.size:=by rw [bytesOf_length] at h;exact h
  simp only [bytesOf,List.getElem_map,Array.getElem_toList]
  unfold bt
  rw [dif_pos (by simpa using h2)]
  rfl
theorem bytesOf_range (s : ByteArray) : ∀ x ∈ bytesOf s,0 ≤ x ∧ x < 256:=by
  intro x hx
  unfold bytesOf at hx
  obtain ⟨b,_,rfl⟩:=List.mem_map.mp hx
  have:=b.toNat_lt
  omega
def numL : List Int → Int
  | [] => 0
  | b :: t => b % 128 + 128 * numL t
def can : List Int → Bool
  | [] => false
  | [b] => decide (b < 128)
  | b :: c :: t => decide (b ≥ 128) && (numL (c :: t) != 0 && can (c :: t))
theorem numL_nonneg : ∀ L,0 ≤ numL L
  | [] => by simp [numL]
  | b :: t => by have:=numL_nonneg t;simp only [numL];omega
theorem numL_lt : ∀ L,numL L < 128 ^ L.length
  | [] => by simp [numL]
  | b :: t => by
    have:=numL_lt t
    simp only [numL,List.length_cons]
    rw [Int.pow_succ]
    omega
theorem numL_app : ∀ (P Q : List Int),numL (P ++ Q) = numL P + 128 ^ P.length * numL Q
  | [],Q => by simp [numL]
  | b :: t,Q => by
    simp only [List.cons_append,numL,List.length_cons,numL_app t Q,Int.pow_succ]
    rw [Int.mul_add,Int.mul_comm (128 ^ t.length) 128,Int.mul_assoc]
    omega
theorem can_cons (p : Int) : ∀ (L : List Int),L ≠ [] → can (p :: L) = (decide (p ≥ 128) && (numL L != 0 && can L))
  | [],h => absurd rfl h
  | c :: t,_ => rfl
theorem can_low (c : Int) (t : List Int) (hc : c < 128) (ht : t ≠ []) : ∀ P : List Int,can (P ++ c :: t) = false
  | [] => by
    rw [List.nil_append,can_cons c t ht]
    simp
    intro h;omega
  | p :: P => by
    rw [List.cons_append,can_cons p _ (by simp),can_low c t hc ht P]
    simp
theorem pow_pos (n : Nat) : (0 : Int) < 128 ^ n:=by
  induction n with
  | zero => simp
  | succ n ih => rw [Int.pow_succ];omega
theorem can_app (b : Int) (hb0 : 0 ≤ b) : ∀ P : List Int,(∀ x ∈ P,x ≥ 128) → can (P ++ [b]) = (decide (b < 128) && (decide (P = []) || b != 0))
  | [],_ => by simp [can]
  | [p],h => by
    have hp:=h p (by simp)
    rw [List.cons_append,List.nil_append,can_cons p [b] (by simp)]
    simp only [numL,can]
    by_cases h1 : b < 128
    · by_cases h2 : b = 0
      · subst h2;simp
      · have e1 : (b % 128 + 128 * 0 != 0) = true:=by simp;omega
        have e2 : (b != 0) = true:=by simpa using h2
        rw [e1,e2];simp [h1,hp]
    · simp [h1]
  | p :: q :: P,h => by
    have hp:=h p (by simp)
    have ih:=can_app b hb0 (q :: P) (fun x hx => h x (by simp [hx]))
    rw [List.cons_append,can_cons p _ (by simp),ih]
    by_cases h1 : b < 128
    · by_cases h2 : b = 0
      · subst h2;simp
      · have e2 : (b != 0) = true:=by simpa using h2
        have hn:=numL_nonneg (q :: P)
        have hpp:=pow_pos (q :: P).length
        have e1 : (numL (q :: P ++ [b]) != 0) = true:=by
          rw [numL_app]
          have : 0 < 128 ^ (q :: P).length * numL [b]:=Int.mul_pos hpp (by simp only [numL];omega)
          simp only [bne_iff_ne]
          omega
        rw [e1,e2];simp [h1,hp]
    · simp [h1]
def rdV : List Int → Nat → Int → Int × Int
  | [],_,_ => (0,0)
  | b :: t,i,acc => if b < 128 then (if b = 0 ∧ 0 < i then (0,0) else (acc + (b % 128) * 128 ^ i,(i : Int) + 1)) else rdV t (i + 1) (acc + (b % 128) * 128 ^ i)
def rsV (L : List Int) : Nat → Nat → Int × Int
  | 0,_ => (0,0)
  | d + 1,n => if n ≤ L.length then (if can (L.take n) = true then (numL (L.take n),(n : Int)) else rsV L d (n + 1)) else (0,0)
theorem rs_dead (P : List Int) (b : Int) (t : List Int) (hb : b < 128) : ∀ (d n : Nat),P.length + 2 ≤ n → rsV (P ++ b :: t) d n = (0,0)
  | 0,_,_ => rfl
  | d + 1,n,hn => by
    unfold rsV
    split
    · rename_i hle
      have e : (P ++ b :: t).take n = P ++ b :: t.take (n - P.length - 1):=by
        rw [List.take_append,List.take_of_length_le (by omega),show n - P.length = (n - P.length - 1) + 1 by omega,List.take_succ_cons]
        congr 2
      rw [e,can_low b _ hb (by
        intro hnil
        have:=congrArg List.length hnil
        rw [List.length_take] at this
        simp at hle
        simp only [List.length_nil] at this
        omega) P,if_neg (by simp)]
      exact rs_dead P b t hb d (n + 1) (by omega)
    · rfl
theorem rs_rd : ∀ (T P : List Int) (d : Nat),(∀ x ∈ P,x ≥ 128) → (∀ x ∈ T,0 ≤ x ∧ x < 256) → T.length ≤ d → rsV (P ++ T) d (P.length + 1) = rdV T P.length (numL P)
  | [],P,d,hP,hT,hd => by
    cases d with
    | zero => rfl
    | succ d =>
      unfold rsV rdV
      rw [if_neg (by simp)]
  | b :: t,P,0,hP,hT,hd => by simp at hd
  | b :: t,P,d + 1,hP,hT,hd => by
    have hb:=hT b (by simp)
    have e : (P ++ b :: t).take (P.length + 1) = P ++ [b]:=by
      rw [List.take_append,List.take_of_length_le (by omega),show P.length + 1 - P.length = 0 + 1 by omega,List.take_succ_cons,List.take_zero]
    unfold rsV rdV
    rw [if_pos (by simp),e,can_app b hb.1 P hP]
    by_cases h1 : b < 128
    · rw [if_pos h1]
      by_cases h2 : b = 0 ∧ 0 < P.length
      · have hne : P ≠ []:=by intro hn;rw [hn] at h2;simp at h2
        rw [if_pos h2,if_neg (by simp [h2.1,hne])]
        exact rs_dead P b t h1 d _ (by omega)
      · rw [if_neg h2,if_pos (by
          simp only [Bool.and_eq_true,decide_eq_true_eq,Bool.or_eq_true,bne_iff_ne]
          refine ⟨h1,?_⟩
          by_cases hb0 : b = 0
          · left
            have : ¬ 0 < P.length:=fun h => h2 ⟨hb0,h⟩
            exact List.length_eq_zero_iff.mp (by omega)
          · exact Or.inr hb0)]
        rw [numL_app]
        simp only [numL,Int.mul_zero,Int.add_zero]
        rw [Int.mul_comm (128 ^ P.length)]
        simp
    · rw [if_neg h1,if_neg (by simp [h1])]
      have ih:=rs_rd t (P ++ [b]) d (by intro x hx;simp at hx;rcases hx with hx|hx;exact hP x hx;omega) (fun x hx => hT x (by simp [hx])) (by simpa using hd)
      rw [numL_app] at ih
      simp only [List.append_assoc,List.cons_append,List.nil_append,List.length_append,List.length_cons,List.length_nil,numL,Int.mul_zero,Int.add_zero] at ih
      rw [Int.mul_comm (128 ^ P.length)] at ih
      exact ih
def rvV (s : ByteArray) : Int × Int:=rdV ((bytesOf s).take 7) 0 0
theorem rv_rs (s : ByteArray) : rsV ((bytesOf s).take 7) 7 1 = rvV s:=by
  have:=rs_rd ((bytesOf s).take 7) [] 7 (by simp) (fun x hx => bytesOf_range s x (List.mem_of_mem_take hx)) (by simp;omega)
  unfold rvV
  simpa [numL] using this
theorem rd_bound : ∀ (L : List Int) (i : Nat) (acc : Int),(0 ≤ (rdV L i acc).2 ∧ (rdV L i acc).2 ≤ (i : Int) + L.length)
  | [],i,acc => by simp [rdV]
  | b :: t,i,acc => by
    have:=rd_bound t (i + 1) (acc + (b % 128) * 128 ^ i)
    unfold rdV
    split
    · split <;> simp <;> omega
    · simp at this ⊢;omega
theorem rv_bound (s : ByteArray) : 0 ≤ (rvV s).2 ∧ (rvV s).2 ≤ (s.size : Int):=by
  have:=rd_bound ((bytesOf s).take 7) 0 0
  unfold rvV
  rw [List.length_take,bytesOf_length] at this
  omega
theorem varGo_can : ∀ (m : Nat) (L : List Int),L ≠ [] → L.length ≤ m + 1 → (∀ x ∈ L,0 ≤ x ∧ x < 256) → (varGo m (numL L) = L ↔ can L = true)
  | m,[],h,_,_ => absurd rfl h
  | m,[b],_,_,hb => by
    have hb:=hb b (by simp)
    have e : varGo m (numL [b]) = [b % 128]:=by
      simp only [numL]
      cases m with
      | zero => simp only [varGo];congr 1;omega
      | succ m => simp only [varGo];rw [if_neg (by omega)];congr 1;omega
    rw [e]
    simp only [can,List.cons.injEq,and_true,decide_eq_true_eq]
    omega
  | 0,b :: c :: t,_,h,_ => by simp at h
  | m + 1,b :: c :: t,_,h,hb => by
    have hb0:=hb b (by simp)
    have hn:=numL_nonneg (c :: t)
    rw [can_cons b (c :: t) (by simp)]
    have e : numL (b :: c :: t) = b % 128 + 128 * numL (c :: t):=rfl
    by_cases hz : numL (c :: t) = 0
    · rw [e,hz]
      simp only [varGo]
      rw [if_neg (by omega)]
      simp
    · have ih:=varGo_can m (c :: t) (by simp) (by simpa using h) (fun x hx => hb x (by simp [hx]))
      rw [e]
      simp only [varGo]
      rw [if_pos (by omega),show (b % 128 + 128 * numL (c :: t)) % 128 = b % 128 by omega,show (b % 128 + 128 * numL (c :: t)) / 128 = numL (c :: t) by omega]
      simp only [Bool.and_eq_true,decide_eq_true_eq,bne_iff_ne,List.cons.injEq]
      rw [← ih]
      constructor
      · rintro ⟨h1,h2⟩
        exact ⟨by omega,hz,by simpa using h2⟩
      · rintro ⟨h1,_,h2⟩
        exact ⟨by omega,by simpa using h2⟩
theorem varGo_range : ∀ (m : Nat) (x : Int),0 ≤ x → ∀ y ∈ varGo m x,0 ≤ y ∧ y < 256
  | 0,x,h,y,hy => by simp [varGo] at hy;omega
  | m + 1,x,h,y,hy => by
    unfold varGo at hy
    split at hy
    · simp at hy
      rcases hy with hy|hy
      · omega
      · exact varGo_range m (x / 128) (by omega) y hy
    · simp at hy;omega
theorem str_bytes (xs : List Int) (h : ∀ x ∈ xs,0 ≤ x ∧ x < 256) : bytesOf (strOfNums xs) = xs:=by
  unfold bytesOf strOfNums
  simp only [List.map_map]
  conv => rhs;rw [← List.map_id xs]
  apply List.map_congr_left
  intro x hx
  have:=h x hx
  simp
  omega
theorem bytesOf_inj {a b : ByteArray} (h : bytesOf a = bytesOf b) : a = b:=by
  have e : a.data.toList = b.data.toList:=by
    have:=congrArg (List.map fun n : Int => UInt8.ofNat n.toNat) h
    unfold bytesOf at this
    simpa [List.map_map,Function.comp_def] using this
  obtain ⟨⟨x⟩⟩:=a
  obtain ⟨⟨y⟩⟩:=b
  simp at e
  rw [e]
theorem bytesOf_extract (s : ByteArray) (n : Nat) : bytesOf (s.extract 0 n) = (bytesOf s).take n:=by
  unfold bytesOf
  rw [ByteArray.data_extract]
  simp [List.map_take]
theorem var_iff (s : ByteArray) (n : Nat) (h1 : 1 ≤ n) (h7 : n ≤ 7) (hs : n ≤ s.size) : ((varV (numL ((bytesOf s).take n))).toList = (s.extract 0 n).toList) ↔ can ((bytesOf s).take n) = true:=by
  have hL : ((bytesOf s).take n).length = n:=by rw [List.length_take,bytesOf_length];omega
  have hr : ∀ x ∈ (bytesOf s).take n,0 ≤ x ∧ x < 256:=fun x hx => bytesOf_range s x (List.mem_of_mem_take hx)
  have hn:=numL_nonneg ((bytesOf s).take n)
  have hlt:=numL_lt ((bytesOf s).take n)
  rw [hL] at hlt
  have hp : (128 : Int) ^ n ≤ 562949953421312:=by
    have : ∀ m : Fin 8,(128 : Int) ^ m.val ≤ 562949953421312:=by decide
    exact this ⟨n,by omega⟩
  rw [← varGo_can 7 _ (by intro hnil;rw [hnil] at hL;simp at hL;omega) (by omega) hr]
  unfold varV
  rw [if_pos ⟨hn,by omega⟩]
  constructor
  · intro h
    have h2:=congrArg bytesOf (toList_inj h)
    rwa [str_bytes _ (varGo_range 7 _ hn),bytesOf_extract] at h2
  · intro h
    congr 1
    apply bytesOf_inj
    rw [str_bytes _ (varGo_range 7 _ hn),bytesOf_extract,h]
theorem horner (L : List Int) (j : Nat) (h : j < L.length) : numL (L.drop j) = numL (L.drop (j + 1)) * 128 + L[j] % 128:=by
  rw [List.drop_eq_getElem_cons h]
  simp only [numL]
  omega
theorem spec_l1_ev (s : ByteArray) (n : Nat) (h1 : 1 ≤ n) (h7 : n ≤ 7) (hs : n ≤ s.size) (hsz : s.size ≤ 1048576) (r : Int × Int)
    (next : ¬ can ((bytesOf s).take n) = true → Ev (fun k => spec_ReadVar.l0 k s ((n + 1 : Nat) : Int)) r) (good : can ((bytesOf s).take n) = true → r = (numL ((bytesOf s).take n),(n : Int))) :
    ∀ (j : Nat),j ≤ n → Ev (fun k => spec_ReadVar.l1 k s (n : Int) (numL (((bytesOf s).take n).drop j)) ((j : Int) - 1)) r:=by
  have hL : ((bytesOf s).take n).length = n:=by rw [List.length_take,bytesOf_length];omega
  have hp : (128 : Int) ^ n ≤ 562949953421312:=by
    have : ∀ m : Fin 8,(128 : Int) ^ m.val ≤ 562949953421312:=by decide
    exact this ⟨n,by omega⟩
  intro j
  induction j with
  | zero =>
    intro hj
    refine Ev.succ ?_
    simp only [spec_ReadVar.l1]
    refine Ev.neg (by omega) (Ev.bind (spec_Var_ev _) (Ev.pos (by omega) (Ev.pos (by omega) ?_)))
    rw [List.drop_zero,Int.toNat_natCast]
    by_cases hc : can ((bytesOf s).take n) = true
    · exact Ev.pos ((var_iff s n h1 h7 hs).mpr hc) (Ev.some (good hc).symm)
    · refine Ev.neg (fun h => hc ((var_iff s n h1 h7 hs).mp h)) ?_
      rw [show wrap64 ((n : Int) + 1) = ((n + 1 : Nat) : Int) by rw [wrap_id (by omega) (by omega)];omega]
      exact next hc
  | succ j ih =>
    intro hj
    refine Ev.succ ?_
    simp only [spec_ReadVar.l1]
    have hj2 : j < ((bytesOf s).take n).length:=by omega
    have hg : ((bytesOf s).take n)[j] = bt s (j : Int):=by
      rw [List.getElem_take]
      exact bytesOf_get s j _
    have hh:=horner ((bytesOf s).take n) j hj2
    rw [hg] at hh
    have h0:=numL_nonneg (((bytesOf s).take n).drop (j + 1))
    have hlt:=numL_lt (((bytesOf s).take n).drop (j + 1))
    have hle : (128 : Int) ^ (((bytesOf s).take n).drop (j + 1)).length ≤ 562949953421312:=by
      have : ∀ m : Fin 8,(128 : Int) ^ m.val ≤ 562949953421312:=by decide
      exact this ⟨(((bytesOf s).take n).drop (j + 1)).length,by rw [List.length_drop,hL];omega⟩
    have hb:=bt_range s (j : Int)
    rw [show (((j + 1 : Nat) : Int) - 1) = (j : Int) by omega]
    refine Ev.pos (by omega) (Ev.pos (by omega) (Ev.pos (by omega) ?_))
    rw [wrap_id (i:=bt s (j : Int)) (by omega) (by omega),Int.tmod_eq_emod_of_nonneg (by omega),wrap_id (i:=numL (((bytesOf s).take n).drop (j + 1)) * 128) (by omega) (by omega),wrap_id (i:=numL (((bytesOf s).take n).drop (j + 1)) * 128 + bt s (j : Int) % 128) (by omega) (by omega),wrap_id (i:=(j : Int) - 1) (by omega) (by omega),← hh]
    exact ih (by omega)
theorem spec_ReadVar_ev (s : ByteArray) (hsz : s.size ≤ 1048576) : Ev (fun k => spec_ReadVar.f k s) (rvV s):=by
  have hF : ∀ i,Ev (fun k => spec_ReadVar.j1 k s i false) (0,0):=fun i => Ev.succ (by simp only [spec_ReadVar.j1];exact Ev.neg (by decide) (Ev.some rfl))
  have hll : ((bytesOf s).take 7).length = min 7 s.size:=by rw [List.length_take,bytesOf_length]
  unfold spec_ReadVar.f
  rw [← rv_rs]
  have key : ∀ (d n : Nat),n + d = 8 → 1 ≤ n → Ev (fun k => spec_ReadVar.l0 k s (n : Int)) (rsV ((bytesOf s).take 7) d n):=by
    intro d
    induction d with
    | zero =>
      intro n hn h1
      refine Ev.succ ?_
      simp only [spec_ReadVar.l0]
      exact Ev.neg (by omega) (hF _)
    | succ d ih =>
      intro n hn h1
      refine Ev.succ ?_
      simp only [spec_ReadVar.l0]
      refine Ev.pos (by omega) ?_
      unfold rsV
      by_cases hs : n ≤ s.size
      · have et : ((bytesOf s).take 7).take n = (bytesOf s).take n:=by rw [List.take_take,Nat.min_eq_left (by omega)]
        rw [if_pos (by omega),et,show decide ((n : Int) ≤ (s.size : Int)) = true by simpa using hs]
        refine Ev.succ ?_
        simp only [spec_ReadVar.j1]
        refine Ev.pos trivial ?_
        rw [wrap_id (i:=(n : Int) - 1) (by omega) (by omega)]
        have:=spec_l1_ev s n h1 (by omega) hs hsz (if can ((bytesOf s).take n) = true then (numL ((bytesOf s).take n),(n : Int)) else rsV ((bytesOf s).take 7) d (n + 1)) (fun hc => by rw [if_neg hc];exact ih (n + 1) (by omega) (by omega)) (fun hc => if_pos hc) n (Nat.le_refl _)
        rw [List.drop_of_length_le (by rw [List.length_take];omega)] at this
        exact this
      · rw [if_neg (by omega),show decide ((n : Int) ≤ (s.size : Int)) = false by simp;omega]
        exact hF _
  exact key 7 1 rfl (Nat.le_refl _)
theorem or_comm (k : IntKind) (x y : Int) : Go.bits .or k x y = Go.bits .or k y x:=by
  unfold Go.bits
  simp only [BitVec.or_comm]
theorem wraps_i64b (n : Int) (h₀ : 0 ≤ n) (h₁ : n < 2 ^ 62) : IntKind.i64.wrap n = n:=by rw [Go.IntKind.wrap_i64];omega
theorem and127 (b : Int) (h0 : 0 ≤ b) (h1 : b < 256) : Go.bits .and .u8 b 127 = b % 128:=Go.bits_mask .u8 8 (by decide) Go.wraps_u8 7 (by decide) b h0 h1
theorem orV (acc b : Int) (i : Nat) (hi : i ≤ 6) (ha : 0 ≤ acc) (ha2 : acc < 128 ^ i) (hb0 : 0 ≤ b) (hb : b < 256) :
    Go.bits .or .i64 acc (shl .i64 (wrap64 (Go.bits .and .u8 b 127)) (wrap64 (7 * (i : Int)))) = acc + (b % 128) * 128 ^ i ∧ acc + (b % 128) * 128 ^ i < 128 ^ (i + 1) ∧ (128 : Int) ^ (i + 1) ≤ 562949953421312:=by
  rw [and127 b hb0 hb,wrap_id (i:=b % 128) (by omega) (by omega),wrap_id (i:=7 * (i : Int)) (by omega) (by omega)]
  have hp : (128 : Int) ^ (i + 1) ≤ 562949953421312:=by
    have : ∀ m : Fin 8,(128 : Int) ^ m.val ≤ 562949953421312:=by decide
    exact this ⟨i + 1,by omega⟩
  have hpi:=pow_pos i
  have e128 : (128 : Int) ^ i = 2 ^ (7 * i):=by rw [Int.pow_mul];rfl
  have hs:=Int.pow_succ 128 i
  have hm : (b % 128) * 128 ^ i ≤ 127 * 128 ^ i:=Int.mul_le_mul_of_nonneg_right (by omega) (by omega)
  have hm0 : 0 ≤ (b % 128) * 128 ^ i:=Int.mul_nonneg (by omega) (by omega)
  have hsh : shl .i64 (b % 128) (7 * (i : Int)) = (b % 128) * 128 ^ i:=by
    unfold shl
    rw [show min (7 * (i : Int)).toNat IntKind.i64.bits = 7 * i by
      have : IntKind.i64.bits = 64:=rfl
      omega,← e128]
    exact wraps_i64b _ hm0 (by omega)
  rw [hsh,or_comm]
  refine ⟨?_,by omega,hp⟩
  rw [Go.bits_join .i64 62 (by decide) wraps_i64b (7 * i) _ _ hm0 (by rw [← e128];exact Int.mul_emod_left _ _) (by omega) ha (by rw [← e128];exact ha2) (by omega)]
  omega
theorem impl_ReadVar_ev (s : ByteArray) (hsz : s.size ≤ 1048576) : Ev (fun k => impl_ReadVar.f k s) (rvV s):=by
  have hll : ((bytesOf s).take 7).length = min 7 s.size:=by rw [List.length_take,bytesOf_length]
  have hm : mn (s.size : Int) 7 = ((min 7 s.size : Nat) : Int):=by unfold mn;split <;> omega
  unfold impl_ReadVar.f rvV
  rw [hm]
  have key:=ev_forS (fun k (acc : Int) i => impl_ReadVar.l0 k s acc ((min 7 s.size : Nat) : Int) i) (min 7 s.size) (fun i acc => 0 ≤ acc ∧ acc < 128 ^ i) (fun i acc => rdV (((bytesOf s).take 7).drop i) i acc) (by
    intro i acc hi ⟨ha,ha2⟩ next
    simp only [impl_ReadVar.l0]
    rcases Nat.lt_or_ge i (min 7 s.size) with hlt|hge
    · have hi7 : i ≤ 6:=by omega
      have hb:=bt_range s (i : Int)
      obtain ⟨e,hlt2,hp⟩:=orV acc (bt s (i : Int)) i hi7 ha ha2 hb.1 (by omega)
      have hm0 : 0 ≤ (bt s (i : Int) % 128) * 128 ^ i:=Int.mul_nonneg (by omega) (Int.le_of_lt (pow_pos i))
      have hlt3 : i < ((bytesOf s).take 7).length:=by omega
      have hg : ((bytesOf s).take 7)[i] = bt s (i : Int):=by
        rw [List.getElem_take]
        exact bytesOf_get s i _
      rw [List.drop_eq_getElem_cons hlt3,hg,e,wrap_up hlt (by omega)]
      simp only [rdV]
      refine Ev.pos (by omega) (Ev.pos (by omega) (Ev.pos (by omega) (Ev.pos (by rw [wrap_id (by omega) (by omega)];omega) ?_)))
      by_cases h1 : bt s (i : Int) < 128
      · rw [if_pos h1]
        refine Ev.pos h1 ?_
        by_cases h2 : bt s (i : Int) = 0
        · by_cases h3 : (i : Int) > 0
          · exact Ev.pos h2 (Ev.pos h3 (Ev.some (if_pos ⟨h2,by omega⟩).symm))
          · exact Ev.pos h2 (Ev.neg h3 (Ev.neg (by omega) (Ev.some (if_neg (by omega)).symm)))
        · exact Ev.neg h2 (Ev.neg (by omega) (Ev.some (if_neg (fun h => h2 h.1)).symm))
      · rw [if_neg h1]
        exact Ev.neg h1 (next hlt _ ⟨by omega,hlt2⟩)
    · rw [List.drop_of_length_le (by omega)]
      exact Ev.neg (by omega) (Ev.some rfl)) 0 0 (Nat.zero_le _) ⟨by omega,by simp⟩
  simpa using key
end Go.Proofs.Ytipolbckgifnbaa.L
