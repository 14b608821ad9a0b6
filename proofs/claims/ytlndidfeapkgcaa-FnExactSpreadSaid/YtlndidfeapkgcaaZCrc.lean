-- Ours: printed or written for this claim; cut to what the theorem needs.
import Derived.Test.YtlndidfeapkgcaaZPx4
import Derived.Test.YtlndidfeapkgcaaZPx5
import Derived.Test.YtlndidfeapkgcaaZPx6
import Derived.Test.YtlndidfeapkgcaaZU
import Derived.Laws.BitsLemmas
set_option linter.unusedVariables false
namespace Go.Proofs.Ytlndidfeapkgcaa.L
open Go.RowKit Go.Proofs.Ytlndidfeapkgcaa.P Go.Proofs.YtlndidfeapkgcaaW.PrintWords Go.Proofs.YtlndidfeapkgcaaW.PrintLast Go.Proofs.YtlndidfeapkgcaaW.PrintMore Go.Proofs.Ytlndidfeapkgcaa.U
theorem xor_nat (k : IntKind) (j : Nat) (hj : j ≤ k.bits) (hk : ∀ n : Int,0 ≤ n → n < 2 ^ j → k.wrap n = n) (a b : Nat) (ha : a < 2 ^ j) (hb : b < 2 ^ j) :
    Go.bits .xor k a b = ((a ^^^ b : Nat) : Int):=by
  have hp : 2 ^ j ≤ 2 ^ k.bits:=Nat.pow_le_pow_right (by decide) hj
  have ha' : a % 2 ^ k.bits = a:=Nat.mod_eq_of_lt (Nat.lt_of_lt_of_le ha hp)
  have hb' : b % 2 ^ k.bits = b:=Nat.mod_eq_of_lt (Nat.lt_of_lt_of_le hb hp)
  have cast : ∀ n : Nat,n < 2 ^ j → ((n : Nat) : Int) < 2 ^ j:=fun n h => by exact_mod_cast h
  simp only [Go.bits,BitVec.ofInt_natCast,BitVec.toNat_xor,BitVec.toNat_ofNat,ha',hb']
  exact hk _ (Int.natCast_nonneg _) (cast _ (Nat.xor_lt_two_pow ha hb))
theorem wraps_u32 (n : Int) (h₀ : 0 ≤ n) (h₁ : n < 2 ^ 32) : IntKind.u32.wrap n = n:=by rw [Go.IntKind.wrap_u32];omega
theorem wraps_i64 (n : Int) (h₀ : 0 ≤ n) (h₁ : n < 2 ^ 32) : IntKind.i64.wrap n = n:=by rw [Go.IntKind.wrap_i64];omega
theorem xor_u32 (a b : Nat) (ha : a < 2 ^ 32) (hb : b < 2 ^ 32) : Go.bits .xor .u32 a b = ((a ^^^ b : Nat) : Int):=xor_nat .u32 32 (by decide) wraps_u32 a b ha hb
theorem xor_i64 (a b : Nat) (ha : a < 2 ^ 32) (hb : b < 2 ^ 32) : Go.bits .xor .i64 a b = ((a ^^^ b : Nat) : Int):=xor_nat .i64 32 (by decide) wraps_i64 a b ha hb
theorem and1_u32 (a : Nat) (ha : a < 2 ^ 32) : Go.bits .and .u32 a 1 = ((a % 2 : Nat) : Int):=by
  have:=Go.bits_mask .u32 32 (by decide) wraps_u32 1 (by decide) (a : Int) (by omega) (by exact_mod_cast ha)
  simpa using this
def crcS (c : Nat) : Nat:=if c % 2 = 1 then (c / 2) ^^^ 2197175160 else c / 2
theorem crcS_lt {c : Nat} (h : c < 2 ^ 32) : crcS c < 2 ^ 32:=by
  unfold crcS
  split
  · exact Nat.xor_lt_two_pow (by omega) (by decide)
  · omega
def crc8 : Nat → Nat → Nat
  | 0,c => c
  | n + 1,c => crc8 n (crcS c)
theorem crc8_lt (n : Nat) {c : Nat} (h : c < 2 ^ 32) : crc8 n c < 2 ^ 32:=by
  induction n generalizing c with
  | zero => exact h
  | succ n ih => exact ih (crcS_lt h)
def crcB (s : ByteArray) (c : Nat) (i : Nat) : Nat:=crc8 8 (c ^^^ (bt s (i : Int)).toNat)
theorem bt_nat (s : ByteArray) (i : Int) : bt s i = (((bt s i).toNat : Nat) : Int) ∧ (bt s i).toNat < 256:=by
  have:=bt_range s i
  omega
theorem crcB_lt (s : ByteArray) (c i : Nat) (h : c < 2 ^ 32) : crcB s c i < 2 ^ 32:=crc8_lt 8 (Nat.xor_lt_two_pow h (by have:=bt_nat s i;omega))
def crcV (s : ByteArray) : Nat:=(List.range s.size).foldl (crcB s) 4294967295
theorem crc_drop (n i : Nat) (h : i < n) : (List.range n).drop i = i :: (List.range n).drop (i + 1):=by
  rw [List.drop_eq_getElem_cons (by simpa using h)]
  simp
theorem foldl_lt (s : ByteArray) : ∀ (l : List Nat) (c : Nat),c < 2 ^ 32 → l.foldl (crcB s) c < 2 ^ 32
  | [],c,h => h
  | i :: l,c,h => foldl_lt s l _ (crcB_lt s c i h)
theorem crcV_lt (s : ByteArray) : crcV s < 2 ^ 32:=foldl_lt s _ _ (by decide)
theorem impl_crc_in (s : ByteArray) (m i : Int) (r : Int) : ∀ (d j c : Nat),j + d = 8 → c < 2 ^ 32 → Ev (fun k => impl_Crc.l0 k s ((crc8 d c : Nat) : Int) m (wrap64 (i + 1))) r → Ev (fun k => impl_Crc.l1 k s (c : Int) m i (j : Int)) r
  | 0,j,c,hj,hc,h => by
    refine Ev.succ ?_
    simp only [impl_Crc.l1]
    exact Ev.neg (by omega) h
  | d + 1,j,c,hj,hc,h => by
    refine Ev.succ ?_
    simp only [impl_Crc.l1,and1_u32 c hc]
    refine Ev.pos (by omega) ?_
    rw [wrap_up (n:=8) (show j < 8 by omega) (by omega)]
    have hlt:=crcS_lt hc
    rw [crc8] at h
    have hd : (c : Int) / 2 = ((c / 2 : Nat) : Int):=by omega
    by_cases ho : c % 2 = 1
    · refine Ev.pos (by omega) ?_
      have e : Go.bits .xor .u32 ((c : Int) / 2) 2197175160 = ((crcS c : Nat) : Int):=by
        rw [hd]
        have:=xor_u32 (c / 2) 2197175160 (by omega) (by decide)
        unfold crcS
        rw [if_pos ho]
        exact this
      rw [e]
      exact impl_crc_in s m i r d (j + 1) (crcS c) (by omega) hlt h
    · refine Ev.neg (by omega) ?_
      have e : (c : Int) / 2 = ((crcS c : Nat) : Int):=by unfold crcS;rw [if_neg ho];exact hd
      rw [e]
      exact impl_crc_in s m i r d (j + 1) (crcS c) (by omega) hlt h
theorem spec_crc_in (s : ByteArray) (i : Int) (r : Int) : ∀ (d j c : Nat),j + d = 8 → c < 2 ^ 32 → Ev (fun k => spec_Crc.l0 k s ((crc8 d c : Nat) : Int) (wrap64 (i + 1))) r → Ev (fun k => spec_Crc.l1 k s (c : Int) i (j : Int)) r
  | 0,j,c,hj,hc,h => by
    refine Ev.succ ?_
    simp only [spec_Crc.l1]
    exact Ev.neg (by omega) h
  | d + 1,j,c,hj,hc,h => by
    refine Ev.succ ?_
    simp only [spec_Crc.l1]
    refine Ev.pos (by omega) ?_
    rw [wrap_up (n:=8) (show j < 8 by omega) (by omega)]
    have hlt:=crcS_lt hc
    rw [crc8] at h
    have hd : wrap64 (Int.tdiv (c : Int) 2) = ((c / 2 : Nat) : Int):=by
      rw [Int.tdiv_eq_ediv_of_nonneg (by omega),wrap_id (by omega) (by omega)];omega
    have hm : Int.tmod (c : Int) 2 = ((c % 2 : Nat) : Int):=by
      rw [Int.tmod_eq_emod_of_nonneg (by omega)];omega
    rw [hd,hm]
    by_cases ho : c % 2 = 1
    · refine Ev.pos (by omega) ?_
      have e : Go.bits .xor .i64 ((c / 2 : Nat) : Int) 2197175160 = ((crcS c : Nat) : Int):=by
        have:=xor_i64 (c / 2) 2197175160 (by omega) (by decide)
        unfold crcS
        rw [if_pos ho]
        exact this
      rw [e]
      exact spec_crc_in s i r d (j + 1) (crcS c) (by omega) hlt h
    · refine Ev.neg (by omega) ?_
      have e : ((c / 2 : Nat) : Int) = ((crcS c : Nat) : Int):=by unfold crcS;rw [if_neg ho]
      rw [e]
      exact spec_crc_in s i r d (j + 1) (crcS c) (by omega) hlt h
theorem impl_Crc_ev (s : ByteArray) (hs : s.size ≤ 140737488351232) : Ev (fun k => impl_Crc.f k s) (4294967295 - ((crcV s : Nat) : Int)):=by
  unfold impl_Crc.f
  have key:=ev_forS (fun k (c : Nat) i => impl_Crc.l0 k s (c : Int) (s.size : Int) i) s.size (fun _ c => c < 2 ^ 32) (fun i c => 4294967295 - ((((List.range s.size).drop i).foldl (crcB s) c : Nat) : Int)) (by
    intro i c hi hc next
    simp only [impl_Crc.l0]
    rcases Nat.lt_or_ge i s.size with hlt|hge
    · refine Ev.pos (by omega) (Ev.pos (by omega) (Ev.pos (by omega) ?_))
      have hb:=bt_nat s i
      have e : Go.bits .xor .u32 (c : Int) ((bt s (i : Int)) % 4294967296) = ((c ^^^ (bt s (i : Int)).toNat : Nat) : Int):=by
        rw [show (bt s (i : Int)) % 4294967296 = (((bt s (i : Int)).toNat : Nat) : Int) by omega]
        exact xor_u32 c _ hc (by omega)
      rw [e,crc_drop _ _ hlt,List.foldl_cons]
      refine impl_crc_in s _ _ _ 8 0 _ rfl (Nat.xor_lt_two_pow hc (by omega)) ?_
      rw [wrap_up hlt (by omega)]
      exact next hlt (crcB s c i) (crcB_lt s c i hc)
    · refine Ev.neg (by omega) (Ev.some ?_)
      rw [List.drop_of_length_le (by simpa using hge)]
      simp only [List.foldl_nil]
      omega) 0 4294967295 (Nat.zero_le _) (by decide)
  simpa [crcV] using key
theorem spec_Crc_ev (s : ByteArray) (hs : s.size ≤ 140737488351232) : Ev (fun k => spec_Crc.f k s) (4294967295 - ((crcV s : Nat) : Int)):=by
  unfold spec_Crc.f
  have key:=ev_forS (fun k (c : Nat) i => spec_Crc.l0 k s (c : Int) i) s.size (fun _ c => c < 2 ^ 32) (fun i c => 4294967295 - ((((List.range s.size).drop i).foldl (crcB s) c : Nat) : Int)) (by
    intro i c hi hc next
    simp only [spec_Crc.l0]
    rcases Nat.lt_or_ge i s.size with hlt|hge
    · refine Ev.pos (by omega) (Ev.pos (by omega) ?_)
      have hb:=bt_nat s i
      have e : Go.bits .xor .i64 (c : Int) (wrap64 (bt s (i : Int))) = ((c ^^^ (bt s (i : Int)).toNat : Nat) : Int):=by
        rw [show wrap64 (bt s (i : Int)) = (((bt s (i : Int)).toNat : Nat) : Int) by rw [wrap_id (by omega) (by omega)];omega]
        exact xor_i64 c _ hc (by omega)
      rw [e,crc_drop _ _ hlt,List.foldl_cons]
      refine spec_crc_in s _ _ 8 0 _ rfl (Nat.xor_lt_two_pow hc (by omega)) ?_
      rw [wrap_up hlt (by omega)]
      exact next hlt (crcB s c i) (crcB_lt s c i hc)
    · refine Ev.neg (by omega) (Ev.some ?_)
      rw [List.drop_of_length_le (by simpa using hge)]
      simp only [List.foldl_nil]
      rw [wrap_id (by omega) (by omega)]) 0 4294967295 (Nat.zero_le _) (by decide)
  simpa [crcV] using key
def varGo : Nat → Int → List Int
  | 0,x => [x % 256]
  | n + 1,x => if x ≥ 128 then (128 + x % 128) :: varGo n (x / 128) else [x % 256]
def varV (x : Int) : ByteArray:=if 0 ≤ x ∧ x ≤ 562949953421311 then strOfNums (varGo 7 x) else (⟨#[]⟩ : ByteArray)
set_option maxRecDepth 20000 in
theorem or128 (y : Int) (h0 : 0 ≤ y) (h : y < 256) : Go.bits .or .u8 y 128 = 128 + y % 128:=by
  obtain ⟨a,rfl⟩:=Int.eq_ofNat_of_zero_le h0
  have ha : a < 256:=by omega
  have hd : ∀ z : Fin 256,(z.val ||| 128) = 128 + z.val % 128:=by decide
  have:=(Go.bits_nat .u8 8 (by decide) Go.wraps_u8 a 128 (by omega) (by decide)).2
  have e:=hd ⟨a,ha⟩
  simp only at e
  rw [e] at this
  rw [show ((128 : Nat) : Int) = 128 from rfl] at this
  rw [this]
  omega
theorem impl_var_loop : ∀ (n : Nat) (x : Int) (o : List Int),0 ≤ x → x < 128 ^ (n + 1) → o.length + n < 1000 → Ev (fun k => impl_Var.l0 k x o) (strOfNums (o ++ varGo n x))
  | 0,x,o,h0,h,ho => by
    refine Ev.succ ?_
    simp only [impl_Var.l0]
    exact Ev.neg (by omega) (Ev.pos (by omega) (Ev.some rfl))
  | n + 1,x,o,h0,h,ho => by
    refine Ev.succ ?_
    simp only [impl_Var.l0]
    unfold varGo
    by_cases hx : x ≥ 128
    · rw [if_pos hx,or128 (x % 256) (by omega) (by omega),show x % 256 % 128 = x % 128 by omega]
      refine Ev.pos hx (Ev.pos (by omega) ?_)
      have:=impl_var_loop n (x / 128) (o ++ [128 + x % 128]) (by omega) (by
        have e : (128 : Int) ^ (n + 1 + 1) = 128 * 128 ^ (n + 1):=by rw [Int.pow_succ];omega
        omega) (by simp;omega)
      simpa using this
    · rw [if_neg hx]
      exact Ev.neg hx (Ev.pos (by omega) (Ev.some rfl))
theorem spec_var_loop : ∀ (n : Nat) (x : Int) (o : List Int),0 ≤ x → x ≤ 562949953421311 → x < 128 ^ (n + 1) → o.length + n < 1000 → Ev (fun k => spec_Var.l0 k x o) (strOfNums (o ++ varGo n x))
  | 0,x,o,h0,_,h,ho => by
    refine Ev.succ ?_
    simp only [spec_Var.l0]
    exact Ev.neg (by omega) (Ev.pos (by omega) (Ev.some rfl))
  | n + 1,x,o,h0,hm,h,ho => by
    refine Ev.succ ?_
    simp only [spec_Var.l0]
    unfold varGo
    by_cases hx : x ≥ 128
    · rw [if_pos hx,Int.tmod_eq_emod_of_nonneg h0,Int.tdiv_eq_ediv_of_nonneg h0,wrap_id (i:=x / 128) (by omega) (by omega),wrap_id (i:=128 + x % 128) (by omega) (by omega),show (128 + x % 128) % 256 = 128 + x % 128 by omega]
      refine Ev.pos hx (Ev.pos (by omega) ?_)
      have:=spec_var_loop n (x / 128) (o ++ [128 + x % 128]) (by omega) (by omega) (by
        have e : (128 : Int) ^ (n + 1 + 1) = 128 * 128 ^ (n + 1):=by rw [Int.pow_succ];omega
        omega) (by simp;omega)
      simpa using this
    · rw [if_neg hx]
      exact Ev.neg hx (Ev.pos (by omega) (Ev.some rfl))
theorem inN_eq (a b c : Int) : impl_in.f a b c = some (decide (b ≤ a) && decide (a ≤ c)):=by
  unfold impl_in.f
  by_cases h : b ≤ a <;> simp [h]
theorem l1InN_eq (a b c : Int) : spec_l1In.f a b c = some (decide (b ≤ a) && decide (a ≤ c)):=by
  unfold spec_l1In.f
  by_cases h : b ≤ a <;> simp [h]
theorem impl_Var_ev (x : Int) : Ev (fun k => impl_Var.f k x) (varV x):=by
  unfold impl_Var.f varV
  rw [inN_eq]
  simp only [Option.bind_some]
  by_cases h : 0 ≤ x ∧ x ≤ 562949953421311
  · rw [if_pos h]
    exact Ev.pos (by simp;omega) (by simpa using impl_var_loop 7 x [] h.1 (by simp;omega) (by simp))
  · rw [if_neg h]
    exact Ev.neg (by simp;omega) (Ev.some rfl)
theorem spec_Var_ev (x : Int) : Ev (fun k => spec_Var.f k x) (varV x):=by
  unfold spec_Var.f varV
  rw [l1InN_eq]
  simp only [Option.bind_some]
  by_cases h : 0 ≤ x ∧ x ≤ 562949953421311
  · rw [if_pos h]
    exact Ev.pos (by simp;omega) (by simpa using spec_var_loop 7 x [] h.1 h.2 (by simp;omega) (by simp))
  · rw [if_neg h]
    exact Ev.neg (by simp;omega) (Ev.some rfl)
end Go.Proofs.Ytlndidfeapkgcaa.L
