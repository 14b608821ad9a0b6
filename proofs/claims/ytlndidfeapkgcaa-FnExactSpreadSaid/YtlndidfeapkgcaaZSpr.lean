-- Ours: printed or written for this claim; cut to what the theorem needs.
import Derived.Test.YtlndidfeapkgcaaZPx4
import Derived.Test.YtlndidfeapkgcaaZPx5
import Derived.Test.YtlndidfeapkgcaaZPx6
import Derived.Test.YtlndidfeapkgcaaZPx7
import Derived.Test.YtlndidfeapkgcaaZFix
set_option linter.unusedVariables false
namespace Go.Proofs.Ytlndidfeapkgcaa.L
open Go.RowKit Go.Proofs.Ytlndidfeapkgcaa.P Go.Proofs.YtlndidfeapkgcaaW.PrintWords Go.Proofs.YtlndidfeapkgcaaW.PrintLast Go.Proofs.YtlndidfeapkgcaaW.PrintMore Go.Proofs.Ytlndidfeapkgcaa.U
theorem loop_eq (s : ByteArray) : ∀ (d i : Nat) (r : List UInt8),i + d = s.size → ByteArray.toList.loop s i r = r.reverse ++ s.data.toList.drop i:=by
  intro d
  induction d with
  | zero =>
    intro i r h
    rw [ByteArray.toList.loop,if_neg (by omega),List.drop_of_length_le (by rw [data_length];omega)]
    simp
  | succ d ih =>
    intro i r h
    have hl : i < s.data.toList.length:=by rw [data_length];omega
    rw [ByteArray.toList.loop,if_pos (by omega),ih (i + 1) _ (by omega),List.drop_eq_getElem_cons hl]
    have e : s.get! i = s.data.toList[i]:=by
      have hs : i < s.data.size:=by simpa using hl
      show s.data.get!Internal i = _
      simp [Array.get!Internal,Array.getD]
      rw [dif_pos (show i < s.size from hs)]
    simp [e]
theorem toList_eq (s : ByteArray) : s.toList = s.data.toList:=by
  unfold ByteArray.toList
  rw [loop_eq s s.size 0 [] (by omega)]
  rfl
theorem toList_len (s : ByteArray) : s.toList.length = s.size:=by rw [toList_eq,data_length]
theorem varGo_len : ∀ (n : Nat) (x : Int),(varGo n x).length ≤ n + 1
  | 0,x => by simp [varGo]
  | n + 1,x => by
    unfold varGo
    split
    · have:=varGo_len n (x / 128);simp;omega
    · simp
theorem varV_size (x : Int) : (varV x).size ≤ 8:=by
  unfold varV
  split
  · have:=varGo_len 7 x
    simpa [strOfNums,ByteArray.size] using this
  · exact Nat.zero_le _
theorem empty_app (s : ByteArray) : (⟨#[]⟩ : ByteArray) ++ s = s:=ByteArray.empty_append
def varsV (xs : List Int) : ByteArray:=xs.foldl (fun a x => a ++ varV x) (⟨#[]⟩ : ByteArray)
theorem impl_vars_ev (xs : List Int) (h : xs.length ≤ 100) : Ev (fun k => impl_vars.f k xs) (varsV xs):=by
  unfold impl_vars.f varsV
  have key:=ev_forS (fun k (a : ByteArray) i => impl_vars.l0 k a xs (xs.length : Int) i) xs.length (fun i a => a.size ≤ 8 * i) (fun i a => (xs.drop i).foldl (fun a x => a ++ varV x) a) (by
    intro i a hi ha next
    simp only [impl_vars.l0]
    rcases Nat.lt_or_ge i xs.length with hlt|hge
    · rw [List.drop_eq_getElem_cons hlt,rd_at hlt,wrap_up hlt (by omega),List.foldl_cons]
      have hz:=varV_size xs[i]
      exact Ev.pos (by omega) (Ev.pos (by omega) (Ev.pos (by omega) (Ev.bind (impl_Var_ev _) (Ev.pos (by omega) (next hlt _ (by rw [ByteArray.size_append];omega))))))
    · rw [List.drop_of_length_le hge]
      exact Ev.neg (by omega) (Ev.some rfl)) 0 (⟨#[]⟩ : ByteArray) (Nat.zero_le _) (Nat.zero_le _)
  simpa using key
def shareV (q : Int) (s : ByteArray) (n : Nat) (i : Nat) (p : ByteArray) : ByteArray :=
  packV ((((varV q ++ varV (i : Int)) ++ varV (n : Int)) ++ varV (4294967295 - ((crcV s : Nat) : Int))) ++ (varV (p.size : Int) ++ p))
theorem vars5 (a b c d e : Int) (p : ByteArray) : varsV [a,b,c,d,e] ++ p = (((varV a ++ varV b) ++ varV c) ++ varV d) ++ (varV e ++ p):=by
  unfold varsV
  simp only [List.foldl_cons,List.foldl_nil,empty_app,ByteArray.append_assoc]
def nP (z : Nat) : Nat:=if z = 0 then 1 else (z + 11) / 12
def cut (s : ByteArray) (i : Nat) : ByteArray:=s.extract (12 * i) (min (12 * (i + 1)) s.size)
theorem cut_size (s : ByteArray) (i : Nat) : (cut s i).size ≤ 12:=by
  unfold cut
  rw [ByteArray.size_extract]
  omega
def cutsF : Nat → ByteArray → List ByteArray
  | 0,s => [s]
  | f + 1,s => if s.size ≤ 12 then [s] else s.extract 0 12 :: cutsF f (s.extract 12 s.size)
theorem whole (s : ByteArray) (h : s.size ≤ 12) : cut s 0 = s:=by
  unfold cut
  rw [Nat.min_eq_right (by omega)]
  exact ByteArray.extract_zero_size
theorem cuts_eq : ∀ (f : Nat) (s : ByteArray),s.size ≤ 12 * (f + 1) → cutsF f s = (List.range (nP s.size)).map (cut s)
  | 0,s,h => by
    have hn : nP s.size = 1:=by unfold nP;split <;> omega
    rw [hn]
    simp [cutsF,List.range_succ,whole s (by omega)]
  | f + 1,s,h => by
    unfold cutsF
    by_cases h12 : s.size ≤ 12
    · have hn : nP s.size = 1:=by unfold nP;split <;> omega
      rw [if_pos h12,hn]
      simp [List.range_succ,whole s h12]
    · have hz : (s.extract 12 s.size).size = s.size - 12:=by rw [ByteArray.size_extract,Nat.min_self]
      have hn : nP s.size = nP (s.size - 12) + 1:=by unfold nP;rw [if_neg (by omega)];split <;> omega
      rw [if_neg h12,cuts_eq f (s.extract 12 s.size) (by omega),hz,hn,List.range_succ_eq_map,List.map_cons,List.map_map]
      congr 1
      · unfold cut
        rw [Nat.min_eq_left (by omega)]
      · apply List.map_congr_left
        intro i _
        simp only [Function.comp]
        unfold cut
        rw [hz,ByteArray.extract_extract]
        congr 1
        · omega
        · omega
def sharesV (q : Int) (s : ByteArray) : List ByteArray:=(List.range (nP s.size)).map fun i => shareV q s (nP s.size) i (cut s i)
def spreadV (q : Int) (s : ByteArray) : List ByteArray × Bool:=if inR q = true ∧ s.size ≤ 60 then (sharesV q s,true) else ([],false)
  where inR (q : Int) : Bool:=decide (1 ≤ q) && decide (q ≤ 1000000)
theorem nP_le {z : Nat} (h : z ≤ 60) : 1 ≤ nP z ∧ nP z ≤ 5:=by unfold nP;split <;> omega
theorem impl_cut_ev (q : Int) (s : ByteArray) (r : List ByteArray) : ∀ (f : Nat) (u : ByteArray) (acc : List ByteArray),u.size ≤ 12 * (f + 1) → acc.length + f ≤ 1000 →
    Ev (fun k => impl_spread.l1 k q s (acc ++ cutsF f u) [] (acc ++ cutsF f u) ((acc ++ cutsF f u).length : Int) 0) r → Ev (fun k => impl_spread.l0 k q s acc u) r
  | 0,u,acc,hu,ha,h => by
    refine Ev.succ ?_
    simp only [impl_spread.l0,Option.bind_some]
    exact Ev.pos (by omega) (Ev.pos (by omega) h)
  | f + 1,u,acc,hu,ha,h => by
    refine Ev.succ ?_
    simp only [impl_spread.l0,Option.bind_some]
    unfold cutsF at h
    by_cases h12 : u.size ≤ 12
    · rw [if_pos h12] at h
      exact Ev.pos (by omega) (Ev.pos (by omega) h)
    · rw [if_neg h12] at h
      refine Ev.neg (by omega) (Ev.pos (by omega) (Ev.pos (by omega) (Ev.pos (by omega) ?_)))
      refine impl_cut_ev q s r f (u.extract 12 u.size) (acc ++ [u.extract 0 12]) (by rw [ByteArray.size_extract];omega) (by simp;omega) ?_
      simpa using h
theorem impl_spread_ev (q : Int) (s : ByteArray) (hs : s.size ≤ 60) : Ev (fun k => impl_spread.f k q s) (sharesV q s):=by
  have hn:=nP_le hs
  unfold impl_spread.f
  refine impl_cut_ev q s _ 4 s [] (by omega) (by simp) ?_
  rw [List.nil_append,cuts_eq 4 s (by omega)]
  have hl : ((List.range (nP s.size)).map (cut s)).length = nP s.size:=by simp
  rw [hl]
  have key:=ev_forS (fun k (a : List ByteArray) i => impl_spread.l1 k q s ((List.range (nP s.size)).map (cut s)) a ((List.range (nP s.size)).map (cut s)) (nP s.size : Int) i) (nP s.size) (fun i a => a.length ≤ i) (fun i a => a ++ ((List.range (nP s.size)).drop i).map fun i => shareV q s (nP s.size) i (cut s i)) (by
    intro i a hi ha next
    simp only [impl_spread.l1]
    rcases Nat.lt_or_ge i (nP s.size) with hlt|hge
    · have hlt2 : i < ((List.range (nP s.size)).map (cut s)).length:=by omega
      have hz:=cut_size s i
      rw [rdOf_at hlt2,wrap_up hlt (by omega),crc_drop _ _ hlt,hl]
      simp only [List.getElem_map,List.getElem_range]
      refine Ev.pos (by omega) (Ev.pos (by omega) (Ev.pos (by omega) (Ev.bind (impl_Crc_ev s (by omega)) (Ev.bind (impl_vars_ev _ (by simp)) ?_))))
      have h1:=varV_size q
      have h2:=varV_size (i : Int)
      have h3:=varV_size (nP s.size : Int)
      have h4:=varV_size (4294967295 - ((crcV s : Nat) : Int))
      have h5:=varV_size ((cut s i).size : Int)
      have e:=vars5 q i (nP s.size) (4294967295 - ((crcV s : Nat) : Int)) (cut s i).size (cut s i)
      have ez:=congrArg ByteArray.size e
      simp only [ByteArray.size_append] at ez
      rw [e]
      refine Ev.pos (by omega) (Ev.bind (packed_ev _ (by simp only [ByteArray.size_append];omega)) (Ev.pos (by omega) ?_))
      have:=next hlt (a ++ [shareV q s (nP s.size) i (cut s i)]) (by simp;omega)
      simpa [shareV] using this
    · rw [List.drop_of_length_le (by simpa using hge)]
      exact Ev.neg (by omega) (Ev.some (by simp))) 0 [] (Nat.zero_le _) (by simp)
  simpa [sharesV] using key
theorem impl_Spread_ev (q : Int) (s : ByteArray) (hs : s.size ≤ 1048576) : Ev (fun k => impl_Spread.f k q s) (spreadV q s):=by
  unfold impl_Spread.f spreadV
  rw [inN_eq]
  simp only [Option.bind_some]
  rw [show (decide (1 ≤ q) && decide (q ≤ 1000000)) = spreadV.inR q from rfl]
  cases hq : spreadV.inR q with
  | false => exact Ev.neg (by decide) (Ev.some (by simp))
  | true =>
    refine Ev.pos rfl ?_
    by_cases h60 : s.size ≤ 60
    · rw [if_pos ⟨rfl,h60⟩]
      exact Ev.neg (by omega) (Ev.bind (impl_spread_ev q s h60) (Ev.some rfl))
    · rw [if_neg (fun h => h60 h.2)]
      exact Ev.pos (by omega) (Ev.some rfl)
theorem spec_Spread_ev (q : Int) (s : ByteArray) (hs : s.size ≤ 1048576) : Ev (fun k => spec_Spread.f k q s) (spreadV q s):=by
  have hn1 : 1 ≤ nP s.size:=by unfold nP;split <;> omega
  have hn2 : nP s.size ≤ 100000:=by unfold nP;split <;> omega
  have hgo : ∀ n : Int,n = (nP s.size : Int) → Ev (fun k => spec_Spread.j0 k q s n) (spreadV q s):=by
    intro n hn
    subst hn
    have hT : Ev (fun k => spec_Spread.j1 k q s (nP s.size : Int) true) ([],false):=Ev.succ (by simp only [spec_Spread.j1];exact Ev.pos trivial (Ev.some rfl))
    refine Ev.succ ?_
    simp only [spec_Spread.j0,l1InN_eq,Option.bind_some]
    unfold spreadV
    rw [show (decide (1 ≤ q) && decide (q ≤ 1000000)) = spreadV.inR q from rfl]
    cases hq : spreadV.inR q with
    | false => exact Ev.neg (by decide) (by simpa using hT)
    | true =>
      refine Ev.pos rfl ?_
      by_cases h60 : s.size ≤ 60
      · have hn:=nP_le h60
        rw [if_pos ⟨rfl,h60⟩,show decide ((nP s.size : Int) > 5) = false by simp;omega]
        refine Ev.succ ?_
        simp only [spec_Spread.j1]
        refine Ev.neg (by decide) ?_
        have key:=ev_forS (fun k (a : List ByteArray) i => spec_Spread.l0 k q s (nP s.size : Int) a i) (nP s.size) (fun i a => a.length ≤ i) (fun i a => (a ++ ((List.range (nP s.size)).drop i).map fun i => shareV q s (nP s.size) i (cut s i),true)) (by
          intro i a hi ha next
          simp only [spec_Spread.l0]
          rcases Nat.lt_or_ge i (nP s.size) with hlt|hge
          · refine Ev.pos (by omega) ?_
            rw [crc_drop _ _ hlt,wrap_id (i:=(i : Int) + 1) (by omega) (by omega),wrap_id (i:=((i : Int) + 1) * 12) (by omega) (by omega)]
            have hi12 : 12 * i ≤ s.size:=by unfold nP at hlt;split at hlt <;> omega
            have hj : ∀ m : Int,m = ((min (12 * (i + 1)) s.size : Nat) : Int) → Ev (fun k => spec_Spread.j3 k q s (nP s.size : Int) a (i : Int) m) (a ++ ((i :: (List.range (nP s.size)).drop (i + 1)).map fun i => shareV q s (nP s.size) i (cut s i)),true):=by
              intro m hm
              refine Ev.succ ?_
              simp only [spec_Spread.j3]
              rw [wrap_id (i:=(i : Int) * 12) (by omega) (by omega),hm,wrap_id (i:=(i : Int) + 1) (by omega) (by omega),show ((i : Int) * 12).toNat = 12 * i by omega,Int.toNat_natCast,show s.extract (12 * i) (min (12 * (i + 1)) s.size) = cut s i from rfl]
              have hz:=cut_size s i
              have h1:=varV_size q
              have h2:=varV_size (i : Int)
              have h3:=varV_size (nP s.size : Int)
              have h4:=varV_size (4294967295 - ((crcV s : Nat) : Int))
              have h5:=varV_size ((cut s i).size : Int)
              refine Ev.pos (by omega) (Ev.pos (by omega) (Ev.pos (by omega) (Ev.bind (spec_Var_ev _) (Ev.bind (spec_Var_ev _) (Ev.pos (by omega) (Ev.bind (spec_Var_ev _) (Ev.pos (by simp only [ByteArray.size_append];omega) ?_)))))))
              have hp : Ev (fun k => spec_l4Piece.f k (cut s i)) (varV ((cut s i).size : Int) ++ cut s i):=by
                unfold spec_l4Piece.f
                exact Ev.bind (spec_Var_ev _) (Ev.pos (by omega) (Ev.some rfl))
              refine Ev.bind (spec_Crc_ev s (by omega)) (Ev.bind (spec_Var_ev _) (Ev.pos (by simp only [ByteArray.size_append];omega) (Ev.bind hp (Ev.pos (by simp only [ByteArray.size_append];omega) (Ev.bind (l4Sum_ev _ (by simp only [ByteArray.size_append];omega)) (Ev.pos (by omega) ?_))))))
              have:=next hlt (a ++ [shareV q s (nP s.size) i (cut s i)]) (by simp;omega)
              simpa [shareV] using this
            by_cases hc : ((i : Int) + 1) * 12 > (s.size : Int)
            · exact Ev.pos hc (hj _ (by omega))
            · exact Ev.neg hc (hj _ (by omega))
          · rw [List.drop_of_length_le (by simpa using hge)]
            exact Ev.neg (by omega) (Ev.some (by simp))) 0 [] (Nat.zero_le _) (by simp)
        simpa [sharesV] using key
      · have : nP s.size > 5:=by unfold nP;split <;> omega
        rw [if_neg (fun h => h60 h.2),show decide ((nP s.size : Int) > 5) = true by simp;omega]
        exact hT
  unfold spec_Spread.f
  by_cases h0 : s.toList = ([] : List UInt8)
  · refine Ev.pos h0 (hgo 1 ?_)
    have hz : s.size = 0:=by
      have hl:=List.length_eq_zero_iff.mpr h0
      rw [toList_len] at hl
      exact hl
    rw [hz]
    rfl
  · refine Ev.neg h0 (hgo _ ?_)
    have hz : s.size ≠ 0:=by
      intro hz
      apply h0
      exact List.length_eq_zero_iff.mp (by rw [toList_len];exact hz)
    rw [wrap_id (i:=(s.size : Int) + 12) (by omega) (by omega),wrap_id (i:=(s.size : Int) + 12 - 1) (by omega) (by omega),Int.tdiv_eq_ediv_of_nonneg (by omega),wrap_id (by omega) (by omega)]
    unfold nP
    rw [if_neg hz]
    omega
end Go.Proofs.Ytlndidfeapkgcaa.L
