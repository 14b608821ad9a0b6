-- Ours: printed or written for this claim; cut to what the theorem needs.
import Derived.Test.YtnldanonpdijgaaZPx15
import Derived.Test.YtnldanonpdijgaaZU
namespace Go.Proofs.Ytnldanonpdijgaa.L
open Go.RowKit Go.Proofs.Ytnldanonpdijgaa.P Go.Proofs.YtnldanonpdijgaaW.PrintWords Go.Proofs.YtnldanonpdijgaaW.PrintLast Go.Proofs.Ytnldanonpdijgaa.U
def upFrom (a : Int) : Nat → List Int
  | 0 => []
  | n + 1 => a :: upFrom (a + 1) n
theorem upFrom_length (a : Int) (n : Nat) : (upFrom a n).length = n:=by
  induction n generalizing a with
  | zero => rfl
  | succ n ih => simp [upFrom,ih]
theorem upFrom_get (a : Int) (n i : Nat) (h : i < (upFrom a n).length) : (upFrom a n)[i] = a + i:=by
  induction n generalizing a i with
  | zero => simp [upFrom] at h
  | succ n ih =>
    cases i with
    | zero => simp [upFrom]
    | succ i => simp only [upFrom,List.getElem_cons_succ];rw [ih];push_cast;omega
theorem markIntS_ev (xs : List Int) (a : Int) (h : xs.length ≤ 1048576) (h0 : 0 ≤ a) (h1 : a ≤ 1000000000000) : Ev (fun k => laws_markIntS.f k xs a) (a + xs.length,upFrom a xs.length):=by
  unfold laws_markIntS.f
  have key:=ev_forS (fun k (s : List Int) (i : Int) => laws_markIntS.l0 k s (a + i) i) xs.length (fun i s => s.length = xs.length ∧ s.take i = (upFrom a xs.length).take i) (fun _ _ => (a + xs.length,upFrom a xs.length)) (by
    intro i s hi ⟨hs,ht⟩ next
    simp only [laws_markIntS.l0]
    rcases Nat.lt_or_ge i xs.length with hlt|hge
    · refine Ev.pos (by omega) ?_
      refine Ev.pos (by omega) ?_
      rw [wrap_up hlt (by omega),wrap_id (by omega) (by omega),Int.toNat_natCast,show a + (i : Int) + 1 = a + ((i + 1 : Nat) : Int) by omega]
      refine next hlt _ ⟨by simpa using hs,?_⟩
      rw [List.take_set,List.take_succ_eq_append_getElem (by omega),List.take_succ_eq_append_getElem (by rw [upFrom_length];exact hlt),ht,upFrom_get]
      rw [List.set_append_right _ _ (by simp;omega)]
      simp [upFrom_length,Nat.min_eq_left (Nat.le_of_lt hlt)]
    · refine Ev.neg (by omega) ?_
      have : i = xs.length:=by omega
      subst this
      have h2 : s.take xs.length = s:=List.take_of_length_le (by omega)
      have h3 : (upFrom a xs.length).take xs.length = upFrom a xs.length:=List.take_of_length_le (by rw [upFrom_length];exact Nat.le_refl _)
      exact Ev.some (by rw [← h2,ht,h3])) 0 xs (Nat.zero_le _) ⟨rfl,by simp⟩
  simpa using key
theorem heldIntS_ev (n : Nat) (a : Int) (h : n ≤ 1048576) (h0 : 0 ≤ a) (h1 : a ≤ 1000000000000) : Ev (fun k => laws_heldIntS.f k (upFrom a n) a) (a + n):=by
  unfold laws_heldIntS.f
  have hl:=upFrom_length a n
  have key:=ev_for (fun k (i : Int) => laws_heldIntS.l0 k (upFrom a n) (a + i) i) n (fun _ => a + n) (by
    intro i hi next
    simp only [laws_heldIntS.l0]
    rcases Nat.lt_or_ge i n with hlt|hge
    · refine Ev.pos (by omega) ?_
      refine Ev.pos (by omega) ?_
      rw [rd_at (show i < (upFrom a n).length by omega),upFrom_get,wrap_up hlt (by omega),wrap_id (by omega) (by omega),show a + (i : Int) + 1 = a + ((i + 1 : Nat) : Int) by omega]
      refine Ev.pos rfl ?_
      exact next hlt
    · refine Ev.neg (by omega) ?_
      exact Ev.some (by rw [show i = n by omega])) 0 (Nat.zero_le _)
  simpa using key
end Go.Proofs.Ytnldanonpdijgaa.L
