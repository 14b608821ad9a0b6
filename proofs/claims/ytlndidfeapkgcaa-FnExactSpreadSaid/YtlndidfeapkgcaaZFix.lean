-- Ours: printed or written for this claim; cut to what the theorem needs.
import Derived.Test.YtlndidfeapkgcaaZPx4
import Derived.Test.YtlndidfeapkgcaaZPx6
import Derived.Test.YtlndidfeapkgcaaZCrc
set_option linter.unusedVariables false
set_option linter.unusedSimpArgs false
namespace Go.Proofs.Ytlndidfeapkgcaa.L
open Go.RowKit Go.Proofs.Ytlndidfeapkgcaa.P Go.Proofs.YtlndidfeapkgcaaW.PrintWords Go.Proofs.YtlndidfeapkgcaaW.PrintLast Go.Proofs.YtlndidfeapkgcaaW.PrintMore Go.Proofs.Ytlndidfeapkgcaa.U
def fix4 (x : Int) : ByteArray:=strOfNums [x / 16777216 % 256,x / 65536 % 256,x / 256 % 256,x % 256]
theorem str_app (a b : List Int) : strOfNums a ++ strOfNums b = strOfNums (a ++ b):=by
  apply ByteArray.ext
  simp [strOfNums]
theorem shr_lit (x : Int) (n : Nat) (h : n ≤ 64) : shr .i64 x (n : Int) = x / 2 ^ n:=by
  unfold shr
  rw [Int.toNat_natCast,Nat.min_eq_left (show n ≤ IntKind.i64.bits from h)]
theorem impl_Fixed_ev (x : Int) (h0 : 0 ≤ x) (h1 : x < 4294967296) : Ev (fun k => impl_Fixed.f k x 4) (fix4 x):=by
  unfold impl_Fixed.f
  rw [inN_eq]
  simp only [Option.bind_some]
  have e32 : shr .i64 x 32 = 0:=by
    have:=shr_lit x 32 (by decide)
    rw [show ((32 : Nat) : Int) = 32 from rfl] at this
    rw [this]
    omega
  have e0 : shr .i64 x 0 = x:=by
    have:=shr_lit x 0 (by decide)
    rw [show ((0 : Nat) : Int) = 0 from rfl] at this
    rw [this]
    omega
  have e8 : shr .i64 x 8 = x / 256:=by
    have:=shr_lit x 8 (by decide)
    rw [show ((8 : Nat) : Int) = 8 from rfl] at this
    rw [this]
    rfl
  have e16 : shr .i64 x 16 = x / 65536:=by
    have:=shr_lit x 16 (by decide)
    rw [show ((16 : Nat) : Int) = 16 from rfl] at this
    rw [this]
    rfl
  have e24 : shr .i64 x 24 = x / 16777216:=by
    have:=shr_lit x 24 (by decide)
    rw [show ((24 : Nat) : Int) = 24 from rfl] at this
    rw [this]
    rfl
  refine Ev.pos (by first|decide|(unfold wrap64;omega)|(simp only [List.length_replicate,List.length_set];unfold wrap64;omega)|(simp only [List.length_replicate,List.length_set];omega)) (Ev.neg (by omega) (Ev.pos (by first|decide|(unfold wrap64;omega)|(simp only [List.length_replicate,List.length_set];unfold wrap64;omega)|(simp only [List.length_replicate,List.length_set];omega)) ?_))
  rw [show wrap64 (8 * 4) = 32 by unfold wrap64;omega,e32]
  refine Ev.succ ?_
  simp only [impl_Fixed.j0]
  refine Ev.neg (by first|decide|(unfold wrap64;omega)|(simp only [List.length_replicate,List.length_set];unfold wrap64;omega)|(simp only [List.length_replicate,List.length_set];omega)) (Ev.pos (by first|decide|(unfold wrap64;omega)|(simp only [List.length_replicate,List.length_set];unfold wrap64;omega)|(simp only [List.length_replicate,List.length_set];omega)) (Ev.pos (by first|decide|(unfold wrap64;omega)|(simp only [List.length_replicate,List.length_set];unfold wrap64;omega)|(simp only [List.length_replicate,List.length_set];omega)) ?_))
  simp only [Option.bind_some]
  refine Ev.succ ?_
  simp only [impl_Fixed.l0]
  refine Ev.pos (by first|decide|(unfold wrap64;omega)|(simp only [List.length_replicate,List.length_set];unfold wrap64;omega)|(simp only [List.length_replicate,List.length_set];omega)) (Ev.pos (by first|decide|(unfold wrap64;omega)|(simp only [List.length_replicate,List.length_set];unfold wrap64;omega)|(simp only [List.length_replicate,List.length_set];omega)) (Ev.pos (by first|decide|(unfold wrap64;omega)|(simp only [List.length_replicate,List.length_set];unfold wrap64;omega)|(simp only [List.length_replicate,List.length_set];omega)) (Ev.pos (by first|decide|(unfold wrap64;omega)|(simp only [List.length_replicate,List.length_set];unfold wrap64;omega)|(simp only [List.length_replicate,List.length_set];omega)) ?_)))
  rw [show wrap64 (8 * 0) = 0 by unfold wrap64;omega,e0,show wrap64 (wrap64 (4 - 1) - 0) = 3 by unfold wrap64;omega,show wrap64 (0 + 1) = 1 by unfold wrap64;omega]
  refine Ev.succ ?_
  simp only [impl_Fixed.l0]
  refine Ev.pos (by first|decide|(unfold wrap64;omega)|(simp only [List.length_replicate,List.length_set];unfold wrap64;omega)|(simp only [List.length_replicate,List.length_set];omega)) (Ev.pos (by first|decide|(unfold wrap64;omega)|(simp only [List.length_replicate,List.length_set];unfold wrap64;omega)|(simp only [List.length_replicate,List.length_set];omega)) (Ev.pos (by first|decide|(unfold wrap64;omega)|(simp only [List.length_replicate,List.length_set];unfold wrap64;omega)|(simp only [List.length_replicate,List.length_set];omega)) (Ev.pos (by first|decide|(unfold wrap64;omega)|(simp only [List.length_replicate,List.length_set];unfold wrap64;omega)|(simp only [List.length_replicate,List.length_set];omega)) ?_)))
  rw [show wrap64 (8 * 1) = 8 by unfold wrap64;omega,e8,show wrap64 (wrap64 (4 - 1) - 1) = 2 by unfold wrap64;omega,show wrap64 (1 + 1) = 2 by unfold wrap64;omega]
  refine Ev.succ ?_
  simp only [impl_Fixed.l0]
  refine Ev.pos (by first|decide|(unfold wrap64;omega)|(simp only [List.length_replicate,List.length_set];unfold wrap64;omega)|(simp only [List.length_replicate,List.length_set];omega)) (Ev.pos (by first|decide|(unfold wrap64;omega)|(simp only [List.length_replicate,List.length_set];unfold wrap64;omega)|(simp only [List.length_replicate,List.length_set];omega)) (Ev.pos (by first|decide|(unfold wrap64;omega)|(simp only [List.length_replicate,List.length_set];unfold wrap64;omega)|(simp only [List.length_replicate,List.length_set];omega)) (Ev.pos (by first|decide|(unfold wrap64;omega)|(simp only [List.length_replicate,List.length_set];unfold wrap64;omega)|(simp only [List.length_replicate,List.length_set];omega)) ?_)))
  rw [show wrap64 (8 * 2) = 16 by unfold wrap64;omega,e16,show wrap64 (wrap64 (4 - 1) - 2) = 1 by unfold wrap64;omega,show wrap64 (2 + 1) = 3 by unfold wrap64;omega]
  refine Ev.succ ?_
  simp only [impl_Fixed.l0]
  refine Ev.pos (by first|decide|(unfold wrap64;omega)|(simp only [List.length_replicate,List.length_set];unfold wrap64;omega)|(simp only [List.length_replicate,List.length_set];omega)) (Ev.pos (by first|decide|(unfold wrap64;omega)|(simp only [List.length_replicate,List.length_set];unfold wrap64;omega)|(simp only [List.length_replicate,List.length_set];omega)) (Ev.pos (by first|decide|(unfold wrap64;omega)|(simp only [List.length_replicate,List.length_set];unfold wrap64;omega)|(simp only [List.length_replicate,List.length_set];omega)) (Ev.pos (by first|decide|(unfold wrap64;omega)|(simp only [List.length_replicate,List.length_set];unfold wrap64;omega)|(simp only [List.length_replicate,List.length_set];omega)) ?_)))
  rw [show wrap64 (8 * 3) = 24 by unfold wrap64;omega,e24,show wrap64 (wrap64 (4 - 1) - 3) = 0 by unfold wrap64;omega,show wrap64 (3 + 1) = 4 by unfold wrap64;omega]
  refine Ev.succ ?_
  simp only [impl_Fixed.l0]
  exact Ev.neg (by first|decide|(unfold wrap64;omega)|(simp only [List.length_replicate,List.length_set];unfold wrap64;omega)|(simp only [List.length_replicate,List.length_set];omega)) (Ev.some rfl)
theorem spec_Fixed_ev (x : Int) (h0 : 0 ≤ x) (h1 : x < 4294967296) : Ev (fun k => spec_Fixed.f k x 4) (fix4 x):=by
  unfold spec_Fixed.f
  rw [l1InN_eq]
  simp only [Option.bind_some]
  refine Ev.pos (by decide) ?_
  rw [show decide (x < 0) = false by simp;omega]
  refine Ev.succ ?_
  simp only [spec_Fixed.j0]
  refine Ev.neg (by decide) ?_
  have st : ∀ (y : Int) (o : List Int) (i : Nat) (r : ByteArray),0 ≤ y → y < 4294967296 → o.length ≤ 8 → i < 4 → Ev (fun k => spec_Fixed.l0 k (y / 256) 4 (strOfNums (y % 256 :: o)) ((i + 1 : Nat) : Int)) r → Ev (fun k => spec_Fixed.l0 k y 4 (strOfNums o) (i : Int)) r:=by
    intro y o i r h0 h1 ho hi hn
    refine Ev.succ ?_
    simp only [spec_Fixed.l0,Option.bind_some]
    have hz : ∀ l : List Int,(strOfNums l).size = l.length:=fun l => by simp [strOfNums,ByteArray.size]
    rw [Int.tmod_eq_emod_of_nonneg h0,Int.tdiv_eq_ediv_of_nonneg h0,wrap_id (i:=y / 256) (by omega) (by omega),Int.emod_emod_of_dvd _ (by decide),wrap_up (n:=4) hi (by omega),str_app]
    exact Ev.pos (by omega) (Ev.pos (by rw [hz,hz];simp;omega) hn)
  refine st x [] 0 _ h0 h1 (by simp) (by omega) (st _ _ 1 _ (by omega) (by omega) (by simp) (by omega) (st _ _ 2 _ (by omega) (by omega) (by simp) (by omega) (st _ _ 3 _ (by omega) (by omega) (by simp) (by omega) (Ev.succ ?_))))
  simp only [spec_Fixed.l0]
  refine Ev.neg (by decide) (Ev.neg (by omega) (Ev.some ?_))
  unfold fix4
  rw [show x / 256 / 256 / 256 = x / 16777216 by omega,show x / 256 / 256 = x / 65536 by omega]
def packV (s : ByteArray) : ByteArray:=fix4 (4294967295 - ((crcV s : Nat) : Int)) ++ s
theorem fix4_size (x : Int) : (fix4 x).size = 4:=rfl
theorem packed_ev (s : ByteArray) (hs : s.size ≤ 140737488351232) : Ev (fun k => impl_packed.f k s) (packV s):=by
  unfold impl_packed.f
  have:=crcV_lt s
  exact Ev.bind (impl_Crc_ev s hs) (Ev.bind (impl_Fixed_ev _ (by omega) (by omega)) (Ev.pos (by rw [fix4_size];omega) (Ev.some rfl)))
theorem l4Sum_ev (s : ByteArray) (hs : s.size ≤ 140737488351232) : Ev (fun k => spec_l4Sum.f k s) (packV s):=by
  unfold spec_l4Sum.f
  have:=crcV_lt s
  exact Ev.bind (spec_Crc_ev s hs) (Ev.bind (spec_Fixed_ev _ (by omega) (by omega)) (Ev.pos (by rw [fix4_size];omega) (Ev.some rfl)))
end Go.Proofs.Ytlndidfeapkgcaa.L
