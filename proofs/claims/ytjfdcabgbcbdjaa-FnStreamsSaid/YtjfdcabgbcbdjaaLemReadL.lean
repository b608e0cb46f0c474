import Derived.Test.YtjfdcabgbcbdjaaAllx0
import Derived.Test.YtjfdcabgbcbdjaaAllx32
set_option linter.unusedVariables false
set_option linter.unusedSimpArgs false
namespace Go.Proofs.Ytjfdcabgbcbdjaa.All
open Go.RowKit Go.Proofs.Ytjfdcabgbcbdjaa.All Go.Proofs.YtjfdcabgbcbdjaaW.PrintWords Go.Proofs.YtjfdcabgbcbdjaaW.PrintLast Go.Proofs.YtjfdcabgbcbdjaaW.PrintMore
/-! ### the reference's reading of a number -/
def rdW (a : Int) (b : BitVec 8) : Int := wrap64 (wrap64 (a * 256) + wrap64 (bI b))
theorem rdW_nat (n : Nat) (b : BitVec 8) (h : n < 1099511627776) : rdW (n : Int) b = ((n * 256 + b.toNat : Nat) : Int) := by
  have := b.isLt
  unfold rdW bI wrap64
  omega
theorem read_loop (xs : List (BitVec 8)) (s n : Nat) (hs : s + n ≤ xs.length) (hl : xs.length < 1099511627776) (d : Nat) : ∀ (k j : Nat) (acc : Int), j + d = n → d < k → spec_l1Read.l0 k (bL xs) (s : Int) (n : Int) acc (j : Int) = some (((xs.drop (s + j)).take d).foldl rdW acc) := by
  induction d with
  | zero =>
    intro k j acc hi hk
    obtain ⟨k, rfl⟩ : ∃ m, k = m + 1 := ⟨k - 1, by omega⟩
    simp only [spec_l1Read.l0]
    rw [if_neg (by omega)]
    simp
  | succ d ih =>
    intro k j acc hi hk
    obtain ⟨k, rfl⟩ : ∃ m, k = m + 1 := ⟨k - 1, by omega⟩
    have hw : wrap64 ((j : Int) + 1) = ((j + 1 : Nat) : Int) := by unfold wrap64; omega
    have hv9_ : wrap64 ((s : Int) + (j : Int)) = ((s + j : Nat) : Int) := by unfold wrap64; omega
    have hx : xs.drop (s + j) = xs.getD (s + j) 0#8 :: xs.drop (s + j + 1) := by
      rw [List.drop_eq_getElem_cons (by omega), List.getD_eq_getElem?_getD, List.getElem?_eq_getElem (by omega)]
      rfl
    simp only [spec_l1Read.l0, bL_length, hv9_]
    rw [if_pos (by omega), if_pos (by omega), if_pos (by omega), rd_bL, Int.toNat_natCast, hw, ih k (j + 1) _ (by omega) (by omega), hx]
    rfl
theorem read_at (k : Nat) (xs : List (BitVec 8)) (s n : Nat) (hs : s + n ≤ xs.length) (hl : xs.length < 1099511627776) (hk : n < k) : spec_l1Read.f k (bL xs) (s : Int) (n : Int) = some (((xs.drop s).take n).foldl rdW 0) := by
  unfold spec_l1Read.f
  exact read_loop xs s n hs hl n k 0 0 (by omega) hk
/-! ### a number read from bytes, by the program -/

end Go.Proofs.Ytjfdcabgbcbdjaa.All
