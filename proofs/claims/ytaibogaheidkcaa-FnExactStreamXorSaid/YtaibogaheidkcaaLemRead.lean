import Derived.Test.YtaibogaheidkcaaAllx0
import Derived.Test.YtaibogaheidkcaaAllx72
import Derived.Test.YtaibogaheidkcaaAllx5
set_option linter.unusedVariables false
set_option linter.unusedSimpArgs false
namespace Go.Proofs.Ytaibogaheidkcaa.All
open Go.RowKit Go.Proofs.Ytaibogaheidkcaa.All Go.Proofs.YtaibogaheidkcaaW.PrintWords Go.Proofs.YtaibogaheidkcaaW.PrintLast Go.Proofs.YtaibogaheidkcaaW.PrintMore
/-! ### the reference's reading of a number -/
def rdW (a : Int) (b : BitVec 8) : Int := wrap64 (wrap64 (a * 256) + wrap64 (bI b))
theorem rdW_nat (n : Nat) (b : BitVec 8) (h : n < 1099511627776) : rdW (n : Int) b = ((n * 256 + b.toNat : Nat) : Int) := by
  have := b.isLt
  unfold rdW bI wrap64
  omega
theorem read_loop (xs : List (BitVec 8)) (s n : Nat) (hs : s + n ≤ xs.length) (hl : xs.length < 1099511627776) (d : Nat) : ∀ (k j : Nat) (acc : Int), j + d = n → d < k → spec_l1Read.l0 k (bL xs) (s : Int) (n : Int) acc (j : Int) = some (((xs.drop (s + j)).take d).foldl rdW acc) := by
  induction d with
  | zero =>
    intro k j acc hi hk
    obtain ⟨k, rfl⟩ : ∃ m, k = m + 1 := ⟨k - 1, by omega⟩
    simp only [spec_l1Read.l0]
    rw [if_neg (by omega)]
    simp
  | succ d ih =>
    intro k j acc hi hk
    obtain ⟨k, rfl⟩ : ∃ m, k = m + 1 := ⟨k - 1, by omega⟩
    have hw : wrap64 ((j : Int) + 1) = ((j + 1 : Nat) : Int) := by unfold wrap64; omega
    have hv9_ : wrap64 ((s : Int) + (j : Int)) = ((s + j : Nat) : Int) := by unfold wrap64; omega
    have hx : xs.drop (s + j) = xs.getD (s + j) 0#8 :: xs.drop (s + j + 1) := by
      rw [List.drop_eq_getElem_cons (by omega), List.getD_eq_getElem?_getD, List.getElem?_eq_getElem (by omega)]
      rfl
    simp only [spec_l1Read.l0, bL_length, hv9_]
    rw [if_pos (by omega), if_pos (by omega), if_pos (by omega), rd_bL, Int.toNat_natCast, hw, ih k (j + 1) _ (by omega) (by omega), hx]
    rfl
theorem read_at (k : Nat) (xs : List (BitVec 8)) (s n : Nat) (hs : s + n ≤ xs.length) (hl : xs.length < 1099511627776) (hk : n < k) : spec_l1Read.f k (bL xs) (s : Int) (n : Int) = some (((xs.drop s).take n).foldl rdW 0) := by
  unfold spec_l1Read.f
  exact read_loop xs s n hs hl n k 0 0 (by omega) hk
/-! ### a number read from bytes, by the program -/
def wordEnd (v : Nat) : Option (Int × Int) := if v > 9223372036854775807 then some (1, 0) else some (0, (v : Int))
theorem word_loop (m : List (BitVec 8)) (hm : m.length ≤ 8) (d : Nat) : ∀ (k i a : Nat), i + d = m.length → d < k → a < 256 ^ i → impl_ReadWord.l0 k (a : Int) (bL m) (m.length : Int) (i : Int) = wordEnd (numN a (m.drop i)) := by
  induction d with
  | zero =>
    intro k i a hi hk ha
    obtain ⟨k, rfl⟩ : ∃ m, k = m + 1 := ⟨k - 1, by omega⟩
    have h8 : a < 256 ^ 8 := Nat.lt_of_lt_of_le ha (Nat.pow_le_pow_right (by omega) (by omega))
    simp only [impl_ReadWord.l0]
    rw [if_neg (by omega), List.drop_of_length_le (by omega)]
    unfold wordEnd
    show _ = if a > 9223372036854775807 then _ else _
    by_cases h : a > 9223372036854775807
    · rw [if_pos (by omega), if_pos h]
      rfl
    · rw [if_neg (by omega), if_neg h, show wrap64 (a : Int) = (a : Int) by unfold wrap64; omega]
      rfl
  | succ d ih =>
    intro k i a hi hk ha
    obtain ⟨k, rfl⟩ : ∃ m, k = m + 1 := ⟨k - 1, by omega⟩
    have h7 : a < 256 ^ 7 := Nat.lt_of_lt_of_le ha (Nat.pow_le_pow_right (by omega) (by omega))
    have hw : wrap64 ((i : Int) + 1) = ((i + 1 : Nat) : Int) := by unfold wrap64; omega
    have hx : m.drop i = m.getD i 0#8 :: m.drop (i + 1) := by
      rw [List.drop_eq_getElem_cons (by omega), List.getD_eq_getElem?_getD, List.getElem?_eq_getElem (by omega)]
      rfl
    have hb := (m.getD i 0#8).isLt
    simp only [impl_ReadWord.l0, bL_length]
    rw [if_pos (by omega), if_pos (by omega), if_pos (by omega), rd_bL, Int.toNat_natCast, hw, word_step a _ (by omega), ih k (i + 1) _ (by omega) (by omega) (by rw [Nat.pow_succ]; omega), hx, numN_cons]
theorem rd_fold : ∀ (m : List (BitVec 8)) (a n : Nat), a < n → n * 256 ^ m.length ≤ 9223372036854775808 → m.foldl rdW (a : Int) = (numN a m : Int)
  | [], a, n, _, _ => rfl
  | b :: m, a, n, h, hn => by
    have hb := b.isLt
    have hp : 1 ≤ 256 ^ m.length := Nat.pow_pos (by decide)
    have h1 : (a * 256 + b.toNat) < n * 256 := by omega
    have h2 : n * 256 * 256 ^ m.length ≤ 9223372036854775808 := by
      rw [List.length_cons, Nat.pow_succ, Nat.mul_comm (256 ^ m.length), ← Nat.mul_assoc] at hn
      exact hn
    have h3 : n * 256 ≤ 9223372036854775808 := Nat.le_trans (Nat.le_mul_of_pos_right _ hp) h2
    have hs : rdW (a : Int) b = ((a * 256 + b.toNat : Nat) : Int) := by
      clear hn hp h2
      have h1' : a * 256 + b.toNat < 9223372036854775808 := Nat.lt_of_lt_of_le h1 h3
      have h0' : a * 256 < 9223372036854775808 := Nat.lt_of_le_of_lt (Nat.le_add_right _ _) h1'
      clear h1 h3 h n
      unfold rdW bI
      have e1 : (a : Int) * 256 = ((a * 256 : Nat) : Int) := by omega
      have w0 : ∀ q : Nat, q < 9223372036854775808 → wrap64 (q : Int) = (q : Int) := fun q hq => by unfold wrap64; omega
      rw [e1, w0 (a * 256) h0', w0 b.toNat (by omega)]
      have e2 : ((a * 256 : Nat) : Int) + (b.toNat : Int) = ((a * 256 + b.toNat : Nat) : Int) := by omega
      rw [e2, w0 (a * 256 + b.toNat) h1']
    rw [List.foldl_cons, hs, numN_cons]
    exact rd_fold m (a * 256 + b.toNat) (n * 256) h1 h2

end Go.Proofs.Ytaibogaheidkcaa.All
