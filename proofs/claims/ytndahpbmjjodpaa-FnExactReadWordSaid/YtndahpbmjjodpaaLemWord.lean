import Derived.Test.YtndahpbmjjodpaaAllx0
import Derived.Test.YtndahpbmjjodpaaAllx5
import Derived.Test.YtndahpbmjjodpaaLemRead
set_option linter.unusedVariables false
set_option linter.unusedSimpArgs false
namespace Go.Proofs.Ytndahpbmjjodpaa.All
open Go.RowKit Go.Proofs.Ytndahpbmjjodpaa.All Go.Proofs.YtndahpbmjjodpaaW.PrintWords Go.Proofs.YtndahpbmjjodpaaW.PrintLast Go.Proofs.YtndahpbmjjodpaaW.PrintMore
/-! ### a number read from bytes, by the program -/
def numN (a : Nat) (m : List (BitVec 8)) : Nat := m.foldl (fun a b => a * 256 + b.toNat) a
theorem numN_cons (a : Nat) (b : BitVec 8) (m : List (BitVec 8)) : numN a (b :: m) = numN (a * 256 + b.toNat) m := rfl
theorem numN_lt : ∀ (m : List (BitVec 8)) (a n : Nat), a < n → numN a m < n * 256 ^ m.length
  | [], a, n, h => by simpa [numN] using h
  | b :: m, a, n, h => by
    have h1 := b.isLt
    have h2 := numN_lt m (a * 256 + b.toNat) (n * 256) (by omega)
    rw [numN_cons, List.length_cons, Nat.pow_succ]
    calc numN (a * 256 + b.toNat) m < n * 256 * 256 ^ m.length := h2
      _ = n * (256 ^ m.length * 256) := by rw [Nat.mul_assoc, Nat.mul_comm 256]
theorem numN_ge : ∀ (m : List (BitVec 8)) (a : Nat), a * 256 ^ m.length ≤ numN a m
  | [], a => by simp [numN]
  | b :: m, a => by
    have h2 := numN_ge m (a * 256 + b.toNat)
    rw [numN_cons, List.length_cons, Nat.pow_succ]
    calc a * (256 ^ m.length * 256) = a * 256 * 256 ^ m.length := by rw [Nat.mul_comm (256 ^ m.length), Nat.mul_assoc]
      _ ≤ (a * 256 + b.toNat) * 256 ^ m.length := Nat.mul_le_mul_right _ (by omega)
      _ ≤ _ := h2
theorem or_byte (a : Nat) (b : BitVec 8) : (a * 256) ||| b.toNat = a * 256 + b.toNat := by
  have h := Nat.two_pow_add_eq_or_of_lt (i := 8) b.isLt a
  rw [show (2 : Nat) ^ 8 = 256 from rfl, Nat.mul_comm 256 a] at h
  exact h.symm
theorem u64_in (n : Nat) (h : n < 18446744073709551616) : IntKind.u64.wrap (n : Int) = (n : Int) := by
  simp [IntKind.wrap, IntKind.bits, IntKind.signed]
  omega
theorem word_step (a : Nat) (b : BitVec 8) (h : a < 72057594037927936) : Go.bits .or .u64 (IntKind.u64.wrap ((a : Int) * 256)) (IntKind.u64.wrap (bI b)) = ((a * 256 + b.toNat : Nat) : Int) := by
  have hb := b.isLt
  have e1 : (a : Int) * 256 = ((a * 256 : Nat) : Int) := by omega
  rw [e1, u64_in _ (by omega)]
  unfold bI
  rw [u64_in _ (by omega), u64_or_nat _ _ (by omega) (by omega), or_byte]
def wordEnd (v : Nat) : Option (Int × Int) := if v > 9223372036854775807 then some (1, 0) else some (0, (v : Int))
theorem word_loop (m : List (BitVec 8)) (hm : m.length ≤ 8) (d : Nat) : ∀ (k i a : Nat), i + d = m.length → d < k → a < 256 ^ i → impl_ReadWord.l0 k (a : Int) (bL m) (m.length : Int) (i : Int) = wordEnd (numN a (m.drop i)) := by
  induction d with
  | zero =>
    intro k i a hi hk ha
    obtain ⟨k, rfl⟩ : ∃ m, k = m + 1 := ⟨k - 1, by omega⟩
    have h8 : a < 256 ^ 8 := Nat.lt_of_lt_of_le ha (Nat.pow_le_pow_right (by omega) (by omega))
    simp only [impl_ReadWord.l0]
    rw [if_neg (by omega), List.drop_of_length_le (by omega)]
    unfold wordEnd
    show _ = if a > 9223372036854775807 then _ else _
    by_cases h : a > 9223372036854775807
    · rw [if_pos (by omega), if_pos h]
      rfl
    · rw [if_neg (by omega), if_neg h, show wrap64 (a : Int) = (a : Int) by unfold wrap64; omega]
      rfl
  | succ d ih =>
    intro k i a hi hk ha
    obtain ⟨k, rfl⟩ : ∃ m, k = m + 1 := ⟨k - 1, by omega⟩
    have h7 : a < 256 ^ 7 := Nat.lt_of_lt_of_le ha (Nat.pow_le_pow_right (by omega) (by omega))
    have hw : wrap64 ((i : Int) + 1) = ((i + 1 : Nat) : Int) := by unfold wrap64; omega
    have hx : m.drop i = m.getD i 0#8 :: m.drop (i + 1) := by
      rw [List.drop_eq_getElem_cons (by omega), List.getD_eq_getElem?_getD, List.getElem?_eq_getElem (by omega)]
      rfl
    have hb := (m.getD i 0#8).isLt
    simp only [impl_ReadWord.l0, bL_length]
    rw [if_pos (by omega), if_pos (by omega), if_pos (by omega), rd_bL, Int.toNat_natCast, hw, word_step a _ (by omega), ih k (i + 1) _ (by omega) (by omega) (by rw [Nat.pow_succ]; omega), hx, numN_cons]
theorem rd_fold : ∀ (m : List (BitVec 8)) (a n : Nat), a < n → n * 256 ^ m.length ≤ 9223372036854775808 → m.foldl rdW (a : Int) = (numN a m : Int)
  | [], a, n, _, _ => rfl
  | b :: m, a, n, h, hn => by
    have hb := b.isLt
    have hp : 1 ≤ 256 ^ m.length := Nat.pow_pos (by decide)
    have h1 : (a * 256 + b.toNat) < n * 256 := by omega
    have h2 : n * 256 * 256 ^ m.length ≤ 9223372036854775808 := by
      rw [List.length_cons, Nat.pow_succ, Nat.mul_comm (256 ^ m.length), ← Nat.mul_assoc] at hn
      exact hn
    have h3 : n * 256 ≤ 9223372036854775808 := Nat.le_trans (Nat.le_mul_of_pos_right _ hp) h2
    have hs : rdW (a : Int) b = ((a * 256 + b.toNat : Nat) : Int) := by
      clear hn hp h2
      have h1' : a * 256 + b.toNat < 9223372036854775808 := Nat.lt_of_lt_of_le h1 h3
      have h0' : a * 256 < 9223372036854775808 := Nat.lt_of_le_of_lt (Nat.le_add_right _ _) h1'
      clear h1 h3 h n
      unfold rdW bI
      have e1 : (a : Int) * 256 = ((a * 256 : Nat) : Int) := by omega
      have w0 : ∀ q : Nat, q < 9223372036854775808 → wrap64 (q : Int) = (q : Int) := fun q hq => by unfold wrap64; omega
      rw [e1, w0 (a * 256) h0', w0 b.toNat (by omega)]
      have e2 : ((a * 256 : Nat) : Int) + (b.toNat : Int) = ((a * 256 + b.toNat : Nat) : Int) := by omega
      rw [e2, w0 (a * 256 + b.toNat) h1']
    rw [List.foldl_cons, hs, numN_cons]
    exact rd_fold m (a * 256 + b.toNat) (n * 256) h1 h2

end Go.Proofs.Ytndahpbmjjodpaa.All
