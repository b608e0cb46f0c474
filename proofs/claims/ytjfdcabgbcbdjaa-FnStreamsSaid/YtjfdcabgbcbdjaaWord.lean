/- Numbers of bytes, the high byte first. No Go program in it. -/
import Derived.Laws.BitsAllLaws
import Derived.Test.YtjfdcabgbcbdjaaAes
namespace Go.Proofs.Ytjfdcabgbcbdjaa
open Go.Proofs.YtjfdcabgbcbdjaaW.PrintWords
def numN (a : Nat) (m : List (BitVec 8)) : Nat := m.foldl (fun a b => a * 256 + b.toNat) a
theorem numN_cons (a : Nat) (b : BitVec 8) (m : List (BitVec 8)) : numN a (b :: m) = numN (a * 256 + b.toNat) m := rfl
theorem numN_lt : ∀ (m : List (BitVec 8)) (a n : Nat), a < n → numN a m < n * 256 ^ m.length
  | [], a, n, h => by simpa [numN] using h
  | b :: m, a, n, h => by
    have h1 := b.isLt
    have h2 := numN_lt m (a * 256 + b.toNat) (n * 256) (by omega)
    rw [numN_cons, List.length_cons, Nat.pow_succ]
    calc numN (a * 256 + b.toNat) m < n * 256 * 256 ^ m.length := h2
      _ = n * (256 ^ m.length * 256) := by rw [Nat.mul_assoc, Nat.mul_comm 256]
theorem numN_ge : ∀ (m : List (BitVec 8)) (a : Nat), a * 256 ^ m.length ≤ numN a m
  | [], a => by simp [numN]
  | b :: m, a => by
    have h2 := numN_ge m (a * 256 + b.toNat)
    rw [numN_cons, List.length_cons, Nat.pow_succ]
    calc a * (256 ^ m.length * 256) = a * 256 * 256 ^ m.length := by rw [Nat.mul_comm (256 ^ m.length), Nat.mul_assoc]
      _ ≤ (a * 256 + b.toNat) * 256 ^ m.length := Nat.mul_le_mul_right _ (by omega)
      _ ≤ _ := h2
theorem or_byte (a : Nat) (b : BitVec 8) : (a * 256) ||| b.toNat = a * 256 + b.toNat := by
  have h := Nat.two_pow_add_eq_or_of_lt (i := 8) b.isLt a
  rw [show (2 : Nat) ^ 8 = 256 from rfl, Nat.mul_comm 256 a] at h
  exact h.symm
theorem u64_in (n : Nat) (h : n < 18446744073709551616) : IntKind.u64.wrap (n : Int) = (n : Int) := by
  simp [IntKind.wrap, IntKind.bits, IntKind.signed]
  omega
theorem word_step (a : Nat) (b : BitVec 8) (h : a < 72057594037927936) : Go.bits .or .u64 (IntKind.u64.wrap ((a : Int) * 256)) (IntKind.u64.wrap (bI b)) = ((a * 256 + b.toNat : Nat) : Int) := by
  have hb := b.isLt
  have e1 : (a : Int) * 256 = ((a * 256 : Nat) : Int) := by omega
  rw [e1, u64_in _ (by omega)]
  unfold bI
  rw [u64_in _ (by omega), u64_or_nat _ _ (by omega) (by omega), or_byte]
theorem numN_snoc (a : Nat) (m : List (BitVec 8)) (b : BitVec 8) : numN a (m ++ [b]) = numN a m * 256 + b.toNat := by
  unfold numN
  rw [List.foldl_append]
  rfl
theorem numN_take (m : List (BitVec 8)) (i : Nat) (h : i < m.length) : numN 0 (m.take (i + 1)) = numN 0 (m.take i) * 256 + (by_ m i).toNat := by
  rw [List.take_succ_eq_append_getElem h, numN_snoc]
  unfold by_
  rw [List.getD_eq_getElem?_getD, List.getElem?_eq_getElem h]
  rfl
theorem numN_take_lt (m : List (BitVec 8)) (i : Nat) (h : i < 8) : numN 0 (m.take i) < 72057594037927936 := by
  have h1 := numN_lt (m.take i) 0 1 (by omega)
  have h2 : 256 ^ (m.take i).length ≤ 256 ^ 7 := Nat.pow_le_pow_right (by omega) (by rw [List.length_take]; omega)
  omega
theorem by_drop (m : List (BitVec 8)) (k i : Nat) : by_ (m.drop k) i = by_ m (k + i) := by
  unfold by_
  simp [List.getD_eq_getElem?_getD, List.getElem?_drop]
/-- A block as two words. -/
def hiN (m : List (BitVec 8)) : Nat := numN 0 (m.take 8)
def loN (m : List (BitVec 8)) : Nat := numN 0 ((m.drop 8).take 8)
def cE (h l : Nat) : Array Value := #[.int .u64 (h : Int), .int .u64 (l : Int)]
theorem cE_set0 (h l x : Nat) : (cE h l).setIfInBounds 0 (.int .u64 (x : Int)) = cE x l := rfl
theorem cE_set1 (h l x : Nat) : (cE h l).setIfInBounds 1 (.int .u64 (x : Int)) = cE h x := rfl
theorem cE_one (h l : Nat) : (cE h l).all (·.oneCell') = true := by simp [cE, Value.oneCell']
/-- Two words as a block, the last n bytes of each laid. -/
theorem cE_shift (h l n : Nat) : (#[.int .u64 (((h / 256 ^ n : Nat) : Int) / 256), .int .u64 (((l / 256 ^ n : Nat) : Int) / 256)] : Array Value) = cE (h / 256 ^ (n + 1)) (l / 256 ^ (n + 1)) := by
  unfold cE
  rw [Nat.pow_succ, ← Nat.div_div_eq_div_mul, ← Nat.div_div_eq_div_mul]
  rfl
def outAt (h l j : Nat) : BitVec 8 := if j < 8 then BitVec.ofNat 8 (h / 256 ^ (7 - j)) else BitVec.ofNat 8 (l / 256 ^ (15 - j))
def outL (h l n : Nat) : List (BitVec 8) := tab 16 fun j => if 8 - n ≤ j % 8 then outAt h l j else 0#8
theorem outL_length (h l n : Nat) : (outL h l n).length = 16 := tab_length _ _
theorem outL_zero (h l : Nat) : outL h l 0 = tab 16 fun _ => 0#8 := tab_congr fun j _ => by rw [if_neg (by omega)]
theorem byte_of (x : Nat) : ((x : Nat) : Int) % 256 = bI (BitVec.ofNat 8 x) := by
  unfold bI
  rw [BitVec.toNat_ofNat]
  omega
theorem tab_set (n : Nat) (f : Nat → BitVec 8) (i : Nat) (b : BitVec 8) (h : i < n) : (tab n f).set i b = tab n fun j => if j = i then b else f j := by
  apply List.ext_getElem?
  intro j
  unfold tab
  rw [List.getElem?_set, List.getElem?_map]
  by_cases e : i = j
  · subst e
    simp [h]
  · rw [if_neg e]
    rcases Nat.lt_or_ge j n with hj | hj
    · have e2 : ¬ j = i := fun q => e q.symm
      simp [List.getElem?_range hj, e2]
    · rw [List.getElem?_eq_none (by simpa using hj), List.getElem?_eq_none (by simpa using hj)]
      rfl
theorem outL_set (h l n : Nat) (hn : n < 8) : (((outL h l n).set (7 - n) (BitVec.ofNat 8 (h / 256 ^ n))).set (7 - n + 8) (BitVec.ofNat 8 (l / 256 ^ n))) = outL h l (n + 1) := by
  unfold outL
  rw [tab_set _ _ _ _ (by omega), tab_set _ _ _ _ (by omega)]
  refine tab_congr fun j hj => ?_
  by_cases h1 : j = 7 - n + 8
  · subst h1
    rw [if_pos rfl, if_pos (by omega)]
    unfold outAt
    rw [if_neg (by omega), show 15 - (7 - n + 8) = n by omega]
  · rw [if_neg h1]
    by_cases h2 : j = 7 - n
    · subst h2
      rw [if_pos rfl, if_pos (by omega)]
      unfold outAt
      rw [if_pos (by omega), show 7 - (7 - n) = n by omega]
    · rw [if_neg h2]
      by_cases h3 : 8 - n ≤ j % 8
      · rw [if_pos h3, if_pos (by omega)]
      · rw [if_neg h3, if_neg (by omega)]
end Go.Proofs.Ytjfdcabgbcbdjaa
