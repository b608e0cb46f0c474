-- Laid by wip/shake.py of this repo out of this claim's texts. Not trusted: Lean checks it.
import Derived.Test.YtkjgdndaepobiaaAllx0s
import Derived.Test.YtkjgdndaepobiaaAllx20s
import Derived.Test.YtkjgdndaepobiaaAllx174s
import Derived.Test.YtkjgdndaepobiaaAllx3s
import Derived.Test.YtkjgdndaepobiaaAllx4s
import Derived.Test.YtkjgdndaepobiaaAllx33s
import Derived.Test.YtkjgdndaepobiaaAllx173s
import Derived.Lib.Bytes
import Derived.Test.YtkjgdndaepobiaaAllx576s
import Derived.Test.YtkjgdndaepobiaaAllx547s
import Derived.Test.YtkjgdndaepobiaaAllx32s
import Derived.Test.YtkjgdndaepobiaaAllx156s
section
set_option linter.unusedVariables false
set_option linter.unusedSimpArgs false
namespace Go.Proofs.Ytkjgdndaepobiaa.All
open Go.RowKit Go.Proofs.Ytkjgdndaepobiaa.All Go.Proofs.YtkjgdndaepobiaaW.PrintWords Go.Proofs.YtkjgdndaepobiaaW.PrintLast Go.Proofs.YtkjgdndaepobiaaW.PrintMore
theorem wr0 (x : Int) (h0 : 0 ≤ x) (h1 : x < 9223372036854775808) : wrap64 x = x := by unfold wrap64; omega
theorem rd_byte (l : List Int) (hb : ∀ x ∈ l, 0 ≤ x ∧ x < 256) (i : Int) : 0 ≤ rd l i ∧ rd l i < 256 := by
 unfold rd
 rw [List.getD_eq_getElem?_getD]
 rcases Nat.lt_or_ge i.toNat l.length with h | h
 ·rw [List.getElem?_eq_getElem h]
  exact hb _ (List.getElem_mem h)
 ·rw [List.getElem?_eq_none h]
  simp
theorem tm (x m : Int) (hx : 0 ≤ x) (hm : 0 < m) : 0 ≤ Int.tmod x m ∧ Int.tmod x m < m := ⟨Int.tmod_nonneg m hx, Int.tmod_lt_of_pos x hm⟩
theorem next_at (l : List Int) (hb : ∀ x ∈ l, 0 ≤ x ∧ x < 256) (hl : l.length ≤ 1099511627776) (n m : Int) (h0 : 0 ≤ n) (h1 : n ≤ 1048576) (hm : 1 ≤ m) : ∃ v, spec_l1Next.f l n m = some (v, n + 1) ∧ 0 ≤ v ∧ v < m := by
 have e1 : wrap64 (n + 1) = n + 1 := wr0 _ (by omega) (by omega)
 have e2 : wrap64 (n + 1 - 1) = n := by rw [wr0 _ (by omega) (by omega)]; omega
 have e3 : wrap64 (n * 7) = n * 7 := wr0 _ (by omega) (by omega)
 have e4 : wrap64 (n + 2) = n + 2 := wr0 _ (by omega) (by omega)
 unfold spec_l1Next.f
 rw [e1, e2, e1, e4, e3]
 rw [if_neg (by omega)]
 by_cases hz : (l.length : Int) = 0
 ·rw [if_pos hz, if_neg (by omega)]
  exact ⟨_, rfl, tm _ _ (by omega) (by omega)⟩
 rw [if_neg hz]
 have t0 := tm n (l.length : Int) h0 (by omega)
 have t1 := tm (n + 1) (l.length : Int) (by omega) (by omega)
 have t2 := tm (n + 2) (l.length : Int) (by omega) (by omega)
 have b0 := rd_byte l hb (Int.tmod n (l.length : Int))
 have b1 := rd_byte l hb (Int.tmod (n + 1) (l.length : Int))
 have b2 := rd_byte l hb (Int.tmod (n + 2) (l.length : Int))
 have q0 : 0 ≤ Int.tdiv n (l.length : Int) ∧ Int.tdiv n (l.length : Int) ≤ 1048576 := by
  refine ⟨Int.tdiv_nonneg h0 (by omega), ?_⟩
  rw [Int.tdiv_eq_ediv_of_nonneg h0]
  have := Int.ediv_le_self (l.length : Int) h0
  omega
 rw [if_pos t0.1, if_pos t0.2]
 generalize rd l (Int.tmod n (l.length : Int)) = a at *
 generalize rd l (Int.tmod (n + 1) (l.length : Int)) = b at *
 generalize rd l (Int.tmod (n + 2) (l.length : Int)) = c at *
 generalize Int.tdiv n (l.length : Int) = q at *
 have w1 : wrap64 a = a := wr0 _ (by omega) (by omega)
 have w2 : wrap64 b = b := wr0 _ (by omega) (by omega)
 have w3 : wrap64 c = c := wr0 _ (by omega) (by omega)
 have w4 : wrap64 q = q := wr0 _ (by omega) (by omega)
 have w5 : wrap64 (q * 37) = q * 37 := wr0 _ (by omega) (by omega)
 have w6 : wrap64 (a + q * 37) = a + q * 37 := wr0 _ (by omega) (by omega)
 have w7 : wrap64 ((a + q * 37) * 251) = (a + q * 37) * 251 := wr0 _ (by omega) (by omega)
 have w8 : wrap64 (b * 13) = b * 13 := wr0 _ (by omega) (by omega)
 have w9 : wrap64 ((a + q * 37) * 251 + b * 13) = (a + q * 37) * 251 + b * 13 := wr0 _ (by omega) (by omega)
 have w10 : wrap64 ((a + q * 37) * 251 + b * 13 + n) = (a + q * 37) * 251 + b * 13 + n := wr0 _ (by omega) (by omega)
 have w11 : wrap64 (((a + q * 37) * 251 + b * 13 + n) * 257) = ((a + q * 37) * 251 + b * 13 + n) * 257 := wr0 _ (by omega) (by omega)
 have w12 : wrap64 (((a + q * 37) * 251 + b * 13 + n) * 257 + c) = ((a + q * 37) * 251 + b * 13 + n) * 257 + c := wr0 _ (by omega) (by omega)
 simp only [w1, w2, w3, w4, w5, w6, w7, w8, w9, w10, w11, w12]
 by_cases h2 : m > 200
 ·rw [if_pos h2, if_pos t1.1, if_pos t1.2]
  by_cases h6 : m > 60000
  ·rw [if_pos h6, if_pos t2.1, if_pos t2.2, if_neg (by omega)]
   exact ⟨_, rfl, tm _ _ (by omega) (by omega)⟩
  ·rw [if_neg h6, if_neg (by omega)]
   exact ⟨_, rfl, tm _ _ (by omega) (by omega)⟩
 ·rw [if_neg h2, if_neg (by omega), if_neg (by omega)]
  exact ⟨_, rfl, tm _ _ (by omega) (by omega)⟩
end Go.Proofs.Ytkjgdndaepobiaa.All
end
section
set_option linter.unusedVariables false
set_option linter.unusedSimpArgs false
namespace Go.Proofs.Ytkjgdndaepobiaa.All
open Go.RowKit Go.Proofs.Ytkjgdndaepobiaa.All Go.Proofs.YtkjgdndaepobiaaW.PrintWords Go.Proofs.YtkjgdndaepobiaaW.PrintLast Go.Proofs.YtkjgdndaepobiaaW.PrintMore
theorem mod_bI2 (v : Int) : ∃ b : BitVec 8, v % 256 = bI b := ⟨BitVec.ofNat 8 (v % 256).toNat, by rw [bI_ofNat _ (by omega)]; omega⟩
theorem pick_at2 (l : List Int) (hb : ∀ x ∈ l, 0 ≤ x ∧ x < 256) (hl : l.length ≤ 1099511627776) (n : Int) (h0 : 0 ≤ n) (h1 : n ≤ 1048576) (xs : List Int) (hx : 1 ≤ xs.length) : ∃ i : Int, spec_l1Pick.f l n xs = some (rd xs i, n + 1) ∧ 0 ≤ i ∧ i < xs.length := by
 unfold spec_l1Pick.f
 obtain ⟨v, hv9_, v0, v1⟩ := next_at l hb hl n (xs.length : Int) h0 h1 (by omega)
 rw [hv9_]
 refine ⟨v, ?_, v0, v1⟩
 simp only [Option.bind_some]
 rw [if_pos v0, if_pos v1]
theorem some_loop (l : List Int) (hb : ∀ x ∈ l, 0 ≤ x ∧ x < 256) (hl : l.length ≤ 1099511627776) : ∀ (d K : Nat) (n : Int) (acc : List (BitVec 8)), 0 ≤ n → n + d ≤ 1048576 → acc.length + d ≤ 1099511627776 → d < K → ∃ ys : List (BitVec 8), ys.length = acc.length + d ∧ spec_l1Some.l0 K (d : Int) (bL acc) l n = some (bL ys, n + d)
 | 0, K, n, acc, h0, h1, h2, hk => by
  obtain ⟨K, rfl⟩ : ∃ m, K = m + 1 := ⟨K - 1, by omega⟩
  refine ⟨acc, rfl, ?_⟩
  simp only [spec_l1Some.l0]
  rw [if_neg (by omega)]
  simp
 | d + 1, K, n, acc, h0, h1, h2, hk => by
  obtain ⟨K, rfl⟩ : ∃ m, K = m + 1 := ⟨K - 1, by omega⟩
  obtain ⟨v, hv9_, _, _⟩ := next_at l hb hl n 256 h0 (by omega) (by omega)
  obtain ⟨b, eb⟩ := mod_bI2 v
  obtain ⟨ys, hy, he⟩ := some_loop l hb hl d K (n + 1) (acc ++ [b]) (by omega) (by omega) (by rw [List.length_append, List.length_singleton]; omega) (by omega)
  refine ⟨ys, by rw [hy, List.length_append, List.length_singleton]; omega, ?_⟩
  have hw : wrap64 (((d + 1 : Nat) : Int) - 1) = (d : Int) := by unfold wrap64; omega
  simp only [spec_l1Some.l0]
  rw [if_pos (by omega), hv9_]
  simp only [Option.bind_some]
  rw [if_pos (by rw [bL_length]; omega), hw, eb, show bL acc ++ [bI b] = bL (acc ++ [b]) by rw [bL_append]; rfl, he]
  congr 2
  omega
theorem some_at (l : List Int) (hb : ∀ x ∈ l, 0 ≤ x ∧ x < 256) (hl : l.length ≤ 1099511627776) (K : Nat) (n a : Int) (h0 : 0 ≤ n) (h1 : n ≤ 1000) (ha : 0 ≤ a) (ha2 : a ≤ 1000) (hk : 1000 < K) : ∃ ys : List (BitVec 8), (ys.length : Int) = a ∧ spec_l1Some.f K l n a = some (bL ys, n + a) := by
 obtain ⟨d, rfl⟩ : ∃ d : Nat, a = d := ⟨a.toNat, by omega⟩
 obtain ⟨ys, hy, he⟩ := some_loop l hb hl d K n [] h0 (by omega) (by simp; omega) (by omega)
 exact ⟨ys, by rw [hy]; simp, he⟩
theorem pick_bnd (xs : List Int) (lo hi : Int) (hx : ∀ x ∈ xs, lo ≤ x ∧ x ≤ hi) (i : Int) (h0 : 0 ≤ i) (h1 : i < xs.length) : lo ≤ rd xs i ∧ rd xs i ≤ hi := by
 unfold rd
 rw [List.getD_eq_getElem?_getD, List.getElem?_eq_getElem (by omega)]
 exact hx _ (List.getElem_mem _)
theorem pick_some (l : List Int) (hb : ∀ x ∈ l, 0 ≤ x ∧ x < 256) (hl : l.length ≤ 1099511627776) (K : Nat) (hk : 1000 < K) (n : Int) (h0 : 0 ≤ n) (h1 : n ≤ 900) (xs : List Int) (hx0 : 1 ≤ xs.length) (hx : ∀ x ∈ xs, (0 : Int) ≤ x ∧ x ≤ 900) :
  ∃ (a : Int) (ys : List (BitVec 8)), 0 ≤ a ∧ a ≤ 900 ∧ (∃ i : Int, 0 ≤ i ∧ i < xs.length ∧ a = rd xs i) ∧ (ys.length : Int) = a ∧ spec_l1Pick.f l n xs = some (a, n + 1) ∧ spec_l1Some.f K l (n + 1) a = some (bL ys, n + 1 + a) := by
 obtain ⟨i, hi, i0, i1⟩ := pick_at2 l hb hl n h0 (by omega) xs hx0
 have hr := pick_bnd xs 0 900 hx i i0 i1
 obtain ⟨ys, hy, he⟩ := some_at l hb hl K (n + 1) (rd xs i) (by omega) (by omega) (by omega) (by omega) hk
 exact ⟨_, ys, hr.1, hr.2, ⟨i, i0, i1, rfl⟩, hy, hi, he⟩
end Go.Proofs.Ytkjgdndaepobiaa.All
end
section
set_option linter.unusedVariables false
set_option linter.unusedSimpArgs false
namespace Go.Proofs.Ytkjgdndaepobiaa.All
open Go.RowKit Go.Proofs.Ytkjgdndaepobiaa.All Go.Proofs.YtkjgdndaepobiaaW.PrintWords Go.Proofs.YtkjgdndaepobiaaW.PrintLast Go.Proofs.YtkjgdndaepobiaaW.PrintMore
def xorN (a b : List (BitVec 8)) : List (BitVec 8) := tab (min a.length b.length) fun i => by_ a i ^^^ by_ b i
theorem xorN_length (a b : List (BitVec 8)) : (xorN a b).length = min a.length b.length := tab_length _ _
theorem lwXorN_loop (a b : List (BitVec 8)) (ha : a.length < 1099511627776) (hb : b.length < 1099511627776) : ∀ (d K i : Nat), i + d = min a.length b.length → d < K → laws_lwXor.l0 K (bL a) (bL b) (bL ((xorN a b).take i)) (i : Int) = some (bL (xorN a b))
 | 0, K, i, hi, hk => by
  obtain ⟨K, rfl⟩ : ∃ m, K = m + 1 := ⟨K - 1, by omega⟩
  have e : (xorN a b).take i = xorN a b := List.take_of_length_le (by rw [xorN_length]; omega)
  simp only [laws_lwXor.l0]
  rw [e]
  by_cases h : (i : Int) < ((bL a).length : Int)
  ·rw [if_pos h, if_neg (by rw [bL_length] at h ⊢; omega)]
  ·rw [if_neg h]
 | d + 1, K, i, hi, hk => by
  obtain ⟨K, rfl⟩ : ∃ m, K = m + 1 := ⟨K - 1, by omega⟩
  have ih := lwXorN_loop a b ha hb d K (i + 1) (by omega) (by omega)
  have hl : i < (xorN a b).length := by rw [xorN_length]; omega
  have e : by_ (xorN a b) i = by_ a i ^^^ by_ b i := tab_get _ _ _ (by omega)
  have es : (xorN a b).take (i + 1) = (xorN a b).take i ++ [by_ a i ^^^ by_ b i] := by
   rw [List.take_succ_eq_append_getElem hl, ← e]
   unfold by_
   rw [List.getD_eq_getElem?_getD, List.getElem?_eq_getElem hl]
   rfl
  have w1 : wrap64 ((i : Int) + 1) = ((i + 1 : Nat) : Int) := by unfold wrap64; omega
  rw [es, bL_append] at ih
  simp only [laws_lwXor.l0]
  rw [if_pos (by rw [bL_length]; omega), if_pos (by rw [bL_length]; omega), if_pos (by omega), if_pos (by rw [bL_length, List.length_take]; omega), w1, rd_bL, rd_bL, bI_xor, Int.toNat_natCast]
  exact ih
theorem lwXorN (K : Nat) (a b : List (BitVec 8)) (ha : a.length ≤ 1000) (hb : b.length ≤ 1000) (hK : 1001 < K) : laws_lwXor.f K (bL a) (bL b) = some (bL (xorN a b)) := by
 unfold laws_lwXor.f
 exact lwXorN_loop a b (by omega) (by omega) (min a.length b.length) K 0 (by omega) (by omega)
end Go.Proofs.Ytkjgdndaepobiaa.All
end
section
set_option linter.unusedVariables false
set_option linter.unusedSimpArgs false
namespace Go.Proofs.Ytkjgdndaepobiaa.All
open Go.RowKit Go.Proofs.Ytkjgdndaepobiaa.All Go.Proofs.YtkjgdndaepobiaaW.PrintWords Go.Proofs.YtkjgdndaepobiaaW.PrintLast Go.Proofs.YtkjgdndaepobiaaW.PrintMore
theorem twice_at (a : BitVec 8) : impl_twice.f (bI a) = some (bI (xt a)) := bI_xt a
end Go.Proofs.Ytkjgdndaepobiaa.All
end
section
set_option linter.unusedVariables false
set_option linter.unusedSimpArgs false
namespace Go.Proofs.Ytkjgdndaepobiaa.All
open Go.RowKit Go.Proofs.Ytkjgdndaepobiaa.All Go.Proofs.YtkjgdndaepobiaaW.PrintWords Go.Proofs.YtkjgdndaepobiaaW.PrintLast Go.Proofs.YtkjgdndaepobiaaW.PrintMore
theorem specC (n : Nat) : ∀ (k : Nat) (c : BitVec 8) (i : Nat), i = n + 1 → n ≤ 10 → n + 10 < k → spec_l2Constant.l0 k (i : Int) (bI c) = some (bI (rconFrom c n)) := by
 induction n with
 | zero =>
  intro k c i hi hn hk
  obtain ⟨k, rfl⟩ : ∃ m, k = m + 1 := ⟨k - 1, by omega⟩
  simp only [spec_l2Constant.l0]
  rw [if_neg (by omega)]
  rfl
 | succ n ih =>
  intro k c i hi hn hk
  obtain ⟨k, rfl⟩ : ∃ m, k = m + 1 := ⟨k - 1, by omega⟩
  have hw : wrap64 ((i : Int) - 1) = ((i - 1 : Nat) : Int) := by unfold wrap64; omega
  simp only [spec_l2Constant.l0]
  rw [if_pos (by omega), show (2 : Int) = bI 2#8 from rfl, spec_ft k (by omega), ft_two]
  simp only [Option.bind_some]
  rw [hw, ih k _ _ (by omega) (by omega) (by omega)]
  rfl
theorem implC (n : Nat) : ∀ (k : Nat) (c : BitVec 8) (i j : Nat), j + n = i → i ≤ 10 → n < k → impl_RoundConstant.l0 k (i : Int) (bI c) (j : Int) = some (0, bI (rconFrom c n)) := by
 induction n with
 | zero =>
  intro k c i j hi h10 hk
  obtain ⟨k, rfl⟩ : ∃ m, k = m + 1 := ⟨k - 1, by omega⟩
  have h0 := bI_lo c
  have h1 := bI_hi c
  have hw : wrap64 (bI c) = bI c := by unfold wrap64; omega
  simp only [impl_RoundConstant.l0]
  rw [if_neg (by omega), hw]
  rfl
 | succ n ih =>
  intro k c i j hi h10 hk
  obtain ⟨k, rfl⟩ : ∃ m, k = m + 1 := ⟨k - 1, by omega⟩
  have hw : wrap64 ((j : Int) + 1) = ((j + 1 : Nat) : Int) := by unfold wrap64; omega
  simp only [impl_RoundConstant.l0]
  rw [if_pos (by omega), twice_at]
  simp only [Option.bind_some]
  rw [hw, ih k _ _ _ (by omega) (by omega) (by omega)]
  rfl
theorem spec_rc (k : Nat) (hk : 30 ≤ k) (i : Nat) (h1 : 1 ≤ i) (h2 : i ≤ 10) : spec_RoundConstant.f k (i : Int) = some (0, bI (rcon (i - 1))) := by
 unfold spec_RoundConstant.f spec_l1In.f spec_l2Constant.f
 have h := specC (i - 1) k 1#8 i (by omega) (by omega) (by omega)
 have h0 := bI_lo (rcon (i - 1))
 have h3 := bI_hi (rcon (i - 1))
 have hw : wrap64 (bI (rcon (i - 1))) = bI (rcon (i - 1)) := by unfold wrap64; omega
 rw [rconFrom_one] at h
 rw [if_pos (by omega)]
 simp only [Option.bind_some, decide_eq_true_eq]
 rw [if_pos (by omega)]
 rw [show (1 : Int) = bI 1#8 from rfl, h]
 simp only [Option.bind_some]
 rw [hw]
theorem impl_rc (k : Nat) (hk : 30 ≤ k) (i : Nat) (h1 : 1 ≤ i) (h2 : i ≤ 10) : impl_RoundConstant.f k (i : Int) = some (0, bI (rcon (i - 1))) := by
 unfold impl_RoundConstant.f impl_in.f
 have h := implC (i - 1) k 1#8 i 1 (by omega) h2 (by omega)
 rw [rconFrom_one] at h
 rw [if_pos (by omega)]
 simp only [Option.bind_some, decide_eq_true_eq]
 rw [if_pos (by omega)]
 exact h
theorem spec_rc_no (k : Nat) (i : Int) (h : ¬ (1 ≤ i ∧ i ≤ 10)) : spec_RoundConstant.f k i = some (3, 0) := by
 unfold spec_RoundConstant.f spec_l1In.f
 by_cases h1 : i ≥ 1
 ·rw [if_pos h1]
  simp only [Option.bind_some, decide_eq_true_eq]
  rw [if_neg (by omega)]
 ·rw [if_neg h1]
  simp
theorem impl_rc_no (k : Nat) (i : Int) (h : ¬ (1 ≤ i ∧ i ≤ 10)) : impl_RoundConstant.f k i = some (3, 0) := by
 unfold impl_RoundConstant.f impl_in.f impl_noInt.f
 by_cases h1 : i ≥ 1
 ·rw [if_pos h1]
  simp only [Option.bind_some, decide_eq_true_eq]
  rw [if_neg (by omega)]
 ·rw [if_neg h1]
  simp
end Go.Proofs.Ytkjgdndaepobiaa.All
end
section
set_option linter.unusedVariables false
set_option linter.unusedSimpArgs false
namespace Go.Proofs.Ytkjgdndaepobiaa.All
open Go.RowKit Go.Proofs.Ytkjgdndaepobiaa.All Go.Proofs.YtkjgdndaepobiaaW.PrintWords Go.Proofs.YtkjgdndaepobiaaW.PrintLast Go.Proofs.YtkjgdndaepobiaaW.PrintMore
theorem bytesB_inj : ∀ (x y : List (BitVec 8)), ((bL x).map fun n => UInt8.ofNat n.toNat) = ((bL y).map fun n => UInt8.ofNat n.toNat) → x = y
 | [], [], _ => rfl
 | [], _ :: _, h => by simp [bL] at h
 | _ :: _, [], h => by simp [bL] at h
 | a :: x, b :: y, h => by
  simp only [bL_cons, List.map_cons, List.cons.injEq] at h
  have e := congrArg UInt8.toNat h.1
  have ha := a.isLt
  have hb := b.isLt
  have e2 : a.toNat = b.toNat := by
   unfold bI at e
   simp only [Int.toNat_natCast, UInt8.toNat_ofNat'] at e
   omega
  rw [BitVec.eq_of_toNat_eq e2, bytesB_inj x y h.2]
theorem strB (x y : List (BitVec 8)) : ((strOfNums (bL x)).toList = (strOfNums (bL y)).toList) ↔ x = y := by
 rw [Go.Lib.strOfNums_toList, Go.Lib.strOfNums_toList]
 exact ⟨bytesB_inj x y, fun e => by rw [e]⟩
end Go.Proofs.Ytkjgdndaepobiaa.All
end
section
set_option linter.unusedVariables false
set_option linter.unusedSimpArgs false
namespace Go.Proofs.Ytkjgdndaepobiaa.All
open Go.RowKit Go.Proofs.Ytkjgdndaepobiaa.All Go.Proofs.YtkjgdndaepobiaaW.PrintWords Go.Proofs.YtkjgdndaepobiaaW.PrintLast Go.Proofs.YtkjgdndaepobiaaW.PrintMore
theorem sameB (x y : List (BitVec 8)) : laws_lwSame.f (bL x) (bL y) = some (decide (x = y)) := by
 unfold laws_lwSame.f
 congr 1
 rw [Bool.eq_iff_iff, beq_iff_eq, decide_eq_true_iff]
 exact strB x y
end Go.Proofs.Ytkjgdndaepobiaa.All
end
section
set_option linter.unusedVariables false
set_option linter.unusedSimpArgs false
namespace Go.Proofs.Ytkjgdndaepobiaa.All
open Go.RowKit Go.Proofs.Ytkjgdndaepobiaa.All Go.Proofs.YtkjgdndaepobiaaW.PrintWords Go.Proofs.YtkjgdndaepobiaaW.PrintLast Go.Proofs.YtkjgdndaepobiaaW.PrintMore
theorem l1Copy_self (l : List Int) (h : l.length < 1000000000000) : spec_l1Copy.f l = some l := by
 unfold spec_l1Copy.f
 simp only [Option.bind_some]
 rw [if_pos (by simp only [List.length_nil]; omega)]
 rfl
theorem words_loop (t : List (BitVec 8)) (ht : t.length = 176) (c : Int) : ∀ (d k i : Nat), i + d = 44 → d < k → spec_KeyWords.l0 k (bL t) (i : Int) c (wordsTo t i) = some (c, wordsTo t 44)
 | 0, k, i, hi, hk => by
  obtain ⟨k, rfl⟩ : ∃ m, k = m + 1 := ⟨k - 1, by omega⟩
  obtain rfl : i = 44 := by omega
  simp only [spec_KeyWords.l0]
  rw [if_neg (by omega)]
 | d + 1, k, i, hi, hk => by
  obtain ⟨k, rfl⟩ : ∃ m, k = m + 1 := ⟨k - 1, by omega⟩
  have ih := words_loop t ht c d k (i + 1) (by omega) (by omega)
  have w1 : wrap64 (4 * (i : Int)) = ((4 * i : Nat) : Int) := by unfold wrap64; omega
  have w2 : wrap64 (((4 * i : Nat) : Int) + 4) = ((4 * i + 4 : Nat) : Int) := by unfold wrap64; omega
  have w3 : wrap64 ((i : Int) + 1) = ((i + 1 : Nat) : Int) := by unfold wrap64; omega
  have hl : (bL t).length = 176 := by rw [bL_length]; exact ht
  have hw : (((bL t).take (4 * i + 4)).drop (4 * i)) = wordAt t i := rfl
  have hn : (wordAt t i).length = 4 := word_len t ht i (by omega)
  simp only [spec_KeyWords.l0]
  rw [if_pos (by omega), w1, w2, if_pos (by omega), if_pos (by omega), if_pos (by rw [hl]; omega), Int.toNat_natCast, Int.toNat_natCast, hw, l1Copy_self _ (by omega)]
  simp only [Option.bind_some]
  rw [if_pos (by rw [wordsTo_length]; omega), w3, wordsTo_next]
  exact ih
theorem keyWords_at (K : Nat) (hK : 100 ≤ K) (m : List (BitVec 8)) : ∃ (c : Int) (ws : List (List Int)), spec_KeyWords.f K (bL m) = some (c, ws) ∧ impl_KeyWords.f (bL m) = some (c, ws) ∧ (m.length = 16 ∧ c = 0 ∧ ws = wordsTo (schedL m) 44 ∨ c = 2 ∧ ws = []) := by
 unfold spec_KeyWords.f impl_KeyWords.f spec_l2Keys.f
 rw [if_pos (bL_isBs m), unB_bL]
 by_cases h : m.length = 16
 ·have hl : (bL m).length = 16 := by rw [bL_length]; exact h
  rw [if_pos (by rw [hl]; rfl), if_pos hl, if_pos ⟨bL_isBs m, hl⟩]
  simp only [Option.bind_some]
  refine ⟨0, wordsTo (schedL m) 44, ?_, rfl, .inl ⟨h, rfl, rfl⟩⟩
  exact words_loop (schedL m) (schedL_length m h) 0 44 K 0 rfl (by omega)
 ·have hl : ¬ (bL m).length = 16 := by rw [bL_length]; exact h
  rw [if_neg (by omega), if_neg hl]
  exact ⟨2, [], rfl, rfl, .inr ⟨rfl, rfl⟩⟩
theorem rd_words (m : List (BitVec 8)) (i : Nat) (h : i < 44) : rd_L2 (wordsTo m 44) (i : Int) = wordAt m i := by
 unfold rd_L2 wordsTo
 rw [Int.toNat_natCast, List.getD_eq_getElem?_getD, List.getElem?_map, List.getElem?_range h]
 rfl
end Go.Proofs.Ytkjgdndaepobiaa.All
end
