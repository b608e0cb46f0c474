import Derived.Test.YtofickldnpndbaaAllx0
import Derived.Test.YtofickldnpndbaaAllx20
import Derived.Test.YtofickldnpndbaaAllx75
import Derived.Test.YtofickldnpndbaaAllx5
import Derived.Test.YtofickldnpndbaaLemRead
set_option linter.unusedVariables false
set_option linter.unusedSimpArgs false
namespace Go.Proofs.Ytofickldnpndbaa.All
open Go.RowKit Go.Proofs.Ytofickldnpndbaa.All Go.Proofs.YtofickldnpndbaaW.PrintWords Go.Proofs.YtofickldnpndbaaW.PrintLast Go.Proofs.YtofickldnpndbaaW.PrintMore
/-! ### numbers and their bytes, both ways -/
def packB : Nat → Nat → List (BitVec 8)
  | _, 0 => []
  | v, m + 1 => packB (v / 256) m ++ [BitVec.ofNat 8 v]
theorem packB_length : ∀ m v, (packB v m).length = m
  | 0, v => rfl
  | m + 1, v => by rw [packB, List.length_append, packB_length m, List.length_singleton]
theorem packB_num : ∀ m v, numN 0 (packB v m) = v % 256 ^ m
  | 0, v => by simp [packB, numN]; omega
  | m + 1, v => by
    have p : 256 ^ (m + 1) = 256 * 256 ^ m := by rw [Nat.pow_succ, Nat.mul_comm]
    rw [packB, numN_snoc, packB_num m, BitVec.toNat_ofNat, p, Nat.mod_mul]
    generalize v / 256 % 256 ^ m = z
    omega
theorem num_packB : ∀ (n : Nat) (xs : List (BitVec 8)), xs.length = n → packB (numN 0 xs) n = xs
  | 0, xs, h => by rw [List.eq_nil_of_length_eq_zero h]; rfl
  | n + 1, xs, h => by
    obtain ⟨ys, b, rfl⟩ : ∃ ys b, xs = ys ++ [b] := by
      have hne : xs ≠ [] := by
        intro e
        rw [e] at h
        cases h
      exact ⟨xs.dropLast, xs.getLast hne, (List.dropLast_concat_getLast hne).symm⟩
    have hl : ys.length = n := by simpa using h
    have hb := b.isLt
    rw [packB, numN_snoc, show (numN 0 ys * 256 + b.toNat) / 256 = numN 0 ys by omega, num_packB n ys hl]
    congr 2
    apply BitVec.eq_of_toNat_eq
    rw [BitVec.toNat_ofNat]
    omega
theorem wordB_loop : ∀ (d K : Nat) (v : Nat) (ys : List Int), d ≤ ys.length → ys.length < 1099511627776 → v < 9223372036854775808 → d < K → impl_word.l0 K (v : Int) ys ((d : Int) - 1) = some (bL (packB v d) ++ ys.drop d)
  | 0, K, v, ys, h0, h1, hv, hk => by
    obtain ⟨K, rfl⟩ : ∃ m, K = m + 1 := ⟨K - 1, by omega⟩
    simp only [impl_word.l0]
    rw [if_neg (by omega)]
    rfl
  | d + 1, K, v, ys, h0, h1, hv, hk => by
    obtain ⟨K, rfl⟩ : ∃ m, K = m + 1 := ⟨K - 1, by omega⟩
    have hw : wrap64 (((d + 1 : Nat) : Int) - 1 - 1) = (d : Int) - 1 := by unfold wrap64; omega
    have hv2 : wrap64 (Int.tdiv (v : Int) 256) = ((v / 256 : Nat) : Int) := by
      rw [Int.tdiv_eq_ediv_of_nonneg (by omega)]; unfold wrap64; omega
    have hb : Int.tmod (v : Int) 256 % 256 = bI (BitVec.ofNat 8 v) := by
      rw [Int.tmod_eq_emod_of_nonneg (by omega), ← byte_of]
      omega
    have hd : (((d + 1 : Nat) : Int) - 1).toNat = d := by omega
    simp only [impl_word.l0]
    rw [if_pos (by omega), if_pos (by omega), if_pos (by omega), hw, hv2, hb, hd, wordB_loop d K (v / 256) _ (by rw [List.length_set]; omega) (by rw [List.length_set]; omega) (by omega) (by omega)]
    rw [List.drop_set, if_neg (by omega), Nat.sub_self, List.drop_eq_getElem_cons (show d < ys.length by omega), List.set_cons_zero, packB, bL_append, List.append_assoc]
    rfl
theorem wordB (K v m : Nat) (hm : m ≤ 8) (hv : v < 9223372036854775808) (hk : 8 < K) : impl_word.f K (v : Int) (m : Int) = some (bL (packB v m)) := by
  have hw : wrap64 ((m : Int) - 1) = (m : Int) - 1 := by unfold wrap64; omega
  unfold impl_word.f
  rw [if_pos (by omega), if_pos (by omega), hw, Int.toNat_natCast, wordB_loop m K v _ (by simp) (by simp; omega) hv (by omega)]
  rw [List.drop_of_length_le (by simp), List.append_nil]
theorem shl8 (m : Nat) (h1 : 1 ≤ m) (h8 : m < 8) : shl .i64 1 (wrap64 (8 * (m : Int))) = ((256 ^ m : Nat) : Int) := by
  have : m = 1 ∨ m = 2 ∨ m = 3 ∨ m = 4 ∨ m = 5 ∨ m = 6 ∨ m = 7 := by omega
  rcases this with rfl | rfl | rfl | rfl | rfl | rfl | rfl <;> decide +kernel
theorem packW (K : Nat) (hK : K > 100) (x n : Int) (hx : -9223372036854775808 ≤ x ∧ x ≤ 9223372036854775807) : (∃ v m : Nat, x = v ∧ n = m ∧ 1 ≤ m ∧ m ≤ 8 ∧ v < 256 ^ m ∧ impl_PackWord.f K x n = some (0, bL (packB v m))) ∨ (impl_PackWord.f K x n = some (3, []) ∧ ¬ (1 ≤ n ∧ n ≤ 8 ∧ 0 ≤ x ∧ (x.toNat : Nat) < 256 ^ n.toNat)) := by
  obtain ⟨K, rfl⟩ : ∃ m, K = m + 1 := ⟨K - 1, by omega⟩
  have bad2 : ∀ b, b = true → impl_PackWord.j0 (K + 1) x n b = some (3, []) := by
    intro b hb
    simp only [impl_PackWord.j0]
    rw [if_pos hb]
    rfl
  unfold impl_PackWord.f impl_in.f
  by_cases h1 : n ≥ 1
  · rw [if_pos h1]
    simp only [Option.bind_some]
    by_cases h8 : n ≤ 8
    · rw [if_pos (by simpa using h8)]
      by_cases hneg : x < 0
      · rw [if_pos hneg, bad2 _ rfl]
        exact .inr ⟨rfl, fun q => by omega⟩
      · rw [if_neg hneg]
        obtain ⟨v, rfl⟩ : ∃ v : Nat, x = (v : Int) := ⟨x.toNat, by omega⟩
        obtain ⟨m, rfl⟩ : ∃ m : Nat, n = (m : Int) := ⟨n.toNat, by omega⟩
        have good : impl_PackWord.j0 (K + 1) (v : Int) (m : Int) false = some (0, bL (packB v m)) := by
          simp only [impl_PackWord.j0]
          rw [wordB K v m (by omega) (by omega) (by omega)]
          rfl
        by_cases hm8 : (m : Int) < 8
        · rw [if_pos hm8, if_pos (show 0 ≤ wrap64 (8 * (m : Int)) by unfold wrap64; omega), shl8 m (by omega) (by omega)]
          by_cases hv : v < 256 ^ m
          · rw [decide_eq_false (by omega), good]
            exact .inl ⟨v, m, rfl, rfl, by omega, by omega, hv, rfl⟩
          · rw [bad2 _ (decide_eq_true (by omega))]
            exact .inr ⟨rfl, fun q => hv (by simpa using q.2.2.2)⟩
        · rw [if_neg hm8, good]
          obtain rfl : m = 8 := by omega
          exact .inl ⟨v, 8, rfl, rfl, by omega, by omega, by omega, rfl⟩
    · rw [if_neg (by simpa using h8), bad2 _ rfl]
      exact .inr ⟨rfl, fun q => by omega⟩
  · rw [if_neg h1]
    simp only [Option.bind_some]
    rw [if_neg (by simp), bad2 _ rfl]
    exact .inr ⟨rfl, fun q => by omega⟩
theorem readW (K : Nat) (hK : K > 100) (xs : List (BitVec 8)) (hx : xs.length ≤ 1048576) (s n : Int) (hs2 : -9223372036854775808 ≤ s ∧ s ≤ 9223372036854775807) : (∃ a m : Nat, s = a ∧ n = m ∧ 1 ≤ m ∧ m ≤ 8 ∧ a + m ≤ xs.length ∧ impl_ReadWord.f K (bL xs) s n = wordEnd (numN 0 ((xs.drop a).take m))) ∨ impl_ReadWord.f K (bL xs) s n = some (3, 0) := by
  obtain ⟨K, rfl⟩ : ∃ m, K = m + 1 := ⟨K - 1, by omega⟩
  have bad2 : ∀ b, b = true → impl_ReadWord.j0 (K + 1) (bL xs) s n b = some (3, 0) := by
    intro b hb
    simp only [impl_ReadWord.j0]
    rw [if_pos hb]
    rfl
  unfold impl_ReadWord.f impl_in.f
  rw [bL_length]
  by_cases h1 : n ≥ 1
  · rw [if_pos h1]
    simp only [Option.bind_some]
    by_cases h8 : n ≤ 8
    · rw [if_pos (decide_eq_true h8)]
      by_cases hneg : s < 0
      · rw [if_pos hneg, bad2 _ rfl]
        exact .inr rfl
      · rw [if_neg hneg]
        by_cases hgt : s > (xs.length : Int)
        · rw [if_pos hgt, bad2 _ rfl]
          exact .inr rfl
        · rw [if_neg hgt]
          have w2 : wrap64 ((xs.length : Int) - s) = (xs.length : Int) - s := by unfold wrap64; omega
          rw [w2]
          by_cases hin : s > (xs.length : Int) - n
          · rw [bad2 _ (decide_eq_true (by omega))]
            exact .inr rfl
          · rw [decide_eq_false (show ¬ ((xs.length : Int) - s < n) by omega)]
            obtain ⟨a, rfl⟩ : ∃ a : Nat, s = (a : Int) := ⟨s.toNat, by omega⟩
            obtain ⟨m, rfl⟩ : ∃ m : Nat, n = (m : Int) := ⟨n.toNat, by omega⟩
            have w3 : wrap64 ((a : Int) + (m : Int)) = ((a + m : Nat) : Int) := by unfold wrap64; omega
            have ys : ((bL xs).take (a + m)).drop a = bL ((xs.drop a).take m) := by
              rw [bL_take, bL_drop, List.drop_take, show a + m - a = m by omega]
            have hl : ((xs.drop a).take m).length = m := by rw [List.length_take, List.length_drop]; omega
            refine .inl ⟨a, m, rfl, rfl, by omega, by omega, by omega, ?_⟩
            simp only [impl_ReadWord.j0, bL_length, w3]
            rw [if_neg (by simp), if_pos (by omega), if_pos (by omega), if_pos (by omega), Int.toNat_natCast, Int.toNat_natCast, ys, bL_length]
            have h := word_loop ((xs.drop a).take m) (by omega) m K 0 0 (by omega) (by omega) (by simp)
            rw [List.drop_zero] at h
            exact h
    · rw [if_neg (show ¬ (decide (n ≤ 8) = true) by simpa using h8), bad2 _ rfl]
      exact .inr rfl
  · rw [if_neg h1]
    simp only [Option.bind_some]
    rw [if_neg (by simp), bad2 _ rfl]
    exact .inr rfl
theorem rd_le (xs : List Int) (lo hi : Int) (h : ∀ x ∈ xs, lo ≤ x ∧ x ≤ hi) (h0 : lo ≤ 0 ∧ 0 ≤ hi) (i : Int) : lo ≤ rd xs i ∧ rd xs i ≤ hi := by
  unfold rd
  rw [List.getD_eq_getElem?_getD]
  rcases Nat.lt_or_ge i.toNat xs.length with q | q
  · rw [List.getElem?_eq_getElem q]
    exact h _ (List.getElem_mem q)
  · rw [List.getElem?_eq_none q]
    exact h0

end Go.Proofs.Ytofickldnpndbaa.All
