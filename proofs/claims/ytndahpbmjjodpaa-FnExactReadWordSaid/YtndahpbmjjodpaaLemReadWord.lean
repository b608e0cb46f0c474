import Derived.Test.YtndahpbmjjodpaaAllx0
import Derived.Test.YtndahpbmjjodpaaAllx23
import Derived.Test.YtndahpbmjjodpaaAllx33
import Derived.Test.YtndahpbmjjodpaaAllx40
import Derived.Test.YtndahpbmjjodpaaAllx5
import Derived.Test.YtndahpbmjjodpaaLemRead
import Derived.Test.YtndahpbmjjodpaaLemWord
set_option linter.unusedVariables false
set_option linter.unusedSimpArgs false
namespace Go.Proofs.Ytndahpbmjjodpaa.All
open Go.RowKit Go.Proofs.Ytndahpbmjjodpaa.All Go.Proofs.YtndahpbmjjodpaaW.PrintWords Go.Proofs.YtndahpbmjjodpaaW.PrintLast Go.Proofs.YtndahpbmjjodpaaW.PrintMore
theorem readWord_at (K : Nat) (hK : K > 100) (xs : List (BitVec 8)) (hx : xs.length ≤ 1048576) (s n : Int) (hs : (Lit.int .i64 s).wf = true) (hn : (Lit.int .i64 n).wf = true) : ∃ c v, spec_ReadWord.f K (bL xs) s n = some (c, v) ∧ impl_ReadWord.f K (bL xs) s n = some (c, v) := by
  have hs2 : -9223372036854775808 ≤ s ∧ s ≤ 9223372036854775807 := by
    simp [Lit.wf, IntKind.min, IntKind.max, IntKind.bits, IntKind.signed] at hs
    exact ⟨by omega, by omega⟩
  obtain ⟨K, rfl⟩ : ∃ m, K = m + 1 := ⟨K - 1, by omega⟩
  have bad : ∀ b, b = true → spec_ReadWord.j0 (K + 1) (bL xs) s n b = some (3, 0) := by
    intro b hb
    simp only [spec_ReadWord.j0]
    rw [if_pos hb]
  have bad2 : ∀ b, b = true → impl_ReadWord.j0 (K + 1) (bL xs) s n b = some (3, 0) := by
    intro b hb
    simp only [impl_ReadWord.j0]
    rw [if_pos hb]
    rfl
  unfold spec_ReadWord.f impl_ReadWord.f spec_l1In.f impl_in.f
  rw [bL_length]
  by_cases h1 : n ≥ 1
  · rw [if_pos h1]
    simp only [Option.bind_some]
    by_cases h8 : n ≤ 8
    · rw [if_pos (decide_eq_true h8), if_pos (decide_eq_true h8)]
      by_cases hneg : s < 0
      · rw [if_pos hneg, if_pos hneg, bad _ rfl, bad2 _ rfl]
        exact ⟨3, 0, rfl, rfl⟩
      · rw [if_neg hneg, if_neg hneg]
        have w1 : wrap64 ((xs.length : Int) - n) = (xs.length : Int) - n := by unfold wrap64; omega
        rw [w1]
        by_cases hgt : s > (xs.length : Int)
        · rw [if_pos hgt, bad _ (decide_eq_true (by omega)), bad2 _ rfl]
          exact ⟨3, 0, rfl, rfl⟩
        · rw [if_neg hgt]
          have w2 : wrap64 ((xs.length : Int) - s) = (xs.length : Int) - s := by unfold wrap64; omega
          rw [w2]
          by_cases hin : s > (xs.length : Int) - n
          · rw [bad _ (decide_eq_true hin), bad2 _ (decide_eq_true (by omega))]
            exact ⟨3, 0, rfl, rfl⟩
          · rw [decide_eq_false hin, decide_eq_false (show ¬ ((xs.length : Int) - s < n) by omega)]
            obtain ⟨a, rfl⟩ : ∃ a : Nat, s = (a : Int) := ⟨s.toNat, by omega⟩
            obtain ⟨m, rfl⟩ : ∃ m : Nat, n = (m : Int) := ⟨n.toNat, by omega⟩
            have w3 : wrap64 ((a : Int) + (m : Int)) = ((a + m : Nat) : Int) := by unfold wrap64; omega
            have ys : ((bL xs).take (a + m)).drop a = bL ((xs.drop a).take m) := by
              rw [bL_take, bL_drop, List.drop_take, show a + m - a = m by omega]
            have hl : ((xs.drop a).take m).length = m := by rw [List.length_take, List.length_drop]; omega
            have hi : impl_ReadWord.j0 (K + 1) (bL xs) (a : Int) (m : Int) false = wordEnd (numN 0 ((xs.drop a).take m)) := by
              simp only [impl_ReadWord.j0, bL_length, w3]
              rw [if_neg (by simp), if_pos (by omega), if_pos (by omega), if_pos (by omega), Int.toNat_natCast, Int.toNat_natCast, ys, bL_length]
              have h := word_loop ((xs.drop a).take m) (by omega) m K 0 0 (by omega) (by omega) (by simp)
              rw [List.drop_zero] at h
              exact h
            rw [hi]
            have hread := read_at K xs a m (by omega) (by omega) (by omega)
            simp only [spec_ReadWord.j0, bL_length, hread, Option.bind_some, rd_bL, Int.toNat_natCast]
            rw [if_neg (by simp)]
            unfold wordEnd
            have hx2 : 1 ≤ m → xs.drop a = xs.getD a 0#8 :: xs.drop (a + 1) := fun _ => by
              rw [List.drop_eq_getElem_cons (by omega), List.getD_eq_getElem?_getD, List.getElem?_eq_getElem (by omega)]
              rfl
            by_cases hm8 : m = 8
            · subst hm8
              rw [if_pos (by omega), if_pos (by omega), if_pos (by omega)]
              have hy : (xs.drop a).take 8 = xs.getD a 0#8 :: (xs.drop (a + 1)).take 7 := by rw [hx2 (by omega)]; rfl
              have hl7 : ((xs.drop (a + 1)).take 7).length = 7 := by rw [List.length_take, List.length_drop]; omega
              have hlo := numN_ge ((xs.drop (a + 1)).take 7) (0 * 256 + (xs.getD a 0#8).toNat)
              have hhi := numN_lt ((xs.drop (a + 1)).take 7) (0 * 256 + (xs.getD a 0#8).toNat) ((xs.getD a 0#8).toNat + 1) (by omega)
              rw [hl7] at hlo hhi
              by_cases hb : bI (xs.getD a 0#8) > 127
              · rw [if_pos hb]
                have hb2 : (xs.getD a 0#8).toNat > 127 := by unfold bI at hb; omega
                refine ⟨1, 0, rfl, ?_⟩
                rw [hy, numN_cons, if_pos (by omega)]
              · rw [if_neg hb]
                have hb2 : (xs.getD a 0#8).toNat ≤ 127 := by unfold bI at hb; omega
                refine ⟨0, _, rfl, ?_⟩
                have hf := rd_fold ((xs.drop (a + 1)).take 7) (0 * 256 + (xs.getD a 0#8).toNat) 128 (by omega) (by rw [hl7]; decide)
                rw [hy, numN_cons, if_neg (by omega), List.foldl_cons, show rdW 0 (xs.getD a 0#8) = ((0 * 256 + (xs.getD a 0#8).toNat : Nat) : Int) from rdW_nat 0 _ (by omega), hf]
            · rw [if_neg (by omega)]
              have hp : 256 ^ m ≤ 256 ^ 7 := Nat.pow_le_pow_right (by omega) (by omega)
              have hf := rd_fold ((xs.drop a).take m) 0 1 (by omega) (by rw [hl]; omega)
              have hlt := numN_lt ((xs.drop a).take m) 0 1 (by omega)
              rw [hl] at hlt
              refine ⟨0, _, rfl, ?_⟩
              rw [if_neg (by omega)]
              rw [← hf]
              rfl
    · have d8 : ¬ (decide (n ≤ 8) = true) := by simpa using h8
      rw [if_neg d8, if_neg d8, bad _ rfl, bad2 _ rfl]
      exact ⟨3, 0, rfl, rfl⟩
  · rw [if_neg h1]
    simp only [Option.bind_some]
    rw [if_neg (by simp), if_neg (by simp), bad _ rfl, bad2 _ rfl]
    exact ⟨3, 0, rfl, rfl⟩

end Go.Proofs.Ytndahpbmjjodpaa.All
