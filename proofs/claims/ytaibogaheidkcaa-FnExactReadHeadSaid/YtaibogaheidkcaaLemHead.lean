import Derived.Test.YtaibogaheidkcaaAllx0
import Derived.Test.YtaibogaheidkcaaAllx33
import Derived.Test.YtaibogaheidkcaaAllx26
import Derived.Test.YtaibogaheidkcaaAllx42
import Derived.Test.YtaibogaheidkcaaAllx51
import Derived.Test.YtaibogaheidkcaaAllx27
import Derived.Test.YtaibogaheidkcaaAllx52
import Derived.Test.YtaibogaheidkcaaAllx520
import Derived.Test.YtaibogaheidkcaaAllx5
import Derived.Test.YtaibogaheidkcaaAllx113
import Derived.Test.YtaibogaheidkcaaLemRead
set_option linter.unusedVariables false
set_option linter.unusedSimpArgs false
namespace Go.Proofs.Ytaibogaheidkcaa.All
open Go.RowKit Go.Proofs.Ytaibogaheidkcaa.All Go.Proofs.YtaibogaheidkcaaW.PrintWords Go.Proofs.YtaibogaheidkcaaW.PrintLast Go.Proofs.YtaibogaheidkcaaW.PrintMore
/-! ### a letter's head, as both read it -/
theorem implWord8 (K : Nat) (hK : K > 100) (xs : List (BitVec 8)) (hx : xs.length ≤ 1048576) (h11 : 11 ≤ xs.length) : impl_ReadWord.f K (bL xs) ((3 : Nat) : Int) ((8 : Nat) : Int) = wordEnd (numN 0 ((xs.drop 3).take 8)) := by
  obtain ⟨K, rfl⟩ : ∃ m, K = m + 1 := ⟨K - 1, by omega⟩
  have ys : ((bL xs).take (3 + 8)).drop 3 = bL ((xs.drop 3).take 8) := by rw [bL_take, bL_drop, List.drop_take]
  have hl : ((xs.drop 3).take 8).length = 8 := by rw [List.length_take, List.length_drop]; omega
  have w3 : wrap64 (((3 : Nat) : Int) + ((8 : Nat) : Int)) = ((3 + 8 : Nat) : Int) := by decide +kernel
  have w2 : wrap64 ((xs.length : Int) - ((3 : Nat) : Int)) = (xs.length : Int) - ((3 : Nat) : Int) := by unfold wrap64; omega
  unfold impl_ReadWord.f impl_in.f
  rw [bL_length, if_pos (by omega), w2]
  simp only [Option.bind_some]
  rw [if_pos (decide_eq_true (by omega)), if_neg (by omega), if_neg (by omega), decide_eq_false (by omega)]
  simp only [impl_ReadWord.j0, bL_length, w3]
  rw [if_neg (by simp), if_pos (by omega), if_pos (by omega), if_pos (by omega), Int.toNat_natCast, Int.toNat_natCast, ys, bL_length]
  have h := word_loop ((xs.drop 3).take 8) (by omega) 8 K 0 0 (by omega) (by omega) (by simp)
  rw [List.drop_zero] at h
  exact h
theorem word8 (K : Nat) (hK : K > 100) (xs : List (BitVec 8)) (hx : xs.length ≤ 1048576) (h11 : 11 ≤ xs.length) :
    (bI (xs.getD 3 0#8) > 127 → impl_ReadWord.f K (bL xs) 3 8 = some (1, 0)) ∧ (¬ bI (xs.getD 3 0#8) > 127 → ∃ v, impl_ReadWord.f K (bL xs) 3 8 = some (0, v) ∧ spec_l1Read.f K (bL xs) 3 8 = some v) := by
  have hi := implWord8 K hK xs hx h11
  have hr := read_at K xs 3 8 (by omega) (by omega) (by omega)
  rw [show ((3 : Nat) : Int) = 3 from rfl, show ((8 : Nat) : Int) = 8 from rfl] at hi hr
  rw [hi, hr]
  have hy : (xs.drop 3).take 8 = xs.getD 3 0#8 :: (xs.drop 4).take 7 := by
    rw [List.drop_eq_getElem_cons (show 3 < xs.length by omega), List.getD_eq_getElem?_getD, List.getElem?_eq_getElem (by omega)]
    rfl
  have hl7 : ((xs.drop 4).take 7).length = 7 := by rw [List.length_take, List.length_drop]; omega
  have hlo := numN_ge ((xs.drop 4).take 7) (0 * 256 + (xs.getD 3 0#8).toNat)
  have hhi := numN_lt ((xs.drop 4).take 7) (0 * 256 + (xs.getD 3 0#8).toNat) ((xs.getD 3 0#8).toNat + 1) (by omega)
  rw [hl7] at hlo hhi
  unfold wordEnd
  refine ⟨fun hb => ?_, fun hb => ?_⟩
  · have hb2 : (xs.getD 3 0#8).toNat > 127 := by unfold bI at hb; omega
    rw [hy, numN_cons, if_pos (by omega)]
  · have hb2 : (xs.getD 3 0#8).toNat ≤ 127 := by unfold bI at hb; omega
    have hf := rd_fold ((xs.drop 4).take 7) (0 * 256 + (xs.getD 3 0#8).toNat) 128 (by omega) (by rw [hl7]; decide)
    refine ⟨_, by rw [hy, numN_cons, if_neg (by omega)], ?_⟩
    rw [hy, List.foldl_cons, show rdW 0 (xs.getD 3 0#8) = ((0 * 256 + (xs.getD 3 0#8).toNat : Nat) : Int) from rdW_nat 0 _ (by omega), hf]
theorem fault_at (K : Nat) (a b c : Int) : ∃ t, (impl_LetterFault.f (K + 1) a b c [] = some (if t = true then 0 else 3)) ∧ spec_l5Head.f a b c [] = some (t, a, b, c) := by
  have hj : ∀ z, impl_LetterFault.j0 (K + 1) z a b c [] = some (if z = true then 3 else 0) := by
    intro z
    simp only [impl_LetterFault.j0]
    cases z <;> simp
  unfold impl_LetterFault.f spec_l5Head.f impl_isKeyId.f
  have hin : ∀ x y z, spec_l1In.f x y z = impl_in.f x y z := fun _ _ _ => rfl
  have ht : ∀ x y z, ∃ t, impl_in.f x y z = some t := by
    intro x y z
    unfold impl_in.f
    split <;> exact ⟨_, rfl⟩
  obtain ⟨t0, h0⟩ := ht a 1 255
  obtain ⟨t1, h1⟩ := ht b 0 15
  obtain ⟨t2, h2⟩ := ht c 0 1000000000
  simp only [hin, h0, h1, h2, Option.bind_some, hj]
  cases t0 <;> cases t1 <;> cases t2 <;> simp
theorem head_at (K : Nat) (hK : K > 100) (xs : List (BitVec 8)) (hx : xs.length ≤ 1048576) : ∃ c a b d, spec_ReadHead.f K (bL xs) = some (c, a, b, d, []) ∧ impl_ReadHead.f K (bL xs) = some (c, a, b, d, []) := by
  unfold spec_ReadHead.f impl_ReadHead.f
  rw [bL_length]
  by_cases h11 : (xs.length : Int) < 11
  · rw [if_pos h11, if_pos h11]
    exact ⟨_, _, _, _, rfl, rfl⟩
  rw [if_neg h11, if_neg h11, if_pos (show (0 : Int) < (xs.length : Int) by omega)]
  by_cases h1 : rd (bL xs) 0 = 1
  · rw [if_pos h1, if_pos h1]
    obtain ⟨w1, w2⟩ := word8 K hK xs hx (by omega)
    have h3 : rd (bL xs) 3 = bI (xs.getD 3 0#8) := by rw [rd_bL]; rfl
    by_cases hb : bI (xs.getD 3 0#8) > 127
    · rw [if_pos (by rw [h3]; exact hb), w1 hb]
      simp only [Option.bind_some]
      rw [if_pos (show (1 : Int) < (xs.length : Int) by omega), if_pos (show (2 : Int) < (xs.length : Int) by omega), if_neg (show ¬ ((1 : Int) = 0) by decide)]
      exact ⟨_, _, _, _, rfl, rfl⟩
    · obtain ⟨v, hv, hr⟩ := w2 hb
      obtain ⟨K, rfl⟩ : ∃ m, K = m + 1 := ⟨K - 1, by omega⟩
      obtain ⟨t, ht, hs⟩ := fault_at K (wrap64 (rd (bL xs) 1)) (wrap64 (rd (bL xs) 2)) v
      rw [if_neg (by rw [h3]; exact hb), hv, hr]
      simp only [Option.bind_some, ht, hs]
      rw [if_pos (show (1 : Int) < (xs.length : Int) by omega), if_pos (show (2 : Int) < (xs.length : Int) by omega)]
      cases t
      · exact ⟨3, 0, 0, 0, by simp, by simp⟩
      · exact ⟨0, wrap64 (rd (bL xs) 1), wrap64 (rd (bL xs) 2), v, by simp, by simp⟩
  · rw [if_neg h1, if_neg h1]
    exact ⟨_, _, _, _, rfl, rfl⟩

end Go.Proofs.Ytaibogaheidkcaa.All
