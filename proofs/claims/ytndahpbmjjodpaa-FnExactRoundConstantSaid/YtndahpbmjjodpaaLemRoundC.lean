import Derived.Test.YtndahpbmjjodpaaAllx0
import Derived.Test.YtndahpbmjjodpaaAllx26
import Derived.Test.YtndahpbmjjodpaaAllx33
import Derived.Test.YtndahpbmjjodpaaAllx37
import Derived.Test.YtndahpbmjjodpaaAllx38
import Derived.Test.YtndahpbmjjodpaaAllx39
import Derived.Test.YtndahpbmjjodpaaAllx4
import Derived.Test.YtndahpbmjjodpaaLemField
set_option linter.unusedVariables false
set_option linter.unusedSimpArgs false
namespace Go.Proofs.Ytndahpbmjjodpaa.All
open Go.RowKit Go.Proofs.Ytndahpbmjjodpaa.All Go.Proofs.YtndahpbmjjodpaaW.PrintWords Go.Proofs.YtndahpbmjjodpaaW.PrintLast Go.Proofs.YtndahpbmjjodpaaW.PrintMore
/-! ### the round constants -/
theorem specC (n : Nat) : ∀ (k : Nat) (c : BitVec 8) (i : Nat), i = n + 1 → n ≤ 10 → n + 10 < k → spec_l2Constant.l0 k (i : Int) (bI c) = some (bI (rconFrom c n)) := by
  induction n with
  | zero =>
    intro k c i hi hn hk
    obtain ⟨k, rfl⟩ : ∃ m, k = m + 1 := ⟨k - 1, by omega⟩
    simp only [spec_l2Constant.l0]
    rw [if_neg (by omega)]
    rfl
  | succ n ih =>
    intro k c i hi hn hk
    obtain ⟨k, rfl⟩ : ∃ m, k = m + 1 := ⟨k - 1, by omega⟩
    have hw : wrap64 ((i : Int) - 1) = ((i - 1 : Nat) : Int) := by unfold wrap64; omega
    simp only [spec_l2Constant.l0]
    rw [if_pos (by omega), show (2 : Int) = bI 2#8 from rfl, spec_ft k (by omega), ft_two]
    simp only [Option.bind_some]
    rw [hw, ih k _ _ (by omega) (by omega) (by omega)]
    rfl
theorem implC (n : Nat) : ∀ (k : Nat) (c : BitVec 8) (i j : Nat), j + n = i → i ≤ 10 → n < k → impl_RoundConstant.l0 k (i : Int) (bI c) (j : Int) = some (0, bI (rconFrom c n)) := by
  induction n with
  | zero =>
    intro k c i j hi h10 hk
    obtain ⟨k, rfl⟩ : ∃ m, k = m + 1 := ⟨k - 1, by omega⟩
    have h0 := bI_lo c
    have h1 := bI_hi c
    have hw : wrap64 (bI c) = bI c := by unfold wrap64; omega
    simp only [impl_RoundConstant.l0]
    rw [if_neg (by omega), hw]
    rfl
  | succ n ih =>
    intro k c i j hi h10 hk
    obtain ⟨k, rfl⟩ : ∃ m, k = m + 1 := ⟨k - 1, by omega⟩
    have hw : wrap64 ((j : Int) + 1) = ((j + 1 : Nat) : Int) := by unfold wrap64; omega
    simp only [impl_RoundConstant.l0]
    rw [if_pos (by omega), twice_at]
    simp only [Option.bind_some]
    rw [hw, ih k _ _ _ (by omega) (by omega) (by omega)]
    rfl
theorem spec_rc (k : Nat) (hk : 30 ≤ k) (i : Nat) (h1 : 1 ≤ i) (h2 : i ≤ 10) : spec_RoundConstant.f k (i : Int) = some (0, bI (rcon (i - 1))) := by
  unfold spec_RoundConstant.f spec_l1In.f spec_l2Constant.f
  have h := specC (i - 1) k 1#8 i (by omega) (by omega) (by omega)
  have h0 := bI_lo (rcon (i - 1))
  have h3 := bI_hi (rcon (i - 1))
  have hw : wrap64 (bI (rcon (i - 1))) = bI (rcon (i - 1)) := by unfold wrap64; omega
  rw [rconFrom_one] at h
  rw [if_pos (by omega)]
  simp only [Option.bind_some, decide_eq_true_eq]
  rw [if_pos (by omega)]
  rw [show (1 : Int) = bI 1#8 from rfl, h]
  simp only [Option.bind_some]
  rw [hw]
theorem impl_rc (k : Nat) (hk : 30 ≤ k) (i : Nat) (h1 : 1 ≤ i) (h2 : i ≤ 10) : impl_RoundConstant.f k (i : Int) = some (0, bI (rcon (i - 1))) := by
  unfold impl_RoundConstant.f impl_in.f
  have h := implC (i - 1) k 1#8 i 1 (by omega) h2 (by omega)
  rw [rconFrom_one] at h
  rw [if_pos (by omega)]
  simp only [Option.bind_some, decide_eq_true_eq]
  rw [if_pos (by omega)]
  exact h
theorem spec_rc_no (k : Nat) (i : Int) (h : ¬ (1 ≤ i ∧ i ≤ 10)) : spec_RoundConstant.f k i = some (3, 0) := by
  unfold spec_RoundConstant.f spec_l1In.f
  by_cases h1 : i ≥ 1
  · rw [if_pos h1]
    simp only [Option.bind_some, decide_eq_true_eq]
    rw [if_neg (by omega)]
  · rw [if_neg h1]
    simp
theorem impl_rc_no (k : Nat) (i : Int) (h : ¬ (1 ≤ i ∧ i ≤ 10)) : impl_RoundConstant.f k i = some (3, 0) := by
  unfold impl_RoundConstant.f impl_in.f impl_noInt.f
  by_cases h1 : i ≥ 1
  · rw [if_pos h1]
    simp only [Option.bind_some, decide_eq_true_eq]
    rw [if_neg (by omega)]
  · rw [if_neg h1]
    simp

end Go.Proofs.Ytndahpbmjjodpaa.All
