import Derived.Test.YtndahpbmjjodpaaAllx0
import Derived.Test.YtndahpbmjjodpaaAllx3
import Derived.Test.YtndahpbmjjodpaaLemFieldSpec
set_option linter.unusedVariables false
set_option linter.unusedSimpArgs false
namespace Go.Proofs.Ytndahpbmjjodpaa.All
open Go.RowKit Go.Proofs.Ytndahpbmjjodpaa.All Go.Proofs.YtndahpbmjjodpaaW.PrintWords Go.Proofs.YtndahpbmjjodpaaW.PrintLast Go.Proofs.YtndahpbmjjodpaaW.PrintMore
/-! ### the field's product, as the program reckons it -/
theorem twice_at (a : BitVec 8) : impl_twice.f (bI a) = some (bI (xt a)) := bI_xt a
theorem implFT (n : Nat) : ∀ (k : Nat) (a o : BitVec 8) (b : Nat), b < 2 ^ n → b < 256 → n < k → impl_FieldTimes.l0 k (bI a) (b : Int) (bI o) = some (bI (opX xt (bitsN n b) a o)) := by
  induction n with
  | zero =>
    intro k a o b hb _ hk
    obtain ⟨k, rfl⟩ : ∃ m, k = m + 1 := ⟨k - 1, by omega⟩
    obtain rfl : b = 0 := by simpa using hb
    simp only [impl_FieldTimes.l0]
    rw [if_pos (by omega)]
    rfl
  | succ n ih =>
    intro k a o b hb h256 hk
    obtain ⟨k, rfl⟩ : ∃ m, k = m + 1 := ⟨k - 1, by omega⟩
    simp only [impl_FieldTimes.l0]
    by_cases h0 : b = 0
    · subst h0
      rw [if_pos (by omega), opX_zeros]
    · rw [if_neg (by omega), twice_at, tmod_two, tdiv_two b h256]
      simp only [Option.bind_some]
      rw [Nat.pow_succ] at hb
      by_cases h1 : b % 2 = 1
      · rw [if_pos (by omega), bI_xor, ih k _ _ _ (by omega) (by omega) (by omega)]
        simp [bitsN, opX, h1]
      · rw [if_neg (by omega), ih k _ _ _ (by omega) (by omega) (by omega)]
        simp [bitsN, opX, h1]
theorem impl_ft (k : Nat) (hk : 8 < k) (a b : BitVec 8) : impl_FieldTimes.f k (bI a) (bI b) = some (bI (ft a b)) := by
  unfold impl_FieldTimes.f
  have h := implFT 8 k a 0#8 b.toNat b.isLt b.isLt hk
  rw [bitsN_B] at h
  exact h

end Go.Proofs.Ytndahpbmjjodpaa.All
