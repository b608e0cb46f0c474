import Derived.Test.YtndahpbmjjodpaaAllx0
import Derived.Test.YtndahpbmjjodpaaAllx3
import Derived.Test.YtndahpbmjjodpaaLemField
import Derived.Test.YtndahpbmjjodpaaLemFieldSpec
set_option linter.unusedVariables false
set_option linter.unusedSimpArgs false
namespace Go.Proofs.Ytndahpbmjjodpaa.All
open Go.RowKit Go.Proofs.Ytndahpbmjjodpaa.All Go.Proofs.YtndahpbmjjodpaaW.PrintWords Go.Proofs.YtndahpbmjjodpaaW.PrintLast Go.Proofs.YtndahpbmjjodpaaW.PrintMore
/-! ### the field's inverse -/
theorem implInv (n : Nat) : ∀ (k : Nat) (o p : BitVec 8) (i : Nat), i + n = 7 → n + 9 < k → impl_FieldInverse.l0 k (bI o) (bI p) (i : Int) = some (bI (invLoop n o p)) := by
  induction n with
  | zero =>
    intro k o p i hi hk
    obtain ⟨k, rfl⟩ : ∃ m, k = m + 1 := ⟨k - 1, by omega⟩
    simp only [impl_FieldInverse.l0]
    rw [if_neg (by omega)]
    rfl
  | succ n ih =>
    intro k o p i hi hk
    obtain ⟨k, rfl⟩ : ∃ m, k = m + 1 := ⟨k - 1, by omega⟩
    have hw : wrap64 ((i : Int) + 1) = ((i + 1 : Nat) : Int) := by unfold wrap64; omega
    simp only [impl_FieldInverse.l0]
    rw [if_pos (by omega), impl_ft k (by omega)]
    simp only [Option.bind_some]
    rw [impl_ft k (by omega)]
    simp only [Option.bind_some]
    rw [hw, ih k _ _ _ (by omega) (by omega)]
    rfl
theorem impl_inv (k : Nat) (hk : 20 ≤ k) (a : BitVec 8) : impl_FieldInverse.f k (bI a) = some (bI (finv a)) := by
  unfold impl_FieldInverse.f
  exact implInv 7 k 1#8 a 0 (by omega) (by omega)
theorem specInv (a : BitVec 8) (h0 : a ≠ 0#8) (d : Nat) : ∀ (k c : Nat), 1 ≤ c → c + d = (finv a).toNat → d + 20 ≤ k → spec_FieldInverse.l0 k (bI a) (c : Int) = some (bI (finv a)) := by
  induction d with
  | zero =>
    intro k c h1 hc hk
    obtain ⟨k, rfl⟩ : ∃ m, k = m + 1 := ⟨k - 1, by omega⟩
    have hlt := (finv a).isLt
    simp only [spec_FieldInverse.l0]
    have e : (c : Int) % 256 = bI (finv a) := by unfold bI; omega
    rw [if_pos (by omega), e, spec_ft k (by omega), finv_one a h0]
    rfl
  | succ d ih =>
    intro k c h1 hc hk
    obtain ⟨k, rfl⟩ : ∃ m, k = m + 1 := ⟨k - 1, by omega⟩
    have hlt := (finv a).isLt
    simp only [spec_FieldInverse.l0]
    have e : (c : Int) % 256 = bI (BitVec.ofNat 8 c) := by rw [bI_ofNat _ (by omega)]; omega
    have hw : wrap64 ((c : Int) + 1) = ((c + 1 : Nat) : Int) := by unfold wrap64; omega
    rw [if_pos (by omega), e, spec_ft k (by omega)]
    simp only [Option.bind_some]
    rw [if_neg, hw, ih k (c + 1) (by omega) (by omega) (by omega)]
    intro h2
    have h3 : ft a (BitVec.ofNat 8 c) = 1#8 := bI_inj h2
    have h4 := finv_unique a _ h3
    rw [← h4, BitVec.toNat_ofNat] at hc
    omega
theorem finv_pos (a : BitVec 8) (h0 : a ≠ 0#8) : 1 ≤ (finv a).toNat := by
  rcases Nat.eq_zero_or_pos (finv a).toNat with h | h
  · have e : finv a = 0#8 := BitVec.eq_of_toNat_eq h
    have h1 := finv_one a h0
    rw [e, ft_zero] at h1
    exact absurd h1 (by decide)
  · exact h
theorem spec_inv (k : Nat) (hk : 300 ≤ k) (a : BitVec 8) : spec_FieldInverse.f k (bI a) = some (bI (finv a)) := by
  unfold spec_FieldInverse.f
  by_cases h0 : a = 0#8
  · subst h0
    rw [if_pos (show bI 0#8 = 0 from rfl), finv_zero]
    rfl
  · rw [if_neg (show ¬ bI a = 0 from fun h => h0 (bI_inj h))]
    have hlt := (finv a).isLt
    have hp := finv_pos a h0
    exact specInv a h0 ((finv a).toNat - 1) k 1 (by omega) (by omega) (by omega)

end Go.Proofs.Ytndahpbmjjodpaa.All
