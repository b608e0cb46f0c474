import Derived.Test.YtofickldnpndbaaAllx0
import Derived.Test.YtofickldnpndbaaAllx14
import Derived.Test.YtofickldnpndbaaAllx91
import Derived.Test.YtofickldnpndbaaLemBlockShift
import Derived.Test.YtofickldnpndbaaLemFieldSpec
set_option linter.unusedVariables false
set_option linter.unusedSimpArgs false
namespace Go.Proofs.Ytofickldnpndbaa.All
open Go.RowKit Go.Proofs.Ytofickldnpndbaa.All Go.Proofs.YtofickldnpndbaaW.PrintWords Go.Proofs.YtofickldnpndbaaW.PrintLast Go.Proofs.YtofickldnpndbaaW.PrintMore
/-! ### the reference's columns, mixed -/
theorem mix_ix1 : ∀ i : Nat, i < 16 → (wrap64 ((wrap64 ((wrap64 (Int.tdiv (i : Int) 4)) * 4)) + (Int.tmod (wrap64 ((Int.tmod (i : Int) 4) + 1)) 4))) = ((i / 4 * 4 + (i % 4 + 1) % 4 : Nat) : Int) := by decide +kernel
theorem mix_ix2 : ∀ i : Nat, i < 16 → (wrap64 ((wrap64 ((wrap64 (Int.tdiv (i : Int) 4)) * 4)) + (Int.tmod (wrap64 ((Int.tmod (i : Int) 4) + 2)) 4))) = ((i / 4 * 4 + (i % 4 + 2) % 4 : Nat) : Int) := by decide +kernel
theorem mix_ix3 : ∀ i : Nat, i < 16 → (wrap64 ((wrap64 ((wrap64 (Int.tdiv (i : Int) 4)) * 4)) + (Int.tmod (wrap64 ((Int.tmod (i : Int) 4) + 3)) 4))) = ((i / 4 * 4 + (i % 4 + 3) % 4 : Nat) : Int) := by decide +kernel
theorem l2Mix_loop (xs : List (BitVec 8)) (hn : xs.length = 16) (d : Nat) : ∀ (k i : Nat) (acc : List (BitVec 8)), i + d = 16 → d + 8 < k → acc.length = 16 → (∀ j, j < i → by_ acc j = mixAt xs j) → spec_l2Mix.l0 k (bL xs) (bL acc) (i : Int) = some (bL (mixL xs)) := by
  induction d with
  | zero =>
    intro k i acc hi hk ha hb
    obtain ⟨k, rfl⟩ : ∃ m, k = m + 1 := ⟨k - 1, by omega⟩
    simp only [spec_l2Mix.l0]
    rw [if_neg (by omega)]
    unfold mixL
    rw [← tab_eq ha (fun j hj => hb j (by omega))]
  | succ d ih =>
    intro k i acc hi hk ha hb
    obtain ⟨k, rfl⟩ : ∃ m, k = m + 1 := ⟨k - 1, by omega⟩
    have hw : wrap64 ((i : Int) + 1) = ((i + 1 : Nat) : Int) := by unfold wrap64; omega
    have f2 : ∀ b : BitVec 8, spec_FieldTimes.f k (bI b) 2 = some (bI (xt b)) := fun b => by rw [show (2 : Int) = bI 2#8 from rfl, spec_ft k (by omega), ft_two]
    have f3 : ∀ b : BitVec 8, spec_FieldTimes.f k (bI b) 3 = some (bI (xt b ^^^ b)) := fun b => by rw [show (3 : Int) = bI 3#8 from rfl, spec_ft k (by omega), ft_three]
    simp only [spec_l2Mix.l0, bL_length, mix_ix1 i (by omega), mix_ix2 i (by omega), mix_ix3 i (by omega), rd_bL, f2, f3, Option.bind_some, bI_xor, Int.toNat_natCast, bL_set]
    rw [if_pos (by omega), if_pos (by omega), if_pos (by omega), if_pos (by omega), if_pos (by omega), if_pos (by omega), if_pos (by omega), if_pos (by omega), if_pos (by omega), if_pos (by omega), hw]
    refine ih k (i + 1) _ (by omega) (by omega) (by simpa using ha) fun j hj => ?_
    rw [by_set _ _ _ _ (by omega)]
    by_cases h : j = i
    · subst h
      rw [if_pos rfl]
      unfold mixAt by_
      simp only [BitVec.xor_assoc]
    · rw [if_neg h]
      exact hb j (by omega)
theorem l2Mix_at (k : Nat) (xs : List (BitVec 8)) (h : xs.length = 16) (hk : 24 < k) : spec_l2Mix.f k (bL xs) = some (bL (mixL xs)) := by
  unfold spec_l2Mix.f
  rw [if_pos (by omega), show (List.replicate 16 (0 : Int)) = bL (List.replicate 16 0#8) from rfl]
  exact l2Mix_loop xs h 16 k 0 _ (by omega) hk (by simp) (fun j hj => by omega)

end Go.Proofs.Ytofickldnpndbaa.All
