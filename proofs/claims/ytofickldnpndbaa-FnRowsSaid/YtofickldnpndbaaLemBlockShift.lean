import Derived.Test.YtofickldnpndbaaAllx0
import Derived.Test.YtofickldnpndbaaAllx85
set_option linter.unusedVariables false
set_option linter.unusedSimpArgs false
namespace Go.Proofs.Ytofickldnpndbaa.All
open Go.RowKit Go.Proofs.Ytofickldnpndbaa.All Go.Proofs.YtofickldnpndbaaW.PrintWords Go.Proofs.YtofickldnpndbaaW.PrintLast Go.Proofs.YtofickldnpndbaaW.PrintMore
/-! ### the reference's rows, turned -/
theorem by_set (acc : List (BitVec 8)) (i j : Nat) (v : BitVec 8) (hi : i < acc.length) : by_ (acc.set i v) j = if j = i then v else by_ acc j := by
  unfold by_
  rw [List.getD_eq_getElem?_getD, List.getElem?_set, List.getD_eq_getElem?_getD]
  by_cases h : j = i
  · subst h
    simp [hi]
  · rw [if_neg (fun q => h q.symm), if_neg h]
theorem shift_ix : ∀ i : Nat, i < 16 → Int.tmod (wrap64 ((i : Int) + (wrap64 (4 * (Int.tmod (i : Int) 4))))) 16 = ((i % 4 + 4 * ((i / 4 + i % 4) % 4) : Nat) : Int) := by decide +kernel
theorem l2Shift_loop (xs : List (BitVec 8)) (hn : xs.length = 16) (d : Nat) : ∀ (k i : Nat) (acc : List (BitVec 8)), i + d = 16 → d < k → acc.length = 16 → (∀ j, j < i → by_ acc j = by_ xs (j % 4 + 4 * ((j / 4 + j % 4) % 4))) → spec_l2Shift.l0 k (bL xs) (bL acc) (i : Int) = some (bL (shiftL xs)) := by
  induction d with
  | zero =>
    intro k i acc hi hk ha hb
    obtain ⟨k, rfl⟩ : ∃ m, k = m + 1 := ⟨k - 1, by omega⟩
    simp only [spec_l2Shift.l0]
    rw [if_neg (by omega)]
    unfold shiftL
    rw [← tab_eq ha (fun j hj => hb j (by omega))]
  | succ d ih =>
    intro k i acc hi hk ha hb
    obtain ⟨k, rfl⟩ : ∃ m, k = m + 1 := ⟨k - 1, by omega⟩
    have hw : wrap64 ((i : Int) + 1) = ((i + 1 : Nat) : Int) := by unfold wrap64; omega
    simp only [spec_l2Shift.l0, bL_length, shift_ix i (by omega)]
    rw [if_pos (by omega), if_pos (by omega), if_pos (by omega), if_pos (by omega), if_pos (by omega), hw, rd_bL, Int.toNat_natCast, Int.toNat_natCast, bL_set]
    refine ih k (i + 1) _ (by omega) (by omega) (by simpa using ha) fun j hj => ?_
    rw [by_set _ _ _ _ (by omega)]
    by_cases h : j = i
    · subst h
      rw [if_pos rfl]
      rfl
    · rw [if_neg h]
      exact hb j (by omega)
theorem l2Shift_at (k : Nat) (xs : List (BitVec 8)) (h : xs.length = 16) (hk : 16 < k) : spec_l2Shift.f k (bL xs) = some (bL (shiftL xs)) := by
  unfold spec_l2Shift.f
  rw [if_pos (by omega), show (List.replicate 16 (0 : Int)) = bL (List.replicate 16 0#8) from rfl]
  exact l2Shift_loop xs h 16 k 0 _ (by omega) hk (by simp) (fun j hj => by omega)

end Go.Proofs.Ytofickldnpndbaa.All
