import Derived.Test.YtofickldnpndbaaAllx0
import Derived.Test.YtofickldnpndbaaAllx513
import Derived.Test.YtofickldnpndbaaAllx82
set_option linter.unusedVariables false
set_option linter.unusedSimpArgs false
namespace Go.Proofs.Ytofickldnpndbaa.All
open Go.RowKit Go.Proofs.Ytofickldnpndbaa.All Go.Proofs.YtofickldnpndbaaW.PrintWords Go.Proofs.YtofickldnpndbaaW.PrintLast Go.Proofs.YtofickldnpndbaaW.PrintMore
/-! ### the reference's bytes through the box -/
theorem l2Sub_loop (xs : List (BitVec 8)) (hn : xs.length ≤ 2 ^ 40) (d : Nat) : ∀ (k i : Nat) (acc : List (BitVec 8)), i + d = xs.length → d < k → acc.length ≤ i → spec_l2Sub.l0 k (bL xs) (bL acc) (i : Int) = some (bL (acc ++ (xs.drop i).map SB)) := by
  induction d with
  | zero =>
    intro k i acc hi hk ha
    obtain ⟨k, rfl⟩ : ∃ m, k = m + 1 := ⟨k - 1, by omega⟩
    simp only [spec_l2Sub.l0, bL_length]
    rw [if_neg (by omega), List.drop_of_length_le (by omega)]
    simp
  | succ d ih =>
    intro k i acc hi hk ha
    obtain ⟨k, rfl⟩ : ∃ m, k = m + 1 := ⟨k - 1, by omega⟩
    have hw : wrap64 ((i : Int) + 1) = ((i + 1 : Nat) : Int) := by unfold wrap64; omega
    have hx : xs.drop i = xs.getD i 0#8 :: xs.drop (i + 1) := by
      rw [List.drop_eq_getElem_cons (by omega), List.getD_eq_getElem?_getD, List.getElem?_eq_getElem (by omega)]
      rfl
    simp only [spec_l2Sub.l0, bL_length]
    rw [if_pos (by omega), if_pos (by omega), rd_bL, Int.toNat_natCast, spec_SubByte_at]
    simp only [Option.bind_some]
    rw [if_pos (by omega), hw, show bL acc ++ [bI (SB (xs.getD i 0#8))] = bL (acc ++ [SB (xs.getD i 0#8)]) by simp [bL], ih k (i + 1) _ (by omega) (by omega) (by simp; omega), hx]
    simp
theorem l2Sub_map (k : Nat) (xs : List (BitVec 8)) (hn : xs.length ≤ 2 ^ 40) (hk : xs.length < k) : spec_l2Sub.f k (bL xs) = some (bL (xs.map SB)) := by
  unfold spec_l2Sub.f
  have h := l2Sub_loop xs hn xs.length k 0 [] (by omega) hk (by simp)
  simpa [bL] using h
theorem subL_map (xs : List (BitVec 8)) (h : xs.length = 16) : xs.map SB = subL xs := by
  unfold subL
  conv => lhs; rw [← tab_self xs, h]
  unfold tab
  rw [List.map_map]
  rfl
theorem l2Sub_at (k : Nat) (xs : List (BitVec 8)) (h : xs.length = 16) (hk : 16 < k) : spec_l2Sub.f k (bL xs) = some (bL (subL xs)) := by
  rw [l2Sub_map k xs (by omega) (by omega), subL_map xs h]

end Go.Proofs.Ytofickldnpndbaa.All
