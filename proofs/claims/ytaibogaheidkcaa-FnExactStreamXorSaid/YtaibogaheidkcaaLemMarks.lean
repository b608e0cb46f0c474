import Derived.Test.YtaibogaheidkcaaAllx0
import Derived.Test.YtaibogaheidkcaaAllx12
set_option linter.unusedVariables false
set_option linter.unusedSimpArgs false
namespace Go.Proofs.Ytaibogaheidkcaa.All
open Go.RowKit Go.Proofs.Ytaibogaheidkcaa.All Go.Proofs.YtaibogaheidkcaaW.PrintWords Go.Proofs.YtaibogaheidkcaaW.PrintLast Go.Proofs.YtaibogaheidkcaaW.PrintMore
/-! ### marks written into slices and read back -/
def mkL : Nat → Nat → List Int
  | _, 0 => []
  | c, n + 1 => ((c % 256 : Nat) : Int) :: mkL (c + 1) n
theorem mkL_length : ∀ c n, (mkL c n).length = n
  | _, 0 => rfl
  | c, n + 1 => by simp [mkL, mkL_length (c + 1) n]
theorem markB_loop (d : Nat) : ∀ (k i c : Nat) (ys : List Int), i + d = ys.length → d < k → c + d < 2 ^ 60 → ys.length < 2 ^ 60 → laws_markByteS.l0 k ys (c : Int) (i : Int) = some (((c + d : Nat) : Int), ys.take i ++ mkL c d) := by
  induction d with
  | zero =>
    intro k i c ys hi hk hc hl
    obtain ⟨k, rfl⟩ : ∃ m, k = m + 1 := ⟨k - 1, by omega⟩
    simp only [laws_markByteS.l0, mkL]
    rw [if_neg (by omega), List.take_of_length_le (by omega), List.append_nil]
    rfl
  | succ d ih =>
    intro k i c ys hi hk hc hl
    obtain ⟨k, rfl⟩ : ∃ m, k = m + 1 := ⟨k - 1, by omega⟩
    have hw : wrap64 ((i : Int) + 1) = ((i + 1 : Nat) : Int) := by unfold wrap64; omega
    have hv0 : wrap64 ((c : Int) + 1) = ((c + 1 : Nat) : Int) := by unfold wrap64; omega
    have hm : ((c : Int) % 256) = ((c % 256 : Nat) : Int) := by omega
    simp only [laws_markByteS.l0]
    rw [if_pos (by omega), if_pos (by omega), hw, hv0, hm, ih k (i + 1) (c + 1) _ (by rw [List.length_set]; omega) (by omega) (by omega) (by rw [List.length_set]; omega)]
    rw [Int.toNat_natCast, List.take_succ_eq_append_getElem (by rw [List.length_set]; omega), List.take_set_of_le (Nat.le_refl i), List.getElem_set_self, List.append_assoc]
    simp only [mkL, List.singleton_append, show c + 1 + d = c + (d + 1) by omega]
theorem heldB_loop (d : Nat) : ∀ (k c : Nat) (pre : List Int), d < k → c + d < 2 ^ 60 → pre.length + d < 2 ^ 60 → laws_heldByteS.l0 k (pre ++ mkL c d) (c : Int) (pre.length : Int) = some ((c + d : Nat) : Int) := by
  induction d with
  | zero =>
    intro k c pre hk hc hl
    obtain ⟨k, rfl⟩ : ∃ m, k = m + 1 := ⟨k - 1, by omega⟩
    simp only [laws_heldByteS.l0, mkL, List.append_nil]
    rw [if_neg (by omega)]
    rfl
  | succ d ih =>
    intro k c pre hk hc hl
    obtain ⟨k, rfl⟩ : ∃ m, k = m + 1 := ⟨k - 1, by omega⟩
    have hw : wrap64 ((pre.length : Int) + 1) = (((pre ++ [((c % 256 : Nat) : Int)]).length : Nat) : Int) := by simp; unfold wrap64; omega
    have hv0 : wrap64 ((c : Int) + 1) = ((c + 1 : Nat) : Int) := by unfold wrap64; omega
    have hr : rd (pre ++ mkL c (d + 1)) (pre.length : Int) = (c : Int) % 256 := by
      unfold rd
      rw [Int.toNat_natCast, List.getD_eq_getElem?_getD, List.getElem?_append_right (Nat.le_refl _)]
      simp [mkL]
    have hs : pre ++ mkL c (d + 1) = (pre ++ [((c % 256 : Nat) : Int)]) ++ mkL (c + 1) d := by simp [mkL]
    simp only [laws_heldByteS.l0]
    rw [if_pos (by rw [List.length_append, mkL_length]; omega), if_pos (by omega), if_pos hr, hw, hv0, hs, ih k (c + 1) _ (by omega) (by omega) (by simp; omega)]
    rw [show c + 1 + d = c + (d + 1) by omega]
theorem markB (k : Nat) (xs : List Int) (hn : xs.length ≤ 1048576) (hk : xs.length < k) : laws_markByteS.f k xs 1 = some (((1 + xs.length : Nat) : Int), mkL 1 xs.length) := by
  unfold laws_markByteS.f
  have h := markB_loop xs.length k 0 1 xs (by omega) hk (by omega) (by omega)
  simpa using h
theorem heldB (k n : Nat) (hn : n ≤ 1048576) (hk : n < k) : laws_heldByteS.f k (mkL 1 n) 1 = some ((1 + n : Nat) : Int) := by
  unfold laws_heldByteS.f
  have h := heldB_loop n k 1 [] hk (by omega) (by simp; omega)
  simpa using h
theorem markBc (k c : Nat) (xs : List Int) (hc : c ≤ 2097152) (hn : xs.length ≤ 1048576) (hk : xs.length < k) : laws_markByteS.f k xs (c : Int) = some (((c + xs.length : Nat) : Int), mkL c xs.length) := by
  unfold laws_markByteS.f
  have h := markB_loop xs.length k 0 c xs (by omega) hk (by omega) (by omega)
  simpa using h
theorem markBd (k c : Nat) (xs : List Int) (hc : c ≤ 1099511627776) (hn : xs.length ≤ 1048576) (hk : xs.length < k) : laws_markByteS.f k xs (c : Int) = some (((c + xs.length : Nat) : Int), mkL c xs.length) := by
  have h := markB_loop xs.length k 0 c xs (by omega) hk (by omega) (by omega)
  unfold laws_markByteS.f
  rw [show ((0 : Nat) : Int) = 0 from rfl] at h
  rw [h]
  simp

end Go.Proofs.Ytaibogaheidkcaa.All
