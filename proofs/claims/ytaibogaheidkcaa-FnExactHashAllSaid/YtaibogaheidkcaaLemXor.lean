import Derived.Test.YtaibogaheidkcaaAllx0
import Derived.Test.YtaibogaheidkcaaAllx80
import Derived.Test.YtaibogaheidkcaaAllx516
import Derived.Test.YtaibogaheidkcaaAllx121
set_option linter.unusedVariables false
set_option linter.unusedSimpArgs false
namespace Go.Proofs.Ytaibogaheidkcaa.All
open Go.RowKit Go.Proofs.Ytaibogaheidkcaa.All Go.Proofs.YtaibogaheidkcaaW.PrintWords Go.Proofs.YtaibogaheidkcaaW.PrintLast Go.Proofs.YtaibogaheidkcaaW.PrintMore
/-! ### two slices, xored byte for byte -/
def xr (a b : List Int) (i : Nat) : Int := Go.bits .xor .u8 (rd a (i : Int)) (rd b (i : Int))
def xrL (a b : List Int) (n : Nat) : List Int := (List.range n).map (xr a b)
theorem xrL_length (a b : List Int) (n : Nat) : (xrL a b n).length = n := by simp [xrL]
theorem xrL_succ (a b : List Int) (n : Nat) : xrL a b (n + 1) = xrL a b n ++ [xr a b n] := by simp [xrL, List.range_succ]
theorem xorSpec_loop (a b : List Int) (hl : b.length = a.length) (hn : a.length < 1099511627776) (d : Nat) : ∀ (k i : Nat), i + d = a.length → d < k → spec_l1Xor.l0 k a b (xrL a b i) (i : Int) = some (xrL a b a.length) := by
  induction d with
  | zero =>
    intro k i hi hk
    obtain ⟨k, rfl⟩ : ∃ m, k = m + 1 := ⟨k - 1, by omega⟩
    obtain rfl : i = a.length := by omega
    simp only [spec_l1Xor.l0]
    rw [if_neg (by omega)]
  | succ d ih =>
    intro k i hi hk
    obtain ⟨k, rfl⟩ : ∃ m, k = m + 1 := ⟨k - 1, by omega⟩
    have hw : wrap64 ((i : Int) + 1) = ((i + 1 : Nat) : Int) := by unfold wrap64; omega
    simp only [spec_l1Xor.l0]
    rw [if_pos (by omega), if_pos (by omega), if_pos (by omega), if_pos (by rw [xrL_length]; omega), hw]
    have h := ih k (i + 1) (by omega) (by omega)
    rw [xrL_succ] at h
    exact h
theorem xorImpl_loop (a b : List Int) (hl : b.length = a.length) (hn : a.length < 1099511627776) (d : Nat) : ∀ (k i : Nat), i + d = a.length → d < k → impl_XorBytes.l0 k (xrL a b i ++ a.drop i) b (b.length : Int) (i : Int) = some (0, xrL a b a.length) := by
  induction d with
  | zero =>
    intro k i hi hk
    obtain ⟨k, rfl⟩ : ∃ m, k = m + 1 := ⟨k - 1, by omega⟩
    obtain rfl : i = a.length := by omega
    simp only [impl_XorBytes.l0]
    rw [if_neg (by omega), List.drop_length, List.append_nil]
  | succ d ih =>
    intro k i hi hk
    obtain ⟨k, rfl⟩ : ∃ m, k = m + 1 := ⟨k - 1, by omega⟩
    have hw : wrap64 ((i : Int) + 1) = ((i + 1 : Nat) : Int) := by unfold wrap64; omega
    have hlen : (xrL a b i ++ a.drop i).length = a.length := by rw [List.length_append, xrL_length, List.length_drop]; omega
    have hx : a.drop i = rd a (i : Int) :: a.drop (i + 1) := by
      unfold rd
      rw [Int.toNat_natCast, List.drop_eq_getElem_cons (by omega), List.getD_eq_getElem?_getD, List.getElem?_eq_getElem (by omega)]
      rfl
    have hr : rd (xrL a b i ++ a.drop i) (i : Int) = rd a (i : Int) := by
      rw [hx]
      conv => lhs; unfold rd
      rw [Int.toNat_natCast, List.getD_eq_getElem?_getD, List.getElem?_append_right (by rw [xrL_length]; omega), xrL_length]
      simp [rd]
    have hs : (xrL a b i ++ a.drop i).set i (xr a b i) = xrL a b (i + 1) ++ a.drop (i + 1) := by
      rw [hx, List.set_append_right _ _ (by rw [xrL_length]; omega), xrL_length, xrL_succ]
      simp
    simp only [impl_XorBytes.l0]
    rw [if_pos (by omega), if_pos (by omega), if_pos (by omega), if_pos (by rw [hlen]; omega), hw, hr, Int.toNat_natCast]
    have h := ih k (i + 1) (by omega) (by omega)
    rw [← hs] at h
    exact h
theorem xor_at (k : Nat) (hk : 1000 < k) (a b : List Int) (ha : a.length ≤ 1048576) : ∃ c ys, ys.length ≤ 1048576 ∧ spec_XorBytes.f k a b = some (c, ys) ∧ impl_XorBytes.f k a b = some (c, ys) := by
  unfold spec_XorBytes.f impl_XorBytes.f
  by_cases h1 : (a.length : Int) > 800
  · rw [if_pos h1, if_pos h1]
    exact ⟨2, [], by simp, rfl, rfl⟩
  · rw [if_neg h1, if_neg h1]
    by_cases h2 : (a.length : Int) = (b.length : Int)
    · rw [if_pos h2, if_pos h2]
      refine ⟨0, xrL a b a.length, by rw [xrL_length]; omega, ?_, ?_⟩
      · unfold spec_l1Xor.f
        have h := xorSpec_loop a b (by omega) (by omega) a.length k 0 (by omega) (by omega)
        rw [show xrL a b 0 = [] from rfl] at h
        rw [show ((0 : Nat) : Int) = 0 from rfl] at h
        rw [h]
        rfl
      · unfold bytes_Clone.f
        rw [if_pos (by omega)]
        have h := xorImpl_loop a b (by omega) (by omega) a.length k 0 (by omega) (by omega)
        rw [show xrL a b 0 = [] from rfl, List.nil_append, List.drop_zero, show ((0 : Nat) : Int) = 0 from rfl] at h
        exact h
    · rw [if_neg h2, if_neg h2]
      exact ⟨1, [], by simp, rfl, rfl⟩

end Go.Proofs.Ytaibogaheidkcaa.All
