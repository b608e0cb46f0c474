import Derived.Test.YtofickldnpndbaaAllx0
import Derived.Test.YtofickldnpndbaaAllx20
import Derived.Test.YtofickldnpndbaaAllx111
import Derived.Test.YtofickldnpndbaaAllx51
import Derived.Test.YtofickldnpndbaaAllx519
import Derived.Test.YtofickldnpndbaaLemPack
set_option linter.unusedVariables false
set_option linter.unusedSimpArgs false
namespace Go.Proofs.Ytofickldnpndbaa.All
open Go.RowKit Go.Proofs.Ytofickldnpndbaa.All Go.Proofs.YtofickldnpndbaaW.PrintWords Go.Proofs.YtofickldnpndbaaW.PrintLast Go.Proofs.YtofickldnpndbaaW.PrintMore
/-! ### a nonce, as both make it -/
theorem nonce_at (K : Nat) (hK : K > 100) (a b : Int) : ∃ c ys, ys.length ≤ 1048576 ∧ spec_NonceOf.f K a b = some (c, ys) ∧ impl_NonceOf.f K a b = some (c, ys) := by
  obtain ⟨K, rfl⟩ : ∃ m, K = m + 1 := ⟨K - 1, by omega⟩
  have bad : ∀ z, z = true → impl_NonceOf.j0 (K + 1) a b z = some (3, []) := by
    intro z hz
    simp only [impl_NonceOf.j0]
    rw [if_pos hz]
    rfl
  have l1 : spec_l1In.f 1 1 255 = some true := rfl
  unfold spec_NonceOf.f spec_l5Head.f impl_NonceOf.f
  rw [l1]
  simp only [Option.bind_some, if_true]
  unfold spec_l1In.f impl_in.f
  by_cases h1 : a ≥ 0
  · rw [if_pos h1]
    simp only [Option.bind_some]
    by_cases h2 : a ≤ 15
    · rw [if_pos (decide_eq_true h2), if_pos (decide_eq_true h2)]
      by_cases h3 : b ≥ 0
      · rw [if_pos h3]
        simp only [Option.bind_some]
        by_cases h4 : b ≤ 1000000000
        · obtain ⟨x, hx, sx, ix⟩ := pack_at K a 4 (by omega) (by omega)
          obtain ⟨y, hy, sy, iy⟩ := pack_at K b 8 (by omega) (by omega)
          have sx' := spec_l1Pack.mono _ _ _ _ sx
          have sy' := spec_l1Pack.mono _ _ _ _ sy
          refine ⟨0, x ++ y, by rw [List.length_append]; omega, ?_, ?_⟩
          · rw [if_pos (decide_eq_true h4)]
            unfold spec_l5Nonce.f
            rw [show (4 : Int) = ((4 : Nat) : Int) from rfl, show (8 : Int) = ((8 : Nat) : Int) from rfl, sx', sy']
            simp only [Option.bind_some]
            rw [if_pos (by omega)]
            rfl
          · rw [decide_eq_true h4]
            simp only [impl_NonceOf.j0]
            rw [if_neg (by decide), show (4 : Int) = ((4 : Nat) : Int) from rfl, show (8 : Int) = ((8 : Nat) : Int) from rfl, ix, iy]
            simp only [Option.bind_some]
            rw [if_pos (by omega)]
        · refine ⟨3, [], by simp, ?_, ?_⟩
          · rw [if_neg (by simpa using h4)]
          · exact bad _ (by simpa using h4)
      · rw [if_neg h3]
        simp only [Option.bind_some]
        exact ⟨3, [], by simp, by rw [if_neg (by simp)], bad _ rfl⟩
    · have d2 : ¬ (decide (a ≤ 15) = true) := by simpa using h2
      rw [if_neg d2, if_neg d2]
      exact ⟨3, [], by simp, by simp, bad _ rfl⟩
  · rw [if_neg h1]
    simp only [Option.bind_some]
    rw [if_neg (by simp), if_neg (by simp)]
    exact ⟨3, [], by simp, by simp, bad _ rfl⟩

end Go.Proofs.Ytofickldnpndbaa.All
