/- The law FnExactLetterFault in numbers and lists. -/
import Derived.Test.YtofickldnpndbaaAllx153
import Derived.Test.YtofickldnpndbaaLemFaultL
import Derived.Test.YtofickldnpndbaaLemLetters
set_option linter.unusedVariables false
set_option linter.unusedSimpArgs false
namespace Go.Proofs.Ytofickldnpndbaa.Pure
open Go.RowKit Go.Proofs.Ytofickldnpndbaa.All Go.Proofs.YtofickldnpndbaaW.PrintWords Go.Proofs.YtofickldnpndbaaW.PrintLast Go.Proofs.YtofickldnpndbaaW.PrintMore
theorem FnExactLetterFault : ∀ (a0_0 : Int) (a0_1 : Int) (a0_2 : Int) (l0_3 : List Int), (Lit.int .i64 a0_0).wf = true → (Lit.int .i64 a0_1).wf = true → (Lit.int .i64 a0_2).wf = true → l0_3.length ≤ maxLen → (∀ x ∈ l0_3, (Lit.int .u8 x).wf = true) → ∃ k, All.laws_FnExactLetterFault.f k a0_0 a0_1 a0_2 l0_3 = some true := by
  intro a0 a1 a2 l _ _ _ hl _
  unfold maxLen at hl
  obtain ⟨K, hK⟩ : ∃ K, K > 1048600 := ⟨_, Nat.lt_succ_self _⟩
  refine ⟨K + 1, ?_⟩
  unfold laws_FnExactLetterFault.f
  obtain ⟨v, hv, v1, v2⟩ := szLetter a0 a1 a2 l 1048576 (by omega) (by omega) (by omega)
  rw [hv]
  simp only [Option.bind_some]
  by_cases h : v < 0
  · rw [if_pos h]
  rw [if_neg h]
  have nl : l.length ≤ 1048576 := by have := v2 (by omega); omega
  obtain ⟨r, hI, hS⟩ := faultL_at K a0 a1 a2 l
  simp only [toLetter (K + 1) _ _ _ l nl (by omega), hI, hS, Option.bind_some, eqLetterR (K + 1) _ _ _ l nl (by omega), if_true]

end Go.Proofs.Ytofickldnpndbaa.Pure
