-- Laid by wip/shake.py of this repo out of this claim's texts. Not trusted: Lean checks it.
import Derived.Test.YtmnhddedcbkpoaaAllx206s
import Derived.Test.YtmnhddedcbkpoaaAllx550s
import Derived.Test.YtmnhddedcbkpoaaLemKeyss
set_option linter.unusedVariables false
set_option linter.unusedSimpArgs false
namespace Go.Proofs.Ytmnhddedcbkpoaa.Pure
open Go.RowKit Go.Proofs.Ytmnhddedcbkpoaa.All Go.Proofs.YtmnhddedcbkpoaaW.PrintWords Go.Proofs.YtmnhddedcbkpoaaW.PrintLast Go.Proofs.YtmnhddedcbkpoaaW.PrintMore
theorem FnExactRingFault : ∀ (a0_0 : Int) (l0_1 : List S43), (Lit.int .i64 a0_0).wf = true → l0_1.length ≤ maxLen → (∀ p ∈ l0_1, (Lit.int .i64 p.f0).wf = true ∧ p.f1.length ≤ maxLen ∧ ∀ y ∈ p.f1, (Lit.int .u8 y).wf = true) → ∃ k, All.laws_FnExactRingFault.f k a0_0 l0_1 = some true := by
 intro p l _ hl hb
 unfold maxLen at hl
 have hb' : ∀ x ∈ l, x.f1.length ≤ 9223372036854775807 := fun x hx => by have := (hb x hx).2.1; unfold maxLen at this; omega
 obtain ⟨K, hK⟩ : ∃ K, K > 3000000 := ⟨_, Nat.lt_succ_self _⟩
 refine ⟨K, ?_⟩
 unfold laws_FnExactRingFault.f
 obtain ⟨v, hv, v1, v2⟩ := szRing K p l 1048576 (by omega) (by omega) (by omega) hb' (by omega)
 rw [hv]
 simp only [Option.bind_some]
 by_cases h : v < 0
 ·rw [if_pos h]
 rw [if_neg h]
 have ok := v2 (by omega)
 have ou := okUp l ok
 simp only [toRing K p l ok (by omega), Option.bind_some, spec_RingFault.f, ring_fault K p (ups l) ou.1 (by omega), if_true, eqRingR K p (ups l) ou.1 ou.2 (by omega)]
end Go.Proofs.Ytmnhddedcbkpoaa.Pure
