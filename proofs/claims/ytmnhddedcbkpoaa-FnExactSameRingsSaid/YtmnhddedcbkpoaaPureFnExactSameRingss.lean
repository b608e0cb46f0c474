-- Laid by wip/shake.py of this repo out of this claim's texts. Not trusted: Lean checks it.
import Derived.Test.YtmnhddedcbkpoaaAllx207s
import Derived.Test.YtmnhddedcbkpoaaAllx551s
import Derived.Test.YtmnhddedcbkpoaaLemKeyss
set_option linter.unusedVariables false
set_option linter.unusedSimpArgs false
namespace Go.Proofs.Ytmnhddedcbkpoaa.Pure
open Go.RowKit Go.Proofs.Ytmnhddedcbkpoaa.All Go.Proofs.YtmnhddedcbkpoaaW.PrintWords Go.Proofs.YtmnhddedcbkpoaaW.PrintLast Go.Proofs.YtmnhddedcbkpoaaW.PrintMore
theorem FnExactSameRings : ∀ (a0_0 : Int) (l0_1 : List S43) (a1_0 : Int) (l1_1 : List S43), (Lit.int .i64 a0_0).wf = true → l0_1.length ≤ maxLen → (∀ p ∈ l0_1, (Lit.int .i64 p.f0).wf = true ∧ p.f1.length ≤ maxLen ∧ ∀ y ∈ p.f1, (Lit.int .u8 y).wf = true) → (Lit.int .i64 a1_0).wf = true → l1_1.length ≤ maxLen → (∀ p ∈ l1_1, (Lit.int .i64 p.f0).wf = true ∧ p.f1.length ≤ maxLen ∧ ∀ y ∈ p.f1, (Lit.int .u8 y).wf = true) → ∃ k, All.laws_FnExactSameRings.f k a0_0 l0_1 a1_0 l1_1 = some true := by
 intro p l q m _ hl hb _ hm hc
 unfold maxLen at hl hm
 have hb' : ∀ x ∈ l, x.f1.length ≤ 9223372036854775807 := fun x hx => by have := (hb x hx).2.1; unfold maxLen at this; omega
 have hc' : ∀ x ∈ m, x.f1.length ≤ 9223372036854775807 := fun x hx => by have := (hc x hx).2.1; unfold maxLen at this; omega
 obtain ⟨K, hK⟩ : ∃ K, K > 3000000 := ⟨_, Nat.lt_succ_self _⟩
 refine ⟨K, ?_⟩
 unfold laws_FnExactSameRings.f
 obtain ⟨v, hv, v1, v2⟩ := szRing K p l 1048576 (by omega) (by omega) (by omega) hb' (by omega)
 rw [hv]
 simp only [Option.bind_some]
 by_cases h : v < 0
 ·rw [if_pos h]
 rw [if_neg h]
 have ok := v2 (by omega)
 have ou := okUp l ok
 obtain ⟨u, hu, u1, u2⟩ := szRing K q m v (by omega) (by omega) (by omega) hc' (by omega)
 rw [hu]
 simp only [Option.bind_some]
 by_cases h' : u < 0
 ·rw [if_pos h']
 rw [if_neg h']
 have ok2 := u2 (by omega)
 have ou2 := okUp m ok2
 have hs : ∃ x, impl_SameRings.f p (ups l) q (ups m) = some x ∧ spec_SameRings.f p (ups l) q (ups m) = some x := by
  unfold impl_SameRings.f spec_SameRings.f
  rw [if_pos (by have := ou.1; omega)]
  by_cases hp : p = q
  ·rw [if_pos hp]; exact ⟨_, rfl, rfl⟩
  ·rw [if_neg hp]; exact ⟨_, rfl, rfl⟩
 obtain ⟨x, hx, hy⟩ := hs
 simp only [toRing K p l ok (by omega), toRing K q m ok2 (by omega), Option.bind_some, hx, hy, bne_self_eq_false, Bool.false_eq_true, if_false, if_true, eqRingR K p (ups l) ou.1 ou.2 (by omega), eqRingR K q (ups m) ou2.1 ou2.2 (by omega)]
end Go.Proofs.Ytmnhddedcbkpoaa.Pure
