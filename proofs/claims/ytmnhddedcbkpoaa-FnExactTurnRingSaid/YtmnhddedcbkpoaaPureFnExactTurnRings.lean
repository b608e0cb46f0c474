-- Laid by wip/shake.py of this repo out of this claim's texts. Not trusted: Lean checks it.
import Derived.Test.YtmnhddedcbkpoaaAllx569s
import Derived.Test.YtmnhddedcbkpoaaAllx62s
import Derived.Test.YtmnhddedcbkpoaaAllx63s
import Derived.Test.YtmnhddedcbkpoaaLemKeyss
import Derived.Test.YtmnhddedcbkpoaaLemRingss
set_option linter.unusedVariables false
set_option linter.unusedSimpArgs false
namespace Go.Proofs.Ytmnhddedcbkpoaa.Pure
open Go.RowKit Go.Proofs.Ytmnhddedcbkpoaa.All Go.Proofs.YtmnhddedcbkpoaaW.PrintWords Go.Proofs.YtmnhddedcbkpoaaW.PrintLast Go.Proofs.YtmnhddedcbkpoaaW.PrintMore
theorem FnExactTurnRing : ∀ (a0_0 : Int) (l0_1 : List S43) (a1 : Int) (a2_0 : Int) (l2_1 : List Int), (Lit.int .i64 a0_0).wf = true → l0_1.length ≤ maxLen → (∀ p ∈ l0_1, (Lit.int .i64 p.f0).wf = true ∧ p.f1.length ≤ maxLen ∧ ∀ y ∈ p.f1, (Lit.int .u8 y).wf = true) → (Lit.int .i64 a1).wf = true → (Lit.int .i64 a2_0).wf = true → l2_1.length ≤ maxLen → (∀ x ∈ l2_1, (Lit.int .u8 x).wf = true) → ∃ k, laws_FnExactTurnRing.f k a0_0 l0_1 a1 a2_0 l2_1 true := by
 intro p l op id b _ hl hb _ _ hbl _
 unfold maxLen at hl hbl
 have hb' : ∀ x ∈ l, x.f1.length ≤ 9223372036854775807 := fun x hx => by have := (hb x hx).2.1; unfold maxLen at this; omega
 obtain ⟨K, hK⟩ : ∃ K, K > 3000000 := ⟨_, Nat.lt_succ_self _⟩
 refine ⟨K, rfl, ?_⟩
 obtain ⟨v, hv, v1, v2⟩ := szRing K p l 1048576 (by omega) (by omega) (by omega) hb' (by omega)
 refine ⟨v, hv, ?_⟩
 by_cases h : v < 0
 ·exact .inl h
 refine .inr ⟨h, ?_⟩
 obtain ⟨u, hu, u1, u2⟩ := szK1 id b v (by omega) (by omega) (by omega)
 refine ⟨u, hu, ?_⟩
 by_cases h2 : u < 0
 ·exact .inl h2
 right
 have ok := v2 (by omega)
 have ok2 := u2 (by omega)
 have ou := okUp l ok
 obtain ⟨r1, r2, r3, hs, hi, h3, h4⟩ := turnRing_both K p (ups l) op id b ou.1 ou.2 ok2 (by omega)
 have hmk := markKs_eq K (by omega) (ups l) 1 ou.2 (by have := ou.1; omega)
 have hmr := markKs_eq K (by omega) r3 1 h4 (by omega)
 have htl := totKs_le 1 (ups l) ou.2
 have hm1 := markBe K (totKs 1 (ups l)) b (by have := ou.1; omega) (by omega)
 rw [show ((1 : Nat) : Int) = 1 from rfl] at hmk hmr
 refine ⟨h2, ups l, _, b, mkL (totKs 1 (ups l)) b.length, r1, r2, _, ((totKs 1 (ups l) + b.length : Nat) : Int), _, r3, _, toRing K p l ok (by omega), toK1 K ⟨id, b⟩ ok2 (by omega), hs, hi, ?_, eqRingR K p (ups l) ou.1 ou.2 (by omega), eqK1 K id b ok2 (by omega), by have := ou.1; omega, by omega, (mkKs_length 1 r3).symm, hmk, ?_, ?_, hmr, heldRes K r1 r2 r3 h3 h4 (by omega), by omega, by omega⟩
 ·unfold laws_eqRingResult.f
  rw [if_pos rfl, eqRingR K r2 r3 h3 h4 (by omega)]
  rfl
 ·unfold laws_markKey.f
  rw [hm1]
  rfl
 ·rw [mkL_length]
end Go.Proofs.Ytmnhddedcbkpoaa.Pure
