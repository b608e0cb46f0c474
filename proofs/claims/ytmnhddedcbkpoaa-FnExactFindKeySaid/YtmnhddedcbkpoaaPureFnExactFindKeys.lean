-- Laid by wip/shake.py of this repo out of this claim's texts. Not trusted: Lean checks it.
import Derived.Test.YtmnhddedcbkpoaaAllx199s
import Derived.Test.YtmnhddedcbkpoaaAllx200s
import Derived.Test.YtmnhddedcbkpoaaAllx201s
import Derived.Test.YtmnhddedcbkpoaaAllx560s
import Derived.Test.YtmnhddedcbkpoaaAllx64s
import Derived.Test.YtmnhddedcbkpoaaLemKeyss
set_option linter.unusedVariables false
set_option linter.unusedSimpArgs false
namespace Go.Proofs.Ytmnhddedcbkpoaa.Pure
open Go.RowKit Go.Proofs.Ytmnhddedcbkpoaa.All Go.Proofs.YtmnhddedcbkpoaaW.PrintWords Go.Proofs.YtmnhddedcbkpoaaW.PrintLast Go.Proofs.YtmnhddedcbkpoaaW.PrintMore
theorem FnExactFindKey : ∀ (a0_0 : Int) (l0_1 : List S43) (a1 : Int), (Lit.int .i64 a0_0).wf = true → l0_1.length ≤ maxLen → (∀ p ∈ l0_1, (Lit.int .i64 p.f0).wf = true ∧ p.f1.length ≤ maxLen ∧ ∀ y ∈ p.f1, (Lit.int .u8 y).wf = true) → (Lit.int .i64 a1).wf = true → ∃ k, laws_FnExactFindKey.f k a0_0 l0_1 a1 true := by
 intro p l id _ hl hb _
 unfold maxLen at hl
 have hb' : ∀ x ∈ l, x.f1.length ≤ 9223372036854775807 := fun x hx => by have := (hb x hx).2.1; unfold maxLen at this; omega
 obtain ⟨K, hK⟩ : ∃ K, K > 3000000 := ⟨_, Nat.lt_succ_self _⟩
 refine ⟨K, rfl, ?_⟩
 obtain ⟨v, hv, v1, v2⟩ := szRing K p l 1048576 (by omega) (by omega) (by omega) hb' (by omega)
 refine ⟨v, hv, ?_⟩
 by_cases h : v < 0
 ·exact .inl h
 right
 have ok := v2 (by omega)
 have ou := okUp l ok
 obtain ⟨r1, r2, r3, hs, hi, h3⟩ := findKey_both K p (ups l) id ou.1 ou.2 (by omega)
 have hm1 := markBe K 1 r3 (by omega) (by omega)
 have hh1 := heldBe K 1 r3.length (by omega) (by omega)
 rw [show ((1 : Nat) : Int) = 1 from rfl] at hm1 hh1
 have hmk := markKs_eq K (by omega) (ups l) 1 ou.2 (by have := ou.1; omega)
 rw [show ((1 : Nat) : Int) = 1 from rfl] at hmk
 refine ⟨h, ups l, _, r1, r2, _, ((1 + r3.length : Nat) : Int), r3, mkL 1 r3.length, toRing K p l ok (by omega), hs, hi, ?_, eqRingR K p (ups l) ou.1 ou.2 (by omega), by have := ou.1; omega, by omega, ?_, hmk, by omega, ?_, ?_, ?_⟩
 rotate_left
 rotate_left
 ·unfold laws_markKeyResult.f laws_markKey.f
  rw [hm1]
  rfl
 ·unfold laws_heldKeyResult.f laws_heldKey.f
  rw [hh1]
  simp only [Option.bind_some]
  rw [if_neg (by omega)]
  simp only [Option.bind_some]
  rw [if_neg (by omega)]
 ·omega
 ·unfold laws_eqKeyResult.f
  rw [if_pos rfl, eqK1 K r2 r3 h3 (by omega)]
  rfl
 ·rw [mkL_length]
end Go.Proofs.Ytmnhddedcbkpoaa.Pure
