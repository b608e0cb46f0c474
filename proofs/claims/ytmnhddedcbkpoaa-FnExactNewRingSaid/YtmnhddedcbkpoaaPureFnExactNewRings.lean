-- Laid by wip/shake.py of this repo out of this claim's texts. Not trusted: Lean checks it.
import Derived.Test.YtmnhddedcbkpoaaAllx550s
import Derived.Test.YtmnhddedcbkpoaaAllx557s
import Derived.Test.YtmnhddedcbkpoaaAllx562s
import Derived.Test.YtmnhddedcbkpoaaAllx563s
import Derived.Test.YtmnhddedcbkpoaaAllx62s
import Derived.Test.YtmnhddedcbkpoaaAllx63s
import Derived.Test.YtmnhddedcbkpoaaLemMarkss
set_option linter.unusedVariables false
set_option linter.unusedSimpArgs false
namespace Go.Proofs.Ytmnhddedcbkpoaa.Pure
open Go.RowKit Go.Proofs.Ytmnhddedcbkpoaa.All Go.Proofs.YtmnhddedcbkpoaaW.PrintWords Go.Proofs.YtmnhddedcbkpoaaW.PrintLast Go.Proofs.YtmnhddedcbkpoaaW.PrintMore
theorem newRing_both (k : Nat) (a : Int) (l : List Int) (hl : l.length ≤ 1048576) (hk : 1048577 ≤ k) : ∃ r1 r2 r3, spec_NewRing.f a l = some (r1, r2, r3) ∧ impl_NewRing.f k a l = some (r1, r2, r3) ∧ r3.length ≤ 1048576 ∧ ∀ x ∈ r3, x.f1.length ≤ 1048576 := by
 have hm : [(⟨a, l⟩ : S25)].length ≤ 1048576 := by simp
 have hb : ∀ x ∈ [(⟨a, l⟩ : S25)], x.f1.length ≤ 1048576 := fun x hx => by
  rw [List.mem_singleton] at hx
  rw [hx]
  exact hl
 unfold spec_NewRing.f impl_NewRing.f spec_RingFault.f
 rw [if_pos (okL_of _ hm hb), ring_fault k a _ hm (by omega), ownRing_eq k a _ hm hb hk]
 simp only [Option.bind_some]
 by_cases h : ringFaultL a [(⟨a, l⟩ : S25)] = 0
 ·rw [if_pos h]
  exact ⟨_, _, _, rfl, rfl, hm, hb⟩
 ·rw [if_neg h]
  exact ⟨_, _, _, rfl, rfl, by simp, fun x hx => by cases hx⟩
theorem FnExactNewRing : ∀ (a0_0 : Int) (l0_1 : List Int), (Lit.int .i64 a0_0).wf = true → l0_1.length ≤ maxLen → (∀ x ∈ l0_1, (Lit.int .u8 x).wf = true) → ∃ k, laws_FnExactNewRing.f k a0_0 l0_1 true := by
 intro a l _ hl _
 unfold maxLen at hl
 obtain ⟨K, hK⟩ : ∃ K, K > 3000000 := ⟨_, Nat.lt_succ_self _⟩
 refine ⟨K, rfl, ?_⟩
 obtain ⟨v, hv, v1, v2⟩ := szK1 a l 1048576 (by omega) (by omega) (by omega)
 refine ⟨v, hv, ?_⟩
 by_cases h : v < 0
 ·exact .inl h
 right
 have ok := v2 (by omega)
 obtain ⟨r1, r2, r3, hs, hi, h3, h4⟩ := newRing_both K a l ok (by omega)
 have hmr := markKs_eq K (by omega) r3 1 h4 (by omega)
 have hm1 := markBe K 1 l (by omega) (by omega)
 rw [show ((1 : Nat) : Int) = 1 from rfl] at hmr hm1
 refine ⟨h, l, mkL 1 l.length, r1, r2, ((1 + l.length : Nat) : Int), _, r3, _, toK1 K ⟨a, l⟩ ok (by omega), hs, hi, ?_, eqK1 K a l ok (by omega), by omega, (mkKs_length 1 r3).symm, ?_, ?_, by omega, hmr, heldRes K r1 r2 r3 h3 h4 (by omega), by omega⟩
 ·unfold laws_eqRingResult.f
  rw [if_pos rfl, eqRingR K r2 r3 h3 h4 (by omega)]
  rfl
 ·unfold laws_markKey.f
  rw [hm1]
  rfl
 ·rw [mkL_length]
end Go.Proofs.Ytmnhddedcbkpoaa.Pure
