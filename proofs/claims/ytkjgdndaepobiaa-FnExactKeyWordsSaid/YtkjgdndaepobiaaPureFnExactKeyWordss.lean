-- Laid by wip/shake.py of this repo out of this claim's texts. Not trusted: Lean checks it.
import Derived.Test.YtkjgdndaepobiaaAllx576s
import Derived.Test.YtkjgdndaepobiaaAllx579s
import Derived.Test.YtkjgdndaepobiaaLemBytess
set_option linter.unusedVariables false
set_option linter.unusedSimpArgs false
namespace Go.Proofs.Ytkjgdndaepobiaa.Pure
open Go.RowKit Go.Proofs.Ytkjgdndaepobiaa.All Go.Proofs.YtkjgdndaepobiaaW.PrintWords Go.Proofs.YtkjgdndaepobiaaW.PrintLast Go.Proofs.YtkjgdndaepobiaaW.PrintMore
theorem FnExactKeyWords : ∀ (l0 : List Int), l0.length ≤ maxLen → (∀ x ∈ l0, (Lit.int .u8 x).wf = true) → ∃ k, laws_FnExactKeyWords.f k l0 true := by
 intro l0 _ hw
 obtain ⟨c, rfl⟩ := bL_of l0 hw
 obtain ⟨K, hK⟩ : ∃ K, K > 3000000 := ⟨_, Nat.lt_succ_self _⟩
 refine ⟨K, rfl, ?_⟩
 by_cases h : (1048576 : Int) < ((bL c).length : Int)
 ·exact .inl h
 have hl : (bL c).length ≤ 1048576 := by omega
 obtain ⟨r1, r3, hs, hi, hf⟩ := keyWords_at K (by omega) c
 have h4 : ∀ x ∈ r3, x.length ≤ 4 := by
  rcases hf with ⟨hm, _, rfl⟩ | ⟨_, rfl⟩
  ·intro x hx
   have := words_len _ (schedL_length c hm) x hx
   omega
  ·intro x hx
   simp at hx
 have h44 : r3.length ≤ 44 := by
  rcases hf with ⟨hm, _, rfl⟩ | ⟨_, rfl⟩
  ·rw [wordsTo_length]; omega
  ·simp
 have ht := totBs_le 1 r3 h4
 refine .inr ⟨h, bL c, mkL 1 (bL c).length, r1, ((1 + (bL c).length : Nat) : Int), ((totBs 1 r3 : Nat) : Int), r3, mkBs 1 r3, toB K _ hl (by omega), hs, hi, eqWords K r1 r3 (by omega) h4 (by omega), eqB K _ hl (by omega), by omega, (mkBs_length 1 r3).symm, markB K _ hl (by omega), markBs_eq K (by omega) r3 1 h4 (by omega), heldWords K r1 r3 (by omega) h4 (by omega), by omega, by omega⟩
end Go.Proofs.Ytkjgdndaepobiaa.Pure
