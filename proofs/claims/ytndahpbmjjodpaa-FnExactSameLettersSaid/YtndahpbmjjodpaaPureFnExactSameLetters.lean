/- The law FnExactSameLetters in numbers and lists. -/
import Derived.Test.YtndahpbmjjodpaaAllx10
import Derived.Test.YtndahpbmjjodpaaAllx126
import Derived.Test.YtndahpbmjjodpaaAllx47
import Derived.Test.YtndahpbmjjodpaaAllx49
import Derived.Test.YtndahpbmjjodpaaLemLetters
set_option linter.unusedVariables false
set_option linter.unusedSimpArgs false
namespace Go.Proofs.Ytndahpbmjjodpaa.Pure
open Go.RowKit Go.Proofs.Ytndahpbmjjodpaa.All Go.Proofs.YtndahpbmjjodpaaW.PrintWords Go.Proofs.YtndahpbmjjodpaaW.PrintLast Go.Proofs.YtndahpbmjjodpaaW.PrintMore
theorem FnExactSameLetters : ∀ (a0_0 : Int) (a0_1 : Int) (a0_2 : Int) (l0_3 : List Int) (a1_0 : Int) (a1_1 : Int) (a1_2 : Int) (l1_3 : List Int), (Lit.int .i64 a0_0).wf = true → (Lit.int .i64 a0_1).wf = true → (Lit.int .i64 a0_2).wf = true → l0_3.length ≤ maxLen → (∀ x ∈ l0_3, (Lit.int .u8 x).wf = true) → (Lit.int .i64 a1_0).wf = true → (Lit.int .i64 a1_1).wf = true → (Lit.int .i64 a1_2).wf = true → l1_3.length ≤ maxLen → (∀ x ∈ l1_3, (Lit.int .u8 x).wf = true) → ∃ k, All.laws_FnExactSameLetters.f k a0_0 a0_1 a0_2 l0_3 a1_0 a1_1 a1_2 l1_3 = some true := by
  intro a0 a1 a2 l b0 b1 b2 m _ _ _ hl _ _ _ _ hm _
  unfold maxLen at hl hm
  obtain ⟨K, hK⟩ : ∃ K, K > 1048600 := ⟨_, Nat.lt_succ_self _⟩
  refine ⟨K, ?_⟩
  unfold laws_FnExactSameLetters.f
  obtain ⟨v, hv, v1, v2⟩ := szLetter a0 a1 a2 l 1048576 (by omega) (by omega) (by omega)
  rw [hv]
  simp only [Option.bind_some]
  by_cases h : v < 0
  · rw [if_pos h]
  rw [if_neg h]
  obtain ⟨u, hu, u1, u2⟩ := szLetter b0 b1 b2 m v (by omega) (by omega) (by omega)
  rw [hu]
  simp only [Option.bind_some]
  by_cases h' : u < 0
  · rw [if_pos h']
  rw [if_neg h']
  have nl : l.length ≤ 1048576 := by have := v2 (by omega); omega
  have nm : m.length ≤ 1048576 := by have := u2 (by omega); omega
  have hs : spec_SameLetters.f a0 a1 a2 l b0 b1 b2 m = impl_SameLetters.f a0 a1 a2 l b0 b1 b2 m := by
    unfold spec_SameLetters.f impl_SameLetters.f bytes_Equal.f
    rfl
  obtain ⟨x, hx⟩ : ∃ x, impl_SameLetters.f a0 a1 a2 l b0 b1 b2 m = some x := by
    unfold impl_SameLetters.f bytes_Equal.f
    repeat' split
    all_goals exact ⟨_, rfl⟩
  simp only [toLetter K _ _ _ l nl (by omega), toLetter K _ _ _ m nm (by omega), hs, hx, Option.bind_some, eqLetterR K _ _ _ l nl (by omega), eqLetterR K _ _ _ m nm (by omega), if_true, bne_self_eq_false, Bool.false_eq_true, if_false]

end Go.Proofs.Ytndahpbmjjodpaa.Pure
