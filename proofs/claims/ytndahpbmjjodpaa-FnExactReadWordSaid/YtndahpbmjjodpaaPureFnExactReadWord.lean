/- The law FnExactReadWord in numbers and lists: whatever comes in, it answers true.-/
import Derived.Test.YtndahpbmjjodpaaAllx40
import Derived.Test.YtndahpbmjjodpaaAllx5
import Derived.Test.YtndahpbmjjodpaaLemBytes
import Derived.Test.YtndahpbmjjodpaaLemReadWord
set_option linter.unusedVariables false
set_option linter.unusedSimpArgs false
namespace Go.Proofs.Ytndahpbmjjodpaa.Pure
open Go.RowKit Go.Proofs.Ytndahpbmjjodpaa.All Go.Proofs.YtndahpbmjjodpaaW.PrintWords Go.Proofs.YtndahpbmjjodpaaW.PrintLast Go.Proofs.YtndahpbmjjodpaaW.PrintMore
theorem FnExactReadWord : laws_FnExactReadWord.Pure := by
  intro l0 s n _ _ hw hs hn
  obtain ⟨m, rfl⟩ := bL_of l0 hw
  obtain ⟨K, hK⟩ : ∃ K, K > 1048600 := ⟨_, Nat.lt_succ_self _⟩
  refine ⟨K, ?_⟩
  unfold laws_FnExactReadWord.f
  by_cases h : ((bL m).length : Int) > 1048576
  · rw [if_pos h]
  have hm : (bL m).length ≤ 1048576 := by omega
  obtain ⟨c, v, hS, hI⟩ := readWord_at K (by omega) m (by rw [bL_length] at hm; exact hm) s n hs hn
  rw [if_neg h]
  simp only [toB K _ hm (by omega), hS, hI, Option.bind_some, eqB K _ hm (by omega), if_true, laws_eqIntResult.f]

end Go.Proofs.Ytndahpbmjjodpaa.Pure
