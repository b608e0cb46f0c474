/- The law FnExactRoundConstant in numbers and lists: whatever comes in, it answers true.-/
import Derived.Test.YtndahpbmjjodpaaAllx40
import Derived.Test.YtndahpbmjjodpaaAllx41
import Derived.Test.YtndahpbmjjodpaaLemRoundC
set_option linter.unusedVariables false
set_option linter.unusedSimpArgs false
namespace Go.Proofs.Ytndahpbmjjodpaa.Pure
open Go.RowKit Go.Proofs.Ytndahpbmjjodpaa.All Go.Proofs.YtndahpbmjjodpaaW.PrintWords Go.Proofs.YtndahpbmjjodpaaW.PrintLast Go.Proofs.YtndahpbmjjodpaaW.PrintMore
theorem FnExactRoundConstant : laws_FnExactRoundConstant.Pure := by
  intro a0 h0
  refine ⟨30, ?_⟩
  unfold laws_FnExactRoundConstant.f laws_eqIntResult.f
  by_cases h : 1 ≤ a0 ∧ a0 ≤ 10
  · obtain ⟨i, rfl⟩ := Int.eq_ofNat_of_zero_le (show 0 ≤ a0 by omega)
    rw [spec_rc 30 (by omega) i (by omega) (by omega), impl_rc 30 (by omega) i (by omega) (by omega)]
    simp
  · rw [spec_rc_no 30 a0 h, impl_rc_no 30 a0 h]
    simp

end Go.Proofs.Ytndahpbmjjodpaa.Pure
