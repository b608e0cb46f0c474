/- The law FnExactFieldInverse in numbers and lists: whatever comes in, it answers true.-/
import Derived.Test.YtndahpbmjjodpaaAllx19
import Derived.Test.YtndahpbmjjodpaaLemFieldInv
set_option linter.unusedVariables false
set_option linter.unusedSimpArgs false
namespace Go.Proofs.Ytndahpbmjjodpaa.Pure
open Go.RowKit Go.Proofs.Ytndahpbmjjodpaa.All Go.Proofs.YtndahpbmjjodpaaW.PrintWords Go.Proofs.YtndahpbmjjodpaaW.PrintLast Go.Proofs.YtndahpbmjjodpaaW.PrintMore
theorem FnExactFieldInverse : laws_FnExactFieldInverse.Pure := by
  intro a0 h0
  obtain ⟨a, rfl⟩ := bI_of a0 h0
  refine ⟨300, ?_⟩
  unfold laws_FnExactFieldInverse.f
  rw [spec_inv 300 (by omega), impl_inv 300 (by omega)]
  simp

end Go.Proofs.Ytndahpbmjjodpaa.Pure
