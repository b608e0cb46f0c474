/- The law FnExactFieldTimes in numbers and lists: whatever comes in, it answers true.-/
import Derived.Test.YtndahpbmjjodpaaAllx3
import Derived.Test.YtndahpbmjjodpaaLemField
set_option linter.unusedVariables false
set_option linter.unusedSimpArgs false
namespace Go.Proofs.Ytndahpbmjjodpaa.Pure
open Go.RowKit Go.Proofs.Ytndahpbmjjodpaa.All Go.Proofs.YtndahpbmjjodpaaW.PrintWords Go.Proofs.YtndahpbmjjodpaaW.PrintLast Go.Proofs.YtndahpbmjjodpaaW.PrintMore
theorem FnExactFieldTimes : laws_FnExactFieldTimes.Pure := by
  intro a0 a1 h0 h1
  obtain ⟨a, rfl⟩ := bI_of a0 h0
  obtain ⟨b, rfl⟩ := bI_of a1 h1
  refine ⟨9, ?_⟩
  unfold laws_FnExactFieldTimes.f
  rw [spec_ft 9 (by omega), impl_ft 9 (by omega)]
  simp

end Go.Proofs.Ytndahpbmjjodpaa.Pure
