/- The law FnExactSubByte in numbers and lists: whatever comes in, it answers true.-/
import Derived.Test.YtndahpbmjjodpaaAllx2
import Derived.Test.YtndahpbmjjodpaaAllx501
import Derived.Test.YtndahpbmjjodpaaAllx502
set_option linter.unusedVariables false
set_option linter.unusedSimpArgs false
namespace Go.Proofs.Ytndahpbmjjodpaa.Pure
open Go.RowKit Go.Proofs.Ytndahpbmjjodpaa.All Go.Proofs.YtndahpbmjjodpaaW.PrintWords Go.Proofs.YtndahpbmjjodpaaW.PrintLast Go.Proofs.YtndahpbmjjodpaaW.PrintMore
theorem FnExactSubByte : laws_FnExactSubByte.Pure := by
  intro a0 h0
  obtain ⟨a, rfl⟩ := bI_of a0 h0
  unfold laws_FnExactSubByte.f
  rw [spec_SubByte_at, impl_SubByte_at]
  simp

end Go.Proofs.Ytndahpbmjjodpaa.Pure
