import Derived.Test.YtjfdcabgbcbdjaaAllx0
import Derived.Test.YtjfdcabgbcbdjaaAllx20
set_option linter.unusedVariables false
set_option linter.unusedSimpArgs false
namespace Go.Proofs.Ytjfdcabgbcbdjaa.All
open Go.RowKit Go.Proofs.Ytjfdcabgbcbdjaa.All Go.Proofs.YtjfdcabgbcbdjaaW.PrintWords Go.Proofs.YtjfdcabgbcbdjaaW.PrintLast Go.Proofs.YtjfdcabgbcbdjaaW.PrintMore
theorem later_at (l : List Int) : spec_l1Later.f l 1 = some (l, 12) := by
  unfold spec_l1Later.f
  rw [show wrap64 (5 + wrap64 (7 * 1)) = 12 by decide +kernel]

end Go.Proofs.Ytjfdcabgbcbdjaa.All
