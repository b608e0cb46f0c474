import Derived.Test.YtjfdcabgbcbdjaaAllx0
import Derived.Lib.Bytes
import Derived.Test.YtjfdcabgbcbdjaaAllx20
import Derived.Test.YtjfdcabgbcbdjaaLemStrB
set_option linter.unusedVariables false
set_option linter.unusedSimpArgs false
namespace Go.Proofs.Ytjfdcabgbcbdjaa.All
open Go.RowKit Go.Proofs.Ytjfdcabgbcbdjaa.All Go.Proofs.YtjfdcabgbcbdjaaW.PrintWords Go.Proofs.YtjfdcabgbcbdjaaW.PrintLast Go.Proofs.YtjfdcabgbcbdjaaW.PrintMore

theorem sameB (x y : List (BitVec 8)) : laws_lwSame.f (bL x) (bL y) = some (decide (x = y)) := by
  unfold laws_lwSame.f
  congr 1
  rw [Bool.eq_iff_iff, beq_iff_eq, decide_eq_true_iff]
  exact strB x y

end Go.Proofs.Ytjfdcabgbcbdjaa.All
