/- The law FnExactSameBytes in numbers and lists: whatever comes in, it answers true.-/
import Derived.Test.YtndahpbmjjodpaaAllx10
import Derived.Test.YtndahpbmjjodpaaAllx11
import Derived.Test.YtndahpbmjjodpaaAllx13
import Derived.Test.YtndahpbmjjodpaaAllx8
import Derived.Test.YtndahpbmjjodpaaLemBytes
set_option linter.unusedVariables false
set_option linter.unusedSimpArgs false
namespace Go.Proofs.Ytndahpbmjjodpaa.Pure
open Go.RowKit Go.Proofs.Ytndahpbmjjodpaa.All Go.Proofs.YtndahpbmjjodpaaW.PrintWords Go.Proofs.YtndahpbmjjodpaaW.PrintLast Go.Proofs.YtndahpbmjjodpaaW.PrintMore
theorem FnExactSameBytes : laws_FnExactSameBytes.Pure := by
  intro l0 l1 _ _ _ _ _ _
  refine ⟨1048577, ?_⟩
  unfold laws_FnExactSameBytes.f
  by_cases h0 : (l0.length : Int) > 1048576
  · rw [if_pos h0]
  by_cases h1 : (l1.length : Int) > 1048576
  · rw [if_neg h0, if_pos h1]
  rw [if_neg h0, if_neg h1]
  have n0 : l0.length ≤ 1048576 := by omega
  have n1 : l1.length ≤ 1048576 := by omega
  have t0 := toB 1048577 l0 n0 (by omega)
  have t1 := toB 1048577 l1 n1 (by omega)
  have e0 := eqB 1048577 l0 n0 (by omega)
  have e1 := eqB 1048577 l1 n1 (by omega)
  rw [t0, t1]
  simp only [Option.bind_some, spec_SameBytes.f, impl_SameBytes.f, bytes_Equal.f]
  rw [if_neg (by simp), e0]
  simp only [Option.bind_some, if_true]
  rw [e1]
  simp

end Go.Proofs.Ytndahpbmjjodpaa.Pure
