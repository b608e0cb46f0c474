-- Laid by wip/myprint.py of this repo over the kit's print (the functions' texts by the kit's program, some by hand). Not trusted: Lean checks it.
import Derived.Test.YtndahpbmjjodpaaAllx0
import Derived.Test.YtndahpbmjjodpaaAllx46
import Derived.Test.YtndahpbmjjodpaaAllx47
import Derived.Test.YtndahpbmjjodpaaAllx48
import Derived.Test.YtndahpbmjjodpaaAllx49
import Derived.Test.YtndahpbmjjodpaaAllx50
namespace Go.Proofs.Ytndahpbmjjodpaa.All
open Go.RowKit Go.Proofs.YtndahpbmjjodpaaW.PrintWords Go.Proofs.YtndahpbmjjodpaaW.PrintLast Go.Proofs.YtndahpbmjjodpaaW.PrintMore
attribute [local go_sem] max2_int min2_int max_two min_two max_three min_three max_four min_four
set_option linter.unusedVariables false
set_option linter.unusedSimpArgs false

/-! ### laws_FnExactSameLetters: function 11 -/
def laws_FnExactSameLetters.f (k : Nat) (a0_0 : Int) (a0_1 : Int) (a0_2 : Int) (l0_3 : List Int) (a1_0 : Int) (a1_1 : Int) (a1_2 : Int) (l1_3 : List Int) : Option (Bool) := (laws_szLetter.f a0_0 a0_1 a0_2 l0_3 1048576).bind fun t444 => (if t444 < 0 then (some true) else ((laws_szLetter.f a1_0 a1_1 a1_2 l1_3 t444).bind fun t445 => (if t445 < 0 then (some true) else ((laws_toLetter.f k a0_0 a0_1 a0_2 l0_3).bind fun bt446 => ((laws_toLetter.f k a1_0 a1_1 a1_2 l1_3).bind fun bt452 => ((spec_SameLetters.f bt446.1 bt446.2.1 bt446.2.2.1 bt446.2.2.2 bt452.1 bt452.2.1 bt452.2.2.1 bt452.2.2.2).bind fun t458 => ((laws_toLetter.f k a0_0 a0_1 a0_2 l0_3).bind fun bt459 => ((laws_toLetter.f k a1_0 a1_1 a1_2 l1_3).bind fun bt466 => ((impl_SameLetters.f bt459.1 bt459.2.1 bt459.2.2.1 bt459.2.2.2 bt466.1 bt466.2.1 bt466.2.2.1 bt466.2.2.2).bind fun t473 => (if (t473 != t458) = true then (some false) else ((laws_toLetter.f k a0_0 a0_1 a0_2 l0_3).bind fun bt474 => ((laws_eqLetter.f k bt459.1 bt459.2.1 bt459.2.2.1 bt459.2.2.2 bt474.1 bt474.2.1 bt474.2.2.1 bt474.2.2.2).bind fun t480 => (if t480 = true then ((laws_toLetter.f k a1_0 a1_1 a1_2 l1_3).bind fun bt481 => ((laws_eqLetter.f k bt466.1 bt466.2.1 bt466.2.2.1 bt466.2.2.2 bt481.1 bt481.2.1 bt481.2.2.1 bt481.2.2.2).bind fun t487 => (if t487 = true then (some true) else (some false)))) else (some false))))))))))))))
theorem laws_FnExactSameLetters.mono : ∀ a0 a1 a2 a3 a4 a5 a6 a7 k, LeO (laws_FnExactSameLetters.f k a0 a1 a2 a3 a4 a5 a6 a7) (laws_FnExactSameLetters.f (k + 1) a0 a1 a2 a3 a4 a5 a6 a7) := by
  intro a0 a1 a2 a3 a4 a5 a6 a7 k
  unfold laws_FnExactSameLetters.f
  repeat' first
      | (with_reducible exact laws_eqLetter.mono _ _ _ _ _ _ _ _ _)
      | (with_reducible exact laws_toLetter.mono _ _ _ _ _)
      | (with_reducible exact LeO.refl _)
      | (with_reducible exact LeO.none _)
      | (with_reducible refine LeO.ite ?_ ?_)
      | (with_reducible refine LeO.bind ?_ (fun _ => ?_))
      | exact laws_eqLetter.mono _ _ _ _ _ _ _ _ _
      | exact laws_toLetter.mono _ _ _ _ _
      | exact LeO.none _
      | refine LeO.ite ?_ ?_
      | refine LeO.bind ?_ (fun _ => ?_)

end Go.Proofs.Ytndahpbmjjodpaa.All
