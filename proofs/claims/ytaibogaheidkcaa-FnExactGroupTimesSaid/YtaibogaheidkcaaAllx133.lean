-- Laid by wip/myprint.py of this repo over the kit's print (the functions' texts by the kit's program, some by hand). Not trusted: Lean checks it.
import Derived.Test.YtaibogaheidkcaaAllx0
import Derived.Test.YtaibogaheidkcaaAllx12
import Derived.Test.YtaibogaheidkcaaAllx76
import Derived.Test.YtaibogaheidkcaaAllx63
import Derived.Test.YtaibogaheidkcaaAllx77
import Derived.Test.YtaibogaheidkcaaAllx78
import Derived.Test.YtaibogaheidkcaaAllx9
import Derived.Test.YtaibogaheidkcaaAllx97
import Derived.Test.YtaibogaheidkcaaAllx522
namespace Go.Proofs.Ytaibogaheidkcaa.All
open Go.RowKit Go.Proofs.YtaibogaheidkcaaW.PrintWords Go.Proofs.YtaibogaheidkcaaW.PrintLast Go.Proofs.YtaibogaheidkcaaW.PrintMore
attribute [local go_sem] max2_int min2_int max_two min_two max_three min_three max_four min_four
set_option linter.unusedVariables false
set_option linter.unusedSimpArgs false

/-! ### laws_FnExactGroupTimes: function 9 -/
def laws_FnExactGroupTimes.j0 : Nat → List Int → List Int → Bool → Int → List Int → Int → List Int → Option (Bool)
  | 0, _, _, _, _, _, _, _ => none
  | k + 1, x0, x1, x58, x494000, x494001, x505000, x505001 => if x58 = true then (some false) else ((laws_markBytesResult.f k x505000 x505001 1).bind fun bt519 => ((laws_heldBytesResult.f k x505000 bt519.2 1).bind fun t521 => (if t521 < 0 then (some false) else (if t521 = bt519.1 then ((laws_toByteS.f k x0).bind fun t522 => ((laws_toByteS.f k x1).bind fun t525 => ((impl_GroupTimes.f k t522 t525).bind fun bt528 => ((laws_eqBytesResult.f k bt528.1 bt528.2 x494000 x494001).bind fun t533 => (if t533 = true then ((laws_heldBytesResult.f k x505000 bt519.2 1).bind fun t534 => (if t534 < 0 then (some false) else (if t534 = bt519.1 then (some true) else (some false)))) else (some false)))))) else (some false)))))
def laws_FnExactGroupTimes.f (k : Nat) (l0 : List Int) (l1 : List Int) : Option (Bool) := if (l0.length : Int) > 1048576 then (some true) else (if (l1.length : Int) > 1048576 then (some true) else ((laws_toByteS.f k l0).bind fun t483 => ((laws_toByteS.f k l1).bind fun t486 => ((spec_GroupTimes.f k t483 t486).bind fun bt489 => ((laws_toByteS.f k l0).bind fun t494 => ((laws_toByteS.f k l1).bind fun t497 => ((impl_GroupTimes.f k t494 t497).bind fun bt500 => ((laws_eqBytesResult.f k bt500.1 bt500.2 bt489.1 bt489.2).bind fun t505 => (if t505 = true then ((laws_toByteS.f k l0).bind fun t506 => ((laws_eqByteS.f k t494 t506).bind fun t509 => (if t509 = true then ((laws_toByteS.f k l1).bind fun t510 => ((laws_eqByteS.f k t497 t510).bind fun t513 => (if t513 = true then ((laws_markByteS.f k t494 1).bind fun bt514 => ((laws_markByteS.f k t497 bt514.1).bind fun bt516 => (if bt516.1 < 0 then (laws_FnExactGroupTimes.j0 k l0 l1 true bt489.1 bt489.2 bt500.1 bt500.2) else ((laws_eqBytesResult.f k bt500.1 bt500.2 bt489.1 bt489.2).bind fun t518 => (laws_FnExactGroupTimes.j0 k l0 l1 (!t518) bt489.1 bt489.2 bt500.1 bt500.2))))) else (some false)))) else (some false)))) else (some false))))))))))
theorem laws_FnExactGroupTimes.mono_l : ∀ k, (∀ y0 y1 y2 y3 y4 y5 y6, LeO (laws_FnExactGroupTimes.j0 k y0 y1 y2 y3 y4 y5 y6) (laws_FnExactGroupTimes.j0 (k + 1) y0 y1 y2 y3 y4 y5 y6))
  | 0 => fun _ _ _ _ _ _ _ r h => by simp [laws_FnExactGroupTimes.j0] at h
  | k + 1 => by
    have ih0 := laws_FnExactGroupTimes.mono_l k
    · intro y0 y1 y2 y3 y4 y5 y6
      unfold laws_FnExactGroupTimes.j0
      repeat' first
      | (with_reducible exact ih0 _ _ _ _ _ _ _)
      | (with_reducible exact impl_GroupTimes.mono _ _ _)
      | (with_reducible exact laws_eqByteS.mono _ _ _)
      | (with_reducible exact laws_eqBytesResult.mono _ _ _ _ _)
      | (with_reducible exact laws_heldBytesResult.mono _ _ _ _)
      | (with_reducible exact laws_markByteS.mono _ _ _)
      | (with_reducible exact laws_markBytesResult.mono _ _ _ _)
      | (with_reducible exact laws_toByteS.mono _ _)
      | (with_reducible exact spec_GroupTimes.mono _ _ _)
      | (with_reducible exact LeO.refl _)
      | (with_reducible exact LeO.none _)
      | (with_reducible refine LeO.ite ?_ ?_)
      | (with_reducible refine LeO.bind ?_ (fun _ => ?_))
      | exact ih0 _ _ _ _ _ _ _
      | exact impl_GroupTimes.mono _ _ _
      | exact laws_eqByteS.mono _ _ _
      | exact laws_eqBytesResult.mono _ _ _ _ _
      | exact laws_heldBytesResult.mono _ _ _ _
      | exact laws_markByteS.mono _ _ _
      | exact laws_markBytesResult.mono _ _ _ _
      | exact laws_toByteS.mono _ _
      | exact spec_GroupTimes.mono _ _ _
      | exact LeO.none _
      | refine LeO.ite ?_ ?_
      | refine LeO.bind ?_ (fun _ => ?_)
theorem laws_FnExactGroupTimes.mono : ∀ a0 a1 k, LeO (laws_FnExactGroupTimes.f k a0 a1) (laws_FnExactGroupTimes.f (k + 1) a0 a1) := by
  intro a0 a1 k
  have ih0 := laws_FnExactGroupTimes.mono_l k
  unfold laws_FnExactGroupTimes.f
  repeat' first
      | (with_reducible exact ih0 _ _ _ _ _ _ _)
      | (with_reducible exact impl_GroupTimes.mono _ _ _)
      | (with_reducible exact laws_eqByteS.mono _ _ _)
      | (with_reducible exact laws_eqBytesResult.mono _ _ _ _ _)
      | (with_reducible exact laws_heldBytesResult.mono _ _ _ _)
      | (with_reducible exact laws_markByteS.mono _ _ _)
      | (with_reducible exact laws_markBytesResult.mono _ _ _ _)
      | (with_reducible exact laws_toByteS.mono _ _)
      | (with_reducible exact spec_GroupTimes.mono _ _ _)
      | (with_reducible exact LeO.refl _)
      | (with_reducible exact LeO.none _)
      | (with_reducible refine LeO.ite ?_ ?_)
      | (with_reducible refine LeO.bind ?_ (fun _ => ?_))
      | exact ih0 _ _ _ _ _ _ _
      | exact impl_GroupTimes.mono _ _ _
      | exact laws_eqByteS.mono _ _ _
      | exact laws_eqBytesResult.mono _ _ _ _ _
      | exact laws_heldBytesResult.mono _ _ _ _
      | exact laws_markByteS.mono _ _ _
      | exact laws_markBytesResult.mono _ _ _ _
      | exact laws_toByteS.mono _ _
      | exact spec_GroupTimes.mono _ _ _
      | exact LeO.none _
      | refine LeO.ite ?_ ?_
      | refine LeO.bind ?_ (fun _ => ?_)

end Go.Proofs.Ytaibogaheidkcaa.All
