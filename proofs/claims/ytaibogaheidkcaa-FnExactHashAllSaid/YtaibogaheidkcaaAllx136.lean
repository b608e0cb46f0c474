-- Laid by wip/myprint.py of this repo over the kit's print (the functions' texts by the kit's program, some by hand). Not trusted: Lean checks it.
import Derived.Test.YtaibogaheidkcaaAllx0
import Derived.Test.YtaibogaheidkcaaAllx12
import Derived.Test.YtaibogaheidkcaaAllx104
import Derived.Test.YtaibogaheidkcaaAllx524
namespace Go.Proofs.Ytaibogaheidkcaa.All
open Go.RowKit Go.Proofs.YtaibogaheidkcaaW.PrintWords Go.Proofs.YtaibogaheidkcaaW.PrintLast Go.Proofs.YtaibogaheidkcaaW.PrintMore
attribute [local go_sem] max2_int min2_int max_two min_two max_three min_three max_four min_four
set_option linter.unusedVariables false
set_option linter.unusedSimpArgs false

/-! ### laws_FnExactHashAll: function 11 -/
def laws_FnExactHashAll.j0 : Nat → List Int → List Int → Bool → Int → List Int → Int → List Int → Option (Bool)
  | 0, _, _, _, _, _, _, _ => none
  | k + 1, x0, x1, x58, x580000, x580001, x591000, x591001 => if x58 = true then (some false) else ((laws_markBytesResult.f k x591000 x591001 1).bind fun bt605 => ((laws_heldBytesResult.f k x591000 bt605.2 1).bind fun t607 => (if t607 < 0 then (some false) else (if t607 = bt605.1 then ((laws_toByteS.f k x0).bind fun t608 => ((laws_toByteS.f k x1).bind fun t611 => ((impl_HashAll.f t608 t611).bind fun bt614 => ((laws_eqBytesResult.f k bt614.1 bt614.2 x580000 x580001).bind fun t619 => (if t619 = true then ((laws_heldBytesResult.f k x591000 bt605.2 1).bind fun t620 => (if t620 < 0 then (some false) else (if t620 = bt605.1 then (some true) else (some false)))) else (some false)))))) else (some false)))))
def laws_FnExactHashAll.f (k : Nat) (l0 : List Int) (l1 : List Int) : Option (Bool) := if (l0.length : Int) > 1048576 then (some true) else (if (l1.length : Int) > 1048576 then (some true) else ((laws_toByteS.f k l0).bind fun t569 => ((laws_toByteS.f k l1).bind fun t572 => ((spec_HashAll.f k t569 t572).bind fun bt575 => ((laws_toByteS.f k l0).bind fun t580 => ((laws_toByteS.f k l1).bind fun t583 => ((impl_HashAll.f t580 t583).bind fun bt586 => ((laws_eqBytesResult.f k bt586.1 bt586.2 bt575.1 bt575.2).bind fun t591 => (if t591 = true then ((laws_toByteS.f k l0).bind fun t592 => ((laws_eqByteS.f k t580 t592).bind fun t595 => (if t595 = true then ((laws_toByteS.f k l1).bind fun t596 => ((laws_eqByteS.f k t583 t596).bind fun t599 => (if t599 = true then ((laws_markByteS.f k t580 1).bind fun bt600 => ((laws_markByteS.f k t583 bt600.1).bind fun bt602 => (if bt602.1 < 0 then (laws_FnExactHashAll.j0 k l0 l1 true bt575.1 bt575.2 bt586.1 bt586.2) else ((laws_eqBytesResult.f k bt586.1 bt586.2 bt575.1 bt575.2).bind fun t604 => (laws_FnExactHashAll.j0 k l0 l1 (!t604) bt575.1 bt575.2 bt586.1 bt586.2))))) else (some false)))) else (some false)))) else (some false))))))))))
theorem laws_FnExactHashAll.mono_l : ∀ k, (∀ y0 y1 y2 y3 y4 y5 y6, LeO (laws_FnExactHashAll.j0 k y0 y1 y2 y3 y4 y5 y6) (laws_FnExactHashAll.j0 (k + 1) y0 y1 y2 y3 y4 y5 y6))
  | 0 => fun _ _ _ _ _ _ _ r h => by simp [laws_FnExactHashAll.j0] at h
  | k + 1 => by
    have ih0 := laws_FnExactHashAll.mono_l k
    · intro y0 y1 y2 y3 y4 y5 y6
      unfold laws_FnExactHashAll.j0
      repeat' first
      | (with_reducible exact ih0 _ _ _ _ _ _ _)
      | (with_reducible exact laws_eqByteS.mono _ _ _)
      | (with_reducible exact laws_eqBytesResult.mono _ _ _ _ _)
      | (with_reducible exact laws_heldBytesResult.mono _ _ _ _)
      | (with_reducible exact laws_markByteS.mono _ _ _)
      | (with_reducible exact laws_markBytesResult.mono _ _ _ _)
      | (with_reducible exact laws_toByteS.mono _ _)
      | (with_reducible exact spec_HashAll.mono _ _ _)
      | (with_reducible exact LeO.refl _)
      | (with_reducible exact LeO.none _)
      | (with_reducible refine LeO.ite ?_ ?_)
      | (with_reducible refine LeO.bind ?_ (fun _ => ?_))
      | exact ih0 _ _ _ _ _ _ _
      | exact laws_eqByteS.mono _ _ _
      | exact laws_eqBytesResult.mono _ _ _ _ _
      | exact laws_heldBytesResult.mono _ _ _ _
      | exact laws_markByteS.mono _ _ _
      | exact laws_markBytesResult.mono _ _ _ _
      | exact laws_toByteS.mono _ _
      | exact spec_HashAll.mono _ _ _
      | exact LeO.none _
      | refine LeO.ite ?_ ?_
      | refine LeO.bind ?_ (fun _ => ?_)
theorem laws_FnExactHashAll.mono : ∀ a0 a1 k, LeO (laws_FnExactHashAll.f k a0 a1) (laws_FnExactHashAll.f (k + 1) a0 a1) := by
  intro a0 a1 k
  have ih0 := laws_FnExactHashAll.mono_l k
  unfold laws_FnExactHashAll.f
  repeat' first
      | (with_reducible exact ih0 _ _ _ _ _ _ _)
      | (with_reducible exact laws_eqByteS.mono _ _ _)
      | (with_reducible exact laws_eqBytesResult.mono _ _ _ _ _)
      | (with_reducible exact laws_heldBytesResult.mono _ _ _ _)
      | (with_reducible exact laws_markByteS.mono _ _ _)
      | (with_reducible exact laws_markBytesResult.mono _ _ _ _)
      | (with_reducible exact laws_toByteS.mono _ _)
      | (with_reducible exact spec_HashAll.mono _ _ _)
      | (with_reducible exact LeO.refl _)
      | (with_reducible exact LeO.none _)
      | (with_reducible refine LeO.ite ?_ ?_)
      | (with_reducible refine LeO.bind ?_ (fun _ => ?_))
      | exact ih0 _ _ _ _ _ _ _
      | exact laws_eqByteS.mono _ _ _
      | exact laws_eqBytesResult.mono _ _ _ _ _
      | exact laws_heldBytesResult.mono _ _ _ _
      | exact laws_markByteS.mono _ _ _
      | exact laws_markBytesResult.mono _ _ _ _
      | exact laws_toByteS.mono _ _
      | exact spec_HashAll.mono _ _ _
      | exact LeO.none _
      | refine LeO.ite ?_ ?_
      | refine LeO.bind ?_ (fun _ => ?_)

end Go.Proofs.Ytaibogaheidkcaa.All
