-- Laid by wip/myprint.py of this repo over the kit's print (the functions' texts by the kit's program, some by hand). Not trusted: Lean checks it.
import Derived.Test.YtaibogaheidkcaaAllx0
import Derived.Test.YtaibogaheidkcaaAllx12
import Derived.Test.YtaibogaheidkcaaAllx157
import Derived.Test.YtaibogaheidkcaaAllx530
namespace Go.Proofs.Ytaibogaheidkcaa.All
open Go.RowKit Go.Proofs.YtaibogaheidkcaaW.PrintWords Go.Proofs.YtaibogaheidkcaaW.PrintLast Go.Proofs.YtaibogaheidkcaaW.PrintMore
attribute [local go_sem] max2_int min2_int max_two min_two max_three min_three max_four min_four
set_option linter.unusedVariables false
set_option linter.unusedSimpArgs false

/-! ### laws_FnExactEncryptBlock: function 12 -/
def laws_FnExactEncryptBlock.j0 : Nat → List Int → List Int → Bool → Int → List Int → Int → List Int → Option (Bool)
  | 0, _, _, _, _, _, _, _ => none
  | k + 1, x0, x1, x58, x659000, x659001, x670000, x670001 => if x58 = true then (some false) else ((laws_markBytesResult.f k x670000 x670001 1).bind fun bt684 => ((laws_heldBytesResult.f k x670000 bt684.2 1).bind fun t686 => (if t686 < 0 then (some false) else (if t686 = bt684.1 then ((laws_toByteS.f k x0).bind fun t687 => ((laws_toByteS.f k x1).bind fun t690 => ((impl_EncryptBlock.f t687 t690).bind fun bt693 => ((laws_eqBytesResult.f k bt693.1 bt693.2 x659000 x659001).bind fun t698 => (if t698 = true then ((laws_heldBytesResult.f k x670000 bt684.2 1).bind fun t699 => (if t699 < 0 then (some false) else (if t699 = bt684.1 then (some true) else (some false)))) else (some false)))))) else (some false)))))
def laws_FnExactEncryptBlock.f (k : Nat) (l0 : List Int) (l1 : List Int) : Option (Bool) := if (l0.length : Int) > 1048576 then (some true) else (if (l1.length : Int) > 1048576 then (some true) else ((laws_toByteS.f k l0).bind fun t648 => ((laws_toByteS.f k l1).bind fun t651 => ((spec_EncryptBlock.f k t648 t651).bind fun bt654 => ((laws_toByteS.f k l0).bind fun t659 => ((laws_toByteS.f k l1).bind fun t662 => ((impl_EncryptBlock.f t659 t662).bind fun bt665 => ((laws_eqBytesResult.f k bt665.1 bt665.2 bt654.1 bt654.2).bind fun t670 => (if t670 = true then ((laws_toByteS.f k l0).bind fun t671 => ((laws_eqByteS.f k t659 t671).bind fun t674 => (if t674 = true then ((laws_toByteS.f k l1).bind fun t675 => ((laws_eqByteS.f k t662 t675).bind fun t678 => (if t678 = true then ((laws_markByteS.f k t659 1).bind fun bt679 => ((laws_markByteS.f k t662 bt679.1).bind fun bt681 => (if bt681.1 < 0 then (laws_FnExactEncryptBlock.j0 k l0 l1 true bt654.1 bt654.2 bt665.1 bt665.2) else ((laws_eqBytesResult.f k bt665.1 bt665.2 bt654.1 bt654.2).bind fun t683 => (laws_FnExactEncryptBlock.j0 k l0 l1 (!t683) bt654.1 bt654.2 bt665.1 bt665.2))))) else (some false)))) else (some false)))) else (some false))))))))))
theorem laws_FnExactEncryptBlock.mono_l : ∀ k, (∀ y0 y1 y2 y3 y4 y5 y6, LeO (laws_FnExactEncryptBlock.j0 k y0 y1 y2 y3 y4 y5 y6) (laws_FnExactEncryptBlock.j0 (k + 1) y0 y1 y2 y3 y4 y5 y6))
  | 0 => fun _ _ _ _ _ _ _ r h => by simp [laws_FnExactEncryptBlock.j0] at h
  | k + 1 => by
    have ih0 := laws_FnExactEncryptBlock.mono_l k
    · intro y0 y1 y2 y3 y4 y5 y6
      unfold laws_FnExactEncryptBlock.j0
      repeat' first
      | (with_reducible exact ih0 _ _ _ _ _ _ _)
      | (with_reducible exact laws_eqByteS.mono _ _ _)
      | (with_reducible exact laws_eqBytesResult.mono _ _ _ _ _)
      | (with_reducible exact laws_heldBytesResult.mono _ _ _ _)
      | (with_reducible exact laws_markByteS.mono _ _ _)
      | (with_reducible exact laws_markBytesResult.mono _ _ _ _)
      | (with_reducible exact laws_toByteS.mono _ _)
      | (with_reducible exact spec_EncryptBlock.mono _ _ _)
      | (with_reducible exact LeO.refl _)
      | (with_reducible exact LeO.none _)
      | (with_reducible refine LeO.ite ?_ ?_)
      | (with_reducible refine LeO.bind ?_ (fun _ => ?_))
      | exact ih0 _ _ _ _ _ _ _
      | exact laws_eqByteS.mono _ _ _
      | exact laws_eqBytesResult.mono _ _ _ _ _
      | exact laws_heldBytesResult.mono _ _ _ _
      | exact laws_markByteS.mono _ _ _
      | exact laws_markBytesResult.mono _ _ _ _
      | exact laws_toByteS.mono _ _
      | exact spec_EncryptBlock.mono _ _ _
      | exact LeO.none _
      | refine LeO.ite ?_ ?_
      | refine LeO.bind ?_ (fun _ => ?_)
theorem laws_FnExactEncryptBlock.mono : ∀ a0 a1 k, LeO (laws_FnExactEncryptBlock.f k a0 a1) (laws_FnExactEncryptBlock.f (k + 1) a0 a1) := by
  intro a0 a1 k
  have ih0 := laws_FnExactEncryptBlock.mono_l k
  unfold laws_FnExactEncryptBlock.f
  repeat' first
      | (with_reducible exact ih0 _ _ _ _ _ _ _)
      | (with_reducible exact laws_eqByteS.mono _ _ _)
      | (with_reducible exact laws_eqBytesResult.mono _ _ _ _ _)
      | (with_reducible exact laws_heldBytesResult.mono _ _ _ _)
      | (with_reducible exact laws_markByteS.mono _ _ _)
      | (with_reducible exact laws_markBytesResult.mono _ _ _ _)
      | (with_reducible exact laws_toByteS.mono _ _)
      | (with_reducible exact spec_EncryptBlock.mono _ _ _)
      | (with_reducible exact LeO.refl _)
      | (with_reducible exact LeO.none _)
      | (with_reducible refine LeO.ite ?_ ?_)
      | (with_reducible refine LeO.bind ?_ (fun _ => ?_))
      | exact ih0 _ _ _ _ _ _ _
      | exact laws_eqByteS.mono _ _ _
      | exact laws_eqBytesResult.mono _ _ _ _ _
      | exact laws_heldBytesResult.mono _ _ _ _
      | exact laws_markByteS.mono _ _ _
      | exact laws_markBytesResult.mono _ _ _ _
      | exact laws_toByteS.mono _ _
      | exact spec_EncryptBlock.mono _ _ _
      | exact LeO.none _
      | refine LeO.ite ?_ ?_
      | refine LeO.bind ?_ (fun _ => ?_)

end Go.Proofs.Ytaibogaheidkcaa.All
