-- Laid by wip/myprint.py of this repo over the kit's print (the functions' texts by the kit's program, some by hand). Not trusted: Lean checks it.
import Derived.Test.YtaibogaheidkcaaAllx0
import Derived.Test.YtaibogaheidkcaaAllx75
import Derived.Test.YtaibogaheidkcaaAllx78
import Derived.Test.YtaibogaheidkcaaAllx80
import Derived.Test.YtaibogaheidkcaaAllx121
namespace Go.Proofs.Ytaibogaheidkcaa.All
open Go.RowKit Go.Proofs.YtaibogaheidkcaaW.PrintWords Go.Proofs.YtaibogaheidkcaaW.PrintLast Go.Proofs.YtaibogaheidkcaaW.PrintMore
attribute [local go_sem] max2_int min2_int max_two min_two max_three min_three max_four min_four
set_option linter.unusedVariables false
set_option linter.unusedSimpArgs false

/-! ### laws_FnExactXorBytes: function 4 -/
def laws_FnExactXorBytes.j0 : Nat → List Int → List Int → Bool → Int → List Int → Int → List Int → Option (Bool)
  | 0, _, _, _, _, _, _, _ => none
  | k + 1, x0, x1, x58, x200000, x200001, x211000, x211001 => if x58 = true then (some false) else ((laws_markBytesResult.f k x211000 x211001 1).bind fun bt225 => ((laws_heldBytesResult.f k x211000 bt225.2 1).bind fun t227 => (if t227 < 0 then (some false) else (if t227 = bt225.1 then ((laws_toByteS.f k x0).bind fun t228 => ((laws_toByteS.f k x1).bind fun t231 => ((impl_XorBytes.f k t228 t231).bind fun bt234 => ((laws_eqBytesResult.f k bt234.1 bt234.2 x200000 x200001).bind fun t239 => (if t239 = true then ((laws_heldBytesResult.f k x211000 bt225.2 1).bind fun t240 => (if t240 < 0 then (some false) else (if t240 = bt225.1 then (some true) else (some false)))) else (some false)))))) else (some false)))))
def laws_FnExactXorBytes.f (k : Nat) (l0 : List Int) (l1 : List Int) : Option (Bool) := if (l0.length : Int) > 1048576 then (some true) else (if (l1.length : Int) > 1048576 then (some true) else ((laws_toByteS.f k l0).bind fun t189 => ((laws_toByteS.f k l1).bind fun t192 => ((spec_XorBytes.f k t189 t192).bind fun bt195 => ((laws_toByteS.f k l0).bind fun t200 => ((laws_toByteS.f k l1).bind fun t203 => ((impl_XorBytes.f k t200 t203).bind fun bt206 => ((laws_eqBytesResult.f k bt206.1 bt206.2 bt195.1 bt195.2).bind fun t211 => (if t211 = true then ((laws_toByteS.f k l0).bind fun t212 => ((laws_eqByteS.f k t200 t212).bind fun t215 => (if t215 = true then ((laws_toByteS.f k l1).bind fun t216 => ((laws_eqByteS.f k t203 t216).bind fun t219 => (if t219 = true then ((laws_markByteS.f k t200 1).bind fun bt220 => ((laws_markByteS.f k t203 bt220.1).bind fun bt222 => (if bt222.1 < 0 then (laws_FnExactXorBytes.j0 k l0 l1 true bt195.1 bt195.2 bt206.1 bt206.2) else ((laws_eqBytesResult.f k bt206.1 bt206.2 bt195.1 bt195.2).bind fun t224 => (laws_FnExactXorBytes.j0 k l0 l1 (!t224) bt195.1 bt195.2 bt206.1 bt206.2))))) else (some false)))) else (some false)))) else (some false))))))))))
theorem laws_FnExactXorBytes.mono_l : ∀ k, (∀ y0 y1 y2 y3 y4 y5 y6, LeO (laws_FnExactXorBytes.j0 k y0 y1 y2 y3 y4 y5 y6) (laws_FnExactXorBytes.j0 (k + 1) y0 y1 y2 y3 y4 y5 y6))
  | 0 => fun _ _ _ _ _ _ _ r h => by simp [laws_FnExactXorBytes.j0] at h
  | k + 1 => by
    have ih0 := laws_FnExactXorBytes.mono_l k
    · intro y0 y1 y2 y3 y4 y5 y6
      unfold laws_FnExactXorBytes.j0
      repeat' first
      | (with_reducible exact ih0 _ _ _ _ _ _ _)
      | (with_reducible exact impl_XorBytes.mono _ _ _)
      | (with_reducible exact laws_eqByteS.mono _ _ _)
      | (with_reducible exact laws_eqBytesResult.mono _ _ _ _ _)
      | (with_reducible exact laws_heldBytesResult.mono _ _ _ _)
      | (with_reducible exact laws_markByteS.mono _ _ _)
      | (with_reducible exact laws_markBytesResult.mono _ _ _ _)
      | (with_reducible exact laws_toByteS.mono _ _)
      | (with_reducible exact spec_XorBytes.mono _ _ _)
      | (with_reducible exact LeO.refl _)
      | (with_reducible exact LeO.none _)
      | (with_reducible refine LeO.ite ?_ ?_)
      | (with_reducible refine LeO.bind ?_ (fun _ => ?_))
      | exact ih0 _ _ _ _ _ _ _
      | exact impl_XorBytes.mono _ _ _
      | exact laws_eqByteS.mono _ _ _
      | exact laws_eqBytesResult.mono _ _ _ _ _
      | exact laws_heldBytesResult.mono _ _ _ _
      | exact laws_markByteS.mono _ _ _
      | exact laws_markBytesResult.mono _ _ _ _
      | exact laws_toByteS.mono _ _
      | exact spec_XorBytes.mono _ _ _
      | exact LeO.none _
      | refine LeO.ite ?_ ?_
      | refine LeO.bind ?_ (fun _ => ?_)
theorem laws_FnExactXorBytes.mono : ∀ a0 a1 k, LeO (laws_FnExactXorBytes.f k a0 a1) (laws_FnExactXorBytes.f (k + 1) a0 a1) := by
  intro a0 a1 k
  have ih0 := laws_FnExactXorBytes.mono_l k
  unfold laws_FnExactXorBytes.f
  repeat' first
      | (with_reducible exact ih0 _ _ _ _ _ _ _)
      | (with_reducible exact impl_XorBytes.mono _ _ _)
      | (with_reducible exact laws_eqByteS.mono _ _ _)
      | (with_reducible exact laws_eqBytesResult.mono _ _ _ _ _)
      | (with_reducible exact laws_heldBytesResult.mono _ _ _ _)
      | (with_reducible exact laws_markByteS.mono _ _ _)
      | (with_reducible exact laws_markBytesResult.mono _ _ _ _)
      | (with_reducible exact laws_toByteS.mono _ _)
      | (with_reducible exact spec_XorBytes.mono _ _ _)
      | (with_reducible exact LeO.refl _)
      | (with_reducible exact LeO.none _)
      | (with_reducible refine LeO.ite ?_ ?_)
      | (with_reducible refine LeO.bind ?_ (fun _ => ?_))
      | exact ih0 _ _ _ _ _ _ _
      | exact impl_XorBytes.mono _ _ _
      | exact laws_eqByteS.mono _ _ _
      | exact laws_eqBytesResult.mono _ _ _ _ _
      | exact laws_heldBytesResult.mono _ _ _ _
      | exact laws_markByteS.mono _ _ _
      | exact laws_markBytesResult.mono _ _ _ _
      | exact laws_toByteS.mono _ _
      | exact spec_XorBytes.mono _ _ _
      | exact LeO.none _
      | refine LeO.ite ?_ ?_
      | refine LeO.bind ?_ (fun _ => ?_)

end Go.Proofs.Ytaibogaheidkcaa.All
