-- Laid by wip/myprint.py of this repo over the kit's print (the functions' texts by the kit's program, some by hand). Not trusted: Lean checks it.
import Derived.Test.YtofickldnpndbaaAllx0
import Derived.Test.YtofickldnpndbaaAllx20
import Derived.Test.YtofickldnpndbaaAllx21
import Derived.Test.YtofickldnpndbaaAllx75
import Derived.Test.YtofickldnpndbaaAllx140
import Derived.Test.YtofickldnpndbaaAllx5
import Derived.Test.YtofickldnpndbaaAllx31
import Derived.Test.YtofickldnpndbaaAllx121
import Derived.Test.YtofickldnpndbaaAllx142
import Derived.Test.YtofickldnpndbaaAllx73
import Derived.Test.YtofickldnpndbaaAllx43
import Derived.Test.YtofickldnpndbaaAllx81
namespace Go.Proofs.Ytofickldnpndbaa.All
open Go.RowKit Go.Proofs.YtofickldnpndbaaW.PrintWords Go.Proofs.YtofickldnpndbaaW.PrintLast Go.Proofs.YtofickldnpndbaaW.PrintMore
attribute [local go_sem] max2_int min2_int max_two min_two max_three min_three max_four min_four
set_option linter.unusedVariables false
set_option linter.unusedSimpArgs false

theorem fldNumbers27_0 (w : World) (a b : Value) : (Instr.field 27 (.agg #[a, b]) 0).run Try.prog w = .ok a w := by
  have h := Try.underlying27
  have h2 := Try.underlying2
  unfold Instr.field asAgg
  go_simp
  all_goals rfl
theorem fldNumbers27_1 (w : World) (a b : Value) : (Instr.field 27 (.agg #[a, b]) 1).run Try.prog w = .ok b w := by
  have h := Try.underlying27
  have h2 := Try.underlying22
  unfold Instr.field asAgg
  go_simp
  all_goals rfl
attribute [local go_sem] fldNumbers27_0 fldNumbers27_1
theorem fldNumbers32_0 (w : World) (a b : Value) : (Instr.field 32 (.agg #[a, b]) 0).run Try.prog w = .ok a w := by
  have h := Try.underlying32
  have h2 := Try.underlying2
  unfold Instr.field asAgg
  go_simp
  all_goals rfl
theorem fldNumbers32_1 (w : World) (a b : Value) : (Instr.field 32 (.agg #[a, b]) 1).run Try.prog w = .ok b w := by
  have h := Try.underlying32
  have h2 := Try.underlying2
  unfold Instr.field asAgg
  go_simp
  all_goals rfl
attribute [local go_sem] fldNumbers32_0 fldNumbers32_1
theorem ifsneq (a b c d : Int) (w : World) : (if a = b then if c = d then (Result.ok (Next.value (Value.bool false)) w : Result Next) else Result.ok (Next.value (Value.bool true)) w else Result.ok (Next.value (Value.bool true)) w) = Result.ok (Next.value (Value.bool (!(a == b) || !(c == d)))) w := by
  by_cases h : a = b
  · by_cases h2 : c = d
    · simp [h, h2]
    · simp [h, h2]
  · simp [h]
/-! ### laws_FnNumbers: function 3 -/
mutual
def laws_FnNumbers.j0 : Nat → Int → Int → List Int → Int → Int → List Int → List Int → Bool → Int → List Int → Int → Int → Int → List Int → Option (Bool)
  | 0, _, _, _, _, _, _, _, _, _, _, _, _, _, _ => none
  | k + 1, x3, x4, x6, x7, x8, x10, x11, x80, x293000, x293001, x301000, x301001, x312000, x312001 => if x80 = true then (some false) else (if x293000 = 0 then (if (x293001.length : Int) = x4 then ((impl_ReadWord.f k x293001 0 x4).bind fun bt330 => (laws_FnNumbers.j1 k x6 x7 x8 x10 x11 (!(bt330.1 == 0) || (!(bt330.2 == x3))) x301000 x301001 x312000 x312001)) else (laws_FnNumbers.j1 k x6 x7 x8 x10 x11 true x301000 x301001 x312000 x312001)) else (laws_FnNumbers.j1 k x6 x7 x8 x10 x11 false x301000 x301001 x312000 x312001))
def laws_FnNumbers.j1 : Nat → List Int → Int → Int → List Int → List Int → Bool → Int → Int → Int → List Int → Option (Bool)
  | 0, _, _, _, _, _, _, _, _, _, _ => none
  | k + 1, x6, x7, x8, x10, x11, x99, x301000, x301001, x312000, x312001 => if x99 = true then (some false) else (if x301000 = 0 then ((impl_PackWord.f k x301001 x8).bind fun bt332 => (if 0 ≤ x7 then (if x7 ≤ (wrap64 (x7 + x8)) then (if (wrap64 (x7 + x8)) ≤ (x6.length : Int) then ((laws_lwSame.f bt332.2 ((x6.take ((wrap64 (x7 + x8)) : Int).toNat).drop (x7 : Int).toNat)).bind fun t340 => (laws_FnNumbers.j2 k x10 x11 (!t340) x312000 x312001)) else (none)) else (none)) else (none))) else (laws_FnNumbers.j2 k x10 x11 false x312000 x312001))
def laws_FnNumbers.j2 : Nat → List Int → List Int → Bool → Int → List Int → Option (Bool)
  | 0, _, _, _, _, _ => none
  | k + 1, x10, x11, x117, x312000, x312001 => if x117 = true then (some false) else (if x312000 = 0 then ((impl_XorBytes.f k x312001 x11).bind fun bt341 => ((laws_lwSame.f bt341.2 x10).bind fun t345 => (if t345 = true then (some ((x312001.length : Int) == (x10.length : Int))) else (some false)))) else (some true))
end
def laws_FnNumbers.f (k : Nat) (l0 : List Int) : Option (Bool) := (laws_lwBig.f l0).bind fun t285 => (if t285 = true then (some true) else ((spec_DrawPackWord.f l0).bind fun bt286 => ((impl_PackWord.f k bt286.1 bt286.2).bind fun bt288 => ((spec_DrawReadWord.f k l0).bind fun bt293 => ((impl_ReadWord.f k bt293.1 bt293.2.1 bt293.2.2).bind fun bt298 => ((spec_DrawXorBytes.f k l0).bind fun bt301 => ((impl_XorBytes.f k bt301.1 bt301.2).bind fun bt307 => ((spec_DrawSameBytes.f k l0).bind fun bt312 => ((spec_PackWord.f k bt286.1 bt286.2).bind fun bt318 => (if bt288.1 = bt318.1 then ((spec_ReadWord.f k bt293.1 bt293.2.1 bt293.2.2).bind fun bt322 => (if (!(bt298.1 == bt322.1) || (!(bt298.2 == bt322.2))) = true then (laws_FnNumbers.j0 k bt286.1 bt286.2 bt293.1 bt293.2.1 bt293.2.2 bt301.1 bt301.2 true bt288.1 bt288.2 bt298.1 bt298.2 bt307.1 bt307.2) else ((spec_XorBytes.f k bt301.1 bt301.2).bind fun bt324 => (if bt307.1 = bt324.1 then ((impl_SameBytes.f bt312.1 bt312.2).bind fun t328 => ((laws_lwSame.f bt312.1 bt312.2).bind fun t329 => (laws_FnNumbers.j0 k bt286.1 bt286.2 bt293.1 bt293.2.1 bt293.2.2 bt301.1 bt301.2 (t328 != t329) bt288.1 bt288.2 bt298.1 bt298.2 bt307.1 bt307.2))) else (laws_FnNumbers.j0 k bt286.1 bt286.2 bt293.1 bt293.2.1 bt293.2.2 bt301.1 bt301.2 true bt288.1 bt288.2 bt298.1 bt298.2 bt307.1 bt307.2))))) else (laws_FnNumbers.j0 k bt286.1 bt286.2 bt293.1 bt293.2.1 bt293.2.2 bt301.1 bt301.2 true bt288.1 bt288.2 bt298.1 bt298.2 bt307.1 bt307.2)))))))))))
theorem laws_FnNumbers.mono_l : ∀ k, (∀ y0 y1 y2 y3 y4 y5 y6 y7 y8 y9 y10 y11 y12 y13, LeO (laws_FnNumbers.j0 k y0 y1 y2 y3 y4 y5 y6 y7 y8 y9 y10 y11 y12 y13) (laws_FnNumbers.j0 (k + 1) y0 y1 y2 y3 y4 y5 y6 y7 y8 y9 y10 y11 y12 y13)) ∧ (∀ y0 y1 y2 y3 y4 y5 y6 y7 y8 y9, LeO (laws_FnNumbers.j1 k y0 y1 y2 y3 y4 y5 y6 y7 y8 y9) (laws_FnNumbers.j1 (k + 1) y0 y1 y2 y3 y4 y5 y6 y7 y8 y9)) ∧ (∀ y0 y1 y2 y3 y4, LeO (laws_FnNumbers.j2 k y0 y1 y2 y3 y4) (laws_FnNumbers.j2 (k + 1) y0 y1 y2 y3 y4))
  | 0 => ⟨fun _ _ _ _ _ _ _ _ _ _ _ _ _ _ r h => by simp [laws_FnNumbers.j0] at h, fun _ _ _ _ _ _ _ _ _ _ r h => by simp [laws_FnNumbers.j1] at h, fun _ _ _ _ _ r h => by simp [laws_FnNumbers.j2] at h⟩
  | k + 1 => by
    obtain ⟨ih0, ih1, ih2⟩ := laws_FnNumbers.mono_l k
    refine ⟨?_, ?_, ?_⟩
    · intro y0 y1 y2 y3 y4 y5 y6 y7 y8 y9 y10 y11 y12 y13
      unfold laws_FnNumbers.j0
      repeat' first
      | (with_reducible exact ih0 _ _ _ _ _ _ _ _ _ _ _ _ _ _)
      | (with_reducible exact ih1 _ _ _ _ _ _ _ _ _ _)
      | (with_reducible exact ih2 _ _ _ _ _)
      | (with_reducible exact impl_PackWord.mono _ _ _)
      | (with_reducible exact impl_ReadWord.mono _ _ _ _)
      | (with_reducible exact impl_XorBytes.mono _ _ _)
      | (with_reducible exact spec_DrawReadWord.mono _ _)
      | (with_reducible exact spec_DrawSameBytes.mono _ _)
      | (with_reducible exact spec_DrawXorBytes.mono _ _)
      | (with_reducible exact spec_PackWord.mono _ _ _)
      | (with_reducible exact spec_ReadWord.mono _ _ _ _)
      | (with_reducible exact spec_XorBytes.mono _ _ _)
      | (with_reducible exact LeO.refl _)
      | (with_reducible exact LeO.none _)
      | (with_reducible refine LeO.ite ?_ ?_)
      | (with_reducible refine LeO.bind ?_ (fun _ => ?_))
      | exact ih0 _ _ _ _ _ _ _ _ _ _ _ _ _ _
      | exact ih1 _ _ _ _ _ _ _ _ _ _
      | exact ih2 _ _ _ _ _
      | exact impl_PackWord.mono _ _ _
      | exact impl_ReadWord.mono _ _ _ _
      | exact impl_XorBytes.mono _ _ _
      | exact spec_DrawReadWord.mono _ _
      | exact spec_DrawSameBytes.mono _ _
      | exact spec_DrawXorBytes.mono _ _
      | exact spec_PackWord.mono _ _ _
      | exact spec_ReadWord.mono _ _ _ _
      | exact spec_XorBytes.mono _ _ _
      | exact LeO.none _
      | refine LeO.ite ?_ ?_
      | refine LeO.bind ?_ (fun _ => ?_)
    · intro y0 y1 y2 y3 y4 y5 y6 y7 y8 y9
      unfold laws_FnNumbers.j1
      repeat' first
      | (with_reducible exact ih0 _ _ _ _ _ _ _ _ _ _ _ _ _ _)
      | (with_reducible exact ih1 _ _ _ _ _ _ _ _ _ _)
      | (with_reducible exact ih2 _ _ _ _ _)
      | (with_reducible exact impl_PackWord.mono _ _ _)
      | (with_reducible exact impl_ReadWord.mono _ _ _ _)
      | (with_reducible exact impl_XorBytes.mono _ _ _)
      | (with_reducible exact spec_DrawReadWord.mono _ _)
      | (with_reducible exact spec_DrawSameBytes.mono _ _)
      | (with_reducible exact spec_DrawXorBytes.mono _ _)
      | (with_reducible exact spec_PackWord.mono _ _ _)
      | (with_reducible exact spec_ReadWord.mono _ _ _ _)
      | (with_reducible exact spec_XorBytes.mono _ _ _)
      | (with_reducible exact LeO.refl _)
      | (with_reducible exact LeO.none _)
      | (with_reducible refine LeO.ite ?_ ?_)
      | (with_reducible refine LeO.bind ?_ (fun _ => ?_))
      | exact ih0 _ _ _ _ _ _ _ _ _ _ _ _ _ _
      | exact ih1 _ _ _ _ _ _ _ _ _ _
      | exact ih2 _ _ _ _ _
      | exact impl_PackWord.mono _ _ _
      | exact impl_ReadWord.mono _ _ _ _
      | exact impl_XorBytes.mono _ _ _
      | exact spec_DrawReadWord.mono _ _
      | exact spec_DrawSameBytes.mono _ _
      | exact spec_DrawXorBytes.mono _ _
      | exact spec_PackWord.mono _ _ _
      | exact spec_ReadWord.mono _ _ _ _
      | exact spec_XorBytes.mono _ _ _
      | exact LeO.none _
      | refine LeO.ite ?_ ?_
      | refine LeO.bind ?_ (fun _ => ?_)
    · intro y0 y1 y2 y3 y4
      unfold laws_FnNumbers.j2
      repeat' first
      | (with_reducible exact ih0 _ _ _ _ _ _ _ _ _ _ _ _ _ _)
      | (with_reducible exact ih1 _ _ _ _ _ _ _ _ _ _)
      | (with_reducible exact ih2 _ _ _ _ _)
      | (with_reducible exact impl_PackWord.mono _ _ _)
      | (with_reducible exact impl_ReadWord.mono _ _ _ _)
      | (with_reducible exact impl_XorBytes.mono _ _ _)
      | (with_reducible exact spec_DrawReadWord.mono _ _)
      | (with_reducible exact spec_DrawSameBytes.mono _ _)
      | (with_reducible exact spec_DrawXorBytes.mono _ _)
      | (with_reducible exact spec_PackWord.mono _ _ _)
      | (with_reducible exact spec_ReadWord.mono _ _ _ _)
      | (with_reducible exact spec_XorBytes.mono _ _ _)
      | (with_reducible exact LeO.refl _)
      | (with_reducible exact LeO.none _)
      | (with_reducible refine LeO.ite ?_ ?_)
      | (with_reducible refine LeO.bind ?_ (fun _ => ?_))
      | exact ih0 _ _ _ _ _ _ _ _ _ _ _ _ _ _
      | exact ih1 _ _ _ _ _ _ _ _ _ _
      | exact ih2 _ _ _ _ _
      | exact impl_PackWord.mono _ _ _
      | exact impl_ReadWord.mono _ _ _ _
      | exact impl_XorBytes.mono _ _ _
      | exact spec_DrawReadWord.mono _ _
      | exact spec_DrawSameBytes.mono _ _
      | exact spec_DrawXorBytes.mono _ _
      | exact spec_PackWord.mono _ _ _
      | exact spec_ReadWord.mono _ _ _ _
      | exact spec_XorBytes.mono _ _ _
      | exact LeO.none _
      | refine LeO.ite ?_ ?_
      | refine LeO.bind ?_ (fun _ => ?_)
theorem laws_FnNumbers.mono : ∀ a0 k, LeO (laws_FnNumbers.f k a0) (laws_FnNumbers.f (k + 1) a0) := by
  intro a0 k
  obtain ⟨ih0, ih1, ih2⟩ := laws_FnNumbers.mono_l k
  unfold laws_FnNumbers.f
  repeat' first
      | (with_reducible exact ih0 _ _ _ _ _ _ _ _ _ _ _ _ _ _)
      | (with_reducible exact ih1 _ _ _ _ _ _ _ _ _ _)
      | (with_reducible exact ih2 _ _ _ _ _)
      | (with_reducible exact impl_PackWord.mono _ _ _)
      | (with_reducible exact impl_ReadWord.mono _ _ _ _)
      | (with_reducible exact impl_XorBytes.mono _ _ _)
      | (with_reducible exact spec_DrawReadWord.mono _ _)
      | (with_reducible exact spec_DrawSameBytes.mono _ _)
      | (with_reducible exact spec_DrawXorBytes.mono _ _)
      | (with_reducible exact spec_PackWord.mono _ _ _)
      | (with_reducible exact spec_ReadWord.mono _ _ _ _)
      | (with_reducible exact spec_XorBytes.mono _ _ _)
      | (with_reducible exact LeO.refl _)
      | (with_reducible exact LeO.none _)
      | (with_reducible refine LeO.ite ?_ ?_)
      | (with_reducible refine LeO.bind ?_ (fun _ => ?_))
      | exact ih0 _ _ _ _ _ _ _ _ _ _ _ _ _ _
      | exact ih1 _ _ _ _ _ _ _ _ _ _
      | exact ih2 _ _ _ _ _
      | exact impl_PackWord.mono _ _ _
      | exact impl_ReadWord.mono _ _ _ _
      | exact impl_XorBytes.mono _ _ _
      | exact spec_DrawReadWord.mono _ _
      | exact spec_DrawSameBytes.mono _ _
      | exact spec_DrawXorBytes.mono _ _
      | exact spec_PackWord.mono _ _ _
      | exact spec_ReadWord.mono _ _ _ _
      | exact spec_XorBytes.mono _ _ _
      | exact LeO.none _
      | refine LeO.ite ?_ ?_
      | refine LeO.bind ?_ (fun _ => ?_)
def laws_FnNumbers.T10 : Bool × List (List Nat × List Nat) := (true, [([], []), ([0], [0]), ([], []), ([], []), ([2, 3], [2, 3]), ([4], [4]), ([1, 5], [1, 5]), ([6, 4], [6]), ([7], [7]), ([7], [7]), ([7], [7]), ([7], [7]), ([9, 10, 11, 7, 7], [7, 9, 10, 11]), ([8, 12, 7], [7, 8, 12]), ([7, 13], [7, 13]), ([14, 12], [14]), ([15], [15]), ([16, 15], [15, 16]), ([15], [15]), ([15], [15]), ([18, 19, 15, 15], [15, 18, 19]), ([20, 15], [15, 20]), ([17, 21, 15], [15, 17, 21]), ([15, 22], [15, 22]), ([23, 20], [23]), ([24], [24]), ([24], [24]), ([25, 26, 24, 24], [24, 25, 26]), ([24], [24]), ([24], [24]), ([28, 29, 27, 24], [24, 28, 29]), ([27, 30, 24], [24, 27, 30]), ([24, 31], [24, 31])])
def laws_FnNumbers.B10 : List Nat := [0, 1, 0, 0, 12, 28, 63, 127, 255, 255, 255, 255, 3839, 8191, 16383, 32767, 65535, 131071, 65535, 65535, 851967, 1900543, 4194303, 8388607, 16777215, 33554431, 33554431, 134217727, 33554431, 33554431, 1073741823, 2147483647, 4294967295]
theorem laws_FnNumbers.tab10 : rtab .any (opsOf Try.f3 10) = laws_FnNumbers.T10 := by kernel_rfl
theorem laws_FnNumbers.bits10 : waitsOk laws_FnNumbers.T10.2 laws_FnNumbers.B10 = true := by kernel_rfl
def laws_FnNumbers.T14 : Bool × List (List Nat × List Nat) := (true, [([], []), ([0], [0]), ([1], [1]), ([2], [2]), ([3], [3]), ([4, 3], [3, 4]), ([3], [3]), ([5, 6, 3, 3], [3, 5, 6]), ([7, 3], [3, 7]), ([3], [3]), ([3], [3]), ([3], [3]), ([3], [3]), ([11, 12, 3], [3, 11, 12]), ([9, 10, 13, 3], [3, 9, 10, 13]), ([8, 14, 7, 3], [3, 8, 14]), ([15, 3], [3, 15]), ([3, 16], [3, 16])])
def laws_FnNumbers.B14 : List Nat := [0, 1, 3, 7, 15, 31, 15, 127, 255, 15, 15, 15, 15, 6159, 15887, 32767, 65535, 131071]
theorem laws_FnNumbers.tab14 : rtab .any (opsOf Try.f3 14) = laws_FnNumbers.T14 := by kernel_rfl
theorem laws_FnNumbers.bits14 : waitsOk laws_FnNumbers.T14.2 laws_FnNumbers.B14 = true := by kernel_rfl

end Go.Proofs.Ytofickldnpndbaa.All
