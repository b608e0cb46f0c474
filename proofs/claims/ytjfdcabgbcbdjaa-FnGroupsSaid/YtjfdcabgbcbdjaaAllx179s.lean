-- Laid by wip/shake.py of this repo out of this claim's texts. Not trusted: Lean checks it.
import Derived.Test.YtjfdcabgbcbdjaaAlgs
import Derived.Test.YtjfdcabgbcbdjaaAllx20s
import Derived.Test.YtjfdcabgbcbdjaaAllx174s
import Derived.Test.YtjfdcabgbcbdjaaAllx177s
import Derived.Test.YtjfdcabgbcbdjaaAllx522s
import Derived.Test.YtjfdcabgbcbdjaaAllx178s
import Derived.Test.YtjfdcabgbcbdjaaAllx524s
import Derived.Test.YtjfdcabgbcbdjaaAllx97s
import Derived.Test.YtjfdcabgbcbdjaaAllx105s
namespace Go.Proofs.Ytjfdcabgbcbdjaa.All
open Go.RowKit Go.Proofs.YtjfdcabgbcbdjaaW.PrintWords Go.Proofs.YtjfdcabgbcbdjaaW.PrintLast Go.Proofs.YtjfdcabgbcbdjaaW.PrintMore
attribute [local go_sem] max2_int min2_int max_two min_two max_three min_three max_four min_four
set_option linter.unusedVariables false
set_option linter.unusedSimpArgs false
theorem fldGroups26_0 (w : World) (a b : Value) : (Instr.field 26 (.agg #[a, b]) 0).run Try.prog w = .ok a w := by
 have h := Try.underlying26
 have h2 := Try.underlying2
 unfold Instr.field asAgg
 go_simp
 all_goals rfl
theorem fldGroups26_1 (w : World) (a b : Value) : (Instr.field 26 (.agg #[a, b]) 1).run Try.prog w = .ok b w := by
 have h := Try.underlying26
 have h2 := Try.underlying22
 unfold Instr.field asAgg
 go_simp
 all_goals rfl
attribute [local go_sem] fldGroups26_0 fldGroups26_1
mutual
def laws_FnGroups.j0 : Nat → List Int → List Int → List Int → List Int → List Int → Bool → Int → List Int → Int → List Int → Option (Bool)
 | 0, _, _, _, _, _, _, _, _, _, _ => none
 | k + 1, x0, x3, x4, x6, x7, x57, x680000, x680001, x691000, x691001 => if x57 = true then (some false) else (if x691000 = 0 then ((some (([] : List Int) : List Int)).bind fun y704 => (if y704.length + x7.length < 140737488355328 then ((some (y704 ++ x7 : List Int)).bind fun y707 => (laws_FnGroups.l0 k x0 x3 x4 x6 x7 y707 (y707.length : Int) 0 x680000 x680001 x691000 x691001)) else (none))) else (laws_FnGroups.j2 k x0 x3 x4 x680000 x680001))
def laws_FnGroups.j2 : Nat → List Int → List Int → List Int → Int → List Int → Option (Bool)
 | 0, _, _, _, _, _ => none
 | k + 1, x0, x3, x4, x680000, x680001 => if x680000 = 0 then (if 16 ≤ 281474976710656 then ((some (List.replicate 16 0 : List Int)).bind fun y728 => (if 0 < (y728.length : Int) then ((some (([] : List Int) : List Int)).bind fun y732 => (if y732.length + x4.length < 140737488355328 then ((some (y732 ++ x4 : List Int)).bind fun y735 => ((laws_lwAt.f x0 2 16).bind fun t738 => (if 0 ≤ t738 then (if t738 < (y735.length : Int) then ((some (y735.set (t738 : Int).toNat (Go.bits .xor .u8 (rd y735 t738) 90) : List Int)).bind fun y740 => ((spec_GroupTimes.f k x3 x4).bind fun bt741 => ((laws_lwSame.f x680001 bt741.2).bind fun t745 => (if t745 = true then ((impl_GroupTimes.f k x4 x3).bind fun bt746 => ((laws_lwSame.f bt746.2 x680001).bind fun t750 => (if t750 = true then ((impl_GroupTimes.f k x3 (y728.set (0 : Int).toNat 128)).bind fun bt751 => ((laws_lwSame.f bt751.2 x3).bind fun t755 => (if t755 = true then ((laws_lwXor.f k x4 y740).bind fun t756 => ((impl_GroupTimes.f k x3 t756).bind fun bt759 => ((impl_GroupTimes.f k x3 y740).bind fun bt763 => ((laws_lwXor.f k x680001 bt763.2).bind fun t767 => ((laws_lwSame.f bt759.2 t767).bind fun t770 => (some t770)))))) else (some false)))) else (some false)))) else (some false))))) else (none)) else (none)))) else (none))) else (none))) else (none)) else (some true)
def laws_FnGroups.l0 : Nat → List Int → List Int → List Int → List Int → List Int → List Int → Int → Int → Int → List Int → Int → List Int → Option (Bool)
 | 0, _, _, _, _, _, _, _, _, _, _, _, _ => none
 | k + 1, x0, x3, x4, x6, x7, x9, x65, x66, x680000, x680001, x691000, x691001 => if x66 < x65 then (if 0 ≤ x66 then (if x66 < (x9.length : Int) then (laws_FnGroups.l0 k x0 x3 x4 x6 x7 (x9.set (x66 : Int).toNat (((((rd x9 x66) * 3) % 256) + ((x66) % 256)) % 256)) x65 (wrap64 (x66 + 1)) x680000 x680001 x691000 x691001) else (none)) else (none)) else ((laws_lwXor.f k x7 x9).bind fun t712 => ((impl_HashAll.f x6 t712).bind fun bt715 => (if (x691001.length : Int) = 16 then ((impl_HashAll.f x6 x9).bind fun bt720 => ((laws_lwXor.f k x691001 bt720.2).bind fun t724 => ((laws_lwSame.f bt715.2 t724).bind fun t727 => (if t727 = true then (laws_FnGroups.j2 k x0 x3 x4 x680000 x680001) else (some false))))) else (some false))))
end
def laws_FnGroups.f (k : Nat) (l0 : List Int) : Option (Bool) := (laws_lwBig.f l0).bind fun t668 => (if t668 = true then (some true) else ((spec_DrawGroupTimes.f k l0).bind fun bt669 => ((impl_GroupTimes.f k bt669.1 bt669.2).bind fun bt675 => ((spec_DrawHashAll.f k l0).bind fun bt680 => ((impl_HashAll.f bt680.1 bt680.2).bind fun bt686 => ((spec_GroupTimes.f k bt669.1 bt669.2).bind fun bt691 => (if bt675.1 = bt691.1 then ((spec_HashAll.f k bt680.1 bt680.2).bind fun bt695 => (if bt686.1 = bt695.1 then ((spec_HashAll.f k bt680.1 bt680.2).bind fun bt699 => ((laws_lwSame.f bt686.2 bt699.2).bind fun t703 => (laws_FnGroups.j0 k l0 bt669.1 bt669.2 bt680.1 bt680.2 (!t703) bt675.1 bt675.2 bt686.1 bt686.2))) else (laws_FnGroups.j0 k l0 bt669.1 bt669.2 bt680.1 bt680.2 true bt675.1 bt675.2 bt686.1 bt686.2))) else (laws_FnGroups.j0 k l0 bt669.1 bt669.2 bt680.1 bt680.2 true bt675.1 bt675.2 bt686.1 bt686.2))))))))
theorem laws_FnGroups.mono_l : ∀ k, (∀ y0 y1 y2 y3 y4 y5 y6 y7 y8 y9, LeO (laws_FnGroups.j0 k y0 y1 y2 y3 y4 y5 y6 y7 y8 y9) (laws_FnGroups.j0 (k + 1) y0 y1 y2 y3 y4 y5 y6 y7 y8 y9)) ∧ (∀ y0 y1 y2 y3 y4, LeO (laws_FnGroups.j2 k y0 y1 y2 y3 y4) (laws_FnGroups.j2 (k + 1) y0 y1 y2 y3 y4)) ∧ (∀ y0 y1 y2 y3 y4 y5 y6 y7 y8 y9 y10 y11, LeO (laws_FnGroups.l0 k y0 y1 y2 y3 y4 y5 y6 y7 y8 y9 y10 y11) (laws_FnGroups.l0 (k + 1) y0 y1 y2 y3 y4 y5 y6 y7 y8 y9 y10 y11))
 | 0 => ⟨fun _ _ _ _ _ _ _ _ _ _ r h => by simp [laws_FnGroups.j0] at h, fun _ _ _ _ _ r h => by simp [laws_FnGroups.j2] at h, fun _ _ _ _ _ _ _ _ _ _ _ _ r h => by simp [laws_FnGroups.l0] at h⟩
 | k + 1 => by
  obtain ⟨ih0, ih1, ih2⟩ := laws_FnGroups.mono_l k
  refine ⟨?_, ?_, ?_⟩
  ·intro y0 y1 y2 y3 y4 y5 y6 y7 y8 y9
   unfold laws_FnGroups.j0
   repeat' first
   | (with_reducible exact ih0 _ _ _ _ _ _ _ _ _ _)
   | (with_reducible exact ih1 _ _ _ _ _)
   | (with_reducible exact ih2 _ _ _ _ _ _ _ _ _ _ _ _)
   | (with_reducible exact impl_GroupTimes.mono _ _ _)
   | (with_reducible exact laws_lwXor.mono _ _ _)
   | (with_reducible exact spec_DrawGroupTimes.mono _ _)
   | (with_reducible exact spec_DrawHashAll.mono _ _)
   | (with_reducible exact spec_GroupTimes.mono _ _ _)
   | (with_reducible exact spec_HashAll.mono _ _ _)
   | (with_reducible exact LeO.refl _)
   | (with_reducible exact LeO.none _)
   | (with_reducible refine LeO.ite ?_ ?_)
   | (with_reducible refine LeO.bind ?_ (fun _ => ?_))
   | exact ih0 _ _ _ _ _ _ _ _ _ _
   | exact ih1 _ _ _ _ _
   | exact ih2 _ _ _ _ _ _ _ _ _ _ _ _
   | exact impl_GroupTimes.mono _ _ _
   | exact laws_lwXor.mono _ _ _
   | exact spec_DrawGroupTimes.mono _ _
   | exact spec_DrawHashAll.mono _ _
   | exact spec_GroupTimes.mono _ _ _
   | exact spec_HashAll.mono _ _ _
   | exact LeO.none _
   | refine LeO.ite ?_ ?_
   | refine LeO.bind ?_ (fun _ => ?_)
  ·intro y0 y1 y2 y3 y4
   unfold laws_FnGroups.j2
   repeat' first
   | (with_reducible exact ih0 _ _ _ _ _ _ _ _ _ _)
   | (with_reducible exact ih1 _ _ _ _ _)
   | (with_reducible exact ih2 _ _ _ _ _ _ _ _ _ _ _ _)
   | (with_reducible exact impl_GroupTimes.mono _ _ _)
   | (with_reducible exact laws_lwXor.mono _ _ _)
   | (with_reducible exact spec_DrawGroupTimes.mono _ _)
   | (with_reducible exact spec_DrawHashAll.mono _ _)
   | (with_reducible exact spec_GroupTimes.mono _ _ _)
   | (with_reducible exact spec_HashAll.mono _ _ _)
   | (with_reducible exact LeO.refl _)
   | (with_reducible exact LeO.none _)
   | (with_reducible refine LeO.ite ?_ ?_)
   | (with_reducible refine LeO.bind ?_ (fun _ => ?_))
   | exact ih0 _ _ _ _ _ _ _ _ _ _
   | exact ih1 _ _ _ _ _
   | exact ih2 _ _ _ _ _ _ _ _ _ _ _ _
   | exact impl_GroupTimes.mono _ _ _
   | exact laws_lwXor.mono _ _ _
   | exact spec_DrawGroupTimes.mono _ _
   | exact spec_DrawHashAll.mono _ _
   | exact spec_GroupTimes.mono _ _ _
   | exact spec_HashAll.mono _ _ _
   | exact LeO.none _
   | refine LeO.ite ?_ ?_
   | refine LeO.bind ?_ (fun _ => ?_)
  ·intro y0 y1 y2 y3 y4 y5 y6 y7 y8 y9 y10 y11
   unfold laws_FnGroups.l0
   repeat' first
   | (with_reducible exact ih0 _ _ _ _ _ _ _ _ _ _)
   | (with_reducible exact ih1 _ _ _ _ _)
   | (with_reducible exact ih2 _ _ _ _ _ _ _ _ _ _ _ _)
   | (with_reducible exact impl_GroupTimes.mono _ _ _)
   | (with_reducible exact laws_lwXor.mono _ _ _)
   | (with_reducible exact spec_DrawGroupTimes.mono _ _)
   | (with_reducible exact spec_DrawHashAll.mono _ _)
   | (with_reducible exact spec_GroupTimes.mono _ _ _)
   | (with_reducible exact spec_HashAll.mono _ _ _)
   | (with_reducible exact LeO.refl _)
   | (with_reducible exact LeO.none _)
   | (with_reducible refine LeO.ite ?_ ?_)
   | (with_reducible refine LeO.bind ?_ (fun _ => ?_))
   | exact ih0 _ _ _ _ _ _ _ _ _ _
   | exact ih1 _ _ _ _ _
   | exact ih2 _ _ _ _ _ _ _ _ _ _ _ _
   | exact impl_GroupTimes.mono _ _ _
   | exact laws_lwXor.mono _ _ _
   | exact spec_DrawGroupTimes.mono _ _
   | exact spec_DrawHashAll.mono _ _
   | exact spec_GroupTimes.mono _ _ _
   | exact spec_HashAll.mono _ _ _
   | exact LeO.none _
   | refine LeO.ite ?_ ?_
   | refine LeO.bind ?_ (fun _ => ?_)
theorem laws_FnGroups.mono : ∀ a0 k, LeO (laws_FnGroups.f k a0) (laws_FnGroups.f (k + 1) a0) := by
 intro a0 k
 obtain ⟨ih0, ih1, ih2⟩ := laws_FnGroups.mono_l k
 unfold laws_FnGroups.f
 repeat' first
   | (with_reducible exact ih0 _ _ _ _ _ _ _ _ _ _)
   | (with_reducible exact ih1 _ _ _ _ _)
   | (with_reducible exact ih2 _ _ _ _ _ _ _ _ _ _ _ _)
   | (with_reducible exact impl_GroupTimes.mono _ _ _)
   | (with_reducible exact laws_lwXor.mono _ _ _)
   | (with_reducible exact spec_DrawGroupTimes.mono _ _)
   | (with_reducible exact spec_DrawHashAll.mono _ _)
   | (with_reducible exact spec_GroupTimes.mono _ _ _)
   | (with_reducible exact spec_HashAll.mono _ _ _)
   | (with_reducible exact LeO.refl _)
   | (with_reducible exact LeO.none _)
   | (with_reducible refine LeO.ite ?_ ?_)
   | (with_reducible refine LeO.bind ?_ (fun _ => ?_))
   | exact ih0 _ _ _ _ _ _ _ _ _ _
   | exact ih1 _ _ _ _ _
   | exact ih2 _ _ _ _ _ _ _ _ _ _ _ _
   | exact impl_GroupTimes.mono _ _ _
   | exact laws_lwXor.mono _ _ _
   | exact spec_DrawGroupTimes.mono _ _
   | exact spec_DrawHashAll.mono _ _
   | exact spec_GroupTimes.mono _ _ _
   | exact spec_HashAll.mono _ _ _
   | exact LeO.none _
   | refine LeO.ite ?_ ?_
   | refine LeO.bind ?_ (fun _ => ?_)
def laws_FnGroups.T7 : Bool × List (List Nat × List Nat) := (true, [([], []), ([0], [0]), ([], []), ([], []), ([2, 3], [2, 3]), ([4], [4]), ([1, 5], [1, 5]), ([6, 4], [6]), ([7], [7]), ([8, 7], [7, 8]), ([7], [7]), ([7], [7]), ([10, 11, 7, 7], [7, 10, 11]), ([12, 7], [7, 12]), ([9, 13, 7], [7, 9, 13]), ([7, 14], [7, 14]), ([15, 12], [15]), ([16], [16]), ([17, 16], [16, 17]), ([16], [16]), ([16], [16]), ([19, 20, 16, 16], [16, 19, 20]), ([21, 16], [16, 21]), ([18, 22, 21, 16], [16, 18, 22]), ([23, 16], [16, 23]), ([16, 24], [16, 24])])
def laws_FnGroups.B7 : List Nat := [0, 1, 0, 0, 12, 28, 63, 127, 255, 511, 255, 255, 3327, 7423, 16383, 32767, 65535, 131071, 262143, 131071, 131071, 1703935, 3801087, 8388607, 16777215, 33554431]
theorem laws_FnGroups.tab7 : rtab .any (opsOf Try.f7 7) = laws_FnGroups.T7 := by kernel_rfl
theorem laws_FnGroups.bits7 : waitsOk laws_FnGroups.T7.2 laws_FnGroups.B7 = true := by kernel_rfl
def laws_FnGroups.T17 : Bool × List (List Nat × List Nat) := (true, [([], []), ([0], [0]), ([1], [1]), ([2], [2]), ([3], [3]), ([4], [4]), ([5, 4], [4, 5]), ([4], [4]), ([7, 4], [4, 7]), ([4], [4]), ([4], [4]), ([9, 10, 4, 4], [4, 9, 10]), ([11, 4], [4, 11]), ([8, 12, 11, 4], [4, 8, 12]), ([6, 13, 13, 4], [4, 6, 13]), ([14, 4], [4, 14]), ([4, 15], [4, 15])])
def laws_FnGroups.B17 : List Nat := [0, 1, 3, 7, 15, 31, 63, 31, 159, 31, 31, 1567, 3615, 8095, 16383, 32767, 65535]
theorem laws_FnGroups.tab17 : rtab .any (opsOf Try.f7 17) = laws_FnGroups.T17 := by kernel_rfl
theorem laws_FnGroups.bits17 : waitsOk laws_FnGroups.T17.2 laws_FnGroups.B17 = true := by kernel_rfl
def laws_FnGroups.T25 : Bool × List (List Nat × List Nat) := (true, [([], []), ([0], [0]), ([], []), ([], []), ([2, 3], [2, 3]), ([4], [4]), ([1, 5, 4], [1, 5]), ([6, 6], [6]), ([7], [7]), ([7], [7]), ([8, 9, 7, 7], [7, 8, 9]), ([10, 7], [7, 10]), ([7], [7]), ([12, 7], [7, 12]), ([11, 13, 10, 7], [7, 11, 13]), ([7, 14], [7, 14]), ([15, 14], [15]), ([16], [16]), ([16], [16]), ([17, 18, 16, 16], [16, 17, 18]), ([19, 16], [16, 19]), ([16], [16]), ([20, 21, 19, 16], [16, 20, 21]), ([16, 22], [16, 22]), ([23, 22], [23]), ([24], [24]), ([24], [24]), ([24], [24]), ([26, 27, 24, 24], [24, 26, 27]), ([25, 28, 28, 24], [24, 25, 28]), ([29, 24], [24, 29]), ([24], [24]), ([31, 24], [24, 31]), ([24], [24]), ([24], [24]), ([33, 34, 29, 24], [24, 33, 34]), ([35, 24], [24, 35]), ([32, 36, 35, 24], [24, 32, 36]), ([30, 37, 37, 24], [24, 30, 37]), ([24, 38], [24, 38]), ([39, 38, 0, 1, 2, 3, 4, 5, 6, 7, 8, 9, 10, 11, 12, 13, 14, 15, 16, 17, 18, 19, 20, 21, 22, 23, 24, 25, 26, 27, 28, 29, 30, 31, 32, 33, 34, 35, 36, 37, 38, 39], [39])])
def laws_FnGroups.B25 : List Nat := [0, 1, 0, 0, 12, 28, 63, 127, 255, 255, 1023, 2047, 255, 4351, 16383, 32767, 65535, 131071, 131071, 524287, 1048575, 131071, 4194303, 8388607, 16777215, 33554431, 33554431, 33554431, 234881023, 536870911, 1073741823, 33554431, 2181038079, 33554431, 33554431, 26843545599, 61203283967, 136365211647, 274877906943, 549755813887, 1099511627775]
theorem laws_FnGroups.tab25 : rtab .any (opsOf Try.f7 25) = laws_FnGroups.T25 := by kernel_rfl
theorem laws_FnGroups.bits25 : waitsOk laws_FnGroups.T25.2 laws_FnGroups.B25 = true := by kernel_rfl
end Go.Proofs.Ytjfdcabgbcbdjaa.All
