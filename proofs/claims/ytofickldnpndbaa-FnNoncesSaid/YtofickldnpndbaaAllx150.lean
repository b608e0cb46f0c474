-- Laid by wip/myprint.py of this repo over the kit's print (the functions' texts by the kit's program, some by hand). Not trusted: Lean checks it.
import Derived.Test.YtofickldnpndbaaAllx0
import Derived.Test.YtofickldnpndbaaAllx20
import Derived.Test.YtofickldnpndbaaAllx6
import Derived.Test.YtofickldnpndbaaAllx111
import Derived.Test.YtofickldnpndbaaAllx519
import Derived.Test.YtofickldnpndbaaAllx113
namespace Go.Proofs.Ytofickldnpndbaa.All
open Go.RowKit Go.Proofs.YtofickldnpndbaaW.PrintWords Go.Proofs.YtofickldnpndbaaW.PrintLast Go.Proofs.YtofickldnpndbaaW.PrintMore
attribute [local go_sem] max2_int min2_int max_two min_two max_three min_three max_four min_four
set_option linter.unusedVariables false
set_option linter.unusedSimpArgs false

theorem fldNonces27_0 (w : World) (a b : Value) : (Instr.field 27 (.agg #[a, b]) 0).run Try.prog w = .ok a w := by
  have h := Try.underlying27
  have h2 := Try.underlying2
  unfold Instr.field asAgg
  go_simp
  all_goals rfl
theorem fldNonces27_1 (w : World) (a b : Value) : (Instr.field 27 (.agg #[a, b]) 1).run Try.prog w = .ok b w := by
  have h := Try.underlying27
  have h2 := Try.underlying22
  unfold Instr.field asAgg
  go_simp
  all_goals rfl
attribute [local go_sem] fldNonces27_0 fldNonces27_1
theorem fldNoncesL (w : World) (a b c d e : Value) : (Instr.field 47 (.agg #[a, b, c, d, e]) 0).run Try.prog w = .ok a w := by
  have h := Try.underlying47
  have h2 := Try.underlying2
  unfold Instr.field asAgg
  go_simp
  all_goals rfl
attribute [local go_sem] fldNoncesL
/-! ### laws_FnNonces: function 5 -/
mutual
def laws_FnNonces.j0 : Nat → Int → Int → Bool → Int → List Int → Int → List Int → Option (Bool)
  | 0, _, _, _, _, _, _, _ => none
  | k + 1, x3, x4, x59, x540000, x540001, x548000, x548001 => if x59 = true then (some false) else (if x548000 = 0 then (if (x548001.length : Int) = 11 then ((impl_ReadHead.f k x548001).bind fun bt561 => (laws_FnNonces.j1 k x3 x4 (bt561.1 != 0) x540000 x540001)) else (laws_FnNonces.j1 k x3 x4 true x540000 x540001)) else (laws_FnNonces.j1 k x3 x4 false x540000 x540001))
def laws_FnNonces.j1 : Nat → Int → Int → Bool → Int → List Int → Option (Bool)
  | 0, _, _, _, _, _ => none
  | k + 1, x3, x4, x75, x540000, x540001 => if x75 = true then (some false) else (if x540000 = 0 then ((impl_NonceOf.f k (Int.tmod (wrap64 (x3 + 1)) 16) x4).bind fun bt568 => ((impl_NonceOf.f k x3 (wrap64 ((wrap64 (Int.tdiv x4 2)) + 1))).bind fun bt573 => (if (x540001.length : Int) = 12 then ((laws_lwSame.f bt568.2 x540001).bind fun t578 => (if t578 = true then (some false) else (if (wrap64 ((wrap64 (Int.tdiv x4 2)) + 1)) = x4 then ((spec_NonceOf.f k x3 x4).bind fun bt579 => ((laws_lwSame.f x540001 bt579.2).bind fun t583 => (some t583))) else ((laws_lwSame.f bt573.2 x540001).bind fun t584 => (if t584 = true then (some false) else ((spec_NonceOf.f k x3 x4).bind fun bt585 => ((laws_lwSame.f x540001 bt585.2).bind fun t589 => (some t589)))))))) else (some false)))) else (some true))
end
def laws_FnNonces.f (k : Nat) (l0 : List Int) : Option (Bool) := (laws_lwBig.f l0).bind fun t532 => (if t532 = true then (some true) else ((spec_DrawNonceOf.f l0).bind fun bt533 => ((impl_NonceOf.f k bt533.1 bt533.2).bind fun bt535 => ((spec_DrawHeadOf.f l0).bind fun bt540 => ((impl_HeadOf.f k bt540.1 bt540.2.1 bt540.2.2).bind fun bt543 => ((spec_NonceOf.f k bt533.1 bt533.2).bind fun bt548 => (if bt535.1 = bt548.1 then ((spec_HeadOf.f k bt540.1 bt540.2.1 bt540.2.2).bind fun bt552 => (if bt543.1 = bt552.1 then ((spec_HeadOf.f k bt540.1 bt540.2.1 bt540.2.2).bind fun bt556 => ((laws_lwSame.f bt543.2 bt556.2).bind fun t560 => (laws_FnNonces.j0 k bt533.1 bt533.2 (!t560) bt535.1 bt535.2 bt543.1 bt543.2))) else (laws_FnNonces.j0 k bt533.1 bt533.2 true bt535.1 bt535.2 bt543.1 bt543.2))) else (laws_FnNonces.j0 k bt533.1 bt533.2 true bt535.1 bt535.2 bt543.1 bt543.2))))))))
theorem laws_FnNonces.mono_l : ∀ k, (∀ y0 y1 y2 y3 y4 y5 y6, LeO (laws_FnNonces.j0 k y0 y1 y2 y3 y4 y5 y6) (laws_FnNonces.j0 (k + 1) y0 y1 y2 y3 y4 y5 y6)) ∧ (∀ y0 y1 y2 y3 y4, LeO (laws_FnNonces.j1 k y0 y1 y2 y3 y4) (laws_FnNonces.j1 (k + 1) y0 y1 y2 y3 y4))
  | 0 => ⟨fun _ _ _ _ _ _ _ r h => by simp [laws_FnNonces.j0] at h, fun _ _ _ _ _ r h => by simp [laws_FnNonces.j1] at h⟩
  | k + 1 => by
    obtain ⟨ih0, ih1⟩ := laws_FnNonces.mono_l k
    refine ⟨?_, ?_⟩
    · intro y0 y1 y2 y3 y4 y5 y6
      unfold laws_FnNonces.j0
      repeat' first
      | (with_reducible exact ih0 _ _ _ _ _ _ _)
      | (with_reducible exact ih1 _ _ _ _ _)
      | (with_reducible exact impl_HeadOf.mono _ _ _ _)
      | (with_reducible exact impl_NonceOf.mono _ _ _)
      | (with_reducible exact impl_ReadHead.mono _ _)
      | (with_reducible exact spec_HeadOf.mono _ _ _ _)
      | (with_reducible exact spec_NonceOf.mono _ _ _)
      | (with_reducible exact LeO.refl _)
      | (with_reducible exact LeO.none _)
      | (with_reducible refine LeO.ite ?_ ?_)
      | (with_reducible refine LeO.bind ?_ (fun _ => ?_))
      | exact ih0 _ _ _ _ _ _ _
      | exact ih1 _ _ _ _ _
      | exact impl_HeadOf.mono _ _ _ _
      | exact impl_NonceOf.mono _ _ _
      | exact impl_ReadHead.mono _ _
      | exact spec_HeadOf.mono _ _ _ _
      | exact spec_NonceOf.mono _ _ _
      | exact LeO.none _
      | refine LeO.ite ?_ ?_
      | refine LeO.bind ?_ (fun _ => ?_)
    · intro y0 y1 y2 y3 y4
      unfold laws_FnNonces.j1
      repeat' first
      | (with_reducible exact ih0 _ _ _ _ _ _ _)
      | (with_reducible exact ih1 _ _ _ _ _)
      | (with_reducible exact impl_HeadOf.mono _ _ _ _)
      | (with_reducible exact impl_NonceOf.mono _ _ _)
      | (with_reducible exact impl_ReadHead.mono _ _)
      | (with_reducible exact spec_HeadOf.mono _ _ _ _)
      | (with_reducible exact spec_NonceOf.mono _ _ _)
      | (with_reducible exact LeO.refl _)
      | (with_reducible exact LeO.none _)
      | (with_reducible refine LeO.ite ?_ ?_)
      | (with_reducible refine LeO.bind ?_ (fun _ => ?_))
      | exact ih0 _ _ _ _ _ _ _
      | exact ih1 _ _ _ _ _
      | exact impl_HeadOf.mono _ _ _ _
      | exact impl_NonceOf.mono _ _ _
      | exact impl_ReadHead.mono _ _
      | exact spec_HeadOf.mono _ _ _ _
      | exact spec_NonceOf.mono _ _ _
      | exact LeO.none _
      | refine LeO.ite ?_ ?_
      | refine LeO.bind ?_ (fun _ => ?_)
theorem laws_FnNonces.mono : ∀ a0 k, LeO (laws_FnNonces.f k a0) (laws_FnNonces.f (k + 1) a0) := by
  intro a0 k
  obtain ⟨ih0, ih1⟩ := laws_FnNonces.mono_l k
  unfold laws_FnNonces.f
  repeat' first
      | (with_reducible exact ih0 _ _ _ _ _ _ _)
      | (with_reducible exact ih1 _ _ _ _ _)
      | (with_reducible exact impl_HeadOf.mono _ _ _ _)
      | (with_reducible exact impl_NonceOf.mono _ _ _)
      | (with_reducible exact impl_ReadHead.mono _ _)
      | (with_reducible exact spec_HeadOf.mono _ _ _ _)
      | (with_reducible exact spec_NonceOf.mono _ _ _)
      | (with_reducible exact LeO.refl _)
      | (with_reducible exact LeO.none _)
      | (with_reducible refine LeO.ite ?_ ?_)
      | (with_reducible refine LeO.bind ?_ (fun _ => ?_))
      | exact ih0 _ _ _ _ _ _ _
      | exact ih1 _ _ _ _ _
      | exact impl_HeadOf.mono _ _ _ _
      | exact impl_NonceOf.mono _ _ _
      | exact impl_ReadHead.mono _ _
      | exact spec_HeadOf.mono _ _ _ _
      | exact spec_NonceOf.mono _ _ _
      | exact LeO.none _
      | refine LeO.ite ?_ ?_
      | refine LeO.bind ?_ (fun _ => ?_)
def laws_FnNonces.T7 : Bool × List (List Nat × List Nat) := (true, [([], []), ([0], [0]), ([], []), ([], []), ([2, 3], [2, 3]), ([4], [4]), ([1, 5], [1, 5]), ([6, 4], [6]), ([7], [7]), ([8, 7], [7, 8]), ([7], [7]), ([7], [7]), ([7], [7]), ([10, 11, 12, 7, 7], [7, 10, 11, 12]), ([13, 7], [7, 13]), ([9, 14, 7], [7, 9, 14]), ([7, 15], [7, 15]), ([16, 13], [16]), ([17], [17]), ([18, 17], [17, 18]), ([17], [17]), ([17], [17]), ([17], [17]), ([20, 21, 22, 17, 17], [17, 20, 21, 22]), ([23, 17], [17, 23]), ([19, 24, 23, 17], [17, 19, 24]), ([25, 17], [17, 25]), ([17, 26], [17, 26])])
def laws_FnNonces.B7 : List Nat := [0, 1, 0, 0, 12, 28, 63, 127, 255, 511, 255, 255, 255, 7423, 15615, 32767, 65535, 131071, 262143, 524287, 262143, 262143, 262143, 7602175, 15990783, 33554431, 67108863, 134217727]
theorem laws_FnNonces.tab7 : rtab .any (opsOf Try.f5 7) = laws_FnNonces.T7 := by kernel_rfl
theorem laws_FnNonces.bits7 : waitsOk laws_FnNonces.T7.2 laws_FnNonces.B7 = true := by kernel_rfl
def laws_FnNonces.T15 : Bool × List (List Nat × List Nat) := (true, [([], []), ([0], [0]), ([1], [1]), ([2], [2]), ([3], [3]), ([4], [4]), ([5, 4], [4, 5]), ([4], [4]), ([7, 4], [4, 7]), ([6, 8, 4, 4], [4, 6, 8]), ([9, 4], [4, 9]), ([4, 10], [4, 10]), ([11, 9], [11]), ([12], [12]), ([13, 12], [12, 13]), ([14, 12], [12, 14]), ([12], [12]), ([15, 16, 12], [12, 15, 16]), ([17, 12, 12], [12, 17]), ([18], [18]), ([19, 18], [18, 19]), ([18], [18]), ([21, 18], [18, 21]), ([20, 22, 18, 18], [18, 20, 22]), ([23, 18], [18, 23]), ([18, 24, 12], [12, 18, 24]), ([12, 25], [12, 25]), ([26, 23], [26]), ([27], [27]), ([28, 27], [27, 28]), ([27], [27]), ([27], [27]), ([30, 31, 27, 27], [27, 30, 31]), ([32, 27], [27, 32]), ([29, 33, 32, 27], [27, 29, 33]), ([27, 34], [27, 34]), ([35, 34, 0, 1, 2, 3, 4, 5, 6, 7, 8, 9, 10, 11, 12, 13, 14, 15, 16, 17, 18, 19, 20, 21, 22, 23, 24, 25, 26, 27, 28, 29, 30, 31, 32, 33, 34, 35], [35])])
def laws_FnNonces.B15 : List Nat := [0, 1, 3, 7, 15, 31, 63, 31, 159, 511, 1023, 2047, 4095, 8191, 16383, 32767, 8191, 131071, 262143, 524287, 1048575, 524287, 2621439, 8388607, 16777215, 33554431, 67108863, 134217727, 268435455, 536870911, 268435455, 268435455, 3489660927, 7784628223, 17179869183, 34359738367, 68719476735]
theorem laws_FnNonces.tab15 : rtab .any (opsOf Try.f5 15) = laws_FnNonces.T15 := by kernel_rfl
theorem laws_FnNonces.bits15 : waitsOk laws_FnNonces.T15.2 laws_FnNonces.B15 = true := by kernel_rfl

end Go.Proofs.Ytofickldnpndbaa.All
