-- Laid by wip/myprint.py of this repo over the kit's print (the functions' texts by the kit's program, some by hand). Not trusted: Lean checks it.
import Derived.Test.YtofickldnpndbaaAllx0
import Derived.Test.YtofickldnpndbaaAllx20
import Derived.Test.YtofickldnpndbaaAllx81
import Derived.Test.YtofickldnpndbaaAllx146
import Derived.Test.YtofickldnpndbaaAllx503
import Derived.Test.YtofickldnpndbaaAllx513
import Derived.Test.YtofickldnpndbaaAllx82
import Derived.Test.YtofickldnpndbaaAllx85
import Derived.Test.YtofickldnpndbaaAllx92
namespace Go.Proofs.Ytofickldnpndbaa.All
open Go.RowKit Go.Proofs.YtofickldnpndbaaW.PrintWords Go.Proofs.YtofickldnpndbaaW.PrintLast Go.Proofs.YtofickldnpndbaaW.PrintMore
attribute [local go_sem] max2_int min2_int max_two min_two max_three min_three max_four min_four
set_option linter.unusedVariables false
set_option linter.unusedSimpArgs false

def RA (w : World) (base : Nat) (ok : Nat → Prop) (v : Value) (xs : List Int) : Prop := ∃ e, (e = 5 ∨ e = 82) ∧ Kd.R (Kd.int .u8) e w base ok v xs
section
variable {w w1 W : World} {base : Nat} {ok ok' : Nat → Prop} {v u : Value} {xs : List Int}
theorem RA_of {e : Nat} (he : e = 5 ∨ e = 82) (h : Kd.R (Kd.int .u8) e w base ok v xs) : RA w base ok v xs := ⟨e, he, h⟩
theorem RA_alloc (h : RA w base ok v xs) (o : Obj) : RA (w.alloc o) base ok v xs := by obtain ⟨e, he, h⟩ := h; exact ⟨e, he, Kd.R_alloc h o⟩
theorem RA_drew (h : RA w base ok v xs) : RA w.drew base ok v xs := by obtain ⟨e, he, h⟩ := h; exact ⟨e, he, Kd.R_drew h⟩
theorem RA_drewN (h : RA w base ok v xs) (m : Nat) : RA (w.drewN m) base ok v xs := by obtain ⟨e, he, h⟩ := h; exact ⟨e, he, Kd.R_drewN h m⟩
theorem RA_below (h : RA w base ok v xs) (hb : Below w.heap.size w w1) : RA w1 base ok v xs := by obtain ⟨e, he, h⟩ := h; exact ⟨e, he, Kd.R_below h hb⟩
theorem RA_lower {base' : Nat} (h : RA w base ok v xs) (hb : base' ≤ base) : RA w base' ok v xs := by obtain ⟨e, he, h⟩ := h; exact ⟨e, he, Kd.R_lower h hb⟩
theorem RA_base (h : RA w base ok v xs) : ∀ k, v.ownBlock = some k → base ≤ k := by obtain ⟨e, he, h⟩ := h; exact Kd.R_base h
theorem RA_lt (h : RA w base ok v xs) : ∀ k, v.ownBlock = some k → k < w.heap.size := by obtain ⟨e, he, h⟩ := h; exact Kd.R_lt h
theorem RA_slice (h : RA w base ok v xs) : ∃ A c, v = .slice A xs.length c := by obtain ⟨e, he, h⟩ := h; exact Kd.R_slice h
theorem RA_mono (h : RA w base ok v xs) (hok : ∀ k, ok k → ok' k) : RA w base ok' v xs := by obtain ⟨e, he, h⟩ := h; exact ⟨e, he, Kd.R_mono h hok⟩
theorem RA_reads' {A : Option Addr} {n c : Nat} (h : RA w base ok (.slice A n c) xs) : n = xs.length ∧ n ≤ c ∧ (Kd.int .u8).C w A xs.length xs := by obtain ⟨e, he, h⟩ := h; exact Kd.R_reads' h
theorem RA_far (h : RA w base ok v xs) {p : Addr} (hok : ∀ k, ok k → k ≠ p.block) (u : Value) : RA (w.setCell p u) base ok v xs := by obtain ⟨e, he, h⟩ := h; exact ⟨e, he, Kd.R_far h hok u⟩
theorem RA_elder' (hu : RA W base ok u xs) (hbase : ∀ k, v.ownBlock = some k → W.heap.size ≤ k) (hb : Below W.heap.size W w1) : RA w1 base (fun k => ok k ∧ some k ≠ v.ownBlock) u xs := by obtain ⟨e, he, h⟩ := hu; exact ⟨e, he, Kd.R_elder' h hbase hb⟩
theorem RA_new' (h : RA w1 W.heap.size ok v xs) (hlt : ∀ k, u.ownBlock = some k → k < W.heap.size) : RA w1 W.heap.size (fun k => ok k ∧ some k ≠ u.ownBlock) v xs := by obtain ⟨e, he, h⟩ := h; exact ⟨e, he, Kd.R_new' h hlt⟩
theorem RA_types (h : RA w base ok v xs) {g t : Nat} {cells : Array Value} (hb : w.heap[g]? = some (.cells cells t (0, 0))) (ht : ∀ q, q ∈ [5, 82] → q ≠ t) : RA w base (fun k => ok k ∧ k ≠ g) v xs := by
  obtain ⟨e, he, h⟩ := h
  refine ⟨e, he, Kd.R_types h hb fun q hq => ht q ?_⟩
  rcases List.mem_cons.1 hq with rfl | hq
  · rcases he with rfl | rfl <;> simp
  · cases hq
end
theorem fldRows27_0 (w : World) (a b : Value) : (Instr.field 27 (.agg #[a, b]) 0).run Try.prog w = .ok a w := by
  have h := Try.underlying27
  have h2 := Try.underlying2
  unfold Instr.field asAgg
  go_simp
  all_goals rfl
theorem fldRows27_1 (w : World) (a b : Value) : (Instr.field 27 (.agg #[a, b]) 1).run Try.prog w = .ok b w := by
  have h := Try.underlying27
  have h2 := Try.underlying22
  unfold Instr.field asAgg
  go_simp
  all_goals rfl
attribute [local go_sem] fldRows27_0 fldRows27_1
/-! ### laws_FnRows: function 4 -/
mutual
def laws_FnRows.j0 : Nat → List Int → Bool → Int → List Int → Int → List Int → Int → List Int → Option (Bool)
  | 0, _, _, _, _, _, _, _, _ => none
  | k + 1, x3, x40, x405000, x405001, x410000, x410001, x415000, x415001 => if x40 = true then (some false) else (if x405000 = 0 then (laws_FnRows.l0 k x3 x3 x3 0 x405000 x405001 x410000 x410001 x415000 x415001) else (some true))
def laws_FnRows.l0 : Nat → List Int → List Int → List Int → Int → Int → List Int → Int → List Int → Int → List Int → Option (Bool)
  | 0, _, _, _, _, _, _, _, _, _, _ => none
  | k + 1, x3, x7, x8, x9, x405000, x405001, x410000, x410001, x415000, x415001 => if x9 < 4 then ((impl_ShiftRows.f x7).bind fun bt419 => ((impl_MixColumns.f x8).bind fun bt423 => (laws_FnRows.l0 k x3 bt419.2 bt423.2 (wrap64 (x9 + 1)) x405000 x405001 x410000 x410001 x415000 x415001))) else (if (x405001.length : Int) = 16 then ((laws_lwSame.f x7 x3).bind fun t427 => (if t427 = true then ((laws_lwSame.f x8 x3).bind fun t428 => (laws_FnRows.j2 k x3 (!t428) x405000 x405001 x410000 x410001 x415000 x415001)) else (laws_FnRows.j2 k x3 true x405000 x405001 x410000 x410001 x415000 x415001))) else (laws_FnRows.j2 k x3 true x405000 x405001 x410000 x410001 x415000 x415001))
def laws_FnRows.j2 : Nat → List Int → Bool → Int → List Int → Int → List Int → Int → List Int → Option (Bool)
  | 0, _, _, _, _, _, _, _, _ => none
  | k + 1, x3, x71, x405000, x405001, x410000, x410001, x415000, x415001 => if x71 = true then (some false) else (laws_FnRows.l1 k x3 0 x405000 x405001 x410000 x410001 x415000 x415001)
def laws_FnRows.l1 : Nat → List Int → Int → Int → List Int → Int → List Int → Int → List Int → Option (Bool)
  | 0, _, _, _, _, _, _, _, _ => none
  | k + 1, x3, x10, x405000, x405001, x410000, x410001, x415000, x415001 => if x10 < 16 then (if 0 ≤ x10 then (if x10 < (x405001.length : Int) then (if x10 < (x3.length : Int) then ((spec_SubByte.f (rd x3 x10)).bind fun t431 => (if (rd x405001 x10) = t431 then (laws_FnRows.l1 k x3 (wrap64 (x10 + 1)) x405000 x405001 x410000 x410001 x415000 x415001) else (some false))) else (none)) else (none)) else (none)) else ((spec_ShiftRows.f k x3).bind fun bt432 => ((laws_lwSame.f x410001 bt432.2).bind fun t436 => (if t436 = true then ((spec_MixColumns.f k x3).bind fun bt437 => ((laws_lwSame.f x415001 bt437.2).bind fun t441 => (some t441))) else (some false))))
end
def laws_FnRows.f (k : Nat) (l0 : List Int) : Option (Bool) := (laws_lwBig.f l0).bind fun t396 => (if t396 = true then (some true) else ((spec_DrawShiftRows.f k l0).bind fun t397 => ((impl_SubBytes.f t397).bind fun bt400 => ((impl_ShiftRows.f t397).bind fun bt405 => ((impl_MixColumns.f t397).bind fun bt410 => ((spec_SubBytes.f k t397).bind fun bt415 => (if bt400.1 = bt415.1 then (if bt405.1 = bt400.1 then (laws_FnRows.j0 k t397 (bt410.1 != bt400.1) bt400.1 bt400.2 bt405.1 bt405.2 bt410.1 bt410.2) else (laws_FnRows.j0 k t397 true bt400.1 bt400.2 bt405.1 bt405.2 bt410.1 bt410.2)) else (laws_FnRows.j0 k t397 true bt400.1 bt400.2 bt405.1 bt405.2 bt410.1 bt410.2))))))))
theorem laws_FnRows.mono_l : ∀ k, (∀ y0 y1 y2 y3 y4 y5 y6 y7, LeO (laws_FnRows.j0 k y0 y1 y2 y3 y4 y5 y6 y7) (laws_FnRows.j0 (k + 1) y0 y1 y2 y3 y4 y5 y6 y7)) ∧ (∀ y0 y1 y2 y3 y4 y5 y6 y7 y8 y9, LeO (laws_FnRows.l0 k y0 y1 y2 y3 y4 y5 y6 y7 y8 y9) (laws_FnRows.l0 (k + 1) y0 y1 y2 y3 y4 y5 y6 y7 y8 y9)) ∧ (∀ y0 y1 y2 y3 y4 y5 y6 y7, LeO (laws_FnRows.j2 k y0 y1 y2 y3 y4 y5 y6 y7) (laws_FnRows.j2 (k + 1) y0 y1 y2 y3 y4 y5 y6 y7)) ∧ (∀ y0 y1 y2 y3 y4 y5 y6 y7, LeO (laws_FnRows.l1 k y0 y1 y2 y3 y4 y5 y6 y7) (laws_FnRows.l1 (k + 1) y0 y1 y2 y3 y4 y5 y6 y7))
  | 0 => ⟨fun _ _ _ _ _ _ _ _ r h => by simp [laws_FnRows.j0] at h, fun _ _ _ _ _ _ _ _ _ _ r h => by simp [laws_FnRows.l0] at h, fun _ _ _ _ _ _ _ _ r h => by simp [laws_FnRows.j2] at h, fun _ _ _ _ _ _ _ _ r h => by simp [laws_FnRows.l1] at h⟩
  | k + 1 => by
    obtain ⟨ih0, ih1, ih2, ih3⟩ := laws_FnRows.mono_l k
    refine ⟨?_, ?_, ?_, ?_⟩
    · intro y0 y1 y2 y3 y4 y5 y6 y7
      unfold laws_FnRows.j0
      repeat' first
      | (with_reducible exact ih0 _ _ _ _ _ _ _ _)
      | (with_reducible exact ih1 _ _ _ _ _ _ _ _ _ _)
      | (with_reducible exact ih2 _ _ _ _ _ _ _ _)
      | (with_reducible exact ih3 _ _ _ _ _ _ _ _)
      | (with_reducible exact spec_DrawShiftRows.mono _ _)
      | (with_reducible exact spec_MixColumns.mono _ _)
      | (with_reducible exact spec_ShiftRows.mono _ _)
      | (with_reducible exact spec_SubBytes.mono _ _)
      | (with_reducible exact LeO.refl _)
      | (with_reducible exact LeO.none _)
      | (with_reducible refine LeO.ite ?_ ?_)
      | (with_reducible refine LeO.bind ?_ (fun _ => ?_))
      | exact ih0 _ _ _ _ _ _ _ _
      | exact ih1 _ _ _ _ _ _ _ _ _ _
      | exact ih2 _ _ _ _ _ _ _ _
      | exact ih3 _ _ _ _ _ _ _ _
      | exact spec_DrawShiftRows.mono _ _
      | exact spec_MixColumns.mono _ _
      | exact spec_ShiftRows.mono _ _
      | exact spec_SubBytes.mono _ _
      | exact LeO.none _
      | refine LeO.ite ?_ ?_
      | refine LeO.bind ?_ (fun _ => ?_)
    · intro y0 y1 y2 y3 y4 y5 y6 y7 y8 y9
      unfold laws_FnRows.l0
      repeat' first
      | (with_reducible exact ih0 _ _ _ _ _ _ _ _)
      | (with_reducible exact ih1 _ _ _ _ _ _ _ _ _ _)
      | (with_reducible exact ih2 _ _ _ _ _ _ _ _)
      | (with_reducible exact ih3 _ _ _ _ _ _ _ _)
      | (with_reducible exact spec_DrawShiftRows.mono _ _)
      | (with_reducible exact spec_MixColumns.mono _ _)
      | (with_reducible exact spec_ShiftRows.mono _ _)
      | (with_reducible exact spec_SubBytes.mono _ _)
      | (with_reducible exact LeO.refl _)
      | (with_reducible exact LeO.none _)
      | (with_reducible refine LeO.ite ?_ ?_)
      | (with_reducible refine LeO.bind ?_ (fun _ => ?_))
      | exact ih0 _ _ _ _ _ _ _ _
      | exact ih1 _ _ _ _ _ _ _ _ _ _
      | exact ih2 _ _ _ _ _ _ _ _
      | exact ih3 _ _ _ _ _ _ _ _
      | exact spec_DrawShiftRows.mono _ _
      | exact spec_MixColumns.mono _ _
      | exact spec_ShiftRows.mono _ _
      | exact spec_SubBytes.mono _ _
      | exact LeO.none _
      | refine LeO.ite ?_ ?_
      | refine LeO.bind ?_ (fun _ => ?_)
    · intro y0 y1 y2 y3 y4 y5 y6 y7
      unfold laws_FnRows.j2
      repeat' first
      | (with_reducible exact ih0 _ _ _ _ _ _ _ _)
      | (with_reducible exact ih1 _ _ _ _ _ _ _ _ _ _)
      | (with_reducible exact ih2 _ _ _ _ _ _ _ _)
      | (with_reducible exact ih3 _ _ _ _ _ _ _ _)
      | (with_reducible exact spec_DrawShiftRows.mono _ _)
      | (with_reducible exact spec_MixColumns.mono _ _)
      | (with_reducible exact spec_ShiftRows.mono _ _)
      | (with_reducible exact spec_SubBytes.mono _ _)
      | (with_reducible exact LeO.refl _)
      | (with_reducible exact LeO.none _)
      | (with_reducible refine LeO.ite ?_ ?_)
      | (with_reducible refine LeO.bind ?_ (fun _ => ?_))
      | exact ih0 _ _ _ _ _ _ _ _
      | exact ih1 _ _ _ _ _ _ _ _ _ _
      | exact ih2 _ _ _ _ _ _ _ _
      | exact ih3 _ _ _ _ _ _ _ _
      | exact spec_DrawShiftRows.mono _ _
      | exact spec_MixColumns.mono _ _
      | exact spec_ShiftRows.mono _ _
      | exact spec_SubBytes.mono _ _
      | exact LeO.none _
      | refine LeO.ite ?_ ?_
      | refine LeO.bind ?_ (fun _ => ?_)
    · intro y0 y1 y2 y3 y4 y5 y6 y7
      unfold laws_FnRows.l1
      repeat' first
      | (with_reducible exact ih0 _ _ _ _ _ _ _ _)
      | (with_reducible exact ih1 _ _ _ _ _ _ _ _ _ _)
      | (with_reducible exact ih2 _ _ _ _ _ _ _ _)
      | (with_reducible exact ih3 _ _ _ _ _ _ _ _)
      | (with_reducible exact spec_DrawShiftRows.mono _ _)
      | (with_reducible exact spec_MixColumns.mono _ _)
      | (with_reducible exact spec_ShiftRows.mono _ _)
      | (with_reducible exact spec_SubBytes.mono _ _)
      | (with_reducible exact LeO.refl _)
      | (with_reducible exact LeO.none _)
      | (with_reducible refine LeO.ite ?_ ?_)
      | (with_reducible refine LeO.bind ?_ (fun _ => ?_))
      | exact ih0 _ _ _ _ _ _ _ _
      | exact ih1 _ _ _ _ _ _ _ _ _ _
      | exact ih2 _ _ _ _ _ _ _ _
      | exact ih3 _ _ _ _ _ _ _ _
      | exact spec_DrawShiftRows.mono _ _
      | exact spec_MixColumns.mono _ _
      | exact spec_ShiftRows.mono _ _
      | exact spec_SubBytes.mono _ _
      | exact LeO.none _
      | refine LeO.ite ?_ ?_
      | refine LeO.bind ?_ (fun _ => ?_)
theorem laws_FnRows.mono : ∀ a0 k, LeO (laws_FnRows.f k a0) (laws_FnRows.f (k + 1) a0) := by
  intro a0 k
  obtain ⟨ih0, ih1, ih2, ih3⟩ := laws_FnRows.mono_l k
  unfold laws_FnRows.f
  repeat' first
      | (with_reducible exact ih0 _ _ _ _ _ _ _ _)
      | (with_reducible exact ih1 _ _ _ _ _ _ _ _ _ _)
      | (with_reducible exact ih2 _ _ _ _ _ _ _ _)
      | (with_reducible exact ih3 _ _ _ _ _ _ _ _)
      | (with_reducible exact spec_DrawShiftRows.mono _ _)
      | (with_reducible exact spec_MixColumns.mono _ _)
      | (with_reducible exact spec_ShiftRows.mono _ _)
      | (with_reducible exact spec_SubBytes.mono _ _)
      | (with_reducible exact LeO.refl _)
      | (with_reducible exact LeO.none _)
      | (with_reducible refine LeO.ite ?_ ?_)
      | (with_reducible refine LeO.bind ?_ (fun _ => ?_))
      | exact ih0 _ _ _ _ _ _ _ _
      | exact ih1 _ _ _ _ _ _ _ _ _ _
      | exact ih2 _ _ _ _ _ _ _ _
      | exact ih3 _ _ _ _ _ _ _ _
      | exact spec_DrawShiftRows.mono _ _
      | exact spec_MixColumns.mono _ _
      | exact spec_ShiftRows.mono _ _
      | exact spec_SubBytes.mono _ _
      | exact LeO.none _
      | refine LeO.ite ?_ ?_
      | refine LeO.bind ?_ (fun _ => ?_)
def laws_FnRows.T7 : Bool × List (List Nat × List Nat) := (true, [([], []), ([0], [0]), ([], []), ([2], [2]), ([3], [3]), ([1, 4], [1, 4]), ([5, 3], [5]), ([6], [6]), ([7, 6], [6, 7]), ([6], [6]), ([9, 6], [6, 9]), ([8, 10, 6], [6, 8, 10]), ([6, 11], [6, 11]), ([12, 6], [12]), ([13], [13]), ([14, 13], [13, 14]), ([13], [13]), ([16, 13], [13, 16]), ([15, 17, 13], [13, 15, 17]), ([13, 18], [13, 18])])
def laws_FnRows.B7 : List Nat := [0, 1, 0, 4, 12, 31, 63, 127, 255, 127, 639, 2047, 4095, 8191, 16383, 32767, 16383, 81919, 262143, 524287]
theorem laws_FnRows.tab7 : rtab .any (opsOf Try.f4 7) = laws_FnRows.T7 := by kernel_rfl
theorem laws_FnRows.bits7 : waitsOk laws_FnRows.T7.2 laws_FnRows.B7 = true := by kernel_rfl
def laws_FnRows.T23 : Bool × List (List Nat × List Nat) := (true, [([], []), ([0], [0]), ([], []), ([1, 2], [1, 2]), ([3], [3]), ([], []), ([], []), ([5, 6], [5, 6]), ([7], [7]), ([8], [8]), ([4, 9], [4, 9])])
def laws_FnRows.B23 : List Nat := [0, 1, 0, 7, 15, 0, 0, 96, 224, 480, 1023]
theorem laws_FnRows.tab23 : rtab .any (opsOf Try.f4 23) = laws_FnRows.T23 := by kernel_rfl
theorem laws_FnRows.bits23 : waitsOk laws_FnRows.T23.2 laws_FnRows.B23 = true := by kernel_rfl
def laws_FnRows.T25 : Bool × List (List Nat × List Nat) := (true, [([], []), ([0], [0]), ([], []), ([2], [2]), ([3], [3]), ([1, 4, 3], [1, 4]), ([5, 5], [5]), ([6], [6]), ([7, 6], [6, 7]), ([6], [6]), ([9, 6, 6], [6, 9]), ([10, 6], [6, 10]), ([8, 11, 10, 6], [6, 8, 11]), ([6, 12], [6, 12]), ([13, 12, 0, 1, 2, 3, 4, 5, 6, 7, 8, 9, 10, 11, 12, 13], [13])])
def laws_FnRows.B25 : List Nat := [0, 1, 0, 4, 12, 31, 63, 127, 255, 127, 639, 1663, 4095, 8191, 16383]
theorem laws_FnRows.tab25 : rtab .any (opsOf Try.f4 25) = laws_FnRows.T25 := by kernel_rfl
theorem laws_FnRows.bits25 : waitsOk laws_FnRows.T25.2 laws_FnRows.B25 = true := by kernel_rfl
set_option maxHeartbeats 8000000 in
set_option maxRecDepth 100000 in
theorem laws_FnRows.calls (k : Nat) (A0 : Option Addr) (c0 : Nat) (l0 : List Int) (r : Bool) (w : World) (hr0 : Kd.C (Kd.int .u8) w A0 l0.length l0) (hc0 : l0.length ≤ c0) (h : laws_FnRows.f k l0 = some r) :
    Calls Try.prog 4 #[.slice A0 l0.length c0] w fun e w' => e = .returned (.bool r) ∧ Below w.heap.size w w' := by
  have hu27 := Try.underlying27
  have HR0 := Aside0.mk hr0
  have HC0 := Aside0.mk hc0
  clear hr0 hc0
  have HB := Aside0.mk (Below.refl w.heap.size w)
  have H : ((laws_lwBig.f l0).bind fun t396 => (if t396 = true then (some true) else ((spec_DrawShiftRows.f k l0).bind fun t397 => ((impl_SubBytes.f t397).bind fun bt400 => ((impl_ShiftRows.f t397).bind fun bt405 => ((impl_MixColumns.f t397).bind fun bt410 => ((spec_SubBytes.f k t397).bind fun bt415 => (if bt400.1 = bt415.1 then (if bt405.1 = bt400.1 then (laws_FnRows.j0 k t397 (bt410.1 != bt400.1) bt400.1 bt400.2 bt405.1 bt405.2 bt410.1 bt410.2) else (laws_FnRows.j0 k t397 true bt400.1 bt400.2 bt405.1 bt405.2 bt410.1 bt410.2)) else (laws_FnRows.j0 k t397 true bt400.1 bt400.2 bt405.1 bt405.2 bt410.1 bt410.2))))))))) = some r := h
  clear h
  replace H := Option.bind_eq_some_iff.mp H
  obtain ⟨t396, A20, H⟩ := H
  replace H : (if t396 = true then (some true) else ((spec_DrawShiftRows.f k l0).bind fun t397 => ((impl_SubBytes.f t397).bind fun bt400 => ((impl_ShiftRows.f t397).bind fun bt405 => ((impl_MixColumns.f t397).bind fun bt410 => ((spec_SubBytes.f k t397).bind fun bt415 => (if bt400.1 = bt415.1 then (if bt405.1 = bt400.1 then (laws_FnRows.j0 k t397 (bt410.1 != bt400.1) bt400.1 bt400.2 bt405.1 bt405.2 bt410.1 bt410.2) else (laws_FnRows.j0 k t397 true bt400.1 bt400.2 bt405.1 bt405.2 bt410.1 bt410.2)) else (laws_FnRows.j0 k t397 true bt400.1 bt400.2 bt405.1 bt405.2 bt410.1 bt410.2)))))))) = some r := H
  have A2 := Aside0.mk A20
  clear A20
  by_cases c3 : t396 = true
  · subst c3
    have H1 : (some true) = some r := by rw [if_pos rfl] at H; exact H
    clear H
    have H := H1
    clear H1
    obtain rfl := Option.some.inj H
    go_enter Try.func4, Try.ntmps4
    go_wp2_with (first | ((with_reducible refine gate_callee (f := 7) rfl ?_); refine goesL_ (some 12) rfl rfl Try.func7 (by kernel_rfl) rfl #[.slice A0 l0.length c0] rfl (by (try simp only [List.map_toArray, List.map_cons, List.map_nil]); first | done | rfl | (simp only [List.length_drop, List.length_take]; rfl)) ?_; (with_reducible refine (laws_lwBig.calls _ _ l0 true _ ?side1 ?side2 A2.out).mono ?_); (case side1 => repeat (first | exact HR0.out | (with_reducible refine Kd.C_alloc ?_ _) | (with_reducible refine Kd.C_drewN ?_ _) | (with_reducible refine Kd.C_drew ?_))); (case side2 => exact HC0.out); rintro e w' ⟨rfl, ⟨nd, rfl⟩⟩; refine ⟨_, rfl, ?_⟩))
    go_ret
    exact ⟨by first | rfl | (simp [errW_none, errW_some] <;> rfl) | (simp [*, errW_none, errW_some] <;> rfl), by repeat (first | (with_reducible first | exact HB.out | apply below_alloc | apply pw_below_drewN | apply below_drew1) | exact HB.out)⟩
  · replace c3 := Bool.eq_false_iff.mpr c3
    subst c3
    have H1 : ((spec_DrawShiftRows.f k l0).bind fun t397 => ((impl_SubBytes.f t397).bind fun bt400 => ((impl_ShiftRows.f t397).bind fun bt405 => ((impl_MixColumns.f t397).bind fun bt410 => ((spec_SubBytes.f k t397).bind fun bt415 => (if bt400.1 = bt415.1 then (if bt405.1 = bt400.1 then (laws_FnRows.j0 k t397 (bt410.1 != bt400.1) bt400.1 bt400.2 bt405.1 bt405.2 bt410.1 bt410.2) else (laws_FnRows.j0 k t397 true bt400.1 bt400.2 bt405.1 bt405.2 bt410.1 bt410.2)) else (laws_FnRows.j0 k t397 true bt400.1 bt400.2 bt405.1 bt405.2 bt410.1 bt410.2))))))) = some r := by rw [if_neg (show ¬ (false = true) by decide)] at H; exact H
    clear H
    have H := H1
    clear H1
    replace H := Option.bind_eq_some_iff.mp H
    obtain ⟨t397, A40, H⟩ := H
    replace H : ((impl_SubBytes.f t397).bind fun bt400 => ((impl_ShiftRows.f t397).bind fun bt405 => ((impl_MixColumns.f t397).bind fun bt410 => ((spec_SubBytes.f k t397).bind fun bt415 => (if bt400.1 = bt415.1 then (if bt405.1 = bt400.1 then (laws_FnRows.j0 k t397 (bt410.1 != bt400.1) bt400.1 bt400.2 bt405.1 bt405.2 bt410.1 bt410.2) else (laws_FnRows.j0 k t397 true bt400.1 bt400.2 bt405.1 bt405.2 bt410.1 bt410.2)) else (laws_FnRows.j0 k t397 true bt400.1 bt400.2 bt405.1 bt405.2 bt410.1 bt410.2)))))) = some r := H
    have A4 := Aside0.mk A40
    clear A40
    replace H := Option.bind_eq_some_iff.mp H
    obtain ⟨⟨t400, t401⟩, A50, H⟩ := H
    replace H : ((impl_ShiftRows.f t397).bind fun bt405 => ((impl_MixColumns.f t397).bind fun bt410 => ((spec_SubBytes.f k t397).bind fun bt415 => (if t400 = bt415.1 then (if bt405.1 = t400 then (laws_FnRows.j0 k t397 (bt410.1 != t400) t400 t401 bt405.1 bt405.2 bt410.1 bt410.2) else (laws_FnRows.j0 k t397 true t400 t401 bt405.1 bt405.2 bt410.1 bt410.2)) else (laws_FnRows.j0 k t397 true t400 t401 bt405.1 bt405.2 bt410.1 bt410.2))))) = some r := H
    have A5 := Aside0.mk A50
    clear A50
    replace H := Option.bind_eq_some_iff.mp H
    obtain ⟨⟨t405, t406⟩, A60, H⟩ := H
    replace H : ((impl_MixColumns.f t397).bind fun bt410 => ((spec_SubBytes.f k t397).bind fun bt415 => (if t400 = bt415.1 then (if t405 = t400 then (laws_FnRows.j0 k t397 (bt410.1 != t400) t400 t401 t405 t406 bt410.1 bt410.2) else (laws_FnRows.j0 k t397 true t400 t401 t405 t406 bt410.1 bt410.2)) else (laws_FnRows.j0 k t397 true t400 t401 t405 t406 bt410.1 bt410.2)))) = some r := H
    have A6 := Aside0.mk A60
    clear A60
    replace H := Option.bind_eq_some_iff.mp H
    obtain ⟨⟨t410, t411⟩, A70, H⟩ := H
    replace H : ((spec_SubBytes.f k t397).bind fun bt415 => (if t400 = bt415.1 then (if t405 = t400 then (laws_FnRows.j0 k t397 (t410 != t400) t400 t401 t405 t406 t410 t411) else (laws_FnRows.j0 k t397 true t400 t401 t405 t406 t410 t411)) else (laws_FnRows.j0 k t397 true t400 t401 t405 t406 t410 t411))) = some r := H
    have A7 := Aside0.mk A70
    clear A70
    have HC8 := Aside0.mk H
    clear H
    go_enter Try.func4, Try.ntmps4
    go_upto_region 7 with (first | ((with_reducible refine gate_callee (f := 7) rfl ?_); refine goesL_ (some 12) rfl rfl Try.func7 (by kernel_rfl) rfl #[.slice A0 l0.length c0] rfl (by (try simp only [List.map_toArray, List.map_cons, List.map_nil]); first | done | rfl | (simp only [List.length_drop, List.length_take]; rfl)) ?_; (with_reducible refine (laws_lwBig.calls _ _ l0 false _ ?side1 ?side2 A2.out).mono ?_); (case side1 => repeat (first | exact HR0.out | (with_reducible refine Kd.C_alloc ?_ _) | (with_reducible refine Kd.C_drewN ?_ _) | (with_reducible refine Kd.C_drew ?_))); (case side2 => exact HC0.out); rintro e w' ⟨rfl, ⟨nd, rfl⟩⟩; refine ⟨_, rfl, ?_⟩) | ((with_reducible refine gate_callee (f := 20) rfl ?_); refine goesL_ (some 14) rfl rfl Try.func20 (by kernel_rfl) rfl #[.slice A0 l0.length c0] rfl (by (try simp only [List.map_toArray, List.map_cons, List.map_nil]); first | done | rfl | (simp only [List.length_drop, List.length_take]; rfl)) ?_; (with_reducible refine (spec_DrawShiftRows.calls k _ _ l0 t397 _ ?side1 ?side2 A4.out).mono ?_); (case side1 => repeat (first | exact HR0.out | (with_reducible refine Kd.C_alloc ?_ _) | (with_reducible refine Kd.C_drewN ?_ _) | (with_reducible refine Kd.C_drew ?_))); (case side2 => exact HC0.out); rintro e w9 ⟨v398, rfl, ho0, hb⟩; have ho0 := RA_of (by decide) ho0; refine ⟨_, rfl, ?_⟩; have n0_ := Aside0.mk (RA_lower ho0 (below_size (by repeat (first | (with_reducible first | exact HB.out | apply below_alloc | apply pw_below_drewN | apply below_drew1) | exact HB.out)))); have n1_ := Aside0.mk (below_step (by repeat (first | (with_reducible first | exact HB.out | apply below_alloc | apply pw_below_drewN | apply below_drew1) | exact HB.out)) hb); clear HB; have HO399 := n0_; have HB := n1_; clear n0_ n1_; (try clear hb); (try clear hb2); (try clear hk); (try clear hi); (try clear ho0); obtain ⟨Ao10, co10, eo10⟩ := RA_slice HO399.out; subst eo10) | ((with_reducible refine gate_callee (f := 21) rfl ?_); refine goesL_ (some 16) rfl rfl Try.func21 (by kernel_rfl) rfl #[.slice Ao10 t397.length co10] rfl (by (try simp only [List.map_toArray, List.map_cons, List.map_nil]); first | done | rfl | (simp only [List.length_drop, List.length_take]; rfl)) ?_; (with_reducible refine (impl_SubBytes.calls _ _ t397 t400 t401 _ ?side1 ?side2 A5.out).mono ?_); (case side1 => repeat (first | exact (RA_reads' HO399.out).2.2 | (with_reducible refine Kd.C_alloc ?_ _) | (with_reducible refine Kd.C_drewN ?_ _) | (with_reducible refine Kd.C_drew ?_))); (case side2 => exact (RA_reads' HO399.out).2.1); rintro e w11 ⟨v402, rfl, ho0, hb⟩; have ho0 := RA_of (by decide) ho0; refine ⟨_, rfl, ?_⟩; have n0_ := Aside0.mk (RA_elder' (by (with_reducible repeat (first | apply RA_alloc | apply RA_drewN | apply RA_drew)); exact HO399.out) (RA_base ho0) hb); have n1_ := Aside0.mk (RA_lower (RA_new' ho0 (RA_lt (by (with_reducible repeat (first | apply RA_alloc | apply RA_drewN | apply RA_drew)); exact HO399.out))) (below_size (by repeat (first | (with_reducible first | exact HB.out | apply below_alloc | apply pw_below_drewN | apply below_drew1) | exact HB.out)))); have n2_ := Aside0.mk (below_step (by repeat (first | (with_reducible first | exact HB.out | apply below_alloc | apply pw_below_drewN | apply below_drew1) | exact HB.out)) hb); clear HO399; clear HB; have HO399 := n0_; have HO403 := n1_; have HB := n2_; clear n0_ n1_ n2_; (try clear hb); (try clear hb2); (try clear hk); (try clear hi); (try clear ho0)) | ((with_reducible refine gate_dst (N := 4) rfl ?_); refine box_event ?hg (N := 4) ?hd (cs := #[.int .i64 0, .slice none 0 0]) (t := 27) ?hr ?_; (case hd => rfl); (case hg => rfl); (case hr => first | (go_simp; done) | (go_simp; rfl)); intro gb404 hg w12 hbox hb; have n0_ := Aside0.mk (RA_below (by (with_reducible repeat (first | apply RA_alloc | apply RA_drewN | apply RA_drew)); exact HO399.out) hb); have n1_ := Aside0.mk (RA_below (by (with_reducible repeat (first | apply RA_alloc | apply RA_drewN | apply RA_drew)); exact HO403.out) hb); have n2_ := Aside0.mk (below_step (by repeat (first | (with_reducible first | exact HB.out | apply below_alloc | apply pw_below_drewN | apply below_drew1) | exact HB.out)) hb); have n3_ := Aside0.mk (hbox); have n4_ := Aside0.mk ((by rw [hg]; exact (below_size (by repeat (first | (with_reducible first | exact HB.out | apply below_alloc | apply pw_below_drewN | apply below_drew1) | exact HB.out))) : w.heap.size ≤ gb404)); have n5_ := Aside0.mk ((by rw [hg]; exact (below_size (by repeat (first | (with_reducible first | exact HB.out | apply below_alloc | apply pw_below_drewN | apply below_drew1) | exact HB.out))) : w.heap.size ≤ gb404)); clear HO399; clear HO403; clear HB; have HO399 := n0_; have HO403 := n1_; have HB := n2_; have BK404 := n3_; have GW404 := n4_; have GE404 := n5_; clear n0_ n1_ n2_ n3_ n4_ n5_; clear hb hbox hg; have hcz13_0 : w12.cell? ⟨gb404, 0, none⟩ = some (.int .i64 0) := (blk_cell BK404.out 0).trans rfl; have hcz13_1 : w12.cell? ⟨gb404, 1, none⟩ = some (.slice none 0 0) := (blk_cell BK404.out 1).trans rfl; have hfz13_0 := blk_frozen BK404.out 0; have hfz13_1 := blk_frozen BK404.out 1; obtain ⟨Ao14, co14, eo14⟩ := RA_slice HO403.out; subst eo14) | ((with_reducible refine gate_callee (f := 22) rfl ?_); refine goesL_ (some 18) rfl rfl Try.func22 (by kernel_rfl) rfl #[.slice Ao10 t397.length co10] rfl (by (try simp only [List.map_toArray, List.map_cons, List.map_nil]); first | done | rfl | (simp only [List.length_drop, List.length_take]; rfl)) ?_; (with_reducible refine (impl_ShiftRows.calls _ _ t397 t405 t406 _ ?side1 ?side2 A6.out).mono ?_); (case side1 => refine (RA_reads' (base := w.heap.size) (ok := fun k_ => (True ∧ some k_ ≠ (.slice Ao14 t401.length co14 : Value).ownBlock)) (n := t397.length) (c := co10) ?_).2.2; exact (by (with_reducible repeat (first | apply RA_alloc | apply RA_drewN | apply RA_drew)); exact (RA_mono (RA_far (p := ⟨gb404, 1, none⟩) (RA_far (p := ⟨gb404, 0, none⟩) (RA_types HO399.out BK404.out (by decide)) (fun _ hk => hk.2) (.int .i64 t400)) (fun _ hk => hk.2) (.slice Ao14 t401.length co14)) (fun _ h_ => h_.1)))); (case side2 => exact (RA_reads' HO399.out).2.1); rintro e w15 ⟨v407, rfl, ho0, hb⟩; have ho0 := RA_of (by decide) ho0; refine ⟨_, rfl, ?_⟩; have n0_ := Aside0.mk (RA_elder' (by (with_reducible repeat (first | apply RA_alloc | apply RA_drewN | apply RA_drew)); exact (RA_mono (RA_far (p := ⟨gb404, 1, none⟩) (RA_far (p := ⟨gb404, 0, none⟩) (RA_types HO399.out BK404.out (by decide)) (fun _ hk => hk.2) (.int .i64 t400)) (fun _ hk => hk.2) (.slice Ao14 t401.length co14)) (fun _ h_ => h_.1))) (RA_base ho0) hb); have n1_ := Aside0.mk (RA_elder' (by (with_reducible repeat (first | apply RA_alloc | apply RA_drewN | apply RA_drew)); exact (RA_mono (RA_far (p := ⟨gb404, 1, none⟩) (RA_far (p := ⟨gb404, 0, none⟩) (RA_types HO403.out BK404.out (by decide)) (fun _ hk => hk.2) (.int .i64 t400)) (fun _ hk => hk.2) (.slice Ao14 t401.length co14)) (fun _ h_ => h_.1))) (RA_base ho0) hb); have n2_ := Aside0.mk (RA_lower (RA_new' (RA_new' ho0 (RA_lt (by (with_reducible repeat (first | apply RA_alloc | apply RA_drewN | apply RA_drew)); exact (RA_mono (RA_far (p := ⟨gb404, 1, none⟩) (RA_far (p := ⟨gb404, 0, none⟩) (RA_types HO399.out BK404.out (by decide)) (fun _ hk => hk.2) (.int .i64 t400)) (fun _ hk => hk.2) (.slice Ao14 t401.length co14)) (fun _ h_ => h_.1))))) (RA_lt (by (with_reducible repeat (first | apply RA_alloc | apply RA_drewN | apply RA_drew)); exact (RA_mono (RA_far (p := ⟨gb404, 1, none⟩) (RA_far (p := ⟨gb404, 0, none⟩) (RA_types HO403.out BK404.out (by decide)) (fun _ hk => hk.2) (.int .i64 t400)) (fun _ hk => hk.2) (.slice Ao14 t401.length co14)) (fun _ h_ => h_.1))))) (below_size (by repeat (first | (with_reducible first | exact HB.out | apply below_alloc | apply pw_below_drewN | apply below_drew1 | refine below_set ?_ GE404.out) | exact HB.out)))); have n3_ := Aside0.mk (blk_below (g := gb404) (o := .cells #[.int .i64 t400, .slice Ao14 t401.length co14] 27 (0, 0)) (by (with_reducible repeat (first | refine blk_drewN ?_ _ | refine blk_drew ?_ | refine blk_alloc ?_ _)); refine blk_put (cs := #[.int .i64 t400, .slice none 0 0]) ?_ 1 _ rfl; (with_reducible repeat (first | refine blk_drewN ?_ _ | refine blk_drew ?_ | refine blk_alloc ?_ _)); refine blk_put (cs := #[.int .i64 0, .slice none 0 0]) ?_ 0 _ rfl; (with_reducible repeat (first | refine blk_drewN ?_ _ | refine blk_drew ?_ | refine blk_alloc ?_ _)); exact BK404.out) hb); have n4_ := Aside0.mk (below_step (by repeat (first | (with_reducible first | exact HB.out | apply below_alloc | apply pw_below_drewN | apply below_drew1 | refine below_set ?_ GE404.out) | exact HB.out)) hb); clear HO399; clear HO403; clear BK404; clear HB; have HO399 := n0_; have HO403 := n1_; have HO408 := n2_; have BK404 := n3_; have HB := n4_; clear n0_ n1_ n2_ n3_ n4_; (try clear hb); (try clear hb2); (try clear hk); (try clear hi); (try clear ho0)) | ((with_reducible refine gate_dst (N := 5) rfl ?_); refine box_event ?hg (N := 5) ?hd (cs := #[.int .i64 0, .slice none 0 0]) (t := 27) ?hr ?_; (case hd => rfl); (case hg => rfl); (case hr => first | (go_simp; done) | (go_simp; rfl)); intro gb409 hg w16 hbox hb; have n0_ := Aside0.mk (RA_below (by (with_reducible repeat (first | apply RA_alloc | apply RA_drewN | apply RA_drew)); exact HO399.out) hb); have n1_ := Aside0.mk (RA_below (by (with_reducible repeat (first | apply RA_alloc | apply RA_drewN | apply RA_drew)); exact HO403.out) hb); have n2_ := Aside0.mk (RA_below (by (with_reducible repeat (first | apply RA_alloc | apply RA_drewN | apply RA_drew)); exact HO408.out) hb); have n3_ := Aside0.mk (blk_below (g := gb404) (o := .cells #[.int .i64 t400, .slice Ao14 t401.length co14] 27 (0, 0)) (by (with_reducible repeat (first | refine blk_drewN ?_ _ | refine blk_drew ?_ | refine blk_alloc ?_ _)); exact BK404.out) hb); have n4_ := Aside0.mk (below_step (by repeat (first | (with_reducible first | exact HB.out | apply below_alloc | apply pw_below_drewN | apply below_drew1 | refine below_set ?_ GE404.out) | exact HB.out)) hb); have n5_ := Aside0.mk (hbox); have n6_ := Aside0.mk ((by rw [hg]; exact (below_size (by repeat (first | (with_reducible first | exact HB.out | apply below_alloc | apply pw_below_drewN | apply below_drew1 | refine below_set ?_ GE404.out) | exact HB.out))) : w.heap.size ≤ gb409)); have n7_ := Aside0.mk ((by rw [hg]; exact (below_size (by repeat (first | (with_reducible first | exact HB.out | apply below_alloc | apply pw_below_drewN | apply below_drew1 | refine below_set ?_ GE404.out) | exact HB.out))) : w.heap.size ≤ gb409)); have n8_ := Aside0.mk ((by rw [hg]; exact Nat.ne_of_lt (blk_lt (g := gb404) (o := .cells #[.int .i64 t400, .slice Ao14 t401.length co14] 27 (0, 0)) (by (with_reducible repeat (first | refine blk_drewN ?_ _ | refine blk_drew ?_ | refine blk_alloc ?_ _)); exact BK404.out)) : gb404 ≠ gb409)); have n9_ := Aside0.mk ((by rw [hg]; exact Nat.ne_of_gt (blk_lt (g := gb404) (o := .cells #[.int .i64 t400, .slice Ao14 t401.length co14] 27 (0, 0)) (by (with_reducible repeat (first | refine blk_drewN ?_ _ | refine blk_drew ?_ | refine blk_alloc ?_ _)); exact BK404.out)) : gb409 ≠ gb404)); clear HO399; clear HO403; clear HO408; clear BK404; clear HB; have HO399 := n0_; have HO403 := n1_; have HO408 := n2_; have BK404 := n3_; have HB := n4_; have BK409 := n5_; have GW409 := n6_; have GE409 := n7_; have NB404_409 := n8_; have NB409_404 := n9_; clear n0_ n1_ n2_ n3_ n4_ n5_ n6_ n7_ n8_ n9_; clear hb hbox hg; have hnb17 := NB409_404.out; have hnc17 := NB404_409.out; have hcz18_0 : w16.cell? ⟨gb409, 0, none⟩ = some (.int .i64 0) := (blk_cell BK409.out 0).trans rfl; have hcz18_1 : w16.cell? ⟨gb409, 1, none⟩ = some (.slice none 0 0) := (blk_cell BK409.out 1).trans rfl; have hfz18_0 := blk_frozen BK409.out 0; have hfz18_1 := blk_frozen BK409.out 1; obtain ⟨Ao19, co19, eo19⟩ := RA_slice HO408.out; subst eo19) | ((with_reducible refine gate_callee (f := 23) rfl ?_); refine goesL_ (some 20) rfl rfl Try.func23 (by kernel_rfl) rfl #[.slice Ao10 t397.length co10] rfl (by (try simp only [List.map_toArray, List.map_cons, List.map_nil]); first | done | rfl | (simp only [List.length_drop, List.length_take]; rfl)) ?_; (with_reducible refine (impl_MixColumns.calls _ _ t397 t410 t411 _ ?side1 ?side2 A7.out).mono ?_); (case side1 => refine (RA_reads' (base := w.heap.size) (ok := fun k_ => ((True ∧ some k_ ≠ (.slice Ao14 t401.length co14 : Value).ownBlock) ∧ some k_ ≠ (.slice Ao19 t406.length co19 : Value).ownBlock)) (n := t397.length) (c := co10) ?_).2.2; exact (by (with_reducible repeat (first | apply RA_alloc | apply RA_drewN | apply RA_drew)); exact (RA_mono (RA_far (p := ⟨gb409, 1, none⟩) (RA_far (p := ⟨gb409, 0, none⟩) (RA_types HO399.out BK409.out (by decide)) (fun _ hk => hk.2) (.int .i64 t405)) (fun _ hk => hk.2) (.slice Ao19 t406.length co19)) (fun _ h_ => h_.1)))); (case side2 => exact (RA_reads' HO399.out).2.1); rintro e w20 ⟨v412, rfl, ho0, hb⟩; have ho0 := RA_of (by decide) ho0; refine ⟨_, rfl, ?_⟩; have n0_ := Aside0.mk (RA_elder' (by (with_reducible repeat (first | apply RA_alloc | apply RA_drewN | apply RA_drew)); exact (RA_mono (RA_far (p := ⟨gb409, 1, none⟩) (RA_far (p := ⟨gb409, 0, none⟩) (RA_types HO399.out BK409.out (by decide)) (fun _ hk => hk.2) (.int .i64 t405)) (fun _ hk => hk.2) (.slice Ao19 t406.length co19)) (fun _ h_ => h_.1))) (RA_base ho0) hb); have n1_ := Aside0.mk (RA_elder' (by (with_reducible repeat (first | apply RA_alloc | apply RA_drewN | apply RA_drew)); exact (RA_mono (RA_far (p := ⟨gb409, 1, none⟩) (RA_far (p := ⟨gb409, 0, none⟩) (RA_types HO403.out BK409.out (by decide)) (fun _ hk => hk.2) (.int .i64 t405)) (fun _ hk => hk.2) (.slice Ao19 t406.length co19)) (fun _ h_ => h_.1))) (RA_base ho0) hb); have n2_ := Aside0.mk (RA_elder' (by (with_reducible repeat (first | apply RA_alloc | apply RA_drewN | apply RA_drew)); exact (RA_mono (RA_far (p := ⟨gb409, 1, none⟩) (RA_far (p := ⟨gb409, 0, none⟩) (RA_types HO408.out BK409.out (by decide)) (fun _ hk => hk.2) (.int .i64 t405)) (fun _ hk => hk.2) (.slice Ao19 t406.length co19)) (fun _ h_ => h_.1))) (RA_base ho0) hb); have n3_ := Aside0.mk (RA_lower (RA_new' (RA_new' (RA_new' ho0 (RA_lt (by (with_reducible repeat (first | apply RA_alloc | apply RA_drewN | apply RA_drew)); exact (RA_mono (RA_far (p := ⟨gb409, 1, none⟩) (RA_far (p := ⟨gb409, 0, none⟩) (RA_types HO399.out BK409.out (by decide)) (fun _ hk => hk.2) (.int .i64 t405)) (fun _ hk => hk.2) (.slice Ao19 t406.length co19)) (fun _ h_ => h_.1))))) (RA_lt (by (with_reducible repeat (first | apply RA_alloc | apply RA_drewN | apply RA_drew)); exact (RA_mono (RA_far (p := ⟨gb409, 1, none⟩) (RA_far (p := ⟨gb409, 0, none⟩) (RA_types HO403.out BK409.out (by decide)) (fun _ hk => hk.2) (.int .i64 t405)) (fun _ hk => hk.2) (.slice Ao19 t406.length co19)) (fun _ h_ => h_.1))))) (RA_lt (by (with_reducible repeat (first | apply RA_alloc | apply RA_drewN | apply RA_drew)); exact (RA_mono (RA_far (p := ⟨gb409, 1, none⟩) (RA_far (p := ⟨gb409, 0, none⟩) (RA_types HO408.out BK409.out (by decide)) (fun _ hk => hk.2) (.int .i64 t405)) (fun _ hk => hk.2) (.slice Ao19 t406.length co19)) (fun _ h_ => h_.1))))) (below_size (by repeat (first | (with_reducible first | exact HB.out | apply below_alloc | apply pw_below_drewN | apply below_drew1 | refine below_set ?_ GE404.out | refine below_set ?_ GE409.out) | exact HB.out)))); have n4_ := Aside0.mk (blk_below (g := gb404) (o := .cells #[.int .i64 t400, .slice Ao14 t401.length co14] 27 (0, 0)) (by (with_reducible repeat (first | refine blk_drewN ?_ _ | refine blk_drew ?_ | refine blk_alloc ?_ _)); refine blk_far ?_ NB404_409.out _; (with_reducible repeat (first | refine blk_drewN ?_ _ | refine blk_drew ?_ | refine blk_alloc ?_ _)); refine blk_far ?_ NB404_409.out _; (with_reducible repeat (first | refine blk_drewN ?_ _ | refine blk_drew ?_ | refine blk_alloc ?_ _)); exact BK404.out) hb); have n5_ := Aside0.mk (blk_below (g := gb409) (o := .cells #[.int .i64 t405, .slice Ao19 t406.length co19] 27 (0, 0)) (by (with_reducible repeat (first | refine blk_drewN ?_ _ | refine blk_drew ?_ | refine blk_alloc ?_ _)); refine blk_put (cs := #[.int .i64 t405, .slice none 0 0]) ?_ 1 _ rfl; (with_reducible repeat (first | refine blk_drewN ?_ _ | refine blk_drew ?_ | refine blk_alloc ?_ _)); refine blk_put (cs := #[.int .i64 0, .slice none 0 0]) ?_ 0 _ rfl; (with_reducible repeat (first | refine blk_drewN ?_ _ | refine blk_drew ?_ | refine blk_alloc ?_ _)); exact BK409.out) hb); have n6_ := Aside0.mk (below_step (by repeat (first | (with_reducible first | exact HB.out | apply below_alloc | apply pw_below_drewN | apply below_drew1 | refine below_set ?_ GE404.out | refine below_set ?_ GE409.out) | exact HB.out)) hb); clear HO399; clear HO403; clear HO408; clear BK404; clear BK409; clear HB; have HO399 := n0_; have HO403 := n1_; have HO408 := n2_; have HO413 := n3_; have BK404 := n4_; have BK409 := n5_; have HB := n6_; clear n0_ n1_ n2_ n3_ n4_ n5_ n6_; (try clear hb); (try clear hb2); (try clear hk); (try clear hi); (try clear ho0)) | ((with_reducible refine gate_dst (N := 6) rfl ?_); refine box_event ?hg (N := 6) ?hd (cs := #[.int .i64 0, .slice none 0 0]) (t := 27) ?hr ?_; (case hd => rfl); (case hg => rfl); (case hr => first | (go_simp; done) | (go_simp; rfl)); intro gb414 hg w21 hbox hb; have n0_ := Aside0.mk (RA_below (by (with_reducible repeat (first | apply RA_alloc | apply RA_drewN | apply RA_drew)); exact HO399.out) hb); have n1_ := Aside0.mk (RA_below (by (with_reducible repeat (first | apply RA_alloc | apply RA_drewN | apply RA_drew)); exact HO403.out) hb); have n2_ := Aside0.mk (RA_below (by (with_reducible repeat (first | apply RA_alloc | apply RA_drewN | apply RA_drew)); exact HO408.out) hb); have n3_ := Aside0.mk (RA_below (by (with_reducible repeat (first | apply RA_alloc | apply RA_drewN | apply RA_drew)); exact HO413.out) hb); have n4_ := Aside0.mk (blk_below (g := gb404) (o := .cells #[.int .i64 t400, .slice Ao14 t401.length co14] 27 (0, 0)) (by (with_reducible repeat (first | refine blk_drewN ?_ _ | refine blk_drew ?_ | refine blk_alloc ?_ _)); exact BK404.out) hb); have n5_ := Aside0.mk (blk_below (g := gb409) (o := .cells #[.int .i64 t405, .slice Ao19 t406.length co19] 27 (0, 0)) (by (with_reducible repeat (first | refine blk_drewN ?_ _ | refine blk_drew ?_ | refine blk_alloc ?_ _)); exact BK409.out) hb); have n6_ := Aside0.mk (below_step (by repeat (first | (with_reducible first | exact HB.out | apply below_alloc | apply pw_below_drewN | apply below_drew1 | refine below_set ?_ GE404.out | refine below_set ?_ GE409.out) | exact HB.out)) hb); have n7_ := Aside0.mk (hbox); have n8_ := Aside0.mk ((by rw [hg]; exact (below_size (by repeat (first | (with_reducible first | exact HB.out | apply below_alloc | apply pw_below_drewN | apply below_drew1 | refine below_set ?_ GE404.out | refine below_set ?_ GE409.out) | exact HB.out))) : w.heap.size ≤ gb414)); have n9_ := Aside0.mk ((by rw [hg]; exact (below_size (by repeat (first | (with_reducible first | exact HB.out | apply below_alloc | apply pw_below_drewN | apply below_drew1 | refine below_set ?_ GE404.out | refine below_set ?_ GE409.out) | exact HB.out))) : w.heap.size ≤ gb414)); have n10_ := Aside0.mk ((by rw [hg]; exact Nat.ne_of_lt (blk_lt (g := gb404) (o := .cells #[.int .i64 t400, .slice Ao14 t401.length co14] 27 (0, 0)) (by (with_reducible repeat (first | refine blk_drewN ?_ _ | refine blk_drew ?_ | refine blk_alloc ?_ _)); exact BK404.out)) : gb404 ≠ gb414)); have n11_ := Aside0.mk ((by rw [hg]; exact Nat.ne_of_gt (blk_lt (g := gb404) (o := .cells #[.int .i64 t400, .slice Ao14 t401.length co14] 27 (0, 0)) (by (with_reducible repeat (first | refine blk_drewN ?_ _ | refine blk_drew ?_ | refine blk_alloc ?_ _)); exact BK404.out)) : gb414 ≠ gb404)); have n12_ := Aside0.mk ((by rw [hg]; exact Nat.ne_of_lt (blk_lt (g := gb409) (o := .cells #[.int .i64 t405, .slice Ao19 t406.length co19] 27 (0, 0)) (by (with_reducible repeat (first | refine blk_drewN ?_ _ | refine blk_drew ?_ | refine blk_alloc ?_ _)); exact BK409.out)) : gb409 ≠ gb414)); have n13_ := Aside0.mk ((by rw [hg]; exact Nat.ne_of_gt (blk_lt (g := gb409) (o := .cells #[.int .i64 t405, .slice Ao19 t406.length co19] 27 (0, 0)) (by (with_reducible repeat (first | refine blk_drewN ?_ _ | refine blk_drew ?_ | refine blk_alloc ?_ _)); exact BK409.out)) : gb414 ≠ gb409)); clear HO399; clear HO403; clear HO408; clear HO413; clear BK404; clear BK409; clear HB; have HO399 := n0_; have HO403 := n1_; have HO408 := n2_; have HO413 := n3_; have BK404 := n4_; have BK409 := n5_; have HB := n6_; have BK414 := n7_; have GW414 := n8_; have GE414 := n9_; have NB404_414 := n10_; have NB414_404 := n11_; have NB409_414 := n12_; have NB414_409 := n13_; clear n0_ n1_ n2_ n3_ n4_ n5_ n6_ n7_ n8_ n9_ n10_ n11_ n12_ n13_; clear hb hbox hg; have hnb22 := NB414_404.out; have hnc22 := NB404_414.out; have hnb23 := NB414_409.out; have hnc23 := NB409_414.out; have hcz24_0 : w21.cell? ⟨gb414, 0, none⟩ = some (.int .i64 0) := (blk_cell BK414.out 0).trans rfl; have hcz24_1 : w21.cell? ⟨gb414, 1, none⟩ = some (.slice none 0 0) := (blk_cell BK414.out 1).trans rfl; have hfz24_0 := blk_frozen BK414.out 0; have hfz24_1 := blk_frozen BK414.out 1; obtain ⟨Ao25, co25, eo25⟩ := RA_slice HO413.out; subst eo25))
    (try simp only [Act.put, List.setIfInBounds_toArray, List.set_cons_zero, List.set_cons_succ])
    go_cut [40] (fun v40 wc => ∃ (kq : Nat) (x40_7 : Bool), v40 = .bool x40_7 ∧ Aside0 (laws_FnRows.j0 kq t397 x40_7 t400 t401 t405 t406 t410 t411 = some r) ∧ Aside0 (kq ≤ k) ∧ Aside0 (RA wc w.heap.size (fun k_ => some k_ ≠ ((.slice Ao14 t401.length co14) : Value).ownBlock ∧ some k_ ≠ ((.slice Ao19 t406.length co19) : Value).ownBlock ∧ some k_ ≠ ((.slice Ao25 t411.length co25) : Value).ownBlock) (.slice Ao10 t397.length co10) t397) ∧ Aside0 (RA wc w.heap.size (fun k_ => some k_ ≠ ((.slice Ao10 t397.length co10) : Value).ownBlock ∧ some k_ ≠ ((.slice Ao19 t406.length co19) : Value).ownBlock ∧ some k_ ≠ ((.slice Ao25 t411.length co25) : Value).ownBlock) (.slice Ao14 t401.length co14) t401) ∧ Aside0 (RA wc w.heap.size (fun k_ => some k_ ≠ ((.slice Ao10 t397.length co10) : Value).ownBlock ∧ some k_ ≠ ((.slice Ao14 t401.length co14) : Value).ownBlock ∧ some k_ ≠ ((.slice Ao25 t411.length co25) : Value).ownBlock) (.slice Ao19 t406.length co19) t406) ∧ Aside0 (RA wc w.heap.size (fun k_ => some k_ ≠ ((.slice Ao10 t397.length co10) : Value).ownBlock ∧ some k_ ≠ ((.slice Ao14 t401.length co14) : Value).ownBlock ∧ some k_ ≠ ((.slice Ao19 t406.length co19) : Value).ownBlock) (.slice Ao25 t411.length co25) t411) ∧ Aside0 (wc.heap[gb404]? = some (.cells #[.int .i64 t400, (.slice Ao14 t401.length co14)] 27 (0, 0))) ∧ Aside0 (wc.heap[gb409]? = some (.cells #[.int .i64 t405, (.slice Ao19 t406.length co19)] 27 (0, 0))) ∧ Aside0 (wc.heap[gb414]? = some (.cells #[.int .i64 t410, (.slice Ao25 t411.length co25)] 27 (0, 0))) ∧ Aside0 (Below w.heap.size w wc))
    case first =>
      have H := HC8.out
      clear HC8
      replace H := Option.bind_eq_some_iff.mp H
      obtain ⟨⟨t415, t416⟩, A260, H⟩ := H
      replace H : (if t400 = t415 then (if t405 = t400 then (laws_FnRows.j0 k t397 (t410 != t400) t400 t401 t405 t406 t410 t411) else (laws_FnRows.j0 k t397 true t400 t401 t405 t406 t410 t411)) else (laws_FnRows.j0 k t397 true t400 t401 t405 t406 t410 t411)) = some r := H
      have A26 := Aside0.mk A260
      clear A260
      by_cases c27 : t400 = t415
      · rw [if_pos c27] at H
        have c27b0 : (t400 == t415) = true := beq_iff_eq.mpr c27
        have c27b1 : (t400 != t415) = false := bne_eq_false_iff_eq.mpr c27
        clear c27
        (first | rw [c27b0] | (simp only [i64_w, i32_w]; rw [c27b0]) | skip)
        by_cases c28 : t405 = t400
        · rw [if_pos c28] at H
          have c28b0 : (t405 == t400) = true := beq_iff_eq.mpr c28
          have c28b1 : (t405 != t400) = false := bne_eq_false_iff_eq.mpr c28
          clear c28
          have H' := Aside0.mk H
          clear H
          try go_wp2
          have n0_ : Aside0 (RA ((w21.setCell ⟨gb414, 0, none⟩ (.int .i64 t410)).setCell ⟨gb414, 1, none⟩ (.slice Ao25 t411.length co25)) w.heap.size (fun k_ => some k_ ≠ (.slice Ao14 t401.length co14 : Value).ownBlock ∧ some k_ ≠ (.slice Ao19 t406.length co19 : Value).ownBlock ∧ some k_ ≠ (.slice Ao25 t411.length co25 : Value).ownBlock) (.slice Ao10 t397.length co10) t397) := ⟨by (with_reducible repeat (first | apply RA_alloc | apply RA_drewN | apply RA_drew)); exact RA_mono (RA_far (p := ⟨gb414, 1, none⟩) (RA_far (p := ⟨gb414, 0, none⟩) (RA_types HO399.out BK414.out (by decide)) (fun _ hk => hk.2) (.int .i64 t410)) (fun _ hk => hk.2) (.slice Ao25 t411.length co25)) (fun _ hk => ⟨hk.1.1.1.2, ⟨hk.1.1.2, hk.1.2⟩⟩)⟩
          have n1_ : Aside0 (RA ((w21.setCell ⟨gb414, 0, none⟩ (.int .i64 t410)).setCell ⟨gb414, 1, none⟩ (.slice Ao25 t411.length co25)) w.heap.size (fun k_ => some k_ ≠ (.slice Ao10 t397.length co10 : Value).ownBlock ∧ some k_ ≠ (.slice Ao19 t406.length co19 : Value).ownBlock ∧ some k_ ≠ (.slice Ao25 t411.length co25 : Value).ownBlock) (.slice Ao14 t401.length co14) t401) := ⟨by (with_reducible repeat (first | apply RA_alloc | apply RA_drewN | apply RA_drew)); exact RA_mono (RA_far (p := ⟨gb414, 1, none⟩) (RA_far (p := ⟨gb414, 0, none⟩) (RA_types HO403.out BK414.out (by decide)) (fun _ hk => hk.2) (.int .i64 t410)) (fun _ hk => hk.2) (.slice Ao25 t411.length co25)) (fun _ hk => ⟨hk.1.1.1.2, ⟨hk.1.1.2, hk.1.2⟩⟩)⟩
          have n2_ : Aside0 (RA ((w21.setCell ⟨gb414, 0, none⟩ (.int .i64 t410)).setCell ⟨gb414, 1, none⟩ (.slice Ao25 t411.length co25)) w.heap.size (fun k_ => some k_ ≠ (.slice Ao10 t397.length co10 : Value).ownBlock ∧ some k_ ≠ (.slice Ao14 t401.length co14 : Value).ownBlock ∧ some k_ ≠ (.slice Ao25 t411.length co25 : Value).ownBlock) (.slice Ao19 t406.length co19) t406) := ⟨by (with_reducible repeat (first | apply RA_alloc | apply RA_drewN | apply RA_drew)); exact RA_mono (RA_far (p := ⟨gb414, 1, none⟩) (RA_far (p := ⟨gb414, 0, none⟩) (RA_types HO408.out BK414.out (by decide)) (fun _ hk => hk.2) (.int .i64 t410)) (fun _ hk => hk.2) (.slice Ao25 t411.length co25)) (fun _ hk => ⟨hk.1.1.1.2, ⟨hk.1.1.2, hk.1.2⟩⟩)⟩
          have n3_ : Aside0 (RA ((w21.setCell ⟨gb414, 0, none⟩ (.int .i64 t410)).setCell ⟨gb414, 1, none⟩ (.slice Ao25 t411.length co25)) w.heap.size (fun k_ => some k_ ≠ (.slice Ao10 t397.length co10 : Value).ownBlock ∧ some k_ ≠ (.slice Ao14 t401.length co14 : Value).ownBlock ∧ some k_ ≠ (.slice Ao19 t406.length co19 : Value).ownBlock) (.slice Ao25 t411.length co25) t411) := ⟨by (with_reducible repeat (first | apply RA_alloc | apply RA_drewN | apply RA_drew)); exact RA_mono (RA_far (p := ⟨gb414, 1, none⟩) (RA_far (p := ⟨gb414, 0, none⟩) (RA_types HO413.out BK414.out (by decide)) (fun _ hk => hk.2) (.int .i64 t410)) (fun _ hk => hk.2) (.slice Ao25 t411.length co25)) (fun _ hk => ⟨hk.1.1.1.2, ⟨hk.1.1.2, hk.1.2⟩⟩)⟩
          have n4_ : Aside0 (((w21.setCell ⟨gb414, 0, none⟩ (.int .i64 t410)).setCell ⟨gb414, 1, none⟩ (.slice Ao25 t411.length co25)).heap[gb404]? = some (.cells #[.int .i64 t400, .slice Ao14 t401.length co14] 27 (0, 0))) := ⟨by (with_reducible repeat (first | refine blk_drewN ?_ _ | refine blk_drew ?_ | refine blk_alloc ?_ _)); refine blk_far ?_ NB404_414.out _; (with_reducible repeat (first | refine blk_drewN ?_ _ | refine blk_drew ?_ | refine blk_alloc ?_ _)); refine blk_far ?_ NB404_414.out _; (with_reducible repeat (first | refine blk_drewN ?_ _ | refine blk_drew ?_ | refine blk_alloc ?_ _)); exact BK404.out⟩
          have n5_ : Aside0 (((w21.setCell ⟨gb414, 0, none⟩ (.int .i64 t410)).setCell ⟨gb414, 1, none⟩ (.slice Ao25 t411.length co25)).heap[gb409]? = some (.cells #[.int .i64 t405, .slice Ao19 t406.length co19] 27 (0, 0))) := ⟨by (with_reducible repeat (first | refine blk_drewN ?_ _ | refine blk_drew ?_ | refine blk_alloc ?_ _)); refine blk_far ?_ NB409_414.out _; (with_reducible repeat (first | refine blk_drewN ?_ _ | refine blk_drew ?_ | refine blk_alloc ?_ _)); refine blk_far ?_ NB409_414.out _; (with_reducible repeat (first | refine blk_drewN ?_ _ | refine blk_drew ?_ | refine blk_alloc ?_ _)); exact BK409.out⟩
          have n6_ : Aside0 (((w21.setCell ⟨gb414, 0, none⟩ (.int .i64 t410)).setCell ⟨gb414, 1, none⟩ (.slice Ao25 t411.length co25)).heap[gb414]? = some (.cells #[.int .i64 t410, .slice Ao25 t411.length co25] 27 (0, 0))) := ⟨by (with_reducible repeat (first | refine blk_drewN ?_ _ | refine blk_drew ?_ | refine blk_alloc ?_ _)); refine blk_put (cs := #[.int .i64 t410, .slice none 0 0]) ?_ 1 _ rfl; (with_reducible repeat (first | refine blk_drewN ?_ _ | refine blk_drew ?_ | refine blk_alloc ?_ _)); refine blk_put (cs := #[.int .i64 0, .slice none 0 0]) ?_ 0 _ rfl; (with_reducible repeat (first | refine blk_drewN ?_ _ | refine blk_drew ?_ | refine blk_alloc ?_ _)); exact BK414.out⟩
          have n7_ : Aside0 (Below w.heap.size w ((w21.setCell ⟨gb414, 0, none⟩ (.int .i64 t410)).setCell ⟨gb414, 1, none⟩ (.slice Ao25 t411.length co25))) := ⟨by repeat (first | (with_reducible first | exact HB.out | apply below_alloc | apply pw_below_drewN | apply below_drew1 | refine below_set ?_ GE404.out | refine below_set ?_ GE409.out | refine below_set ?_ GE414.out) | exact HB.out)⟩
          (try clear HO399)
          (try clear HO403)
          (try clear HO408)
          (try clear HO413)
          (try clear BK404)
          (try clear BK409)
          (try clear BK414)
          (try clear HB)
          generalize ((w21.setCell ⟨gb414, 0, none⟩ (.int .i64 t410)).setCell ⟨gb414, 1, none⟩ (.slice Ao25 t411.length co25)) = w29 at n0_ n1_ n2_ n3_ n4_ n5_ n6_ n7_ ⊢
          have HO399 := n0_
          have HO403 := n1_
          have HO408 := n2_
          have HO413 := n3_
          have BK404 := n4_
          have BK409 := n5_
          have BK414 := n6_
          have HB := n7_
          clear n0_ n1_ n2_ n3_ n4_ n5_ n6_ n7_
          have n0_ := Aside0.mk (RA_drew HO399.out)
          have n1_ := Aside0.mk (RA_drew HO403.out)
          have n2_ := Aside0.mk (RA_drew HO408.out)
          have n3_ := Aside0.mk (RA_drew HO413.out)
          have n4_ := Aside0.mk (blk_drew BK404.out)
          have n5_ := Aside0.mk (blk_drew BK409.out)
          have n6_ := Aside0.mk (blk_drew BK414.out)
          have n7_ := Aside0.mk (below_drew1 HB.out)
          clear HO399
          clear HO403
          clear HO408
          clear HO413
          clear BK404
          clear BK409
          clear BK414
          clear HB
          have HO399 := n0_
          have HO403 := n1_
          have HO408 := n2_
          have HO413 := n3_
          have BK404 := n4_
          have BK409 := n5_
          have BK414 := n6_
          have HB := n7_
          clear n0_ n1_ n2_ n3_ n4_ n5_ n6_ n7_
          refine start_ (n := 20) (S := fun w' => w'.cell? ⟨gb404, 0, none⟩ = some (.int .i64 t400) ∧ w'.cell? ⟨gb404, 1, none⟩ = some (.slice Ao14 t401.length co14) ∧ w'.cell? ⟨gb409, 0, none⟩ = some (.int .i64 t405) ∧ w'.cell? ⟨gb409, 1, none⟩ = some (.slice Ao19 t406.length co19) ∧ w'.cell? ⟨gb414, 0, none⟩ = some (.int .i64 t410) ∧ w'.cell? ⟨gb414, 1, none⟩ = some (.slice Ao25 t411.length co25)) (ds := []) #[false, false, false, false, false, false, false, false, false, false, false, false, false, false, false, false, false, false, false, false] (by kernel_rfl) rfl rfl ⟨(blk_cell BK404.out 0).trans rfl, (blk_cell BK404.out 1).trans rfl, (blk_cell BK409.out 0).trans rfl, (blk_cell BK409.out 1).trans rfl, (blk_cell BK414.out 0).trans rfl, (blk_cell BK414.out 1).trans rfl⟩ (fun hHeld => ?_); refine with_tabW laws_FnRows.tab7 laws_FnRows.bits7 (fun HT_ HW_ => ?_)
          generalize w29.drew = w30 at HO399 HO403 HO408 HO413 BK404 BK409 BK414 HB hHeld ⊢
          refine pure_ (i := 0) (N := some 21) (v := ?_) (a' := ?_) #[true, false, false, false, false, false, false, false, false, false, false, false, false, false, false, false, false, false, false, false] rfl rfl (any_of HT_.out (by kernel_rfl)) (fun _ _ _ h => h) (Or.inl ⟨by rfl, ?_⟩) ?_ ?_
          rotate_left
          · intro w'
            go_simp
            with_reducible rfl
          rotate_left
          · simp only [Act.put, List.setIfInBounds_toArray, List.set_cons_zero, List.set_cons_succ, i64_w, i32_w]
            rfl
          refine pure_ (i := 2) (N := some 23) (v := ?_) (a' := ?_) #[true, false, true, false, false, false, false, false, false, false, false, false, false, false, false, false, false, false, false, false] rfl rfl (any_of HT_.out (by kernel_rfl)) (fun _ _ _ h => h) (Or.inl ⟨by rfl, ?_⟩) ?_ ?_
          rotate_left
          · intro w'
            go_simp
            with_reducible rfl
          rotate_left
          · simp only [Act.put, List.setIfInBounds_toArray, List.set_cons_zero, List.set_cons_succ, i64_w, i32_w]
            rfl
          refine take_ (i := 1) (N := some 22) (v := ?_) (a' := ?_) #[true, true, true, false, false, false, false, false, false, false, false, false, false, false, false, false, false, false, false, false] rfl rfl (take_ofW HT_.out HW_.out (by kernel_rfl)) (fun _ _ _ h => h) (Or.inl ⟨by rfl, ?_⟩) hHeld ?_ ?_
          rotate_left
          · rintro w' ⟨s0, s1, s2, s3, s4, s5⟩
            go_simp
            with_reducible rfl
          rotate_left
          · simp only [Act.put, List.setIfInBounds_toArray, List.set_cons_zero, List.set_cons_succ, i64_w, i32_w]
            rfl
          refine one_ (i := 3) (N := some 24) #[true, true, true, true, false, false, false, false, false, false, false, false, false, false, false, false, false, false, false, false] rfl rfl (one_of HT_.out (by kernel_rfl)) (by decide) (fun K hK => ?_)
          refine goes_ Try.func24 (by kernel_rfl) rfl #[.slice Ao10 t397.length co10] (by rfl) rfl rfl (by (try simp only [List.map_toArray, List.map_cons, List.map_nil]); first | done | rfl | (simp only [List.length_drop, List.length_take]; rfl)) ?_
          with_reducible refine (spec_SubBytes.calls k _ _ t397 t415 t416 _ ?side1 ?side2 A26.out).mono ?_
          (case side1 => repeat (first | exact (RA_reads' HO399.out).2.2 | (with_reducible refine Kd.C_alloc ?_ _) | (with_reducible refine Kd.C_drewN ?_ _) | (with_reducible refine Kd.C_drew ?_)))
          (case side2 => exact (RA_reads' HO399.out).2.1)
          rintro e w31 ⟨v417, rfl, ho0, hb⟩; have ho0 := RA_of (by decide) ho0
          refine ⟨_, rfl, ?_⟩
          have n0_ := Aside0.mk (RA_elder' (by (with_reducible repeat (first | apply RA_alloc | apply RA_drewN | apply RA_drew)); exact HO399.out) (RA_base ho0) hb)
          have n1_ := Aside0.mk (RA_elder' (by (with_reducible repeat (first | apply RA_alloc | apply RA_drewN | apply RA_drew)); exact HO403.out) (RA_base ho0) hb)
          have n2_ := Aside0.mk (RA_elder' (by (with_reducible repeat (first | apply RA_alloc | apply RA_drewN | apply RA_drew)); exact HO408.out) (RA_base ho0) hb)
          have n3_ := Aside0.mk (RA_elder' (by (with_reducible repeat (first | apply RA_alloc | apply RA_drewN | apply RA_drew)); exact HO413.out) (RA_base ho0) hb)
          have n4_ := Aside0.mk (RA_lower (RA_new' (RA_new' (RA_new' (RA_new' ho0 (RA_lt (by (with_reducible repeat (first | apply RA_alloc | apply RA_drewN | apply RA_drew)); exact HO399.out))) (RA_lt (by (with_reducible repeat (first | apply RA_alloc | apply RA_drewN | apply RA_drew)); exact HO403.out))) (RA_lt (by (with_reducible repeat (first | apply RA_alloc | apply RA_drewN | apply RA_drew)); exact HO408.out))) (RA_lt (by (with_reducible repeat (first | apply RA_alloc | apply RA_drewN | apply RA_drew)); exact HO413.out))) (below_size (by repeat (first | (with_reducible first | exact HB.out | apply below_alloc | apply pw_below_drewN | apply below_drew1 | refine below_set ?_ GE404.out | refine below_set ?_ GE409.out | refine below_set ?_ GE414.out) | exact HB.out))))
          have n5_ := Aside0.mk (blk_below (g := gb404) (o := .cells #[.int .i64 t400, .slice Ao14 t401.length co14] 27 (0, 0)) (by (with_reducible repeat (first | refine blk_drewN ?_ _ | refine blk_drew ?_ | refine blk_alloc ?_ _)); exact BK404.out) hb)
          have n6_ := Aside0.mk (blk_below (g := gb409) (o := .cells #[.int .i64 t405, .slice Ao19 t406.length co19] 27 (0, 0)) (by (with_reducible repeat (first | refine blk_drewN ?_ _ | refine blk_drew ?_ | refine blk_alloc ?_ _)); exact BK409.out) hb)
          have n7_ := Aside0.mk (blk_below (g := gb414) (o := .cells #[.int .i64 t410, .slice Ao25 t411.length co25] 27 (0, 0)) (by (with_reducible repeat (first | refine blk_drewN ?_ _ | refine blk_drew ?_ | refine blk_alloc ?_ _)); exact BK414.out) hb)
          have n8_ := Aside0.mk (below_step (by repeat (first | (with_reducible first | exact HB.out | apply below_alloc | apply pw_below_drewN | apply below_drew1 | refine below_set ?_ GE404.out | refine below_set ?_ GE409.out | refine below_set ?_ GE414.out) | exact HB.out)) hb)
          clear HO399
          clear HO403
          clear HO408
          clear HO413
          clear BK404
          clear BK409
          clear BK414
          clear HB
          have HO399 := n0_
          have HO403 := n1_
          have HO408 := n2_
          have HO413 := n3_
          have HO418 := n4_
          have BK404 := n5_
          have BK409 := n6_
          have BK414 := n7_
          have HB := n8_
          clear n0_ n1_ n2_ n3_ n4_ n5_ n6_ n7_ n8_
          (try clear hb)
          (try clear hb2)
          (try clear hk)
          (try clear hi)
          (try clear ho0)
          refine hK.out _ _ ⟨(blk_cell BK404.out 0).trans rfl, (blk_cell BK404.out 1).trans rfl, (blk_cell BK409.out 0).trans rfl, (blk_cell BK409.out 1).trans rfl, (blk_cell BK414.out 0).trans rfl, (blk_cell BK414.out 1).trans rfl⟩ (fun hHeld => ?_)
          clear hK K
          refine norm_ (a' := ?_) ?_ ?_
          rotate_left
          · show Act.put _ (some 24) _ = _
            simp only [Act.put, List.setIfInBounds_toArray, List.set_cons_zero, List.set_cons_succ, i64_w, i32_w]
            rfl
          refine pure_ (i := 4) (N := some 25) (v := ?_) (a' := ?_) #[true, true, true, true, true, false, false, false, false, false, false, false, false, false, false, false, false, false, false, false] rfl rfl (any_of HT_.out (by kernel_rfl)) (fun _ _ _ h => h) (Or.inl ⟨by rfl, ?_⟩) ?_ ?_
          rotate_left
          · intro w'
            go_simp
            with_reducible rfl
          rotate_left
          · simp only [Act.put, List.setIfInBounds_toArray, List.set_cons_zero, List.set_cons_succ, i64_w, i32_w]
            rfl
          refine pure_ (i := 5) (N := some 26) (v := ?_) (a' := ?_) #[true, true, true, true, true, true, false, false, false, false, false, false, false, false, false, false, false, false, false, false] rfl rfl (any_of HT_.out (by kernel_rfl)) (fun _ _ _ h => h) (Or.inl ⟨by rfl, ?_⟩) ?_ ?_
          rotate_left
          · intro w'
            go_simp
            with_reducible rfl
          rotate_left
          · simp only [Act.put, List.setIfInBounds_toArray, List.set_cons_zero, List.set_cons_succ, i64_w, i32_w]
            rfl
          refine pure_ (i := 6) (N := some 27) (v := ?_) (a' := ?_) #[true, true, true, true, true, true, true, false, false, false, false, false, false, false, false, false, false, false, false, false] rfl rfl (any_of HT_.out (by kernel_rfl)) (fun _ _ _ h => h) (Or.inl ⟨by rfl, ?_⟩) ?_ ?_
          rotate_left
          · intro w'
            go_simp
            with_reducible rfl
          rotate_left
          · simp only [Act.put, List.setIfInBounds_toArray, List.set_cons_zero, List.set_cons_succ, i64_w, i32_w]
            rfl
          refine pure_ (i := 7) (N := some 28) (v := ?_) (a' := ?_) #[true, true, true, true, true, true, true, true, false, false, false, false, false, false, false, false, false, false, false, false] rfl rfl (any_of HT_.out (by kernel_rfl)) (fun _ _ _ h => h) (Or.inl ⟨by rfl, ?_⟩) ?_ ?_
          rotate_left
          · intro w'
            go_simp
            with_reducible rfl
          rotate_left
          · simp only [Act.put, List.setIfInBounds_toArray, List.set_cons_zero, List.set_cons_succ, i64_w, i32_w]
            rfl
          refine pure_ (i := 9) (N := some 30) (v := ?_) (a' := ?_) #[true, true, true, true, true, true, true, true, false, true, false, false, false, false, false, false, false, false, false, false] rfl rfl (any_of HT_.out (by kernel_rfl)) (fun _ _ _ h => h) (Or.inl ⟨by rfl, ?_⟩) ?_ ?_
          rotate_left
          · intro w'
            go_simp
            with_reducible rfl
          rotate_left
          · simp only [Act.put, List.setIfInBounds_toArray, List.set_cons_zero, List.set_cons_succ, i64_w, i32_w]
            rfl
          refine take_ (i := 8) (N := some 29) (v := ?_) (a' := ?_) #[true, true, true, true, true, true, true, true, true, true, false, false, false, false, false, false, false, false, false, false] rfl rfl (take_ofW HT_.out HW_.out (by kernel_rfl)) (fun _ _ _ h => h) (Or.inl ⟨by rfl, ?_⟩) hHeld ?_ ?_
          rotate_left
          · rintro w' ⟨s0, s1, s2, s3, s4, s5⟩
            go_simp
            with_reducible rfl
          rotate_left
          · simp only [Act.put, List.setIfInBounds_toArray, List.set_cons_zero, List.set_cons_succ, i64_w, i32_w]
            rfl
          refine take_ (i := 10) (N := some 31) (v := ?_) (a' := ?_) #[true, true, true, true, true, true, true, true, true, true, true, false, false, false, false, false, false, false, false, false] rfl rfl (take_ofW HT_.out HW_.out (by kernel_rfl)) (fun _ _ _ h => h) (Or.inl ⟨by rfl, ?_⟩) hHeld ?_ ?_
          rotate_left
          · rintro w' ⟨s0, s1, s2, s3, s4, s5⟩
            go_simp
            with_reducible rfl
          rotate_left
          · simp only [Act.put, List.setIfInBounds_toArray, List.set_cons_zero, List.set_cons_succ, i64_w, i32_w]
            rfl
          refine pure_ (i := 11) (N := some 32) (v := ?_) (a' := ?_) #[true, true, true, true, true, true, true, true, true, true, true, true, false, false, false, false, false, false, false, false] rfl rfl (any_of HT_.out (by kernel_rfl)) (fun _ _ _ h => h) (Or.inl ⟨by rfl, ?_⟩) ?_ ?_
          rotate_left
          · intro w'
            go_simp
            with_reducible rfl
          rotate_left
          · simp only [Act.put, List.setIfInBounds_toArray, List.set_cons_zero, List.set_cons_succ, i64_w, i32_w]
            rfl
          refine pure_ (i := 12) (N := some 33) (v := ?_) (a' := ?_) #[true, true, true, true, true, true, true, true, true, true, true, true, true, false, false, false, false, false, false, false] rfl rfl (any_of HT_.out (by kernel_rfl)) (fun _ _ _ h => h) (Or.inl ⟨by rfl, ?_⟩) ?_ ?_
          rotate_left
          · intro w'
            go_simp
            with_reducible rfl
          rotate_left
          · simp only [Act.put, List.setIfInBounds_toArray, List.set_cons_zero, List.set_cons_succ, i64_w, i32_w]
            rfl
          refine pure_ (i := 13) (N := some 34) (v := ?_) (a' := ?_) #[true, true, true, true, true, true, true, true, true, true, true, true, true, true, false, false, false, false, false, false] rfl rfl (any_of HT_.out (by kernel_rfl)) (fun _ _ _ h => h) (Or.inl ⟨by rfl, ?_⟩) ?_ ?_
          rotate_left
          · intro w'
            go_simp
            with_reducible rfl
          rotate_left
          · simp only [Act.put, List.setIfInBounds_toArray, List.set_cons_zero, List.set_cons_succ, i64_w, i32_w]
            rfl
          refine pure_ (i := 14) (N := some 35) (v := ?_) (a' := ?_) #[true, true, true, true, true, true, true, true, true, true, true, true, true, true, true, false, false, false, false, false] rfl rfl (any_of HT_.out (by kernel_rfl)) (fun _ _ _ h => h) (Or.inl ⟨by rfl, ?_⟩) ?_ ?_
          rotate_left
          · intro w'
            go_simp
            with_reducible rfl
          rotate_left
          · simp only [Act.put, List.setIfInBounds_toArray, List.set_cons_zero, List.set_cons_succ, i64_w, i32_w]
            rfl
          refine pure_ (i := 16) (N := some 37) (v := ?_) (a' := ?_) #[true, true, true, true, true, true, true, true, true, true, true, true, true, true, true, false, true, false, false, false] rfl rfl (any_of HT_.out (by kernel_rfl)) (fun _ _ _ h => h) (Or.inl ⟨by rfl, ?_⟩) ?_ ?_
          rotate_left
          · intro w'
            go_simp
            with_reducible rfl
          rotate_left
          · simp only [Act.put, List.setIfInBounds_toArray, List.set_cons_zero, List.set_cons_succ, i64_w, i32_w]
            rfl
          refine take_ (i := 15) (N := some 36) (v := ?_) (a' := ?_) #[true, true, true, true, true, true, true, true, true, true, true, true, true, true, true, true, true, false, false, false] rfl rfl (take_ofW HT_.out HW_.out (by kernel_rfl)) (fun _ _ _ h => h) (Or.inl ⟨by rfl, ?_⟩) hHeld ?_ ?_
          rotate_left
          · rintro w' ⟨s0, s1, s2, s3, s4, s5⟩
            go_simp
            with_reducible rfl
          rotate_left
          · simp only [Act.put, List.setIfInBounds_toArray, List.set_cons_zero, List.set_cons_succ, i64_w, i32_w]
            rfl
          refine take_ (i := 17) (N := some 38) (v := ?_) (a' := ?_) #[true, true, true, true, true, true, true, true, true, true, true, true, true, true, true, true, true, true, false, false] rfl rfl (take_ofW HT_.out HW_.out (by kernel_rfl)) (fun _ _ _ h => h) (Or.inl ⟨by rfl, ?_⟩) hHeld ?_ ?_
          rotate_left
          · rintro w' ⟨s0, s1, s2, s3, s4, s5⟩
            go_simp
            with_reducible rfl
          rotate_left
          · simp only [Act.put, List.setIfInBounds_toArray, List.set_cons_zero, List.set_cons_succ, i64_w, i32_w]
            rfl
          refine pure_ (i := 18) (N := some 39) (v := ?_) (a' := ?_) #[true, true, true, true, true, true, true, true, true, true, true, true, true, true, true, true, true, true, true, false] rfl rfl (any_of HT_.out (by kernel_rfl)) (fun _ _ _ h => h) (Or.inl ⟨by rfl, ?_⟩) ?_ ?_
          rotate_left
          · intro w'
            go_simp
            with_reducible rfl
          rotate_left
          · simp only [Act.put, List.setIfInBounds_toArray, List.set_cons_zero, List.set_cons_succ, i64_w, i32_w]
            rfl
          refine pure_ (i := 19) (N := some 40) (v := ?_) (a' := ?_) #[true, true, true, true, true, true, true, true, true, true, true, true, true, true, true, true, true, true, true, true] rfl rfl (any_of HT_.out (by kernel_rfl)) (fun _ _ _ h => h) (Or.inl ⟨by rfl, ?_⟩) ?_ ?_
          rotate_left
          · intro w'
            go_simp
            with_reducible rfl
          rotate_left
          · simp only [Act.put, List.setIfInBounds_toArray, List.set_cons_zero, List.set_cons_succ, i64_w, i32_w]
            rfl
          refine done_ (done_of HT_.out (by kernel_rfl)) ?_
          try go_wp2
          go_meet
          case rel => exact ⟨_, ((t410 != t400)), (by first | rfl | (simp; done) | (simp [*]; done)), H', ⟨by first | omega | exact Nat.le_refl _⟩, ⟨by (with_reducible repeat (first | apply RA_alloc | apply RA_drewN | apply RA_drew)); exact RA_mono HO399.out (fun _ hk => ⟨hk.1.1, ⟨hk.1.2.1, hk.1.2.2⟩⟩)⟩, ⟨by (with_reducible repeat (first | apply RA_alloc | apply RA_drewN | apply RA_drew)); exact RA_mono HO403.out (fun _ hk => ⟨hk.1.1, ⟨hk.1.2.1, hk.1.2.2⟩⟩)⟩, ⟨by (with_reducible repeat (first | apply RA_alloc | apply RA_drewN | apply RA_drew)); exact RA_mono HO408.out (fun _ hk => ⟨hk.1.1, ⟨hk.1.2.1, hk.1.2.2⟩⟩)⟩, ⟨by (with_reducible repeat (first | apply RA_alloc | apply RA_drewN | apply RA_drew)); exact RA_mono HO413.out (fun _ hk => ⟨hk.1.1, ⟨hk.1.2.1, hk.1.2.2⟩⟩)⟩, ⟨by (with_reducible repeat (first | refine blk_drewN ?_ _ | refine blk_drew ?_ | refine blk_alloc ?_ _)); exact BK404.out⟩, ⟨by (with_reducible repeat (first | refine blk_drewN ?_ _ | refine blk_drew ?_ | refine blk_alloc ?_ _)); exact BK409.out⟩, ⟨by (with_reducible repeat (first | refine blk_drewN ?_ _ | refine blk_drew ?_ | refine blk_alloc ?_ _)); exact BK414.out⟩, ⟨by repeat (first | (with_reducible first | exact HB.out | apply below_alloc | apply pw_below_drewN | apply below_drew1 | refine below_set ?_ GE404.out | refine below_set ?_ GE409.out | refine below_set ?_ GE414.out) | exact HB.out)⟩⟩
        · rw [if_neg c28] at H
          have c28b0 : (t405 == t400) = false := beq_eq_false_iff_ne.mpr c28
          have c28b1 : (t405 != t400) = true := bne_iff_ne.mpr c28
          have H' := Aside0.mk H
          clear H
          try go_wp2
          have n0_ : Aside0 (RA ((w21.setCell ⟨gb414, 0, none⟩ (.int .i64 t410)).setCell ⟨gb414, 1, none⟩ (.slice Ao25 t411.length co25)) w.heap.size (fun k_ => some k_ ≠ (.slice Ao14 t401.length co14 : Value).ownBlock ∧ some k_ ≠ (.slice Ao19 t406.length co19 : Value).ownBlock ∧ some k_ ≠ (.slice Ao25 t411.length co25 : Value).ownBlock) (.slice Ao10 t397.length co10) t397) := ⟨by (with_reducible repeat (first | apply RA_alloc | apply RA_drewN | apply RA_drew)); exact RA_mono (RA_far (p := ⟨gb414, 1, none⟩) (RA_far (p := ⟨gb414, 0, none⟩) (RA_types HO399.out BK414.out (by decide)) (fun _ hk => hk.2) (.int .i64 t410)) (fun _ hk => hk.2) (.slice Ao25 t411.length co25)) (fun _ hk => ⟨hk.1.1.1.2, ⟨hk.1.1.2, hk.1.2⟩⟩)⟩
          have n1_ : Aside0 (RA ((w21.setCell ⟨gb414, 0, none⟩ (.int .i64 t410)).setCell ⟨gb414, 1, none⟩ (.slice Ao25 t411.length co25)) w.heap.size (fun k_ => some k_ ≠ (.slice Ao10 t397.length co10 : Value).ownBlock ∧ some k_ ≠ (.slice Ao19 t406.length co19 : Value).ownBlock ∧ some k_ ≠ (.slice Ao25 t411.length co25 : Value).ownBlock) (.slice Ao14 t401.length co14) t401) := ⟨by (with_reducible repeat (first | apply RA_alloc | apply RA_drewN | apply RA_drew)); exact RA_mono (RA_far (p := ⟨gb414, 1, none⟩) (RA_far (p := ⟨gb414, 0, none⟩) (RA_types HO403.out BK414.out (by decide)) (fun _ hk => hk.2) (.int .i64 t410)) (fun _ hk => hk.2) (.slice Ao25 t411.length co25)) (fun _ hk => ⟨hk.1.1.1.2, ⟨hk.1.1.2, hk.1.2⟩⟩)⟩
          have n2_ : Aside0 (RA ((w21.setCell ⟨gb414, 0, none⟩ (.int .i64 t410)).setCell ⟨gb414, 1, none⟩ (.slice Ao25 t411.length co25)) w.heap.size (fun k_ => some k_ ≠ (.slice Ao10 t397.length co10 : Value).ownBlock ∧ some k_ ≠ (.slice Ao14 t401.length co14 : Value).ownBlock ∧ some k_ ≠ (.slice Ao25 t411.length co25 : Value).ownBlock) (.slice Ao19 t406.length co19) t406) := ⟨by (with_reducible repeat (first | apply RA_alloc | apply RA_drewN | apply RA_drew)); exact RA_mono (RA_far (p := ⟨gb414, 1, none⟩) (RA_far (p := ⟨gb414, 0, none⟩) (RA_types HO408.out BK414.out (by decide)) (fun _ hk => hk.2) (.int .i64 t410)) (fun _ hk => hk.2) (.slice Ao25 t411.length co25)) (fun _ hk => ⟨hk.1.1.1.2, ⟨hk.1.1.2, hk.1.2⟩⟩)⟩
          have n3_ : Aside0 (RA ((w21.setCell ⟨gb414, 0, none⟩ (.int .i64 t410)).setCell ⟨gb414, 1, none⟩ (.slice Ao25 t411.length co25)) w.heap.size (fun k_ => some k_ ≠ (.slice Ao10 t397.length co10 : Value).ownBlock ∧ some k_ ≠ (.slice Ao14 t401.length co14 : Value).ownBlock ∧ some k_ ≠ (.slice Ao19 t406.length co19 : Value).ownBlock) (.slice Ao25 t411.length co25) t411) := ⟨by (with_reducible repeat (first | apply RA_alloc | apply RA_drewN | apply RA_drew)); exact RA_mono (RA_far (p := ⟨gb414, 1, none⟩) (RA_far (p := ⟨gb414, 0, none⟩) (RA_types HO413.out BK414.out (by decide)) (fun _ hk => hk.2) (.int .i64 t410)) (fun _ hk => hk.2) (.slice Ao25 t411.length co25)) (fun _ hk => ⟨hk.1.1.1.2, ⟨hk.1.1.2, hk.1.2⟩⟩)⟩
          have n4_ : Aside0 (((w21.setCell ⟨gb414, 0, none⟩ (.int .i64 t410)).setCell ⟨gb414, 1, none⟩ (.slice Ao25 t411.length co25)).heap[gb404]? = some (.cells #[.int .i64 t400, .slice Ao14 t401.length co14] 27 (0, 0))) := ⟨by (with_reducible repeat (first | refine blk_drewN ?_ _ | refine blk_drew ?_ | refine blk_alloc ?_ _)); refine blk_far ?_ NB404_414.out _; (with_reducible repeat (first | refine blk_drewN ?_ _ | refine blk_drew ?_ | refine blk_alloc ?_ _)); refine blk_far ?_ NB404_414.out _; (with_reducible repeat (first | refine blk_drewN ?_ _ | refine blk_drew ?_ | refine blk_alloc ?_ _)); exact BK404.out⟩
          have n5_ : Aside0 (((w21.setCell ⟨gb414, 0, none⟩ (.int .i64 t410)).setCell ⟨gb414, 1, none⟩ (.slice Ao25 t411.length co25)).heap[gb409]? = some (.cells #[.int .i64 t405, .slice Ao19 t406.length co19] 27 (0, 0))) := ⟨by (with_reducible repeat (first | refine blk_drewN ?_ _ | refine blk_drew ?_ | refine blk_alloc ?_ _)); refine blk_far ?_ NB409_414.out _; (with_reducible repeat (first | refine blk_drewN ?_ _ | refine blk_drew ?_ | refine blk_alloc ?_ _)); refine blk_far ?_ NB409_414.out _; (with_reducible repeat (first | refine blk_drewN ?_ _ | refine blk_drew ?_ | refine blk_alloc ?_ _)); exact BK409.out⟩
          have n6_ : Aside0 (((w21.setCell ⟨gb414, 0, none⟩ (.int .i64 t410)).setCell ⟨gb414, 1, none⟩ (.slice Ao25 t411.length co25)).heap[gb414]? = some (.cells #[.int .i64 t410, .slice Ao25 t411.length co25] 27 (0, 0))) := ⟨by (with_reducible repeat (first | refine blk_drewN ?_ _ | refine blk_drew ?_ | refine blk_alloc ?_ _)); refine blk_put (cs := #[.int .i64 t410, .slice none 0 0]) ?_ 1 _ rfl; (with_reducible repeat (first | refine blk_drewN ?_ _ | refine blk_drew ?_ | refine blk_alloc ?_ _)); refine blk_put (cs := #[.int .i64 0, .slice none 0 0]) ?_ 0 _ rfl; (with_reducible repeat (first | refine blk_drewN ?_ _ | refine blk_drew ?_ | refine blk_alloc ?_ _)); exact BK414.out⟩
          have n7_ : Aside0 (Below w.heap.size w ((w21.setCell ⟨gb414, 0, none⟩ (.int .i64 t410)).setCell ⟨gb414, 1, none⟩ (.slice Ao25 t411.length co25))) := ⟨by repeat (first | (with_reducible first | exact HB.out | apply below_alloc | apply pw_below_drewN | apply below_drew1 | refine below_set ?_ GE404.out | refine below_set ?_ GE409.out | refine below_set ?_ GE414.out) | exact HB.out)⟩
          (try clear HO399)
          (try clear HO403)
          (try clear HO408)
          (try clear HO413)
          (try clear BK404)
          (try clear BK409)
          (try clear BK414)
          (try clear HB)
          generalize ((w21.setCell ⟨gb414, 0, none⟩ (.int .i64 t410)).setCell ⟨gb414, 1, none⟩ (.slice Ao25 t411.length co25)) = w32 at n0_ n1_ n2_ n3_ n4_ n5_ n6_ n7_ ⊢
          have HO399 := n0_
          have HO403 := n1_
          have HO408 := n2_
          have HO413 := n3_
          have BK404 := n4_
          have BK409 := n5_
          have BK414 := n6_
          have HB := n7_
          clear n0_ n1_ n2_ n3_ n4_ n5_ n6_ n7_
          have n0_ := Aside0.mk (RA_drew HO399.out)
          have n1_ := Aside0.mk (RA_drew HO403.out)
          have n2_ := Aside0.mk (RA_drew HO408.out)
          have n3_ := Aside0.mk (RA_drew HO413.out)
          have n4_ := Aside0.mk (blk_drew BK404.out)
          have n5_ := Aside0.mk (blk_drew BK409.out)
          have n6_ := Aside0.mk (blk_drew BK414.out)
          have n7_ := Aside0.mk (below_drew1 HB.out)
          clear HO399
          clear HO403
          clear HO408
          clear HO413
          clear BK404
          clear BK409
          clear BK414
          clear HB
          have HO399 := n0_
          have HO403 := n1_
          have HO408 := n2_
          have HO413 := n3_
          have BK404 := n4_
          have BK409 := n5_
          have BK414 := n6_
          have HB := n7_
          clear n0_ n1_ n2_ n3_ n4_ n5_ n6_ n7_
          refine start_ (n := 20) (S := fun w' => w'.cell? ⟨gb404, 0, none⟩ = some (.int .i64 t400) ∧ w'.cell? ⟨gb404, 1, none⟩ = some (.slice Ao14 t401.length co14) ∧ w'.cell? ⟨gb409, 0, none⟩ = some (.int .i64 t405) ∧ w'.cell? ⟨gb409, 1, none⟩ = some (.slice Ao19 t406.length co19)) (ds := []) #[false, false, false, false, false, false, false, false, false, false, false, false, false, false, false, false, false, false, false, false] (by kernel_rfl) rfl rfl ⟨(blk_cell BK404.out 0).trans rfl, (blk_cell BK404.out 1).trans rfl, (blk_cell BK409.out 0).trans rfl, (blk_cell BK409.out 1).trans rfl⟩ (fun hHeld => ?_); refine with_tabW laws_FnRows.tab7 laws_FnRows.bits7 (fun HT_ HW_ => ?_)
          generalize w32.drew = w33 at HO399 HO403 HO408 HO413 BK404 BK409 BK414 HB hHeld ⊢
          refine pure_ (i := 0) (N := some 21) (v := ?_) (a' := ?_) #[true, false, false, false, false, false, false, false, false, false, false, false, false, false, false, false, false, false, false, false] rfl rfl (any_of HT_.out (by kernel_rfl)) (fun _ _ _ h => h) (Or.inl ⟨by rfl, ?_⟩) ?_ ?_
          rotate_left
          · intro w'
            go_simp
            with_reducible rfl
          rotate_left
          · simp only [Act.put, List.setIfInBounds_toArray, List.set_cons_zero, List.set_cons_succ, i64_w, i32_w]
            rfl
          refine pure_ (i := 2) (N := some 23) (v := ?_) (a' := ?_) #[true, false, true, false, false, false, false, false, false, false, false, false, false, false, false, false, false, false, false, false] rfl rfl (any_of HT_.out (by kernel_rfl)) (fun _ _ _ h => h) (Or.inl ⟨by rfl, ?_⟩) ?_ ?_
          rotate_left
          · intro w'
            go_simp
            with_reducible rfl
          rotate_left
          · simp only [Act.put, List.setIfInBounds_toArray, List.set_cons_zero, List.set_cons_succ, i64_w, i32_w]
            rfl
          refine take_ (i := 1) (N := some 22) (v := ?_) (a' := ?_) #[true, true, true, false, false, false, false, false, false, false, false, false, false, false, false, false, false, false, false, false] rfl rfl (take_ofW HT_.out HW_.out (by kernel_rfl)) (fun _ _ _ h => h) (Or.inl ⟨by rfl, ?_⟩) hHeld ?_ ?_
          rotate_left
          · rintro w' ⟨s0, s1, s2, s3⟩
            go_simp
            with_reducible rfl
          rotate_left
          · simp only [Act.put, List.setIfInBounds_toArray, List.set_cons_zero, List.set_cons_succ, i64_w, i32_w]
            rfl
          refine one_ (i := 3) (N := some 24) #[true, true, true, true, false, false, false, false, false, false, false, false, false, false, false, false, false, false, false, false] rfl rfl (one_of HT_.out (by kernel_rfl)) (by decide) (fun K hK => ?_)
          refine goes_ Try.func24 (by kernel_rfl) rfl #[.slice Ao10 t397.length co10] (by rfl) rfl rfl (by (try simp only [List.map_toArray, List.map_cons, List.map_nil]); first | done | rfl | (simp only [List.length_drop, List.length_take]; rfl)) ?_
          with_reducible refine (spec_SubBytes.calls k _ _ t397 t415 t416 _ ?side1 ?side2 A26.out).mono ?_
          (case side1 => repeat (first | exact (RA_reads' HO399.out).2.2 | (with_reducible refine Kd.C_alloc ?_ _) | (with_reducible refine Kd.C_drewN ?_ _) | (with_reducible refine Kd.C_drew ?_)))
          (case side2 => exact (RA_reads' HO399.out).2.1)
          rintro e w34 ⟨v417, rfl, ho0, hb⟩; have ho0 := RA_of (by decide) ho0
          refine ⟨_, rfl, ?_⟩
          have n0_ := Aside0.mk (RA_elder' (by (with_reducible repeat (first | apply RA_alloc | apply RA_drewN | apply RA_drew)); exact HO399.out) (RA_base ho0) hb)
          have n1_ := Aside0.mk (RA_elder' (by (with_reducible repeat (first | apply RA_alloc | apply RA_drewN | apply RA_drew)); exact HO403.out) (RA_base ho0) hb)
          have n2_ := Aside0.mk (RA_elder' (by (with_reducible repeat (first | apply RA_alloc | apply RA_drewN | apply RA_drew)); exact HO408.out) (RA_base ho0) hb)
          have n3_ := Aside0.mk (RA_elder' (by (with_reducible repeat (first | apply RA_alloc | apply RA_drewN | apply RA_drew)); exact HO413.out) (RA_base ho0) hb)
          have n4_ := Aside0.mk (RA_lower (RA_new' (RA_new' (RA_new' (RA_new' ho0 (RA_lt (by (with_reducible repeat (first | apply RA_alloc | apply RA_drewN | apply RA_drew)); exact HO399.out))) (RA_lt (by (with_reducible repeat (first | apply RA_alloc | apply RA_drewN | apply RA_drew)); exact HO403.out))) (RA_lt (by (with_reducible repeat (first | apply RA_alloc | apply RA_drewN | apply RA_drew)); exact HO408.out))) (RA_lt (by (with_reducible repeat (first | apply RA_alloc | apply RA_drewN | apply RA_drew)); exact HO413.out))) (below_size (by repeat (first | (with_reducible first | exact HB.out | apply below_alloc | apply pw_below_drewN | apply below_drew1 | refine below_set ?_ GE404.out | refine below_set ?_ GE409.out | refine below_set ?_ GE414.out) | exact HB.out))))
          have n5_ := Aside0.mk (blk_below (g := gb404) (o := .cells #[.int .i64 t400, .slice Ao14 t401.length co14] 27 (0, 0)) (by (with_reducible repeat (first | refine blk_drewN ?_ _ | refine blk_drew ?_ | refine blk_alloc ?_ _)); exact BK404.out) hb)
          have n6_ := Aside0.mk (blk_below (g := gb409) (o := .cells #[.int .i64 t405, .slice Ao19 t406.length co19] 27 (0, 0)) (by (with_reducible repeat (first | refine blk_drewN ?_ _ | refine blk_drew ?_ | refine blk_alloc ?_ _)); exact BK409.out) hb)
          have n7_ := Aside0.mk (blk_below (g := gb414) (o := .cells #[.int .i64 t410, .slice Ao25 t411.length co25] 27 (0, 0)) (by (with_reducible repeat (first | refine blk_drewN ?_ _ | refine blk_drew ?_ | refine blk_alloc ?_ _)); exact BK414.out) hb)
          have n8_ := Aside0.mk (below_step (by repeat (first | (with_reducible first | exact HB.out | apply below_alloc | apply pw_below_drewN | apply below_drew1 | refine below_set ?_ GE404.out | refine below_set ?_ GE409.out | refine below_set ?_ GE414.out) | exact HB.out)) hb)
          clear HO399
          clear HO403
          clear HO408
          clear HO413
          clear BK404
          clear BK409
          clear BK414
          clear HB
          have HO399 := n0_
          have HO403 := n1_
          have HO408 := n2_
          have HO413 := n3_
          have HO418 := n4_
          have BK404 := n5_
          have BK409 := n6_
          have BK414 := n7_
          have HB := n8_
          clear n0_ n1_ n2_ n3_ n4_ n5_ n6_ n7_ n8_
          (try clear hb)
          (try clear hb2)
          (try clear hk)
          (try clear hi)
          (try clear ho0)
          refine hK.out _ _ ⟨(blk_cell BK404.out 0).trans rfl, (blk_cell BK404.out 1).trans rfl, (blk_cell BK409.out 0).trans rfl, (blk_cell BK409.out 1).trans rfl⟩ (fun hHeld => ?_)
          clear hK K
          refine norm_ (a' := ?_) ?_ ?_
          rotate_left
          · show Act.put _ (some 24) _ = _
            simp only [Act.put, List.setIfInBounds_toArray, List.set_cons_zero, List.set_cons_succ, i64_w, i32_w]
            rfl
          refine pure_ (i := 4) (N := some 25) (v := ?_) (a' := ?_) #[true, true, true, true, true, false, false, false, false, false, false, false, false, false, false, false, false, false, false, false] rfl rfl (any_of HT_.out (by kernel_rfl)) (fun _ _ _ h => h) (Or.inl ⟨by rfl, ?_⟩) ?_ ?_
          rotate_left
          · intro w'
            go_simp
            with_reducible rfl
          rotate_left
          · simp only [Act.put, List.setIfInBounds_toArray, List.set_cons_zero, List.set_cons_succ, i64_w, i32_w]
            rfl
          refine pure_ (i := 5) (N := some 26) (v := ?_) (a' := ?_) #[true, true, true, true, true, true, false, false, false, false, false, false, false, false, false, false, false, false, false, false] rfl rfl (any_of HT_.out (by kernel_rfl)) (fun _ _ _ h => h) (Or.inl ⟨by rfl, ?_⟩) ?_ ?_
          rotate_left
          · intro w'
            go_simp
            with_reducible rfl
          rotate_left
          · simp only [Act.put, List.setIfInBounds_toArray, List.set_cons_zero, List.set_cons_succ, i64_w, i32_w]
            rfl
          refine pure_ (i := 6) (N := some 27) (v := ?_) (a' := ?_) #[true, true, true, true, true, true, true, false, false, false, false, false, false, false, false, false, false, false, false, false] rfl rfl (any_of HT_.out (by kernel_rfl)) (fun _ _ _ h => h) (Or.inl ⟨by rfl, ?_⟩) ?_ ?_
          rotate_left
          · intro w'
            go_simp
            with_reducible rfl
          rotate_left
          · simp only [Act.put, List.setIfInBounds_toArray, List.set_cons_zero, List.set_cons_succ, i64_w, i32_w]
            rfl
          refine pure_ (i := 7) (N := some 28) (v := ?_) (a' := ?_) #[true, true, true, true, true, true, true, true, false, false, false, false, false, false, false, false, false, false, false, false] rfl rfl (any_of HT_.out (by kernel_rfl)) (fun _ _ _ h => h) (Or.inl ⟨by rfl, ?_⟩) ?_ ?_
          rotate_left
          · intro w'
            go_simp
            with_reducible rfl
          rotate_left
          · simp only [Act.put, List.setIfInBounds_toArray, List.set_cons_zero, List.set_cons_succ, i64_w, i32_w]
            rfl
          refine pure_ (i := 9) (N := some 30) (v := ?_) (a' := ?_) #[true, true, true, true, true, true, true, true, false, true, false, false, false, false, false, false, false, false, false, false] rfl rfl (any_of HT_.out (by kernel_rfl)) (fun _ _ _ h => h) (Or.inl ⟨by rfl, ?_⟩) ?_ ?_
          rotate_left
          · intro w'
            go_simp
            with_reducible rfl
          rotate_left
          · simp only [Act.put, List.setIfInBounds_toArray, List.set_cons_zero, List.set_cons_succ, i64_w, i32_w]
            rfl
          refine take_ (i := 8) (N := some 29) (v := ?_) (a' := ?_) #[true, true, true, true, true, true, true, true, true, true, false, false, false, false, false, false, false, false, false, false] rfl rfl (take_ofW HT_.out HW_.out (by kernel_rfl)) (fun _ _ _ h => h) (Or.inl ⟨by rfl, ?_⟩) hHeld ?_ ?_
          rotate_left
          · rintro w' ⟨s0, s1, s2, s3⟩
            go_simp
            with_reducible rfl
          rotate_left
          · simp only [Act.put, List.setIfInBounds_toArray, List.set_cons_zero, List.set_cons_succ, i64_w, i32_w]
            rfl
          refine take_ (i := 10) (N := some 31) (v := ?_) (a' := ?_) #[true, true, true, true, true, true, true, true, true, true, true, false, false, false, false, false, false, false, false, false] rfl rfl (take_ofW HT_.out HW_.out (by kernel_rfl)) (fun _ _ _ h => h) (Or.inl ⟨by rfl, ?_⟩) hHeld ?_ ?_
          rotate_left
          · rintro w' ⟨s0, s1, s2, s3⟩
            go_simp
            with_reducible rfl
          rotate_left
          · simp only [Act.put, List.setIfInBounds_toArray, List.set_cons_zero, List.set_cons_succ, i64_w, i32_w]
            rfl
          refine pure_ (i := 11) (N := some 32) (v := ?_) (a' := ?_) #[true, true, true, true, true, true, true, true, true, true, true, true, false, false, false, false, false, false, false, false] rfl rfl (any_of HT_.out (by kernel_rfl)) (fun _ _ _ h => h) (Or.inl ⟨by rfl, ?_⟩) ?_ ?_
          rotate_left
          · intro w'
            go_simp
            with_reducible rfl
          rotate_left
          · simp only [Act.put, List.setIfInBounds_toArray, List.set_cons_zero, List.set_cons_succ, i64_w, i32_w]
            rfl
          refine pure_ (i := 12) (N := some 33) (v := ?_) (a' := ?_) #[true, true, true, true, true, true, true, true, true, true, true, true, true, false, false, false, false, false, false, false] rfl rfl (any_of HT_.out (by kernel_rfl)) (fun _ _ _ h => h) (Or.inl ⟨by rfl, ?_⟩) ?_ ?_
          rotate_left
          · intro w'
            go_simp
            with_reducible rfl
          rotate_left
          · simp only [Act.put, List.setIfInBounds_toArray, List.set_cons_zero, List.set_cons_succ, i64_w, i32_w]
            rfl
          refine pure_ (i := 13) (N := some 34) (v := ?_) (a' := ?_) #[true, true, true, true, true, true, true, true, true, true, true, true, true, true, false, false, false, false, false, false] rfl rfl (any_of HT_.out (by kernel_rfl)) (fun _ _ _ h => h) (Or.inl ⟨by rfl, ?_⟩) ?_ ?_
          rotate_left
          · intro w'
            go_simp
            with_reducible rfl
          rotate_left
          · simp only [Act.put, List.setIfInBounds_toArray, List.set_cons_zero, List.set_cons_succ, i64_w, i32_w]
            rfl
          refine pure_ (i := 14) (N := some 35) (v := undef) (a' := ?_) #[true, true, true, true, true, true, true, true, true, true, true, true, true, true, true, false, false, false, false, false] rfl rfl (any_of HT_.out (by kernel_rfl)) (fun _ _ _ h => h) (Or.inr ⟨by rfl, rfl⟩) ?_ ?_
          rotate_left
          · simp only [Act.put, List.setIfInBounds_toArray, List.set_cons_zero, List.set_cons_succ, i64_w, i32_w]
            rfl
          refine pure_ (i := 15) (N := some 36) (v := undef) (a' := ?_) #[true, true, true, true, true, true, true, true, true, true, true, true, true, true, true, true, false, false, false, false] rfl rfl (any_of HT_.out (by kernel_rfl)) (fun _ _ _ h => h) (Or.inr ⟨by rfl, rfl⟩) ?_ ?_
          rotate_left
          · simp only [Act.put, List.setIfInBounds_toArray, List.set_cons_zero, List.set_cons_succ, i64_w, i32_w]
            rfl
          refine pure_ (i := 16) (N := some 37) (v := undef) (a' := ?_) #[true, true, true, true, true, true, true, true, true, true, true, true, true, true, true, true, true, false, false, false] rfl rfl (any_of HT_.out (by kernel_rfl)) (fun _ _ _ h => h) (Or.inr ⟨by rfl, rfl⟩) ?_ ?_
          rotate_left
          · simp only [Act.put, List.setIfInBounds_toArray, List.set_cons_zero, List.set_cons_succ, i64_w, i32_w]
            rfl
          refine pure_ (i := 17) (N := some 38) (v := undef) (a' := ?_) #[true, true, true, true, true, true, true, true, true, true, true, true, true, true, true, true, true, true, false, false] rfl rfl (any_of HT_.out (by kernel_rfl)) (fun _ _ _ h => h) (Or.inr ⟨by rfl, rfl⟩) ?_ ?_
          rotate_left
          · simp only [Act.put, List.setIfInBounds_toArray, List.set_cons_zero, List.set_cons_succ, i64_w, i32_w]
            rfl
          refine pure_ (i := 18) (N := some 39) (v := undef) (a' := ?_) #[true, true, true, true, true, true, true, true, true, true, true, true, true, true, true, true, true, true, true, false] rfl rfl (any_of HT_.out (by kernel_rfl)) (fun _ _ _ h => h) (Or.inr ⟨by rfl, rfl⟩) ?_ ?_
          rotate_left
          · simp only [Act.put, List.setIfInBounds_toArray, List.set_cons_zero, List.set_cons_succ, i64_w, i32_w]
            rfl
          refine pure_ (i := 19) (N := some 40) (v := ?_) (a' := ?_) #[true, true, true, true, true, true, true, true, true, true, true, true, true, true, true, true, true, true, true, true] rfl rfl (any_of HT_.out (by kernel_rfl)) (fun _ _ _ h => h) (Or.inl ⟨by rfl, ?_⟩) ?_ ?_
          rotate_left
          · intro w'
            go_simp
            with_reducible rfl
          rotate_left
          · simp only [Act.put, List.setIfInBounds_toArray, List.set_cons_zero, List.set_cons_succ, i64_w, i32_w]
            rfl
          refine done_ (done_of HT_.out (by kernel_rfl)) ?_
          try go_wp2
          go_meet
          case rel => exact ⟨_, (true), (by first | rfl | (simp; done) | (simp [*]; done)), H', ⟨by first | omega | exact Nat.le_refl _⟩, ⟨by (with_reducible repeat (first | apply RA_alloc | apply RA_drewN | apply RA_drew)); exact RA_mono HO399.out (fun _ hk => ⟨hk.1.1, ⟨hk.1.2.1, hk.1.2.2⟩⟩)⟩, ⟨by (with_reducible repeat (first | apply RA_alloc | apply RA_drewN | apply RA_drew)); exact RA_mono HO403.out (fun _ hk => ⟨hk.1.1, ⟨hk.1.2.1, hk.1.2.2⟩⟩)⟩, ⟨by (with_reducible repeat (first | apply RA_alloc | apply RA_drewN | apply RA_drew)); exact RA_mono HO408.out (fun _ hk => ⟨hk.1.1, ⟨hk.1.2.1, hk.1.2.2⟩⟩)⟩, ⟨by (with_reducible repeat (first | apply RA_alloc | apply RA_drewN | apply RA_drew)); exact RA_mono HO413.out (fun _ hk => ⟨hk.1.1, ⟨hk.1.2.1, hk.1.2.2⟩⟩)⟩, ⟨by (with_reducible repeat (first | refine blk_drewN ?_ _ | refine blk_drew ?_ | refine blk_alloc ?_ _)); exact BK404.out⟩, ⟨by (with_reducible repeat (first | refine blk_drewN ?_ _ | refine blk_drew ?_ | refine blk_alloc ?_ _)); exact BK409.out⟩, ⟨by (with_reducible repeat (first | refine blk_drewN ?_ _ | refine blk_drew ?_ | refine blk_alloc ?_ _)); exact BK414.out⟩, ⟨by repeat (first | (with_reducible first | exact HB.out | apply below_alloc | apply pw_below_drewN | apply below_drew1 | refine below_set ?_ GE404.out | refine below_set ?_ GE409.out | refine below_set ?_ GE414.out) | exact HB.out)⟩⟩
      · rw [if_neg c27] at H
        have c27b0 : (t400 == t415) = false := beq_eq_false_iff_ne.mpr c27
        have c27b1 : (t400 != t415) = true := bne_iff_ne.mpr c27
        (first | rw [c27b0] | (simp only [i64_w, i32_w]; rw [c27b0]) | skip)
        have H' := Aside0.mk H
        clear H
        try go_wp2
        have n0_ : Aside0 (RA ((w21.setCell ⟨gb414, 0, none⟩ (.int .i64 t410)).setCell ⟨gb414, 1, none⟩ (.slice Ao25 t411.length co25)) w.heap.size (fun k_ => some k_ ≠ (.slice Ao14 t401.length co14 : Value).ownBlock ∧ some k_ ≠ (.slice Ao19 t406.length co19 : Value).ownBlock ∧ some k_ ≠ (.slice Ao25 t411.length co25 : Value).ownBlock) (.slice Ao10 t397.length co10) t397) := ⟨by (with_reducible repeat (first | apply RA_alloc | apply RA_drewN | apply RA_drew)); exact RA_mono (RA_far (p := ⟨gb414, 1, none⟩) (RA_far (p := ⟨gb414, 0, none⟩) (RA_types HO399.out BK414.out (by decide)) (fun _ hk => hk.2) (.int .i64 t410)) (fun _ hk => hk.2) (.slice Ao25 t411.length co25)) (fun _ hk => ⟨hk.1.1.1.2, ⟨hk.1.1.2, hk.1.2⟩⟩)⟩
        have n1_ : Aside0 (RA ((w21.setCell ⟨gb414, 0, none⟩ (.int .i64 t410)).setCell ⟨gb414, 1, none⟩ (.slice Ao25 t411.length co25)) w.heap.size (fun k_ => some k_ ≠ (.slice Ao10 t397.length co10 : Value).ownBlock ∧ some k_ ≠ (.slice Ao19 t406.length co19 : Value).ownBlock ∧ some k_ ≠ (.slice Ao25 t411.length co25 : Value).ownBlock) (.slice Ao14 t401.length co14) t401) := ⟨by (with_reducible repeat (first | apply RA_alloc | apply RA_drewN | apply RA_drew)); exact RA_mono (RA_far (p := ⟨gb414, 1, none⟩) (RA_far (p := ⟨gb414, 0, none⟩) (RA_types HO403.out BK414.out (by decide)) (fun _ hk => hk.2) (.int .i64 t410)) (fun _ hk => hk.2) (.slice Ao25 t411.length co25)) (fun _ hk => ⟨hk.1.1.1.2, ⟨hk.1.1.2, hk.1.2⟩⟩)⟩
        have n2_ : Aside0 (RA ((w21.setCell ⟨gb414, 0, none⟩ (.int .i64 t410)).setCell ⟨gb414, 1, none⟩ (.slice Ao25 t411.length co25)) w.heap.size (fun k_ => some k_ ≠ (.slice Ao10 t397.length co10 : Value).ownBlock ∧ some k_ ≠ (.slice Ao14 t401.length co14 : Value).ownBlock ∧ some k_ ≠ (.slice Ao25 t411.length co25 : Value).ownBlock) (.slice Ao19 t406.length co19) t406) := ⟨by (with_reducible repeat (first | apply RA_alloc | apply RA_drewN | apply RA_drew)); exact RA_mono (RA_far (p := ⟨gb414, 1, none⟩) (RA_far (p := ⟨gb414, 0, none⟩) (RA_types HO408.out BK414.out (by decide)) (fun _ hk => hk.2) (.int .i64 t410)) (fun _ hk => hk.2) (.slice Ao25 t411.length co25)) (fun _ hk => ⟨hk.1.1.1.2, ⟨hk.1.1.2, hk.1.2⟩⟩)⟩
        have n3_ : Aside0 (RA ((w21.setCell ⟨gb414, 0, none⟩ (.int .i64 t410)).setCell ⟨gb414, 1, none⟩ (.slice Ao25 t411.length co25)) w.heap.size (fun k_ => some k_ ≠ (.slice Ao10 t397.length co10 : Value).ownBlock ∧ some k_ ≠ (.slice Ao14 t401.length co14 : Value).ownBlock ∧ some k_ ≠ (.slice Ao19 t406.length co19 : Value).ownBlock) (.slice Ao25 t411.length co25) t411) := ⟨by (with_reducible repeat (first | apply RA_alloc | apply RA_drewN | apply RA_drew)); exact RA_mono (RA_far (p := ⟨gb414, 1, none⟩) (RA_far (p := ⟨gb414, 0, none⟩) (RA_types HO413.out BK414.out (by decide)) (fun _ hk => hk.2) (.int .i64 t410)) (fun _ hk => hk.2) (.slice Ao25 t411.length co25)) (fun _ hk => ⟨hk.1.1.1.2, ⟨hk.1.1.2, hk.1.2⟩⟩)⟩
        have n4_ : Aside0 (((w21.setCell ⟨gb414, 0, none⟩ (.int .i64 t410)).setCell ⟨gb414, 1, none⟩ (.slice Ao25 t411.length co25)).heap[gb404]? = some (.cells #[.int .i64 t400, .slice Ao14 t401.length co14] 27 (0, 0))) := ⟨by (with_reducible repeat (first | refine blk_drewN ?_ _ | refine blk_drew ?_ | refine blk_alloc ?_ _)); refine blk_far ?_ NB404_414.out _; (with_reducible repeat (first | refine blk_drewN ?_ _ | refine blk_drew ?_ | refine blk_alloc ?_ _)); refine blk_far ?_ NB404_414.out _; (with_reducible repeat (first | refine blk_drewN ?_ _ | refine blk_drew ?_ | refine blk_alloc ?_ _)); exact BK404.out⟩
        have n5_ : Aside0 (((w21.setCell ⟨gb414, 0, none⟩ (.int .i64 t410)).setCell ⟨gb414, 1, none⟩ (.slice Ao25 t411.length co25)).heap[gb409]? = some (.cells #[.int .i64 t405, .slice Ao19 t406.length co19] 27 (0, 0))) := ⟨by (with_reducible repeat (first | refine blk_drewN ?_ _ | refine blk_drew ?_ | refine blk_alloc ?_ _)); refine blk_far ?_ NB409_414.out _; (with_reducible repeat (first | refine blk_drewN ?_ _ | refine blk_drew ?_ | refine blk_alloc ?_ _)); refine blk_far ?_ NB409_414.out _; (with_reducible repeat (first | refine blk_drewN ?_ _ | refine blk_drew ?_ | refine blk_alloc ?_ _)); exact BK409.out⟩
        have n6_ : Aside0 (((w21.setCell ⟨gb414, 0, none⟩ (.int .i64 t410)).setCell ⟨gb414, 1, none⟩ (.slice Ao25 t411.length co25)).heap[gb414]? = some (.cells #[.int .i64 t410, .slice Ao25 t411.length co25] 27 (0, 0))) := ⟨by (with_reducible repeat (first | refine blk_drewN ?_ _ | refine blk_drew ?_ | refine blk_alloc ?_ _)); refine blk_put (cs := #[.int .i64 t410, .slice none 0 0]) ?_ 1 _ rfl; (with_reducible repeat (first | refine blk_drewN ?_ _ | refine blk_drew ?_ | refine blk_alloc ?_ _)); refine blk_put (cs := #[.int .i64 0, .slice none 0 0]) ?_ 0 _ rfl; (with_reducible repeat (first | refine blk_drewN ?_ _ | refine blk_drew ?_ | refine blk_alloc ?_ _)); exact BK414.out⟩
        have n7_ : Aside0 (Below w.heap.size w ((w21.setCell ⟨gb414, 0, none⟩ (.int .i64 t410)).setCell ⟨gb414, 1, none⟩ (.slice Ao25 t411.length co25))) := ⟨by repeat (first | (with_reducible first | exact HB.out | apply below_alloc | apply pw_below_drewN | apply below_drew1 | refine below_set ?_ GE404.out | refine below_set ?_ GE409.out | refine below_set ?_ GE414.out) | exact HB.out)⟩
        (try clear HO399)
        (try clear HO403)
        (try clear HO408)
        (try clear HO413)
        (try clear BK404)
        (try clear BK409)
        (try clear BK414)
        (try clear HB)
        generalize ((w21.setCell ⟨gb414, 0, none⟩ (.int .i64 t410)).setCell ⟨gb414, 1, none⟩ (.slice Ao25 t411.length co25)) = w35 at n0_ n1_ n2_ n3_ n4_ n5_ n6_ n7_ ⊢
        have HO399 := n0_
        have HO403 := n1_
        have HO408 := n2_
        have HO413 := n3_
        have BK404 := n4_
        have BK409 := n5_
        have BK414 := n6_
        have HB := n7_
        clear n0_ n1_ n2_ n3_ n4_ n5_ n6_ n7_
        have n0_ := Aside0.mk (RA_drew HO399.out)
        have n1_ := Aside0.mk (RA_drew HO403.out)
        have n2_ := Aside0.mk (RA_drew HO408.out)
        have n3_ := Aside0.mk (RA_drew HO413.out)
        have n4_ := Aside0.mk (blk_drew BK404.out)
        have n5_ := Aside0.mk (blk_drew BK409.out)
        have n6_ := Aside0.mk (blk_drew BK414.out)
        have n7_ := Aside0.mk (below_drew1 HB.out)
        clear HO399
        clear HO403
        clear HO408
        clear HO413
        clear BK404
        clear BK409
        clear BK414
        clear HB
        have HO399 := n0_
        have HO403 := n1_
        have HO408 := n2_
        have HO413 := n3_
        have BK404 := n4_
        have BK409 := n5_
        have BK414 := n6_
        have HB := n7_
        clear n0_ n1_ n2_ n3_ n4_ n5_ n6_ n7_
        refine start_ (n := 20) (S := fun w' => w'.cell? ⟨gb404, 0, none⟩ = some (.int .i64 t400) ∧ w'.cell? ⟨gb404, 1, none⟩ = some (.slice Ao14 t401.length co14)) (ds := []) #[false, false, false, false, false, false, false, false, false, false, false, false, false, false, false, false, false, false, false, false] (by kernel_rfl) rfl rfl ⟨(blk_cell BK404.out 0).trans rfl, (blk_cell BK404.out 1).trans rfl⟩ (fun hHeld => ?_); refine with_tabW laws_FnRows.tab7 laws_FnRows.bits7 (fun HT_ HW_ => ?_)
        generalize w35.drew = w36 at HO399 HO403 HO408 HO413 BK404 BK409 BK414 HB hHeld ⊢
        refine pure_ (i := 0) (N := some 21) (v := ?_) (a' := ?_) #[true, false, false, false, false, false, false, false, false, false, false, false, false, false, false, false, false, false, false, false] rfl rfl (any_of HT_.out (by kernel_rfl)) (fun _ _ _ h => h) (Or.inl ⟨by rfl, ?_⟩) ?_ ?_
        rotate_left
        · intro w'
          go_simp
          with_reducible rfl
        rotate_left
        · simp only [Act.put, List.setIfInBounds_toArray, List.set_cons_zero, List.set_cons_succ, i64_w, i32_w]
          rfl
        refine pure_ (i := 2) (N := some 23) (v := ?_) (a' := ?_) #[true, false, true, false, false, false, false, false, false, false, false, false, false, false, false, false, false, false, false, false] rfl rfl (any_of HT_.out (by kernel_rfl)) (fun _ _ _ h => h) (Or.inl ⟨by rfl, ?_⟩) ?_ ?_
        rotate_left
        · intro w'
          go_simp
          with_reducible rfl
        rotate_left
        · simp only [Act.put, List.setIfInBounds_toArray, List.set_cons_zero, List.set_cons_succ, i64_w, i32_w]
          rfl
        refine take_ (i := 1) (N := some 22) (v := ?_) (a' := ?_) #[true, true, true, false, false, false, false, false, false, false, false, false, false, false, false, false, false, false, false, false] rfl rfl (take_ofW HT_.out HW_.out (by kernel_rfl)) (fun _ _ _ h => h) (Or.inl ⟨by rfl, ?_⟩) hHeld ?_ ?_
        rotate_left
        · rintro w' ⟨s0, s1⟩
          go_simp
          with_reducible rfl
        rotate_left
        · simp only [Act.put, List.setIfInBounds_toArray, List.set_cons_zero, List.set_cons_succ, i64_w, i32_w]
          rfl
        refine one_ (i := 3) (N := some 24) #[true, true, true, true, false, false, false, false, false, false, false, false, false, false, false, false, false, false, false, false] rfl rfl (one_of HT_.out (by kernel_rfl)) (by decide) (fun K hK => ?_)
        refine goes_ Try.func24 (by kernel_rfl) rfl #[.slice Ao10 t397.length co10] (by rfl) rfl rfl (by (try simp only [List.map_toArray, List.map_cons, List.map_nil]); first | done | rfl | (simp only [List.length_drop, List.length_take]; rfl)) ?_
        with_reducible refine (spec_SubBytes.calls k _ _ t397 t415 t416 _ ?side1 ?side2 A26.out).mono ?_
        (case side1 => repeat (first | exact (RA_reads' HO399.out).2.2 | (with_reducible refine Kd.C_alloc ?_ _) | (with_reducible refine Kd.C_drewN ?_ _) | (with_reducible refine Kd.C_drew ?_)))
        (case side2 => exact (RA_reads' HO399.out).2.1)
        rintro e w37 ⟨v417, rfl, ho0, hb⟩; have ho0 := RA_of (by decide) ho0
        refine ⟨_, rfl, ?_⟩
        have n0_ := Aside0.mk (RA_elder' (by (with_reducible repeat (first | apply RA_alloc | apply RA_drewN | apply RA_drew)); exact HO399.out) (RA_base ho0) hb)
        have n1_ := Aside0.mk (RA_elder' (by (with_reducible repeat (first | apply RA_alloc | apply RA_drewN | apply RA_drew)); exact HO403.out) (RA_base ho0) hb)
        have n2_ := Aside0.mk (RA_elder' (by (with_reducible repeat (first | apply RA_alloc | apply RA_drewN | apply RA_drew)); exact HO408.out) (RA_base ho0) hb)
        have n3_ := Aside0.mk (RA_elder' (by (with_reducible repeat (first | apply RA_alloc | apply RA_drewN | apply RA_drew)); exact HO413.out) (RA_base ho0) hb)
        have n4_ := Aside0.mk (RA_lower (RA_new' (RA_new' (RA_new' (RA_new' ho0 (RA_lt (by (with_reducible repeat (first | apply RA_alloc | apply RA_drewN | apply RA_drew)); exact HO399.out))) (RA_lt (by (with_reducible repeat (first | apply RA_alloc | apply RA_drewN | apply RA_drew)); exact HO403.out))) (RA_lt (by (with_reducible repeat (first | apply RA_alloc | apply RA_drewN | apply RA_drew)); exact HO408.out))) (RA_lt (by (with_reducible repeat (first | apply RA_alloc | apply RA_drewN | apply RA_drew)); exact HO413.out))) (below_size (by repeat (first | (with_reducible first | exact HB.out | apply below_alloc | apply pw_below_drewN | apply below_drew1 | refine below_set ?_ GE404.out | refine below_set ?_ GE409.out | refine below_set ?_ GE414.out) | exact HB.out))))
        have n5_ := Aside0.mk (blk_below (g := gb404) (o := .cells #[.int .i64 t400, .slice Ao14 t401.length co14] 27 (0, 0)) (by (with_reducible repeat (first | refine blk_drewN ?_ _ | refine blk_drew ?_ | refine blk_alloc ?_ _)); exact BK404.out) hb)
        have n6_ := Aside0.mk (blk_below (g := gb409) (o := .cells #[.int .i64 t405, .slice Ao19 t406.length co19] 27 (0, 0)) (by (with_reducible repeat (first | refine blk_drewN ?_ _ | refine blk_drew ?_ | refine blk_alloc ?_ _)); exact BK409.out) hb)
        have n7_ := Aside0.mk (blk_below (g := gb414) (o := .cells #[.int .i64 t410, .slice Ao25 t411.length co25] 27 (0, 0)) (by (with_reducible repeat (first | refine blk_drewN ?_ _ | refine blk_drew ?_ | refine blk_alloc ?_ _)); exact BK414.out) hb)
        have n8_ := Aside0.mk (below_step (by repeat (first | (with_reducible first | exact HB.out | apply below_alloc | apply pw_below_drewN | apply below_drew1 | refine below_set ?_ GE404.out | refine below_set ?_ GE409.out | refine below_set ?_ GE414.out) | exact HB.out)) hb)
        clear HO399
        clear HO403
        clear HO408
        clear HO413
        clear BK404
        clear BK409
        clear BK414
        clear HB
        have HO399 := n0_
        have HO403 := n1_
        have HO408 := n2_
        have HO413 := n3_
        have HO418 := n4_
        have BK404 := n5_
        have BK409 := n6_
        have BK414 := n7_
        have HB := n8_
        clear n0_ n1_ n2_ n3_ n4_ n5_ n6_ n7_ n8_
        (try clear hb)
        (try clear hb2)
        (try clear hk)
        (try clear hi)
        (try clear ho0)
        refine hK.out _ _ ⟨(blk_cell BK404.out 0).trans rfl, (blk_cell BK404.out 1).trans rfl⟩ (fun hHeld => ?_)
        clear hK K
        refine norm_ (a' := ?_) ?_ ?_
        rotate_left
        · show Act.put _ (some 24) _ = _
          simp only [Act.put, List.setIfInBounds_toArray, List.set_cons_zero, List.set_cons_succ, i64_w, i32_w]
          rfl
        refine pure_ (i := 4) (N := some 25) (v := ?_) (a' := ?_) #[true, true, true, true, true, false, false, false, false, false, false, false, false, false, false, false, false, false, false, false] rfl rfl (any_of HT_.out (by kernel_rfl)) (fun _ _ _ h => h) (Or.inl ⟨by rfl, ?_⟩) ?_ ?_
        rotate_left
        · intro w'
          go_simp
          with_reducible rfl
        rotate_left
        · simp only [Act.put, List.setIfInBounds_toArray, List.set_cons_zero, List.set_cons_succ, i64_w, i32_w]
          rfl
        refine pure_ (i := 5) (N := some 26) (v := ?_) (a' := ?_) #[true, true, true, true, true, true, false, false, false, false, false, false, false, false, false, false, false, false, false, false] rfl rfl (any_of HT_.out (by kernel_rfl)) (fun _ _ _ h => h) (Or.inl ⟨by rfl, ?_⟩) ?_ ?_
        rotate_left
        · intro w'
          go_simp
          with_reducible rfl
        rotate_left
        · simp only [Act.put, List.setIfInBounds_toArray, List.set_cons_zero, List.set_cons_succ, i64_w, i32_w]
          rfl
        refine pure_ (i := 6) (N := some 27) (v := ?_) (a' := ?_) #[true, true, true, true, true, true, true, false, false, false, false, false, false, false, false, false, false, false, false, false] rfl rfl (any_of HT_.out (by kernel_rfl)) (fun _ _ _ h => h) (Or.inl ⟨by rfl, ?_⟩) ?_ ?_
        rotate_left
        · intro w'
          go_simp
          with_reducible rfl
        rotate_left
        · simp only [Act.put, List.setIfInBounds_toArray, List.set_cons_zero, List.set_cons_succ, i64_w, i32_w]
          rfl
        refine pure_ (i := 7) (N := some 28) (v := undef) (a' := ?_) #[true, true, true, true, true, true, true, true, false, false, false, false, false, false, false, false, false, false, false, false] rfl rfl (any_of HT_.out (by kernel_rfl)) (fun _ _ _ h => h) (Or.inr ⟨by rfl, rfl⟩) ?_ ?_
        rotate_left
        · simp only [Act.put, List.setIfInBounds_toArray, List.set_cons_zero, List.set_cons_succ, i64_w, i32_w]
          rfl
        refine pure_ (i := 8) (N := some 29) (v := undef) (a' := ?_) #[true, true, true, true, true, true, true, true, true, false, false, false, false, false, false, false, false, false, false, false] rfl rfl (any_of HT_.out (by kernel_rfl)) (fun _ _ _ h => h) (Or.inr ⟨by rfl, rfl⟩) ?_ ?_
        rotate_left
        · simp only [Act.put, List.setIfInBounds_toArray, List.set_cons_zero, List.set_cons_succ, i64_w, i32_w]
          rfl
        refine pure_ (i := 9) (N := some 30) (v := undef) (a' := ?_) #[true, true, true, true, true, true, true, true, true, true, false, false, false, false, false, false, false, false, false, false] rfl rfl (any_of HT_.out (by kernel_rfl)) (fun _ _ _ h => h) (Or.inr ⟨by rfl, rfl⟩) ?_ ?_
        rotate_left
        · simp only [Act.put, List.setIfInBounds_toArray, List.set_cons_zero, List.set_cons_succ, i64_w, i32_w]
          rfl
        refine pure_ (i := 10) (N := some 31) (v := undef) (a' := ?_) #[true, true, true, true, true, true, true, true, true, true, true, false, false, false, false, false, false, false, false, false] rfl rfl (any_of HT_.out (by kernel_rfl)) (fun _ _ _ h => h) (Or.inr ⟨by rfl, rfl⟩) ?_ ?_
        rotate_left
        · simp only [Act.put, List.setIfInBounds_toArray, List.set_cons_zero, List.set_cons_succ, i64_w, i32_w]
          rfl
        refine pure_ (i := 11) (N := some 32) (v := undef) (a' := ?_) #[true, true, true, true, true, true, true, true, true, true, true, true, false, false, false, false, false, false, false, false] rfl rfl (any_of HT_.out (by kernel_rfl)) (fun _ _ _ h => h) (Or.inr ⟨by rfl, rfl⟩) ?_ ?_
        rotate_left
        · simp only [Act.put, List.setIfInBounds_toArray, List.set_cons_zero, List.set_cons_succ, i64_w, i32_w]
          rfl
        refine pure_ (i := 12) (N := some 33) (v := ?_) (a' := ?_) #[true, true, true, true, true, true, true, true, true, true, true, true, true, false, false, false, false, false, false, false] rfl rfl (any_of HT_.out (by kernel_rfl)) (fun _ _ _ h => h) (Or.inl ⟨by rfl, ?_⟩) ?_ ?_
        rotate_left
        · intro w'
          go_simp
          with_reducible rfl
        rotate_left
        · simp only [Act.put, List.setIfInBounds_toArray, List.set_cons_zero, List.set_cons_succ, i64_w, i32_w]
          rfl
        refine pure_ (i := 13) (N := some 34) (v := ?_) (a' := ?_) #[true, true, true, true, true, true, true, true, true, true, true, true, true, true, false, false, false, false, false, false] rfl rfl (any_of HT_.out (by kernel_rfl)) (fun _ _ _ h => h) (Or.inl ⟨by rfl, ?_⟩) ?_ ?_
        rotate_left
        · intro w'
          go_simp
          with_reducible rfl
        rotate_left
        · simp only [Act.put, List.setIfInBounds_toArray, List.set_cons_zero, List.set_cons_succ, i64_w, i32_w]
          rfl
        refine pure_ (i := 14) (N := some 35) (v := undef) (a' := ?_) #[true, true, true, true, true, true, true, true, true, true, true, true, true, true, true, false, false, false, false, false] rfl rfl (any_of HT_.out (by kernel_rfl)) (fun _ _ _ h => h) (Or.inr ⟨by rfl, rfl⟩) ?_ ?_
        rotate_left
        · simp only [Act.put, List.setIfInBounds_toArray, List.set_cons_zero, List.set_cons_succ, i64_w, i32_w]
          rfl
        refine pure_ (i := 15) (N := some 36) (v := undef) (a' := ?_) #[true, true, true, true, true, true, true, true, true, true, true, true, true, true, true, true, false, false, false, false] rfl rfl (any_of HT_.out (by kernel_rfl)) (fun _ _ _ h => h) (Or.inr ⟨by rfl, rfl⟩) ?_ ?_
        rotate_left
        · simp only [Act.put, List.setIfInBounds_toArray, List.set_cons_zero, List.set_cons_succ, i64_w, i32_w]
          rfl
        refine pure_ (i := 16) (N := some 37) (v := undef) (a' := ?_) #[true, true, true, true, true, true, true, true, true, true, true, true, true, true, true, true, true, false, false, false] rfl rfl (any_of HT_.out (by kernel_rfl)) (fun _ _ _ h => h) (Or.inr ⟨by rfl, rfl⟩) ?_ ?_
        rotate_left
        · simp only [Act.put, List.setIfInBounds_toArray, List.set_cons_zero, List.set_cons_succ, i64_w, i32_w]
          rfl
        refine pure_ (i := 17) (N := some 38) (v := undef) (a' := ?_) #[true, true, true, true, true, true, true, true, true, true, true, true, true, true, true, true, true, true, false, false] rfl rfl (any_of HT_.out (by kernel_rfl)) (fun _ _ _ h => h) (Or.inr ⟨by rfl, rfl⟩) ?_ ?_
        rotate_left
        · simp only [Act.put, List.setIfInBounds_toArray, List.set_cons_zero, List.set_cons_succ, i64_w, i32_w]
          rfl
        refine pure_ (i := 18) (N := some 39) (v := undef) (a' := ?_) #[true, true, true, true, true, true, true, true, true, true, true, true, true, true, true, true, true, true, true, false] rfl rfl (any_of HT_.out (by kernel_rfl)) (fun _ _ _ h => h) (Or.inr ⟨by rfl, rfl⟩) ?_ ?_
        rotate_left
        · simp only [Act.put, List.setIfInBounds_toArray, List.set_cons_zero, List.set_cons_succ, i64_w, i32_w]
          rfl
        refine pure_ (i := 19) (N := some 40) (v := ?_) (a' := ?_) #[true, true, true, true, true, true, true, true, true, true, true, true, true, true, true, true, true, true, true, true] rfl rfl (any_of HT_.out (by kernel_rfl)) (fun _ _ _ h => h) (Or.inl ⟨by rfl, ?_⟩) ?_ ?_
        rotate_left
        · intro w'
          go_simp
          with_reducible rfl
        rotate_left
        · simp only [Act.put, List.setIfInBounds_toArray, List.set_cons_zero, List.set_cons_succ, i64_w, i32_w]
          rfl
        refine done_ (done_of HT_.out (by kernel_rfl)) ?_
        try go_wp2
        go_meet
        case rel => exact ⟨_, (true), (by first | rfl | (simp; done) | (simp [*]; done)), H', ⟨by first | omega | exact Nat.le_refl _⟩, ⟨by (with_reducible repeat (first | apply RA_alloc | apply RA_drewN | apply RA_drew)); exact RA_mono HO399.out (fun _ hk => ⟨hk.1.1, ⟨hk.1.2.1, hk.1.2.2⟩⟩)⟩, ⟨by (with_reducible repeat (first | apply RA_alloc | apply RA_drewN | apply RA_drew)); exact RA_mono HO403.out (fun _ hk => ⟨hk.1.1, ⟨hk.1.2.1, hk.1.2.2⟩⟩)⟩, ⟨by (with_reducible repeat (first | apply RA_alloc | apply RA_drewN | apply RA_drew)); exact RA_mono HO408.out (fun _ hk => ⟨hk.1.1, ⟨hk.1.2.1, hk.1.2.2⟩⟩)⟩, ⟨by (with_reducible repeat (first | apply RA_alloc | apply RA_drewN | apply RA_drew)); exact RA_mono HO413.out (fun _ hk => ⟨hk.1.1, ⟨hk.1.2.1, hk.1.2.2⟩⟩)⟩, ⟨by (with_reducible repeat (first | refine blk_drewN ?_ _ | refine blk_drew ?_ | refine blk_alloc ?_ _)); exact BK404.out⟩, ⟨by (with_reducible repeat (first | refine blk_drewN ?_ _ | refine blk_drew ?_ | refine blk_alloc ?_ _)); exact BK409.out⟩, ⟨by (with_reducible repeat (first | refine blk_drewN ?_ _ | refine blk_drew ?_ | refine blk_alloc ?_ _)); exact BK414.out⟩, ⟨by repeat (first | (with_reducible first | exact HB.out | apply below_alloc | apply pw_below_drewN | apply below_drew1 | refine below_set ?_ GE404.out | refine below_set ?_ GE409.out | refine below_set ?_ GE414.out) | exact HB.out)⟩⟩
    case rest =>
      clear HC8
      try clear c2
      try clear p2
      try clear c24
      try clear c27
      try clear c27b0
      try clear c27b1
      try clear c28
      try clear c28b0
      try clear c28b1
      obtain ⟨kq, x40_7, rfl, HA, HJ7, HO_3, HO_405001, HO_410001, HO_415001, BK404, BK409, BK414, HB⟩ := hcut
      cases kq with
      | zero => exact absurd HA.out (by simp [laws_FnRows.j0])
      | succ kj7 =>
        have H := HA.out
        clear HA
        simp only [laws_FnRows.j0] at H
        by_cases c38 : x40_7 = true
        · subst c38
          have H1 : (some false) = some r := by rw [if_pos rfl] at H; exact H
          clear H
          have H := H1
          clear H1
          obtain rfl := Option.some.inj H
          go_wp2
          go_ret
          exact ⟨by first | rfl | (simp [errW_none, errW_some] <;> rfl) | (simp [*, errW_none, errW_some] <;> rfl), by repeat (first | (with_reducible first | exact HB.out | apply below_alloc | apply pw_below_drewN | apply below_drew1 | refine below_set ?_ GE404.out | refine below_set ?_ GE409.out | refine below_set ?_ GE414.out) | exact HB.out)⟩
        · replace c38 := Bool.eq_false_iff.mpr c38
          subst c38
          have H1 : (if t400 = 0 then (laws_FnRows.l0 kj7 t397 t397 t397 0 t400 t401 t405 t406 t410 t411) else (some true)) = some r := by rw [if_neg (show ¬ (false = true) by decide)] at H; exact H
          clear H
          have H := H1
          clear H1
          by_cases c39 : t400 = 0
          · rw [if_pos c39] at H
            have c39b0 : (t400 == 0) = true := beq_iff_eq.mpr c39
            have c39b1 : (t400 != 0) = false := bne_eq_false_iff_eq.mpr c39
            clear c39
            have H' := Aside0.mk H
            clear H
            have hnb40 := NB404_409.out
            have hnc40 := NB409_404.out
            have hnb41 := NB404_414.out
            have hnc41 := NB414_404.out
            have hcz42_0 : wc.cell? ⟨gb404, 0, none⟩ = some (.int .i64 t400) := (blk_cell BK404.out 0).trans rfl
            have hcz42_1 : wc.cell? ⟨gb404, 1, none⟩ = some (.slice Ao14 t401.length co14) := (blk_cell BK404.out 1).trans rfl
            have hfz42_0 := blk_frozen BK404.out 0
            have hfz42_1 := blk_frozen BK404.out 1
            go_wp2
            go_loopg [7, 8, 9] kj7 (fun kq v7 v8 v9 w' => ∃ (x7_2 : List Int) (x8_2 : List Int) (x9_2 : Int), v9 = .int .i64 x9_2 ∧ Aside0 (laws_FnRows.l0 kq t397 x7_2 x8_2 x9_2 t400 t401 t405 t406 t410 t411 = some r) ∧ Aside0 (kq ≤ kj7) ∧ Aside0 (RA w' w.heap.size (fun k_ => some k_ ≠ ((.slice Ao14 t401.length co14) : Value).ownBlock ∧ some k_ ≠ ((.slice Ao19 t406.length co19) : Value).ownBlock ∧ some k_ ≠ ((.slice Ao25 t411.length co25) : Value).ownBlock) (.slice Ao10 t397.length co10) t397) ∧ Aside0 (RA w' w.heap.size (fun k_ => some k_ ≠ ((.slice Ao14 t401.length co14) : Value).ownBlock ∧ some k_ ≠ ((.slice Ao19 t406.length co19) : Value).ownBlock ∧ some k_ ≠ ((.slice Ao25 t411.length co25) : Value).ownBlock) v7 x7_2) ∧ Aside0 (RA w' w.heap.size (fun k_ => some k_ ≠ ((.slice Ao14 t401.length co14) : Value).ownBlock ∧ some k_ ≠ ((.slice Ao19 t406.length co19) : Value).ownBlock ∧ some k_ ≠ ((.slice Ao25 t411.length co25) : Value).ownBlock) v8 x8_2) ∧ Aside0 (RA w' w.heap.size (fun k_ => some k_ ≠ ((.slice Ao10 t397.length co10) : Value).ownBlock ∧ some k_ ≠ (v7 : Value).ownBlock ∧ some k_ ≠ (v8 : Value).ownBlock ∧ some k_ ≠ ((.slice Ao19 t406.length co19) : Value).ownBlock ∧ some k_ ≠ ((.slice Ao25 t411.length co25) : Value).ownBlock) (.slice Ao14 t401.length co14) t401) ∧ Aside0 (RA w' w.heap.size (fun k_ => some k_ ≠ ((.slice Ao10 t397.length co10) : Value).ownBlock ∧ some k_ ≠ (v7 : Value).ownBlock ∧ some k_ ≠ (v8 : Value).ownBlock ∧ some k_ ≠ ((.slice Ao14 t401.length co14) : Value).ownBlock ∧ some k_ ≠ ((.slice Ao25 t411.length co25) : Value).ownBlock) (.slice Ao19 t406.length co19) t406) ∧ Aside0 (RA w' w.heap.size (fun k_ => some k_ ≠ ((.slice Ao10 t397.length co10) : Value).ownBlock ∧ some k_ ≠ (v7 : Value).ownBlock ∧ some k_ ≠ (v8 : Value).ownBlock ∧ some k_ ≠ ((.slice Ao14 t401.length co14) : Value).ownBlock ∧ some k_ ≠ ((.slice Ao19 t406.length co19) : Value).ownBlock) (.slice Ao25 t411.length co25) t411) ∧ Aside0 (w'.heap[gb404]? = some (.cells #[.int .i64 t400, (.slice Ao14 t401.length co14)] 27 (0, 0))) ∧ Aside0 (w'.heap[gb409]? = some (.cells #[.int .i64 t405, (.slice Ao19 t406.length co19)] 27 (0, 0))) ∧ Aside0 (w'.heap[gb414]? = some (.cells #[.int .i64 t410, (.slice Ao25 t411.length co25)] 27 (0, 0))) ∧ Aside0 (Below w.heap.size w w'))
            case atStart => exact ⟨(t397), (t397), (0), (by first | rfl | (simp; done) | (simp [*]; done)), H', ⟨Nat.le_refl _⟩, ⟨by (with_reducible repeat (first | apply RA_alloc | apply RA_drewN | apply RA_drew)); exact HO_3.out⟩, ⟨by (with_reducible repeat (first | apply RA_alloc | apply RA_drewN | apply RA_drew)); exact HO_3.out⟩, ⟨by (with_reducible repeat (first | apply RA_alloc | apply RA_drewN | apply RA_drew)); exact HO_3.out⟩, ⟨by (with_reducible repeat (first | apply RA_alloc | apply RA_drewN | apply RA_drew)); exact RA_mono HO_405001.out (fun _ hk => ⟨hk.1, ⟨hk.1, ⟨hk.1, ⟨hk.2.1, hk.2.2⟩⟩⟩⟩)⟩, ⟨by (with_reducible repeat (first | apply RA_alloc | apply RA_drewN | apply RA_drew)); exact RA_mono HO_410001.out (fun _ hk => ⟨hk.1, ⟨hk.1, ⟨hk.1, ⟨hk.2.1, hk.2.2⟩⟩⟩⟩)⟩, ⟨by (with_reducible repeat (first | apply RA_alloc | apply RA_drewN | apply RA_drew)); exact RA_mono HO_415001.out (fun _ hk => ⟨hk.1, ⟨hk.1, ⟨hk.1, ⟨hk.2.1, hk.2.2⟩⟩⟩⟩)⟩, ⟨by (with_reducible repeat (first | refine blk_drewN ?_ _ | refine blk_drew ?_ | refine blk_alloc ?_ _)); exact BK404.out⟩, ⟨by (with_reducible repeat (first | refine blk_drewN ?_ _ | refine blk_drew ?_ | refine blk_alloc ?_ _)); exact BK409.out⟩, ⟨by (with_reducible repeat (first | refine blk_drewN ?_ _ | refine blk_drew ?_ | refine blk_alloc ?_ _)); exact BK414.out⟩, ⟨by repeat (first | (with_reducible first | exact HB.out | apply below_alloc | apply pw_below_drewN | apply below_drew1 | refine below_set ?_ GE404.out | refine below_set ?_ GE409.out | refine below_set ?_ GE414.out) | exact HB.out)⟩⟩
            case round =>
              clear H'
              try clear c2
              try clear p2
              try clear c3
              try clear c4
              try clear c24
              try clear c27
              try clear c27b0
              try clear c27b1
              try clear c28
              try clear c28b0
              try clear c28b1
              try clear c38
              try clear c39
              try clear c39b0
              try clear c39b1
              try clear c40
              try clear c41
              try clear hcz42_0
              try clear hcz42_1
              try clear hfz42_0
              try clear hfz42_1
              try clear p2
              obtain ⟨x7_2, x8_2, x9_2, rfl, HA, HK2, HO_3, HO_7, HO_8, HO_405001, HO_410001, HO_415001, BK404, BK409, BK414, HB⟩ := hrel
              cases gk with
              | zero => exact absurd HA.out (by simp [laws_FnRows.l0])
              | succ k2 =>
                have H := HA.out
                clear HA
                simp only [laws_FnRows.l0] at H
                by_cases c43 : x9_2 < 4
                · rw [if_pos c43] at H
                  have c43b0 : decide (x9_2 < 4) = true := decide_eq_true c43
                  clear c43
                  replace H := Option.bind_eq_some_iff.mp H
                  obtain ⟨⟨t419, t420⟩, A440, H⟩ := H
                  replace H : ((impl_MixColumns.f x8_2).bind fun bt423 => (laws_FnRows.l0 k2 t397 t420 bt423.2 (wrap64 (x9_2 + 1)) t400 t401 t405 t406 t410 t411)) = some r := H
                  have A44 := Aside0.mk A440
                  clear A440
                  replace H := Option.bind_eq_some_iff.mp H
                  obtain ⟨⟨t423, t424⟩, A450, H⟩ := H
                  replace H : (laws_FnRows.l0 k2 t397 t420 t424 (wrap64 (x9_2 + 1)) t400 t401 t405 t406 t410 t411) = some r := H
                  have A45 := Aside0.mk A450
                  clear A450
                  have H' := Aside0.mk H
                  clear H
                  obtain ⟨Ao46, co46, eo46⟩ := RA_slice HO_7.out
                  subst eo46
                  go_wp2_with (first | ((with_reducible refine gate_callee (f := 22) rfl ?_); refine goesL_ (some 51) rfl rfl Try.func22 (by kernel_rfl) rfl #[.slice Ao46 x7_2.length co46] rfl (by (try simp only [List.map_toArray, List.map_cons, List.map_nil]); first | done | rfl | (simp only [List.length_drop, List.length_take]; rfl)) ?_; (with_reducible refine (impl_ShiftRows.calls _ _ x7_2 t419 t420 _ ?side1 ?side2 A44.out).mono ?_); (case side1 => repeat (first | exact (RA_reads' HO_7.out).2.2 | (with_reducible refine Kd.C_alloc ?_ _) | (with_reducible refine Kd.C_drewN ?_ _) | (with_reducible refine Kd.C_drew ?_))); (case side2 => exact (RA_reads' HO_7.out).2.1); rintro e w47 ⟨v421, rfl, ho0, hb⟩; have ho0 := RA_of (by decide) ho0; refine ⟨_, rfl, ?_⟩; have n0_ := Aside0.mk (RA_elder' (by (with_reducible repeat (first | apply RA_alloc | apply RA_drewN | apply RA_drew)); exact HO_3.out) (RA_base ho0) hb); have n1_ := Aside0.mk (RA_elder' (by (with_reducible repeat (first | apply RA_alloc | apply RA_drewN | apply RA_drew)); exact HO_7.out) (RA_base ho0) hb); have n2_ := Aside0.mk (RA_elder' (by (with_reducible repeat (first | apply RA_alloc | apply RA_drewN | apply RA_drew)); exact HO_8.out) (RA_base ho0) hb); have n3_ := Aside0.mk (RA_elder' (by (with_reducible repeat (first | apply RA_alloc | apply RA_drewN | apply RA_drew)); exact HO_405001.out) (RA_base ho0) hb); have n4_ := Aside0.mk (RA_elder' (by (with_reducible repeat (first | apply RA_alloc | apply RA_drewN | apply RA_drew)); exact HO_410001.out) (RA_base ho0) hb); have n5_ := Aside0.mk (RA_elder' (by (with_reducible repeat (first | apply RA_alloc | apply RA_drewN | apply RA_drew)); exact HO_415001.out) (RA_base ho0) hb); have n6_ := Aside0.mk (RA_lower (RA_new' (RA_new' (RA_new' (RA_new' (RA_new' (RA_new' ho0 (RA_lt (by (with_reducible repeat (first | apply RA_alloc | apply RA_drewN | apply RA_drew)); exact HO_3.out))) (RA_lt (by (with_reducible repeat (first | apply RA_alloc | apply RA_drewN | apply RA_drew)); exact HO_7.out))) (RA_lt (by (with_reducible repeat (first | apply RA_alloc | apply RA_drewN | apply RA_drew)); exact HO_8.out))) (RA_lt (by (with_reducible repeat (first | apply RA_alloc | apply RA_drewN | apply RA_drew)); exact HO_405001.out))) (RA_lt (by (with_reducible repeat (first | apply RA_alloc | apply RA_drewN | apply RA_drew)); exact HO_410001.out))) (RA_lt (by (with_reducible repeat (first | apply RA_alloc | apply RA_drewN | apply RA_drew)); exact HO_415001.out))) (below_size (by repeat (first | (with_reducible first | exact HB.out | apply below_alloc | apply pw_below_drewN | apply below_drew1 | refine below_set ?_ GE404.out | refine below_set ?_ GE409.out | refine below_set ?_ GE414.out) | exact HB.out)))); have n7_ := Aside0.mk (blk_below (g := gb404) (o := .cells #[.int .i64 t400, .slice Ao14 t401.length co14] 27 (0, 0)) (by (with_reducible repeat (first | refine blk_drewN ?_ _ | refine blk_drew ?_ | refine blk_alloc ?_ _)); exact BK404.out) hb); have n8_ := Aside0.mk (blk_below (g := gb409) (o := .cells #[.int .i64 t405, .slice Ao19 t406.length co19] 27 (0, 0)) (by (with_reducible repeat (first | refine blk_drewN ?_ _ | refine blk_drew ?_ | refine blk_alloc ?_ _)); exact BK409.out) hb); have n9_ := Aside0.mk (blk_below (g := gb414) (o := .cells #[.int .i64 t410, .slice Ao25 t411.length co25] 27 (0, 0)) (by (with_reducible repeat (first | refine blk_drewN ?_ _ | refine blk_drew ?_ | refine blk_alloc ?_ _)); exact BK414.out) hb); have n10_ := Aside0.mk (below_step (by repeat (first | (with_reducible first | exact HB.out | apply below_alloc | apply pw_below_drewN | apply below_drew1 | refine below_set ?_ GE404.out | refine below_set ?_ GE409.out | refine below_set ?_ GE414.out) | exact HB.out)) hb); clear HO_3; clear HO_7; clear HO_8; clear HO_405001; clear HO_410001; clear HO_415001; clear BK404; clear BK409; clear BK414; clear HB; have HO_3 := n0_; have HO_7 := n1_; have HO_8 := n2_; have HO_405001 := n3_; have HO_410001 := n4_; have HO_415001 := n5_; have HO422 := n6_; have BK404 := n7_; have BK409 := n8_; have BK414 := n9_; have HB := n10_; clear n0_ n1_ n2_ n3_ n4_ n5_ n6_ n7_ n8_ n9_ n10_; (try clear hb); (try clear hb2); (try clear hk); (try clear hi); (try clear ho0); obtain ⟨Ao48, co48, eo48⟩ := RA_slice HO_8.out; subst eo48) | ((with_reducible refine gate_callee (f := 23) rfl ?_); refine goesL_ (some 54) rfl rfl Try.func23 (by kernel_rfl) rfl #[.slice Ao48 x8_2.length co48] rfl (by (try simp only [List.map_toArray, List.map_cons, List.map_nil]); first | done | rfl | (simp only [List.length_drop, List.length_take]; rfl)) ?_; (with_reducible refine (impl_MixColumns.calls _ _ x8_2 t423 t424 _ ?side1 ?side2 A45.out).mono ?_); (case side1 => repeat (first | exact (RA_reads' HO_8.out).2.2 | (with_reducible refine Kd.C_alloc ?_ _) | (with_reducible refine Kd.C_drewN ?_ _) | (with_reducible refine Kd.C_drew ?_))); (case side2 => exact (RA_reads' HO_8.out).2.1); rintro e w49 ⟨v425, rfl, ho0, hb⟩; have ho0 := RA_of (by decide) ho0; refine ⟨_, rfl, ?_⟩; have n0_ := Aside0.mk (RA_elder' (by (with_reducible repeat (first | apply RA_alloc | apply RA_drewN | apply RA_drew)); exact HO_3.out) (RA_base ho0) hb); have n1_ := Aside0.mk (RA_elder' (by (with_reducible repeat (first | apply RA_alloc | apply RA_drewN | apply RA_drew)); exact HO_7.out) (RA_base ho0) hb); have n2_ := Aside0.mk (RA_elder' (by (with_reducible repeat (first | apply RA_alloc | apply RA_drewN | apply RA_drew)); exact HO_8.out) (RA_base ho0) hb); have n3_ := Aside0.mk (RA_elder' (by (with_reducible repeat (first | apply RA_alloc | apply RA_drewN | apply RA_drew)); exact HO_405001.out) (RA_base ho0) hb); have n4_ := Aside0.mk (RA_elder' (by (with_reducible repeat (first | apply RA_alloc | apply RA_drewN | apply RA_drew)); exact HO_410001.out) (RA_base ho0) hb); have n5_ := Aside0.mk (RA_elder' (by (with_reducible repeat (first | apply RA_alloc | apply RA_drewN | apply RA_drew)); exact HO_415001.out) (RA_base ho0) hb); have n6_ := Aside0.mk (RA_elder' (by (with_reducible repeat (first | apply RA_alloc | apply RA_drewN | apply RA_drew)); exact HO422.out) (RA_base ho0) hb); have n7_ := Aside0.mk (RA_lower (RA_new' (RA_new' (RA_new' (RA_new' (RA_new' (RA_new' (RA_new' ho0 (RA_lt (by (with_reducible repeat (first | apply RA_alloc | apply RA_drewN | apply RA_drew)); exact HO_3.out))) (RA_lt (by (with_reducible repeat (first | apply RA_alloc | apply RA_drewN | apply RA_drew)); exact HO_7.out))) (RA_lt (by (with_reducible repeat (first | apply RA_alloc | apply RA_drewN | apply RA_drew)); exact HO_8.out))) (RA_lt (by (with_reducible repeat (first | apply RA_alloc | apply RA_drewN | apply RA_drew)); exact HO_405001.out))) (RA_lt (by (with_reducible repeat (first | apply RA_alloc | apply RA_drewN | apply RA_drew)); exact HO_410001.out))) (RA_lt (by (with_reducible repeat (first | apply RA_alloc | apply RA_drewN | apply RA_drew)); exact HO_415001.out))) (RA_lt (by (with_reducible repeat (first | apply RA_alloc | apply RA_drewN | apply RA_drew)); exact HO422.out))) (below_size (by repeat (first | (with_reducible first | exact HB.out | apply below_alloc | apply pw_below_drewN | apply below_drew1 | refine below_set ?_ GE404.out | refine below_set ?_ GE409.out | refine below_set ?_ GE414.out) | exact HB.out)))); have n8_ := Aside0.mk (blk_below (g := gb404) (o := .cells #[.int .i64 t400, .slice Ao14 t401.length co14] 27 (0, 0)) (by (with_reducible repeat (first | refine blk_drewN ?_ _ | refine blk_drew ?_ | refine blk_alloc ?_ _)); exact BK404.out) hb); have n9_ := Aside0.mk (blk_below (g := gb409) (o := .cells #[.int .i64 t405, .slice Ao19 t406.length co19] 27 (0, 0)) (by (with_reducible repeat (first | refine blk_drewN ?_ _ | refine blk_drew ?_ | refine blk_alloc ?_ _)); exact BK409.out) hb); have n10_ := Aside0.mk (blk_below (g := gb414) (o := .cells #[.int .i64 t410, .slice Ao25 t411.length co25] 27 (0, 0)) (by (with_reducible repeat (first | refine blk_drewN ?_ _ | refine blk_drew ?_ | refine blk_alloc ?_ _)); exact BK414.out) hb); have n11_ := Aside0.mk (below_step (by repeat (first | (with_reducible first | exact HB.out | apply below_alloc | apply pw_below_drewN | apply below_drew1 | refine below_set ?_ GE404.out | refine below_set ?_ GE409.out | refine below_set ?_ GE414.out) | exact HB.out)) hb); clear HO_3; clear HO_7; clear HO_8; clear HO_405001; clear HO_410001; clear HO_415001; clear HO422; clear BK404; clear BK409; clear BK414; clear HB; have HO_3 := n0_; have HO_7 := n1_; have HO_8 := n2_; have HO_405001 := n3_; have HO_410001 := n4_; have HO_415001 := n5_; have HO422 := n6_; have HO426 := n7_; have BK404 := n8_; have BK409 := n9_; have BK414 := n10_; have HB := n11_; clear n0_ n1_ n2_ n3_ n4_ n5_ n6_ n7_ n8_ n9_ n10_ n11_; (try clear hb); (try clear hb2); (try clear hk); (try clear hi); (try clear ho0)))
                  go_roundg k2
                  case measure => have := HJ7.out; have := HK2.out; omega
                  case rel => exact ⟨(t420), (t424), (wrap64 (x9_2 + 1)), (by first | rfl | (simp; done) | (simp [*]; done)), H', ⟨by have := HJ7.out; have := HK2.out; omega⟩, ⟨by (with_reducible repeat (first | apply RA_alloc | apply RA_drewN | apply RA_drew)); exact RA_mono HO_3.out (fun _ hk => by (try simp only [and_assoc] at hk); (repeat' apply And.intro) <;> first | exact trivial | exact hk.1 | exact hk | exact hk.2.1 | exact hk.2 | exact hk.2.2.1 | exact hk.2.2 | exact hk.2.2.2.1 | exact hk.2.2.2 | exact hk.2.2.2.2.1 | exact hk.2.2.2.2 | exact hk.2.2.2.2.2.1 | exact hk.2.2.2.2.2 | exact hk.2.2.2.2.2.2.1 | exact hk.2.2.2.2.2.2 | exact hk.2.2.2.2.2.2.2.1 | exact hk.2.2.2.2.2.2.2 | exact hk.2.2.2.2.2.2.2.2.1 | exact hk.2.2.2.2.2.2.2.2 | exact hk.2.2.2.2.2.2.2.2.2.1 | exact hk.2.2.2.2.2.2.2.2.2)⟩, ⟨by (with_reducible repeat (first | apply RA_alloc | apply RA_drewN | apply RA_drew)); exact RA_mono HO422.out (fun _ hk => by (try simp only [and_assoc] at hk); (repeat' apply And.intro) <;> first | exact trivial | exact hk.1 | exact hk | exact hk.2.1 | exact hk.2 | exact hk.2.2.1 | exact hk.2.2 | exact hk.2.2.2.1 | exact hk.2.2.2 | exact hk.2.2.2.2.1 | exact hk.2.2.2.2 | exact hk.2.2.2.2.2.1 | exact hk.2.2.2.2.2 | exact hk.2.2.2.2.2.2.1 | exact hk.2.2.2.2.2.2 | exact hk.2.2.2.2.2.2.2.1 | exact hk.2.2.2.2.2.2.2 | exact hk.2.2.2.2.2.2.2.2.1 | exact hk.2.2.2.2.2.2.2.2 | exact hk.2.2.2.2.2.2.2.2.2.1 | exact hk.2.2.2.2.2.2.2.2.2)⟩, ⟨by (with_reducible repeat (first | apply RA_alloc | apply RA_drewN | apply RA_drew)); exact RA_mono HO426.out (fun _ hk => by (try simp only [and_assoc] at hk); (repeat' apply And.intro) <;> first | exact trivial | exact hk.1 | exact hk | exact hk.2.1 | exact hk.2 | exact hk.2.2.1 | exact hk.2.2 | exact hk.2.2.2.1 | exact hk.2.2.2 | exact hk.2.2.2.2.1 | exact hk.2.2.2.2 | exact hk.2.2.2.2.2.1 | exact hk.2.2.2.2.2 | exact hk.2.2.2.2.2.2.1 | exact hk.2.2.2.2.2.2 | exact hk.2.2.2.2.2.2.2.1 | exact hk.2.2.2.2.2.2.2 | exact hk.2.2.2.2.2.2.2.2.1 | exact hk.2.2.2.2.2.2.2.2 | exact hk.2.2.2.2.2.2.2.2.2.1 | exact hk.2.2.2.2.2.2.2.2.2)⟩, ⟨by (with_reducible repeat (first | apply RA_alloc | apply RA_drewN | apply RA_drew)); exact RA_mono HO_405001.out (fun _ hk => by (try simp only [and_assoc] at hk); (repeat' apply And.intro) <;> first | exact trivial | exact hk.1 | exact hk | exact hk.2.1 | exact hk.2 | exact hk.2.2.1 | exact hk.2.2 | exact hk.2.2.2.1 | exact hk.2.2.2 | exact hk.2.2.2.2.1 | exact hk.2.2.2.2 | exact hk.2.2.2.2.2.1 | exact hk.2.2.2.2.2 | exact hk.2.2.2.2.2.2.1 | exact hk.2.2.2.2.2.2 | exact hk.2.2.2.2.2.2.2.1 | exact hk.2.2.2.2.2.2.2 | exact hk.2.2.2.2.2.2.2.2.1 | exact hk.2.2.2.2.2.2.2.2 | exact hk.2.2.2.2.2.2.2.2.2.1 | exact hk.2.2.2.2.2.2.2.2.2)⟩, ⟨by (with_reducible repeat (first | apply RA_alloc | apply RA_drewN | apply RA_drew)); exact RA_mono HO_410001.out (fun _ hk => by (try simp only [and_assoc] at hk); (repeat' apply And.intro) <;> first | exact trivial | exact hk.1 | exact hk | exact hk.2.1 | exact hk.2 | exact hk.2.2.1 | exact hk.2.2 | exact hk.2.2.2.1 | exact hk.2.2.2 | exact hk.2.2.2.2.1 | exact hk.2.2.2.2 | exact hk.2.2.2.2.2.1 | exact hk.2.2.2.2.2 | exact hk.2.2.2.2.2.2.1 | exact hk.2.2.2.2.2.2 | exact hk.2.2.2.2.2.2.2.1 | exact hk.2.2.2.2.2.2.2 | exact hk.2.2.2.2.2.2.2.2.1 | exact hk.2.2.2.2.2.2.2.2 | exact hk.2.2.2.2.2.2.2.2.2.1 | exact hk.2.2.2.2.2.2.2.2.2)⟩, ⟨by (with_reducible repeat (first | apply RA_alloc | apply RA_drewN | apply RA_drew)); exact RA_mono HO_415001.out (fun _ hk => by (try simp only [and_assoc] at hk); (repeat' apply And.intro) <;> first | exact trivial | exact hk.1 | exact hk | exact hk.2.1 | exact hk.2 | exact hk.2.2.1 | exact hk.2.2 | exact hk.2.2.2.1 | exact hk.2.2.2 | exact hk.2.2.2.2.1 | exact hk.2.2.2.2 | exact hk.2.2.2.2.2.1 | exact hk.2.2.2.2.2 | exact hk.2.2.2.2.2.2.1 | exact hk.2.2.2.2.2.2 | exact hk.2.2.2.2.2.2.2.1 | exact hk.2.2.2.2.2.2.2 | exact hk.2.2.2.2.2.2.2.2.1 | exact hk.2.2.2.2.2.2.2.2 | exact hk.2.2.2.2.2.2.2.2.2.1 | exact hk.2.2.2.2.2.2.2.2.2)⟩, ⟨by (with_reducible repeat (first | refine blk_drewN ?_ _ | refine blk_drew ?_ | refine blk_alloc ?_ _)); exact BK404.out⟩, ⟨by (with_reducible repeat (first | refine blk_drewN ?_ _ | refine blk_drew ?_ | refine blk_alloc ?_ _)); exact BK409.out⟩, ⟨by (with_reducible repeat (first | refine blk_drewN ?_ _ | refine blk_drew ?_ | refine blk_alloc ?_ _)); exact BK414.out⟩, ⟨by repeat (first | (with_reducible first | exact HB.out | apply below_alloc | apply pw_below_drewN | apply below_drew1 | refine below_set ?_ GE404.out | refine below_set ?_ GE409.out | refine below_set ?_ GE414.out) | exact HB.out)⟩⟩
                · rw [if_neg c43] at H
                  have c43b0 : decide (x9_2 < 4) = false := decide_eq_false c43
                  clear c43
                  have HC50 := Aside0.mk H
                  clear H
                  go_upto_region 18 with (fail)
                  go_cut [71] (fun v71 wc => ∃ (kq : Nat) (x71_49 : Bool), v71 = .bool x71_49 ∧ Aside0 (laws_FnRows.j2 kq t397 x71_49 t400 t401 t405 t406 t410 t411 = some r) ∧ Aside0 (kq ≤ k2) ∧ Aside0 (RA wc w.heap.size (fun k_ => some k_ ≠ ((.slice Ao14 t401.length co14) : Value).ownBlock ∧ some k_ ≠ ((.slice Ao19 t406.length co19) : Value).ownBlock ∧ some k_ ≠ ((.slice Ao25 t411.length co25) : Value).ownBlock) (.slice Ao10 t397.length co10) t397) ∧ Aside0 (RA wc w.heap.size (fun k_ => some k_ ≠ ((.slice Ao10 t397.length co10) : Value).ownBlock ∧ some k_ ≠ ((.slice Ao19 t406.length co19) : Value).ownBlock ∧ some k_ ≠ ((.slice Ao25 t411.length co25) : Value).ownBlock) (.slice Ao14 t401.length co14) t401) ∧ Aside0 (RA wc w.heap.size (fun k_ => some k_ ≠ ((.slice Ao10 t397.length co10) : Value).ownBlock ∧ some k_ ≠ ((.slice Ao14 t401.length co14) : Value).ownBlock ∧ some k_ ≠ ((.slice Ao25 t411.length co25) : Value).ownBlock) (.slice Ao19 t406.length co19) t406) ∧ Aside0 (RA wc w.heap.size (fun k_ => some k_ ≠ ((.slice Ao10 t397.length co10) : Value).ownBlock ∧ some k_ ≠ ((.slice Ao14 t401.length co14) : Value).ownBlock ∧ some k_ ≠ ((.slice Ao19 t406.length co19) : Value).ownBlock) (.slice Ao25 t411.length co25) t411) ∧ Aside0 (wc.heap[gb404]? = some (.cells #[.int .i64 t400, (.slice Ao14 t401.length co14)] 27 (0, 0))) ∧ Aside0 (wc.heap[gb409]? = some (.cells #[.int .i64 t405, (.slice Ao19 t406.length co19)] 27 (0, 0))) ∧ Aside0 (wc.heap[gb414]? = some (.cells #[.int .i64 t410, (.slice Ao25 t411.length co25)] 27 (0, 0))) ∧ Aside0 (Below w.heap.size w wc))
                  case first =>
                    have H := HC50.out
                    clear HC50
                    by_cases c51 : (t401.length : Int) = 16
                    · rw [if_pos c51] at H
                      have c51b0 : ((t401.length : Int) == 16) = true := beq_iff_eq.mpr c51
                      have c51b1 : ((t401.length : Int) != 16) = false := bne_eq_false_iff_eq.mpr c51
                      clear c51
                      (first | rw [c51b0] | (simp only [i64_w, i32_w]; rw [c51b0]) | skip)
                      replace H := Option.bind_eq_some_iff.mp H
                      obtain ⟨t427, A520, H⟩ := H
                      replace H : (if t427 = true then ((laws_lwSame.f x8_2 t397).bind fun t428 => (laws_FnRows.j2 k2 t397 (!t428) t400 t401 t405 t406 t410 t411)) else (laws_FnRows.j2 k2 t397 true t400 t401 t405 t406 t410 t411)) = some r := H
                      have A52 := Aside0.mk A520
                      clear A520
                      by_cases c53 : t427 = true
                      · subst c53
                        have H1 : ((laws_lwSame.f x8_2 t397).bind fun t428 => (laws_FnRows.j2 k2 t397 (!t428) t400 t401 t405 t406 t410 t411)) = some r := by rw [if_pos rfl] at H; exact H
                        clear H
                        have H := H1
                        clear H1
                        replace H := Option.bind_eq_some_iff.mp H
                        obtain ⟨t428, A540, H⟩ := H
                        replace H : (laws_FnRows.j2 k2 t397 (!t428) t400 t401 t405 t406 t410 t411) = some r := H
                        have A54 := Aside0.mk A540
                        clear A540
                        have H' := Aside0.mk H
                        clear H
                        have hnb55 := NB404_409.out
                        have hnc55 := NB409_404.out
                        have hnb56 := NB404_414.out
                        have hnc56 := NB414_404.out
                        have hcz57_0 : wr.cell? ⟨gb404, 0, none⟩ = some (.int .i64 t400) := (blk_cell BK404.out 0).trans rfl
                        have hcz57_1 : wr.cell? ⟨gb404, 1, none⟩ = some (.slice Ao14 t401.length co14) := (blk_cell BK404.out 1).trans rfl
                        have hfz57_0 := blk_frozen BK404.out 0
                        have hfz57_1 := blk_frozen BK404.out 1
                        obtain ⟨Ao58, co58, eo58⟩ := RA_slice HO_7.out
                        subst eo58
                        go_wp2_with (first | (go_at_call 19; (with_reducible refine (laws_lwSame.calls _ _ x7_2 _ _ t397 true _ ?side1 ?side2 ?side3 ?side4 A52.out).mono ?_); (case side1 => repeat (first | exact (RA_reads' HO_7.out).2.2 | (with_reducible refine Kd.C_alloc ?_ _) | (with_reducible refine Kd.C_drewN ?_ _) | (with_reducible refine Kd.C_drew ?_))); (case side2 => exact (RA_reads' HO_7.out).2.1); (case side3 => repeat (first | exact (RA_reads' HO_3.out).2.2 | (with_reducible refine Kd.C_alloc ?_ _) | (with_reducible refine Kd.C_drewN ?_ _) | (with_reducible refine Kd.C_drew ?_))); (case side4 => exact (RA_reads' HO_3.out).2.1); rintro e w' ⟨rfl, ⟨nd, rfl⟩⟩; obtain ⟨Ao59, co59, eo59⟩ := RA_slice HO_8.out; subst eo59) | (go_at_call 19; (with_reducible refine (laws_lwSame.calls _ _ x8_2 _ _ t397 t428 _ ?side1 ?side2 ?side3 ?side4 A54.out).mono ?_); (case side1 => repeat (first | exact (RA_reads' HO_8.out).2.2 | (with_reducible refine Kd.C_alloc ?_ _) | (with_reducible refine Kd.C_drewN ?_ _) | (with_reducible refine Kd.C_drew ?_))); (case side2 => exact (RA_reads' HO_8.out).2.1); (case side3 => repeat (first | exact (RA_reads' HO_3.out).2.2 | (with_reducible refine Kd.C_alloc ?_ _) | (with_reducible refine Kd.C_drewN ?_ _) | (with_reducible refine Kd.C_drew ?_))); (case side4 => exact (RA_reads' HO_3.out).2.1); rintro e w' ⟨rfl, ⟨nd, rfl⟩⟩))
                        go_meet
                        case rel => exact ⟨_, (!t428), (by first | rfl | (simp; done) | (simp [*]; done)), H', ⟨by have := HJ7.out; have := HK2.out; first | omega | exact Nat.le_refl _⟩, ⟨by (with_reducible repeat (first | apply RA_alloc | apply RA_drewN | apply RA_drew)); exact HO_3.out⟩, ⟨by (with_reducible repeat (first | apply RA_alloc | apply RA_drewN | apply RA_drew)); exact RA_mono HO_405001.out (fun _ hk => ⟨hk.1, ⟨hk.2.2.2.1, hk.2.2.2.2⟩⟩)⟩, ⟨by (with_reducible repeat (first | apply RA_alloc | apply RA_drewN | apply RA_drew)); exact RA_mono HO_410001.out (fun _ hk => ⟨hk.1, ⟨hk.2.2.2.1, hk.2.2.2.2⟩⟩)⟩, ⟨by (with_reducible repeat (first | apply RA_alloc | apply RA_drewN | apply RA_drew)); exact RA_mono HO_415001.out (fun _ hk => ⟨hk.1, ⟨hk.2.2.2.1, hk.2.2.2.2⟩⟩)⟩, ⟨by (with_reducible repeat (first | refine blk_drewN ?_ _ | refine blk_drew ?_ | refine blk_alloc ?_ _)); exact BK404.out⟩, ⟨by (with_reducible repeat (first | refine blk_drewN ?_ _ | refine blk_drew ?_ | refine blk_alloc ?_ _)); exact BK409.out⟩, ⟨by (with_reducible repeat (first | refine blk_drewN ?_ _ | refine blk_drew ?_ | refine blk_alloc ?_ _)); exact BK414.out⟩, ⟨by repeat (first | (with_reducible first | exact HB.out | apply below_alloc | apply pw_below_drewN | apply below_drew1 | refine below_set ?_ GE404.out | refine below_set ?_ GE409.out | refine below_set ?_ GE414.out) | exact HB.out)⟩⟩
                      · replace c53 := Bool.eq_false_iff.mpr c53
                        subst c53
                        have H1 : (laws_FnRows.j2 k2 t397 true t400 t401 t405 t406 t410 t411) = some r := by rw [if_neg (show ¬ (false = true) by decide)] at H; exact H
                        clear H
                        have H := H1
                        clear H1
                        have H' := Aside0.mk H
                        clear H
                        have hnb60 := NB404_409.out
                        have hnc60 := NB409_404.out
                        have hnb61 := NB404_414.out
                        have hnc61 := NB414_404.out
                        have hcz62_0 : wr.cell? ⟨gb404, 0, none⟩ = some (.int .i64 t400) := (blk_cell BK404.out 0).trans rfl
                        have hcz62_1 : wr.cell? ⟨gb404, 1, none⟩ = some (.slice Ao14 t401.length co14) := (blk_cell BK404.out 1).trans rfl
                        have hfz62_0 := blk_frozen BK404.out 0
                        have hfz62_1 := blk_frozen BK404.out 1
                        obtain ⟨Ao63, co63, eo63⟩ := RA_slice HO_7.out
                        subst eo63
                        go_wp2_with (first | (go_at_call 19; (with_reducible refine (laws_lwSame.calls _ _ x7_2 _ _ t397 false _ ?side1 ?side2 ?side3 ?side4 A52.out).mono ?_); (case side1 => repeat (first | exact (RA_reads' HO_7.out).2.2 | (with_reducible refine Kd.C_alloc ?_ _) | (with_reducible refine Kd.C_drewN ?_ _) | (with_reducible refine Kd.C_drew ?_))); (case side2 => exact (RA_reads' HO_7.out).2.1); (case side3 => repeat (first | exact (RA_reads' HO_3.out).2.2 | (with_reducible refine Kd.C_alloc ?_ _) | (with_reducible refine Kd.C_drewN ?_ _) | (with_reducible refine Kd.C_drew ?_))); (case side4 => exact (RA_reads' HO_3.out).2.1); rintro e w' ⟨rfl, ⟨nd, rfl⟩⟩))
                        go_meet
                        case rel => exact ⟨_, (true), (by first | rfl | (simp; done) | (simp [*]; done)), H', ⟨by have := HJ7.out; have := HK2.out; first | omega | exact Nat.le_refl _⟩, ⟨by (with_reducible repeat (first | apply RA_alloc | apply RA_drewN | apply RA_drew)); exact HO_3.out⟩, ⟨by (with_reducible repeat (first | apply RA_alloc | apply RA_drewN | apply RA_drew)); exact RA_mono HO_405001.out (fun _ hk => ⟨hk.1, ⟨hk.2.2.2.1, hk.2.2.2.2⟩⟩)⟩, ⟨by (with_reducible repeat (first | apply RA_alloc | apply RA_drewN | apply RA_drew)); exact RA_mono HO_410001.out (fun _ hk => ⟨hk.1, ⟨hk.2.2.2.1, hk.2.2.2.2⟩⟩)⟩, ⟨by (with_reducible repeat (first | apply RA_alloc | apply RA_drewN | apply RA_drew)); exact RA_mono HO_415001.out (fun _ hk => ⟨hk.1, ⟨hk.2.2.2.1, hk.2.2.2.2⟩⟩)⟩, ⟨by (with_reducible repeat (first | refine blk_drewN ?_ _ | refine blk_drew ?_ | refine blk_alloc ?_ _)); exact BK404.out⟩, ⟨by (with_reducible repeat (first | refine blk_drewN ?_ _ | refine blk_drew ?_ | refine blk_alloc ?_ _)); exact BK409.out⟩, ⟨by (with_reducible repeat (first | refine blk_drewN ?_ _ | refine blk_drew ?_ | refine blk_alloc ?_ _)); exact BK414.out⟩, ⟨by repeat (first | (with_reducible first | exact HB.out | apply below_alloc | apply pw_below_drewN | apply below_drew1 | refine below_set ?_ GE404.out | refine below_set ?_ GE409.out | refine below_set ?_ GE414.out) | exact HB.out)⟩⟩
                    · rw [if_neg c51] at H
                      have c51b0 : ((t401.length : Int) == 16) = false := beq_eq_false_iff_ne.mpr c51
                      have c51b1 : ((t401.length : Int) != 16) = true := bne_iff_ne.mpr c51
                      (first | rw [c51b0] | (simp only [i64_w, i32_w]; rw [c51b0]) | skip)
                      have H' := Aside0.mk H
                      clear H
                      have hnb64 := NB404_409.out
                      have hnc64 := NB409_404.out
                      have hnb65 := NB404_414.out
                      have hnc65 := NB414_404.out
                      have hcz66_0 : wr.cell? ⟨gb404, 0, none⟩ = some (.int .i64 t400) := (blk_cell BK404.out 0).trans rfl
                      have hcz66_1 : wr.cell? ⟨gb404, 1, none⟩ = some (.slice Ao14 t401.length co14) := (blk_cell BK404.out 1).trans rfl
                      have hfz66_0 := blk_frozen BK404.out 0
                      have hfz66_1 := blk_frozen BK404.out 1
                      go_wp2
                      go_meet
                      case rel => exact ⟨_, (true), (by first | rfl | (simp; done) | (simp [*]; done)), H', ⟨by have := HJ7.out; have := HK2.out; first | omega | exact Nat.le_refl _⟩, ⟨by (with_reducible repeat (first | apply RA_alloc | apply RA_drewN | apply RA_drew)); exact HO_3.out⟩, ⟨by (with_reducible repeat (first | apply RA_alloc | apply RA_drewN | apply RA_drew)); exact RA_mono HO_405001.out (fun _ hk => ⟨hk.1, ⟨hk.2.2.2.1, hk.2.2.2.2⟩⟩)⟩, ⟨by (with_reducible repeat (first | apply RA_alloc | apply RA_drewN | apply RA_drew)); exact RA_mono HO_410001.out (fun _ hk => ⟨hk.1, ⟨hk.2.2.2.1, hk.2.2.2.2⟩⟩)⟩, ⟨by (with_reducible repeat (first | apply RA_alloc | apply RA_drewN | apply RA_drew)); exact RA_mono HO_415001.out (fun _ hk => ⟨hk.1, ⟨hk.2.2.2.1, hk.2.2.2.2⟩⟩)⟩, ⟨by (with_reducible repeat (first | refine blk_drewN ?_ _ | refine blk_drew ?_ | refine blk_alloc ?_ _)); exact BK404.out⟩, ⟨by (with_reducible repeat (first | refine blk_drewN ?_ _ | refine blk_drew ?_ | refine blk_alloc ?_ _)); exact BK409.out⟩, ⟨by (with_reducible repeat (first | refine blk_drewN ?_ _ | refine blk_drew ?_ | refine blk_alloc ?_ _)); exact BK414.out⟩, ⟨by repeat (first | (with_reducible first | exact HB.out | apply below_alloc | apply pw_below_drewN | apply below_drew1 | refine below_set ?_ GE404.out | refine below_set ?_ GE409.out | refine below_set ?_ GE414.out) | exact HB.out)⟩⟩
                  case rest =>
                    clear HC50
                    try clear c2
                    try clear p2
                    try clear c3
                    try clear c4
                    try clear c5
                    try clear c6
                    try clear p6
                    try clear c22
                    try clear c23
                    try clear c24
                    try clear c27
                    try clear c27b0
                    try clear c27b1
                    try clear c28
                    try clear c28b0
                    try clear c28b1
                    try clear c38
                    try clear c39
                    try clear c39b0
                    try clear c39b1
                    try clear c40
                    try clear c41
                    try clear c43
                    try clear c43b0
                    try clear c51
                    try clear c51b0
                    try clear c51b1
                    try clear c53
                    try clear c55
                    try clear c56
                    try clear c60
                    try clear c61
                    try clear c64
                    try clear p64
                    try clear c65
                    try clear hcz42_0
                    try clear hcz42_1
                    try clear hcz57_0
                    try clear hcz57_1
                    try clear hcz62_0
                    try clear hcz62_1
                    try clear hcz66_0
                    try clear hcz66_1
                    try clear hfz42_0
                    try clear hfz42_1
                    try clear hfz57_0
                    try clear hfz57_1
                    try clear hfz62_0
                    try clear hfz62_1
                    try clear hfz66_0
                    try clear hfz66_1
                    try clear p2
                    obtain ⟨kq, x71_49, rfl, HA, HJ49, HO_3, HO_405001, HO_410001, HO_415001, BK404, BK409, BK414, HB⟩ := hcut
                    cases kq with
                    | zero => exact absurd HA.out (by simp [laws_FnRows.j2])
                    | succ kj49 =>
                      have H := HA.out
                      clear HA
                      simp only [laws_FnRows.j2] at H
                      by_cases c67 : x71_49 = true
                      · subst c67
                        have H1 : (some false) = some r := by rw [if_pos rfl] at H; exact H
                        clear H
                        have H := H1
                        clear H1
                        obtain rfl := Option.some.inj H
                        go_wp2
                        go_ret
                        exact ⟨by first | rfl | (simp [errW_none, errW_some] <;> rfl) | (simp [*, errW_none, errW_some] <;> rfl), by repeat (first | (with_reducible first | exact HB.out | apply below_alloc | apply pw_below_drewN | apply below_drew1 | refine below_set ?_ GE404.out | refine below_set ?_ GE409.out | refine below_set ?_ GE414.out) | exact HB.out)⟩
                      · replace c67 := Bool.eq_false_iff.mpr c67
                        subst c67
                        have H1 : (laws_FnRows.l1 kj49 t397 0 t400 t401 t405 t406 t410 t411) = some r := by rw [if_neg (show ¬ (false = true) by decide)] at H; exact H
                        clear H
                        have H := H1
                        clear H1
                        have H' := Aside0.mk H
                        clear H
                        go_wp2
                        go_loopg [10] kj49 (fun kq v10 w' => ∃ (x10_4 : Int), v10 = .int .i64 x10_4 ∧ Aside0 (laws_FnRows.l1 kq t397 x10_4 t400 t401 t405 t406 t410 t411 = some r) ∧ Aside0 (kq ≤ kj49) ∧ Aside0 (RA w' w.heap.size (fun k_ => some k_ ≠ ((.slice Ao14 t401.length co14) : Value).ownBlock ∧ some k_ ≠ ((.slice Ao19 t406.length co19) : Value).ownBlock ∧ some k_ ≠ ((.slice Ao25 t411.length co25) : Value).ownBlock) (.slice Ao10 t397.length co10) t397) ∧ Aside0 (RA w' w.heap.size (fun k_ => some k_ ≠ ((.slice Ao10 t397.length co10) : Value).ownBlock ∧ some k_ ≠ ((.slice Ao19 t406.length co19) : Value).ownBlock ∧ some k_ ≠ ((.slice Ao25 t411.length co25) : Value).ownBlock) (.slice Ao14 t401.length co14) t401) ∧ Aside0 (RA w' w.heap.size (fun k_ => some k_ ≠ ((.slice Ao10 t397.length co10) : Value).ownBlock ∧ some k_ ≠ ((.slice Ao14 t401.length co14) : Value).ownBlock ∧ some k_ ≠ ((.slice Ao25 t411.length co25) : Value).ownBlock) (.slice Ao19 t406.length co19) t406) ∧ Aside0 (RA w' w.heap.size (fun k_ => some k_ ≠ ((.slice Ao10 t397.length co10) : Value).ownBlock ∧ some k_ ≠ ((.slice Ao14 t401.length co14) : Value).ownBlock ∧ some k_ ≠ ((.slice Ao19 t406.length co19) : Value).ownBlock) (.slice Ao25 t411.length co25) t411) ∧ Aside0 (w'.heap[gb404]? = some (.cells #[.int .i64 t400, (.slice Ao14 t401.length co14)] 27 (0, 0))) ∧ Aside0 (w'.heap[gb409]? = some (.cells #[.int .i64 t405, (.slice Ao19 t406.length co19)] 27 (0, 0))) ∧ Aside0 (w'.heap[gb414]? = some (.cells #[.int .i64 t410, (.slice Ao25 t411.length co25)] 27 (0, 0))) ∧ Aside0 (Below w.heap.size w w'))
                        case atStart => exact ⟨(0), (by first | rfl | (simp; done) | (simp [*]; done)), H', ⟨Nat.le_refl _⟩, ⟨by (with_reducible repeat (first | apply RA_alloc | apply RA_drewN | apply RA_drew)); exact HO_3.out⟩, ⟨by (with_reducible repeat (first | apply RA_alloc | apply RA_drewN | apply RA_drew)); exact HO_405001.out⟩, ⟨by (with_reducible repeat (first | apply RA_alloc | apply RA_drewN | apply RA_drew)); exact HO_410001.out⟩, ⟨by (with_reducible repeat (first | apply RA_alloc | apply RA_drewN | apply RA_drew)); exact HO_415001.out⟩, ⟨by (with_reducible repeat (first | refine blk_drewN ?_ _ | refine blk_drew ?_ | refine blk_alloc ?_ _)); exact BK404.out⟩, ⟨by (with_reducible repeat (first | refine blk_drewN ?_ _ | refine blk_drew ?_ | refine blk_alloc ?_ _)); exact BK409.out⟩, ⟨by (with_reducible repeat (first | refine blk_drewN ?_ _ | refine blk_drew ?_ | refine blk_alloc ?_ _)); exact BK414.out⟩, ⟨by repeat (first | (with_reducible first | exact HB.out | apply below_alloc | apply pw_below_drewN | apply below_drew1 | refine below_set ?_ GE404.out | refine below_set ?_ GE409.out | refine below_set ?_ GE414.out) | exact HB.out)⟩⟩
                        case round =>
                          clear H'
                          try clear c2
                          try clear p2
                          try clear c3
                          try clear c4
                          try clear c5
                          try clear c6
                          try clear p6
                          try clear c22
                          try clear c23
                          try clear c24
                          try clear c27
                          try clear c27b0
                          try clear c27b1
                          try clear c28
                          try clear c28b0
                          try clear c28b1
                          try clear c38
                          try clear c39
                          try clear c39b0
                          try clear c39b1
                          try clear c40
                          try clear c41
                          try clear c43
                          try clear c43b0
                          try clear c51
                          try clear c51b0
                          try clear c51b1
                          try clear c53
                          try clear c55
                          try clear c56
                          try clear c60
                          try clear c61
                          try clear c64
                          try clear p64
                          try clear c65
                          try clear c67
                          try clear hcz42_0
                          try clear hcz42_1
                          try clear hcz57_0
                          try clear hcz57_1
                          try clear hcz62_0
                          try clear hcz62_1
                          try clear hcz66_0
                          try clear hcz66_1
                          try clear hfz42_0
                          try clear hfz42_1
                          try clear hfz57_0
                          try clear hfz57_1
                          try clear hfz62_0
                          try clear hfz62_1
                          try clear hfz66_0
                          try clear hfz66_1
                          try clear p2
                          try clear p6
                          try clear p64
                          obtain ⟨x10_4, rfl, HA, HK4, HO_3, HO_405001, HO_410001, HO_415001, BK404, BK409, BK414, HB⟩ := hrel
                          cases gk with
                          | zero => exact absurd HA.out (by simp [laws_FnRows.l1])
                          | succ k4 =>
                            have H := HA.out
                            clear HA
                            simp only [laws_FnRows.l1] at H
                            by_cases c68 : x10_4 < 16
                            · rw [if_pos c68] at H
                              have c68b0 : decide (x10_4 < 16) = true := decide_eq_true c68
                              clear c68
                              by_cases c69 : 0 ≤ x10_4
                              · rw [if_pos c69] at H
                                have c69b0 : decide (0 ≤ x10_4) = true := decide_eq_true c69
                                clear c69
                                by_cases c70 : x10_4 < (t401.length : Int)
                                · rw [if_pos c70] at H
                                  have c70b0 : decide (x10_4 < (t401.length : Int)) = true := decide_eq_true c70
                                  clear c70
                                  by_cases c71 : x10_4 < (t397.length : Int)
                                  · rw [if_pos c71] at H
                                    have c71b0 : decide (x10_4 < (t397.length : Int)) = true := decide_eq_true c71
                                    clear c71
                                    replace H := Option.bind_eq_some_iff.mp H
                                    obtain ⟨t431, A720, H⟩ := H
                                    replace H : (if (rd t401 x10_4) = t431 then (laws_FnRows.l1 k4 t397 (wrap64 (x10_4 + 1)) t400 t401 t405 t406 t410 t411) else (some false)) = some r := H
                                    have A72 := Aside0.mk A720
                                    clear A720
                                    by_cases c73 : (rd t401 x10_4) = t431
                                    · rw [if_pos c73] at H
                                      have c73b0 : ((rd t401 x10_4) == t431) = true := beq_iff_eq.mpr c73
                                      have c73b1 : ((rd t401 x10_4) != t431) = false := bne_eq_false_iff_eq.mpr c73
                                      clear c73
                                      have H' := Aside0.mk H
                                      clear H
                                      try go_wp2
                                      have n0_ := Aside0.mk (RA_drew HO_3.out)
                                      have n1_ := Aside0.mk (RA_drew HO_405001.out)
                                      have n2_ := Aside0.mk (RA_drew HO_410001.out)
                                      have n3_ := Aside0.mk (RA_drew HO_415001.out)
                                      have n4_ := Aside0.mk (blk_drew BK404.out)
                                      have n5_ := Aside0.mk (blk_drew BK409.out)
                                      have n6_ := Aside0.mk (blk_drew BK414.out)
                                      have n7_ := Aside0.mk (below_drew1 HB.out)
                                      clear HO_3
                                      clear HO_405001
                                      clear HO_410001
                                      clear HO_415001
                                      clear BK404
                                      clear BK409
                                      clear BK414
                                      clear HB
                                      have HO_3 := n0_
                                      have HO_405001 := n1_
                                      have HO_410001 := n2_
                                      have HO_415001 := n3_
                                      have BK404 := n4_
                                      have BK409 := n5_
                                      have BK414 := n6_
                                      have HB := n7_
                                      clear n0_ n1_ n2_ n3_ n4_ n5_ n6_ n7_
                                      have p429 : 0 ≤ (x10_4 : Int) := of_decide_eq_true (by first | (with_reducible assumption) | assumption)
                                      have q429 : x10_4 < (t401.length : Int) := of_decide_eq_true (by first | (with_reducible assumption) | assumption)
                                      obtain ⟨ad429, e429, hx429_0⟩ := Kd.at_int (RA_reads' HO_405001.out).2.2 x10_4 p429 q429
                                      cases e429
                                      replace p429 := eq_true p429
                                      replace q429 := eq_true q429
                                      have p430 : 0 ≤ (x10_4 : Int) := of_decide_eq_true (by first | (with_reducible assumption) | assumption)
                                      have q430 : x10_4 < (t397.length : Int) := of_decide_eq_true (by first | (with_reducible assumption) | assumption)
                                      obtain ⟨ad430, e430, hx430_0⟩ := Kd.at_int (RA_reads' HO_3.out).2.2 x10_4 p430 q430
                                      cases e430
                                      replace p430 := eq_true p430
                                      replace q430 := eq_true q430
                                      refine start_ (n := 11) (S := fun w' => w'.cell? ⟨gb404, 0, none⟩ = some (.int .i64 t400) ∧ w'.cell? ⟨gb404, 1, none⟩ = some (.slice (some ad429) t401.length co14) ∧ w'.cell? (ad429.add (x10_4).toNat) = some (.int .u8 (rd t401 x10_4)) ∧ w'.cell? (ad430.add (x10_4).toNat) = some (.int .u8 (rd t397 x10_4))) (ds := []) #[false, false, false, false, false, false, false, false, false, false, false] (by kernel_rfl) rfl rfl ⟨(blk_cell BK404.out 0).trans rfl, (blk_cell BK404.out 1).trans rfl, hx429_0, hx430_0⟩ (fun hHeld => ?_); refine with_tabW laws_FnRows.tab23 laws_FnRows.bits23 (fun HT_ HW_ => ?_)
                                      generalize wr.drew = w74 at HO_3 HO_405001 HO_410001 HO_415001 BK404 BK409 BK414 HB hx429_0 hx430_0 hHeld ⊢
                                      refine pure_ (i := 0) (N := some 76) (v := ?_) (a' := ?_) #[true, false, false, false, false, false, false, false, false, false, false] rfl rfl (any_of HT_.out (by kernel_rfl)) (fun _ _ _ h => h) (Or.inl ⟨by rfl, ?_⟩) ?_ ?_
                                      rotate_left
                                      · intro w'
                                        go_simp
                                        with_reducible rfl
                                      rotate_left
                                      · simp only [Act.put, List.setIfInBounds_toArray, List.set_cons_zero, List.set_cons_succ, i64_w, i32_w]
                                        rfl
                                      refine pure_ (i := 2) (N := some 78) (v := ?_) (a' := ?_) #[true, false, true, false, false, false, false, false, false, false, false] rfl rfl (any_of HT_.out (by kernel_rfl)) (fun _ _ _ h => h) (Or.inl ⟨by rfl, ?_⟩) ?_ ?_
                                      rotate_left
                                      · intro w'
                                        go_simp
                                        with_reducible rfl
                                      rotate_left
                                      · simp only [Act.put, List.setIfInBounds_toArray, List.set_cons_zero, List.set_cons_succ, i64_w, i32_w]
                                        rfl
                                      refine pure_ (i := 5) (N := some 81) (v := ?_) (a' := ?_) #[true, false, true, false, false, true, false, false, false, false, false] rfl rfl (any_of HT_.out (by kernel_rfl)) (fun _ _ _ h => h) (Or.inl ⟨by rfl, ?_⟩) ?_ ?_
                                      rotate_left
                                      · intro w'
                                        go_simp
                                        with_reducible rfl
                                      rotate_left
                                      · simp only [Act.put, List.setIfInBounds_toArray, List.set_cons_zero, List.set_cons_succ, i64_w, i32_w]
                                        rfl
                                      refine pure_ (i := 6) (N := some 82) (v := ?_) (a' := ?_) #[true, false, true, false, false, true, true, false, false, false, false] rfl rfl (any_of HT_.out (by kernel_rfl)) (fun _ _ _ h => h) (Or.inl ⟨by rfl, ?_⟩) ?_ ?_
                                      rotate_left
                                      · intro w'
                                        go_simp
                                        with_reducible rfl
                                      rotate_left
                                      · simp only [Act.put, List.setIfInBounds_toArray, List.set_cons_zero, List.set_cons_succ, i64_w, i32_w]
                                        rfl
                                      refine pure_ (i := 7) (N := some 83) (v := ?_) (a' := ?_) #[true, false, true, false, false, true, true, true, false, false, false] rfl rfl (any_of HT_.out (by kernel_rfl)) (fun _ _ _ h => h) (Or.inl ⟨by rfl, ?_⟩) ?_ ?_
                                      rotate_left
                                      · intro w'
                                        go_simp
                                        with_reducible rfl
                                      rotate_left
                                      · simp only [Act.put, List.setIfInBounds_toArray, List.set_cons_zero, List.set_cons_succ, i64_w, i32_w]
                                        rfl
                                      refine take_ (i := 1) (N := some 77) (v := ?_) (a' := ?_) #[true, true, true, false, false, true, true, true, false, false, false] rfl rfl (take_ofW HT_.out HW_.out (by kernel_rfl)) (fun _ _ _ h => h) (Or.inl ⟨by rfl, ?_⟩) hHeld ?_ ?_
                                      rotate_left
                                      · rintro w' ⟨s0, s1, s2, s3⟩
                                        go_simp
                                        with_reducible rfl
                                      rotate_left
                                      · simp only [Act.put, List.setIfInBounds_toArray, List.set_cons_zero, List.set_cons_succ, i64_w, i32_w]
                                        rfl
                                      refine pure_ (i := 3) (N := some 79) (v := ?_) (a' := ?_) #[true, true, true, true, false, true, true, true, false, false, false] rfl rfl (any_of HT_.out (by kernel_rfl)) (fun _ _ _ h => h) (Or.inl ⟨by rfl, ?_⟩) ?_ ?_
                                      rotate_left
                                      · intro w'
                                        go_simp
                                        with_reducible rfl
                                      rotate_left
                                      · simp only [Act.put, List.setIfInBounds_toArray, List.set_cons_zero, List.set_cons_succ, i64_w, i32_w]
                                        rfl
                                      refine take_ (i := 4) (N := some 80) (v := ?_) (a' := ?_) #[true, true, true, true, true, true, true, true, false, false, false] rfl rfl (take_ofW HT_.out HW_.out (by kernel_rfl)) (fun _ _ _ h => h) (Or.inl ⟨by rfl, ?_⟩) hHeld ?_ ?_
                                      rotate_left
                                      · rintro w' ⟨s0, s1, s2, s3⟩
                                        go_simp
                                        with_reducible rfl
                                      rotate_left
                                      · simp only [Act.put, List.setIfInBounds_toArray, List.set_cons_zero, List.set_cons_succ, i64_w, i32_w]
                                        rfl
                                      refine take_ (i := 8) (N := some 84) (v := ?_) (a' := ?_) #[true, true, true, true, true, true, true, true, true, false, false] rfl rfl (take_ofW HT_.out HW_.out (by kernel_rfl)) (fun _ _ _ h => h) (Or.inl ⟨by rfl, ?_⟩) hHeld ?_ ?_
                                      rotate_left
                                      · rintro w' ⟨s0, s1, s2, s3⟩
                                        go_simp
                                        with_reducible rfl
                                      rotate_left
                                      · simp only [Act.put, List.setIfInBounds_toArray, List.set_cons_zero, List.set_cons_succ, i64_w, i32_w]
                                        rfl
                                      refine one_ (i := 9) (N := some 85) #[true, true, true, true, true, true, true, true, true, true, false] rfl rfl (one_of HT_.out (by kernel_rfl)) (by decide) (fun K hK => ?_)
                                      refine goes_ Try.func25 (by kernel_rfl) rfl #[.int .u8 (rd t397 x10_4)] (by rfl) rfl rfl (by (try simp only [List.map_toArray, List.map_cons, List.map_nil]); first | done | rfl | (simp only [List.length_drop, List.length_take]; rfl)) ?_
                                      with_reducible refine (spec_SubByte.calls (rd t397 x10_4) t431 _ A72.out).mono ?_
                                      rintro e w' ⟨rfl, ⟨nd, rfl⟩⟩
                                      refine ⟨_, rfl, ?_⟩
                                      refine hK.out _ _ ⟨(blk_cell BK404.out 0).trans rfl, (blk_cell BK404.out 1).trans rfl, hHeld.2.2.1, hHeld.2.2.2⟩ (fun hHeld => ?_)
                                      clear hK K
                                      refine norm_ (a' := ?_) ?_ ?_
                                      rotate_left
                                      · show Act.put _ (some 85) _ = _
                                        simp only [Act.put, List.setIfInBounds_toArray, List.set_cons_zero, List.set_cons_succ, i64_w, i32_w]
                                        rfl
                                      refine pure_ (i := 10) (N := some 86) (v := ?_) (a' := ?_) #[true, true, true, true, true, true, true, true, true, true, true] rfl rfl (any_of HT_.out (by kernel_rfl)) (fun _ _ _ h => h) (Or.inl ⟨by rfl, ?_⟩) ?_ ?_
                                      rotate_left
                                      · intro w'
                                        go_simp
                                        with_reducible rfl
                                      rotate_left
                                      · simp only [Act.put, List.setIfInBounds_toArray, List.set_cons_zero, List.set_cons_succ, i64_w, i32_w]
                                        rfl
                                      refine done_ (done_of HT_.out (by kernel_rfl)) ?_
                                      try go_wp2
                                      go_roundg k4
                                      case measure => have := HJ7.out; have := HK2.out; have := HJ49.out; have := HK4.out; omega
                                      case rel => exact ⟨(wrap64 (x10_4 + 1)), (by first | rfl | (simp; done) | (simp [*]; done)), H', ⟨by have := HJ7.out; have := HK2.out; have := HJ49.out; have := HK4.out; omega⟩, ⟨by (with_reducible repeat (first | apply RA_alloc | apply RA_drewN | apply RA_drew)); exact HO_3.out⟩, ⟨by (with_reducible repeat (first | apply RA_alloc | apply RA_drewN | apply RA_drew)); exact HO_405001.out⟩, ⟨by (with_reducible repeat (first | apply RA_alloc | apply RA_drewN | apply RA_drew)); exact HO_410001.out⟩, ⟨by (with_reducible repeat (first | apply RA_alloc | apply RA_drewN | apply RA_drew)); exact HO_415001.out⟩, ⟨by (with_reducible repeat (first | refine blk_drewN ?_ _ | refine blk_drew ?_ | refine blk_alloc ?_ _)); exact BK404.out⟩, ⟨by (with_reducible repeat (first | refine blk_drewN ?_ _ | refine blk_drew ?_ | refine blk_alloc ?_ _)); exact BK409.out⟩, ⟨by (with_reducible repeat (first | refine blk_drewN ?_ _ | refine blk_drew ?_ | refine blk_alloc ?_ _)); exact BK414.out⟩, ⟨by repeat (first | (with_reducible first | exact HB.out | apply below_alloc | apply pw_below_drewN | apply below_drew1 | refine below_set ?_ GE404.out | refine below_set ?_ GE409.out | refine below_set ?_ GE414.out) | exact HB.out)⟩⟩
                                    · rw [if_neg c73] at H
                                      have c73b0 : ((rd t401 x10_4) == t431) = false := beq_eq_false_iff_ne.mpr c73
                                      have c73b1 : ((rd t401 x10_4) != t431) = true := bne_iff_ne.mpr c73
                                      obtain rfl := Option.some.inj H
                                      try go_wp2
                                      have n0_ := Aside0.mk (RA_drew HO_3.out)
                                      have n1_ := Aside0.mk (RA_drew HO_405001.out)
                                      have n2_ := Aside0.mk (RA_drew HO_410001.out)
                                      have n3_ := Aside0.mk (RA_drew HO_415001.out)
                                      have n4_ := Aside0.mk (blk_drew BK404.out)
                                      have n5_ := Aside0.mk (blk_drew BK409.out)
                                      have n6_ := Aside0.mk (blk_drew BK414.out)
                                      have n7_ := Aside0.mk (below_drew1 HB.out)
                                      clear HO_3
                                      clear HO_405001
                                      clear HO_410001
                                      clear HO_415001
                                      clear BK404
                                      clear BK409
                                      clear BK414
                                      clear HB
                                      have HO_3 := n0_
                                      have HO_405001 := n1_
                                      have HO_410001 := n2_
                                      have HO_415001 := n3_
                                      have BK404 := n4_
                                      have BK409 := n5_
                                      have BK414 := n6_
                                      have HB := n7_
                                      clear n0_ n1_ n2_ n3_ n4_ n5_ n6_ n7_
                                      have p429 : 0 ≤ (x10_4 : Int) := of_decide_eq_true (by first | (with_reducible assumption) | assumption)
                                      have q429 : x10_4 < (t401.length : Int) := of_decide_eq_true (by first | (with_reducible assumption) | assumption)
                                      obtain ⟨ad429, e429, hx429_0⟩ := Kd.at_int (RA_reads' HO_405001.out).2.2 x10_4 p429 q429
                                      cases e429
                                      replace p429 := eq_true p429
                                      replace q429 := eq_true q429
                                      have p430 : 0 ≤ (x10_4 : Int) := of_decide_eq_true (by first | (with_reducible assumption) | assumption)
                                      have q430 : x10_4 < (t397.length : Int) := of_decide_eq_true (by first | (with_reducible assumption) | assumption)
                                      obtain ⟨ad430, e430, hx430_0⟩ := Kd.at_int (RA_reads' HO_3.out).2.2 x10_4 p430 q430
                                      cases e430
                                      replace p430 := eq_true p430
                                      replace q430 := eq_true q430
                                      refine start_ (n := 11) (S := fun w' => w'.cell? ⟨gb404, 0, none⟩ = some (.int .i64 t400) ∧ w'.cell? ⟨gb404, 1, none⟩ = some (.slice (some ad429) t401.length co14) ∧ w'.cell? (ad429.add (x10_4).toNat) = some (.int .u8 (rd t401 x10_4)) ∧ w'.cell? (ad430.add (x10_4).toNat) = some (.int .u8 (rd t397 x10_4))) (ds := []) #[false, false, false, false, false, false, false, false, false, false, false] (by kernel_rfl) rfl rfl ⟨(blk_cell BK404.out 0).trans rfl, (blk_cell BK404.out 1).trans rfl, hx429_0, hx430_0⟩ (fun hHeld => ?_); refine with_tabW laws_FnRows.tab23 laws_FnRows.bits23 (fun HT_ HW_ => ?_)
                                      generalize wr.drew = w75 at HO_3 HO_405001 HO_410001 HO_415001 BK404 BK409 BK414 HB hx429_0 hx430_0 hHeld ⊢
                                      refine pure_ (i := 0) (N := some 76) (v := ?_) (a' := ?_) #[true, false, false, false, false, false, false, false, false, false, false] rfl rfl (any_of HT_.out (by kernel_rfl)) (fun _ _ _ h => h) (Or.inl ⟨by rfl, ?_⟩) ?_ ?_
                                      rotate_left
                                      · intro w'
                                        go_simp
                                        with_reducible rfl
                                      rotate_left
                                      · simp only [Act.put, List.setIfInBounds_toArray, List.set_cons_zero, List.set_cons_succ, i64_w, i32_w]
                                        rfl
                                      refine pure_ (i := 2) (N := some 78) (v := ?_) (a' := ?_) #[true, false, true, false, false, false, false, false, false, false, false] rfl rfl (any_of HT_.out (by kernel_rfl)) (fun _ _ _ h => h) (Or.inl ⟨by rfl, ?_⟩) ?_ ?_
                                      rotate_left
                                      · intro w'
                                        go_simp
                                        with_reducible rfl
                                      rotate_left
                                      · simp only [Act.put, List.setIfInBounds_toArray, List.set_cons_zero, List.set_cons_succ, i64_w, i32_w]
                                        rfl
                                      refine pure_ (i := 5) (N := some 81) (v := ?_) (a' := ?_) #[true, false, true, false, false, true, false, false, false, false, false] rfl rfl (any_of HT_.out (by kernel_rfl)) (fun _ _ _ h => h) (Or.inl ⟨by rfl, ?_⟩) ?_ ?_
                                      rotate_left
                                      · intro w'
                                        go_simp
                                        with_reducible rfl
                                      rotate_left
                                      · simp only [Act.put, List.setIfInBounds_toArray, List.set_cons_zero, List.set_cons_succ, i64_w, i32_w]
                                        rfl
                                      refine pure_ (i := 6) (N := some 82) (v := ?_) (a' := ?_) #[true, false, true, false, false, true, true, false, false, false, false] rfl rfl (any_of HT_.out (by kernel_rfl)) (fun _ _ _ h => h) (Or.inl ⟨by rfl, ?_⟩) ?_ ?_
                                      rotate_left
                                      · intro w'
                                        go_simp
                                        with_reducible rfl
                                      rotate_left
                                      · simp only [Act.put, List.setIfInBounds_toArray, List.set_cons_zero, List.set_cons_succ, i64_w, i32_w]
                                        rfl
                                      refine pure_ (i := 7) (N := some 83) (v := ?_) (a' := ?_) #[true, false, true, false, false, true, true, true, false, false, false] rfl rfl (any_of HT_.out (by kernel_rfl)) (fun _ _ _ h => h) (Or.inl ⟨by rfl, ?_⟩) ?_ ?_
                                      rotate_left
                                      · intro w'
                                        go_simp
                                        with_reducible rfl
                                      rotate_left
                                      · simp only [Act.put, List.setIfInBounds_toArray, List.set_cons_zero, List.set_cons_succ, i64_w, i32_w]
                                        rfl
                                      refine take_ (i := 1) (N := some 77) (v := ?_) (a' := ?_) #[true, true, true, false, false, true, true, true, false, false, false] rfl rfl (take_ofW HT_.out HW_.out (by kernel_rfl)) (fun _ _ _ h => h) (Or.inl ⟨by rfl, ?_⟩) hHeld ?_ ?_
                                      rotate_left
                                      · rintro w' ⟨s0, s1, s2, s3⟩
                                        go_simp
                                        with_reducible rfl
                                      rotate_left
                                      · simp only [Act.put, List.setIfInBounds_toArray, List.set_cons_zero, List.set_cons_succ, i64_w, i32_w]
                                        rfl
                                      refine pure_ (i := 3) (N := some 79) (v := ?_) (a' := ?_) #[true, true, true, true, false, true, true, true, false, false, false] rfl rfl (any_of HT_.out (by kernel_rfl)) (fun _ _ _ h => h) (Or.inl ⟨by rfl, ?_⟩) ?_ ?_
                                      rotate_left
                                      · intro w'
                                        go_simp
                                        with_reducible rfl
                                      rotate_left
                                      · simp only [Act.put, List.setIfInBounds_toArray, List.set_cons_zero, List.set_cons_succ, i64_w, i32_w]
                                        rfl
                                      refine take_ (i := 4) (N := some 80) (v := ?_) (a' := ?_) #[true, true, true, true, true, true, true, true, false, false, false] rfl rfl (take_ofW HT_.out HW_.out (by kernel_rfl)) (fun _ _ _ h => h) (Or.inl ⟨by rfl, ?_⟩) hHeld ?_ ?_
                                      rotate_left
                                      · rintro w' ⟨s0, s1, s2, s3⟩
                                        go_simp
                                        with_reducible rfl
                                      rotate_left
                                      · simp only [Act.put, List.setIfInBounds_toArray, List.set_cons_zero, List.set_cons_succ, i64_w, i32_w]
                                        rfl
                                      refine take_ (i := 8) (N := some 84) (v := ?_) (a' := ?_) #[true, true, true, true, true, true, true, true, true, false, false] rfl rfl (take_ofW HT_.out HW_.out (by kernel_rfl)) (fun _ _ _ h => h) (Or.inl ⟨by rfl, ?_⟩) hHeld ?_ ?_
                                      rotate_left
                                      · rintro w' ⟨s0, s1, s2, s3⟩
                                        go_simp
                                        with_reducible rfl
                                      rotate_left
                                      · simp only [Act.put, List.setIfInBounds_toArray, List.set_cons_zero, List.set_cons_succ, i64_w, i32_w]
                                        rfl
                                      refine one_ (i := 9) (N := some 85) #[true, true, true, true, true, true, true, true, true, true, false] rfl rfl (one_of HT_.out (by kernel_rfl)) (by decide) (fun K hK => ?_)
                                      refine goes_ Try.func25 (by kernel_rfl) rfl #[.int .u8 (rd t397 x10_4)] (by rfl) rfl rfl (by (try simp only [List.map_toArray, List.map_cons, List.map_nil]); first | done | rfl | (simp only [List.length_drop, List.length_take]; rfl)) ?_
                                      with_reducible refine (spec_SubByte.calls (rd t397 x10_4) t431 _ A72.out).mono ?_
                                      rintro e w' ⟨rfl, ⟨nd, rfl⟩⟩
                                      refine ⟨_, rfl, ?_⟩
                                      refine hK.out _ _ ⟨(blk_cell BK404.out 0).trans rfl, (blk_cell BK404.out 1).trans rfl, hHeld.2.2.1, hHeld.2.2.2⟩ (fun hHeld => ?_)
                                      clear hK K
                                      refine norm_ (a' := ?_) ?_ ?_
                                      rotate_left
                                      · show Act.put _ (some 85) _ = _
                                        simp only [Act.put, List.setIfInBounds_toArray, List.set_cons_zero, List.set_cons_succ, i64_w, i32_w]
                                        rfl
                                      refine pure_ (i := 10) (N := some 86) (v := ?_) (a' := ?_) #[true, true, true, true, true, true, true, true, true, true, true] rfl rfl (any_of HT_.out (by kernel_rfl)) (fun _ _ _ h => h) (Or.inl ⟨by rfl, ?_⟩) ?_ ?_
                                      rotate_left
                                      · intro w'
                                        go_simp
                                        with_reducible rfl
                                      rotate_left
                                      · simp only [Act.put, List.setIfInBounds_toArray, List.set_cons_zero, List.set_cons_succ, i64_w, i32_w]
                                        rfl
                                      refine done_ (done_of HT_.out (by kernel_rfl)) ?_
                                      try go_wp2
                                      go_ret
                                      exact ⟨by first | rfl | (simp [errW_none, errW_some] <;> rfl) | (simp [*, errW_none, errW_some] <;> rfl), by repeat (first | (with_reducible first | exact HB.out | apply below_alloc | apply pw_below_drewN | apply below_drew1 | refine below_set ?_ GE404.out | refine below_set ?_ GE409.out | refine below_set ?_ GE414.out) | exact HB.out)⟩
                                  · rw [if_neg c71] at H
                                    exact absurd H (by simp)
                                · rw [if_neg c70] at H
                                  exact absurd H (by simp)
                              · rw [if_neg c69] at H
                                exact absurd H (by simp)
                            · rw [if_neg c68] at H
                              have c68b0 : decide (x10_4 < 16) = false := decide_eq_false c68
                              clear c68
                              replace H := Option.bind_eq_some_iff.mp H
                              obtain ⟨⟨t432, t433⟩, A760, H⟩ := H
                              replace H : ((laws_lwSame.f t406 t433).bind fun t436 => (if t436 = true then ((spec_MixColumns.f k4 t397).bind fun bt437 => ((laws_lwSame.f t411 bt437.2).bind fun t441 => (some t441))) else (some false))) = some r := H
                              have A76 := Aside0.mk A760
                              clear A760
                              replace H := Option.bind_eq_some_iff.mp H
                              obtain ⟨t436, A770, H⟩ := H
                              replace H : (if t436 = true then ((spec_MixColumns.f k4 t397).bind fun bt437 => ((laws_lwSame.f t411 bt437.2).bind fun t441 => (some t441))) else (some false)) = some r := H
                              have A77 := Aside0.mk A770
                              clear A770
                              by_cases c78 : t436 = true
                              · subst c78
                                have H1 : ((spec_MixColumns.f k4 t397).bind fun bt437 => ((laws_lwSame.f t411 bt437.2).bind fun t441 => (some t441))) = some r := by rw [if_pos rfl] at H; exact H
                                clear H
                                have H := H1
                                clear H1
                                replace H := Option.bind_eq_some_iff.mp H
                                obtain ⟨⟨t437, t438⟩, A790, H⟩ := H
                                replace H : ((laws_lwSame.f t411 t438).bind fun t441 => (some t441)) = some r := H
                                have A79 := Aside0.mk A790
                                clear A790
                                replace H := Option.bind_eq_some_iff.mp H
                                obtain ⟨t441, A800, H⟩ := H
                                replace H : (some t441) = some r := H
                                have A80 := Aside0.mk A800
                                clear A800
                                obtain rfl := Option.some.inj H
                                try go_wp2
                                have n0_ := Aside0.mk (RA_drew HO_3.out)
                                have n1_ := Aside0.mk (RA_drew HO_405001.out)
                                have n2_ := Aside0.mk (RA_drew HO_410001.out)
                                have n3_ := Aside0.mk (RA_drew HO_415001.out)
                                have n4_ := Aside0.mk (blk_drew BK404.out)
                                have n5_ := Aside0.mk (blk_drew BK409.out)
                                have n6_ := Aside0.mk (blk_drew BK414.out)
                                have n7_ := Aside0.mk (below_drew1 HB.out)
                                clear HO_3
                                clear HO_405001
                                clear HO_410001
                                clear HO_415001
                                clear BK404
                                clear BK409
                                clear BK414
                                clear HB
                                have HO_3 := n0_
                                have HO_405001 := n1_
                                have HO_410001 := n2_
                                have HO_415001 := n3_
                                have BK404 := n4_
                                have BK409 := n5_
                                have BK414 := n6_
                                have HB := n7_
                                clear n0_ n1_ n2_ n3_ n4_ n5_ n6_ n7_
                                refine start_ (n := 15) (S := fun w' => w'.cell? ⟨gb409, 0, none⟩ = some (.int .i64 t405) ∧ w'.cell? ⟨gb409, 1, none⟩ = some (.slice Ao19 t406.length co19) ∧ w'.cell? ⟨gb414, 0, none⟩ = some (.int .i64 t410) ∧ w'.cell? ⟨gb414, 1, none⟩ = some (.slice Ao25 t411.length co25)) (ds := []) #[false, false, false, false, false, false, false, false, false, false, false, false, false, false, false] (by kernel_rfl) rfl rfl ⟨(blk_cell BK409.out 0).trans rfl, (blk_cell BK409.out 1).trans rfl, (blk_cell BK414.out 0).trans rfl, (blk_cell BK414.out 1).trans rfl⟩ (fun hHeld => ?_); refine with_tabW laws_FnRows.tab25 laws_FnRows.bits25 (fun HT_ HW_ => ?_)
                                generalize wr.drew = w81 at HO_3 HO_405001 HO_410001 HO_415001 BK404 BK409 BK414 HB hHeld ⊢
                                refine pure_ (i := 0) (N := some 87) (v := ?_) (a' := ?_) #[true, false, false, false, false, false, false, false, false, false, false, false, false, false, false] rfl rfl (any_of HT_.out (by kernel_rfl)) (fun _ _ _ h => h) (Or.inl ⟨by rfl, ?_⟩) ?_ ?_
                                rotate_left
                                · intro w'
                                  go_simp
                                  with_reducible rfl
                                rotate_left
                                · simp only [Act.put, List.setIfInBounds_toArray, List.set_cons_zero, List.set_cons_succ, i64_w, i32_w]
                                  rfl
                                refine pure_ (i := 2) (N := some 89) (v := ?_) (a' := ?_) #[true, false, true, false, false, false, false, false, false, false, false, false, false, false, false] rfl rfl (any_of HT_.out (by kernel_rfl)) (fun _ _ _ h => h) (Or.inl ⟨by rfl, ?_⟩) ?_ ?_
                                rotate_left
                                · intro w'
                                  go_simp
                                  with_reducible rfl
                                rotate_left
                                · simp only [Act.put, List.setIfInBounds_toArray, List.set_cons_zero, List.set_cons_succ, i64_w, i32_w]
                                  rfl
                                refine take_ (i := 1) (N := some 88) (v := ?_) (a' := ?_) #[true, true, true, false, false, false, false, false, false, false, false, false, false, false, false] rfl rfl (take_ofW HT_.out HW_.out (by kernel_rfl)) (fun _ _ _ h => h) (Or.inl ⟨by rfl, ?_⟩) hHeld ?_ ?_
                                rotate_left
                                · rintro w' ⟨s0, s1, s2, s3⟩
                                  go_simp
                                  with_reducible rfl
                                rotate_left
                                · simp only [Act.put, List.setIfInBounds_toArray, List.set_cons_zero, List.set_cons_succ, i64_w, i32_w]
                                  rfl
                                refine one_ (i := 3) (N := some 90) #[true, true, true, true, false, false, false, false, false, false, false, false, false, false, false] rfl rfl (one_of HT_.out (by kernel_rfl)) (by decide) (fun K hK => ?_)
                                refine goes_ Try.func26 (by kernel_rfl) rfl #[.slice Ao10 t397.length co10] (by rfl) rfl rfl (by (try simp only [List.map_toArray, List.map_cons, List.map_nil]); first | done | rfl | (simp only [List.length_drop, List.length_take]; rfl)) ?_
                                with_reducible refine (spec_ShiftRows.calls k4 _ _ t397 t432 t433 _ ?side1 ?side2 A76.out).mono ?_
                                (case side1 => repeat (first | exact (RA_reads' HO_3.out).2.2 | (with_reducible refine Kd.C_alloc ?_ _) | (with_reducible refine Kd.C_drewN ?_ _) | (with_reducible refine Kd.C_drew ?_)))
                                (case side2 => exact (RA_reads' HO_3.out).2.1)
                                rintro e w82 ⟨v434, rfl, ho0, hb⟩; have ho0 := RA_of (by decide) ho0
                                refine ⟨_, rfl, ?_⟩
                                have n0_ := Aside0.mk (RA_elder' (by (with_reducible repeat (first | apply RA_alloc | apply RA_drewN | apply RA_drew)); exact HO_3.out) (RA_base ho0) hb)
                                have n1_ := Aside0.mk (RA_elder' (by (with_reducible repeat (first | apply RA_alloc | apply RA_drewN | apply RA_drew)); exact HO_405001.out) (RA_base ho0) hb)
                                have n2_ := Aside0.mk (RA_elder' (by (with_reducible repeat (first | apply RA_alloc | apply RA_drewN | apply RA_drew)); exact HO_410001.out) (RA_base ho0) hb)
                                have n3_ := Aside0.mk (RA_elder' (by (with_reducible repeat (first | apply RA_alloc | apply RA_drewN | apply RA_drew)); exact HO_415001.out) (RA_base ho0) hb)
                                have n4_ := Aside0.mk (RA_lower (RA_new' (RA_new' (RA_new' (RA_new' ho0 (RA_lt (by (with_reducible repeat (first | apply RA_alloc | apply RA_drewN | apply RA_drew)); exact HO_3.out))) (RA_lt (by (with_reducible repeat (first | apply RA_alloc | apply RA_drewN | apply RA_drew)); exact HO_405001.out))) (RA_lt (by (with_reducible repeat (first | apply RA_alloc | apply RA_drewN | apply RA_drew)); exact HO_410001.out))) (RA_lt (by (with_reducible repeat (first | apply RA_alloc | apply RA_drewN | apply RA_drew)); exact HO_415001.out))) (below_size (by repeat (first | (with_reducible first | exact HB.out | apply below_alloc | apply pw_below_drewN | apply below_drew1 | refine below_set ?_ GE404.out | refine below_set ?_ GE409.out | refine below_set ?_ GE414.out) | exact HB.out))))
                                have n5_ := Aside0.mk (blk_below (g := gb404) (o := .cells #[.int .i64 t400, .slice Ao14 t401.length co14] 27 (0, 0)) (by (with_reducible repeat (first | refine blk_drewN ?_ _ | refine blk_drew ?_ | refine blk_alloc ?_ _)); exact BK404.out) hb)
                                have n6_ := Aside0.mk (blk_below (g := gb409) (o := .cells #[.int .i64 t405, .slice Ao19 t406.length co19] 27 (0, 0)) (by (with_reducible repeat (first | refine blk_drewN ?_ _ | refine blk_drew ?_ | refine blk_alloc ?_ _)); exact BK409.out) hb)
                                have n7_ := Aside0.mk (blk_below (g := gb414) (o := .cells #[.int .i64 t410, .slice Ao25 t411.length co25] 27 (0, 0)) (by (with_reducible repeat (first | refine blk_drewN ?_ _ | refine blk_drew ?_ | refine blk_alloc ?_ _)); exact BK414.out) hb)
                                have n8_ := Aside0.mk (below_step (by repeat (first | (with_reducible first | exact HB.out | apply below_alloc | apply pw_below_drewN | apply below_drew1 | refine below_set ?_ GE404.out | refine below_set ?_ GE409.out | refine below_set ?_ GE414.out) | exact HB.out)) hb)
                                clear HO_3
                                clear HO_405001
                                clear HO_410001
                                clear HO_415001
                                clear BK404
                                clear BK409
                                clear BK414
                                clear HB
                                have HO_3 := n0_
                                have HO_405001 := n1_
                                have HO_410001 := n2_
                                have HO_415001 := n3_
                                have HO435 := n4_
                                have BK404 := n5_
                                have BK409 := n6_
                                have BK414 := n7_
                                have HB := n8_
                                clear n0_ n1_ n2_ n3_ n4_ n5_ n6_ n7_ n8_
                                (try clear hb)
                                (try clear hb2)
                                (try clear hk)
                                (try clear hi)
                                (try clear ho0)
                                obtain ⟨Ao83, co83, eo83⟩ := RA_slice HO435.out
                                (first | subst eo83 | (injection eo83 with f1_ f2_ f3_; have f4_ := f1_.symm; have f5_ := f3_.symm; clear f1_ f2_ f3_; subst f4_; subst f5_))
                                refine hK.out _ _ ⟨(blk_cell BK409.out 0).trans rfl, (blk_cell BK409.out 1).trans rfl, (blk_cell BK414.out 0).trans rfl, (blk_cell BK414.out 1).trans rfl⟩ (fun hHeld => ?_)
                                clear hK K
                                refine norm_ (a' := ?_) ?_ ?_
                                rotate_left
                                · show Act.put _ (some 90) _ = _
                                  simp only [Act.put, List.setIfInBounds_toArray, List.set_cons_zero, List.set_cons_succ, i64_w, i32_w]
                                  rfl
                                refine pure_ (i := 4) (N := some 91) (v := ?_) (a' := ?_) #[true, true, true, true, true, false, false, false, false, false, false, false, false, false, false] rfl rfl (any_of HT_.out (by kernel_rfl)) (fun _ _ _ h => h) (Or.inl ⟨by rfl, ?_⟩) ?_ ?_
                                rotate_left
                                · intro w'
                                  go_simp
                                  with_reducible rfl
                                rotate_left
                                · simp only [Act.put, List.setIfInBounds_toArray, List.set_cons_zero, List.set_cons_succ, i64_w, i32_w]
                                  rfl
                                refine one_ (i := 5) (N := some 92) #[true, true, true, true, true, true, false, false, false, false, false, false, false, false, false] rfl rfl (one_of HT_.out (by kernel_rfl)) (by decide) (fun K hK => ?_)
                                refine goes_ Try.func19 (by kernel_rfl) rfl #[.slice Ao19 t406.length co19, .slice Ao83 t433.length co83] (by rfl) rfl rfl (by (try simp only [List.map_toArray, List.map_cons, List.map_nil]); first | done | rfl | (simp only [List.length_drop, List.length_take]; rfl)) ?_
                                with_reducible refine (laws_lwSame.calls _ _ t406 _ _ t433 true _ ?side1 ?side2 ?side3 ?side4 A77.out).mono ?_
                                (case side1 => repeat (first | exact (RA_reads' HO_410001.out).2.2 | (with_reducible refine Kd.C_alloc ?_ _) | (with_reducible refine Kd.C_drewN ?_ _) | (with_reducible refine Kd.C_drew ?_)))
                                (case side2 => exact (RA_reads' HO_410001.out).2.1)
                                (case side3 => repeat (first | exact (RA_reads' HO435.out).2.2 | (with_reducible refine Kd.C_alloc ?_ _) | (with_reducible refine Kd.C_drewN ?_ _) | (with_reducible refine Kd.C_drew ?_)))
                                (case side4 => exact (RA_reads' HO435.out).2.1)
                                rintro e w' ⟨rfl, ⟨nd, rfl⟩⟩
                                refine ⟨_, rfl, ?_⟩
                                refine hK.out _ _ ⟨(blk_cell BK409.out 0).trans rfl, (blk_cell BK409.out 1).trans rfl, (blk_cell BK414.out 0).trans rfl, (blk_cell BK414.out 1).trans rfl⟩ (fun hHeld => ?_)
                                clear hK K
                                refine norm_ (a' := ?_) ?_ ?_
                                rotate_left
                                · show Act.put _ (some 92) _ = _
                                  simp only [Act.put, List.setIfInBounds_toArray, List.set_cons_zero, List.set_cons_succ, i64_w, i32_w]
                                  rfl
                                refine pure_ (i := 6) (N := some 93) (v := ?_) (a' := ?_) #[true, true, true, true, true, true, true, false, false, false, false, false, false, false, false] rfl rfl (any_of HT_.out (by kernel_rfl)) (fun _ _ _ h => h) (Or.inl ⟨by rfl, ?_⟩) ?_ ?_
                                rotate_left
                                · intro w'
                                  go_simp
                                  with_reducible rfl
                                rotate_left
                                · simp only [Act.put, List.setIfInBounds_toArray, List.set_cons_zero, List.set_cons_succ, i64_w, i32_w]
                                  rfl
                                refine pure_ (i := 7) (N := some 94) (v := ?_) (a' := ?_) #[true, true, true, true, true, true, true, true, false, false, false, false, false, false, false] rfl rfl (any_of HT_.out (by kernel_rfl)) (fun _ _ _ h => h) (Or.inl ⟨by rfl, ?_⟩) ?_ ?_
                                rotate_left
                                · intro w'
                                  go_simp
                                  with_reducible rfl
                                rotate_left
                                · simp only [Act.put, List.setIfInBounds_toArray, List.set_cons_zero, List.set_cons_succ, i64_w, i32_w]
                                  rfl
                                refine pure_ (i := 9) (N := some 96) (v := ?_) (a' := ?_) #[true, true, true, true, true, true, true, true, false, true, false, false, false, false, false] rfl rfl (any_of HT_.out (by kernel_rfl)) (fun _ _ _ h => h) (Or.inl ⟨by rfl, ?_⟩) ?_ ?_
                                rotate_left
                                · intro w'
                                  go_simp
                                  with_reducible rfl
                                rotate_left
                                · simp only [Act.put, List.setIfInBounds_toArray, List.set_cons_zero, List.set_cons_succ, i64_w, i32_w]
                                  rfl
                                refine take_ (i := 8) (N := some 95) (v := ?_) (a' := ?_) #[true, true, true, true, true, true, true, true, true, true, false, false, false, false, false] rfl rfl (take_ofW HT_.out HW_.out (by kernel_rfl)) (fun _ _ _ h => h) (Or.inl ⟨by rfl, ?_⟩) hHeld ?_ ?_
                                rotate_left
                                · rintro w' ⟨s0, s1, s2, s3⟩
                                  go_simp
                                  with_reducible rfl
                                rotate_left
                                · simp only [Act.put, List.setIfInBounds_toArray, List.set_cons_zero, List.set_cons_succ, i64_w, i32_w]
                                  rfl
                                refine one_ (i := 10) (N := some 97) #[true, true, true, true, true, true, true, true, true, true, true, false, false, false, false] rfl rfl (one_of HT_.out (by kernel_rfl)) (by decide) (fun K hK => ?_)
                                refine goes_ Try.func27 (by kernel_rfl) rfl #[.slice Ao10 t397.length co10] (by rfl) rfl rfl (by (try simp only [List.map_toArray, List.map_cons, List.map_nil]); first | done | rfl | (simp only [List.length_drop, List.length_take]; rfl)) ?_
                                with_reducible refine (spec_MixColumns.calls k4 _ _ t397 t437 t438 _ ?side1 ?side2 A79.out).mono ?_
                                (case side1 => repeat (first | exact (RA_reads' HO_3.out).2.2 | (with_reducible refine Kd.C_alloc ?_ _) | (with_reducible refine Kd.C_drewN ?_ _) | (with_reducible refine Kd.C_drew ?_)))
                                (case side2 => exact (RA_reads' HO_3.out).2.1)
                                rintro e w84 ⟨v439, rfl, ho0, hb⟩; have ho0 := RA_of (by decide) ho0
                                refine ⟨_, rfl, ?_⟩
                                have n0_ := Aside0.mk (RA_elder' (by (with_reducible repeat (first | apply RA_alloc | apply RA_drewN | apply RA_drew)); exact HO_3.out) (RA_base ho0) hb)
                                have n1_ := Aside0.mk (RA_elder' (by (with_reducible repeat (first | apply RA_alloc | apply RA_drewN | apply RA_drew)); exact HO_405001.out) (RA_base ho0) hb)
                                have n2_ := Aside0.mk (RA_elder' (by (with_reducible repeat (first | apply RA_alloc | apply RA_drewN | apply RA_drew)); exact HO_410001.out) (RA_base ho0) hb)
                                have n3_ := Aside0.mk (RA_elder' (by (with_reducible repeat (first | apply RA_alloc | apply RA_drewN | apply RA_drew)); exact HO_415001.out) (RA_base ho0) hb)
                                have n4_ := Aside0.mk (RA_elder' (by (with_reducible repeat (first | apply RA_alloc | apply RA_drewN | apply RA_drew)); exact HO435.out) (RA_base ho0) hb)
                                have n5_ := Aside0.mk (RA_lower (RA_new' (RA_new' (RA_new' (RA_new' (RA_new' ho0 (RA_lt (by (with_reducible repeat (first | apply RA_alloc | apply RA_drewN | apply RA_drew)); exact HO_3.out))) (RA_lt (by (with_reducible repeat (first | apply RA_alloc | apply RA_drewN | apply RA_drew)); exact HO_405001.out))) (RA_lt (by (with_reducible repeat (first | apply RA_alloc | apply RA_drewN | apply RA_drew)); exact HO_410001.out))) (RA_lt (by (with_reducible repeat (first | apply RA_alloc | apply RA_drewN | apply RA_drew)); exact HO_415001.out))) (RA_lt (by (with_reducible repeat (first | apply RA_alloc | apply RA_drewN | apply RA_drew)); exact HO435.out))) (below_size (by repeat (first | (with_reducible first | exact HB.out | apply below_alloc | apply pw_below_drewN | apply below_drew1 | refine below_set ?_ GE404.out | refine below_set ?_ GE409.out | refine below_set ?_ GE414.out) | exact HB.out))))
                                have n6_ := Aside0.mk (blk_below (g := gb404) (o := .cells #[.int .i64 t400, .slice Ao14 t401.length co14] 27 (0, 0)) (by (with_reducible repeat (first | refine blk_drewN ?_ _ | refine blk_drew ?_ | refine blk_alloc ?_ _)); exact BK404.out) hb)
                                have n7_ := Aside0.mk (blk_below (g := gb409) (o := .cells #[.int .i64 t405, .slice Ao19 t406.length co19] 27 (0, 0)) (by (with_reducible repeat (first | refine blk_drewN ?_ _ | refine blk_drew ?_ | refine blk_alloc ?_ _)); exact BK409.out) hb)
                                have n8_ := Aside0.mk (blk_below (g := gb414) (o := .cells #[.int .i64 t410, .slice Ao25 t411.length co25] 27 (0, 0)) (by (with_reducible repeat (first | refine blk_drewN ?_ _ | refine blk_drew ?_ | refine blk_alloc ?_ _)); exact BK414.out) hb)
                                have n9_ := Aside0.mk (below_step (by repeat (first | (with_reducible first | exact HB.out | apply below_alloc | apply pw_below_drewN | apply below_drew1 | refine below_set ?_ GE404.out | refine below_set ?_ GE409.out | refine below_set ?_ GE414.out) | exact HB.out)) hb)
                                clear HO_3
                                clear HO_405001
                                clear HO_410001
                                clear HO_415001
                                clear HO435
                                clear BK404
                                clear BK409
                                clear BK414
                                clear HB
                                have HO_3 := n0_
                                have HO_405001 := n1_
                                have HO_410001 := n2_
                                have HO_415001 := n3_
                                have HO435 := n4_
                                have HO440 := n5_
                                have BK404 := n6_
                                have BK409 := n7_
                                have BK414 := n8_
                                have HB := n9_
                                clear n0_ n1_ n2_ n3_ n4_ n5_ n6_ n7_ n8_ n9_
                                (try clear hb)
                                (try clear hb2)
                                (try clear hk)
                                (try clear hi)
                                (try clear ho0)
                                obtain ⟨Ao85, co85, eo85⟩ := RA_slice HO440.out
                                (first | subst eo85 | (injection eo85 with f1_ f2_ f3_; have f4_ := f1_.symm; have f5_ := f3_.symm; clear f1_ f2_ f3_; subst f4_; subst f5_))
                                refine hK.out _ _ ⟨(blk_cell BK409.out 0).trans rfl, (blk_cell BK409.out 1).trans rfl, (blk_cell BK414.out 0).trans rfl, (blk_cell BK414.out 1).trans rfl⟩ (fun hHeld => ?_)
                                clear hK K
                                refine norm_ (a' := ?_) ?_ ?_
                                rotate_left
                                · show Act.put _ (some 97) _ = _
                                  simp only [Act.put, List.setIfInBounds_toArray, List.set_cons_zero, List.set_cons_succ, i64_w, i32_w]
                                  rfl
                                refine pure_ (i := 11) (N := some 98) (v := ?_) (a' := ?_) #[true, true, true, true, true, true, true, true, true, true, true, true, false, false, false] rfl rfl (any_of HT_.out (by kernel_rfl)) (fun _ _ _ h => h) (Or.inl ⟨by rfl, ?_⟩) ?_ ?_
                                rotate_left
                                · intro w'
                                  go_simp
                                  with_reducible rfl
                                rotate_left
                                · simp only [Act.put, List.setIfInBounds_toArray, List.set_cons_zero, List.set_cons_succ, i64_w, i32_w]
                                  rfl
                                refine one_ (i := 12) (N := some 99) #[true, true, true, true, true, true, true, true, true, true, true, true, true, false, false] rfl rfl (one_of HT_.out (by kernel_rfl)) (by decide) (fun K hK => ?_)
                                refine goes_ Try.func19 (by kernel_rfl) rfl #[.slice Ao25 t411.length co25, .slice Ao85 t438.length co85] (by rfl) rfl rfl (by (try simp only [List.map_toArray, List.map_cons, List.map_nil]); first | done | rfl | (simp only [List.length_drop, List.length_take]; rfl)) ?_
                                with_reducible refine (laws_lwSame.calls _ _ t411 _ _ t438 t441 _ ?side1 ?side2 ?side3 ?side4 A80.out).mono ?_
                                (case side1 => repeat (first | exact (RA_reads' HO_415001.out).2.2 | (with_reducible refine Kd.C_alloc ?_ _) | (with_reducible refine Kd.C_drewN ?_ _) | (with_reducible refine Kd.C_drew ?_)))
                                (case side2 => exact (RA_reads' HO_415001.out).2.1)
                                (case side3 => repeat (first | exact (RA_reads' HO440.out).2.2 | (with_reducible refine Kd.C_alloc ?_ _) | (with_reducible refine Kd.C_drewN ?_ _) | (with_reducible refine Kd.C_drew ?_)))
                                (case side4 => exact (RA_reads' HO440.out).2.1)
                                rintro e w' ⟨rfl, ⟨nd, rfl⟩⟩
                                refine ⟨_, rfl, ?_⟩
                                refine hK.out _ _ ⟨(blk_cell BK409.out 0).trans rfl, (blk_cell BK409.out 1).trans rfl, (blk_cell BK414.out 0).trans rfl, (blk_cell BK414.out 1).trans rfl⟩ (fun hHeld => ?_)
                                clear hK K
                                refine norm_ (a' := ?_) ?_ ?_
                                rotate_left
                                · show Act.put _ (some 99) _ = _
                                  simp only [Act.put, List.setIfInBounds_toArray, List.set_cons_zero, List.set_cons_succ, i64_w, i32_w]
                                  rfl
                                refine pure_ (i := 13) (N := some 100) (v := ?_) (a' := ?_) #[true, true, true, true, true, true, true, true, true, true, true, true, true, true, false] rfl rfl (any_of HT_.out (by kernel_rfl)) (fun _ _ _ h => h) (Or.inl ⟨by rfl, ?_⟩) ?_ ?_
                                rotate_left
                                · intro w'
                                  go_simp
                                  with_reducible rfl
                                rotate_left
                                · simp only [Act.put, List.setIfInBounds_toArray, List.set_cons_zero, List.set_cons_succ, i64_w, i32_w]
                                  rfl
                                refine pure_ (i := 14) (N := some 2) (v := ?_) (a' := ?_) #[true, true, true, true, true, true, true, true, true, true, true, true, true, true, true] rfl rfl (any_of HT_.out (by kernel_rfl)) (fun _ _ _ h => h) (Or.inl ⟨by rfl, ?_⟩) ?_ ?_
                                rotate_left
                                · intro w'
                                  go_simp
                                  with_reducible rfl
                                rotate_left
                                · simp only [Act.put, List.setIfInBounds_toArray, List.set_cons_zero, List.set_cons_succ, i64_w, i32_w]
                                  rfl
                                refine done_ (done_of HT_.out (by kernel_rfl)) ?_
                                try go_wp2
                                go_ret
                                exact ⟨by first | rfl | (simp [errW_none, errW_some] <;> rfl) | (simp [*, errW_none, errW_some] <;> rfl), by repeat (first | (with_reducible first | exact HB.out | apply below_alloc | apply pw_below_drewN | apply below_drew1 | refine below_set ?_ GE404.out | refine below_set ?_ GE409.out | refine below_set ?_ GE414.out) | exact HB.out)⟩
                              · replace c78 := Bool.eq_false_iff.mpr c78
                                subst c78
                                have H1 : (some false) = some r := by rw [if_neg (show ¬ (false = true) by decide)] at H; exact H
                                clear H
                                have H := H1
                                clear H1
                                obtain rfl := Option.some.inj H
                                try go_wp2
                                have n0_ := Aside0.mk (RA_drew HO_3.out)
                                have n1_ := Aside0.mk (RA_drew HO_405001.out)
                                have n2_ := Aside0.mk (RA_drew HO_410001.out)
                                have n3_ := Aside0.mk (RA_drew HO_415001.out)
                                have n4_ := Aside0.mk (blk_drew BK404.out)
                                have n5_ := Aside0.mk (blk_drew BK409.out)
                                have n6_ := Aside0.mk (blk_drew BK414.out)
                                have n7_ := Aside0.mk (below_drew1 HB.out)
                                clear HO_3
                                clear HO_405001
                                clear HO_410001
                                clear HO_415001
                                clear BK404
                                clear BK409
                                clear BK414
                                clear HB
                                have HO_3 := n0_
                                have HO_405001 := n1_
                                have HO_410001 := n2_
                                have HO_415001 := n3_
                                have BK404 := n4_
                                have BK409 := n5_
                                have BK414 := n6_
                                have HB := n7_
                                clear n0_ n1_ n2_ n3_ n4_ n5_ n6_ n7_
                                refine start_ (n := 15) (S := fun w' => w'.cell? ⟨gb409, 0, none⟩ = some (.int .i64 t405) ∧ w'.cell? ⟨gb409, 1, none⟩ = some (.slice Ao19 t406.length co19)) (ds := []) #[false, false, false, false, false, false, false, false, false, false, false, false, false, false, false] (by kernel_rfl) rfl rfl ⟨(blk_cell BK409.out 0).trans rfl, (blk_cell BK409.out 1).trans rfl⟩ (fun hHeld => ?_); refine with_tabW laws_FnRows.tab25 laws_FnRows.bits25 (fun HT_ HW_ => ?_)
                                generalize wr.drew = w86 at HO_3 HO_405001 HO_410001 HO_415001 BK404 BK409 BK414 HB hHeld ⊢
                                refine pure_ (i := 0) (N := some 87) (v := ?_) (a' := ?_) #[true, false, false, false, false, false, false, false, false, false, false, false, false, false, false] rfl rfl (any_of HT_.out (by kernel_rfl)) (fun _ _ _ h => h) (Or.inl ⟨by rfl, ?_⟩) ?_ ?_
                                rotate_left
                                · intro w'
                                  go_simp
                                  with_reducible rfl
                                rotate_left
                                · simp only [Act.put, List.setIfInBounds_toArray, List.set_cons_zero, List.set_cons_succ, i64_w, i32_w]
                                  rfl
                                refine pure_ (i := 2) (N := some 89) (v := ?_) (a' := ?_) #[true, false, true, false, false, false, false, false, false, false, false, false, false, false, false] rfl rfl (any_of HT_.out (by kernel_rfl)) (fun _ _ _ h => h) (Or.inl ⟨by rfl, ?_⟩) ?_ ?_
                                rotate_left
                                · intro w'
                                  go_simp
                                  with_reducible rfl
                                rotate_left
                                · simp only [Act.put, List.setIfInBounds_toArray, List.set_cons_zero, List.set_cons_succ, i64_w, i32_w]
                                  rfl
                                refine take_ (i := 1) (N := some 88) (v := ?_) (a' := ?_) #[true, true, true, false, false, false, false, false, false, false, false, false, false, false, false] rfl rfl (take_ofW HT_.out HW_.out (by kernel_rfl)) (fun _ _ _ h => h) (Or.inl ⟨by rfl, ?_⟩) hHeld ?_ ?_
                                rotate_left
                                · rintro w' ⟨s0, s1⟩
                                  go_simp
                                  with_reducible rfl
                                rotate_left
                                · simp only [Act.put, List.setIfInBounds_toArray, List.set_cons_zero, List.set_cons_succ, i64_w, i32_w]
                                  rfl
                                refine one_ (i := 3) (N := some 90) #[true, true, true, true, false, false, false, false, false, false, false, false, false, false, false] rfl rfl (one_of HT_.out (by kernel_rfl)) (by decide) (fun K hK => ?_)
                                refine goes_ Try.func26 (by kernel_rfl) rfl #[.slice Ao10 t397.length co10] (by rfl) rfl rfl (by (try simp only [List.map_toArray, List.map_cons, List.map_nil]); first | done | rfl | (simp only [List.length_drop, List.length_take]; rfl)) ?_
                                with_reducible refine (spec_ShiftRows.calls k4 _ _ t397 t432 t433 _ ?side1 ?side2 A76.out).mono ?_
                                (case side1 => repeat (first | exact (RA_reads' HO_3.out).2.2 | (with_reducible refine Kd.C_alloc ?_ _) | (with_reducible refine Kd.C_drewN ?_ _) | (with_reducible refine Kd.C_drew ?_)))
                                (case side2 => exact (RA_reads' HO_3.out).2.1)
                                rintro e w87 ⟨v434, rfl, ho0, hb⟩; have ho0 := RA_of (by decide) ho0
                                refine ⟨_, rfl, ?_⟩
                                have n0_ := Aside0.mk (RA_elder' (by (with_reducible repeat (first | apply RA_alloc | apply RA_drewN | apply RA_drew)); exact HO_3.out) (RA_base ho0) hb)
                                have n1_ := Aside0.mk (RA_elder' (by (with_reducible repeat (first | apply RA_alloc | apply RA_drewN | apply RA_drew)); exact HO_405001.out) (RA_base ho0) hb)
                                have n2_ := Aside0.mk (RA_elder' (by (with_reducible repeat (first | apply RA_alloc | apply RA_drewN | apply RA_drew)); exact HO_410001.out) (RA_base ho0) hb)
                                have n3_ := Aside0.mk (RA_elder' (by (with_reducible repeat (first | apply RA_alloc | apply RA_drewN | apply RA_drew)); exact HO_415001.out) (RA_base ho0) hb)
                                have n4_ := Aside0.mk (RA_lower (RA_new' (RA_new' (RA_new' (RA_new' ho0 (RA_lt (by (with_reducible repeat (first | apply RA_alloc | apply RA_drewN | apply RA_drew)); exact HO_3.out))) (RA_lt (by (with_reducible repeat (first | apply RA_alloc | apply RA_drewN | apply RA_drew)); exact HO_405001.out))) (RA_lt (by (with_reducible repeat (first | apply RA_alloc | apply RA_drewN | apply RA_drew)); exact HO_410001.out))) (RA_lt (by (with_reducible repeat (first | apply RA_alloc | apply RA_drewN | apply RA_drew)); exact HO_415001.out))) (below_size (by repeat (first | (with_reducible first | exact HB.out | apply below_alloc | apply pw_below_drewN | apply below_drew1 | refine below_set ?_ GE404.out | refine below_set ?_ GE409.out | refine below_set ?_ GE414.out) | exact HB.out))))
                                have n5_ := Aside0.mk (blk_below (g := gb404) (o := .cells #[.int .i64 t400, .slice Ao14 t401.length co14] 27 (0, 0)) (by (with_reducible repeat (first | refine blk_drewN ?_ _ | refine blk_drew ?_ | refine blk_alloc ?_ _)); exact BK404.out) hb)
                                have n6_ := Aside0.mk (blk_below (g := gb409) (o := .cells #[.int .i64 t405, .slice Ao19 t406.length co19] 27 (0, 0)) (by (with_reducible repeat (first | refine blk_drewN ?_ _ | refine blk_drew ?_ | refine blk_alloc ?_ _)); exact BK409.out) hb)
                                have n7_ := Aside0.mk (blk_below (g := gb414) (o := .cells #[.int .i64 t410, .slice Ao25 t411.length co25] 27 (0, 0)) (by (with_reducible repeat (first | refine blk_drewN ?_ _ | refine blk_drew ?_ | refine blk_alloc ?_ _)); exact BK414.out) hb)
                                have n8_ := Aside0.mk (below_step (by repeat (first | (with_reducible first | exact HB.out | apply below_alloc | apply pw_below_drewN | apply below_drew1 | refine below_set ?_ GE404.out | refine below_set ?_ GE409.out | refine below_set ?_ GE414.out) | exact HB.out)) hb)
                                clear HO_3
                                clear HO_405001
                                clear HO_410001
                                clear HO_415001
                                clear BK404
                                clear BK409
                                clear BK414
                                clear HB
                                have HO_3 := n0_
                                have HO_405001 := n1_
                                have HO_410001 := n2_
                                have HO_415001 := n3_
                                have HO435 := n4_
                                have BK404 := n5_
                                have BK409 := n6_
                                have BK414 := n7_
                                have HB := n8_
                                clear n0_ n1_ n2_ n3_ n4_ n5_ n6_ n7_ n8_
                                (try clear hb)
                                (try clear hb2)
                                (try clear hk)
                                (try clear hi)
                                (try clear ho0)
                                obtain ⟨Ao88, co88, eo88⟩ := RA_slice HO435.out
                                (first | subst eo88 | (injection eo88 with f1_ f2_ f3_; have f4_ := f1_.symm; have f5_ := f3_.symm; clear f1_ f2_ f3_; subst f4_; subst f5_))
                                refine hK.out _ _ ⟨(blk_cell BK409.out 0).trans rfl, (blk_cell BK409.out 1).trans rfl⟩ (fun hHeld => ?_)
                                clear hK K
                                refine norm_ (a' := ?_) ?_ ?_
                                rotate_left
                                · show Act.put _ (some 90) _ = _
                                  simp only [Act.put, List.setIfInBounds_toArray, List.set_cons_zero, List.set_cons_succ, i64_w, i32_w]
                                  rfl
                                refine pure_ (i := 4) (N := some 91) (v := ?_) (a' := ?_) #[true, true, true, true, true, false, false, false, false, false, false, false, false, false, false] rfl rfl (any_of HT_.out (by kernel_rfl)) (fun _ _ _ h => h) (Or.inl ⟨by rfl, ?_⟩) ?_ ?_
                                rotate_left
                                · intro w'
                                  go_simp
                                  with_reducible rfl
                                rotate_left
                                · simp only [Act.put, List.setIfInBounds_toArray, List.set_cons_zero, List.set_cons_succ, i64_w, i32_w]
                                  rfl
                                refine one_ (i := 5) (N := some 92) #[true, true, true, true, true, true, false, false, false, false, false, false, false, false, false] rfl rfl (one_of HT_.out (by kernel_rfl)) (by decide) (fun K hK => ?_)
                                refine goes_ Try.func19 (by kernel_rfl) rfl #[.slice Ao19 t406.length co19, .slice Ao88 t433.length co88] (by rfl) rfl rfl (by (try simp only [List.map_toArray, List.map_cons, List.map_nil]); first | done | rfl | (simp only [List.length_drop, List.length_take]; rfl)) ?_
                                with_reducible refine (laws_lwSame.calls _ _ t406 _ _ t433 false _ ?side1 ?side2 ?side3 ?side4 A77.out).mono ?_
                                (case side1 => repeat (first | exact (RA_reads' HO_410001.out).2.2 | (with_reducible refine Kd.C_alloc ?_ _) | (with_reducible refine Kd.C_drewN ?_ _) | (with_reducible refine Kd.C_drew ?_)))
                                (case side2 => exact (RA_reads' HO_410001.out).2.1)
                                (case side3 => repeat (first | exact (RA_reads' HO435.out).2.2 | (with_reducible refine Kd.C_alloc ?_ _) | (with_reducible refine Kd.C_drewN ?_ _) | (with_reducible refine Kd.C_drew ?_)))
                                (case side4 => exact (RA_reads' HO435.out).2.1)
                                rintro e w' ⟨rfl, ⟨nd, rfl⟩⟩
                                refine ⟨_, rfl, ?_⟩
                                refine hK.out _ _ ⟨(blk_cell BK409.out 0).trans rfl, (blk_cell BK409.out 1).trans rfl⟩ (fun hHeld => ?_)
                                clear hK K
                                refine norm_ (a' := ?_) ?_ ?_
                                rotate_left
                                · show Act.put _ (some 92) _ = _
                                  simp only [Act.put, List.setIfInBounds_toArray, List.set_cons_zero, List.set_cons_succ, i64_w, i32_w]
                                  rfl
                                refine pure_ (i := 6) (N := some 93) (v := ?_) (a' := ?_) #[true, true, true, true, true, true, true, false, false, false, false, false, false, false, false] rfl rfl (any_of HT_.out (by kernel_rfl)) (fun _ _ _ h => h) (Or.inl ⟨by rfl, ?_⟩) ?_ ?_
                                rotate_left
                                · intro w'
                                  go_simp
                                  with_reducible rfl
                                rotate_left
                                · simp only [Act.put, List.setIfInBounds_toArray, List.set_cons_zero, List.set_cons_succ, i64_w, i32_w]
                                  rfl
                                refine pure_ (i := 7) (N := some 94) (v := undef) (a' := ?_) #[true, true, true, true, true, true, true, true, false, false, false, false, false, false, false] rfl rfl (any_of HT_.out (by kernel_rfl)) (fun _ _ _ h => h) (Or.inr ⟨by rfl, rfl⟩) ?_ ?_
                                rotate_left
                                · simp only [Act.put, List.setIfInBounds_toArray, List.set_cons_zero, List.set_cons_succ, i64_w, i32_w]
                                  rfl
                                refine pure_ (i := 8) (N := some 95) (v := undef) (a' := ?_) #[true, true, true, true, true, true, true, true, true, false, false, false, false, false, false] rfl rfl (any_of HT_.out (by kernel_rfl)) (fun _ _ _ h => h) (Or.inr ⟨by rfl, rfl⟩) ?_ ?_
                                rotate_left
                                · simp only [Act.put, List.setIfInBounds_toArray, List.set_cons_zero, List.set_cons_succ, i64_w, i32_w]
                                  rfl
                                refine pure_ (i := 9) (N := some 96) (v := undef) (a' := ?_) #[true, true, true, true, true, true, true, true, true, true, false, false, false, false, false] rfl rfl (any_of HT_.out (by kernel_rfl)) (fun _ _ _ h => h) (Or.inr ⟨by rfl, rfl⟩) ?_ ?_
                                rotate_left
                                · simp only [Act.put, List.setIfInBounds_toArray, List.set_cons_zero, List.set_cons_succ, i64_w, i32_w]
                                  rfl
                                refine pure_ (i := 10) (N := some 97) (v := undef) (a' := ?_) #[true, true, true, true, true, true, true, true, true, true, true, false, false, false, false] rfl rfl (any_of HT_.out (by kernel_rfl)) (fun _ _ _ h => h) (Or.inr ⟨by rfl, rfl⟩) ?_ ?_
                                rotate_left
                                · simp only [Act.put, List.setIfInBounds_toArray, List.set_cons_zero, List.set_cons_succ, i64_w, i32_w]
                                  rfl
                                refine pure_ (i := 11) (N := some 98) (v := undef) (a' := ?_) #[true, true, true, true, true, true, true, true, true, true, true, true, false, false, false] rfl rfl (any_of HT_.out (by kernel_rfl)) (fun _ _ _ h => h) (Or.inr ⟨by rfl, rfl⟩) ?_ ?_
                                rotate_left
                                · simp only [Act.put, List.setIfInBounds_toArray, List.set_cons_zero, List.set_cons_succ, i64_w, i32_w]
                                  rfl
                                refine pure_ (i := 12) (N := some 99) (v := undef) (a' := ?_) #[true, true, true, true, true, true, true, true, true, true, true, true, true, false, false] rfl rfl (any_of HT_.out (by kernel_rfl)) (fun _ _ _ h => h) (Or.inr ⟨by rfl, rfl⟩) ?_ ?_
                                rotate_left
                                · simp only [Act.put, List.setIfInBounds_toArray, List.set_cons_zero, List.set_cons_succ, i64_w, i32_w]
                                  rfl
                                refine pure_ (i := 13) (N := some 100) (v := ?_) (a' := ?_) #[true, true, true, true, true, true, true, true, true, true, true, true, true, true, false] rfl rfl (any_of HT_.out (by kernel_rfl)) (fun _ _ _ h => h) (Or.inl ⟨by rfl, ?_⟩) ?_ ?_
                                rotate_left
                                · intro w'
                                  go_simp
                                  with_reducible rfl
                                rotate_left
                                · simp only [Act.put, List.setIfInBounds_toArray, List.set_cons_zero, List.set_cons_succ, i64_w, i32_w]
                                  rfl
                                refine pure_ (i := 14) (N := some 2) (v := ?_) (a' := ?_) #[true, true, true, true, true, true, true, true, true, true, true, true, true, true, true] rfl rfl (any_of HT_.out (by kernel_rfl)) (fun _ _ _ h => h) (Or.inl ⟨by rfl, ?_⟩) ?_ ?_
                                rotate_left
                                · intro w'
                                  go_simp
                                  with_reducible rfl
                                rotate_left
                                · simp only [Act.put, List.setIfInBounds_toArray, List.set_cons_zero, List.set_cons_succ, i64_w, i32_w]
                                  rfl
                                refine done_ (done_of HT_.out (by kernel_rfl)) ?_
                                try go_wp2
                                go_ret
                                exact ⟨by first | rfl | (simp [errW_none, errW_some] <;> rfl) | (simp [*, errW_none, errW_some] <;> rfl), by repeat (first | (with_reducible first | exact HB.out | apply below_alloc | apply pw_below_drewN | apply below_drew1 | refine below_set ?_ GE404.out | refine below_set ?_ GE409.out | refine below_set ?_ GE414.out) | exact HB.out)⟩
          · rw [if_neg c39] at H
            have c39b0 : (t400 == 0) = false := beq_eq_false_iff_ne.mpr c39
            have c39b1 : (t400 != 0) = true := bne_iff_ne.mpr c39
            obtain rfl := Option.some.inj H
            have hnb89 := NB404_409.out
            have hnc89 := NB409_404.out
            have hnb90 := NB404_414.out
            have hnc90 := NB414_404.out
            have hcz91_0 : wc.cell? ⟨gb404, 0, none⟩ = some (.int .i64 t400) := (blk_cell BK404.out 0).trans rfl
            have hcz91_1 : wc.cell? ⟨gb404, 1, none⟩ = some (.slice Ao14 t401.length co14) := (blk_cell BK404.out 1).trans rfl
            have hfz91_0 := blk_frozen BK404.out 0
            have hfz91_1 := blk_frozen BK404.out 1
            go_wp2
            go_ret
            exact ⟨by first | rfl | (simp [errW_none, errW_some] <;> rfl) | (simp [*, errW_none, errW_some] <;> rfl), by repeat (first | (with_reducible first | exact HB.out | apply below_alloc | apply pw_below_drewN | apply below_drew1 | refine below_set ?_ GE404.out | refine below_set ?_ GE409.out | refine below_set ?_ GE414.out) | exact HB.out)⟩

/-- THE ONE PURE STATEMENT of laws_FnRows: yours. -/
def laws_FnRows.Pure : Prop := ∀ (l0 : List Int), l0.length ≤ maxLen → l0.length * 1 ≤ 140737488351232 → (∀ x ∈ l0, (Lit.int .u8 x).wf = true) → ∃ k, laws_FnRows.f k l0 = some true
theorem laws_FnRows.walk (P : laws_FnRows.Pure) (a0 : Option Addr) (len0 cap0 : Nat) (z0 : List Int) (w : World) (w0 : (a0 = none ∧ len0 = 0 ∧ cap0 = 0 ∧ z0 = []) ∨ ∃ x, a0 = some x ∧ len0 ≤ cap0 ∧ cap0 ≤ maxLen ∧ z0.length = cap0 ∧ (∀ i, i < z0.length → w.cell? (x.add i) = some (.int .u8 (z0.getD i 0))) ∧ ∀ n ∈ z0, (Lit.int .u8 n).wf = true) (y0 : len0 * 1 ≤ 140737488351232) :
    Calls Try.prog 4 #[.slice a0 len0 cap0] w fun e w' => e = .returned (.bool true) ∧ Below w.heap.size w w' := by
  obtain ⟨l0, rfl, hr0, hm0, hw0, hc0⟩ := ReadsInt.ofRowC w0
  obtain ⟨k, h⟩ := P l0 hm0 y0 hw0
  refine (laws_FnRows.calls k _ _ l0 true w (Kd.C_of_reads (d := (0 : Int)) (h1 := fun _ => rfl) hr0) hc0 h).mono ?_
  rintro e w' ⟨rfl, hd⟩
  exact ⟨rfl, hd⟩

end Go.Proofs.Ytofickldnpndbaa.All
