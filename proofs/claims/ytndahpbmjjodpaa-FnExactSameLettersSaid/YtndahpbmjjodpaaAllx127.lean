-- Laid by wip/myprint.py of this repo over the kit's print (the functions' texts by the kit's program, some by hand). Not trusted: Lean checks it.
import Derived.Test.YtndahpbmjjodpaaAllx0
import Derived.Test.YtndahpbmjjodpaaAllx46
import Derived.Test.YtndahpbmjjodpaaAllx47
import Derived.Test.YtndahpbmjjodpaaAllx48
import Derived.Test.YtndahpbmjjodpaaAllx49
import Derived.Test.YtndahpbmjjodpaaAllx50
import Derived.Test.YtndahpbmjjodpaaAllx126
namespace Go.Proofs.Ytndahpbmjjodpaa.All
open Go.RowKit Go.Proofs.YtndahpbmjjodpaaW.PrintWords Go.Proofs.YtndahpbmjjodpaaW.PrintLast Go.Proofs.YtndahpbmjjodpaaW.PrintMore
attribute [local go_sem] max2_int min2_int max_two min_two max_three min_three max_four min_four
set_option linter.unusedVariables false
set_option linter.unusedSimpArgs false

open Go.Proofs.YtndahpbmjjodpaaW.PrintWords.Kd renaming R_alloc → az11, R_drewN → bz11, R_drew → cz11, R_below → dz11, R_far → ez11, R_base → fz11, R_mono → gz11, R_types → hz11, R_reads' → iz11, R_elder' → jz11, R_new' → kz11
open Go.Proofs.YtndahpbmjjodpaaW.PrintWords renaming pw_below_drewN → ay11, below_alloc → by11, below_drew1 → cy11, below_set → dy11, blk_drewN → ey11, blk_alloc → fy11, blk_drew → gy11, blk_below → hy11
open Aside0 renaming mk → zz11
set_option maxHeartbeats 8000000 in
set_option maxRecDepth 100000 in
theorem laws_FnExactSameLetters.calls (k : Nat) (a0_0 : Int) (a0_1 : Int) (a0_2 : Int) (A0_3 : Option Addr) (c0_3 : Nat) (l0_3 : List Int) (a1_0 : Int) (a1_1 : Int) (a1_2 : Int) (A1_3 : Option Addr) (c1_3 : Nat) (l1_3 : List Int) (r : Bool) (w : World) (hr0_3 : Kd.C (Kd.int .u8) w A0_3 l0_3.length l0_3) (hc0_3 : l0_3.length ≤ c0_3) (hr1_3 : Kd.C (Kd.int .u8) w A1_3 l1_3.length l1_3) (hc1_3 : l1_3.length ≤ c1_3) (h : laws_FnExactSameLetters.f k a0_0 a0_1 a0_2 l0_3 a1_0 a1_1 a1_2 l1_3 = some r) :
    Calls Try.prog 11 #[.agg #[.int .i64 a0_0, .int .i64 a0_1, .int .i64 a0_2, .slice A0_3 l0_3.length c0_3], .agg #[.int .i64 a1_0, .int .i64 a1_1, .int .i64 a1_2, .slice A1_3 l1_3.length c1_3]] w fun e w' => e = .returned (.bool r) ∧ Below w.heap.size w w' := by
  have hu55 := Try.underlying55
  have hu58 := Try.underlying58
  have HR0_3 := zz11 hr0_3
  have HC0_3 := zz11 hc0_3
  clear hr0_3 hc0_3
  have HR1_3 := zz11 hr1_3
  have HC1_3 := zz11 hc1_3
  clear hr1_3 hc1_3
  have HB := zz11 (Below.refl w.heap.size w)
  have H : ((laws_szLetter.f a0_0 a0_1 a0_2 l0_3 1048576).bind fun t444 => (if t444 < 0 then (some true) else ((laws_szLetter.f a1_0 a1_1 a1_2 l1_3 t444).bind fun t445 => (if t445 < 0 then (some true) else ((laws_toLetter.f k a0_0 a0_1 a0_2 l0_3).bind fun bt446 => ((laws_toLetter.f k a1_0 a1_1 a1_2 l1_3).bind fun bt452 => ((spec_SameLetters.f bt446.1 bt446.2.1 bt446.2.2.1 bt446.2.2.2 bt452.1 bt452.2.1 bt452.2.2.1 bt452.2.2.2).bind fun t458 => ((laws_toLetter.f k a0_0 a0_1 a0_2 l0_3).bind fun bt459 => ((laws_toLetter.f k a1_0 a1_1 a1_2 l1_3).bind fun bt466 => ((impl_SameLetters.f bt459.1 bt459.2.1 bt459.2.2.1 bt459.2.2.2 bt466.1 bt466.2.1 bt466.2.2.1 bt466.2.2.2).bind fun t473 => (if (t473 != t458) = true then (some false) else ((laws_toLetter.f k a0_0 a0_1 a0_2 l0_3).bind fun bt474 => ((laws_eqLetter.f k bt459.1 bt459.2.1 bt459.2.2.1 bt459.2.2.2 bt474.1 bt474.2.1 bt474.2.2.1 bt474.2.2.2).bind fun t480 => (if t480 = true then ((laws_toLetter.f k a1_0 a1_1 a1_2 l1_3).bind fun bt481 => ((laws_eqLetter.f k bt466.1 bt466.2.1 bt466.2.2.1 bt466.2.2.2 bt481.1 bt481.2.1 bt481.2.2.1 bt481.2.2.2).bind fun t487 => (if t487 = true then (some true) else (some false)))) else (some false))))))))))))))) = some r := h
  clear h
  replace H := Option.bind_eq_some_iff.mp H
  obtain ⟨t444, A30, H⟩ := H
  replace H : (if t444 < 0 then (some true) else ((laws_szLetter.f a1_0 a1_1 a1_2 l1_3 t444).bind fun t445 => (if t445 < 0 then (some true) else ((laws_toLetter.f k a0_0 a0_1 a0_2 l0_3).bind fun bt446 => ((laws_toLetter.f k a1_0 a1_1 a1_2 l1_3).bind fun bt452 => ((spec_SameLetters.f bt446.1 bt446.2.1 bt446.2.2.1 bt446.2.2.2 bt452.1 bt452.2.1 bt452.2.2.1 bt452.2.2.2).bind fun t458 => ((laws_toLetter.f k a0_0 a0_1 a0_2 l0_3).bind fun bt459 => ((laws_toLetter.f k a1_0 a1_1 a1_2 l1_3).bind fun bt466 => ((impl_SameLetters.f bt459.1 bt459.2.1 bt459.2.2.1 bt459.2.2.2 bt466.1 bt466.2.1 bt466.2.2.1 bt466.2.2.2).bind fun t473 => (if (t473 != t458) = true then (some false) else ((laws_toLetter.f k a0_0 a0_1 a0_2 l0_3).bind fun bt474 => ((laws_eqLetter.f k bt459.1 bt459.2.1 bt459.2.2.1 bt459.2.2.2 bt474.1 bt474.2.1 bt474.2.2.1 bt474.2.2.2).bind fun t480 => (if t480 = true then ((laws_toLetter.f k a1_0 a1_1 a1_2 l1_3).bind fun bt481 => ((laws_eqLetter.f k bt466.1 bt466.2.1 bt466.2.2.1 bt466.2.2.2 bt481.1 bt481.2.1 bt481.2.2.1 bt481.2.2.2).bind fun t487 => (if t487 = true then (some true) else (some false)))) else (some false)))))))))))))) = some r := H
  have A3 := zz11 A30
  clear A30
  by_cases c4 : t444 < 0
  · rw [if_pos c4] at H
    have c4b0 : decide (t444 < 0) = true := decide_eq_true c4
    clear c4
    obtain rfl := Option.some.inj H
    go_enter Try.func11, Try.ntmps11
    go_wp2_with (first | ((with_reducible refine gate_dst (N := 2) rfl ?_); refine box_event ?hg (N := 2) ?hd (cs := #[.int .i64 a0_0, .int .i64 a0_1, .int .i64 a0_2, .slice A0_3 l0_3.length c0_3]) (t := 55) ?hr ?_; (case hd => rfl); (case hg => rfl); (case hr => first | (go_simp; done) | (go_simp; rfl)); intro gb442 hg w5 hbox hb; have n0_ := zz11 (below_step (by repeat (first | (with_reducible first | exact HB.out | apply by11 | apply ay11 | apply cy11) | exact HB.out)) hb); have n1_ := zz11 (hbox); have n2_ := zz11 ((by rw [hg]; exact (below_size (by repeat (first | (with_reducible first | exact HB.out | apply by11 | apply ay11 | apply cy11) | exact HB.out))) : w.heap.size ≤ gb442)); have n3_ := zz11 ((by rw [hg]; exact (below_size (by repeat (first | (with_reducible first | exact HB.out | apply by11 | apply ay11 | apply cy11) | exact HB.out))) : w.heap.size ≤ gb442)); clear HB; have HB := n0_; have BK442 := n1_; have GW442 := n2_; have GE442 := n3_; clear n0_ n1_ n2_ n3_; clear hb hbox hg) | ((with_reducible refine gate_dst (N := 3) rfl ?_); refine box_event ?hg (N := 3) ?hd (cs := #[.int .i64 a1_0, .int .i64 a1_1, .int .i64 a1_2, .slice A1_3 l1_3.length c1_3]) (t := 55) ?hr ?_; (case hd => rfl); (case hg => rfl); (case hr => first | (go_simp; done) | (go_simp; rfl)); intro gb443 hg w6 hbox hb; have n0_ := zz11 (hy11 (g := gb442) (o := .cells #[.int .i64 a0_0, .int .i64 a0_1, .int .i64 a0_2, .slice A0_3 l0_3.length c0_3] 55 (0, 0)) (by (with_reducible repeat (first | refine ey11 ?_ _ | refine gy11 ?_ | refine fy11 ?_ _)); exact BK442.out) hb); have n1_ := zz11 (below_step (by repeat (first | (with_reducible first | exact HB.out | apply by11 | apply ay11 | apply cy11 | refine dy11 ?_ GE442.out) | exact HB.out)) hb); have n2_ := zz11 (hbox); have n3_ := zz11 ((by rw [hg]; exact (below_size (by repeat (first | (with_reducible first | exact HB.out | apply by11 | apply ay11 | apply cy11 | refine dy11 ?_ GE442.out) | exact HB.out))) : w.heap.size ≤ gb443)); have n4_ := zz11 ((by rw [hg]; exact (below_size (by repeat (first | (with_reducible first | exact HB.out | apply by11 | apply ay11 | apply cy11 | refine dy11 ?_ GE442.out) | exact HB.out))) : w.heap.size ≤ gb443)); have n5_ := zz11 ((by rw [hg]; exact Nat.ne_of_lt (blk_lt (g := gb442) (o := .cells #[.int .i64 a0_0, .int .i64 a0_1, .int .i64 a0_2, .slice A0_3 l0_3.length c0_3] 55 (0, 0)) (by (with_reducible repeat (first | refine ey11 ?_ _ | refine gy11 ?_ | refine fy11 ?_ _)); exact BK442.out)) : gb442 ≠ gb443)); have n6_ := zz11 ((by rw [hg]; exact Nat.ne_of_gt (blk_lt (g := gb442) (o := .cells #[.int .i64 a0_0, .int .i64 a0_1, .int .i64 a0_2, .slice A0_3 l0_3.length c0_3] 55 (0, 0)) (by (with_reducible repeat (first | refine ey11 ?_ _ | refine gy11 ?_ | refine fy11 ?_ _)); exact BK442.out)) : gb443 ≠ gb442)); clear BK442; clear HB; have BK442 := n0_; have HB := n1_; have BK443 := n2_; have GW443 := n3_; have GE443 := n4_; have NB442_443 := n5_; have NB443_442 := n6_; clear n0_ n1_ n2_ n3_ n4_ n5_ n6_; clear hb hbox hg; have hnb7 := NB442_443.out; have hnc7 := NB443_442.out; have hcz8_0 : w6.cell? ⟨gb442, 0, none⟩ = some (.int .i64 a0_0) := (blk_cell BK442.out 0).trans rfl; have hcz8_1 : w6.cell? ⟨gb442, 1, none⟩ = some (.int .i64 a0_1) := (blk_cell BK442.out 1).trans rfl; have hcz8_2 : w6.cell? ⟨gb442, 2, none⟩ = some (.int .i64 a0_2) := (blk_cell BK442.out 2).trans rfl; have hcz8_3 : w6.cell? ⟨gb442, 3, none⟩ = some (.slice A0_3 l0_3.length c0_3) := (blk_cell BK442.out 3).trans rfl; have hfz8_0 := blk_frozen BK442.out 0; have hfz8_1 := blk_frozen BK442.out 1; have hfz8_2 := blk_frozen BK442.out 2; have hfz8_3 := blk_frozen BK442.out 3) | ((with_reducible refine gate_callee (f := 41) rfl ?_); refine goesL_ (some 12) rfl rfl Try.func41 (by kernel_rfl) rfl #[.agg #[.int .i64 a0_0, .int .i64 a0_1, .int .i64 a0_2, .slice A0_3 l0_3.length c0_3], .int .i64 1048576] rfl (by (try simp only [List.map_toArray, List.map_cons, List.map_nil]); first | done | rfl | (simp only [List.length_drop, List.length_take]; rfl)) ?_; (with_reducible refine (laws_szLetter.calls a0_0 a0_1 a0_2 _ _ l0_3 1048576 t444 _ ?side1 ?side2 A3.out).mono ?_); (case side1 => repeat (first | exact (Kd.C_below HR0_3.out HB.out) | (with_reducible refine Kd.C_alloc ?_ _) | (with_reducible refine Kd.C_drewN ?_ _) | (with_reducible refine Kd.C_drew ?_))); (case side2 => exact HC0_3.out); rintro e w9 ⟨rfl, hb⟩; refine ⟨_, rfl, ?_⟩; have n0_ := zz11 (hy11 (g := gb442) (o := .cells #[.int .i64 a0_0, .int .i64 a0_1, .int .i64 a0_2, .slice A0_3 l0_3.length c0_3] 55 (0, 0)) (by (with_reducible repeat (first | refine ey11 ?_ _ | refine gy11 ?_ | refine fy11 ?_ _)); exact BK442.out) hb); have n1_ := zz11 (hy11 (g := gb443) (o := .cells #[.int .i64 a1_0, .int .i64 a1_1, .int .i64 a1_2, .slice A1_3 l1_3.length c1_3] 55 (0, 0)) (by (with_reducible repeat (first | refine ey11 ?_ _ | refine gy11 ?_ | refine fy11 ?_ _)); exact BK443.out) hb); have n2_ := zz11 (below_step (by repeat (first | (with_reducible first | exact HB.out | apply by11 | apply ay11 | apply cy11 | refine dy11 ?_ GE442.out | refine dy11 ?_ GE443.out) | exact HB.out)) hb); clear BK442; clear BK443; clear HB; have BK442 := n0_; have BK443 := n1_; have HB := n2_; clear n0_ n1_ n2_; (try clear hb); (try clear hb2); (try clear hk); (try clear hi)))
    go_ret
    exact ⟨by first | rfl | (simp [errW_none, errW_some] <;> rfl) | (simp [*, errW_none, errW_some] <;> rfl), by repeat (first | (with_reducible first | exact HB.out | apply by11 | apply ay11 | apply cy11 | refine dy11 ?_ GE442.out | refine dy11 ?_ GE443.out) | exact HB.out)⟩
  · rw [if_neg c4] at H
    have c4b0 : decide (t444 < 0) = false := decide_eq_false c4
    clear c4
    replace H := Option.bind_eq_some_iff.mp H
    obtain ⟨t445, A100, H⟩ := H
    replace H : (if t445 < 0 then (some true) else ((laws_toLetter.f k a0_0 a0_1 a0_2 l0_3).bind fun bt446 => ((laws_toLetter.f k a1_0 a1_1 a1_2 l1_3).bind fun bt452 => ((spec_SameLetters.f bt446.1 bt446.2.1 bt446.2.2.1 bt446.2.2.2 bt452.1 bt452.2.1 bt452.2.2.1 bt452.2.2.2).bind fun t458 => ((laws_toLetter.f k a0_0 a0_1 a0_2 l0_3).bind fun bt459 => ((laws_toLetter.f k a1_0 a1_1 a1_2 l1_3).bind fun bt466 => ((impl_SameLetters.f bt459.1 bt459.2.1 bt459.2.2.1 bt459.2.2.2 bt466.1 bt466.2.1 bt466.2.2.1 bt466.2.2.2).bind fun t473 => (if (t473 != t458) = true then (some false) else ((laws_toLetter.f k a0_0 a0_1 a0_2 l0_3).bind fun bt474 => ((laws_eqLetter.f k bt459.1 bt459.2.1 bt459.2.2.1 bt459.2.2.2 bt474.1 bt474.2.1 bt474.2.2.1 bt474.2.2.2).bind fun t480 => (if t480 = true then ((laws_toLetter.f k a1_0 a1_1 a1_2 l1_3).bind fun bt481 => ((laws_eqLetter.f k bt466.1 bt466.2.1 bt466.2.2.1 bt466.2.2.2 bt481.1 bt481.2.1 bt481.2.2.1 bt481.2.2.2).bind fun t487 => (if t487 = true then (some true) else (some false)))) else (some false)))))))))))) = some r := H
    have A10 := zz11 A100
    clear A100
    by_cases c11 : t445 < 0
    · rw [if_pos c11] at H
      have c11b0 : decide (t445 < 0) = true := decide_eq_true c11
      clear c11
      obtain rfl := Option.some.inj H
      go_enter Try.func11, Try.ntmps11
      go_wp2_with (first | ((with_reducible refine gate_dst (N := 2) rfl ?_); refine box_event ?hg (N := 2) ?hd (cs := #[.int .i64 a0_0, .int .i64 a0_1, .int .i64 a0_2, .slice A0_3 l0_3.length c0_3]) (t := 55) ?hr ?_; (case hd => rfl); (case hg => rfl); (case hr => first | (go_simp; done) | (go_simp; rfl)); intro gb442 hg w12 hbox hb; have n0_ := zz11 (below_step (by repeat (first | (with_reducible first | exact HB.out | apply by11 | apply ay11 | apply cy11) | exact HB.out)) hb); have n1_ := zz11 (hbox); have n2_ := zz11 ((by rw [hg]; exact (below_size (by repeat (first | (with_reducible first | exact HB.out | apply by11 | apply ay11 | apply cy11) | exact HB.out))) : w.heap.size ≤ gb442)); have n3_ := zz11 ((by rw [hg]; exact (below_size (by repeat (first | (with_reducible first | exact HB.out | apply by11 | apply ay11 | apply cy11) | exact HB.out))) : w.heap.size ≤ gb442)); clear HB; have HB := n0_; have BK442 := n1_; have GW442 := n2_; have GE442 := n3_; clear n0_ n1_ n2_ n3_; clear hb hbox hg) | ((with_reducible refine gate_dst (N := 3) rfl ?_); refine box_event ?hg (N := 3) ?hd (cs := #[.int .i64 a1_0, .int .i64 a1_1, .int .i64 a1_2, .slice A1_3 l1_3.length c1_3]) (t := 55) ?hr ?_; (case hd => rfl); (case hg => rfl); (case hr => first | (go_simp; done) | (go_simp; rfl)); intro gb443 hg w13 hbox hb; have n0_ := zz11 (hy11 (g := gb442) (o := .cells #[.int .i64 a0_0, .int .i64 a0_1, .int .i64 a0_2, .slice A0_3 l0_3.length c0_3] 55 (0, 0)) (by (with_reducible repeat (first | refine ey11 ?_ _ | refine gy11 ?_ | refine fy11 ?_ _)); exact BK442.out) hb); have n1_ := zz11 (below_step (by repeat (first | (with_reducible first | exact HB.out | apply by11 | apply ay11 | apply cy11 | refine dy11 ?_ GE442.out) | exact HB.out)) hb); have n2_ := zz11 (hbox); have n3_ := zz11 ((by rw [hg]; exact (below_size (by repeat (first | (with_reducible first | exact HB.out | apply by11 | apply ay11 | apply cy11 | refine dy11 ?_ GE442.out) | exact HB.out))) : w.heap.size ≤ gb443)); have n4_ := zz11 ((by rw [hg]; exact (below_size (by repeat (first | (with_reducible first | exact HB.out | apply by11 | apply ay11 | apply cy11 | refine dy11 ?_ GE442.out) | exact HB.out))) : w.heap.size ≤ gb443)); have n5_ := zz11 ((by rw [hg]; exact Nat.ne_of_lt (blk_lt (g := gb442) (o := .cells #[.int .i64 a0_0, .int .i64 a0_1, .int .i64 a0_2, .slice A0_3 l0_3.length c0_3] 55 (0, 0)) (by (with_reducible repeat (first | refine ey11 ?_ _ | refine gy11 ?_ | refine fy11 ?_ _)); exact BK442.out)) : gb442 ≠ gb443)); have n6_ := zz11 ((by rw [hg]; exact Nat.ne_of_gt (blk_lt (g := gb442) (o := .cells #[.int .i64 a0_0, .int .i64 a0_1, .int .i64 a0_2, .slice A0_3 l0_3.length c0_3] 55 (0, 0)) (by (with_reducible repeat (first | refine ey11 ?_ _ | refine gy11 ?_ | refine fy11 ?_ _)); exact BK442.out)) : gb443 ≠ gb442)); clear BK442; clear HB; have BK442 := n0_; have HB := n1_; have BK443 := n2_; have GW443 := n3_; have GE443 := n4_; have NB442_443 := n5_; have NB443_442 := n6_; clear n0_ n1_ n2_ n3_ n4_ n5_ n6_; clear hb hbox hg; have hnb14 := NB442_443.out; have hnc14 := NB443_442.out; have hcz15_0 : w13.cell? ⟨gb442, 0, none⟩ = some (.int .i64 a0_0) := (blk_cell BK442.out 0).trans rfl; have hcz15_1 : w13.cell? ⟨gb442, 1, none⟩ = some (.int .i64 a0_1) := (blk_cell BK442.out 1).trans rfl; have hcz15_2 : w13.cell? ⟨gb442, 2, none⟩ = some (.int .i64 a0_2) := (blk_cell BK442.out 2).trans rfl; have hcz15_3 : w13.cell? ⟨gb442, 3, none⟩ = some (.slice A0_3 l0_3.length c0_3) := (blk_cell BK442.out 3).trans rfl; have hfz15_0 := blk_frozen BK442.out 0; have hfz15_1 := blk_frozen BK442.out 1; have hfz15_2 := blk_frozen BK442.out 2; have hfz15_3 := blk_frozen BK442.out 3) | ((with_reducible refine gate_callee (f := 41) rfl ?_); refine goesL_ (some 12) rfl rfl Try.func41 (by kernel_rfl) rfl #[.agg #[.int .i64 a0_0, .int .i64 a0_1, .int .i64 a0_2, .slice A0_3 l0_3.length c0_3], .int .i64 1048576] rfl (by (try simp only [List.map_toArray, List.map_cons, List.map_nil]); first | done | rfl | (simp only [List.length_drop, List.length_take]; rfl)) ?_; (with_reducible refine (laws_szLetter.calls a0_0 a0_1 a0_2 _ _ l0_3 1048576 t444 _ ?side1 ?side2 A3.out).mono ?_); (case side1 => repeat (first | exact (Kd.C_below HR0_3.out HB.out) | (with_reducible refine Kd.C_alloc ?_ _) | (with_reducible refine Kd.C_drewN ?_ _) | (with_reducible refine Kd.C_drew ?_))); (case side2 => exact HC0_3.out); rintro e w16 ⟨rfl, hb⟩; refine ⟨_, rfl, ?_⟩; have n0_ := zz11 (hy11 (g := gb442) (o := .cells #[.int .i64 a0_0, .int .i64 a0_1, .int .i64 a0_2, .slice A0_3 l0_3.length c0_3] 55 (0, 0)) (by (with_reducible repeat (first | refine ey11 ?_ _ | refine gy11 ?_ | refine fy11 ?_ _)); exact BK442.out) hb); have n1_ := zz11 (hy11 (g := gb443) (o := .cells #[.int .i64 a1_0, .int .i64 a1_1, .int .i64 a1_2, .slice A1_3 l1_3.length c1_3] 55 (0, 0)) (by (with_reducible repeat (first | refine ey11 ?_ _ | refine gy11 ?_ | refine fy11 ?_ _)); exact BK443.out) hb); have n2_ := zz11 (below_step (by repeat (first | (with_reducible first | exact HB.out | apply by11 | apply ay11 | apply cy11 | refine dy11 ?_ GE442.out | refine dy11 ?_ GE443.out) | exact HB.out)) hb); clear BK442; clear BK443; clear HB; have BK442 := n0_; have BK443 := n1_; have HB := n2_; clear n0_ n1_ n2_; (try clear hb); (try clear hb2); (try clear hk); (try clear hi); have hcz17_0 : w16.cell? ⟨gb443, 0, none⟩ = some (.int .i64 a1_0) := (blk_cell BK443.out 0).trans rfl; have hcz17_1 : w16.cell? ⟨gb443, 1, none⟩ = some (.int .i64 a1_1) := (blk_cell BK443.out 1).trans rfl; have hcz17_2 : w16.cell? ⟨gb443, 2, none⟩ = some (.int .i64 a1_2) := (blk_cell BK443.out 2).trans rfl; have hcz17_3 : w16.cell? ⟨gb443, 3, none⟩ = some (.slice A1_3 l1_3.length c1_3) := (blk_cell BK443.out 3).trans rfl; have hfz17_0 := blk_frozen BK443.out 0; have hfz17_1 := blk_frozen BK443.out 1; have hfz17_2 := blk_frozen BK443.out 2; have hfz17_3 := blk_frozen BK443.out 3) | ((with_reducible refine gate_callee (f := 41) rfl ?_); refine goesL_ (some 17) rfl rfl Try.func41 (by kernel_rfl) rfl #[.agg #[.int .i64 a1_0, .int .i64 a1_1, .int .i64 a1_2, .slice A1_3 l1_3.length c1_3], .int .i64 t444] rfl (by (try simp only [List.map_toArray, List.map_cons, List.map_nil]); first | done | rfl | (simp only [List.length_drop, List.length_take]; rfl)) ?_; (with_reducible refine (laws_szLetter.calls a1_0 a1_1 a1_2 _ _ l1_3 t444 t445 _ ?side1 ?side2 A10.out).mono ?_); (case side1 => repeat (first | exact (Kd.C_below HR1_3.out HB.out) | (with_reducible refine Kd.C_alloc ?_ _) | (with_reducible refine Kd.C_drewN ?_ _) | (with_reducible refine Kd.C_drew ?_))); (case side2 => exact HC1_3.out); rintro e w18 ⟨rfl, hb⟩; refine ⟨_, rfl, ?_⟩; have n0_ := zz11 (hy11 (g := gb442) (o := .cells #[.int .i64 a0_0, .int .i64 a0_1, .int .i64 a0_2, .slice A0_3 l0_3.length c0_3] 55 (0, 0)) (by (with_reducible repeat (first | refine ey11 ?_ _ | refine gy11 ?_ | refine fy11 ?_ _)); exact BK442.out) hb); have n1_ := zz11 (hy11 (g := gb443) (o := .cells #[.int .i64 a1_0, .int .i64 a1_1, .int .i64 a1_2, .slice A1_3 l1_3.length c1_3] 55 (0, 0)) (by (with_reducible repeat (first | refine ey11 ?_ _ | refine gy11 ?_ | refine fy11 ?_ _)); exact BK443.out) hb); have n2_ := zz11 (below_step (by repeat (first | (with_reducible first | exact HB.out | apply by11 | apply ay11 | apply cy11 | refine dy11 ?_ GE442.out | refine dy11 ?_ GE443.out) | exact HB.out)) hb); clear BK442; clear BK443; clear HB; have BK442 := n0_; have BK443 := n1_; have HB := n2_; clear n0_ n1_ n2_; (try clear hb); (try clear hb2); (try clear hk); (try clear hi)))
      go_ret
      exact ⟨by first | rfl | (simp [errW_none, errW_some] <;> rfl) | (simp [*, errW_none, errW_some] <;> rfl), by repeat (first | (with_reducible first | exact HB.out | apply by11 | apply ay11 | apply cy11 | refine dy11 ?_ GE442.out | refine dy11 ?_ GE443.out) | exact HB.out)⟩
    · rw [if_neg c11] at H
      have c11b0 : decide (t445 < 0) = false := decide_eq_false c11
      clear c11
      replace H := Option.bind_eq_some_iff.mp H
      obtain ⟨⟨t446, t447, t448, t449⟩, A190, H⟩ := H
      replace H : ((laws_toLetter.f k a1_0 a1_1 a1_2 l1_3).bind fun bt452 => ((spec_SameLetters.f t446 t447 t448 t449 bt452.1 bt452.2.1 bt452.2.2.1 bt452.2.2.2).bind fun t458 => ((laws_toLetter.f k a0_0 a0_1 a0_2 l0_3).bind fun bt459 => ((laws_toLetter.f k a1_0 a1_1 a1_2 l1_3).bind fun bt466 => ((impl_SameLetters.f bt459.1 bt459.2.1 bt459.2.2.1 bt459.2.2.2 bt466.1 bt466.2.1 bt466.2.2.1 bt466.2.2.2).bind fun t473 => (if (t473 != t458) = true then (some false) else ((laws_toLetter.f k a0_0 a0_1 a0_2 l0_3).bind fun bt474 => ((laws_eqLetter.f k bt459.1 bt459.2.1 bt459.2.2.1 bt459.2.2.2 bt474.1 bt474.2.1 bt474.2.2.1 bt474.2.2.2).bind fun t480 => (if t480 = true then ((laws_toLetter.f k a1_0 a1_1 a1_2 l1_3).bind fun bt481 => ((laws_eqLetter.f k bt466.1 bt466.2.1 bt466.2.2.1 bt466.2.2.2 bt481.1 bt481.2.1 bt481.2.2.1 bt481.2.2.2).bind fun t487 => (if t487 = true then (some true) else (some false)))) else (some false)))))))))) = some r := H
      have A19 := zz11 A190
      clear A190
      replace H := Option.bind_eq_some_iff.mp H
      obtain ⟨⟨t452, t453, t454, t455⟩, A200, H⟩ := H
      replace H : ((spec_SameLetters.f t446 t447 t448 t449 t452 t453 t454 t455).bind fun t458 => ((laws_toLetter.f k a0_0 a0_1 a0_2 l0_3).bind fun bt459 => ((laws_toLetter.f k a1_0 a1_1 a1_2 l1_3).bind fun bt466 => ((impl_SameLetters.f bt459.1 bt459.2.1 bt459.2.2.1 bt459.2.2.2 bt466.1 bt466.2.1 bt466.2.2.1 bt466.2.2.2).bind fun t473 => (if (t473 != t458) = true then (some false) else ((laws_toLetter.f k a0_0 a0_1 a0_2 l0_3).bind fun bt474 => ((laws_eqLetter.f k bt459.1 bt459.2.1 bt459.2.2.1 bt459.2.2.2 bt474.1 bt474.2.1 bt474.2.2.1 bt474.2.2.2).bind fun t480 => (if t480 = true then ((laws_toLetter.f k a1_0 a1_1 a1_2 l1_3).bind fun bt481 => ((laws_eqLetter.f k bt466.1 bt466.2.1 bt466.2.2.1 bt466.2.2.2 bt481.1 bt481.2.1 bt481.2.2.1 bt481.2.2.2).bind fun t487 => (if t487 = true then (some true) else (some false)))) else (some false))))))))) = some r := H
      have A20 := zz11 A200
      clear A200
      replace H := Option.bind_eq_some_iff.mp H
      obtain ⟨t458, A210, H⟩ := H
      replace H : ((laws_toLetter.f k a0_0 a0_1 a0_2 l0_3).bind fun bt459 => ((laws_toLetter.f k a1_0 a1_1 a1_2 l1_3).bind fun bt466 => ((impl_SameLetters.f bt459.1 bt459.2.1 bt459.2.2.1 bt459.2.2.2 bt466.1 bt466.2.1 bt466.2.2.1 bt466.2.2.2).bind fun t473 => (if (t473 != t458) = true then (some false) else ((laws_toLetter.f k a0_0 a0_1 a0_2 l0_3).bind fun bt474 => ((laws_eqLetter.f k bt459.1 bt459.2.1 bt459.2.2.1 bt459.2.2.2 bt474.1 bt474.2.1 bt474.2.2.1 bt474.2.2.2).bind fun t480 => (if t480 = true then ((laws_toLetter.f k a1_0 a1_1 a1_2 l1_3).bind fun bt481 => ((laws_eqLetter.f k bt466.1 bt466.2.1 bt466.2.2.1 bt466.2.2.2 bt481.1 bt481.2.1 bt481.2.2.1 bt481.2.2.2).bind fun t487 => (if t487 = true then (some true) else (some false)))) else (some false)))))))) = some r := H
      have A21 := zz11 A210
      clear A210
      replace H := Option.bind_eq_some_iff.mp H
      obtain ⟨⟨t459, t460, t461, t462⟩, A220, H⟩ := H
      replace H : ((laws_toLetter.f k a1_0 a1_1 a1_2 l1_3).bind fun bt466 => ((impl_SameLetters.f t459 t460 t461 t462 bt466.1 bt466.2.1 bt466.2.2.1 bt466.2.2.2).bind fun t473 => (if (t473 != t458) = true then (some false) else ((laws_toLetter.f k a0_0 a0_1 a0_2 l0_3).bind fun bt474 => ((laws_eqLetter.f k t459 t460 t461 t462 bt474.1 bt474.2.1 bt474.2.2.1 bt474.2.2.2).bind fun t480 => (if t480 = true then ((laws_toLetter.f k a1_0 a1_1 a1_2 l1_3).bind fun bt481 => ((laws_eqLetter.f k bt466.1 bt466.2.1 bt466.2.2.1 bt466.2.2.2 bt481.1 bt481.2.1 bt481.2.2.1 bt481.2.2.2).bind fun t487 => (if t487 = true then (some true) else (some false)))) else (some false))))))) = some r := H
      have A22 := zz11 A220
      clear A220
      replace H := Option.bind_eq_some_iff.mp H
      obtain ⟨⟨t466, t467, t468, t469⟩, A230, H⟩ := H
      replace H : ((impl_SameLetters.f t459 t460 t461 t462 t466 t467 t468 t469).bind fun t473 => (if (t473 != t458) = true then (some false) else ((laws_toLetter.f k a0_0 a0_1 a0_2 l0_3).bind fun bt474 => ((laws_eqLetter.f k t459 t460 t461 t462 bt474.1 bt474.2.1 bt474.2.2.1 bt474.2.2.2).bind fun t480 => (if t480 = true then ((laws_toLetter.f k a1_0 a1_1 a1_2 l1_3).bind fun bt481 => ((laws_eqLetter.f k t466 t467 t468 t469 bt481.1 bt481.2.1 bt481.2.2.1 bt481.2.2.2).bind fun t487 => (if t487 = true then (some true) else (some false)))) else (some false)))))) = some r := H
      have A23 := zz11 A230
      clear A230
      replace H := Option.bind_eq_some_iff.mp H
      obtain ⟨t473, A240, H⟩ := H
      replace H : (if (t473 != t458) = true then (some false) else ((laws_toLetter.f k a0_0 a0_1 a0_2 l0_3).bind fun bt474 => ((laws_eqLetter.f k t459 t460 t461 t462 bt474.1 bt474.2.1 bt474.2.2.1 bt474.2.2.2).bind fun t480 => (if t480 = true then ((laws_toLetter.f k a1_0 a1_1 a1_2 l1_3).bind fun bt481 => ((laws_eqLetter.f k t466 t467 t468 t469 bt481.1 bt481.2.1 bt481.2.2.1 bt481.2.2.2).bind fun t487 => (if t487 = true then (some true) else (some false)))) else (some false))))) = some r := H
      have A24 := zz11 A240
      clear A240
      by_cases c25 : (t473 != t458) = true
      · rw [if_pos c25] at H
        have c25b0 : (t473 != t458) = true := c25
        (try (have c25b1 : decide (t473 = t458) = false := by simpa using c25))
        (try (have c25b2 : (t473 == t458) = false := by simpa using c25))
        (try (have c25b3 : ¬ (t473 = t458) := by simpa using c25))
        clear c25
        obtain rfl := Option.some.inj H
        go_enter Try.func11, Try.ntmps11
        try go_wp2_with (first | ((with_reducible refine gate_dst (N := 2) rfl ?_); refine box_event ?hg (N := 2) ?hd (cs := #[.int .i64 a0_0, .int .i64 a0_1, .int .i64 a0_2, .slice A0_3 l0_3.length c0_3]) (t := 55) ?hr ?_; (case hd => rfl); (case hg => rfl); (case hr => first | (go_simp; done) | (go_simp; rfl)); intro gb442 hg w26 hbox hb; have n0_ := zz11 (below_step (by repeat (first | (with_reducible first | exact HB.out | apply by11 | apply ay11 | apply cy11) | exact HB.out)) hb); have n1_ := zz11 (hbox); have n2_ := zz11 ((by rw [hg]; exact (below_size (by repeat (first | (with_reducible first | exact HB.out | apply by11 | apply ay11 | apply cy11) | exact HB.out))) : w.heap.size ≤ gb442)); have n3_ := zz11 ((by rw [hg]; exact (below_size (by repeat (first | (with_reducible first | exact HB.out | apply by11 | apply ay11 | apply cy11) | exact HB.out))) : w.heap.size ≤ gb442)); clear HB; have HB := n0_; have BK442 := n1_; have GW442 := n2_; have GE442 := n3_; clear n0_ n1_ n2_ n3_; clear hb hbox hg) | ((with_reducible refine gate_dst (N := 3) rfl ?_); refine box_event ?hg (N := 3) ?hd (cs := #[.int .i64 a1_0, .int .i64 a1_1, .int .i64 a1_2, .slice A1_3 l1_3.length c1_3]) (t := 55) ?hr ?_; (case hd => rfl); (case hg => rfl); (case hr => first | (go_simp; done) | (go_simp; rfl)); intro gb443 hg w27 hbox hb; have n0_ := zz11 (hy11 (g := gb442) (o := .cells #[.int .i64 a0_0, .int .i64 a0_1, .int .i64 a0_2, .slice A0_3 l0_3.length c0_3] 55 (0, 0)) (by (with_reducible repeat (first | refine ey11 ?_ _ | refine gy11 ?_ | refine fy11 ?_ _)); exact BK442.out) hb); have n1_ := zz11 (below_step (by repeat (first | (with_reducible first | exact HB.out | apply by11 | apply ay11 | apply cy11 | refine dy11 ?_ GE442.out) | exact HB.out)) hb); have n2_ := zz11 (hbox); have n3_ := zz11 ((by rw [hg]; exact (below_size (by repeat (first | (with_reducible first | exact HB.out | apply by11 | apply ay11 | apply cy11 | refine dy11 ?_ GE442.out) | exact HB.out))) : w.heap.size ≤ gb443)); have n4_ := zz11 ((by rw [hg]; exact (below_size (by repeat (first | (with_reducible first | exact HB.out | apply by11 | apply ay11 | apply cy11 | refine dy11 ?_ GE442.out) | exact HB.out))) : w.heap.size ≤ gb443)); have n5_ := zz11 ((by rw [hg]; exact Nat.ne_of_lt (blk_lt (g := gb442) (o := .cells #[.int .i64 a0_0, .int .i64 a0_1, .int .i64 a0_2, .slice A0_3 l0_3.length c0_3] 55 (0, 0)) (by (with_reducible repeat (first | refine ey11 ?_ _ | refine gy11 ?_ | refine fy11 ?_ _)); exact BK442.out)) : gb442 ≠ gb443)); have n6_ := zz11 ((by rw [hg]; exact Nat.ne_of_gt (blk_lt (g := gb442) (o := .cells #[.int .i64 a0_0, .int .i64 a0_1, .int .i64 a0_2, .slice A0_3 l0_3.length c0_3] 55 (0, 0)) (by (with_reducible repeat (first | refine ey11 ?_ _ | refine gy11 ?_ | refine fy11 ?_ _)); exact BK442.out)) : gb443 ≠ gb442)); clear BK442; clear HB; have BK442 := n0_; have HB := n1_; have BK443 := n2_; have GW443 := n3_; have GE443 := n4_; have NB442_443 := n5_; have NB443_442 := n6_; clear n0_ n1_ n2_ n3_ n4_ n5_ n6_; clear hb hbox hg; have hnb28 := NB442_443.out; have hnc28 := NB443_442.out; have hcz29_0 : w27.cell? ⟨gb442, 0, none⟩ = some (.int .i64 a0_0) := (blk_cell BK442.out 0).trans rfl; have hcz29_1 : w27.cell? ⟨gb442, 1, none⟩ = some (.int .i64 a0_1) := (blk_cell BK442.out 1).trans rfl; have hcz29_2 : w27.cell? ⟨gb442, 2, none⟩ = some (.int .i64 a0_2) := (blk_cell BK442.out 2).trans rfl; have hcz29_3 : w27.cell? ⟨gb442, 3, none⟩ = some (.slice A0_3 l0_3.length c0_3) := (blk_cell BK442.out 3).trans rfl; have hfz29_0 := blk_frozen BK442.out 0; have hfz29_1 := blk_frozen BK442.out 1; have hfz29_2 := blk_frozen BK442.out 2; have hfz29_3 := blk_frozen BK442.out 3) | ((with_reducible refine gate_callee (f := 41) rfl ?_); refine goesL_ (some 12) rfl rfl Try.func41 (by kernel_rfl) rfl #[.agg #[.int .i64 a0_0, .int .i64 a0_1, .int .i64 a0_2, .slice A0_3 l0_3.length c0_3], .int .i64 1048576] rfl (by (try simp only [List.map_toArray, List.map_cons, List.map_nil]); first | done | rfl | (simp only [List.length_drop, List.length_take]; rfl)) ?_; (with_reducible refine (laws_szLetter.calls a0_0 a0_1 a0_2 _ _ l0_3 1048576 t444 _ ?side1 ?side2 A3.out).mono ?_); (case side1 => repeat (first | exact (Kd.C_below HR0_3.out HB.out) | (with_reducible refine Kd.C_alloc ?_ _) | (with_reducible refine Kd.C_drewN ?_ _) | (with_reducible refine Kd.C_drew ?_))); (case side2 => exact HC0_3.out); rintro e w30 ⟨rfl, hb⟩; refine ⟨_, rfl, ?_⟩; have n0_ := zz11 (hy11 (g := gb442) (o := .cells #[.int .i64 a0_0, .int .i64 a0_1, .int .i64 a0_2, .slice A0_3 l0_3.length c0_3] 55 (0, 0)) (by (with_reducible repeat (first | refine ey11 ?_ _ | refine gy11 ?_ | refine fy11 ?_ _)); exact BK442.out) hb); have n1_ := zz11 (hy11 (g := gb443) (o := .cells #[.int .i64 a1_0, .int .i64 a1_1, .int .i64 a1_2, .slice A1_3 l1_3.length c1_3] 55 (0, 0)) (by (with_reducible repeat (first | refine ey11 ?_ _ | refine gy11 ?_ | refine fy11 ?_ _)); exact BK443.out) hb); have n2_ := zz11 (below_step (by repeat (first | (with_reducible first | exact HB.out | apply by11 | apply ay11 | apply cy11 | refine dy11 ?_ GE442.out | refine dy11 ?_ GE443.out) | exact HB.out)) hb); clear BK442; clear BK443; clear HB; have BK442 := n0_; have BK443 := n1_; have HB := n2_; clear n0_ n1_ n2_; (try clear hb); (try clear hb2); (try clear hk); (try clear hi); have hcz31_0 : w30.cell? ⟨gb443, 0, none⟩ = some (.int .i64 a1_0) := (blk_cell BK443.out 0).trans rfl; have hcz31_1 : w30.cell? ⟨gb443, 1, none⟩ = some (.int .i64 a1_1) := (blk_cell BK443.out 1).trans rfl; have hcz31_2 : w30.cell? ⟨gb443, 2, none⟩ = some (.int .i64 a1_2) := (blk_cell BK443.out 2).trans rfl; have hcz31_3 : w30.cell? ⟨gb443, 3, none⟩ = some (.slice A1_3 l1_3.length c1_3) := (blk_cell BK443.out 3).trans rfl; have hfz31_0 := blk_frozen BK443.out 0; have hfz31_1 := blk_frozen BK443.out 1; have hfz31_2 := blk_frozen BK443.out 2; have hfz31_3 := blk_frozen BK443.out 3) | ((with_reducible refine gate_callee (f := 41) rfl ?_); refine goesL_ (some 17) rfl rfl Try.func41 (by kernel_rfl) rfl #[.agg #[.int .i64 a1_0, .int .i64 a1_1, .int .i64 a1_2, .slice A1_3 l1_3.length c1_3], .int .i64 t444] rfl (by (try simp only [List.map_toArray, List.map_cons, List.map_nil]); first | done | rfl | (simp only [List.length_drop, List.length_take]; rfl)) ?_; (with_reducible refine (laws_szLetter.calls a1_0 a1_1 a1_2 _ _ l1_3 t444 t445 _ ?side1 ?side2 A10.out).mono ?_); (case side1 => repeat (first | exact (Kd.C_below HR1_3.out HB.out) | (with_reducible refine Kd.C_alloc ?_ _) | (with_reducible refine Kd.C_drewN ?_ _) | (with_reducible refine Kd.C_drew ?_))); (case side2 => exact HC1_3.out); rintro e w32 ⟨rfl, hb⟩; refine ⟨_, rfl, ?_⟩; have n0_ := zz11 (hy11 (g := gb442) (o := .cells #[.int .i64 a0_0, .int .i64 a0_1, .int .i64 a0_2, .slice A0_3 l0_3.length c0_3] 55 (0, 0)) (by (with_reducible repeat (first | refine ey11 ?_ _ | refine gy11 ?_ | refine fy11 ?_ _)); exact BK442.out) hb); have n1_ := zz11 (hy11 (g := gb443) (o := .cells #[.int .i64 a1_0, .int .i64 a1_1, .int .i64 a1_2, .slice A1_3 l1_3.length c1_3] 55 (0, 0)) (by (with_reducible repeat (first | refine ey11 ?_ _ | refine gy11 ?_ | refine fy11 ?_ _)); exact BK443.out) hb); have n2_ := zz11 (below_step (by repeat (first | (with_reducible first | exact HB.out | apply by11 | apply ay11 | apply cy11 | refine dy11 ?_ GE442.out | refine dy11 ?_ GE443.out) | exact HB.out)) hb); clear BK442; clear BK443; clear HB; have BK442 := n0_; have BK443 := n1_; have HB := n2_; clear n0_ n1_ n2_; (try clear hb); (try clear hb2); (try clear hk); (try clear hi)))
        have n0_ := zz11 (gy11 BK442.out)
        have n1_ := zz11 (gy11 BK443.out)
        have n2_ := zz11 (cy11 HB.out)
        clear BK442
        clear BK443
        clear HB
        have BK442 := n0_
        have BK443 := n1_
        have HB := n2_
        clear n0_ n1_ n2_
        refine start_ (n := 6) (S := fun w' => w'.cell? ⟨gb442, 0, none⟩ = some (.int .i64 a0_0) ∧ w'.cell? ⟨gb442, 1, none⟩ = some (.int .i64 a0_1) ∧ w'.cell? ⟨gb442, 2, none⟩ = some (.int .i64 a0_2) ∧ w'.cell? ⟨gb442, 3, none⟩ = some (.slice A0_3 l0_3.length c0_3) ∧ w'.cell? ⟨gb443, 0, none⟩ = some (.int .i64 a1_0) ∧ w'.cell? ⟨gb443, 1, none⟩ = some (.int .i64 a1_1) ∧ w'.cell? ⟨gb443, 2, none⟩ = some (.int .i64 a1_2) ∧ w'.cell? ⟨gb443, 3, none⟩ = some (.slice A1_3 l1_3.length c1_3)) (ds := []) #[false, false, false, false, false, false] (by kernel_rfl) rfl rfl ⟨(blk_cell BK442.out 0).trans rfl, (blk_cell BK442.out 1).trans rfl, (blk_cell BK442.out 2).trans rfl, (blk_cell BK442.out 3).trans rfl, (blk_cell BK443.out 0).trans rfl, (blk_cell BK443.out 1).trans rfl, (blk_cell BK443.out 2).trans rfl, (blk_cell BK443.out 3).trans rfl⟩ (fun hHeld => ?_)
        generalize w32.drew = w33 at BK442 BK443 HB hHeld ⊢
        refine take_ (i := 0) (N := some 20) (v := ?_) (a' := ?_) #[true, false, false, false, false, false] rfl rfl (by kernel_rfl) (fun _ _ _ h => h) (Or.inl ⟨by rfl, ?_⟩) hHeld ?_ ?_
        rotate_left
        · rintro w' ⟨s0, s1, s2, s3, s4, s5, s6, s7⟩
          go_simp
          with_reducible rfl
        rotate_left
        · simp only [Act.put, List.setIfInBounds_toArray, List.set_cons_zero, List.set_cons_succ, i64_w, i32_w]
          rfl
        refine take_ (i := 2) (N := some 22) (v := ?_) (a' := ?_) #[true, false, true, false, false, false] rfl rfl (by kernel_rfl) (fun _ _ _ h => h) (Or.inl ⟨by rfl, ?_⟩) hHeld ?_ ?_
        rotate_left
        · rintro w' ⟨s0, s1, s2, s3, s4, s5, s6, s7⟩
          go_simp
          with_reducible rfl
        rotate_left
        · simp only [Act.put, List.setIfInBounds_toArray, List.set_cons_zero, List.set_cons_succ, i64_w, i32_w]
          rfl
        refine one_ (i := 1) (N := some 21) #[true, true, true, false, false, false] rfl rfl (by kernel_rfl) (by decide) (fun K hK => ?_)
        refine goes_ Try.func43 (by kernel_rfl) rfl #[.agg #[.int .i64 a0_0, .int .i64 a0_1, .int .i64 a0_2, .slice A0_3 l0_3.length c0_3]] (by rfl) rfl rfl (by (try simp only [List.map_toArray, List.map_cons, List.map_nil]); first | done | rfl | (simp only [List.length_drop, List.length_take]; rfl)) ?_
        with_reducible refine (laws_toLetter.calls k a0_0 a0_1 a0_2 _ _ l0_3 t446 t447 t448 t449 _ ?side1 ?side2 A19.out).mono ?_
        (case side1 => repeat (first | exact (Kd.C_below HR0_3.out HB.out) | (with_reducible refine Kd.C_alloc ?_ _) | (with_reducible refine Kd.C_drewN ?_ _) | (with_reducible refine Kd.C_drew ?_)))
        (case side2 => exact HC0_3.out)
        rintro e w34 ⟨v450, rfl, ho0, hb⟩
        refine ⟨_, rfl, ?_⟩
        have n0_ := zz11 (Kd.R_lower ho0 (below_size (by repeat (first | (with_reducible first | exact HB.out | apply by11 | apply ay11 | apply cy11 | refine dy11 ?_ GE442.out | refine dy11 ?_ GE443.out) | exact HB.out))))
        have n1_ := zz11 (hy11 (g := gb442) (o := .cells #[.int .i64 a0_0, .int .i64 a0_1, .int .i64 a0_2, .slice A0_3 l0_3.length c0_3] 55 (0, 0)) (by (with_reducible repeat (first | refine ey11 ?_ _ | refine gy11 ?_ | refine fy11 ?_ _)); exact BK442.out) hb)
        have n2_ := zz11 (hy11 (g := gb443) (o := .cells #[.int .i64 a1_0, .int .i64 a1_1, .int .i64 a1_2, .slice A1_3 l1_3.length c1_3] 55 (0, 0)) (by (with_reducible repeat (first | refine ey11 ?_ _ | refine gy11 ?_ | refine fy11 ?_ _)); exact BK443.out) hb)
        have n3_ := zz11 (below_step (by repeat (first | (with_reducible first | exact HB.out | apply by11 | apply ay11 | apply cy11 | refine dy11 ?_ GE442.out | refine dy11 ?_ GE443.out) | exact HB.out)) hb)
        clear BK442
        clear BK443
        clear HB
        have HO451 := n0_
        have BK442 := n1_
        have BK443 := n2_
        have HB := n3_
        clear n0_ n1_ n2_ n3_
        (try clear hb)
        (try clear hb2)
        (try clear hk)
        (try clear hi)
        (try clear ho0)
        refine hK.out _ _ ⟨(blk_cell BK442.out 0).trans rfl, (blk_cell BK442.out 1).trans rfl, (blk_cell BK442.out 2).trans rfl, (blk_cell BK442.out 3).trans rfl, (blk_cell BK443.out 0).trans rfl, (blk_cell BK443.out 1).trans rfl, (blk_cell BK443.out 2).trans rfl, (blk_cell BK443.out 3).trans rfl⟩ (fun hHeld => ?_)
        clear hK K
        refine norm_ (a' := ?_) ?_ ?_
        rotate_left
        · show Act.put _ (some 21) _ = _
          simp only [Act.put, List.setIfInBounds_toArray, List.set_cons_zero, List.set_cons_succ, i64_w, i32_w]
          rfl
        refine one_ (i := 3) (N := some 23) #[true, true, true, true, false, false] rfl rfl (by kernel_rfl) (by decide) (fun K hK => ?_)
        refine goes_ Try.func43 (by kernel_rfl) rfl #[.agg #[.int .i64 a1_0, .int .i64 a1_1, .int .i64 a1_2, .slice A1_3 l1_3.length c1_3]] (by rfl) rfl rfl (by (try simp only [List.map_toArray, List.map_cons, List.map_nil]); first | done | rfl | (simp only [List.length_drop, List.length_take]; rfl)) ?_
        with_reducible refine (laws_toLetter.calls k a1_0 a1_1 a1_2 _ _ l1_3 t452 t453 t454 t455 _ ?side1 ?side2 A20.out).mono ?_
        (case side1 => repeat (first | exact (Kd.C_below HR1_3.out HB.out) | (with_reducible refine Kd.C_alloc ?_ _) | (with_reducible refine Kd.C_drewN ?_ _) | (with_reducible refine Kd.C_drew ?_)))
        (case side2 => exact HC1_3.out)
        rintro e w35 ⟨v456, rfl, ho0, hb⟩
        refine ⟨_, rfl, ?_⟩
        have n0_ := zz11 (jz11 (by (with_reducible repeat (first | apply az11 | apply bz11 | apply cz11)); exact HO451.out) (fz11 ho0) hb)
        have n1_ := zz11 (Kd.R_lower (kz11 ho0 (Kd.R_lt (by (with_reducible repeat (first | apply az11 | apply bz11 | apply cz11)); exact HO451.out))) (below_size (by repeat (first | (with_reducible first | exact HB.out | apply by11 | apply ay11 | apply cy11 | refine dy11 ?_ GE442.out | refine dy11 ?_ GE443.out) | exact HB.out))))
        have n2_ := zz11 (hy11 (g := gb442) (o := .cells #[.int .i64 a0_0, .int .i64 a0_1, .int .i64 a0_2, .slice A0_3 l0_3.length c0_3] 55 (0, 0)) (by (with_reducible repeat (first | refine ey11 ?_ _ | refine gy11 ?_ | refine fy11 ?_ _)); exact BK442.out) hb)
        have n3_ := zz11 (hy11 (g := gb443) (o := .cells #[.int .i64 a1_0, .int .i64 a1_1, .int .i64 a1_2, .slice A1_3 l1_3.length c1_3] 55 (0, 0)) (by (with_reducible repeat (first | refine ey11 ?_ _ | refine gy11 ?_ | refine fy11 ?_ _)); exact BK443.out) hb)
        have n4_ := zz11 (below_step (by repeat (first | (with_reducible first | exact HB.out | apply by11 | apply ay11 | apply cy11 | refine dy11 ?_ GE442.out | refine dy11 ?_ GE443.out) | exact HB.out)) hb)
        clear HO451
        clear BK442
        clear BK443
        clear HB
        have HO451 := n0_
        have HO457 := n1_
        have BK442 := n2_
        have BK443 := n3_
        have HB := n4_
        clear n0_ n1_ n2_ n3_ n4_
        (try clear hb)
        (try clear hb2)
        (try clear hk)
        (try clear hi)
        (try clear ho0)
        obtain ⟨Ao36, co36, eo36⟩ := Kd.R_slice HO451.out
        (first | subst eo36 | (injection eo36 with f1_ f2_ f3_; have f4_ := f1_.symm; have f5_ := f3_.symm; clear f1_ f2_ f3_; subst f4_; subst f5_))
        obtain ⟨Ao37, co37, eo37⟩ := Kd.R_slice HO457.out
        (first | subst eo37 | (injection eo37 with f1_ f2_ f3_; have f4_ := f1_.symm; have f5_ := f3_.symm; clear f1_ f2_ f3_; subst f4_; subst f5_))
        refine hK.out _ _ ⟨(blk_cell BK442.out 0).trans rfl, (blk_cell BK442.out 1).trans rfl, (blk_cell BK442.out 2).trans rfl, (blk_cell BK442.out 3).trans rfl, (blk_cell BK443.out 0).trans rfl, (blk_cell BK443.out 1).trans rfl, (blk_cell BK443.out 2).trans rfl, (blk_cell BK443.out 3).trans rfl⟩ (fun hHeld => ?_)
        clear hK K
        refine norm_ (a' := ?_) ?_ ?_
        rotate_left
        · show Act.put _ (some 23) _ = _
          simp only [Act.put, List.setIfInBounds_toArray, List.set_cons_zero, List.set_cons_succ, i64_w, i32_w]
          rfl
        refine one_ (i := 4) (N := some 24) #[true, true, true, true, true, false] rfl rfl (by kernel_rfl) (by decide) (fun K hK => ?_)
        refine goes_ Try.func42 (by kernel_rfl) rfl #[.agg #[.int .i64 t446, .int .i64 t447, .int .i64 t448, .slice Ao36 t449.length co36], .agg #[.int .i64 t452, .int .i64 t453, .int .i64 t454, .slice Ao37 t455.length co37]] (by rfl) rfl rfl (by (try simp only [List.map_toArray, List.map_cons, List.map_nil]); first | done | rfl | (simp only [List.length_drop, List.length_take]; rfl)) ?_
        with_reducible refine (spec_SameLetters.calls t446 t447 t448 _ _ t449 t452 t453 t454 _ _ t455 t458 _ ?side1 ?side2 ?side3 ?side4 A21.out).mono ?_
        (case side1 => repeat (first | exact (iz11 HO451.out).2.2 | (with_reducible refine Kd.C_alloc ?_ _) | (with_reducible refine Kd.C_drewN ?_ _) | (with_reducible refine Kd.C_drew ?_)))
        (case side2 => exact (iz11 HO451.out).2.1)
        (case side3 => repeat (first | exact (iz11 HO457.out).2.2 | (with_reducible refine Kd.C_alloc ?_ _) | (with_reducible refine Kd.C_drewN ?_ _) | (with_reducible refine Kd.C_drew ?_)))
        (case side4 => exact (iz11 HO457.out).2.1)
        rintro e w38 ⟨rfl, hb⟩
        refine ⟨_, rfl, ?_⟩
        have n0_ := zz11 (dz11 (by (with_reducible repeat (first | apply az11 | apply bz11 | apply cz11)); exact HO451.out) hb)
        have n1_ := zz11 (dz11 (by (with_reducible repeat (first | apply az11 | apply bz11 | apply cz11)); exact HO457.out) hb)
        have n2_ := zz11 (hy11 (g := gb442) (o := .cells #[.int .i64 a0_0, .int .i64 a0_1, .int .i64 a0_2, .slice A0_3 l0_3.length c0_3] 55 (0, 0)) (by (with_reducible repeat (first | refine ey11 ?_ _ | refine gy11 ?_ | refine fy11 ?_ _)); exact BK442.out) hb)
        have n3_ := zz11 (hy11 (g := gb443) (o := .cells #[.int .i64 a1_0, .int .i64 a1_1, .int .i64 a1_2, .slice A1_3 l1_3.length c1_3] 55 (0, 0)) (by (with_reducible repeat (first | refine ey11 ?_ _ | refine gy11 ?_ | refine fy11 ?_ _)); exact BK443.out) hb)
        have n4_ := zz11 (below_step (by repeat (first | (with_reducible first | exact HB.out | apply by11 | apply ay11 | apply cy11 | refine dy11 ?_ GE442.out | refine dy11 ?_ GE443.out) | exact HB.out)) hb)
        clear HO451
        clear HO457
        clear BK442
        clear BK443
        clear HB
        have HO451 := n0_
        have HO457 := n1_
        have BK442 := n2_
        have BK443 := n3_
        have HB := n4_
        clear n0_ n1_ n2_ n3_ n4_
        (try clear hb)
        (try clear hb2)
        (try clear hk)
        (try clear hi)
        refine hK.out _ _ ⟨(blk_cell BK442.out 0).trans rfl, (blk_cell BK442.out 1).trans rfl, (blk_cell BK442.out 2).trans rfl, (blk_cell BK442.out 3).trans rfl, (blk_cell BK443.out 0).trans rfl, (blk_cell BK443.out 1).trans rfl, (blk_cell BK443.out 2).trans rfl, (blk_cell BK443.out 3).trans rfl⟩ (fun hHeld => ?_)
        clear hK K
        refine norm_ (a' := ?_) ?_ ?_
        rotate_left
        · show Act.put _ (some 24) _ = _
          simp only [Act.put, List.setIfInBounds_toArray, List.set_cons_zero, List.set_cons_succ, i64_w, i32_w]
          rfl
        refine pure_ (i := 5) (N := some 6) (v := ?_) (a' := ?_) #[true, true, true, true, true, true] rfl rfl (by kernel_rfl) (fun _ _ _ h => h) (Or.inl ⟨by rfl, ?_⟩) ?_ ?_
        rotate_left
        · intro w'
          go_simp
          with_reducible rfl
        rotate_left
        · simp only [Act.put, List.setIfInBounds_toArray, List.set_cons_zero, List.set_cons_succ, i64_w, i32_w]
          rfl
        refine done_ (by kernel_rfl) ?_
        have hcz39_0 : w38.cell? ⟨gb442, 0, none⟩ = some (.int .i64 a0_0) := (blk_cell BK442.out 0).trans rfl
        have hcz39_1 : w38.cell? ⟨gb442, 1, none⟩ = some (.int .i64 a0_1) := (blk_cell BK442.out 1).trans rfl
        have hcz39_2 : w38.cell? ⟨gb442, 2, none⟩ = some (.int .i64 a0_2) := (blk_cell BK442.out 2).trans rfl
        have hcz39_3 : w38.cell? ⟨gb442, 3, none⟩ = some (.slice A0_3 l0_3.length c0_3) := (blk_cell BK442.out 3).trans rfl
        have hfz39_0 := blk_frozen BK442.out 0
        have hfz39_1 := blk_frozen BK442.out 1
        have hfz39_2 := blk_frozen BK442.out 2
        have hfz39_3 := blk_frozen BK442.out 3
        try go_wp2_with (first | ((with_reducible refine gate_callee (f := 43) rfl ?_); refine goesL_ (some 26) rfl rfl Try.func43 (by kernel_rfl) rfl #[.agg #[.int .i64 a0_0, .int .i64 a0_1, .int .i64 a0_2, .slice A0_3 l0_3.length c0_3]] rfl (by (try simp only [List.map_toArray, List.map_cons, List.map_nil]); first | done | rfl | (simp only [List.length_drop, List.length_take]; rfl)) ?_; (with_reducible refine (laws_toLetter.calls k a0_0 a0_1 a0_2 _ _ l0_3 t459 t460 t461 t462 _ ?side1 ?side2 A22.out).mono ?_); (case side1 => repeat (first | exact (Kd.C_below HR0_3.out HB.out) | (with_reducible refine Kd.C_alloc ?_ _) | (with_reducible refine Kd.C_drewN ?_ _) | (with_reducible refine Kd.C_drew ?_))); (case side2 => exact HC0_3.out); rintro e w40 ⟨v463, rfl, ho0, hb⟩; refine ⟨_, rfl, ?_⟩; have n0_ := zz11 (jz11 (by (with_reducible repeat (first | apply az11 | apply bz11 | apply cz11)); exact HO451.out) (fz11 ho0) hb); have n1_ := zz11 (jz11 (by (with_reducible repeat (first | apply az11 | apply bz11 | apply cz11)); exact HO457.out) (fz11 ho0) hb); have n2_ := zz11 (Kd.R_lower (kz11 (kz11 ho0 (Kd.R_lt (by (with_reducible repeat (first | apply az11 | apply bz11 | apply cz11)); exact HO451.out))) (Kd.R_lt (by (with_reducible repeat (first | apply az11 | apply bz11 | apply cz11)); exact HO457.out))) (below_size (by repeat (first | (with_reducible first | exact HB.out | apply by11 | apply ay11 | apply cy11 | refine dy11 ?_ GE442.out | refine dy11 ?_ GE443.out) | exact HB.out)))); have n3_ := zz11 (hy11 (g := gb442) (o := .cells #[.int .i64 a0_0, .int .i64 a0_1, .int .i64 a0_2, .slice A0_3 l0_3.length c0_3] 55 (0, 0)) (by (with_reducible repeat (first | refine ey11 ?_ _ | refine gy11 ?_ | refine fy11 ?_ _)); exact BK442.out) hb); have n4_ := zz11 (hy11 (g := gb443) (o := .cells #[.int .i64 a1_0, .int .i64 a1_1, .int .i64 a1_2, .slice A1_3 l1_3.length c1_3] 55 (0, 0)) (by (with_reducible repeat (first | refine ey11 ?_ _ | refine gy11 ?_ | refine fy11 ?_ _)); exact BK443.out) hb); have n5_ := zz11 (below_step (by repeat (first | (with_reducible first | exact HB.out | apply by11 | apply ay11 | apply cy11 | refine dy11 ?_ GE442.out | refine dy11 ?_ GE443.out) | exact HB.out)) hb); clear HO451; clear HO457; clear BK442; clear BK443; clear HB; have HO451 := n0_; have HO457 := n1_; have HO464 := n2_; have BK442 := n3_; have BK443 := n4_; have HB := n5_; clear n0_ n1_ n2_ n3_ n4_ n5_; (try clear hb); (try clear hb2); (try clear hk); (try clear hi); (try clear ho0)) | ((with_reducible refine gate_dst (N := 7) rfl ?_); refine box_event ?hg (N := 7) ?hd (cs := #[.int .i64 0, .int .i64 0, .int .i64 0, .slice none 0 0]) (t := 58) ?hr ?_; (case hd => rfl); (case hg => rfl); (case hr => first | (go_simp; done) | (go_simp; rfl)); intro gb465 hg w41 hbox hb; have n0_ := zz11 (dz11 (by (with_reducible repeat (first | apply az11 | apply bz11 | apply cz11)); exact HO451.out) hb); have n1_ := zz11 (dz11 (by (with_reducible repeat (first | apply az11 | apply bz11 | apply cz11)); exact HO457.out) hb); have n2_ := zz11 (dz11 (by (with_reducible repeat (first | apply az11 | apply bz11 | apply cz11)); exact HO464.out) hb); have n3_ := zz11 (hy11 (g := gb442) (o := .cells #[.int .i64 a0_0, .int .i64 a0_1, .int .i64 a0_2, .slice A0_3 l0_3.length c0_3] 55 (0, 0)) (by (with_reducible repeat (first | refine ey11 ?_ _ | refine gy11 ?_ | refine fy11 ?_ _)); exact BK442.out) hb); have n4_ := zz11 (hy11 (g := gb443) (o := .cells #[.int .i64 a1_0, .int .i64 a1_1, .int .i64 a1_2, .slice A1_3 l1_3.length c1_3] 55 (0, 0)) (by (with_reducible repeat (first | refine ey11 ?_ _ | refine gy11 ?_ | refine fy11 ?_ _)); exact BK443.out) hb); have n5_ := zz11 (below_step (by repeat (first | (with_reducible first | exact HB.out | apply by11 | apply ay11 | apply cy11 | refine dy11 ?_ GE442.out | refine dy11 ?_ GE443.out) | exact HB.out)) hb); have n6_ := zz11 (hbox); have n7_ := zz11 ((by rw [hg]; exact (below_size (by repeat (first | (with_reducible first | exact HB.out | apply by11 | apply ay11 | apply cy11 | refine dy11 ?_ GE442.out | refine dy11 ?_ GE443.out) | exact HB.out))) : w.heap.size ≤ gb465)); have n8_ := zz11 ((by rw [hg]; exact (below_size (by repeat (first | (with_reducible first | exact HB.out | apply by11 | apply ay11 | apply cy11 | refine dy11 ?_ GE442.out | refine dy11 ?_ GE443.out) | exact HB.out))) : w.heap.size ≤ gb465)); have n9_ := zz11 ((by rw [hg]; exact Nat.ne_of_lt (blk_lt (g := gb442) (o := .cells #[.int .i64 a0_0, .int .i64 a0_1, .int .i64 a0_2, .slice A0_3 l0_3.length c0_3] 55 (0, 0)) (by (with_reducible repeat (first | refine ey11 ?_ _ | refine gy11 ?_ | refine fy11 ?_ _)); exact BK442.out)) : gb442 ≠ gb465)); have n10_ := zz11 ((by rw [hg]; exact Nat.ne_of_gt (blk_lt (g := gb442) (o := .cells #[.int .i64 a0_0, .int .i64 a0_1, .int .i64 a0_2, .slice A0_3 l0_3.length c0_3] 55 (0, 0)) (by (with_reducible repeat (first | refine ey11 ?_ _ | refine gy11 ?_ | refine fy11 ?_ _)); exact BK442.out)) : gb465 ≠ gb442)); have n11_ := zz11 ((by rw [hg]; exact Nat.ne_of_lt (blk_lt (g := gb443) (o := .cells #[.int .i64 a1_0, .int .i64 a1_1, .int .i64 a1_2, .slice A1_3 l1_3.length c1_3] 55 (0, 0)) (by (with_reducible repeat (first | refine ey11 ?_ _ | refine gy11 ?_ | refine fy11 ?_ _)); exact BK443.out)) : gb443 ≠ gb465)); have n12_ := zz11 ((by rw [hg]; exact Nat.ne_of_gt (blk_lt (g := gb443) (o := .cells #[.int .i64 a1_0, .int .i64 a1_1, .int .i64 a1_2, .slice A1_3 l1_3.length c1_3] 55 (0, 0)) (by (with_reducible repeat (first | refine ey11 ?_ _ | refine gy11 ?_ | refine fy11 ?_ _)); exact BK443.out)) : gb465 ≠ gb443)); clear HO451; clear HO457; clear HO464; clear BK442; clear BK443; clear HB; have HO451 := n0_; have HO457 := n1_; have HO464 := n2_; have BK442 := n3_; have BK443 := n4_; have HB := n5_; have BK465 := n6_; have GW465 := n7_; have GE465 := n8_; have NB442_465 := n9_; have NB465_442 := n10_; have NB443_465 := n11_; have NB465_443 := n12_; clear n0_ n1_ n2_ n3_ n4_ n5_ n6_ n7_ n8_ n9_ n10_ n11_ n12_; clear hb hbox hg; have hnb42 := NB465_442.out; have hnc42 := NB442_465.out; have hnb43 := NB465_443.out; have hnc43 := NB443_465.out; have hcz44_0 : w41.cell? ⟨gb465, 0, none⟩ = some (.int .i64 0) := (blk_cell BK465.out 0).trans rfl; have hcz44_1 : w41.cell? ⟨gb465, 1, none⟩ = some (.int .i64 0) := (blk_cell BK465.out 1).trans rfl; have hcz44_2 : w41.cell? ⟨gb465, 2, none⟩ = some (.int .i64 0) := (blk_cell BK465.out 2).trans rfl; have hcz44_3 : w41.cell? ⟨gb465, 3, none⟩ = some (.slice none 0 0) := (blk_cell BK465.out 3).trans rfl; have hfz44_0 := blk_frozen BK465.out 0; have hfz44_1 := blk_frozen BK465.out 1; have hfz44_2 := blk_frozen BK465.out 2; have hfz44_3 := blk_frozen BK465.out 3; obtain ⟨Ao45, co45, eo45⟩ := Kd.R_slice HO464.out; subst eo45; have hcz46_0 : w41.cell? ⟨gb443, 0, none⟩ = some (.int .i64 a1_0) := (blk_cell BK443.out 0).trans rfl; have hcz46_1 : w41.cell? ⟨gb443, 1, none⟩ = some (.int .i64 a1_1) := (blk_cell BK443.out 1).trans rfl; have hcz46_2 : w41.cell? ⟨gb443, 2, none⟩ = some (.int .i64 a1_2) := (blk_cell BK443.out 2).trans rfl; have hcz46_3 : w41.cell? ⟨gb443, 3, none⟩ = some (.slice A1_3 l1_3.length c1_3) := (blk_cell BK443.out 3).trans rfl; have hfz46_0 := blk_frozen BK443.out 0; have hfz46_1 := blk_frozen BK443.out 1; have hfz46_2 := blk_frozen BK443.out 2; have hfz46_3 := blk_frozen BK443.out 3) | ((with_reducible refine gate_callee (f := 43) rfl ?_); refine goesL_ (some 28) rfl rfl Try.func43 (by kernel_rfl) rfl #[.agg #[.int .i64 a1_0, .int .i64 a1_1, .int .i64 a1_2, .slice A1_3 l1_3.length c1_3]] rfl (by (try simp only [List.map_toArray, List.map_cons, List.map_nil]); first | done | rfl | (simp only [List.length_drop, List.length_take]; rfl)) ?_; (with_reducible refine (laws_toLetter.calls k a1_0 a1_1 a1_2 _ _ l1_3 t466 t467 t468 t469 _ ?side1 ?side2 A23.out).mono ?_); (case side1 => exact Kd.C_below HR1_3.out (by repeat (first | (with_reducible first | exact HB.out | apply by11 | apply ay11 | apply cy11 | refine dy11 ?_ GE442.out | refine dy11 ?_ GE443.out | refine dy11 ?_ GE465.out) | exact HB.out))); (case side2 => exact HC1_3.out); rintro e w47 ⟨v470, rfl, ho0, hb⟩; refine ⟨_, rfl, ?_⟩; have n0_ := zz11 (jz11 (by (with_reducible repeat (first | apply az11 | apply bz11 | apply cz11)); exact (gz11 (ez11 (p := ⟨gb465, 3, none⟩) (ez11 (p := ⟨gb465, 2, none⟩) (ez11 (p := ⟨gb465, 1, none⟩) (ez11 (p := ⟨gb465, 0, none⟩) (hz11 HO451.out BK465.out (by decide)) (fun _ hk => hk.2) (.int .i64 t459)) (fun _ hk => hk.2) (.int .i64 t460)) (fun _ hk => hk.2) (.int .i64 t461)) (fun _ hk => hk.2) (.slice Ao45 t462.length co45)) (fun _ h_ => h_.1))) (fz11 ho0) hb); have n1_ := zz11 (jz11 (by (with_reducible repeat (first | apply az11 | apply bz11 | apply cz11)); exact (gz11 (ez11 (p := ⟨gb465, 3, none⟩) (ez11 (p := ⟨gb465, 2, none⟩) (ez11 (p := ⟨gb465, 1, none⟩) (ez11 (p := ⟨gb465, 0, none⟩) (hz11 HO457.out BK465.out (by decide)) (fun _ hk => hk.2) (.int .i64 t459)) (fun _ hk => hk.2) (.int .i64 t460)) (fun _ hk => hk.2) (.int .i64 t461)) (fun _ hk => hk.2) (.slice Ao45 t462.length co45)) (fun _ h_ => h_.1))) (fz11 ho0) hb); have n2_ := zz11 (jz11 (by (with_reducible repeat (first | apply az11 | apply bz11 | apply cz11)); exact (gz11 (ez11 (p := ⟨gb465, 3, none⟩) (ez11 (p := ⟨gb465, 2, none⟩) (ez11 (p := ⟨gb465, 1, none⟩) (ez11 (p := ⟨gb465, 0, none⟩) (hz11 HO464.out BK465.out (by decide)) (fun _ hk => hk.2) (.int .i64 t459)) (fun _ hk => hk.2) (.int .i64 t460)) (fun _ hk => hk.2) (.int .i64 t461)) (fun _ hk => hk.2) (.slice Ao45 t462.length co45)) (fun _ h_ => h_.1))) (fz11 ho0) hb); have n3_ := zz11 (Kd.R_lower (kz11 (kz11 (kz11 ho0 (Kd.R_lt (by (with_reducible repeat (first | apply az11 | apply bz11 | apply cz11)); exact (gz11 (ez11 (p := ⟨gb465, 3, none⟩) (ez11 (p := ⟨gb465, 2, none⟩) (ez11 (p := ⟨gb465, 1, none⟩) (ez11 (p := ⟨gb465, 0, none⟩) (hz11 HO451.out BK465.out (by decide)) (fun _ hk => hk.2) (.int .i64 t459)) (fun _ hk => hk.2) (.int .i64 t460)) (fun _ hk => hk.2) (.int .i64 t461)) (fun _ hk => hk.2) (.slice Ao45 t462.length co45)) (fun _ h_ => h_.1))))) (Kd.R_lt (by (with_reducible repeat (first | apply az11 | apply bz11 | apply cz11)); exact (gz11 (ez11 (p := ⟨gb465, 3, none⟩) (ez11 (p := ⟨gb465, 2, none⟩) (ez11 (p := ⟨gb465, 1, none⟩) (ez11 (p := ⟨gb465, 0, none⟩) (hz11 HO457.out BK465.out (by decide)) (fun _ hk => hk.2) (.int .i64 t459)) (fun _ hk => hk.2) (.int .i64 t460)) (fun _ hk => hk.2) (.int .i64 t461)) (fun _ hk => hk.2) (.slice Ao45 t462.length co45)) (fun _ h_ => h_.1))))) (Kd.R_lt (by (with_reducible repeat (first | apply az11 | apply bz11 | apply cz11)); exact (gz11 (ez11 (p := ⟨gb465, 3, none⟩) (ez11 (p := ⟨gb465, 2, none⟩) (ez11 (p := ⟨gb465, 1, none⟩) (ez11 (p := ⟨gb465, 0, none⟩) (hz11 HO464.out BK465.out (by decide)) (fun _ hk => hk.2) (.int .i64 t459)) (fun _ hk => hk.2) (.int .i64 t460)) (fun _ hk => hk.2) (.int .i64 t461)) (fun _ hk => hk.2) (.slice Ao45 t462.length co45)) (fun _ h_ => h_.1))))) (below_size (by repeat (first | (with_reducible first | exact HB.out | apply by11 | apply ay11 | apply cy11 | refine dy11 ?_ GE442.out | refine dy11 ?_ GE443.out | refine dy11 ?_ GE465.out) | exact HB.out)))); have n4_ := zz11 (hy11 (g := gb442) (o := .cells #[.int .i64 a0_0, .int .i64 a0_1, .int .i64 a0_2, .slice A0_3 l0_3.length c0_3] 55 (0, 0)) (by (with_reducible repeat (first | refine ey11 ?_ _ | refine gy11 ?_ | refine fy11 ?_ _)); refine blk_far ?_ NB442_465.out _; (with_reducible repeat (first | refine ey11 ?_ _ | refine gy11 ?_ | refine fy11 ?_ _)); refine blk_far ?_ NB442_465.out _; (with_reducible repeat (first | refine ey11 ?_ _ | refine gy11 ?_ | refine fy11 ?_ _)); refine blk_far ?_ NB442_465.out _; (with_reducible repeat (first | refine ey11 ?_ _ | refine gy11 ?_ | refine fy11 ?_ _)); refine blk_far ?_ NB442_465.out _; (with_reducible repeat (first | refine ey11 ?_ _ | refine gy11 ?_ | refine fy11 ?_ _)); exact BK442.out) hb); have n5_ := zz11 (hy11 (g := gb443) (o := .cells #[.int .i64 a1_0, .int .i64 a1_1, .int .i64 a1_2, .slice A1_3 l1_3.length c1_3] 55 (0, 0)) (by (with_reducible repeat (first | refine ey11 ?_ _ | refine gy11 ?_ | refine fy11 ?_ _)); refine blk_far ?_ NB443_465.out _; (with_reducible repeat (first | refine ey11 ?_ _ | refine gy11 ?_ | refine fy11 ?_ _)); refine blk_far ?_ NB443_465.out _; (with_reducible repeat (first | refine ey11 ?_ _ | refine gy11 ?_ | refine fy11 ?_ _)); refine blk_far ?_ NB443_465.out _; (with_reducible repeat (first | refine ey11 ?_ _ | refine gy11 ?_ | refine fy11 ?_ _)); refine blk_far ?_ NB443_465.out _; (with_reducible repeat (first | refine ey11 ?_ _ | refine gy11 ?_ | refine fy11 ?_ _)); exact BK443.out) hb); have n6_ := zz11 (hy11 (g := gb465) (o := .cells #[.int .i64 t459, .int .i64 t460, .int .i64 t461, .slice Ao45 t462.length co45] 58 (0, 0)) (by (with_reducible repeat (first | refine ey11 ?_ _ | refine gy11 ?_ | refine fy11 ?_ _)); refine blk_put (cs := #[.int .i64 t459, .int .i64 t460, .int .i64 t461, .slice none 0 0]) ?_ 3 _ rfl; (with_reducible repeat (first | refine ey11 ?_ _ | refine gy11 ?_ | refine fy11 ?_ _)); refine blk_put (cs := #[.int .i64 t459, .int .i64 t460, .int .i64 0, .slice none 0 0]) ?_ 2 _ rfl; (with_reducible repeat (first | refine ey11 ?_ _ | refine gy11 ?_ | refine fy11 ?_ _)); refine blk_put (cs := #[.int .i64 t459, .int .i64 0, .int .i64 0, .slice none 0 0]) ?_ 1 _ rfl; (with_reducible repeat (first | refine ey11 ?_ _ | refine gy11 ?_ | refine fy11 ?_ _)); refine blk_put (cs := #[.int .i64 0, .int .i64 0, .int .i64 0, .slice none 0 0]) ?_ 0 _ rfl; (with_reducible repeat (first | refine ey11 ?_ _ | refine gy11 ?_ | refine fy11 ?_ _)); exact BK465.out) hb); have n7_ := zz11 (below_step (by repeat (first | (with_reducible first | exact HB.out | apply by11 | apply ay11 | apply cy11 | refine dy11 ?_ GE442.out | refine dy11 ?_ GE443.out | refine dy11 ?_ GE465.out) | exact HB.out)) hb); clear HO451; clear HO457; clear HO464; clear BK442; clear BK443; clear BK465; clear HB; have HO451 := n0_; have HO457 := n1_; have HO464 := n2_; have HO471 := n3_; have BK442 := n4_; have BK443 := n5_; have BK465 := n6_; have HB := n7_; clear n0_ n1_ n2_ n3_ n4_ n5_ n6_ n7_; (try clear hb); (try clear hb2); (try clear hk); (try clear hi); (try clear ho0)) | ((with_reducible refine gate_dst (N := 8) rfl ?_); refine box_event ?hg (N := 8) ?hd (cs := #[.int .i64 0, .int .i64 0, .int .i64 0, .slice none 0 0]) (t := 58) ?hr ?_; (case hd => rfl); (case hg => rfl); (case hr => first | (go_simp; done) | (go_simp; rfl)); intro gb472 hg w48 hbox hb; have n0_ := zz11 (dz11 (by (with_reducible repeat (first | apply az11 | apply bz11 | apply cz11)); exact HO451.out) hb); have n1_ := zz11 (dz11 (by (with_reducible repeat (first | apply az11 | apply bz11 | apply cz11)); exact HO457.out) hb); have n2_ := zz11 (dz11 (by (with_reducible repeat (first | apply az11 | apply bz11 | apply cz11)); exact HO464.out) hb); have n3_ := zz11 (dz11 (by (with_reducible repeat (first | apply az11 | apply bz11 | apply cz11)); exact HO471.out) hb); have n4_ := zz11 (hy11 (g := gb442) (o := .cells #[.int .i64 a0_0, .int .i64 a0_1, .int .i64 a0_2, .slice A0_3 l0_3.length c0_3] 55 (0, 0)) (by (with_reducible repeat (first | refine ey11 ?_ _ | refine gy11 ?_ | refine fy11 ?_ _)); exact BK442.out) hb); have n5_ := zz11 (hy11 (g := gb443) (o := .cells #[.int .i64 a1_0, .int .i64 a1_1, .int .i64 a1_2, .slice A1_3 l1_3.length c1_3] 55 (0, 0)) (by (with_reducible repeat (first | refine ey11 ?_ _ | refine gy11 ?_ | refine fy11 ?_ _)); exact BK443.out) hb); have n6_ := zz11 (hy11 (g := gb465) (o := .cells #[.int .i64 t459, .int .i64 t460, .int .i64 t461, .slice Ao45 t462.length co45] 58 (0, 0)) (by (with_reducible repeat (first | refine ey11 ?_ _ | refine gy11 ?_ | refine fy11 ?_ _)); exact BK465.out) hb); have n7_ := zz11 (below_step (by repeat (first | (with_reducible first | exact HB.out | apply by11 | apply ay11 | apply cy11 | refine dy11 ?_ GE442.out | refine dy11 ?_ GE443.out | refine dy11 ?_ GE465.out) | exact HB.out)) hb); have n8_ := zz11 (hbox); have n9_ := zz11 ((by rw [hg]; exact (below_size (by repeat (first | (with_reducible first | exact HB.out | apply by11 | apply ay11 | apply cy11 | refine dy11 ?_ GE442.out | refine dy11 ?_ GE443.out | refine dy11 ?_ GE465.out) | exact HB.out))) : w.heap.size ≤ gb472)); have n10_ := zz11 ((by rw [hg]; exact (below_size (by repeat (first | (with_reducible first | exact HB.out | apply by11 | apply ay11 | apply cy11 | refine dy11 ?_ GE442.out | refine dy11 ?_ GE443.out | refine dy11 ?_ GE465.out) | exact HB.out))) : w.heap.size ≤ gb472)); have n11_ := zz11 ((by rw [hg]; exact Nat.ne_of_lt (blk_lt (g := gb442) (o := .cells #[.int .i64 a0_0, .int .i64 a0_1, .int .i64 a0_2, .slice A0_3 l0_3.length c0_3] 55 (0, 0)) (by (with_reducible repeat (first | refine ey11 ?_ _ | refine gy11 ?_ | refine fy11 ?_ _)); exact BK442.out)) : gb442 ≠ gb472)); have n12_ := zz11 ((by rw [hg]; exact Nat.ne_of_gt (blk_lt (g := gb442) (o := .cells #[.int .i64 a0_0, .int .i64 a0_1, .int .i64 a0_2, .slice A0_3 l0_3.length c0_3] 55 (0, 0)) (by (with_reducible repeat (first | refine ey11 ?_ _ | refine gy11 ?_ | refine fy11 ?_ _)); exact BK442.out)) : gb472 ≠ gb442)); have n13_ := zz11 ((by rw [hg]; exact Nat.ne_of_lt (blk_lt (g := gb443) (o := .cells #[.int .i64 a1_0, .int .i64 a1_1, .int .i64 a1_2, .slice A1_3 l1_3.length c1_3] 55 (0, 0)) (by (with_reducible repeat (first | refine ey11 ?_ _ | refine gy11 ?_ | refine fy11 ?_ _)); exact BK443.out)) : gb443 ≠ gb472)); have n14_ := zz11 ((by rw [hg]; exact Nat.ne_of_gt (blk_lt (g := gb443) (o := .cells #[.int .i64 a1_0, .int .i64 a1_1, .int .i64 a1_2, .slice A1_3 l1_3.length c1_3] 55 (0, 0)) (by (with_reducible repeat (first | refine ey11 ?_ _ | refine gy11 ?_ | refine fy11 ?_ _)); exact BK443.out)) : gb472 ≠ gb443)); have n15_ := zz11 ((by rw [hg]; exact Nat.ne_of_lt (blk_lt (g := gb465) (o := .cells #[.int .i64 t459, .int .i64 t460, .int .i64 t461, .slice Ao45 t462.length co45] 58 (0, 0)) (by (with_reducible repeat (first | refine ey11 ?_ _ | refine gy11 ?_ | refine fy11 ?_ _)); exact BK465.out)) : gb465 ≠ gb472)); have n16_ := zz11 ((by rw [hg]; exact Nat.ne_of_gt (blk_lt (g := gb465) (o := .cells #[.int .i64 t459, .int .i64 t460, .int .i64 t461, .slice Ao45 t462.length co45] 58 (0, 0)) (by (with_reducible repeat (first | refine ey11 ?_ _ | refine gy11 ?_ | refine fy11 ?_ _)); exact BK465.out)) : gb472 ≠ gb465)); clear HO451; clear HO457; clear HO464; clear HO471; clear BK442; clear BK443; clear BK465; clear HB; have HO451 := n0_; have HO457 := n1_; have HO464 := n2_; have HO471 := n3_; have BK442 := n4_; have BK443 := n5_; have BK465 := n6_; have HB := n7_; have BK472 := n8_; have GW472 := n9_; have GE472 := n10_; have NB442_472 := n11_; have NB472_442 := n12_; have NB443_472 := n13_; have NB472_443 := n14_; have NB465_472 := n15_; have NB472_465 := n16_; clear n0_ n1_ n2_ n3_ n4_ n5_ n6_ n7_ n8_ n9_ n10_ n11_ n12_ n13_ n14_ n15_ n16_; clear hb hbox hg; have hnb49 := NB472_442.out; have hnc49 := NB442_472.out; have hnb50 := NB472_443.out; have hnc50 := NB443_472.out; have hnb51 := NB472_465.out; have hnc51 := NB465_472.out; have hcz52_0 : w48.cell? ⟨gb472, 0, none⟩ = some (.int .i64 0) := (blk_cell BK472.out 0).trans rfl; have hcz52_1 : w48.cell? ⟨gb472, 1, none⟩ = some (.int .i64 0) := (blk_cell BK472.out 1).trans rfl; have hcz52_2 : w48.cell? ⟨gb472, 2, none⟩ = some (.int .i64 0) := (blk_cell BK472.out 2).trans rfl; have hcz52_3 : w48.cell? ⟨gb472, 3, none⟩ = some (.slice none 0 0) := (blk_cell BK472.out 3).trans rfl; have hfz52_0 := blk_frozen BK472.out 0; have hfz52_1 := blk_frozen BK472.out 1; have hfz52_2 := blk_frozen BK472.out 2; have hfz52_3 := blk_frozen BK472.out 3; obtain ⟨Ao53, co53, eo53⟩ := Kd.R_slice HO471.out; subst eo53; have hcz54_0 : w48.cell? ⟨gb465, 0, none⟩ = some (.int .i64 t459) := (blk_cell BK465.out 0).trans rfl; have hcz54_1 : w48.cell? ⟨gb465, 1, none⟩ = some (.int .i64 t460) := (blk_cell BK465.out 1).trans rfl; have hcz54_2 : w48.cell? ⟨gb465, 2, none⟩ = some (.int .i64 t461) := (blk_cell BK465.out 2).trans rfl; have hcz54_3 : w48.cell? ⟨gb465, 3, none⟩ = some (.slice Ao45 t462.length co45) := (blk_cell BK465.out 3).trans rfl; have hfz54_0 := blk_frozen BK465.out 0; have hfz54_1 := blk_frozen BK465.out 1; have hfz54_2 := blk_frozen BK465.out 2; have hfz54_3 := blk_frozen BK465.out 3) | ((with_reducible refine gate_callee (f := 44) rfl ?_); refine goesL_ (some 31) rfl rfl Try.func44 (by kernel_rfl) rfl #[.agg #[.int .i64 t459, .int .i64 t460, .int .i64 t461, .slice Ao45 t462.length co45], .agg #[.int .i64 t466, .int .i64 t467, .int .i64 t468, .slice Ao53 t469.length co53]] rfl (by (try simp only [List.map_toArray, List.map_cons, List.map_nil]); first | done | rfl | (simp only [List.length_drop, List.length_take]; rfl)) ?_; (with_reducible refine (impl_SameLetters.calls t459 t460 t461 _ _ t462 t466 t467 t468 _ _ t469 t473 _ ?side1 ?side2 ?side3 ?side4 A24.out).mono ?_); (case side1 => refine (iz11 (e := 5) (base := w.heap.size) (ok := fun k_ => (((True ∧ some k_ ≠ (.slice Ao36 t449.length co36 : Value).ownBlock) ∧ some k_ ≠ (.slice Ao37 t455.length co37 : Value).ownBlock) ∧ some k_ ≠ (.slice Ao53 t469.length co53 : Value).ownBlock)) (n := t462.length) (c := co45) ?_).2.2; exact (by (with_reducible repeat (first | apply az11 | apply bz11 | apply cz11)); exact (gz11 (ez11 (p := ⟨gb472, 3, none⟩) (ez11 (p := ⟨gb472, 2, none⟩) (ez11 (p := ⟨gb472, 1, none⟩) (ez11 (p := ⟨gb472, 0, none⟩) (hz11 HO464.out BK472.out (by decide)) (fun _ hk => hk.2) (.int .i64 t466)) (fun _ hk => hk.2) (.int .i64 t467)) (fun _ hk => hk.2) (.int .i64 t468)) (fun _ hk => hk.2) (.slice Ao53 t469.length co53)) (fun _ h_ => h_.1)))); (case side2 => exact (iz11 HO464.out).2.1); (case side3 => refine (iz11 (e := 5) (base := w.heap.size) (ok := fun k_ => (((True ∧ some k_ ≠ (.slice Ao36 t449.length co36 : Value).ownBlock) ∧ some k_ ≠ (.slice Ao37 t455.length co37 : Value).ownBlock) ∧ some k_ ≠ (.slice Ao45 t462.length co45 : Value).ownBlock)) (n := t469.length) (c := co53) ?_).2.2; exact (by (with_reducible repeat (first | apply az11 | apply bz11 | apply cz11)); exact (gz11 (ez11 (p := ⟨gb472, 3, none⟩) (ez11 (p := ⟨gb472, 2, none⟩) (ez11 (p := ⟨gb472, 1, none⟩) (ez11 (p := ⟨gb472, 0, none⟩) (hz11 HO471.out BK472.out (by decide)) (fun _ hk => hk.2) (.int .i64 t466)) (fun _ hk => hk.2) (.int .i64 t467)) (fun _ hk => hk.2) (.int .i64 t468)) (fun _ hk => hk.2) (.slice Ao53 t469.length co53)) (fun _ h_ => h_.1)))); (case side4 => exact (iz11 HO471.out).2.1); rintro e w55 ⟨rfl, hb⟩; refine ⟨_, rfl, ?_⟩; have n0_ := zz11 (dz11 (by (with_reducible repeat (first | apply az11 | apply bz11 | apply cz11)); exact (gz11 (ez11 (p := ⟨gb472, 3, none⟩) (ez11 (p := ⟨gb472, 2, none⟩) (ez11 (p := ⟨gb472, 1, none⟩) (ez11 (p := ⟨gb472, 0, none⟩) (hz11 HO451.out BK472.out (by decide)) (fun _ hk => hk.2) (.int .i64 t466)) (fun _ hk => hk.2) (.int .i64 t467)) (fun _ hk => hk.2) (.int .i64 t468)) (fun _ hk => hk.2) (.slice Ao53 t469.length co53)) (fun _ h_ => h_.1))) hb); have n1_ := zz11 (dz11 (by (with_reducible repeat (first | apply az11 | apply bz11 | apply cz11)); exact (gz11 (ez11 (p := ⟨gb472, 3, none⟩) (ez11 (p := ⟨gb472, 2, none⟩) (ez11 (p := ⟨gb472, 1, none⟩) (ez11 (p := ⟨gb472, 0, none⟩) (hz11 HO457.out BK472.out (by decide)) (fun _ hk => hk.2) (.int .i64 t466)) (fun _ hk => hk.2) (.int .i64 t467)) (fun _ hk => hk.2) (.int .i64 t468)) (fun _ hk => hk.2) (.slice Ao53 t469.length co53)) (fun _ h_ => h_.1))) hb); have n2_ := zz11 (dz11 (by (with_reducible repeat (first | apply az11 | apply bz11 | apply cz11)); exact (gz11 (ez11 (p := ⟨gb472, 3, none⟩) (ez11 (p := ⟨gb472, 2, none⟩) (ez11 (p := ⟨gb472, 1, none⟩) (ez11 (p := ⟨gb472, 0, none⟩) (hz11 HO464.out BK472.out (by decide)) (fun _ hk => hk.2) (.int .i64 t466)) (fun _ hk => hk.2) (.int .i64 t467)) (fun _ hk => hk.2) (.int .i64 t468)) (fun _ hk => hk.2) (.slice Ao53 t469.length co53)) (fun _ h_ => h_.1))) hb); have n3_ := zz11 (dz11 (by (with_reducible repeat (first | apply az11 | apply bz11 | apply cz11)); exact (gz11 (ez11 (p := ⟨gb472, 3, none⟩) (ez11 (p := ⟨gb472, 2, none⟩) (ez11 (p := ⟨gb472, 1, none⟩) (ez11 (p := ⟨gb472, 0, none⟩) (hz11 HO471.out BK472.out (by decide)) (fun _ hk => hk.2) (.int .i64 t466)) (fun _ hk => hk.2) (.int .i64 t467)) (fun _ hk => hk.2) (.int .i64 t468)) (fun _ hk => hk.2) (.slice Ao53 t469.length co53)) (fun _ h_ => h_.1))) hb); have n4_ := zz11 (hy11 (g := gb442) (o := .cells #[.int .i64 a0_0, .int .i64 a0_1, .int .i64 a0_2, .slice A0_3 l0_3.length c0_3] 55 (0, 0)) (by (with_reducible repeat (first | refine ey11 ?_ _ | refine gy11 ?_ | refine fy11 ?_ _)); refine blk_far ?_ NB442_472.out _; (with_reducible repeat (first | refine ey11 ?_ _ | refine gy11 ?_ | refine fy11 ?_ _)); refine blk_far ?_ NB442_472.out _; (with_reducible repeat (first | refine ey11 ?_ _ | refine gy11 ?_ | refine fy11 ?_ _)); refine blk_far ?_ NB442_472.out _; (with_reducible repeat (first | refine ey11 ?_ _ | refine gy11 ?_ | refine fy11 ?_ _)); refine blk_far ?_ NB442_472.out _; (with_reducible repeat (first | refine ey11 ?_ _ | refine gy11 ?_ | refine fy11 ?_ _)); exact BK442.out) hb); have n5_ := zz11 (hy11 (g := gb443) (o := .cells #[.int .i64 a1_0, .int .i64 a1_1, .int .i64 a1_2, .slice A1_3 l1_3.length c1_3] 55 (0, 0)) (by (with_reducible repeat (first | refine ey11 ?_ _ | refine gy11 ?_ | refine fy11 ?_ _)); refine blk_far ?_ NB443_472.out _; (with_reducible repeat (first | refine ey11 ?_ _ | refine gy11 ?_ | refine fy11 ?_ _)); refine blk_far ?_ NB443_472.out _; (with_reducible repeat (first | refine ey11 ?_ _ | refine gy11 ?_ | refine fy11 ?_ _)); refine blk_far ?_ NB443_472.out _; (with_reducible repeat (first | refine ey11 ?_ _ | refine gy11 ?_ | refine fy11 ?_ _)); refine blk_far ?_ NB443_472.out _; (with_reducible repeat (first | refine ey11 ?_ _ | refine gy11 ?_ | refine fy11 ?_ _)); exact BK443.out) hb); have n6_ := zz11 (hy11 (g := gb465) (o := .cells #[.int .i64 t459, .int .i64 t460, .int .i64 t461, .slice Ao45 t462.length co45] 58 (0, 0)) (by (with_reducible repeat (first | refine ey11 ?_ _ | refine gy11 ?_ | refine fy11 ?_ _)); refine blk_far ?_ NB465_472.out _; (with_reducible repeat (first | refine ey11 ?_ _ | refine gy11 ?_ | refine fy11 ?_ _)); refine blk_far ?_ NB465_472.out _; (with_reducible repeat (first | refine ey11 ?_ _ | refine gy11 ?_ | refine fy11 ?_ _)); refine blk_far ?_ NB465_472.out _; (with_reducible repeat (first | refine ey11 ?_ _ | refine gy11 ?_ | refine fy11 ?_ _)); refine blk_far ?_ NB465_472.out _; (with_reducible repeat (first | refine ey11 ?_ _ | refine gy11 ?_ | refine fy11 ?_ _)); exact BK465.out) hb); have n7_ := zz11 (hy11 (g := gb472) (o := .cells #[.int .i64 t466, .int .i64 t467, .int .i64 t468, .slice Ao53 t469.length co53] 58 (0, 0)) (by (with_reducible repeat (first | refine ey11 ?_ _ | refine gy11 ?_ | refine fy11 ?_ _)); refine blk_put (cs := #[.int .i64 t466, .int .i64 t467, .int .i64 t468, .slice none 0 0]) ?_ 3 _ rfl; (with_reducible repeat (first | refine ey11 ?_ _ | refine gy11 ?_ | refine fy11 ?_ _)); refine blk_put (cs := #[.int .i64 t466, .int .i64 t467, .int .i64 0, .slice none 0 0]) ?_ 2 _ rfl; (with_reducible repeat (first | refine ey11 ?_ _ | refine gy11 ?_ | refine fy11 ?_ _)); refine blk_put (cs := #[.int .i64 t466, .int .i64 0, .int .i64 0, .slice none 0 0]) ?_ 1 _ rfl; (with_reducible repeat (first | refine ey11 ?_ _ | refine gy11 ?_ | refine fy11 ?_ _)); refine blk_put (cs := #[.int .i64 0, .int .i64 0, .int .i64 0, .slice none 0 0]) ?_ 0 _ rfl; (with_reducible repeat (first | refine ey11 ?_ _ | refine gy11 ?_ | refine fy11 ?_ _)); exact BK472.out) hb); have n8_ := zz11 (below_step (by repeat (first | (with_reducible first | exact HB.out | apply by11 | apply ay11 | apply cy11 | refine dy11 ?_ GE442.out | refine dy11 ?_ GE443.out | refine dy11 ?_ GE465.out | refine dy11 ?_ GE472.out) | exact HB.out)) hb); clear HO451; clear HO457; clear HO464; clear HO471; clear BK442; clear BK443; clear BK465; clear BK472; clear HB; have HO451 := n0_; have HO457 := n1_; have HO464 := n2_; have HO471 := n3_; have BK442 := n4_; have BK443 := n5_; have BK465 := n6_; have BK472 := n7_; have HB := n8_; clear n0_ n1_ n2_ n3_ n4_ n5_ n6_ n7_ n8_; (try clear hb); (try clear hb2); (try clear hk); (try clear hi)))
        go_ret
        exact ⟨by first | rfl | (simp [errW_none, errW_some] <;> rfl) | (simp [*, errW_none, errW_some] <;> rfl), by repeat (first | (with_reducible first | exact HB.out | apply by11 | apply ay11 | apply cy11 | refine dy11 ?_ GE442.out | refine dy11 ?_ GE443.out | refine dy11 ?_ GE465.out | refine dy11 ?_ GE472.out) | exact HB.out)⟩
      · rw [if_neg c25] at H
        have c25b0 : (t473 != t458) = false := by simpa using c25
        (try (have c25b1 : decide (t473 = t458) = true := by simpa using c25))
        (try (have c25b2 : (t473 == t458) = true := by simpa using c25))
        clear c25
        replace H := Option.bind_eq_some_iff.mp H
        obtain ⟨⟨t474, t475, t476, t477⟩, A560, H⟩ := H
        replace H : ((laws_eqLetter.f k t459 t460 t461 t462 t474 t475 t476 t477).bind fun t480 => (if t480 = true then ((laws_toLetter.f k a1_0 a1_1 a1_2 l1_3).bind fun bt481 => ((laws_eqLetter.f k t466 t467 t468 t469 bt481.1 bt481.2.1 bt481.2.2.1 bt481.2.2.2).bind fun t487 => (if t487 = true then (some true) else (some false)))) else (some false))) = some r := H
        have A56 := zz11 A560
        clear A560
        replace H := Option.bind_eq_some_iff.mp H
        obtain ⟨t480, A570, H⟩ := H
        replace H : (if t480 = true then ((laws_toLetter.f k a1_0 a1_1 a1_2 l1_3).bind fun bt481 => ((laws_eqLetter.f k t466 t467 t468 t469 bt481.1 bt481.2.1 bt481.2.2.1 bt481.2.2.2).bind fun t487 => (if t487 = true then (some true) else (some false)))) else (some false)) = some r := H
        have A57 := zz11 A570
        clear A570
        by_cases c58 : t480 = true
        · subst c58
          have H1 : ((laws_toLetter.f k a1_0 a1_1 a1_2 l1_3).bind fun bt481 => ((laws_eqLetter.f k t466 t467 t468 t469 bt481.1 bt481.2.1 bt481.2.2.1 bt481.2.2.2).bind fun t487 => (if t487 = true then (some true) else (some false)))) = some r := by rw [if_pos rfl] at H; exact H
          clear H
          have H := H1
          clear H1
          replace H := Option.bind_eq_some_iff.mp H
          obtain ⟨⟨t481, t482, t483, t484⟩, A590, H⟩ := H
          replace H : ((laws_eqLetter.f k t466 t467 t468 t469 t481 t482 t483 t484).bind fun t487 => (if t487 = true then (some true) else (some false))) = some r := H
          have A59 := zz11 A590
          clear A590
          replace H := Option.bind_eq_some_iff.mp H
          obtain ⟨t487, A600, H⟩ := H
          replace H : (if t487 = true then (some true) else (some false)) = some r := H
          have A60 := zz11 A600
          clear A600
          by_cases c61 : t487 = true
          · subst c61
            have H1 : (some true) = some r := by rw [if_pos rfl] at H; exact H
            clear H
            have H := H1
            clear H1
            obtain rfl := Option.some.inj H
            go_enter Try.func11, Try.ntmps11
            try go_wp2_with (first | ((with_reducible refine gate_dst (N := 2) rfl ?_); refine box_event ?hg (N := 2) ?hd (cs := #[.int .i64 a0_0, .int .i64 a0_1, .int .i64 a0_2, .slice A0_3 l0_3.length c0_3]) (t := 55) ?hr ?_; (case hd => rfl); (case hg => rfl); (case hr => first | (go_simp; done) | (go_simp; rfl)); intro gb442 hg w62 hbox hb; have n0_ := zz11 (below_step (by repeat (first | (with_reducible first | exact HB.out | apply by11 | apply ay11 | apply cy11) | exact HB.out)) hb); have n1_ := zz11 (hbox); have n2_ := zz11 ((by rw [hg]; exact (below_size (by repeat (first | (with_reducible first | exact HB.out | apply by11 | apply ay11 | apply cy11) | exact HB.out))) : w.heap.size ≤ gb442)); have n3_ := zz11 ((by rw [hg]; exact (below_size (by repeat (first | (with_reducible first | exact HB.out | apply by11 | apply ay11 | apply cy11) | exact HB.out))) : w.heap.size ≤ gb442)); clear HB; have HB := n0_; have BK442 := n1_; have GW442 := n2_; have GE442 := n3_; clear n0_ n1_ n2_ n3_; clear hb hbox hg) | ((with_reducible refine gate_dst (N := 3) rfl ?_); refine box_event ?hg (N := 3) ?hd (cs := #[.int .i64 a1_0, .int .i64 a1_1, .int .i64 a1_2, .slice A1_3 l1_3.length c1_3]) (t := 55) ?hr ?_; (case hd => rfl); (case hg => rfl); (case hr => first | (go_simp; done) | (go_simp; rfl)); intro gb443 hg w63 hbox hb; have n0_ := zz11 (hy11 (g := gb442) (o := .cells #[.int .i64 a0_0, .int .i64 a0_1, .int .i64 a0_2, .slice A0_3 l0_3.length c0_3] 55 (0, 0)) (by (with_reducible repeat (first | refine ey11 ?_ _ | refine gy11 ?_ | refine fy11 ?_ _)); exact BK442.out) hb); have n1_ := zz11 (below_step (by repeat (first | (with_reducible first | exact HB.out | apply by11 | apply ay11 | apply cy11 | refine dy11 ?_ GE442.out) | exact HB.out)) hb); have n2_ := zz11 (hbox); have n3_ := zz11 ((by rw [hg]; exact (below_size (by repeat (first | (with_reducible first | exact HB.out | apply by11 | apply ay11 | apply cy11 | refine dy11 ?_ GE442.out) | exact HB.out))) : w.heap.size ≤ gb443)); have n4_ := zz11 ((by rw [hg]; exact (below_size (by repeat (first | (with_reducible first | exact HB.out | apply by11 | apply ay11 | apply cy11 | refine dy11 ?_ GE442.out) | exact HB.out))) : w.heap.size ≤ gb443)); have n5_ := zz11 ((by rw [hg]; exact Nat.ne_of_lt (blk_lt (g := gb442) (o := .cells #[.int .i64 a0_0, .int .i64 a0_1, .int .i64 a0_2, .slice A0_3 l0_3.length c0_3] 55 (0, 0)) (by (with_reducible repeat (first | refine ey11 ?_ _ | refine gy11 ?_ | refine fy11 ?_ _)); exact BK442.out)) : gb442 ≠ gb443)); have n6_ := zz11 ((by rw [hg]; exact Nat.ne_of_gt (blk_lt (g := gb442) (o := .cells #[.int .i64 a0_0, .int .i64 a0_1, .int .i64 a0_2, .slice A0_3 l0_3.length c0_3] 55 (0, 0)) (by (with_reducible repeat (first | refine ey11 ?_ _ | refine gy11 ?_ | refine fy11 ?_ _)); exact BK442.out)) : gb443 ≠ gb442)); clear BK442; clear HB; have BK442 := n0_; have HB := n1_; have BK443 := n2_; have GW443 := n3_; have GE443 := n4_; have NB442_443 := n5_; have NB443_442 := n6_; clear n0_ n1_ n2_ n3_ n4_ n5_ n6_; clear hb hbox hg; have hnb64 := NB442_443.out; have hnc64 := NB443_442.out; have hcz65_0 : w63.cell? ⟨gb442, 0, none⟩ = some (.int .i64 a0_0) := (blk_cell BK442.out 0).trans rfl; have hcz65_1 : w63.cell? ⟨gb442, 1, none⟩ = some (.int .i64 a0_1) := (blk_cell BK442.out 1).trans rfl; have hcz65_2 : w63.cell? ⟨gb442, 2, none⟩ = some (.int .i64 a0_2) := (blk_cell BK442.out 2).trans rfl; have hcz65_3 : w63.cell? ⟨gb442, 3, none⟩ = some (.slice A0_3 l0_3.length c0_3) := (blk_cell BK442.out 3).trans rfl; have hfz65_0 := blk_frozen BK442.out 0; have hfz65_1 := blk_frozen BK442.out 1; have hfz65_2 := blk_frozen BK442.out 2; have hfz65_3 := blk_frozen BK442.out 3) | ((with_reducible refine gate_callee (f := 41) rfl ?_); refine goesL_ (some 12) rfl rfl Try.func41 (by kernel_rfl) rfl #[.agg #[.int .i64 a0_0, .int .i64 a0_1, .int .i64 a0_2, .slice A0_3 l0_3.length c0_3], .int .i64 1048576] rfl (by (try simp only [List.map_toArray, List.map_cons, List.map_nil]); first | done | rfl | (simp only [List.length_drop, List.length_take]; rfl)) ?_; (with_reducible refine (laws_szLetter.calls a0_0 a0_1 a0_2 _ _ l0_3 1048576 t444 _ ?side1 ?side2 A3.out).mono ?_); (case side1 => repeat (first | exact (Kd.C_below HR0_3.out HB.out) | (with_reducible refine Kd.C_alloc ?_ _) | (with_reducible refine Kd.C_drewN ?_ _) | (with_reducible refine Kd.C_drew ?_))); (case side2 => exact HC0_3.out); rintro e w66 ⟨rfl, hb⟩; refine ⟨_, rfl, ?_⟩; have n0_ := zz11 (hy11 (g := gb442) (o := .cells #[.int .i64 a0_0, .int .i64 a0_1, .int .i64 a0_2, .slice A0_3 l0_3.length c0_3] 55 (0, 0)) (by (with_reducible repeat (first | refine ey11 ?_ _ | refine gy11 ?_ | refine fy11 ?_ _)); exact BK442.out) hb); have n1_ := zz11 (hy11 (g := gb443) (o := .cells #[.int .i64 a1_0, .int .i64 a1_1, .int .i64 a1_2, .slice A1_3 l1_3.length c1_3] 55 (0, 0)) (by (with_reducible repeat (first | refine ey11 ?_ _ | refine gy11 ?_ | refine fy11 ?_ _)); exact BK443.out) hb); have n2_ := zz11 (below_step (by repeat (first | (with_reducible first | exact HB.out | apply by11 | apply ay11 | apply cy11 | refine dy11 ?_ GE442.out | refine dy11 ?_ GE443.out) | exact HB.out)) hb); clear BK442; clear BK443; clear HB; have BK442 := n0_; have BK443 := n1_; have HB := n2_; clear n0_ n1_ n2_; (try clear hb); (try clear hb2); (try clear hk); (try clear hi); have hcz67_0 : w66.cell? ⟨gb443, 0, none⟩ = some (.int .i64 a1_0) := (blk_cell BK443.out 0).trans rfl; have hcz67_1 : w66.cell? ⟨gb443, 1, none⟩ = some (.int .i64 a1_1) := (blk_cell BK443.out 1).trans rfl; have hcz67_2 : w66.cell? ⟨gb443, 2, none⟩ = some (.int .i64 a1_2) := (blk_cell BK443.out 2).trans rfl; have hcz67_3 : w66.cell? ⟨gb443, 3, none⟩ = some (.slice A1_3 l1_3.length c1_3) := (blk_cell BK443.out 3).trans rfl; have hfz67_0 := blk_frozen BK443.out 0; have hfz67_1 := blk_frozen BK443.out 1; have hfz67_2 := blk_frozen BK443.out 2; have hfz67_3 := blk_frozen BK443.out 3) | ((with_reducible refine gate_callee (f := 41) rfl ?_); refine goesL_ (some 17) rfl rfl Try.func41 (by kernel_rfl) rfl #[.agg #[.int .i64 a1_0, .int .i64 a1_1, .int .i64 a1_2, .slice A1_3 l1_3.length c1_3], .int .i64 t444] rfl (by (try simp only [List.map_toArray, List.map_cons, List.map_nil]); first | done | rfl | (simp only [List.length_drop, List.length_take]; rfl)) ?_; (with_reducible refine (laws_szLetter.calls a1_0 a1_1 a1_2 _ _ l1_3 t444 t445 _ ?side1 ?side2 A10.out).mono ?_); (case side1 => repeat (first | exact (Kd.C_below HR1_3.out HB.out) | (with_reducible refine Kd.C_alloc ?_ _) | (with_reducible refine Kd.C_drewN ?_ _) | (with_reducible refine Kd.C_drew ?_))); (case side2 => exact HC1_3.out); rintro e w68 ⟨rfl, hb⟩; refine ⟨_, rfl, ?_⟩; have n0_ := zz11 (hy11 (g := gb442) (o := .cells #[.int .i64 a0_0, .int .i64 a0_1, .int .i64 a0_2, .slice A0_3 l0_3.length c0_3] 55 (0, 0)) (by (with_reducible repeat (first | refine ey11 ?_ _ | refine gy11 ?_ | refine fy11 ?_ _)); exact BK442.out) hb); have n1_ := zz11 (hy11 (g := gb443) (o := .cells #[.int .i64 a1_0, .int .i64 a1_1, .int .i64 a1_2, .slice A1_3 l1_3.length c1_3] 55 (0, 0)) (by (with_reducible repeat (first | refine ey11 ?_ _ | refine gy11 ?_ | refine fy11 ?_ _)); exact BK443.out) hb); have n2_ := zz11 (below_step (by repeat (first | (with_reducible first | exact HB.out | apply by11 | apply ay11 | apply cy11 | refine dy11 ?_ GE442.out | refine dy11 ?_ GE443.out) | exact HB.out)) hb); clear BK442; clear BK443; clear HB; have BK442 := n0_; have BK443 := n1_; have HB := n2_; clear n0_ n1_ n2_; (try clear hb); (try clear hb2); (try clear hk); (try clear hi)))
            have n0_ := zz11 (gy11 BK442.out)
            have n1_ := zz11 (gy11 BK443.out)
            have n2_ := zz11 (cy11 HB.out)
            clear BK442
            clear BK443
            clear HB
            have BK442 := n0_
            have BK443 := n1_
            have HB := n2_
            clear n0_ n1_ n2_
            refine start_ (n := 6) (S := fun w' => w'.cell? ⟨gb442, 0, none⟩ = some (.int .i64 a0_0) ∧ w'.cell? ⟨gb442, 1, none⟩ = some (.int .i64 a0_1) ∧ w'.cell? ⟨gb442, 2, none⟩ = some (.int .i64 a0_2) ∧ w'.cell? ⟨gb442, 3, none⟩ = some (.slice A0_3 l0_3.length c0_3) ∧ w'.cell? ⟨gb443, 0, none⟩ = some (.int .i64 a1_0) ∧ w'.cell? ⟨gb443, 1, none⟩ = some (.int .i64 a1_1) ∧ w'.cell? ⟨gb443, 2, none⟩ = some (.int .i64 a1_2) ∧ w'.cell? ⟨gb443, 3, none⟩ = some (.slice A1_3 l1_3.length c1_3)) (ds := []) #[false, false, false, false, false, false] (by kernel_rfl) rfl rfl ⟨(blk_cell BK442.out 0).trans rfl, (blk_cell BK442.out 1).trans rfl, (blk_cell BK442.out 2).trans rfl, (blk_cell BK442.out 3).trans rfl, (blk_cell BK443.out 0).trans rfl, (blk_cell BK443.out 1).trans rfl, (blk_cell BK443.out 2).trans rfl, (blk_cell BK443.out 3).trans rfl⟩ (fun hHeld => ?_)
            generalize w68.drew = w69 at BK442 BK443 HB hHeld ⊢
            refine take_ (i := 0) (N := some 20) (v := ?_) (a' := ?_) #[true, false, false, false, false, false] rfl rfl (by kernel_rfl) (fun _ _ _ h => h) (Or.inl ⟨by rfl, ?_⟩) hHeld ?_ ?_
            rotate_left
            · rintro w' ⟨s0, s1, s2, s3, s4, s5, s6, s7⟩
              go_simp
              with_reducible rfl
            rotate_left
            · simp only [Act.put, List.setIfInBounds_toArray, List.set_cons_zero, List.set_cons_succ, i64_w, i32_w]
              rfl
            refine take_ (i := 2) (N := some 22) (v := ?_) (a' := ?_) #[true, false, true, false, false, false] rfl rfl (by kernel_rfl) (fun _ _ _ h => h) (Or.inl ⟨by rfl, ?_⟩) hHeld ?_ ?_
            rotate_left
            · rintro w' ⟨s0, s1, s2, s3, s4, s5, s6, s7⟩
              go_simp
              with_reducible rfl
            rotate_left
            · simp only [Act.put, List.setIfInBounds_toArray, List.set_cons_zero, List.set_cons_succ, i64_w, i32_w]
              rfl
            refine one_ (i := 1) (N := some 21) #[true, true, true, false, false, false] rfl rfl (by kernel_rfl) (by decide) (fun K hK => ?_)
            refine goes_ Try.func43 (by kernel_rfl) rfl #[.agg #[.int .i64 a0_0, .int .i64 a0_1, .int .i64 a0_2, .slice A0_3 l0_3.length c0_3]] (by rfl) rfl rfl (by (try simp only [List.map_toArray, List.map_cons, List.map_nil]); first | done | rfl | (simp only [List.length_drop, List.length_take]; rfl)) ?_
            with_reducible refine (laws_toLetter.calls k a0_0 a0_1 a0_2 _ _ l0_3 t446 t447 t448 t449 _ ?side1 ?side2 A19.out).mono ?_
            (case side1 => repeat (first | exact (Kd.C_below HR0_3.out HB.out) | (with_reducible refine Kd.C_alloc ?_ _) | (with_reducible refine Kd.C_drewN ?_ _) | (with_reducible refine Kd.C_drew ?_)))
            (case side2 => exact HC0_3.out)
            rintro e w70 ⟨v450, rfl, ho0, hb⟩
            refine ⟨_, rfl, ?_⟩
            have n0_ := zz11 (Kd.R_lower ho0 (below_size (by repeat (first | (with_reducible first | exact HB.out | apply by11 | apply ay11 | apply cy11 | refine dy11 ?_ GE442.out | refine dy11 ?_ GE443.out) | exact HB.out))))
            have n1_ := zz11 (hy11 (g := gb442) (o := .cells #[.int .i64 a0_0, .int .i64 a0_1, .int .i64 a0_2, .slice A0_3 l0_3.length c0_3] 55 (0, 0)) (by (with_reducible repeat (first | refine ey11 ?_ _ | refine gy11 ?_ | refine fy11 ?_ _)); exact BK442.out) hb)
            have n2_ := zz11 (hy11 (g := gb443) (o := .cells #[.int .i64 a1_0, .int .i64 a1_1, .int .i64 a1_2, .slice A1_3 l1_3.length c1_3] 55 (0, 0)) (by (with_reducible repeat (first | refine ey11 ?_ _ | refine gy11 ?_ | refine fy11 ?_ _)); exact BK443.out) hb)
            have n3_ := zz11 (below_step (by repeat (first | (with_reducible first | exact HB.out | apply by11 | apply ay11 | apply cy11 | refine dy11 ?_ GE442.out | refine dy11 ?_ GE443.out) | exact HB.out)) hb)
            clear BK442
            clear BK443
            clear HB
            have HO451 := n0_
            have BK442 := n1_
            have BK443 := n2_
            have HB := n3_
            clear n0_ n1_ n2_ n3_
            (try clear hb)
            (try clear hb2)
            (try clear hk)
            (try clear hi)
            (try clear ho0)
            refine hK.out _ _ ⟨(blk_cell BK442.out 0).trans rfl, (blk_cell BK442.out 1).trans rfl, (blk_cell BK442.out 2).trans rfl, (blk_cell BK442.out 3).trans rfl, (blk_cell BK443.out 0).trans rfl, (blk_cell BK443.out 1).trans rfl, (blk_cell BK443.out 2).trans rfl, (blk_cell BK443.out 3).trans rfl⟩ (fun hHeld => ?_)
            clear hK K
            refine norm_ (a' := ?_) ?_ ?_
            rotate_left
            · show Act.put _ (some 21) _ = _
              simp only [Act.put, List.setIfInBounds_toArray, List.set_cons_zero, List.set_cons_succ, i64_w, i32_w]
              rfl
            refine one_ (i := 3) (N := some 23) #[true, true, true, true, false, false] rfl rfl (by kernel_rfl) (by decide) (fun K hK => ?_)
            refine goes_ Try.func43 (by kernel_rfl) rfl #[.agg #[.int .i64 a1_0, .int .i64 a1_1, .int .i64 a1_2, .slice A1_3 l1_3.length c1_3]] (by rfl) rfl rfl (by (try simp only [List.map_toArray, List.map_cons, List.map_nil]); first | done | rfl | (simp only [List.length_drop, List.length_take]; rfl)) ?_
            with_reducible refine (laws_toLetter.calls k a1_0 a1_1 a1_2 _ _ l1_3 t452 t453 t454 t455 _ ?side1 ?side2 A20.out).mono ?_
            (case side1 => repeat (first | exact (Kd.C_below HR1_3.out HB.out) | (with_reducible refine Kd.C_alloc ?_ _) | (with_reducible refine Kd.C_drewN ?_ _) | (with_reducible refine Kd.C_drew ?_)))
            (case side2 => exact HC1_3.out)
            rintro e w71 ⟨v456, rfl, ho0, hb⟩
            refine ⟨_, rfl, ?_⟩
            have n0_ := zz11 (jz11 (by (with_reducible repeat (first | apply az11 | apply bz11 | apply cz11)); exact HO451.out) (fz11 ho0) hb)
            have n1_ := zz11 (Kd.R_lower (kz11 ho0 (Kd.R_lt (by (with_reducible repeat (first | apply az11 | apply bz11 | apply cz11)); exact HO451.out))) (below_size (by repeat (first | (with_reducible first | exact HB.out | apply by11 | apply ay11 | apply cy11 | refine dy11 ?_ GE442.out | refine dy11 ?_ GE443.out) | exact HB.out))))
            have n2_ := zz11 (hy11 (g := gb442) (o := .cells #[.int .i64 a0_0, .int .i64 a0_1, .int .i64 a0_2, .slice A0_3 l0_3.length c0_3] 55 (0, 0)) (by (with_reducible repeat (first | refine ey11 ?_ _ | refine gy11 ?_ | refine fy11 ?_ _)); exact BK442.out) hb)
            have n3_ := zz11 (hy11 (g := gb443) (o := .cells #[.int .i64 a1_0, .int .i64 a1_1, .int .i64 a1_2, .slice A1_3 l1_3.length c1_3] 55 (0, 0)) (by (with_reducible repeat (first | refine ey11 ?_ _ | refine gy11 ?_ | refine fy11 ?_ _)); exact BK443.out) hb)
            have n4_ := zz11 (below_step (by repeat (first | (with_reducible first | exact HB.out | apply by11 | apply ay11 | apply cy11 | refine dy11 ?_ GE442.out | refine dy11 ?_ GE443.out) | exact HB.out)) hb)
            clear HO451
            clear BK442
            clear BK443
            clear HB
            have HO451 := n0_
            have HO457 := n1_
            have BK442 := n2_
            have BK443 := n3_
            have HB := n4_
            clear n0_ n1_ n2_ n3_ n4_
            (try clear hb)
            (try clear hb2)
            (try clear hk)
            (try clear hi)
            (try clear ho0)
            obtain ⟨Ao72, co72, eo72⟩ := Kd.R_slice HO451.out
            (first | subst eo72 | (injection eo72 with f1_ f2_ f3_; have f4_ := f1_.symm; have f5_ := f3_.symm; clear f1_ f2_ f3_; subst f4_; subst f5_))
            obtain ⟨Ao73, co73, eo73⟩ := Kd.R_slice HO457.out
            (first | subst eo73 | (injection eo73 with f1_ f2_ f3_; have f4_ := f1_.symm; have f5_ := f3_.symm; clear f1_ f2_ f3_; subst f4_; subst f5_))
            refine hK.out _ _ ⟨(blk_cell BK442.out 0).trans rfl, (blk_cell BK442.out 1).trans rfl, (blk_cell BK442.out 2).trans rfl, (blk_cell BK442.out 3).trans rfl, (blk_cell BK443.out 0).trans rfl, (blk_cell BK443.out 1).trans rfl, (blk_cell BK443.out 2).trans rfl, (blk_cell BK443.out 3).trans rfl⟩ (fun hHeld => ?_)
            clear hK K
            refine norm_ (a' := ?_) ?_ ?_
            rotate_left
            · show Act.put _ (some 23) _ = _
              simp only [Act.put, List.setIfInBounds_toArray, List.set_cons_zero, List.set_cons_succ, i64_w, i32_w]
              rfl
            refine one_ (i := 4) (N := some 24) #[true, true, true, true, true, false] rfl rfl (by kernel_rfl) (by decide) (fun K hK => ?_)
            refine goes_ Try.func42 (by kernel_rfl) rfl #[.agg #[.int .i64 t446, .int .i64 t447, .int .i64 t448, .slice Ao72 t449.length co72], .agg #[.int .i64 t452, .int .i64 t453, .int .i64 t454, .slice Ao73 t455.length co73]] (by rfl) rfl rfl (by (try simp only [List.map_toArray, List.map_cons, List.map_nil]); first | done | rfl | (simp only [List.length_drop, List.length_take]; rfl)) ?_
            with_reducible refine (spec_SameLetters.calls t446 t447 t448 _ _ t449 t452 t453 t454 _ _ t455 t458 _ ?side1 ?side2 ?side3 ?side4 A21.out).mono ?_
            (case side1 => repeat (first | exact (iz11 HO451.out).2.2 | (with_reducible refine Kd.C_alloc ?_ _) | (with_reducible refine Kd.C_drewN ?_ _) | (with_reducible refine Kd.C_drew ?_)))
            (case side2 => exact (iz11 HO451.out).2.1)
            (case side3 => repeat (first | exact (iz11 HO457.out).2.2 | (with_reducible refine Kd.C_alloc ?_ _) | (with_reducible refine Kd.C_drewN ?_ _) | (with_reducible refine Kd.C_drew ?_)))
            (case side4 => exact (iz11 HO457.out).2.1)
            rintro e w74 ⟨rfl, hb⟩
            refine ⟨_, rfl, ?_⟩
            have n0_ := zz11 (dz11 (by (with_reducible repeat (first | apply az11 | apply bz11 | apply cz11)); exact HO451.out) hb)
            have n1_ := zz11 (dz11 (by (with_reducible repeat (first | apply az11 | apply bz11 | apply cz11)); exact HO457.out) hb)
            have n2_ := zz11 (hy11 (g := gb442) (o := .cells #[.int .i64 a0_0, .int .i64 a0_1, .int .i64 a0_2, .slice A0_3 l0_3.length c0_3] 55 (0, 0)) (by (with_reducible repeat (first | refine ey11 ?_ _ | refine gy11 ?_ | refine fy11 ?_ _)); exact BK442.out) hb)
            have n3_ := zz11 (hy11 (g := gb443) (o := .cells #[.int .i64 a1_0, .int .i64 a1_1, .int .i64 a1_2, .slice A1_3 l1_3.length c1_3] 55 (0, 0)) (by (with_reducible repeat (first | refine ey11 ?_ _ | refine gy11 ?_ | refine fy11 ?_ _)); exact BK443.out) hb)
            have n4_ := zz11 (below_step (by repeat (first | (with_reducible first | exact HB.out | apply by11 | apply ay11 | apply cy11 | refine dy11 ?_ GE442.out | refine dy11 ?_ GE443.out) | exact HB.out)) hb)
            clear HO451
            clear HO457
            clear BK442
            clear BK443
            clear HB
            have HO451 := n0_
            have HO457 := n1_
            have BK442 := n2_
            have BK443 := n3_
            have HB := n4_
            clear n0_ n1_ n2_ n3_ n4_
            (try clear hb)
            (try clear hb2)
            (try clear hk)
            (try clear hi)
            refine hK.out _ _ ⟨(blk_cell BK442.out 0).trans rfl, (blk_cell BK442.out 1).trans rfl, (blk_cell BK442.out 2).trans rfl, (blk_cell BK442.out 3).trans rfl, (blk_cell BK443.out 0).trans rfl, (blk_cell BK443.out 1).trans rfl, (blk_cell BK443.out 2).trans rfl, (blk_cell BK443.out 3).trans rfl⟩ (fun hHeld => ?_)
            clear hK K
            refine norm_ (a' := ?_) ?_ ?_
            rotate_left
            · show Act.put _ (some 24) _ = _
              simp only [Act.put, List.setIfInBounds_toArray, List.set_cons_zero, List.set_cons_succ, i64_w, i32_w]
              rfl
            refine pure_ (i := 5) (N := some 6) (v := ?_) (a' := ?_) #[true, true, true, true, true, true] rfl rfl (by kernel_rfl) (fun _ _ _ h => h) (Or.inl ⟨by rfl, ?_⟩) ?_ ?_
            rotate_left
            · intro w'
              go_simp
              with_reducible rfl
            rotate_left
            · simp only [Act.put, List.setIfInBounds_toArray, List.set_cons_zero, List.set_cons_succ, i64_w, i32_w]
              rfl
            refine done_ (by kernel_rfl) ?_
            have hcz75_0 : w74.cell? ⟨gb442, 0, none⟩ = some (.int .i64 a0_0) := (blk_cell BK442.out 0).trans rfl
            have hcz75_1 : w74.cell? ⟨gb442, 1, none⟩ = some (.int .i64 a0_1) := (blk_cell BK442.out 1).trans rfl
            have hcz75_2 : w74.cell? ⟨gb442, 2, none⟩ = some (.int .i64 a0_2) := (blk_cell BK442.out 2).trans rfl
            have hcz75_3 : w74.cell? ⟨gb442, 3, none⟩ = some (.slice A0_3 l0_3.length c0_3) := (blk_cell BK442.out 3).trans rfl
            have hfz75_0 := blk_frozen BK442.out 0
            have hfz75_1 := blk_frozen BK442.out 1
            have hfz75_2 := blk_frozen BK442.out 2
            have hfz75_3 := blk_frozen BK442.out 3
            try go_wp2_with (first | ((with_reducible refine gate_callee (f := 43) rfl ?_); refine goesL_ (some 26) rfl rfl Try.func43 (by kernel_rfl) rfl #[.agg #[.int .i64 a0_0, .int .i64 a0_1, .int .i64 a0_2, .slice A0_3 l0_3.length c0_3]] rfl (by (try simp only [List.map_toArray, List.map_cons, List.map_nil]); first | done | rfl | (simp only [List.length_drop, List.length_take]; rfl)) ?_; (with_reducible refine (laws_toLetter.calls k a0_0 a0_1 a0_2 _ _ l0_3 t459 t460 t461 t462 _ ?side1 ?side2 A22.out).mono ?_); (case side1 => repeat (first | exact (Kd.C_below HR0_3.out HB.out) | (with_reducible refine Kd.C_alloc ?_ _) | (with_reducible refine Kd.C_drewN ?_ _) | (with_reducible refine Kd.C_drew ?_))); (case side2 => exact HC0_3.out); rintro e w76 ⟨v463, rfl, ho0, hb⟩; refine ⟨_, rfl, ?_⟩; have n0_ := zz11 (jz11 (by (with_reducible repeat (first | apply az11 | apply bz11 | apply cz11)); exact HO451.out) (fz11 ho0) hb); have n1_ := zz11 (jz11 (by (with_reducible repeat (first | apply az11 | apply bz11 | apply cz11)); exact HO457.out) (fz11 ho0) hb); have n2_ := zz11 (Kd.R_lower (kz11 (kz11 ho0 (Kd.R_lt (by (with_reducible repeat (first | apply az11 | apply bz11 | apply cz11)); exact HO451.out))) (Kd.R_lt (by (with_reducible repeat (first | apply az11 | apply bz11 | apply cz11)); exact HO457.out))) (below_size (by repeat (first | (with_reducible first | exact HB.out | apply by11 | apply ay11 | apply cy11 | refine dy11 ?_ GE442.out | refine dy11 ?_ GE443.out) | exact HB.out)))); have n3_ := zz11 (hy11 (g := gb442) (o := .cells #[.int .i64 a0_0, .int .i64 a0_1, .int .i64 a0_2, .slice A0_3 l0_3.length c0_3] 55 (0, 0)) (by (with_reducible repeat (first | refine ey11 ?_ _ | refine gy11 ?_ | refine fy11 ?_ _)); exact BK442.out) hb); have n4_ := zz11 (hy11 (g := gb443) (o := .cells #[.int .i64 a1_0, .int .i64 a1_1, .int .i64 a1_2, .slice A1_3 l1_3.length c1_3] 55 (0, 0)) (by (with_reducible repeat (first | refine ey11 ?_ _ | refine gy11 ?_ | refine fy11 ?_ _)); exact BK443.out) hb); have n5_ := zz11 (below_step (by repeat (first | (with_reducible first | exact HB.out | apply by11 | apply ay11 | apply cy11 | refine dy11 ?_ GE442.out | refine dy11 ?_ GE443.out) | exact HB.out)) hb); clear HO451; clear HO457; clear BK442; clear BK443; clear HB; have HO451 := n0_; have HO457 := n1_; have HO464 := n2_; have BK442 := n3_; have BK443 := n4_; have HB := n5_; clear n0_ n1_ n2_ n3_ n4_ n5_; (try clear hb); (try clear hb2); (try clear hk); (try clear hi); (try clear ho0)) | ((with_reducible refine gate_dst (N := 7) rfl ?_); refine box_event ?hg (N := 7) ?hd (cs := #[.int .i64 0, .int .i64 0, .int .i64 0, .slice none 0 0]) (t := 58) ?hr ?_; (case hd => rfl); (case hg => rfl); (case hr => first | (go_simp; done) | (go_simp; rfl)); intro gb465 hg w77 hbox hb; have n0_ := zz11 (dz11 (by (with_reducible repeat (first | apply az11 | apply bz11 | apply cz11)); exact HO451.out) hb); have n1_ := zz11 (dz11 (by (with_reducible repeat (first | apply az11 | apply bz11 | apply cz11)); exact HO457.out) hb); have n2_ := zz11 (dz11 (by (with_reducible repeat (first | apply az11 | apply bz11 | apply cz11)); exact HO464.out) hb); have n3_ := zz11 (hy11 (g := gb442) (o := .cells #[.int .i64 a0_0, .int .i64 a0_1, .int .i64 a0_2, .slice A0_3 l0_3.length c0_3] 55 (0, 0)) (by (with_reducible repeat (first | refine ey11 ?_ _ | refine gy11 ?_ | refine fy11 ?_ _)); exact BK442.out) hb); have n4_ := zz11 (hy11 (g := gb443) (o := .cells #[.int .i64 a1_0, .int .i64 a1_1, .int .i64 a1_2, .slice A1_3 l1_3.length c1_3] 55 (0, 0)) (by (with_reducible repeat (first | refine ey11 ?_ _ | refine gy11 ?_ | refine fy11 ?_ _)); exact BK443.out) hb); have n5_ := zz11 (below_step (by repeat (first | (with_reducible first | exact HB.out | apply by11 | apply ay11 | apply cy11 | refine dy11 ?_ GE442.out | refine dy11 ?_ GE443.out) | exact HB.out)) hb); have n6_ := zz11 (hbox); have n7_ := zz11 ((by rw [hg]; exact (below_size (by repeat (first | (with_reducible first | exact HB.out | apply by11 | apply ay11 | apply cy11 | refine dy11 ?_ GE442.out | refine dy11 ?_ GE443.out) | exact HB.out))) : w.heap.size ≤ gb465)); have n8_ := zz11 ((by rw [hg]; exact (below_size (by repeat (first | (with_reducible first | exact HB.out | apply by11 | apply ay11 | apply cy11 | refine dy11 ?_ GE442.out | refine dy11 ?_ GE443.out) | exact HB.out))) : w.heap.size ≤ gb465)); have n9_ := zz11 ((by rw [hg]; exact Nat.ne_of_lt (blk_lt (g := gb442) (o := .cells #[.int .i64 a0_0, .int .i64 a0_1, .int .i64 a0_2, .slice A0_3 l0_3.length c0_3] 55 (0, 0)) (by (with_reducible repeat (first | refine ey11 ?_ _ | refine gy11 ?_ | refine fy11 ?_ _)); exact BK442.out)) : gb442 ≠ gb465)); have n10_ := zz11 ((by rw [hg]; exact Nat.ne_of_gt (blk_lt (g := gb442) (o := .cells #[.int .i64 a0_0, .int .i64 a0_1, .int .i64 a0_2, .slice A0_3 l0_3.length c0_3] 55 (0, 0)) (by (with_reducible repeat (first | refine ey11 ?_ _ | refine gy11 ?_ | refine fy11 ?_ _)); exact BK442.out)) : gb465 ≠ gb442)); have n11_ := zz11 ((by rw [hg]; exact Nat.ne_of_lt (blk_lt (g := gb443) (o := .cells #[.int .i64 a1_0, .int .i64 a1_1, .int .i64 a1_2, .slice A1_3 l1_3.length c1_3] 55 (0, 0)) (by (with_reducible repeat (first | refine ey11 ?_ _ | refine gy11 ?_ | refine fy11 ?_ _)); exact BK443.out)) : gb443 ≠ gb465)); have n12_ := zz11 ((by rw [hg]; exact Nat.ne_of_gt (blk_lt (g := gb443) (o := .cells #[.int .i64 a1_0, .int .i64 a1_1, .int .i64 a1_2, .slice A1_3 l1_3.length c1_3] 55 (0, 0)) (by (with_reducible repeat (first | refine ey11 ?_ _ | refine gy11 ?_ | refine fy11 ?_ _)); exact BK443.out)) : gb465 ≠ gb443)); clear HO451; clear HO457; clear HO464; clear BK442; clear BK443; clear HB; have HO451 := n0_; have HO457 := n1_; have HO464 := n2_; have BK442 := n3_; have BK443 := n4_; have HB := n5_; have BK465 := n6_; have GW465 := n7_; have GE465 := n8_; have NB442_465 := n9_; have NB465_442 := n10_; have NB443_465 := n11_; have NB465_443 := n12_; clear n0_ n1_ n2_ n3_ n4_ n5_ n6_ n7_ n8_ n9_ n10_ n11_ n12_; clear hb hbox hg; have hnb78 := NB465_442.out; have hnc78 := NB442_465.out; have hnb79 := NB465_443.out; have hnc79 := NB443_465.out; have hcz80_0 : w77.cell? ⟨gb465, 0, none⟩ = some (.int .i64 0) := (blk_cell BK465.out 0).trans rfl; have hcz80_1 : w77.cell? ⟨gb465, 1, none⟩ = some (.int .i64 0) := (blk_cell BK465.out 1).trans rfl; have hcz80_2 : w77.cell? ⟨gb465, 2, none⟩ = some (.int .i64 0) := (blk_cell BK465.out 2).trans rfl; have hcz80_3 : w77.cell? ⟨gb465, 3, none⟩ = some (.slice none 0 0) := (blk_cell BK465.out 3).trans rfl; have hfz80_0 := blk_frozen BK465.out 0; have hfz80_1 := blk_frozen BK465.out 1; have hfz80_2 := blk_frozen BK465.out 2; have hfz80_3 := blk_frozen BK465.out 3; obtain ⟨Ao81, co81, eo81⟩ := Kd.R_slice HO464.out; subst eo81; have hcz82_0 : w77.cell? ⟨gb443, 0, none⟩ = some (.int .i64 a1_0) := (blk_cell BK443.out 0).trans rfl; have hcz82_1 : w77.cell? ⟨gb443, 1, none⟩ = some (.int .i64 a1_1) := (blk_cell BK443.out 1).trans rfl; have hcz82_2 : w77.cell? ⟨gb443, 2, none⟩ = some (.int .i64 a1_2) := (blk_cell BK443.out 2).trans rfl; have hcz82_3 : w77.cell? ⟨gb443, 3, none⟩ = some (.slice A1_3 l1_3.length c1_3) := (blk_cell BK443.out 3).trans rfl; have hfz82_0 := blk_frozen BK443.out 0; have hfz82_1 := blk_frozen BK443.out 1; have hfz82_2 := blk_frozen BK443.out 2; have hfz82_3 := blk_frozen BK443.out 3) | ((with_reducible refine gate_callee (f := 43) rfl ?_); refine goesL_ (some 28) rfl rfl Try.func43 (by kernel_rfl) rfl #[.agg #[.int .i64 a1_0, .int .i64 a1_1, .int .i64 a1_2, .slice A1_3 l1_3.length c1_3]] rfl (by (try simp only [List.map_toArray, List.map_cons, List.map_nil]); first | done | rfl | (simp only [List.length_drop, List.length_take]; rfl)) ?_; (with_reducible refine (laws_toLetter.calls k a1_0 a1_1 a1_2 _ _ l1_3 t466 t467 t468 t469 _ ?side1 ?side2 A23.out).mono ?_); (case side1 => exact Kd.C_below HR1_3.out (by repeat (first | (with_reducible first | exact HB.out | apply by11 | apply ay11 | apply cy11 | refine dy11 ?_ GE442.out | refine dy11 ?_ GE443.out | refine dy11 ?_ GE465.out) | exact HB.out))); (case side2 => exact HC1_3.out); rintro e w83 ⟨v470, rfl, ho0, hb⟩; refine ⟨_, rfl, ?_⟩; have n0_ := zz11 (jz11 (by (with_reducible repeat (first | apply az11 | apply bz11 | apply cz11)); exact (gz11 (ez11 (p := ⟨gb465, 3, none⟩) (ez11 (p := ⟨gb465, 2, none⟩) (ez11 (p := ⟨gb465, 1, none⟩) (ez11 (p := ⟨gb465, 0, none⟩) (hz11 HO451.out BK465.out (by decide)) (fun _ hk => hk.2) (.int .i64 t459)) (fun _ hk => hk.2) (.int .i64 t460)) (fun _ hk => hk.2) (.int .i64 t461)) (fun _ hk => hk.2) (.slice Ao81 t462.length co81)) (fun _ h_ => h_.1))) (fz11 ho0) hb); have n1_ := zz11 (jz11 (by (with_reducible repeat (first | apply az11 | apply bz11 | apply cz11)); exact (gz11 (ez11 (p := ⟨gb465, 3, none⟩) (ez11 (p := ⟨gb465, 2, none⟩) (ez11 (p := ⟨gb465, 1, none⟩) (ez11 (p := ⟨gb465, 0, none⟩) (hz11 HO457.out BK465.out (by decide)) (fun _ hk => hk.2) (.int .i64 t459)) (fun _ hk => hk.2) (.int .i64 t460)) (fun _ hk => hk.2) (.int .i64 t461)) (fun _ hk => hk.2) (.slice Ao81 t462.length co81)) (fun _ h_ => h_.1))) (fz11 ho0) hb); have n2_ := zz11 (jz11 (by (with_reducible repeat (first | apply az11 | apply bz11 | apply cz11)); exact (gz11 (ez11 (p := ⟨gb465, 3, none⟩) (ez11 (p := ⟨gb465, 2, none⟩) (ez11 (p := ⟨gb465, 1, none⟩) (ez11 (p := ⟨gb465, 0, none⟩) (hz11 HO464.out BK465.out (by decide)) (fun _ hk => hk.2) (.int .i64 t459)) (fun _ hk => hk.2) (.int .i64 t460)) (fun _ hk => hk.2) (.int .i64 t461)) (fun _ hk => hk.2) (.slice Ao81 t462.length co81)) (fun _ h_ => h_.1))) (fz11 ho0) hb); have n3_ := zz11 (Kd.R_lower (kz11 (kz11 (kz11 ho0 (Kd.R_lt (by (with_reducible repeat (first | apply az11 | apply bz11 | apply cz11)); exact (gz11 (ez11 (p := ⟨gb465, 3, none⟩) (ez11 (p := ⟨gb465, 2, none⟩) (ez11 (p := ⟨gb465, 1, none⟩) (ez11 (p := ⟨gb465, 0, none⟩) (hz11 HO451.out BK465.out (by decide)) (fun _ hk => hk.2) (.int .i64 t459)) (fun _ hk => hk.2) (.int .i64 t460)) (fun _ hk => hk.2) (.int .i64 t461)) (fun _ hk => hk.2) (.slice Ao81 t462.length co81)) (fun _ h_ => h_.1))))) (Kd.R_lt (by (with_reducible repeat (first | apply az11 | apply bz11 | apply cz11)); exact (gz11 (ez11 (p := ⟨gb465, 3, none⟩) (ez11 (p := ⟨gb465, 2, none⟩) (ez11 (p := ⟨gb465, 1, none⟩) (ez11 (p := ⟨gb465, 0, none⟩) (hz11 HO457.out BK465.out (by decide)) (fun _ hk => hk.2) (.int .i64 t459)) (fun _ hk => hk.2) (.int .i64 t460)) (fun _ hk => hk.2) (.int .i64 t461)) (fun _ hk => hk.2) (.slice Ao81 t462.length co81)) (fun _ h_ => h_.1))))) (Kd.R_lt (by (with_reducible repeat (first | apply az11 | apply bz11 | apply cz11)); exact (gz11 (ez11 (p := ⟨gb465, 3, none⟩) (ez11 (p := ⟨gb465, 2, none⟩) (ez11 (p := ⟨gb465, 1, none⟩) (ez11 (p := ⟨gb465, 0, none⟩) (hz11 HO464.out BK465.out (by decide)) (fun _ hk => hk.2) (.int .i64 t459)) (fun _ hk => hk.2) (.int .i64 t460)) (fun _ hk => hk.2) (.int .i64 t461)) (fun _ hk => hk.2) (.slice Ao81 t462.length co81)) (fun _ h_ => h_.1))))) (below_size (by repeat (first | (with_reducible first | exact HB.out | apply by11 | apply ay11 | apply cy11 | refine dy11 ?_ GE442.out | refine dy11 ?_ GE443.out | refine dy11 ?_ GE465.out) | exact HB.out)))); have n4_ := zz11 (hy11 (g := gb442) (o := .cells #[.int .i64 a0_0, .int .i64 a0_1, .int .i64 a0_2, .slice A0_3 l0_3.length c0_3] 55 (0, 0)) (by (with_reducible repeat (first | refine ey11 ?_ _ | refine gy11 ?_ | refine fy11 ?_ _)); refine blk_far ?_ NB442_465.out _; (with_reducible repeat (first | refine ey11 ?_ _ | refine gy11 ?_ | refine fy11 ?_ _)); refine blk_far ?_ NB442_465.out _; (with_reducible repeat (first | refine ey11 ?_ _ | refine gy11 ?_ | refine fy11 ?_ _)); refine blk_far ?_ NB442_465.out _; (with_reducible repeat (first | refine ey11 ?_ _ | refine gy11 ?_ | refine fy11 ?_ _)); refine blk_far ?_ NB442_465.out _; (with_reducible repeat (first | refine ey11 ?_ _ | refine gy11 ?_ | refine fy11 ?_ _)); exact BK442.out) hb); have n5_ := zz11 (hy11 (g := gb443) (o := .cells #[.int .i64 a1_0, .int .i64 a1_1, .int .i64 a1_2, .slice A1_3 l1_3.length c1_3] 55 (0, 0)) (by (with_reducible repeat (first | refine ey11 ?_ _ | refine gy11 ?_ | refine fy11 ?_ _)); refine blk_far ?_ NB443_465.out _; (with_reducible repeat (first | refine ey11 ?_ _ | refine gy11 ?_ | refine fy11 ?_ _)); refine blk_far ?_ NB443_465.out _; (with_reducible repeat (first | refine ey11 ?_ _ | refine gy11 ?_ | refine fy11 ?_ _)); refine blk_far ?_ NB443_465.out _; (with_reducible repeat (first | refine ey11 ?_ _ | refine gy11 ?_ | refine fy11 ?_ _)); refine blk_far ?_ NB443_465.out _; (with_reducible repeat (first | refine ey11 ?_ _ | refine gy11 ?_ | refine fy11 ?_ _)); exact BK443.out) hb); have n6_ := zz11 (hy11 (g := gb465) (o := .cells #[.int .i64 t459, .int .i64 t460, .int .i64 t461, .slice Ao81 t462.length co81] 58 (0, 0)) (by (with_reducible repeat (first | refine ey11 ?_ _ | refine gy11 ?_ | refine fy11 ?_ _)); refine blk_put (cs := #[.int .i64 t459, .int .i64 t460, .int .i64 t461, .slice none 0 0]) ?_ 3 _ rfl; (with_reducible repeat (first | refine ey11 ?_ _ | refine gy11 ?_ | refine fy11 ?_ _)); refine blk_put (cs := #[.int .i64 t459, .int .i64 t460, .int .i64 0, .slice none 0 0]) ?_ 2 _ rfl; (with_reducible repeat (first | refine ey11 ?_ _ | refine gy11 ?_ | refine fy11 ?_ _)); refine blk_put (cs := #[.int .i64 t459, .int .i64 0, .int .i64 0, .slice none 0 0]) ?_ 1 _ rfl; (with_reducible repeat (first | refine ey11 ?_ _ | refine gy11 ?_ | refine fy11 ?_ _)); refine blk_put (cs := #[.int .i64 0, .int .i64 0, .int .i64 0, .slice none 0 0]) ?_ 0 _ rfl; (with_reducible repeat (first | refine ey11 ?_ _ | refine gy11 ?_ | refine fy11 ?_ _)); exact BK465.out) hb); have n7_ := zz11 (below_step (by repeat (first | (with_reducible first | exact HB.out | apply by11 | apply ay11 | apply cy11 | refine dy11 ?_ GE442.out | refine dy11 ?_ GE443.out | refine dy11 ?_ GE465.out) | exact HB.out)) hb); clear HO451; clear HO457; clear HO464; clear BK442; clear BK443; clear BK465; clear HB; have HO451 := n0_; have HO457 := n1_; have HO464 := n2_; have HO471 := n3_; have BK442 := n4_; have BK443 := n5_; have BK465 := n6_; have HB := n7_; clear n0_ n1_ n2_ n3_ n4_ n5_ n6_ n7_; (try clear hb); (try clear hb2); (try clear hk); (try clear hi); (try clear ho0)) | ((with_reducible refine gate_dst (N := 8) rfl ?_); refine box_event ?hg (N := 8) ?hd (cs := #[.int .i64 0, .int .i64 0, .int .i64 0, .slice none 0 0]) (t := 58) ?hr ?_; (case hd => rfl); (case hg => rfl); (case hr => first | (go_simp; done) | (go_simp; rfl)); intro gb472 hg w84 hbox hb; have n0_ := zz11 (dz11 (by (with_reducible repeat (first | apply az11 | apply bz11 | apply cz11)); exact HO451.out) hb); have n1_ := zz11 (dz11 (by (with_reducible repeat (first | apply az11 | apply bz11 | apply cz11)); exact HO457.out) hb); have n2_ := zz11 (dz11 (by (with_reducible repeat (first | apply az11 | apply bz11 | apply cz11)); exact HO464.out) hb); have n3_ := zz11 (dz11 (by (with_reducible repeat (first | apply az11 | apply bz11 | apply cz11)); exact HO471.out) hb); have n4_ := zz11 (hy11 (g := gb442) (o := .cells #[.int .i64 a0_0, .int .i64 a0_1, .int .i64 a0_2, .slice A0_3 l0_3.length c0_3] 55 (0, 0)) (by (with_reducible repeat (first | refine ey11 ?_ _ | refine gy11 ?_ | refine fy11 ?_ _)); exact BK442.out) hb); have n5_ := zz11 (hy11 (g := gb443) (o := .cells #[.int .i64 a1_0, .int .i64 a1_1, .int .i64 a1_2, .slice A1_3 l1_3.length c1_3] 55 (0, 0)) (by (with_reducible repeat (first | refine ey11 ?_ _ | refine gy11 ?_ | refine fy11 ?_ _)); exact BK443.out) hb); have n6_ := zz11 (hy11 (g := gb465) (o := .cells #[.int .i64 t459, .int .i64 t460, .int .i64 t461, .slice Ao81 t462.length co81] 58 (0, 0)) (by (with_reducible repeat (first | refine ey11 ?_ _ | refine gy11 ?_ | refine fy11 ?_ _)); exact BK465.out) hb); have n7_ := zz11 (below_step (by repeat (first | (with_reducible first | exact HB.out | apply by11 | apply ay11 | apply cy11 | refine dy11 ?_ GE442.out | refine dy11 ?_ GE443.out | refine dy11 ?_ GE465.out) | exact HB.out)) hb); have n8_ := zz11 (hbox); have n9_ := zz11 ((by rw [hg]; exact (below_size (by repeat (first | (with_reducible first | exact HB.out | apply by11 | apply ay11 | apply cy11 | refine dy11 ?_ GE442.out | refine dy11 ?_ GE443.out | refine dy11 ?_ GE465.out) | exact HB.out))) : w.heap.size ≤ gb472)); have n10_ := zz11 ((by rw [hg]; exact (below_size (by repeat (first | (with_reducible first | exact HB.out | apply by11 | apply ay11 | apply cy11 | refine dy11 ?_ GE442.out | refine dy11 ?_ GE443.out | refine dy11 ?_ GE465.out) | exact HB.out))) : w.heap.size ≤ gb472)); have n11_ := zz11 ((by rw [hg]; exact Nat.ne_of_lt (blk_lt (g := gb442) (o := .cells #[.int .i64 a0_0, .int .i64 a0_1, .int .i64 a0_2, .slice A0_3 l0_3.length c0_3] 55 (0, 0)) (by (with_reducible repeat (first | refine ey11 ?_ _ | refine gy11 ?_ | refine fy11 ?_ _)); exact BK442.out)) : gb442 ≠ gb472)); have n12_ := zz11 ((by rw [hg]; exact Nat.ne_of_gt (blk_lt (g := gb442) (o := .cells #[.int .i64 a0_0, .int .i64 a0_1, .int .i64 a0_2, .slice A0_3 l0_3.length c0_3] 55 (0, 0)) (by (with_reducible repeat (first | refine ey11 ?_ _ | refine gy11 ?_ | refine fy11 ?_ _)); exact BK442.out)) : gb472 ≠ gb442)); have n13_ := zz11 ((by rw [hg]; exact Nat.ne_of_lt (blk_lt (g := gb443) (o := .cells #[.int .i64 a1_0, .int .i64 a1_1, .int .i64 a1_2, .slice A1_3 l1_3.length c1_3] 55 (0, 0)) (by (with_reducible repeat (first | refine ey11 ?_ _ | refine gy11 ?_ | refine fy11 ?_ _)); exact BK443.out)) : gb443 ≠ gb472)); have n14_ := zz11 ((by rw [hg]; exact Nat.ne_of_gt (blk_lt (g := gb443) (o := .cells #[.int .i64 a1_0, .int .i64 a1_1, .int .i64 a1_2, .slice A1_3 l1_3.length c1_3] 55 (0, 0)) (by (with_reducible repeat (first | refine ey11 ?_ _ | refine gy11 ?_ | refine fy11 ?_ _)); exact BK443.out)) : gb472 ≠ gb443)); have n15_ := zz11 ((by rw [hg]; exact Nat.ne_of_lt (blk_lt (g := gb465) (o := .cells #[.int .i64 t459, .int .i64 t460, .int .i64 t461, .slice Ao81 t462.length co81] 58 (0, 0)) (by (with_reducible repeat (first | refine ey11 ?_ _ | refine gy11 ?_ | refine fy11 ?_ _)); exact BK465.out)) : gb465 ≠ gb472)); have n16_ := zz11 ((by rw [hg]; exact Nat.ne_of_gt (blk_lt (g := gb465) (o := .cells #[.int .i64 t459, .int .i64 t460, .int .i64 t461, .slice Ao81 t462.length co81] 58 (0, 0)) (by (with_reducible repeat (first | refine ey11 ?_ _ | refine gy11 ?_ | refine fy11 ?_ _)); exact BK465.out)) : gb472 ≠ gb465)); clear HO451; clear HO457; clear HO464; clear HO471; clear BK442; clear BK443; clear BK465; clear HB; have HO451 := n0_; have HO457 := n1_; have HO464 := n2_; have HO471 := n3_; have BK442 := n4_; have BK443 := n5_; have BK465 := n6_; have HB := n7_; have BK472 := n8_; have GW472 := n9_; have GE472 := n10_; have NB442_472 := n11_; have NB472_442 := n12_; have NB443_472 := n13_; have NB472_443 := n14_; have NB465_472 := n15_; have NB472_465 := n16_; clear n0_ n1_ n2_ n3_ n4_ n5_ n6_ n7_ n8_ n9_ n10_ n11_ n12_ n13_ n14_ n15_ n16_; clear hb hbox hg; have hnb85 := NB472_442.out; have hnc85 := NB442_472.out; have hnb86 := NB472_443.out; have hnc86 := NB443_472.out; have hnb87 := NB472_465.out; have hnc87 := NB465_472.out; have hcz88_0 : w84.cell? ⟨gb472, 0, none⟩ = some (.int .i64 0) := (blk_cell BK472.out 0).trans rfl; have hcz88_1 : w84.cell? ⟨gb472, 1, none⟩ = some (.int .i64 0) := (blk_cell BK472.out 1).trans rfl; have hcz88_2 : w84.cell? ⟨gb472, 2, none⟩ = some (.int .i64 0) := (blk_cell BK472.out 2).trans rfl; have hcz88_3 : w84.cell? ⟨gb472, 3, none⟩ = some (.slice none 0 0) := (blk_cell BK472.out 3).trans rfl; have hfz88_0 := blk_frozen BK472.out 0; have hfz88_1 := blk_frozen BK472.out 1; have hfz88_2 := blk_frozen BK472.out 2; have hfz88_3 := blk_frozen BK472.out 3; obtain ⟨Ao89, co89, eo89⟩ := Kd.R_slice HO471.out; subst eo89; have hcz90_0 : w84.cell? ⟨gb465, 0, none⟩ = some (.int .i64 t459) := (blk_cell BK465.out 0).trans rfl; have hcz90_1 : w84.cell? ⟨gb465, 1, none⟩ = some (.int .i64 t460) := (blk_cell BK465.out 1).trans rfl; have hcz90_2 : w84.cell? ⟨gb465, 2, none⟩ = some (.int .i64 t461) := (blk_cell BK465.out 2).trans rfl; have hcz90_3 : w84.cell? ⟨gb465, 3, none⟩ = some (.slice Ao81 t462.length co81) := (blk_cell BK465.out 3).trans rfl; have hfz90_0 := blk_frozen BK465.out 0; have hfz90_1 := blk_frozen BK465.out 1; have hfz90_2 := blk_frozen BK465.out 2; have hfz90_3 := blk_frozen BK465.out 3) | ((with_reducible refine gate_callee (f := 44) rfl ?_); refine goesL_ (some 31) rfl rfl Try.func44 (by kernel_rfl) rfl #[.agg #[.int .i64 t459, .int .i64 t460, .int .i64 t461, .slice Ao81 t462.length co81], .agg #[.int .i64 t466, .int .i64 t467, .int .i64 t468, .slice Ao89 t469.length co89]] rfl (by (try simp only [List.map_toArray, List.map_cons, List.map_nil]); first | done | rfl | (simp only [List.length_drop, List.length_take]; rfl)) ?_; (with_reducible refine (impl_SameLetters.calls t459 t460 t461 _ _ t462 t466 t467 t468 _ _ t469 t473 _ ?side1 ?side2 ?side3 ?side4 A24.out).mono ?_); (case side1 => refine (iz11 (e := 5) (base := w.heap.size) (ok := fun k_ => (((True ∧ some k_ ≠ (.slice Ao72 t449.length co72 : Value).ownBlock) ∧ some k_ ≠ (.slice Ao73 t455.length co73 : Value).ownBlock) ∧ some k_ ≠ (.slice Ao89 t469.length co89 : Value).ownBlock)) (n := t462.length) (c := co81) ?_).2.2; exact (by (with_reducible repeat (first | apply az11 | apply bz11 | apply cz11)); exact (gz11 (ez11 (p := ⟨gb472, 3, none⟩) (ez11 (p := ⟨gb472, 2, none⟩) (ez11 (p := ⟨gb472, 1, none⟩) (ez11 (p := ⟨gb472, 0, none⟩) (hz11 HO464.out BK472.out (by decide)) (fun _ hk => hk.2) (.int .i64 t466)) (fun _ hk => hk.2) (.int .i64 t467)) (fun _ hk => hk.2) (.int .i64 t468)) (fun _ hk => hk.2) (.slice Ao89 t469.length co89)) (fun _ h_ => h_.1)))); (case side2 => exact (iz11 HO464.out).2.1); (case side3 => refine (iz11 (e := 5) (base := w.heap.size) (ok := fun k_ => (((True ∧ some k_ ≠ (.slice Ao72 t449.length co72 : Value).ownBlock) ∧ some k_ ≠ (.slice Ao73 t455.length co73 : Value).ownBlock) ∧ some k_ ≠ (.slice Ao81 t462.length co81 : Value).ownBlock)) (n := t469.length) (c := co89) ?_).2.2; exact (by (with_reducible repeat (first | apply az11 | apply bz11 | apply cz11)); exact (gz11 (ez11 (p := ⟨gb472, 3, none⟩) (ez11 (p := ⟨gb472, 2, none⟩) (ez11 (p := ⟨gb472, 1, none⟩) (ez11 (p := ⟨gb472, 0, none⟩) (hz11 HO471.out BK472.out (by decide)) (fun _ hk => hk.2) (.int .i64 t466)) (fun _ hk => hk.2) (.int .i64 t467)) (fun _ hk => hk.2) (.int .i64 t468)) (fun _ hk => hk.2) (.slice Ao89 t469.length co89)) (fun _ h_ => h_.1)))); (case side4 => exact (iz11 HO471.out).2.1); rintro e w91 ⟨rfl, hb⟩; refine ⟨_, rfl, ?_⟩; have n0_ := zz11 (dz11 (by (with_reducible repeat (first | apply az11 | apply bz11 | apply cz11)); exact (gz11 (ez11 (p := ⟨gb472, 3, none⟩) (ez11 (p := ⟨gb472, 2, none⟩) (ez11 (p := ⟨gb472, 1, none⟩) (ez11 (p := ⟨gb472, 0, none⟩) (hz11 HO451.out BK472.out (by decide)) (fun _ hk => hk.2) (.int .i64 t466)) (fun _ hk => hk.2) (.int .i64 t467)) (fun _ hk => hk.2) (.int .i64 t468)) (fun _ hk => hk.2) (.slice Ao89 t469.length co89)) (fun _ h_ => h_.1))) hb); have n1_ := zz11 (dz11 (by (with_reducible repeat (first | apply az11 | apply bz11 | apply cz11)); exact (gz11 (ez11 (p := ⟨gb472, 3, none⟩) (ez11 (p := ⟨gb472, 2, none⟩) (ez11 (p := ⟨gb472, 1, none⟩) (ez11 (p := ⟨gb472, 0, none⟩) (hz11 HO457.out BK472.out (by decide)) (fun _ hk => hk.2) (.int .i64 t466)) (fun _ hk => hk.2) (.int .i64 t467)) (fun _ hk => hk.2) (.int .i64 t468)) (fun _ hk => hk.2) (.slice Ao89 t469.length co89)) (fun _ h_ => h_.1))) hb); have n2_ := zz11 (dz11 (by (with_reducible repeat (first | apply az11 | apply bz11 | apply cz11)); exact (gz11 (ez11 (p := ⟨gb472, 3, none⟩) (ez11 (p := ⟨gb472, 2, none⟩) (ez11 (p := ⟨gb472, 1, none⟩) (ez11 (p := ⟨gb472, 0, none⟩) (hz11 HO464.out BK472.out (by decide)) (fun _ hk => hk.2) (.int .i64 t466)) (fun _ hk => hk.2) (.int .i64 t467)) (fun _ hk => hk.2) (.int .i64 t468)) (fun _ hk => hk.2) (.slice Ao89 t469.length co89)) (fun _ h_ => h_.1))) hb); have n3_ := zz11 (dz11 (by (with_reducible repeat (first | apply az11 | apply bz11 | apply cz11)); exact (gz11 (ez11 (p := ⟨gb472, 3, none⟩) (ez11 (p := ⟨gb472, 2, none⟩) (ez11 (p := ⟨gb472, 1, none⟩) (ez11 (p := ⟨gb472, 0, none⟩) (hz11 HO471.out BK472.out (by decide)) (fun _ hk => hk.2) (.int .i64 t466)) (fun _ hk => hk.2) (.int .i64 t467)) (fun _ hk => hk.2) (.int .i64 t468)) (fun _ hk => hk.2) (.slice Ao89 t469.length co89)) (fun _ h_ => h_.1))) hb); have n4_ := zz11 (hy11 (g := gb442) (o := .cells #[.int .i64 a0_0, .int .i64 a0_1, .int .i64 a0_2, .slice A0_3 l0_3.length c0_3] 55 (0, 0)) (by (with_reducible repeat (first | refine ey11 ?_ _ | refine gy11 ?_ | refine fy11 ?_ _)); refine blk_far ?_ NB442_472.out _; (with_reducible repeat (first | refine ey11 ?_ _ | refine gy11 ?_ | refine fy11 ?_ _)); refine blk_far ?_ NB442_472.out _; (with_reducible repeat (first | refine ey11 ?_ _ | refine gy11 ?_ | refine fy11 ?_ _)); refine blk_far ?_ NB442_472.out _; (with_reducible repeat (first | refine ey11 ?_ _ | refine gy11 ?_ | refine fy11 ?_ _)); refine blk_far ?_ NB442_472.out _; (with_reducible repeat (first | refine ey11 ?_ _ | refine gy11 ?_ | refine fy11 ?_ _)); exact BK442.out) hb); have n5_ := zz11 (hy11 (g := gb443) (o := .cells #[.int .i64 a1_0, .int .i64 a1_1, .int .i64 a1_2, .slice A1_3 l1_3.length c1_3] 55 (0, 0)) (by (with_reducible repeat (first | refine ey11 ?_ _ | refine gy11 ?_ | refine fy11 ?_ _)); refine blk_far ?_ NB443_472.out _; (with_reducible repeat (first | refine ey11 ?_ _ | refine gy11 ?_ | refine fy11 ?_ _)); refine blk_far ?_ NB443_472.out _; (with_reducible repeat (first | refine ey11 ?_ _ | refine gy11 ?_ | refine fy11 ?_ _)); refine blk_far ?_ NB443_472.out _; (with_reducible repeat (first | refine ey11 ?_ _ | refine gy11 ?_ | refine fy11 ?_ _)); refine blk_far ?_ NB443_472.out _; (with_reducible repeat (first | refine ey11 ?_ _ | refine gy11 ?_ | refine fy11 ?_ _)); exact BK443.out) hb); have n6_ := zz11 (hy11 (g := gb465) (o := .cells #[.int .i64 t459, .int .i64 t460, .int .i64 t461, .slice Ao81 t462.length co81] 58 (0, 0)) (by (with_reducible repeat (first | refine ey11 ?_ _ | refine gy11 ?_ | refine fy11 ?_ _)); refine blk_far ?_ NB465_472.out _; (with_reducible repeat (first | refine ey11 ?_ _ | refine gy11 ?_ | refine fy11 ?_ _)); refine blk_far ?_ NB465_472.out _; (with_reducible repeat (first | refine ey11 ?_ _ | refine gy11 ?_ | refine fy11 ?_ _)); refine blk_far ?_ NB465_472.out _; (with_reducible repeat (first | refine ey11 ?_ _ | refine gy11 ?_ | refine fy11 ?_ _)); refine blk_far ?_ NB465_472.out _; (with_reducible repeat (first | refine ey11 ?_ _ | refine gy11 ?_ | refine fy11 ?_ _)); exact BK465.out) hb); have n7_ := zz11 (hy11 (g := gb472) (o := .cells #[.int .i64 t466, .int .i64 t467, .int .i64 t468, .slice Ao89 t469.length co89] 58 (0, 0)) (by (with_reducible repeat (first | refine ey11 ?_ _ | refine gy11 ?_ | refine fy11 ?_ _)); refine blk_put (cs := #[.int .i64 t466, .int .i64 t467, .int .i64 t468, .slice none 0 0]) ?_ 3 _ rfl; (with_reducible repeat (first | refine ey11 ?_ _ | refine gy11 ?_ | refine fy11 ?_ _)); refine blk_put (cs := #[.int .i64 t466, .int .i64 t467, .int .i64 0, .slice none 0 0]) ?_ 2 _ rfl; (with_reducible repeat (first | refine ey11 ?_ _ | refine gy11 ?_ | refine fy11 ?_ _)); refine blk_put (cs := #[.int .i64 t466, .int .i64 0, .int .i64 0, .slice none 0 0]) ?_ 1 _ rfl; (with_reducible repeat (first | refine ey11 ?_ _ | refine gy11 ?_ | refine fy11 ?_ _)); refine blk_put (cs := #[.int .i64 0, .int .i64 0, .int .i64 0, .slice none 0 0]) ?_ 0 _ rfl; (with_reducible repeat (first | refine ey11 ?_ _ | refine gy11 ?_ | refine fy11 ?_ _)); exact BK472.out) hb); have n8_ := zz11 (below_step (by repeat (first | (with_reducible first | exact HB.out | apply by11 | apply ay11 | apply cy11 | refine dy11 ?_ GE442.out | refine dy11 ?_ GE443.out | refine dy11 ?_ GE465.out | refine dy11 ?_ GE472.out) | exact HB.out)) hb); clear HO451; clear HO457; clear HO464; clear HO471; clear BK442; clear BK443; clear BK465; clear BK472; clear HB; have HO451 := n0_; have HO457 := n1_; have HO464 := n2_; have HO471 := n3_; have BK442 := n4_; have BK443 := n5_; have BK465 := n6_; have BK472 := n7_; have HB := n8_; clear n0_ n1_ n2_ n3_ n4_ n5_ n6_ n7_ n8_; (try clear hb); (try clear hb2); (try clear hk); (try clear hi)))
            have n0_ := zz11 (cz11 HO451.out)
            have n1_ := zz11 (cz11 HO457.out)
            have n2_ := zz11 (cz11 HO464.out)
            have n3_ := zz11 (cz11 HO471.out)
            have n4_ := zz11 (gy11 BK442.out)
            have n5_ := zz11 (gy11 BK443.out)
            have n6_ := zz11 (gy11 BK465.out)
            have n7_ := zz11 (gy11 BK472.out)
            have n8_ := zz11 (cy11 HB.out)
            clear HO451
            clear HO457
            clear HO464
            clear HO471
            clear BK442
            clear BK443
            clear BK465
            clear BK472
            clear HB
            have HO451 := n0_
            have HO457 := n1_
            have HO464 := n2_
            have HO471 := n3_
            have BK442 := n4_
            have BK443 := n5_
            have BK465 := n6_
            have BK472 := n7_
            have HB := n8_
            clear n0_ n1_ n2_ n3_ n4_ n5_ n6_ n7_ n8_
            refine start_ (n := 5) (S := fun w' => w'.cell? ⟨gb465, 0, none⟩ = some (.int .i64 t459) ∧ w'.cell? ⟨gb465, 1, none⟩ = some (.int .i64 t460) ∧ w'.cell? ⟨gb465, 2, none⟩ = some (.int .i64 t461) ∧ w'.cell? ⟨gb465, 3, none⟩ = some (.slice Ao81 t462.length co81) ∧ w'.cell? ⟨gb442, 0, none⟩ = some (.int .i64 a0_0) ∧ w'.cell? ⟨gb442, 1, none⟩ = some (.int .i64 a0_1) ∧ w'.cell? ⟨gb442, 2, none⟩ = some (.int .i64 a0_2) ∧ w'.cell? ⟨gb442, 3, none⟩ = some (.slice A0_3 l0_3.length c0_3)) (ds := []) #[false, false, false, false, false] (by kernel_rfl) rfl rfl ⟨(blk_cell BK465.out 0).trans rfl, (blk_cell BK465.out 1).trans rfl, (blk_cell BK465.out 2).trans rfl, (blk_cell BK465.out 3).trans rfl, (blk_cell BK442.out 0).trans rfl, (blk_cell BK442.out 1).trans rfl, (blk_cell BK442.out 2).trans rfl, (blk_cell BK442.out 3).trans rfl⟩ (fun hHeld => ?_)
            generalize w91.drew = w92 at HO451 HO457 HO464 HO471 BK442 BK443 BK465 BK472 HB hHeld ⊢
            refine take_ (i := 0) (N := some 35) (v := ?_) (a' := ?_) #[true, false, false, false, false] rfl rfl (by kernel_rfl) (fun _ _ _ h => h) (Or.inl ⟨by rfl, ?_⟩) hHeld ?_ ?_
            rotate_left
            · rintro w' ⟨s0, s1, s2, s3, s4, s5, s6, s7⟩
              go_simp
              with_reducible rfl
            rotate_left
            · simp only [Act.put, List.setIfInBounds_toArray, List.set_cons_zero, List.set_cons_succ, i64_w, i32_w]
              rfl
            refine take_ (i := 1) (N := some 36) (v := ?_) (a' := ?_) #[true, true, false, false, false] rfl rfl (by kernel_rfl) (fun _ _ _ h => h) (Or.inl ⟨by rfl, ?_⟩) hHeld ?_ ?_
            rotate_left
            · rintro w' ⟨s0, s1, s2, s3, s4, s5, s6, s7⟩
              go_simp
              with_reducible rfl
            rotate_left
            · simp only [Act.put, List.setIfInBounds_toArray, List.set_cons_zero, List.set_cons_succ, i64_w, i32_w]
              rfl
            refine one_ (i := 2) (N := some 37) #[true, true, true, false, false] rfl rfl (by kernel_rfl) (by decide) (fun K hK => ?_)
            refine goes_ Try.func43 (by kernel_rfl) rfl #[.agg #[.int .i64 a0_0, .int .i64 a0_1, .int .i64 a0_2, .slice A0_3 l0_3.length c0_3]] (by rfl) rfl rfl (by (try simp only [List.map_toArray, List.map_cons, List.map_nil]); first | done | rfl | (simp only [List.length_drop, List.length_take]; rfl)) ?_
            with_reducible refine (laws_toLetter.calls k a0_0 a0_1 a0_2 _ _ l0_3 t474 t475 t476 t477 _ ?side1 ?side2 A56.out).mono ?_
            (case side1 => repeat (first | exact (Kd.C_below HR0_3.out HB.out) | (with_reducible refine Kd.C_alloc ?_ _) | (with_reducible refine Kd.C_drewN ?_ _) | (with_reducible refine Kd.C_drew ?_)))
            (case side2 => exact HC0_3.out)
            rintro e w93 ⟨v478, rfl, ho0, hb⟩
            refine ⟨_, rfl, ?_⟩
            have n0_ := zz11 (jz11 (by (with_reducible repeat (first | apply az11 | apply bz11 | apply cz11)); exact HO451.out) (fz11 ho0) hb)
            have n1_ := zz11 (jz11 (by (with_reducible repeat (first | apply az11 | apply bz11 | apply cz11)); exact HO457.out) (fz11 ho0) hb)
            have n2_ := zz11 (jz11 (by (with_reducible repeat (first | apply az11 | apply bz11 | apply cz11)); exact HO464.out) (fz11 ho0) hb)
            have n3_ := zz11 (jz11 (by (with_reducible repeat (first | apply az11 | apply bz11 | apply cz11)); exact HO471.out) (fz11 ho0) hb)
            have n4_ := zz11 (Kd.R_lower (kz11 (kz11 (kz11 (kz11 ho0 (Kd.R_lt (by (with_reducible repeat (first | apply az11 | apply bz11 | apply cz11)); exact HO451.out))) (Kd.R_lt (by (with_reducible repeat (first | apply az11 | apply bz11 | apply cz11)); exact HO457.out))) (Kd.R_lt (by (with_reducible repeat (first | apply az11 | apply bz11 | apply cz11)); exact HO464.out))) (Kd.R_lt (by (with_reducible repeat (first | apply az11 | apply bz11 | apply cz11)); exact HO471.out))) (below_size (by repeat (first | (with_reducible first | exact HB.out | apply by11 | apply ay11 | apply cy11 | refine dy11 ?_ GE442.out | refine dy11 ?_ GE443.out | refine dy11 ?_ GE465.out | refine dy11 ?_ GE472.out) | exact HB.out))))
            have n5_ := zz11 (hy11 (g := gb442) (o := .cells #[.int .i64 a0_0, .int .i64 a0_1, .int .i64 a0_2, .slice A0_3 l0_3.length c0_3] 55 (0, 0)) (by (with_reducible repeat (first | refine ey11 ?_ _ | refine gy11 ?_ | refine fy11 ?_ _)); exact BK442.out) hb)
            have n6_ := zz11 (hy11 (g := gb443) (o := .cells #[.int .i64 a1_0, .int .i64 a1_1, .int .i64 a1_2, .slice A1_3 l1_3.length c1_3] 55 (0, 0)) (by (with_reducible repeat (first | refine ey11 ?_ _ | refine gy11 ?_ | refine fy11 ?_ _)); exact BK443.out) hb)
            have n7_ := zz11 (hy11 (g := gb465) (o := .cells #[.int .i64 t459, .int .i64 t460, .int .i64 t461, .slice Ao81 t462.length co81] 58 (0, 0)) (by (with_reducible repeat (first | refine ey11 ?_ _ | refine gy11 ?_ | refine fy11 ?_ _)); exact BK465.out) hb)
            have n8_ := zz11 (hy11 (g := gb472) (o := .cells #[.int .i64 t466, .int .i64 t467, .int .i64 t468, .slice Ao89 t469.length co89] 58 (0, 0)) (by (with_reducible repeat (first | refine ey11 ?_ _ | refine gy11 ?_ | refine fy11 ?_ _)); exact BK472.out) hb)
            have n9_ := zz11 (below_step (by repeat (first | (with_reducible first | exact HB.out | apply by11 | apply ay11 | apply cy11 | refine dy11 ?_ GE442.out | refine dy11 ?_ GE443.out | refine dy11 ?_ GE465.out | refine dy11 ?_ GE472.out) | exact HB.out)) hb)
            clear HO451
            clear HO457
            clear HO464
            clear HO471
            clear BK442
            clear BK443
            clear BK465
            clear BK472
            clear HB
            have HO451 := n0_
            have HO457 := n1_
            have HO464 := n2_
            have HO471 := n3_
            have HO479 := n4_
            have BK442 := n5_
            have BK443 := n6_
            have BK465 := n7_
            have BK472 := n8_
            have HB := n9_
            clear n0_ n1_ n2_ n3_ n4_ n5_ n6_ n7_ n8_ n9_
            (try clear hb)
            (try clear hb2)
            (try clear hk)
            (try clear hi)
            (try clear ho0)
            obtain ⟨Ao94, co94, eo94⟩ := Kd.R_slice HO479.out
            (first | subst eo94 | (injection eo94 with f1_ f2_ f3_; have f4_ := f1_.symm; have f5_ := f3_.symm; clear f1_ f2_ f3_; subst f4_; subst f5_))
            refine hK.out _ _ ⟨(blk_cell BK465.out 0).trans rfl, (blk_cell BK465.out 1).trans rfl, (blk_cell BK465.out 2).trans rfl, (blk_cell BK465.out 3).trans rfl, (blk_cell BK442.out 0).trans rfl, (blk_cell BK442.out 1).trans rfl, (blk_cell BK442.out 2).trans rfl, (blk_cell BK442.out 3).trans rfl⟩ (fun hHeld => ?_)
            clear hK K
            refine norm_ (a' := ?_) ?_ ?_
            rotate_left
            · show Act.put _ (some 37) _ = _
              simp only [Act.put, List.setIfInBounds_toArray, List.set_cons_zero, List.set_cons_succ, i64_w, i32_w]
              rfl
            refine one_ (i := 3) (N := some 38) #[true, true, true, true, false] rfl rfl (by kernel_rfl) (by decide) (fun K hK => ?_)
            refine goes_ Try.func45 (by kernel_rfl) rfl #[.agg #[.int .i64 t459, .int .i64 t460, .int .i64 t461, .slice Ao81 t462.length co81], .agg #[.int .i64 t474, .int .i64 t475, .int .i64 t476, .slice Ao94 t477.length co94]] (by rfl) rfl rfl (by (try simp only [List.map_toArray, List.map_cons, List.map_nil]); first | done | rfl | (simp only [List.length_drop, List.length_take]; rfl)) ?_
            with_reducible refine (laws_eqLetter.calls k t459 t460 t461 _ _ t462 t474 t475 t476 _ _ t477 true _ ?side1 ?side2 ?side3 ?side4 A57.out).mono ?_
            (case side1 => repeat (first | exact (iz11 HO464.out).2.2 | (with_reducible refine Kd.C_alloc ?_ _) | (with_reducible refine Kd.C_drewN ?_ _) | (with_reducible refine Kd.C_drew ?_)))
            (case side2 => exact (iz11 HO464.out).2.1)
            (case side3 => repeat (first | exact (iz11 HO479.out).2.2 | (with_reducible refine Kd.C_alloc ?_ _) | (with_reducible refine Kd.C_drewN ?_ _) | (with_reducible refine Kd.C_drew ?_)))
            (case side4 => exact (iz11 HO479.out).2.1)
            rintro e w95 ⟨rfl, hb⟩
            refine ⟨_, rfl, ?_⟩
            have n0_ := zz11 (dz11 (by (with_reducible repeat (first | apply az11 | apply bz11 | apply cz11)); exact HO451.out) hb)
            have n1_ := zz11 (dz11 (by (with_reducible repeat (first | apply az11 | apply bz11 | apply cz11)); exact HO457.out) hb)
            have n2_ := zz11 (dz11 (by (with_reducible repeat (first | apply az11 | apply bz11 | apply cz11)); exact HO464.out) hb)
            have n3_ := zz11 (dz11 (by (with_reducible repeat (first | apply az11 | apply bz11 | apply cz11)); exact HO471.out) hb)
            have n4_ := zz11 (dz11 (by (with_reducible repeat (first | apply az11 | apply bz11 | apply cz11)); exact HO479.out) hb)
            have n5_ := zz11 (hy11 (g := gb442) (o := .cells #[.int .i64 a0_0, .int .i64 a0_1, .int .i64 a0_2, .slice A0_3 l0_3.length c0_3] 55 (0, 0)) (by (with_reducible repeat (first | refine ey11 ?_ _ | refine gy11 ?_ | refine fy11 ?_ _)); exact BK442.out) hb)
            have n6_ := zz11 (hy11 (g := gb443) (o := .cells #[.int .i64 a1_0, .int .i64 a1_1, .int .i64 a1_2, .slice A1_3 l1_3.length c1_3] 55 (0, 0)) (by (with_reducible repeat (first | refine ey11 ?_ _ | refine gy11 ?_ | refine fy11 ?_ _)); exact BK443.out) hb)
            have n7_ := zz11 (hy11 (g := gb465) (o := .cells #[.int .i64 t459, .int .i64 t460, .int .i64 t461, .slice Ao81 t462.length co81] 58 (0, 0)) (by (with_reducible repeat (first | refine ey11 ?_ _ | refine gy11 ?_ | refine fy11 ?_ _)); exact BK465.out) hb)
            have n8_ := zz11 (hy11 (g := gb472) (o := .cells #[.int .i64 t466, .int .i64 t467, .int .i64 t468, .slice Ao89 t469.length co89] 58 (0, 0)) (by (with_reducible repeat (first | refine ey11 ?_ _ | refine gy11 ?_ | refine fy11 ?_ _)); exact BK472.out) hb)
            have n9_ := zz11 (below_step (by repeat (first | (with_reducible first | exact HB.out | apply by11 | apply ay11 | apply cy11 | refine dy11 ?_ GE442.out | refine dy11 ?_ GE443.out | refine dy11 ?_ GE465.out | refine dy11 ?_ GE472.out) | exact HB.out)) hb)
            clear HO451
            clear HO457
            clear HO464
            clear HO471
            clear HO479
            clear BK442
            clear BK443
            clear BK465
            clear BK472
            clear HB
            have HO451 := n0_
            have HO457 := n1_
            have HO464 := n2_
            have HO471 := n3_
            have HO479 := n4_
            have BK442 := n5_
            have BK443 := n6_
            have BK465 := n7_
            have BK472 := n8_
            have HB := n9_
            clear n0_ n1_ n2_ n3_ n4_ n5_ n6_ n7_ n8_ n9_
            (try clear hb)
            (try clear hb2)
            (try clear hk)
            (try clear hi)
            refine hK.out _ _ ⟨(blk_cell BK465.out 0).trans rfl, (blk_cell BK465.out 1).trans rfl, (blk_cell BK465.out 2).trans rfl, (blk_cell BK465.out 3).trans rfl, (blk_cell BK442.out 0).trans rfl, (blk_cell BK442.out 1).trans rfl, (blk_cell BK442.out 2).trans rfl, (blk_cell BK442.out 3).trans rfl⟩ (fun hHeld => ?_)
            clear hK K
            refine norm_ (a' := ?_) ?_ ?_
            rotate_left
            · show Act.put _ (some 38) _ = _
              simp only [Act.put, List.setIfInBounds_toArray, List.set_cons_zero, List.set_cons_succ, i64_w, i32_w]
              rfl
            refine pure_ (i := 4) (N := some 39) (v := ?_) (a' := ?_) #[true, true, true, true, true] rfl rfl (by kernel_rfl) (fun _ _ _ h => h) (Or.inl ⟨by rfl, ?_⟩) ?_ ?_
            rotate_left
            · intro w'
              go_simp
              with_reducible rfl
            rotate_left
            · simp only [Act.put, List.setIfInBounds_toArray, List.set_cons_zero, List.set_cons_succ, i64_w, i32_w]
              rfl
            refine done_ (by kernel_rfl) ?_
            try go_wp2
            have n0_ := zz11 (cz11 HO451.out)
            have n1_ := zz11 (cz11 HO457.out)
            have n2_ := zz11 (cz11 HO464.out)
            have n3_ := zz11 (cz11 HO471.out)
            have n4_ := zz11 (cz11 HO479.out)
            have n5_ := zz11 (gy11 BK442.out)
            have n6_ := zz11 (gy11 BK443.out)
            have n7_ := zz11 (gy11 BK465.out)
            have n8_ := zz11 (gy11 BK472.out)
            have n9_ := zz11 (cy11 HB.out)
            clear HO451
            clear HO457
            clear HO464
            clear HO471
            clear HO479
            clear BK442
            clear BK443
            clear BK465
            clear BK472
            clear HB
            have HO451 := n0_
            have HO457 := n1_
            have HO464 := n2_
            have HO471 := n3_
            have HO479 := n4_
            have BK442 := n5_
            have BK443 := n6_
            have BK465 := n7_
            have BK472 := n8_
            have HB := n9_
            clear n0_ n1_ n2_ n3_ n4_ n5_ n6_ n7_ n8_ n9_
            refine start_ (n := 5) (S := fun w' => w'.cell? ⟨gb472, 0, none⟩ = some (.int .i64 t466) ∧ w'.cell? ⟨gb472, 1, none⟩ = some (.int .i64 t467) ∧ w'.cell? ⟨gb472, 2, none⟩ = some (.int .i64 t468) ∧ w'.cell? ⟨gb472, 3, none⟩ = some (.slice Ao89 t469.length co89) ∧ w'.cell? ⟨gb443, 0, none⟩ = some (.int .i64 a1_0) ∧ w'.cell? ⟨gb443, 1, none⟩ = some (.int .i64 a1_1) ∧ w'.cell? ⟨gb443, 2, none⟩ = some (.int .i64 a1_2) ∧ w'.cell? ⟨gb443, 3, none⟩ = some (.slice A1_3 l1_3.length c1_3)) (ds := []) #[false, false, false, false, false] (by kernel_rfl) rfl rfl ⟨(blk_cell BK472.out 0).trans rfl, (blk_cell BK472.out 1).trans rfl, (blk_cell BK472.out 2).trans rfl, (blk_cell BK472.out 3).trans rfl, (blk_cell BK443.out 0).trans rfl, (blk_cell BK443.out 1).trans rfl, (blk_cell BK443.out 2).trans rfl, (blk_cell BK443.out 3).trans rfl⟩ (fun hHeld => ?_)
            generalize w95.drew = w96 at HO451 HO457 HO464 HO471 HO479 BK442 BK443 BK465 BK472 HB hHeld ⊢
            refine take_ (i := 0) (N := some 40) (v := ?_) (a' := ?_) #[true, false, false, false, false] rfl rfl (by kernel_rfl) (fun _ _ _ h => h) (Or.inl ⟨by rfl, ?_⟩) hHeld ?_ ?_
            rotate_left
            · rintro w' ⟨s0, s1, s2, s3, s4, s5, s6, s7⟩
              go_simp
              with_reducible rfl
            rotate_left
            · simp only [Act.put, List.setIfInBounds_toArray, List.set_cons_zero, List.set_cons_succ, i64_w, i32_w]
              rfl
            refine take_ (i := 1) (N := some 41) (v := ?_) (a' := ?_) #[true, true, false, false, false] rfl rfl (by kernel_rfl) (fun _ _ _ h => h) (Or.inl ⟨by rfl, ?_⟩) hHeld ?_ ?_
            rotate_left
            · rintro w' ⟨s0, s1, s2, s3, s4, s5, s6, s7⟩
              go_simp
              with_reducible rfl
            rotate_left
            · simp only [Act.put, List.setIfInBounds_toArray, List.set_cons_zero, List.set_cons_succ, i64_w, i32_w]
              rfl
            refine one_ (i := 2) (N := some 42) #[true, true, true, false, false] rfl rfl (by kernel_rfl) (by decide) (fun K hK => ?_)
            refine goes_ Try.func43 (by kernel_rfl) rfl #[.agg #[.int .i64 a1_0, .int .i64 a1_1, .int .i64 a1_2, .slice A1_3 l1_3.length c1_3]] (by rfl) rfl rfl (by (try simp only [List.map_toArray, List.map_cons, List.map_nil]); first | done | rfl | (simp only [List.length_drop, List.length_take]; rfl)) ?_
            with_reducible refine (laws_toLetter.calls k a1_0 a1_1 a1_2 _ _ l1_3 t481 t482 t483 t484 _ ?side1 ?side2 A59.out).mono ?_
            (case side1 => repeat (first | exact (Kd.C_below HR1_3.out HB.out) | (with_reducible refine Kd.C_alloc ?_ _) | (with_reducible refine Kd.C_drewN ?_ _) | (with_reducible refine Kd.C_drew ?_)))
            (case side2 => exact HC1_3.out)
            rintro e w97 ⟨v485, rfl, ho0, hb⟩
            refine ⟨_, rfl, ?_⟩
            have n0_ := zz11 (jz11 (by (with_reducible repeat (first | apply az11 | apply bz11 | apply cz11)); exact HO451.out) (fz11 ho0) hb)
            have n1_ := zz11 (jz11 (by (with_reducible repeat (first | apply az11 | apply bz11 | apply cz11)); exact HO457.out) (fz11 ho0) hb)
            have n2_ := zz11 (jz11 (by (with_reducible repeat (first | apply az11 | apply bz11 | apply cz11)); exact HO464.out) (fz11 ho0) hb)
            have n3_ := zz11 (jz11 (by (with_reducible repeat (first | apply az11 | apply bz11 | apply cz11)); exact HO471.out) (fz11 ho0) hb)
            have n4_ := zz11 (jz11 (by (with_reducible repeat (first | apply az11 | apply bz11 | apply cz11)); exact HO479.out) (fz11 ho0) hb)
            have n5_ := zz11 (Kd.R_lower (kz11 (kz11 (kz11 (kz11 (kz11 ho0 (Kd.R_lt (by (with_reducible repeat (first | apply az11 | apply bz11 | apply cz11)); exact HO451.out))) (Kd.R_lt (by (with_reducible repeat (first | apply az11 | apply bz11 | apply cz11)); exact HO457.out))) (Kd.R_lt (by (with_reducible repeat (first | apply az11 | apply bz11 | apply cz11)); exact HO464.out))) (Kd.R_lt (by (with_reducible repeat (first | apply az11 | apply bz11 | apply cz11)); exact HO471.out))) (Kd.R_lt (by (with_reducible repeat (first | apply az11 | apply bz11 | apply cz11)); exact HO479.out))) (below_size (by repeat (first | (with_reducible first | exact HB.out | apply by11 | apply ay11 | apply cy11 | refine dy11 ?_ GE442.out | refine dy11 ?_ GE443.out | refine dy11 ?_ GE465.out | refine dy11 ?_ GE472.out) | exact HB.out))))
            have n6_ := zz11 (hy11 (g := gb442) (o := .cells #[.int .i64 a0_0, .int .i64 a0_1, .int .i64 a0_2, .slice A0_3 l0_3.length c0_3] 55 (0, 0)) (by (with_reducible repeat (first | refine ey11 ?_ _ | refine gy11 ?_ | refine fy11 ?_ _)); exact BK442.out) hb)
            have n7_ := zz11 (hy11 (g := gb443) (o := .cells #[.int .i64 a1_0, .int .i64 a1_1, .int .i64 a1_2, .slice A1_3 l1_3.length c1_3] 55 (0, 0)) (by (with_reducible repeat (first | refine ey11 ?_ _ | refine gy11 ?_ | refine fy11 ?_ _)); exact BK443.out) hb)
            have n8_ := zz11 (hy11 (g := gb465) (o := .cells #[.int .i64 t459, .int .i64 t460, .int .i64 t461, .slice Ao81 t462.length co81] 58 (0, 0)) (by (with_reducible repeat (first | refine ey11 ?_ _ | refine gy11 ?_ | refine fy11 ?_ _)); exact BK465.out) hb)
            have n9_ := zz11 (hy11 (g := gb472) (o := .cells #[.int .i64 t466, .int .i64 t467, .int .i64 t468, .slice Ao89 t469.length co89] 58 (0, 0)) (by (with_reducible repeat (first | refine ey11 ?_ _ | refine gy11 ?_ | refine fy11 ?_ _)); exact BK472.out) hb)
            have n10_ := zz11 (below_step (by repeat (first | (with_reducible first | exact HB.out | apply by11 | apply ay11 | apply cy11 | refine dy11 ?_ GE442.out | refine dy11 ?_ GE443.out | refine dy11 ?_ GE465.out | refine dy11 ?_ GE472.out) | exact HB.out)) hb)
            clear HO451
            clear HO457
            clear HO464
            clear HO471
            clear HO479
            clear BK442
            clear BK443
            clear BK465
            clear BK472
            clear HB
            have HO451 := n0_
            have HO457 := n1_
            have HO464 := n2_
            have HO471 := n3_
            have HO479 := n4_
            have HO486 := n5_
            have BK442 := n6_
            have BK443 := n7_
            have BK465 := n8_
            have BK472 := n9_
            have HB := n10_
            clear n0_ n1_ n2_ n3_ n4_ n5_ n6_ n7_ n8_ n9_ n10_
            (try clear hb)
            (try clear hb2)
            (try clear hk)
            (try clear hi)
            (try clear ho0)
            obtain ⟨Ao98, co98, eo98⟩ := Kd.R_slice HO486.out
            (first | subst eo98 | (injection eo98 with f1_ f2_ f3_; have f4_ := f1_.symm; have f5_ := f3_.symm; clear f1_ f2_ f3_; subst f4_; subst f5_))
            refine hK.out _ _ ⟨(blk_cell BK472.out 0).trans rfl, (blk_cell BK472.out 1).trans rfl, (blk_cell BK472.out 2).trans rfl, (blk_cell BK472.out 3).trans rfl, (blk_cell BK443.out 0).trans rfl, (blk_cell BK443.out 1).trans rfl, (blk_cell BK443.out 2).trans rfl, (blk_cell BK443.out 3).trans rfl⟩ (fun hHeld => ?_)
            clear hK K
            refine norm_ (a' := ?_) ?_ ?_
            rotate_left
            · show Act.put _ (some 42) _ = _
              simp only [Act.put, List.setIfInBounds_toArray, List.set_cons_zero, List.set_cons_succ, i64_w, i32_w]
              rfl
            refine one_ (i := 3) (N := some 43) #[true, true, true, true, false] rfl rfl (by kernel_rfl) (by decide) (fun K hK => ?_)
            refine goes_ Try.func45 (by kernel_rfl) rfl #[.agg #[.int .i64 t466, .int .i64 t467, .int .i64 t468, .slice Ao89 t469.length co89], .agg #[.int .i64 t481, .int .i64 t482, .int .i64 t483, .slice Ao98 t484.length co98]] (by rfl) rfl rfl (by (try simp only [List.map_toArray, List.map_cons, List.map_nil]); first | done | rfl | (simp only [List.length_drop, List.length_take]; rfl)) ?_
            with_reducible refine (laws_eqLetter.calls k t466 t467 t468 _ _ t469 t481 t482 t483 _ _ t484 true _ ?side1 ?side2 ?side3 ?side4 A60.out).mono ?_
            (case side1 => repeat (first | exact (iz11 HO471.out).2.2 | (with_reducible refine Kd.C_alloc ?_ _) | (with_reducible refine Kd.C_drewN ?_ _) | (with_reducible refine Kd.C_drew ?_)))
            (case side2 => exact (iz11 HO471.out).2.1)
            (case side3 => repeat (first | exact (iz11 HO486.out).2.2 | (with_reducible refine Kd.C_alloc ?_ _) | (with_reducible refine Kd.C_drewN ?_ _) | (with_reducible refine Kd.C_drew ?_)))
            (case side4 => exact (iz11 HO486.out).2.1)
            rintro e w99 ⟨rfl, hb⟩
            refine ⟨_, rfl, ?_⟩
            have n0_ := zz11 (dz11 (by (with_reducible repeat (first | apply az11 | apply bz11 | apply cz11)); exact HO451.out) hb)
            have n1_ := zz11 (dz11 (by (with_reducible repeat (first | apply az11 | apply bz11 | apply cz11)); exact HO457.out) hb)
            have n2_ := zz11 (dz11 (by (with_reducible repeat (first | apply az11 | apply bz11 | apply cz11)); exact HO464.out) hb)
            have n3_ := zz11 (dz11 (by (with_reducible repeat (first | apply az11 | apply bz11 | apply cz11)); exact HO471.out) hb)
            have n4_ := zz11 (dz11 (by (with_reducible repeat (first | apply az11 | apply bz11 | apply cz11)); exact HO479.out) hb)
            have n5_ := zz11 (dz11 (by (with_reducible repeat (first | apply az11 | apply bz11 | apply cz11)); exact HO486.out) hb)
            have n6_ := zz11 (hy11 (g := gb442) (o := .cells #[.int .i64 a0_0, .int .i64 a0_1, .int .i64 a0_2, .slice A0_3 l0_3.length c0_3] 55 (0, 0)) (by (with_reducible repeat (first | refine ey11 ?_ _ | refine gy11 ?_ | refine fy11 ?_ _)); exact BK442.out) hb)
            have n7_ := zz11 (hy11 (g := gb443) (o := .cells #[.int .i64 a1_0, .int .i64 a1_1, .int .i64 a1_2, .slice A1_3 l1_3.length c1_3] 55 (0, 0)) (by (with_reducible repeat (first | refine ey11 ?_ _ | refine gy11 ?_ | refine fy11 ?_ _)); exact BK443.out) hb)
            have n8_ := zz11 (hy11 (g := gb465) (o := .cells #[.int .i64 t459, .int .i64 t460, .int .i64 t461, .slice Ao81 t462.length co81] 58 (0, 0)) (by (with_reducible repeat (first | refine ey11 ?_ _ | refine gy11 ?_ | refine fy11 ?_ _)); exact BK465.out) hb)
            have n9_ := zz11 (hy11 (g := gb472) (o := .cells #[.int .i64 t466, .int .i64 t467, .int .i64 t468, .slice Ao89 t469.length co89] 58 (0, 0)) (by (with_reducible repeat (first | refine ey11 ?_ _ | refine gy11 ?_ | refine fy11 ?_ _)); exact BK472.out) hb)
            have n10_ := zz11 (below_step (by repeat (first | (with_reducible first | exact HB.out | apply by11 | apply ay11 | apply cy11 | refine dy11 ?_ GE442.out | refine dy11 ?_ GE443.out | refine dy11 ?_ GE465.out | refine dy11 ?_ GE472.out) | exact HB.out)) hb)
            clear HO451
            clear HO457
            clear HO464
            clear HO471
            clear HO479
            clear HO486
            clear BK442
            clear BK443
            clear BK465
            clear BK472
            clear HB
            have HO451 := n0_
            have HO457 := n1_
            have HO464 := n2_
            have HO471 := n3_
            have HO479 := n4_
            have HO486 := n5_
            have BK442 := n6_
            have BK443 := n7_
            have BK465 := n8_
            have BK472 := n9_
            have HB := n10_
            clear n0_ n1_ n2_ n3_ n4_ n5_ n6_ n7_ n8_ n9_ n10_
            (try clear hb)
            (try clear hb2)
            (try clear hk)
            (try clear hi)
            refine hK.out _ _ ⟨(blk_cell BK472.out 0).trans rfl, (blk_cell BK472.out 1).trans rfl, (blk_cell BK472.out 2).trans rfl, (blk_cell BK472.out 3).trans rfl, (blk_cell BK443.out 0).trans rfl, (blk_cell BK443.out 1).trans rfl, (blk_cell BK443.out 2).trans rfl, (blk_cell BK443.out 3).trans rfl⟩ (fun hHeld => ?_)
            clear hK K
            refine norm_ (a' := ?_) ?_ ?_
            rotate_left
            · show Act.put _ (some 43) _ = _
              simp only [Act.put, List.setIfInBounds_toArray, List.set_cons_zero, List.set_cons_succ, i64_w, i32_w]
              rfl
            refine pure_ (i := 4) (N := some 44) (v := ?_) (a' := ?_) #[true, true, true, true, true] rfl rfl (by kernel_rfl) (fun _ _ _ h => h) (Or.inl ⟨by rfl, ?_⟩) ?_ ?_
            rotate_left
            · intro w'
              go_simp
              with_reducible rfl
            rotate_left
            · simp only [Act.put, List.setIfInBounds_toArray, List.set_cons_zero, List.set_cons_succ, i64_w, i32_w]
              rfl
            refine done_ (by kernel_rfl) ?_
            try go_wp2
            go_ret
            exact ⟨by first | rfl | (simp [errW_none, errW_some] <;> rfl) | (simp [*, errW_none, errW_some] <;> rfl), by repeat (first | (with_reducible first | exact HB.out | apply by11 | apply ay11 | apply cy11 | refine dy11 ?_ GE442.out | refine dy11 ?_ GE443.out | refine dy11 ?_ GE465.out | refine dy11 ?_ GE472.out) | exact HB.out)⟩
          · replace c61 := Bool.eq_false_iff.mpr c61
            subst c61
            have H1 : (some false) = some r := by rw [if_neg (show ¬ (false = true) by decide)] at H; exact H
            clear H
            have H := H1
            clear H1
            obtain rfl := Option.some.inj H
            go_enter Try.func11, Try.ntmps11
            try go_wp2_with (first | ((with_reducible refine gate_dst (N := 2) rfl ?_); refine box_event ?hg (N := 2) ?hd (cs := #[.int .i64 a0_0, .int .i64 a0_1, .int .i64 a0_2, .slice A0_3 l0_3.length c0_3]) (t := 55) ?hr ?_; (case hd => rfl); (case hg => rfl); (case hr => first | (go_simp; done) | (go_simp; rfl)); intro gb442 hg w100 hbox hb; have n0_ := zz11 (below_step (by repeat (first | (with_reducible first | exact HB.out | apply by11 | apply ay11 | apply cy11) | exact HB.out)) hb); have n1_ := zz11 (hbox); have n2_ := zz11 ((by rw [hg]; exact (below_size (by repeat (first | (with_reducible first | exact HB.out | apply by11 | apply ay11 | apply cy11) | exact HB.out))) : w.heap.size ≤ gb442)); have n3_ := zz11 ((by rw [hg]; exact (below_size (by repeat (first | (with_reducible first | exact HB.out | apply by11 | apply ay11 | apply cy11) | exact HB.out))) : w.heap.size ≤ gb442)); clear HB; have HB := n0_; have BK442 := n1_; have GW442 := n2_; have GE442 := n3_; clear n0_ n1_ n2_ n3_; clear hb hbox hg) | ((with_reducible refine gate_dst (N := 3) rfl ?_); refine box_event ?hg (N := 3) ?hd (cs := #[.int .i64 a1_0, .int .i64 a1_1, .int .i64 a1_2, .slice A1_3 l1_3.length c1_3]) (t := 55) ?hr ?_; (case hd => rfl); (case hg => rfl); (case hr => first | (go_simp; done) | (go_simp; rfl)); intro gb443 hg w101 hbox hb; have n0_ := zz11 (hy11 (g := gb442) (o := .cells #[.int .i64 a0_0, .int .i64 a0_1, .int .i64 a0_2, .slice A0_3 l0_3.length c0_3] 55 (0, 0)) (by (with_reducible repeat (first | refine ey11 ?_ _ | refine gy11 ?_ | refine fy11 ?_ _)); exact BK442.out) hb); have n1_ := zz11 (below_step (by repeat (first | (with_reducible first | exact HB.out | apply by11 | apply ay11 | apply cy11 | refine dy11 ?_ GE442.out) | exact HB.out)) hb); have n2_ := zz11 (hbox); have n3_ := zz11 ((by rw [hg]; exact (below_size (by repeat (first | (with_reducible first | exact HB.out | apply by11 | apply ay11 | apply cy11 | refine dy11 ?_ GE442.out) | exact HB.out))) : w.heap.size ≤ gb443)); have n4_ := zz11 ((by rw [hg]; exact (below_size (by repeat (first | (with_reducible first | exact HB.out | apply by11 | apply ay11 | apply cy11 | refine dy11 ?_ GE442.out) | exact HB.out))) : w.heap.size ≤ gb443)); have n5_ := zz11 ((by rw [hg]; exact Nat.ne_of_lt (blk_lt (g := gb442) (o := .cells #[.int .i64 a0_0, .int .i64 a0_1, .int .i64 a0_2, .slice A0_3 l0_3.length c0_3] 55 (0, 0)) (by (with_reducible repeat (first | refine ey11 ?_ _ | refine gy11 ?_ | refine fy11 ?_ _)); exact BK442.out)) : gb442 ≠ gb443)); have n6_ := zz11 ((by rw [hg]; exact Nat.ne_of_gt (blk_lt (g := gb442) (o := .cells #[.int .i64 a0_0, .int .i64 a0_1, .int .i64 a0_2, .slice A0_3 l0_3.length c0_3] 55 (0, 0)) (by (with_reducible repeat (first | refine ey11 ?_ _ | refine gy11 ?_ | refine fy11 ?_ _)); exact BK442.out)) : gb443 ≠ gb442)); clear BK442; clear HB; have BK442 := n0_; have HB := n1_; have BK443 := n2_; have GW443 := n3_; have GE443 := n4_; have NB442_443 := n5_; have NB443_442 := n6_; clear n0_ n1_ n2_ n3_ n4_ n5_ n6_; clear hb hbox hg; have hnb102 := NB442_443.out; have hnc102 := NB443_442.out; have hcz103_0 : w101.cell? ⟨gb442, 0, none⟩ = some (.int .i64 a0_0) := (blk_cell BK442.out 0).trans rfl; have hcz103_1 : w101.cell? ⟨gb442, 1, none⟩ = some (.int .i64 a0_1) := (blk_cell BK442.out 1).trans rfl; have hcz103_2 : w101.cell? ⟨gb442, 2, none⟩ = some (.int .i64 a0_2) := (blk_cell BK442.out 2).trans rfl; have hcz103_3 : w101.cell? ⟨gb442, 3, none⟩ = some (.slice A0_3 l0_3.length c0_3) := (blk_cell BK442.out 3).trans rfl; have hfz103_0 := blk_frozen BK442.out 0; have hfz103_1 := blk_frozen BK442.out 1; have hfz103_2 := blk_frozen BK442.out 2; have hfz103_3 := blk_frozen BK442.out 3) | ((with_reducible refine gate_callee (f := 41) rfl ?_); refine goesL_ (some 12) rfl rfl Try.func41 (by kernel_rfl) rfl #[.agg #[.int .i64 a0_0, .int .i64 a0_1, .int .i64 a0_2, .slice A0_3 l0_3.length c0_3], .int .i64 1048576] rfl (by (try simp only [List.map_toArray, List.map_cons, List.map_nil]); first | done | rfl | (simp only [List.length_drop, List.length_take]; rfl)) ?_; (with_reducible refine (laws_szLetter.calls a0_0 a0_1 a0_2 _ _ l0_3 1048576 t444 _ ?side1 ?side2 A3.out).mono ?_); (case side1 => repeat (first | exact (Kd.C_below HR0_3.out HB.out) | (with_reducible refine Kd.C_alloc ?_ _) | (with_reducible refine Kd.C_drewN ?_ _) | (with_reducible refine Kd.C_drew ?_))); (case side2 => exact HC0_3.out); rintro e w104 ⟨rfl, hb⟩; refine ⟨_, rfl, ?_⟩; have n0_ := zz11 (hy11 (g := gb442) (o := .cells #[.int .i64 a0_0, .int .i64 a0_1, .int .i64 a0_2, .slice A0_3 l0_3.length c0_3] 55 (0, 0)) (by (with_reducible repeat (first | refine ey11 ?_ _ | refine gy11 ?_ | refine fy11 ?_ _)); exact BK442.out) hb); have n1_ := zz11 (hy11 (g := gb443) (o := .cells #[.int .i64 a1_0, .int .i64 a1_1, .int .i64 a1_2, .slice A1_3 l1_3.length c1_3] 55 (0, 0)) (by (with_reducible repeat (first | refine ey11 ?_ _ | refine gy11 ?_ | refine fy11 ?_ _)); exact BK443.out) hb); have n2_ := zz11 (below_step (by repeat (first | (with_reducible first | exact HB.out | apply by11 | apply ay11 | apply cy11 | refine dy11 ?_ GE442.out | refine dy11 ?_ GE443.out) | exact HB.out)) hb); clear BK442; clear BK443; clear HB; have BK442 := n0_; have BK443 := n1_; have HB := n2_; clear n0_ n1_ n2_; (try clear hb); (try clear hb2); (try clear hk); (try clear hi); have hcz105_0 : w104.cell? ⟨gb443, 0, none⟩ = some (.int .i64 a1_0) := (blk_cell BK443.out 0).trans rfl; have hcz105_1 : w104.cell? ⟨gb443, 1, none⟩ = some (.int .i64 a1_1) := (blk_cell BK443.out 1).trans rfl; have hcz105_2 : w104.cell? ⟨gb443, 2, none⟩ = some (.int .i64 a1_2) := (blk_cell BK443.out 2).trans rfl; have hcz105_3 : w104.cell? ⟨gb443, 3, none⟩ = some (.slice A1_3 l1_3.length c1_3) := (blk_cell BK443.out 3).trans rfl; have hfz105_0 := blk_frozen BK443.out 0; have hfz105_1 := blk_frozen BK443.out 1; have hfz105_2 := blk_frozen BK443.out 2; have hfz105_3 := blk_frozen BK443.out 3) | ((with_reducible refine gate_callee (f := 41) rfl ?_); refine goesL_ (some 17) rfl rfl Try.func41 (by kernel_rfl) rfl #[.agg #[.int .i64 a1_0, .int .i64 a1_1, .int .i64 a1_2, .slice A1_3 l1_3.length c1_3], .int .i64 t444] rfl (by (try simp only [List.map_toArray, List.map_cons, List.map_nil]); first | done | rfl | (simp only [List.length_drop, List.length_take]; rfl)) ?_; (with_reducible refine (laws_szLetter.calls a1_0 a1_1 a1_2 _ _ l1_3 t444 t445 _ ?side1 ?side2 A10.out).mono ?_); (case side1 => repeat (first | exact (Kd.C_below HR1_3.out HB.out) | (with_reducible refine Kd.C_alloc ?_ _) | (with_reducible refine Kd.C_drewN ?_ _) | (with_reducible refine Kd.C_drew ?_))); (case side2 => exact HC1_3.out); rintro e w106 ⟨rfl, hb⟩; refine ⟨_, rfl, ?_⟩; have n0_ := zz11 (hy11 (g := gb442) (o := .cells #[.int .i64 a0_0, .int .i64 a0_1, .int .i64 a0_2, .slice A0_3 l0_3.length c0_3] 55 (0, 0)) (by (with_reducible repeat (first | refine ey11 ?_ _ | refine gy11 ?_ | refine fy11 ?_ _)); exact BK442.out) hb); have n1_ := zz11 (hy11 (g := gb443) (o := .cells #[.int .i64 a1_0, .int .i64 a1_1, .int .i64 a1_2, .slice A1_3 l1_3.length c1_3] 55 (0, 0)) (by (with_reducible repeat (first | refine ey11 ?_ _ | refine gy11 ?_ | refine fy11 ?_ _)); exact BK443.out) hb); have n2_ := zz11 (below_step (by repeat (first | (with_reducible first | exact HB.out | apply by11 | apply ay11 | apply cy11 | refine dy11 ?_ GE442.out | refine dy11 ?_ GE443.out) | exact HB.out)) hb); clear BK442; clear BK443; clear HB; have BK442 := n0_; have BK443 := n1_; have HB := n2_; clear n0_ n1_ n2_; (try clear hb); (try clear hb2); (try clear hk); (try clear hi)))
            have n0_ := zz11 (gy11 BK442.out)
            have n1_ := zz11 (gy11 BK443.out)
            have n2_ := zz11 (cy11 HB.out)
            clear BK442
            clear BK443
            clear HB
            have BK442 := n0_
            have BK443 := n1_
            have HB := n2_
            clear n0_ n1_ n2_
            refine start_ (n := 6) (S := fun w' => w'.cell? ⟨gb442, 0, none⟩ = some (.int .i64 a0_0) ∧ w'.cell? ⟨gb442, 1, none⟩ = some (.int .i64 a0_1) ∧ w'.cell? ⟨gb442, 2, none⟩ = some (.int .i64 a0_2) ∧ w'.cell? ⟨gb442, 3, none⟩ = some (.slice A0_3 l0_3.length c0_3) ∧ w'.cell? ⟨gb443, 0, none⟩ = some (.int .i64 a1_0) ∧ w'.cell? ⟨gb443, 1, none⟩ = some (.int .i64 a1_1) ∧ w'.cell? ⟨gb443, 2, none⟩ = some (.int .i64 a1_2) ∧ w'.cell? ⟨gb443, 3, none⟩ = some (.slice A1_3 l1_3.length c1_3)) (ds := []) #[false, false, false, false, false, false] (by kernel_rfl) rfl rfl ⟨(blk_cell BK442.out 0).trans rfl, (blk_cell BK442.out 1).trans rfl, (blk_cell BK442.out 2).trans rfl, (blk_cell BK442.out 3).trans rfl, (blk_cell BK443.out 0).trans rfl, (blk_cell BK443.out 1).trans rfl, (blk_cell BK443.out 2).trans rfl, (blk_cell BK443.out 3).trans rfl⟩ (fun hHeld => ?_)
            generalize w106.drew = w107 at BK442 BK443 HB hHeld ⊢
            refine take_ (i := 0) (N := some 20) (v := ?_) (a' := ?_) #[true, false, false, false, false, false] rfl rfl (by kernel_rfl) (fun _ _ _ h => h) (Or.inl ⟨by rfl, ?_⟩) hHeld ?_ ?_
            rotate_left
            · rintro w' ⟨s0, s1, s2, s3, s4, s5, s6, s7⟩
              go_simp
              with_reducible rfl
            rotate_left
            · simp only [Act.put, List.setIfInBounds_toArray, List.set_cons_zero, List.set_cons_succ, i64_w, i32_w]
              rfl
            refine take_ (i := 2) (N := some 22) (v := ?_) (a' := ?_) #[true, false, true, false, false, false] rfl rfl (by kernel_rfl) (fun _ _ _ h => h) (Or.inl ⟨by rfl, ?_⟩) hHeld ?_ ?_
            rotate_left
            · rintro w' ⟨s0, s1, s2, s3, s4, s5, s6, s7⟩
              go_simp
              with_reducible rfl
            rotate_left
            · simp only [Act.put, List.setIfInBounds_toArray, List.set_cons_zero, List.set_cons_succ, i64_w, i32_w]
              rfl
            refine one_ (i := 1) (N := some 21) #[true, true, true, false, false, false] rfl rfl (by kernel_rfl) (by decide) (fun K hK => ?_)
            refine goes_ Try.func43 (by kernel_rfl) rfl #[.agg #[.int .i64 a0_0, .int .i64 a0_1, .int .i64 a0_2, .slice A0_3 l0_3.length c0_3]] (by rfl) rfl rfl (by (try simp only [List.map_toArray, List.map_cons, List.map_nil]); first | done | rfl | (simp only [List.length_drop, List.length_take]; rfl)) ?_
            with_reducible refine (laws_toLetter.calls k a0_0 a0_1 a0_2 _ _ l0_3 t446 t447 t448 t449 _ ?side1 ?side2 A19.out).mono ?_
            (case side1 => repeat (first | exact (Kd.C_below HR0_3.out HB.out) | (with_reducible refine Kd.C_alloc ?_ _) | (with_reducible refine Kd.C_drewN ?_ _) | (with_reducible refine Kd.C_drew ?_)))
            (case side2 => exact HC0_3.out)
            rintro e w108 ⟨v450, rfl, ho0, hb⟩
            refine ⟨_, rfl, ?_⟩
            have n0_ := zz11 (Kd.R_lower ho0 (below_size (by repeat (first | (with_reducible first | exact HB.out | apply by11 | apply ay11 | apply cy11 | refine dy11 ?_ GE442.out | refine dy11 ?_ GE443.out) | exact HB.out))))
            have n1_ := zz11 (hy11 (g := gb442) (o := .cells #[.int .i64 a0_0, .int .i64 a0_1, .int .i64 a0_2, .slice A0_3 l0_3.length c0_3] 55 (0, 0)) (by (with_reducible repeat (first | refine ey11 ?_ _ | refine gy11 ?_ | refine fy11 ?_ _)); exact BK442.out) hb)
            have n2_ := zz11 (hy11 (g := gb443) (o := .cells #[.int .i64 a1_0, .int .i64 a1_1, .int .i64 a1_2, .slice A1_3 l1_3.length c1_3] 55 (0, 0)) (by (with_reducible repeat (first | refine ey11 ?_ _ | refine gy11 ?_ | refine fy11 ?_ _)); exact BK443.out) hb)
            have n3_ := zz11 (below_step (by repeat (first | (with_reducible first | exact HB.out | apply by11 | apply ay11 | apply cy11 | refine dy11 ?_ GE442.out | refine dy11 ?_ GE443.out) | exact HB.out)) hb)
            clear BK442
            clear BK443
            clear HB
            have HO451 := n0_
            have BK442 := n1_
            have BK443 := n2_
            have HB := n3_
            clear n0_ n1_ n2_ n3_
            (try clear hb)
            (try clear hb2)
            (try clear hk)
            (try clear hi)
            (try clear ho0)
            refine hK.out _ _ ⟨(blk_cell BK442.out 0).trans rfl, (blk_cell BK442.out 1).trans rfl, (blk_cell BK442.out 2).trans rfl, (blk_cell BK442.out 3).trans rfl, (blk_cell BK443.out 0).trans rfl, (blk_cell BK443.out 1).trans rfl, (blk_cell BK443.out 2).trans rfl, (blk_cell BK443.out 3).trans rfl⟩ (fun hHeld => ?_)
            clear hK K
            refine norm_ (a' := ?_) ?_ ?_
            rotate_left
            · show Act.put _ (some 21) _ = _
              simp only [Act.put, List.setIfInBounds_toArray, List.set_cons_zero, List.set_cons_succ, i64_w, i32_w]
              rfl
            refine one_ (i := 3) (N := some 23) #[true, true, true, true, false, false] rfl rfl (by kernel_rfl) (by decide) (fun K hK => ?_)
            refine goes_ Try.func43 (by kernel_rfl) rfl #[.agg #[.int .i64 a1_0, .int .i64 a1_1, .int .i64 a1_2, .slice A1_3 l1_3.length c1_3]] (by rfl) rfl rfl (by (try simp only [List.map_toArray, List.map_cons, List.map_nil]); first | done | rfl | (simp only [List.length_drop, List.length_take]; rfl)) ?_
            with_reducible refine (laws_toLetter.calls k a1_0 a1_1 a1_2 _ _ l1_3 t452 t453 t454 t455 _ ?side1 ?side2 A20.out).mono ?_
            (case side1 => repeat (first | exact (Kd.C_below HR1_3.out HB.out) | (with_reducible refine Kd.C_alloc ?_ _) | (with_reducible refine Kd.C_drewN ?_ _) | (with_reducible refine Kd.C_drew ?_)))
            (case side2 => exact HC1_3.out)
            rintro e w109 ⟨v456, rfl, ho0, hb⟩
            refine ⟨_, rfl, ?_⟩
            have n0_ := zz11 (jz11 (by (with_reducible repeat (first | apply az11 | apply bz11 | apply cz11)); exact HO451.out) (fz11 ho0) hb)
            have n1_ := zz11 (Kd.R_lower (kz11 ho0 (Kd.R_lt (by (with_reducible repeat (first | apply az11 | apply bz11 | apply cz11)); exact HO451.out))) (below_size (by repeat (first | (with_reducible first | exact HB.out | apply by11 | apply ay11 | apply cy11 | refine dy11 ?_ GE442.out | refine dy11 ?_ GE443.out) | exact HB.out))))
            have n2_ := zz11 (hy11 (g := gb442) (o := .cells #[.int .i64 a0_0, .int .i64 a0_1, .int .i64 a0_2, .slice A0_3 l0_3.length c0_3] 55 (0, 0)) (by (with_reducible repeat (first | refine ey11 ?_ _ | refine gy11 ?_ | refine fy11 ?_ _)); exact BK442.out) hb)
            have n3_ := zz11 (hy11 (g := gb443) (o := .cells #[.int .i64 a1_0, .int .i64 a1_1, .int .i64 a1_2, .slice A1_3 l1_3.length c1_3] 55 (0, 0)) (by (with_reducible repeat (first | refine ey11 ?_ _ | refine gy11 ?_ | refine fy11 ?_ _)); exact BK443.out) hb)
            have n4_ := zz11 (below_step (by repeat (first | (with_reducible first | exact HB.out | apply by11 | apply ay11 | apply cy11 | refine dy11 ?_ GE442.out | refine dy11 ?_ GE443.out) | exact HB.out)) hb)
            clear HO451
            clear BK442
            clear BK443
            clear HB
            have HO451 := n0_
            have HO457 := n1_
            have BK442 := n2_
            have BK443 := n3_
            have HB := n4_
            clear n0_ n1_ n2_ n3_ n4_
            (try clear hb)
            (try clear hb2)
            (try clear hk)
            (try clear hi)
            (try clear ho0)
            obtain ⟨Ao110, co110, eo110⟩ := Kd.R_slice HO451.out
            (first | subst eo110 | (injection eo110 with f1_ f2_ f3_; have f4_ := f1_.symm; have f5_ := f3_.symm; clear f1_ f2_ f3_; subst f4_; subst f5_))
            obtain ⟨Ao111, co111, eo111⟩ := Kd.R_slice HO457.out
            (first | subst eo111 | (injection eo111 with f1_ f2_ f3_; have f4_ := f1_.symm; have f5_ := f3_.symm; clear f1_ f2_ f3_; subst f4_; subst f5_))
            refine hK.out _ _ ⟨(blk_cell BK442.out 0).trans rfl, (blk_cell BK442.out 1).trans rfl, (blk_cell BK442.out 2).trans rfl, (blk_cell BK442.out 3).trans rfl, (blk_cell BK443.out 0).trans rfl, (blk_cell BK443.out 1).trans rfl, (blk_cell BK443.out 2).trans rfl, (blk_cell BK443.out 3).trans rfl⟩ (fun hHeld => ?_)
            clear hK K
            refine norm_ (a' := ?_) ?_ ?_
            rotate_left
            · show Act.put _ (some 23) _ = _
              simp only [Act.put, List.setIfInBounds_toArray, List.set_cons_zero, List.set_cons_succ, i64_w, i32_w]
              rfl
            refine one_ (i := 4) (N := some 24) #[true, true, true, true, true, false] rfl rfl (by kernel_rfl) (by decide) (fun K hK => ?_)
            refine goes_ Try.func42 (by kernel_rfl) rfl #[.agg #[.int .i64 t446, .int .i64 t447, .int .i64 t448, .slice Ao110 t449.length co110], .agg #[.int .i64 t452, .int .i64 t453, .int .i64 t454, .slice Ao111 t455.length co111]] (by rfl) rfl rfl (by (try simp only [List.map_toArray, List.map_cons, List.map_nil]); first | done | rfl | (simp only [List.length_drop, List.length_take]; rfl)) ?_
            with_reducible refine (spec_SameLetters.calls t446 t447 t448 _ _ t449 t452 t453 t454 _ _ t455 t458 _ ?side1 ?side2 ?side3 ?side4 A21.out).mono ?_
            (case side1 => repeat (first | exact (iz11 HO451.out).2.2 | (with_reducible refine Kd.C_alloc ?_ _) | (with_reducible refine Kd.C_drewN ?_ _) | (with_reducible refine Kd.C_drew ?_)))
            (case side2 => exact (iz11 HO451.out).2.1)
            (case side3 => repeat (first | exact (iz11 HO457.out).2.2 | (with_reducible refine Kd.C_alloc ?_ _) | (with_reducible refine Kd.C_drewN ?_ _) | (with_reducible refine Kd.C_drew ?_)))
            (case side4 => exact (iz11 HO457.out).2.1)
            rintro e w112 ⟨rfl, hb⟩
            refine ⟨_, rfl, ?_⟩
            have n0_ := zz11 (dz11 (by (with_reducible repeat (first | apply az11 | apply bz11 | apply cz11)); exact HO451.out) hb)
            have n1_ := zz11 (dz11 (by (with_reducible repeat (first | apply az11 | apply bz11 | apply cz11)); exact HO457.out) hb)
            have n2_ := zz11 (hy11 (g := gb442) (o := .cells #[.int .i64 a0_0, .int .i64 a0_1, .int .i64 a0_2, .slice A0_3 l0_3.length c0_3] 55 (0, 0)) (by (with_reducible repeat (first | refine ey11 ?_ _ | refine gy11 ?_ | refine fy11 ?_ _)); exact BK442.out) hb)
            have n3_ := zz11 (hy11 (g := gb443) (o := .cells #[.int .i64 a1_0, .int .i64 a1_1, .int .i64 a1_2, .slice A1_3 l1_3.length c1_3] 55 (0, 0)) (by (with_reducible repeat (first | refine ey11 ?_ _ | refine gy11 ?_ | refine fy11 ?_ _)); exact BK443.out) hb)
            have n4_ := zz11 (below_step (by repeat (first | (with_reducible first | exact HB.out | apply by11 | apply ay11 | apply cy11 | refine dy11 ?_ GE442.out | refine dy11 ?_ GE443.out) | exact HB.out)) hb)
            clear HO451
            clear HO457
            clear BK442
            clear BK443
            clear HB
            have HO451 := n0_
            have HO457 := n1_
            have BK442 := n2_
            have BK443 := n3_
            have HB := n4_
            clear n0_ n1_ n2_ n3_ n4_
            (try clear hb)
            (try clear hb2)
            (try clear hk)
            (try clear hi)
            refine hK.out _ _ ⟨(blk_cell BK442.out 0).trans rfl, (blk_cell BK442.out 1).trans rfl, (blk_cell BK442.out 2).trans rfl, (blk_cell BK442.out 3).trans rfl, (blk_cell BK443.out 0).trans rfl, (blk_cell BK443.out 1).trans rfl, (blk_cell BK443.out 2).trans rfl, (blk_cell BK443.out 3).trans rfl⟩ (fun hHeld => ?_)
            clear hK K
            refine norm_ (a' := ?_) ?_ ?_
            rotate_left
            · show Act.put _ (some 24) _ = _
              simp only [Act.put, List.setIfInBounds_toArray, List.set_cons_zero, List.set_cons_succ, i64_w, i32_w]
              rfl
            refine pure_ (i := 5) (N := some 6) (v := ?_) (a' := ?_) #[true, true, true, true, true, true] rfl rfl (by kernel_rfl) (fun _ _ _ h => h) (Or.inl ⟨by rfl, ?_⟩) ?_ ?_
            rotate_left
            · intro w'
              go_simp
              with_reducible rfl
            rotate_left
            · simp only [Act.put, List.setIfInBounds_toArray, List.set_cons_zero, List.set_cons_succ, i64_w, i32_w]
              rfl
            refine done_ (by kernel_rfl) ?_
            have hcz113_0 : w112.cell? ⟨gb442, 0, none⟩ = some (.int .i64 a0_0) := (blk_cell BK442.out 0).trans rfl
            have hcz113_1 : w112.cell? ⟨gb442, 1, none⟩ = some (.int .i64 a0_1) := (blk_cell BK442.out 1).trans rfl
            have hcz113_2 : w112.cell? ⟨gb442, 2, none⟩ = some (.int .i64 a0_2) := (blk_cell BK442.out 2).trans rfl
            have hcz113_3 : w112.cell? ⟨gb442, 3, none⟩ = some (.slice A0_3 l0_3.length c0_3) := (blk_cell BK442.out 3).trans rfl
            have hfz113_0 := blk_frozen BK442.out 0
            have hfz113_1 := blk_frozen BK442.out 1
            have hfz113_2 := blk_frozen BK442.out 2
            have hfz113_3 := blk_frozen BK442.out 3
            try go_wp2_with (first | ((with_reducible refine gate_callee (f := 43) rfl ?_); refine goesL_ (some 26) rfl rfl Try.func43 (by kernel_rfl) rfl #[.agg #[.int .i64 a0_0, .int .i64 a0_1, .int .i64 a0_2, .slice A0_3 l0_3.length c0_3]] rfl (by (try simp only [List.map_toArray, List.map_cons, List.map_nil]); first | done | rfl | (simp only [List.length_drop, List.length_take]; rfl)) ?_; (with_reducible refine (laws_toLetter.calls k a0_0 a0_1 a0_2 _ _ l0_3 t459 t460 t461 t462 _ ?side1 ?side2 A22.out).mono ?_); (case side1 => repeat (first | exact (Kd.C_below HR0_3.out HB.out) | (with_reducible refine Kd.C_alloc ?_ _) | (with_reducible refine Kd.C_drewN ?_ _) | (with_reducible refine Kd.C_drew ?_))); (case side2 => exact HC0_3.out); rintro e w114 ⟨v463, rfl, ho0, hb⟩; refine ⟨_, rfl, ?_⟩; have n0_ := zz11 (jz11 (by (with_reducible repeat (first | apply az11 | apply bz11 | apply cz11)); exact HO451.out) (fz11 ho0) hb); have n1_ := zz11 (jz11 (by (with_reducible repeat (first | apply az11 | apply bz11 | apply cz11)); exact HO457.out) (fz11 ho0) hb); have n2_ := zz11 (Kd.R_lower (kz11 (kz11 ho0 (Kd.R_lt (by (with_reducible repeat (first | apply az11 | apply bz11 | apply cz11)); exact HO451.out))) (Kd.R_lt (by (with_reducible repeat (first | apply az11 | apply bz11 | apply cz11)); exact HO457.out))) (below_size (by repeat (first | (with_reducible first | exact HB.out | apply by11 | apply ay11 | apply cy11 | refine dy11 ?_ GE442.out | refine dy11 ?_ GE443.out) | exact HB.out)))); have n3_ := zz11 (hy11 (g := gb442) (o := .cells #[.int .i64 a0_0, .int .i64 a0_1, .int .i64 a0_2, .slice A0_3 l0_3.length c0_3] 55 (0, 0)) (by (with_reducible repeat (first | refine ey11 ?_ _ | refine gy11 ?_ | refine fy11 ?_ _)); exact BK442.out) hb); have n4_ := zz11 (hy11 (g := gb443) (o := .cells #[.int .i64 a1_0, .int .i64 a1_1, .int .i64 a1_2, .slice A1_3 l1_3.length c1_3] 55 (0, 0)) (by (with_reducible repeat (first | refine ey11 ?_ _ | refine gy11 ?_ | refine fy11 ?_ _)); exact BK443.out) hb); have n5_ := zz11 (below_step (by repeat (first | (with_reducible first | exact HB.out | apply by11 | apply ay11 | apply cy11 | refine dy11 ?_ GE442.out | refine dy11 ?_ GE443.out) | exact HB.out)) hb); clear HO451; clear HO457; clear BK442; clear BK443; clear HB; have HO451 := n0_; have HO457 := n1_; have HO464 := n2_; have BK442 := n3_; have BK443 := n4_; have HB := n5_; clear n0_ n1_ n2_ n3_ n4_ n5_; (try clear hb); (try clear hb2); (try clear hk); (try clear hi); (try clear ho0)) | ((with_reducible refine gate_dst (N := 7) rfl ?_); refine box_event ?hg (N := 7) ?hd (cs := #[.int .i64 0, .int .i64 0, .int .i64 0, .slice none 0 0]) (t := 58) ?hr ?_; (case hd => rfl); (case hg => rfl); (case hr => first | (go_simp; done) | (go_simp; rfl)); intro gb465 hg w115 hbox hb; have n0_ := zz11 (dz11 (by (with_reducible repeat (first | apply az11 | apply bz11 | apply cz11)); exact HO451.out) hb); have n1_ := zz11 (dz11 (by (with_reducible repeat (first | apply az11 | apply bz11 | apply cz11)); exact HO457.out) hb); have n2_ := zz11 (dz11 (by (with_reducible repeat (first | apply az11 | apply bz11 | apply cz11)); exact HO464.out) hb); have n3_ := zz11 (hy11 (g := gb442) (o := .cells #[.int .i64 a0_0, .int .i64 a0_1, .int .i64 a0_2, .slice A0_3 l0_3.length c0_3] 55 (0, 0)) (by (with_reducible repeat (first | refine ey11 ?_ _ | refine gy11 ?_ | refine fy11 ?_ _)); exact BK442.out) hb); have n4_ := zz11 (hy11 (g := gb443) (o := .cells #[.int .i64 a1_0, .int .i64 a1_1, .int .i64 a1_2, .slice A1_3 l1_3.length c1_3] 55 (0, 0)) (by (with_reducible repeat (first | refine ey11 ?_ _ | refine gy11 ?_ | refine fy11 ?_ _)); exact BK443.out) hb); have n5_ := zz11 (below_step (by repeat (first | (with_reducible first | exact HB.out | apply by11 | apply ay11 | apply cy11 | refine dy11 ?_ GE442.out | refine dy11 ?_ GE443.out) | exact HB.out)) hb); have n6_ := zz11 (hbox); have n7_ := zz11 ((by rw [hg]; exact (below_size (by repeat (first | (with_reducible first | exact HB.out | apply by11 | apply ay11 | apply cy11 | refine dy11 ?_ GE442.out | refine dy11 ?_ GE443.out) | exact HB.out))) : w.heap.size ≤ gb465)); have n8_ := zz11 ((by rw [hg]; exact (below_size (by repeat (first | (with_reducible first | exact HB.out | apply by11 | apply ay11 | apply cy11 | refine dy11 ?_ GE442.out | refine dy11 ?_ GE443.out) | exact HB.out))) : w.heap.size ≤ gb465)); have n9_ := zz11 ((by rw [hg]; exact Nat.ne_of_lt (blk_lt (g := gb442) (o := .cells #[.int .i64 a0_0, .int .i64 a0_1, .int .i64 a0_2, .slice A0_3 l0_3.length c0_3] 55 (0, 0)) (by (with_reducible repeat (first | refine ey11 ?_ _ | refine gy11 ?_ | refine fy11 ?_ _)); exact BK442.out)) : gb442 ≠ gb465)); have n10_ := zz11 ((by rw [hg]; exact Nat.ne_of_gt (blk_lt (g := gb442) (o := .cells #[.int .i64 a0_0, .int .i64 a0_1, .int .i64 a0_2, .slice A0_3 l0_3.length c0_3] 55 (0, 0)) (by (with_reducible repeat (first | refine ey11 ?_ _ | refine gy11 ?_ | refine fy11 ?_ _)); exact BK442.out)) : gb465 ≠ gb442)); have n11_ := zz11 ((by rw [hg]; exact Nat.ne_of_lt (blk_lt (g := gb443) (o := .cells #[.int .i64 a1_0, .int .i64 a1_1, .int .i64 a1_2, .slice A1_3 l1_3.length c1_3] 55 (0, 0)) (by (with_reducible repeat (first | refine ey11 ?_ _ | refine gy11 ?_ | refine fy11 ?_ _)); exact BK443.out)) : gb443 ≠ gb465)); have n12_ := zz11 ((by rw [hg]; exact Nat.ne_of_gt (blk_lt (g := gb443) (o := .cells #[.int .i64 a1_0, .int .i64 a1_1, .int .i64 a1_2, .slice A1_3 l1_3.length c1_3] 55 (0, 0)) (by (with_reducible repeat (first | refine ey11 ?_ _ | refine gy11 ?_ | refine fy11 ?_ _)); exact BK443.out)) : gb465 ≠ gb443)); clear HO451; clear HO457; clear HO464; clear BK442; clear BK443; clear HB; have HO451 := n0_; have HO457 := n1_; have HO464 := n2_; have BK442 := n3_; have BK443 := n4_; have HB := n5_; have BK465 := n6_; have GW465 := n7_; have GE465 := n8_; have NB442_465 := n9_; have NB465_442 := n10_; have NB443_465 := n11_; have NB465_443 := n12_; clear n0_ n1_ n2_ n3_ n4_ n5_ n6_ n7_ n8_ n9_ n10_ n11_ n12_; clear hb hbox hg; have hnb116 := NB465_442.out; have hnc116 := NB442_465.out; have hnb117 := NB465_443.out; have hnc117 := NB443_465.out; have hcz118_0 : w115.cell? ⟨gb465, 0, none⟩ = some (.int .i64 0) := (blk_cell BK465.out 0).trans rfl; have hcz118_1 : w115.cell? ⟨gb465, 1, none⟩ = some (.int .i64 0) := (blk_cell BK465.out 1).trans rfl; have hcz118_2 : w115.cell? ⟨gb465, 2, none⟩ = some (.int .i64 0) := (blk_cell BK465.out 2).trans rfl; have hcz118_3 : w115.cell? ⟨gb465, 3, none⟩ = some (.slice none 0 0) := (blk_cell BK465.out 3).trans rfl; have hfz118_0 := blk_frozen BK465.out 0; have hfz118_1 := blk_frozen BK465.out 1; have hfz118_2 := blk_frozen BK465.out 2; have hfz118_3 := blk_frozen BK465.out 3; obtain ⟨Ao119, co119, eo119⟩ := Kd.R_slice HO464.out; subst eo119; have hcz120_0 : w115.cell? ⟨gb443, 0, none⟩ = some (.int .i64 a1_0) := (blk_cell BK443.out 0).trans rfl; have hcz120_1 : w115.cell? ⟨gb443, 1, none⟩ = some (.int .i64 a1_1) := (blk_cell BK443.out 1).trans rfl; have hcz120_2 : w115.cell? ⟨gb443, 2, none⟩ = some (.int .i64 a1_2) := (blk_cell BK443.out 2).trans rfl; have hcz120_3 : w115.cell? ⟨gb443, 3, none⟩ = some (.slice A1_3 l1_3.length c1_3) := (blk_cell BK443.out 3).trans rfl; have hfz120_0 := blk_frozen BK443.out 0; have hfz120_1 := blk_frozen BK443.out 1; have hfz120_2 := blk_frozen BK443.out 2; have hfz120_3 := blk_frozen BK443.out 3) | ((with_reducible refine gate_callee (f := 43) rfl ?_); refine goesL_ (some 28) rfl rfl Try.func43 (by kernel_rfl) rfl #[.agg #[.int .i64 a1_0, .int .i64 a1_1, .int .i64 a1_2, .slice A1_3 l1_3.length c1_3]] rfl (by (try simp only [List.map_toArray, List.map_cons, List.map_nil]); first | done | rfl | (simp only [List.length_drop, List.length_take]; rfl)) ?_; (with_reducible refine (laws_toLetter.calls k a1_0 a1_1 a1_2 _ _ l1_3 t466 t467 t468 t469 _ ?side1 ?side2 A23.out).mono ?_); (case side1 => exact Kd.C_below HR1_3.out (by repeat (first | (with_reducible first | exact HB.out | apply by11 | apply ay11 | apply cy11 | refine dy11 ?_ GE442.out | refine dy11 ?_ GE443.out | refine dy11 ?_ GE465.out) | exact HB.out))); (case side2 => exact HC1_3.out); rintro e w121 ⟨v470, rfl, ho0, hb⟩; refine ⟨_, rfl, ?_⟩; have n0_ := zz11 (jz11 (by (with_reducible repeat (first | apply az11 | apply bz11 | apply cz11)); exact (gz11 (ez11 (p := ⟨gb465, 3, none⟩) (ez11 (p := ⟨gb465, 2, none⟩) (ez11 (p := ⟨gb465, 1, none⟩) (ez11 (p := ⟨gb465, 0, none⟩) (hz11 HO451.out BK465.out (by decide)) (fun _ hk => hk.2) (.int .i64 t459)) (fun _ hk => hk.2) (.int .i64 t460)) (fun _ hk => hk.2) (.int .i64 t461)) (fun _ hk => hk.2) (.slice Ao119 t462.length co119)) (fun _ h_ => h_.1))) (fz11 ho0) hb); have n1_ := zz11 (jz11 (by (with_reducible repeat (first | apply az11 | apply bz11 | apply cz11)); exact (gz11 (ez11 (p := ⟨gb465, 3, none⟩) (ez11 (p := ⟨gb465, 2, none⟩) (ez11 (p := ⟨gb465, 1, none⟩) (ez11 (p := ⟨gb465, 0, none⟩) (hz11 HO457.out BK465.out (by decide)) (fun _ hk => hk.2) (.int .i64 t459)) (fun _ hk => hk.2) (.int .i64 t460)) (fun _ hk => hk.2) (.int .i64 t461)) (fun _ hk => hk.2) (.slice Ao119 t462.length co119)) (fun _ h_ => h_.1))) (fz11 ho0) hb); have n2_ := zz11 (jz11 (by (with_reducible repeat (first | apply az11 | apply bz11 | apply cz11)); exact (gz11 (ez11 (p := ⟨gb465, 3, none⟩) (ez11 (p := ⟨gb465, 2, none⟩) (ez11 (p := ⟨gb465, 1, none⟩) (ez11 (p := ⟨gb465, 0, none⟩) (hz11 HO464.out BK465.out (by decide)) (fun _ hk => hk.2) (.int .i64 t459)) (fun _ hk => hk.2) (.int .i64 t460)) (fun _ hk => hk.2) (.int .i64 t461)) (fun _ hk => hk.2) (.slice Ao119 t462.length co119)) (fun _ h_ => h_.1))) (fz11 ho0) hb); have n3_ := zz11 (Kd.R_lower (kz11 (kz11 (kz11 ho0 (Kd.R_lt (by (with_reducible repeat (first | apply az11 | apply bz11 | apply cz11)); exact (gz11 (ez11 (p := ⟨gb465, 3, none⟩) (ez11 (p := ⟨gb465, 2, none⟩) (ez11 (p := ⟨gb465, 1, none⟩) (ez11 (p := ⟨gb465, 0, none⟩) (hz11 HO451.out BK465.out (by decide)) (fun _ hk => hk.2) (.int .i64 t459)) (fun _ hk => hk.2) (.int .i64 t460)) (fun _ hk => hk.2) (.int .i64 t461)) (fun _ hk => hk.2) (.slice Ao119 t462.length co119)) (fun _ h_ => h_.1))))) (Kd.R_lt (by (with_reducible repeat (first | apply az11 | apply bz11 | apply cz11)); exact (gz11 (ez11 (p := ⟨gb465, 3, none⟩) (ez11 (p := ⟨gb465, 2, none⟩) (ez11 (p := ⟨gb465, 1, none⟩) (ez11 (p := ⟨gb465, 0, none⟩) (hz11 HO457.out BK465.out (by decide)) (fun _ hk => hk.2) (.int .i64 t459)) (fun _ hk => hk.2) (.int .i64 t460)) (fun _ hk => hk.2) (.int .i64 t461)) (fun _ hk => hk.2) (.slice Ao119 t462.length co119)) (fun _ h_ => h_.1))))) (Kd.R_lt (by (with_reducible repeat (first | apply az11 | apply bz11 | apply cz11)); exact (gz11 (ez11 (p := ⟨gb465, 3, none⟩) (ez11 (p := ⟨gb465, 2, none⟩) (ez11 (p := ⟨gb465, 1, none⟩) (ez11 (p := ⟨gb465, 0, none⟩) (hz11 HO464.out BK465.out (by decide)) (fun _ hk => hk.2) (.int .i64 t459)) (fun _ hk => hk.2) (.int .i64 t460)) (fun _ hk => hk.2) (.int .i64 t461)) (fun _ hk => hk.2) (.slice Ao119 t462.length co119)) (fun _ h_ => h_.1))))) (below_size (by repeat (first | (with_reducible first | exact HB.out | apply by11 | apply ay11 | apply cy11 | refine dy11 ?_ GE442.out | refine dy11 ?_ GE443.out | refine dy11 ?_ GE465.out) | exact HB.out)))); have n4_ := zz11 (hy11 (g := gb442) (o := .cells #[.int .i64 a0_0, .int .i64 a0_1, .int .i64 a0_2, .slice A0_3 l0_3.length c0_3] 55 (0, 0)) (by (with_reducible repeat (first | refine ey11 ?_ _ | refine gy11 ?_ | refine fy11 ?_ _)); refine blk_far ?_ NB442_465.out _; (with_reducible repeat (first | refine ey11 ?_ _ | refine gy11 ?_ | refine fy11 ?_ _)); refine blk_far ?_ NB442_465.out _; (with_reducible repeat (first | refine ey11 ?_ _ | refine gy11 ?_ | refine fy11 ?_ _)); refine blk_far ?_ NB442_465.out _; (with_reducible repeat (first | refine ey11 ?_ _ | refine gy11 ?_ | refine fy11 ?_ _)); refine blk_far ?_ NB442_465.out _; (with_reducible repeat (first | refine ey11 ?_ _ | refine gy11 ?_ | refine fy11 ?_ _)); exact BK442.out) hb); have n5_ := zz11 (hy11 (g := gb443) (o := .cells #[.int .i64 a1_0, .int .i64 a1_1, .int .i64 a1_2, .slice A1_3 l1_3.length c1_3] 55 (0, 0)) (by (with_reducible repeat (first | refine ey11 ?_ _ | refine gy11 ?_ | refine fy11 ?_ _)); refine blk_far ?_ NB443_465.out _; (with_reducible repeat (first | refine ey11 ?_ _ | refine gy11 ?_ | refine fy11 ?_ _)); refine blk_far ?_ NB443_465.out _; (with_reducible repeat (first | refine ey11 ?_ _ | refine gy11 ?_ | refine fy11 ?_ _)); refine blk_far ?_ NB443_465.out _; (with_reducible repeat (first | refine ey11 ?_ _ | refine gy11 ?_ | refine fy11 ?_ _)); refine blk_far ?_ NB443_465.out _; (with_reducible repeat (first | refine ey11 ?_ _ | refine gy11 ?_ | refine fy11 ?_ _)); exact BK443.out) hb); have n6_ := zz11 (hy11 (g := gb465) (o := .cells #[.int .i64 t459, .int .i64 t460, .int .i64 t461, .slice Ao119 t462.length co119] 58 (0, 0)) (by (with_reducible repeat (first | refine ey11 ?_ _ | refine gy11 ?_ | refine fy11 ?_ _)); refine blk_put (cs := #[.int .i64 t459, .int .i64 t460, .int .i64 t461, .slice none 0 0]) ?_ 3 _ rfl; (with_reducible repeat (first | refine ey11 ?_ _ | refine gy11 ?_ | refine fy11 ?_ _)); refine blk_put (cs := #[.int .i64 t459, .int .i64 t460, .int .i64 0, .slice none 0 0]) ?_ 2 _ rfl; (with_reducible repeat (first | refine ey11 ?_ _ | refine gy11 ?_ | refine fy11 ?_ _)); refine blk_put (cs := #[.int .i64 t459, .int .i64 0, .int .i64 0, .slice none 0 0]) ?_ 1 _ rfl; (with_reducible repeat (first | refine ey11 ?_ _ | refine gy11 ?_ | refine fy11 ?_ _)); refine blk_put (cs := #[.int .i64 0, .int .i64 0, .int .i64 0, .slice none 0 0]) ?_ 0 _ rfl; (with_reducible repeat (first | refine ey11 ?_ _ | refine gy11 ?_ | refine fy11 ?_ _)); exact BK465.out) hb); have n7_ := zz11 (below_step (by repeat (first | (with_reducible first | exact HB.out | apply by11 | apply ay11 | apply cy11 | refine dy11 ?_ GE442.out | refine dy11 ?_ GE443.out | refine dy11 ?_ GE465.out) | exact HB.out)) hb); clear HO451; clear HO457; clear HO464; clear BK442; clear BK443; clear BK465; clear HB; have HO451 := n0_; have HO457 := n1_; have HO464 := n2_; have HO471 := n3_; have BK442 := n4_; have BK443 := n5_; have BK465 := n6_; have HB := n7_; clear n0_ n1_ n2_ n3_ n4_ n5_ n6_ n7_; (try clear hb); (try clear hb2); (try clear hk); (try clear hi); (try clear ho0)) | ((with_reducible refine gate_dst (N := 8) rfl ?_); refine box_event ?hg (N := 8) ?hd (cs := #[.int .i64 0, .int .i64 0, .int .i64 0, .slice none 0 0]) (t := 58) ?hr ?_; (case hd => rfl); (case hg => rfl); (case hr => first | (go_simp; done) | (go_simp; rfl)); intro gb472 hg w122 hbox hb; have n0_ := zz11 (dz11 (by (with_reducible repeat (first | apply az11 | apply bz11 | apply cz11)); exact HO451.out) hb); have n1_ := zz11 (dz11 (by (with_reducible repeat (first | apply az11 | apply bz11 | apply cz11)); exact HO457.out) hb); have n2_ := zz11 (dz11 (by (with_reducible repeat (first | apply az11 | apply bz11 | apply cz11)); exact HO464.out) hb); have n3_ := zz11 (dz11 (by (with_reducible repeat (first | apply az11 | apply bz11 | apply cz11)); exact HO471.out) hb); have n4_ := zz11 (hy11 (g := gb442) (o := .cells #[.int .i64 a0_0, .int .i64 a0_1, .int .i64 a0_2, .slice A0_3 l0_3.length c0_3] 55 (0, 0)) (by (with_reducible repeat (first | refine ey11 ?_ _ | refine gy11 ?_ | refine fy11 ?_ _)); exact BK442.out) hb); have n5_ := zz11 (hy11 (g := gb443) (o := .cells #[.int .i64 a1_0, .int .i64 a1_1, .int .i64 a1_2, .slice A1_3 l1_3.length c1_3] 55 (0, 0)) (by (with_reducible repeat (first | refine ey11 ?_ _ | refine gy11 ?_ | refine fy11 ?_ _)); exact BK443.out) hb); have n6_ := zz11 (hy11 (g := gb465) (o := .cells #[.int .i64 t459, .int .i64 t460, .int .i64 t461, .slice Ao119 t462.length co119] 58 (0, 0)) (by (with_reducible repeat (first | refine ey11 ?_ _ | refine gy11 ?_ | refine fy11 ?_ _)); exact BK465.out) hb); have n7_ := zz11 (below_step (by repeat (first | (with_reducible first | exact HB.out | apply by11 | apply ay11 | apply cy11 | refine dy11 ?_ GE442.out | refine dy11 ?_ GE443.out | refine dy11 ?_ GE465.out) | exact HB.out)) hb); have n8_ := zz11 (hbox); have n9_ := zz11 ((by rw [hg]; exact (below_size (by repeat (first | (with_reducible first | exact HB.out | apply by11 | apply ay11 | apply cy11 | refine dy11 ?_ GE442.out | refine dy11 ?_ GE443.out | refine dy11 ?_ GE465.out) | exact HB.out))) : w.heap.size ≤ gb472)); have n10_ := zz11 ((by rw [hg]; exact (below_size (by repeat (first | (with_reducible first | exact HB.out | apply by11 | apply ay11 | apply cy11 | refine dy11 ?_ GE442.out | refine dy11 ?_ GE443.out | refine dy11 ?_ GE465.out) | exact HB.out))) : w.heap.size ≤ gb472)); have n11_ := zz11 ((by rw [hg]; exact Nat.ne_of_lt (blk_lt (g := gb442) (o := .cells #[.int .i64 a0_0, .int .i64 a0_1, .int .i64 a0_2, .slice A0_3 l0_3.length c0_3] 55 (0, 0)) (by (with_reducible repeat (first | refine ey11 ?_ _ | refine gy11 ?_ | refine fy11 ?_ _)); exact BK442.out)) : gb442 ≠ gb472)); have n12_ := zz11 ((by rw [hg]; exact Nat.ne_of_gt (blk_lt (g := gb442) (o := .cells #[.int .i64 a0_0, .int .i64 a0_1, .int .i64 a0_2, .slice A0_3 l0_3.length c0_3] 55 (0, 0)) (by (with_reducible repeat (first | refine ey11 ?_ _ | refine gy11 ?_ | refine fy11 ?_ _)); exact BK442.out)) : gb472 ≠ gb442)); have n13_ := zz11 ((by rw [hg]; exact Nat.ne_of_lt (blk_lt (g := gb443) (o := .cells #[.int .i64 a1_0, .int .i64 a1_1, .int .i64 a1_2, .slice A1_3 l1_3.length c1_3] 55 (0, 0)) (by (with_reducible repeat (first | refine ey11 ?_ _ | refine gy11 ?_ | refine fy11 ?_ _)); exact BK443.out)) : gb443 ≠ gb472)); have n14_ := zz11 ((by rw [hg]; exact Nat.ne_of_gt (blk_lt (g := gb443) (o := .cells #[.int .i64 a1_0, .int .i64 a1_1, .int .i64 a1_2, .slice A1_3 l1_3.length c1_3] 55 (0, 0)) (by (with_reducible repeat (first | refine ey11 ?_ _ | refine gy11 ?_ | refine fy11 ?_ _)); exact BK443.out)) : gb472 ≠ gb443)); have n15_ := zz11 ((by rw [hg]; exact Nat.ne_of_lt (blk_lt (g := gb465) (o := .cells #[.int .i64 t459, .int .i64 t460, .int .i64 t461, .slice Ao119 t462.length co119] 58 (0, 0)) (by (with_reducible repeat (first | refine ey11 ?_ _ | refine gy11 ?_ | refine fy11 ?_ _)); exact BK465.out)) : gb465 ≠ gb472)); have n16_ := zz11 ((by rw [hg]; exact Nat.ne_of_gt (blk_lt (g := gb465) (o := .cells #[.int .i64 t459, .int .i64 t460, .int .i64 t461, .slice Ao119 t462.length co119] 58 (0, 0)) (by (with_reducible repeat (first | refine ey11 ?_ _ | refine gy11 ?_ | refine fy11 ?_ _)); exact BK465.out)) : gb472 ≠ gb465)); clear HO451; clear HO457; clear HO464; clear HO471; clear BK442; clear BK443; clear BK465; clear HB; have HO451 := n0_; have HO457 := n1_; have HO464 := n2_; have HO471 := n3_; have BK442 := n4_; have BK443 := n5_; have BK465 := n6_; have HB := n7_; have BK472 := n8_; have GW472 := n9_; have GE472 := n10_; have NB442_472 := n11_; have NB472_442 := n12_; have NB443_472 := n13_; have NB472_443 := n14_; have NB465_472 := n15_; have NB472_465 := n16_; clear n0_ n1_ n2_ n3_ n4_ n5_ n6_ n7_ n8_ n9_ n10_ n11_ n12_ n13_ n14_ n15_ n16_; clear hb hbox hg; have hnb123 := NB472_442.out; have hnc123 := NB442_472.out; have hnb124 := NB472_443.out; have hnc124 := NB443_472.out; have hnb125 := NB472_465.out; have hnc125 := NB465_472.out; have hcz126_0 : w122.cell? ⟨gb472, 0, none⟩ = some (.int .i64 0) := (blk_cell BK472.out 0).trans rfl; have hcz126_1 : w122.cell? ⟨gb472, 1, none⟩ = some (.int .i64 0) := (blk_cell BK472.out 1).trans rfl; have hcz126_2 : w122.cell? ⟨gb472, 2, none⟩ = some (.int .i64 0) := (blk_cell BK472.out 2).trans rfl; have hcz126_3 : w122.cell? ⟨gb472, 3, none⟩ = some (.slice none 0 0) := (blk_cell BK472.out 3).trans rfl; have hfz126_0 := blk_frozen BK472.out 0; have hfz126_1 := blk_frozen BK472.out 1; have hfz126_2 := blk_frozen BK472.out 2; have hfz126_3 := blk_frozen BK472.out 3; obtain ⟨Ao127, co127, eo127⟩ := Kd.R_slice HO471.out; subst eo127; have hcz128_0 : w122.cell? ⟨gb465, 0, none⟩ = some (.int .i64 t459) := (blk_cell BK465.out 0).trans rfl; have hcz128_1 : w122.cell? ⟨gb465, 1, none⟩ = some (.int .i64 t460) := (blk_cell BK465.out 1).trans rfl; have hcz128_2 : w122.cell? ⟨gb465, 2, none⟩ = some (.int .i64 t461) := (blk_cell BK465.out 2).trans rfl; have hcz128_3 : w122.cell? ⟨gb465, 3, none⟩ = some (.slice Ao119 t462.length co119) := (blk_cell BK465.out 3).trans rfl; have hfz128_0 := blk_frozen BK465.out 0; have hfz128_1 := blk_frozen BK465.out 1; have hfz128_2 := blk_frozen BK465.out 2; have hfz128_3 := blk_frozen BK465.out 3) | ((with_reducible refine gate_callee (f := 44) rfl ?_); refine goesL_ (some 31) rfl rfl Try.func44 (by kernel_rfl) rfl #[.agg #[.int .i64 t459, .int .i64 t460, .int .i64 t461, .slice Ao119 t462.length co119], .agg #[.int .i64 t466, .int .i64 t467, .int .i64 t468, .slice Ao127 t469.length co127]] rfl (by (try simp only [List.map_toArray, List.map_cons, List.map_nil]); first | done | rfl | (simp only [List.length_drop, List.length_take]; rfl)) ?_; (with_reducible refine (impl_SameLetters.calls t459 t460 t461 _ _ t462 t466 t467 t468 _ _ t469 t473 _ ?side1 ?side2 ?side3 ?side4 A24.out).mono ?_); (case side1 => refine (iz11 (e := 5) (base := w.heap.size) (ok := fun k_ => (((True ∧ some k_ ≠ (.slice Ao110 t449.length co110 : Value).ownBlock) ∧ some k_ ≠ (.slice Ao111 t455.length co111 : Value).ownBlock) ∧ some k_ ≠ (.slice Ao127 t469.length co127 : Value).ownBlock)) (n := t462.length) (c := co119) ?_).2.2; exact (by (with_reducible repeat (first | apply az11 | apply bz11 | apply cz11)); exact (gz11 (ez11 (p := ⟨gb472, 3, none⟩) (ez11 (p := ⟨gb472, 2, none⟩) (ez11 (p := ⟨gb472, 1, none⟩) (ez11 (p := ⟨gb472, 0, none⟩) (hz11 HO464.out BK472.out (by decide)) (fun _ hk => hk.2) (.int .i64 t466)) (fun _ hk => hk.2) (.int .i64 t467)) (fun _ hk => hk.2) (.int .i64 t468)) (fun _ hk => hk.2) (.slice Ao127 t469.length co127)) (fun _ h_ => h_.1)))); (case side2 => exact (iz11 HO464.out).2.1); (case side3 => refine (iz11 (e := 5) (base := w.heap.size) (ok := fun k_ => (((True ∧ some k_ ≠ (.slice Ao110 t449.length co110 : Value).ownBlock) ∧ some k_ ≠ (.slice Ao111 t455.length co111 : Value).ownBlock) ∧ some k_ ≠ (.slice Ao119 t462.length co119 : Value).ownBlock)) (n := t469.length) (c := co127) ?_).2.2; exact (by (with_reducible repeat (first | apply az11 | apply bz11 | apply cz11)); exact (gz11 (ez11 (p := ⟨gb472, 3, none⟩) (ez11 (p := ⟨gb472, 2, none⟩) (ez11 (p := ⟨gb472, 1, none⟩) (ez11 (p := ⟨gb472, 0, none⟩) (hz11 HO471.out BK472.out (by decide)) (fun _ hk => hk.2) (.int .i64 t466)) (fun _ hk => hk.2) (.int .i64 t467)) (fun _ hk => hk.2) (.int .i64 t468)) (fun _ hk => hk.2) (.slice Ao127 t469.length co127)) (fun _ h_ => h_.1)))); (case side4 => exact (iz11 HO471.out).2.1); rintro e w129 ⟨rfl, hb⟩; refine ⟨_, rfl, ?_⟩; have n0_ := zz11 (dz11 (by (with_reducible repeat (first | apply az11 | apply bz11 | apply cz11)); exact (gz11 (ez11 (p := ⟨gb472, 3, none⟩) (ez11 (p := ⟨gb472, 2, none⟩) (ez11 (p := ⟨gb472, 1, none⟩) (ez11 (p := ⟨gb472, 0, none⟩) (hz11 HO451.out BK472.out (by decide)) (fun _ hk => hk.2) (.int .i64 t466)) (fun _ hk => hk.2) (.int .i64 t467)) (fun _ hk => hk.2) (.int .i64 t468)) (fun _ hk => hk.2) (.slice Ao127 t469.length co127)) (fun _ h_ => h_.1))) hb); have n1_ := zz11 (dz11 (by (with_reducible repeat (first | apply az11 | apply bz11 | apply cz11)); exact (gz11 (ez11 (p := ⟨gb472, 3, none⟩) (ez11 (p := ⟨gb472, 2, none⟩) (ez11 (p := ⟨gb472, 1, none⟩) (ez11 (p := ⟨gb472, 0, none⟩) (hz11 HO457.out BK472.out (by decide)) (fun _ hk => hk.2) (.int .i64 t466)) (fun _ hk => hk.2) (.int .i64 t467)) (fun _ hk => hk.2) (.int .i64 t468)) (fun _ hk => hk.2) (.slice Ao127 t469.length co127)) (fun _ h_ => h_.1))) hb); have n2_ := zz11 (dz11 (by (with_reducible repeat (first | apply az11 | apply bz11 | apply cz11)); exact (gz11 (ez11 (p := ⟨gb472, 3, none⟩) (ez11 (p := ⟨gb472, 2, none⟩) (ez11 (p := ⟨gb472, 1, none⟩) (ez11 (p := ⟨gb472, 0, none⟩) (hz11 HO464.out BK472.out (by decide)) (fun _ hk => hk.2) (.int .i64 t466)) (fun _ hk => hk.2) (.int .i64 t467)) (fun _ hk => hk.2) (.int .i64 t468)) (fun _ hk => hk.2) (.slice Ao127 t469.length co127)) (fun _ h_ => h_.1))) hb); have n3_ := zz11 (dz11 (by (with_reducible repeat (first | apply az11 | apply bz11 | apply cz11)); exact (gz11 (ez11 (p := ⟨gb472, 3, none⟩) (ez11 (p := ⟨gb472, 2, none⟩) (ez11 (p := ⟨gb472, 1, none⟩) (ez11 (p := ⟨gb472, 0, none⟩) (hz11 HO471.out BK472.out (by decide)) (fun _ hk => hk.2) (.int .i64 t466)) (fun _ hk => hk.2) (.int .i64 t467)) (fun _ hk => hk.2) (.int .i64 t468)) (fun _ hk => hk.2) (.slice Ao127 t469.length co127)) (fun _ h_ => h_.1))) hb); have n4_ := zz11 (hy11 (g := gb442) (o := .cells #[.int .i64 a0_0, .int .i64 a0_1, .int .i64 a0_2, .slice A0_3 l0_3.length c0_3] 55 (0, 0)) (by (with_reducible repeat (first | refine ey11 ?_ _ | refine gy11 ?_ | refine fy11 ?_ _)); refine blk_far ?_ NB442_472.out _; (with_reducible repeat (first | refine ey11 ?_ _ | refine gy11 ?_ | refine fy11 ?_ _)); refine blk_far ?_ NB442_472.out _; (with_reducible repeat (first | refine ey11 ?_ _ | refine gy11 ?_ | refine fy11 ?_ _)); refine blk_far ?_ NB442_472.out _; (with_reducible repeat (first | refine ey11 ?_ _ | refine gy11 ?_ | refine fy11 ?_ _)); refine blk_far ?_ NB442_472.out _; (with_reducible repeat (first | refine ey11 ?_ _ | refine gy11 ?_ | refine fy11 ?_ _)); exact BK442.out) hb); have n5_ := zz11 (hy11 (g := gb443) (o := .cells #[.int .i64 a1_0, .int .i64 a1_1, .int .i64 a1_2, .slice A1_3 l1_3.length c1_3] 55 (0, 0)) (by (with_reducible repeat (first | refine ey11 ?_ _ | refine gy11 ?_ | refine fy11 ?_ _)); refine blk_far ?_ NB443_472.out _; (with_reducible repeat (first | refine ey11 ?_ _ | refine gy11 ?_ | refine fy11 ?_ _)); refine blk_far ?_ NB443_472.out _; (with_reducible repeat (first | refine ey11 ?_ _ | refine gy11 ?_ | refine fy11 ?_ _)); refine blk_far ?_ NB443_472.out _; (with_reducible repeat (first | refine ey11 ?_ _ | refine gy11 ?_ | refine fy11 ?_ _)); refine blk_far ?_ NB443_472.out _; (with_reducible repeat (first | refine ey11 ?_ _ | refine gy11 ?_ | refine fy11 ?_ _)); exact BK443.out) hb); have n6_ := zz11 (hy11 (g := gb465) (o := .cells #[.int .i64 t459, .int .i64 t460, .int .i64 t461, .slice Ao119 t462.length co119] 58 (0, 0)) (by (with_reducible repeat (first | refine ey11 ?_ _ | refine gy11 ?_ | refine fy11 ?_ _)); refine blk_far ?_ NB465_472.out _; (with_reducible repeat (first | refine ey11 ?_ _ | refine gy11 ?_ | refine fy11 ?_ _)); refine blk_far ?_ NB465_472.out _; (with_reducible repeat (first | refine ey11 ?_ _ | refine gy11 ?_ | refine fy11 ?_ _)); refine blk_far ?_ NB465_472.out _; (with_reducible repeat (first | refine ey11 ?_ _ | refine gy11 ?_ | refine fy11 ?_ _)); refine blk_far ?_ NB465_472.out _; (with_reducible repeat (first | refine ey11 ?_ _ | refine gy11 ?_ | refine fy11 ?_ _)); exact BK465.out) hb); have n7_ := zz11 (hy11 (g := gb472) (o := .cells #[.int .i64 t466, .int .i64 t467, .int .i64 t468, .slice Ao127 t469.length co127] 58 (0, 0)) (by (with_reducible repeat (first | refine ey11 ?_ _ | refine gy11 ?_ | refine fy11 ?_ _)); refine blk_put (cs := #[.int .i64 t466, .int .i64 t467, .int .i64 t468, .slice none 0 0]) ?_ 3 _ rfl; (with_reducible repeat (first | refine ey11 ?_ _ | refine gy11 ?_ | refine fy11 ?_ _)); refine blk_put (cs := #[.int .i64 t466, .int .i64 t467, .int .i64 0, .slice none 0 0]) ?_ 2 _ rfl; (with_reducible repeat (first | refine ey11 ?_ _ | refine gy11 ?_ | refine fy11 ?_ _)); refine blk_put (cs := #[.int .i64 t466, .int .i64 0, .int .i64 0, .slice none 0 0]) ?_ 1 _ rfl; (with_reducible repeat (first | refine ey11 ?_ _ | refine gy11 ?_ | refine fy11 ?_ _)); refine blk_put (cs := #[.int .i64 0, .int .i64 0, .int .i64 0, .slice none 0 0]) ?_ 0 _ rfl; (with_reducible repeat (first | refine ey11 ?_ _ | refine gy11 ?_ | refine fy11 ?_ _)); exact BK472.out) hb); have n8_ := zz11 (below_step (by repeat (first | (with_reducible first | exact HB.out | apply by11 | apply ay11 | apply cy11 | refine dy11 ?_ GE442.out | refine dy11 ?_ GE443.out | refine dy11 ?_ GE465.out | refine dy11 ?_ GE472.out) | exact HB.out)) hb); clear HO451; clear HO457; clear HO464; clear HO471; clear BK442; clear BK443; clear BK465; clear BK472; clear HB; have HO451 := n0_; have HO457 := n1_; have HO464 := n2_; have HO471 := n3_; have BK442 := n4_; have BK443 := n5_; have BK465 := n6_; have BK472 := n7_; have HB := n8_; clear n0_ n1_ n2_ n3_ n4_ n5_ n6_ n7_ n8_; (try clear hb); (try clear hb2); (try clear hk); (try clear hi)))
            have n0_ := zz11 (cz11 HO451.out)
            have n1_ := zz11 (cz11 HO457.out)
            have n2_ := zz11 (cz11 HO464.out)
            have n3_ := zz11 (cz11 HO471.out)
            have n4_ := zz11 (gy11 BK442.out)
            have n5_ := zz11 (gy11 BK443.out)
            have n6_ := zz11 (gy11 BK465.out)
            have n7_ := zz11 (gy11 BK472.out)
            have n8_ := zz11 (cy11 HB.out)
            clear HO451
            clear HO457
            clear HO464
            clear HO471
            clear BK442
            clear BK443
            clear BK465
            clear BK472
            clear HB
            have HO451 := n0_
            have HO457 := n1_
            have HO464 := n2_
            have HO471 := n3_
            have BK442 := n4_
            have BK443 := n5_
            have BK465 := n6_
            have BK472 := n7_
            have HB := n8_
            clear n0_ n1_ n2_ n3_ n4_ n5_ n6_ n7_ n8_
            refine start_ (n := 5) (S := fun w' => w'.cell? ⟨gb465, 0, none⟩ = some (.int .i64 t459) ∧ w'.cell? ⟨gb465, 1, none⟩ = some (.int .i64 t460) ∧ w'.cell? ⟨gb465, 2, none⟩ = some (.int .i64 t461) ∧ w'.cell? ⟨gb465, 3, none⟩ = some (.slice Ao119 t462.length co119) ∧ w'.cell? ⟨gb442, 0, none⟩ = some (.int .i64 a0_0) ∧ w'.cell? ⟨gb442, 1, none⟩ = some (.int .i64 a0_1) ∧ w'.cell? ⟨gb442, 2, none⟩ = some (.int .i64 a0_2) ∧ w'.cell? ⟨gb442, 3, none⟩ = some (.slice A0_3 l0_3.length c0_3)) (ds := []) #[false, false, false, false, false] (by kernel_rfl) rfl rfl ⟨(blk_cell BK465.out 0).trans rfl, (blk_cell BK465.out 1).trans rfl, (blk_cell BK465.out 2).trans rfl, (blk_cell BK465.out 3).trans rfl, (blk_cell BK442.out 0).trans rfl, (blk_cell BK442.out 1).trans rfl, (blk_cell BK442.out 2).trans rfl, (blk_cell BK442.out 3).trans rfl⟩ (fun hHeld => ?_)
            generalize w129.drew = w130 at HO451 HO457 HO464 HO471 BK442 BK443 BK465 BK472 HB hHeld ⊢
            refine take_ (i := 0) (N := some 35) (v := ?_) (a' := ?_) #[true, false, false, false, false] rfl rfl (by kernel_rfl) (fun _ _ _ h => h) (Or.inl ⟨by rfl, ?_⟩) hHeld ?_ ?_
            rotate_left
            · rintro w' ⟨s0, s1, s2, s3, s4, s5, s6, s7⟩
              go_simp
              with_reducible rfl
            rotate_left
            · simp only [Act.put, List.setIfInBounds_toArray, List.set_cons_zero, List.set_cons_succ, i64_w, i32_w]
              rfl
            refine take_ (i := 1) (N := some 36) (v := ?_) (a' := ?_) #[true, true, false, false, false] rfl rfl (by kernel_rfl) (fun _ _ _ h => h) (Or.inl ⟨by rfl, ?_⟩) hHeld ?_ ?_
            rotate_left
            · rintro w' ⟨s0, s1, s2, s3, s4, s5, s6, s7⟩
              go_simp
              with_reducible rfl
            rotate_left
            · simp only [Act.put, List.setIfInBounds_toArray, List.set_cons_zero, List.set_cons_succ, i64_w, i32_w]
              rfl
            refine one_ (i := 2) (N := some 37) #[true, true, true, false, false] rfl rfl (by kernel_rfl) (by decide) (fun K hK => ?_)
            refine goes_ Try.func43 (by kernel_rfl) rfl #[.agg #[.int .i64 a0_0, .int .i64 a0_1, .int .i64 a0_2, .slice A0_3 l0_3.length c0_3]] (by rfl) rfl rfl (by (try simp only [List.map_toArray, List.map_cons, List.map_nil]); first | done | rfl | (simp only [List.length_drop, List.length_take]; rfl)) ?_
            with_reducible refine (laws_toLetter.calls k a0_0 a0_1 a0_2 _ _ l0_3 t474 t475 t476 t477 _ ?side1 ?side2 A56.out).mono ?_
            (case side1 => repeat (first | exact (Kd.C_below HR0_3.out HB.out) | (with_reducible refine Kd.C_alloc ?_ _) | (with_reducible refine Kd.C_drewN ?_ _) | (with_reducible refine Kd.C_drew ?_)))
            (case side2 => exact HC0_3.out)
            rintro e w131 ⟨v478, rfl, ho0, hb⟩
            refine ⟨_, rfl, ?_⟩
            have n0_ := zz11 (jz11 (by (with_reducible repeat (first | apply az11 | apply bz11 | apply cz11)); exact HO451.out) (fz11 ho0) hb)
            have n1_ := zz11 (jz11 (by (with_reducible repeat (first | apply az11 | apply bz11 | apply cz11)); exact HO457.out) (fz11 ho0) hb)
            have n2_ := zz11 (jz11 (by (with_reducible repeat (first | apply az11 | apply bz11 | apply cz11)); exact HO464.out) (fz11 ho0) hb)
            have n3_ := zz11 (jz11 (by (with_reducible repeat (first | apply az11 | apply bz11 | apply cz11)); exact HO471.out) (fz11 ho0) hb)
            have n4_ := zz11 (Kd.R_lower (kz11 (kz11 (kz11 (kz11 ho0 (Kd.R_lt (by (with_reducible repeat (first | apply az11 | apply bz11 | apply cz11)); exact HO451.out))) (Kd.R_lt (by (with_reducible repeat (first | apply az11 | apply bz11 | apply cz11)); exact HO457.out))) (Kd.R_lt (by (with_reducible repeat (first | apply az11 | apply bz11 | apply cz11)); exact HO464.out))) (Kd.R_lt (by (with_reducible repeat (first | apply az11 | apply bz11 | apply cz11)); exact HO471.out))) (below_size (by repeat (first | (with_reducible first | exact HB.out | apply by11 | apply ay11 | apply cy11 | refine dy11 ?_ GE442.out | refine dy11 ?_ GE443.out | refine dy11 ?_ GE465.out | refine dy11 ?_ GE472.out) | exact HB.out))))
            have n5_ := zz11 (hy11 (g := gb442) (o := .cells #[.int .i64 a0_0, .int .i64 a0_1, .int .i64 a0_2, .slice A0_3 l0_3.length c0_3] 55 (0, 0)) (by (with_reducible repeat (first | refine ey11 ?_ _ | refine gy11 ?_ | refine fy11 ?_ _)); exact BK442.out) hb)
            have n6_ := zz11 (hy11 (g := gb443) (o := .cells #[.int .i64 a1_0, .int .i64 a1_1, .int .i64 a1_2, .slice A1_3 l1_3.length c1_3] 55 (0, 0)) (by (with_reducible repeat (first | refine ey11 ?_ _ | refine gy11 ?_ | refine fy11 ?_ _)); exact BK443.out) hb)
            have n7_ := zz11 (hy11 (g := gb465) (o := .cells #[.int .i64 t459, .int .i64 t460, .int .i64 t461, .slice Ao119 t462.length co119] 58 (0, 0)) (by (with_reducible repeat (first | refine ey11 ?_ _ | refine gy11 ?_ | refine fy11 ?_ _)); exact BK465.out) hb)
            have n8_ := zz11 (hy11 (g := gb472) (o := .cells #[.int .i64 t466, .int .i64 t467, .int .i64 t468, .slice Ao127 t469.length co127] 58 (0, 0)) (by (with_reducible repeat (first | refine ey11 ?_ _ | refine gy11 ?_ | refine fy11 ?_ _)); exact BK472.out) hb)
            have n9_ := zz11 (below_step (by repeat (first | (with_reducible first | exact HB.out | apply by11 | apply ay11 | apply cy11 | refine dy11 ?_ GE442.out | refine dy11 ?_ GE443.out | refine dy11 ?_ GE465.out | refine dy11 ?_ GE472.out) | exact HB.out)) hb)
            clear HO451
            clear HO457
            clear HO464
            clear HO471
            clear BK442
            clear BK443
            clear BK465
            clear BK472
            clear HB
            have HO451 := n0_
            have HO457 := n1_
            have HO464 := n2_
            have HO471 := n3_
            have HO479 := n4_
            have BK442 := n5_
            have BK443 := n6_
            have BK465 := n7_
            have BK472 := n8_
            have HB := n9_
            clear n0_ n1_ n2_ n3_ n4_ n5_ n6_ n7_ n8_ n9_
            (try clear hb)
            (try clear hb2)
            (try clear hk)
            (try clear hi)
            (try clear ho0)
            obtain ⟨Ao132, co132, eo132⟩ := Kd.R_slice HO479.out
            (first | subst eo132 | (injection eo132 with f1_ f2_ f3_; have f4_ := f1_.symm; have f5_ := f3_.symm; clear f1_ f2_ f3_; subst f4_; subst f5_))
            refine hK.out _ _ ⟨(blk_cell BK465.out 0).trans rfl, (blk_cell BK465.out 1).trans rfl, (blk_cell BK465.out 2).trans rfl, (blk_cell BK465.out 3).trans rfl, (blk_cell BK442.out 0).trans rfl, (blk_cell BK442.out 1).trans rfl, (blk_cell BK442.out 2).trans rfl, (blk_cell BK442.out 3).trans rfl⟩ (fun hHeld => ?_)
            clear hK K
            refine norm_ (a' := ?_) ?_ ?_
            rotate_left
            · show Act.put _ (some 37) _ = _
              simp only [Act.put, List.setIfInBounds_toArray, List.set_cons_zero, List.set_cons_succ, i64_w, i32_w]
              rfl
            refine one_ (i := 3) (N := some 38) #[true, true, true, true, false] rfl rfl (by kernel_rfl) (by decide) (fun K hK => ?_)
            refine goes_ Try.func45 (by kernel_rfl) rfl #[.agg #[.int .i64 t459, .int .i64 t460, .int .i64 t461, .slice Ao119 t462.length co119], .agg #[.int .i64 t474, .int .i64 t475, .int .i64 t476, .slice Ao132 t477.length co132]] (by rfl) rfl rfl (by (try simp only [List.map_toArray, List.map_cons, List.map_nil]); first | done | rfl | (simp only [List.length_drop, List.length_take]; rfl)) ?_
            with_reducible refine (laws_eqLetter.calls k t459 t460 t461 _ _ t462 t474 t475 t476 _ _ t477 true _ ?side1 ?side2 ?side3 ?side4 A57.out).mono ?_
            (case side1 => repeat (first | exact (iz11 HO464.out).2.2 | (with_reducible refine Kd.C_alloc ?_ _) | (with_reducible refine Kd.C_drewN ?_ _) | (with_reducible refine Kd.C_drew ?_)))
            (case side2 => exact (iz11 HO464.out).2.1)
            (case side3 => repeat (first | exact (iz11 HO479.out).2.2 | (with_reducible refine Kd.C_alloc ?_ _) | (with_reducible refine Kd.C_drewN ?_ _) | (with_reducible refine Kd.C_drew ?_)))
            (case side4 => exact (iz11 HO479.out).2.1)
            rintro e w133 ⟨rfl, hb⟩
            refine ⟨_, rfl, ?_⟩
            have n0_ := zz11 (dz11 (by (with_reducible repeat (first | apply az11 | apply bz11 | apply cz11)); exact HO451.out) hb)
            have n1_ := zz11 (dz11 (by (with_reducible repeat (first | apply az11 | apply bz11 | apply cz11)); exact HO457.out) hb)
            have n2_ := zz11 (dz11 (by (with_reducible repeat (first | apply az11 | apply bz11 | apply cz11)); exact HO464.out) hb)
            have n3_ := zz11 (dz11 (by (with_reducible repeat (first | apply az11 | apply bz11 | apply cz11)); exact HO471.out) hb)
            have n4_ := zz11 (dz11 (by (with_reducible repeat (first | apply az11 | apply bz11 | apply cz11)); exact HO479.out) hb)
            have n5_ := zz11 (hy11 (g := gb442) (o := .cells #[.int .i64 a0_0, .int .i64 a0_1, .int .i64 a0_2, .slice A0_3 l0_3.length c0_3] 55 (0, 0)) (by (with_reducible repeat (first | refine ey11 ?_ _ | refine gy11 ?_ | refine fy11 ?_ _)); exact BK442.out) hb)
            have n6_ := zz11 (hy11 (g := gb443) (o := .cells #[.int .i64 a1_0, .int .i64 a1_1, .int .i64 a1_2, .slice A1_3 l1_3.length c1_3] 55 (0, 0)) (by (with_reducible repeat (first | refine ey11 ?_ _ | refine gy11 ?_ | refine fy11 ?_ _)); exact BK443.out) hb)
            have n7_ := zz11 (hy11 (g := gb465) (o := .cells #[.int .i64 t459, .int .i64 t460, .int .i64 t461, .slice Ao119 t462.length co119] 58 (0, 0)) (by (with_reducible repeat (first | refine ey11 ?_ _ | refine gy11 ?_ | refine fy11 ?_ _)); exact BK465.out) hb)
            have n8_ := zz11 (hy11 (g := gb472) (o := .cells #[.int .i64 t466, .int .i64 t467, .int .i64 t468, .slice Ao127 t469.length co127] 58 (0, 0)) (by (with_reducible repeat (first | refine ey11 ?_ _ | refine gy11 ?_ | refine fy11 ?_ _)); exact BK472.out) hb)
            have n9_ := zz11 (below_step (by repeat (first | (with_reducible first | exact HB.out | apply by11 | apply ay11 | apply cy11 | refine dy11 ?_ GE442.out | refine dy11 ?_ GE443.out | refine dy11 ?_ GE465.out | refine dy11 ?_ GE472.out) | exact HB.out)) hb)
            clear HO451
            clear HO457
            clear HO464
            clear HO471
            clear HO479
            clear BK442
            clear BK443
            clear BK465
            clear BK472
            clear HB
            have HO451 := n0_
            have HO457 := n1_
            have HO464 := n2_
            have HO471 := n3_
            have HO479 := n4_
            have BK442 := n5_
            have BK443 := n6_
            have BK465 := n7_
            have BK472 := n8_
            have HB := n9_
            clear n0_ n1_ n2_ n3_ n4_ n5_ n6_ n7_ n8_ n9_
            (try clear hb)
            (try clear hb2)
            (try clear hk)
            (try clear hi)
            refine hK.out _ _ ⟨(blk_cell BK465.out 0).trans rfl, (blk_cell BK465.out 1).trans rfl, (blk_cell BK465.out 2).trans rfl, (blk_cell BK465.out 3).trans rfl, (blk_cell BK442.out 0).trans rfl, (blk_cell BK442.out 1).trans rfl, (blk_cell BK442.out 2).trans rfl, (blk_cell BK442.out 3).trans rfl⟩ (fun hHeld => ?_)
            clear hK K
            refine norm_ (a' := ?_) ?_ ?_
            rotate_left
            · show Act.put _ (some 38) _ = _
              simp only [Act.put, List.setIfInBounds_toArray, List.set_cons_zero, List.set_cons_succ, i64_w, i32_w]
              rfl
            refine pure_ (i := 4) (N := some 39) (v := ?_) (a' := ?_) #[true, true, true, true, true] rfl rfl (by kernel_rfl) (fun _ _ _ h => h) (Or.inl ⟨by rfl, ?_⟩) ?_ ?_
            rotate_left
            · intro w'
              go_simp
              with_reducible rfl
            rotate_left
            · simp only [Act.put, List.setIfInBounds_toArray, List.set_cons_zero, List.set_cons_succ, i64_w, i32_w]
              rfl
            refine done_ (by kernel_rfl) ?_
            try go_wp2
            have n0_ := zz11 (cz11 HO451.out)
            have n1_ := zz11 (cz11 HO457.out)
            have n2_ := zz11 (cz11 HO464.out)
            have n3_ := zz11 (cz11 HO471.out)
            have n4_ := zz11 (cz11 HO479.out)
            have n5_ := zz11 (gy11 BK442.out)
            have n6_ := zz11 (gy11 BK443.out)
            have n7_ := zz11 (gy11 BK465.out)
            have n8_ := zz11 (gy11 BK472.out)
            have n9_ := zz11 (cy11 HB.out)
            clear HO451
            clear HO457
            clear HO464
            clear HO471
            clear HO479
            clear BK442
            clear BK443
            clear BK465
            clear BK472
            clear HB
            have HO451 := n0_
            have HO457 := n1_
            have HO464 := n2_
            have HO471 := n3_
            have HO479 := n4_
            have BK442 := n5_
            have BK443 := n6_
            have BK465 := n7_
            have BK472 := n8_
            have HB := n9_
            clear n0_ n1_ n2_ n3_ n4_ n5_ n6_ n7_ n8_ n9_
            refine start_ (n := 5) (S := fun w' => w'.cell? ⟨gb472, 0, none⟩ = some (.int .i64 t466) ∧ w'.cell? ⟨gb472, 1, none⟩ = some (.int .i64 t467) ∧ w'.cell? ⟨gb472, 2, none⟩ = some (.int .i64 t468) ∧ w'.cell? ⟨gb472, 3, none⟩ = some (.slice Ao127 t469.length co127) ∧ w'.cell? ⟨gb443, 0, none⟩ = some (.int .i64 a1_0) ∧ w'.cell? ⟨gb443, 1, none⟩ = some (.int .i64 a1_1) ∧ w'.cell? ⟨gb443, 2, none⟩ = some (.int .i64 a1_2) ∧ w'.cell? ⟨gb443, 3, none⟩ = some (.slice A1_3 l1_3.length c1_3)) (ds := []) #[false, false, false, false, false] (by kernel_rfl) rfl rfl ⟨(blk_cell BK472.out 0).trans rfl, (blk_cell BK472.out 1).trans rfl, (blk_cell BK472.out 2).trans rfl, (blk_cell BK472.out 3).trans rfl, (blk_cell BK443.out 0).trans rfl, (blk_cell BK443.out 1).trans rfl, (blk_cell BK443.out 2).trans rfl, (blk_cell BK443.out 3).trans rfl⟩ (fun hHeld => ?_)
            generalize w133.drew = w134 at HO451 HO457 HO464 HO471 HO479 BK442 BK443 BK465 BK472 HB hHeld ⊢
            refine take_ (i := 0) (N := some 40) (v := ?_) (a' := ?_) #[true, false, false, false, false] rfl rfl (by kernel_rfl) (fun _ _ _ h => h) (Or.inl ⟨by rfl, ?_⟩) hHeld ?_ ?_
            rotate_left
            · rintro w' ⟨s0, s1, s2, s3, s4, s5, s6, s7⟩
              go_simp
              with_reducible rfl
            rotate_left
            · simp only [Act.put, List.setIfInBounds_toArray, List.set_cons_zero, List.set_cons_succ, i64_w, i32_w]
              rfl
            refine take_ (i := 1) (N := some 41) (v := ?_) (a' := ?_) #[true, true, false, false, false] rfl rfl (by kernel_rfl) (fun _ _ _ h => h) (Or.inl ⟨by rfl, ?_⟩) hHeld ?_ ?_
            rotate_left
            · rintro w' ⟨s0, s1, s2, s3, s4, s5, s6, s7⟩
              go_simp
              with_reducible rfl
            rotate_left
            · simp only [Act.put, List.setIfInBounds_toArray, List.set_cons_zero, List.set_cons_succ, i64_w, i32_w]
              rfl
            refine one_ (i := 2) (N := some 42) #[true, true, true, false, false] rfl rfl (by kernel_rfl) (by decide) (fun K hK => ?_)
            refine goes_ Try.func43 (by kernel_rfl) rfl #[.agg #[.int .i64 a1_0, .int .i64 a1_1, .int .i64 a1_2, .slice A1_3 l1_3.length c1_3]] (by rfl) rfl rfl (by (try simp only [List.map_toArray, List.map_cons, List.map_nil]); first | done | rfl | (simp only [List.length_drop, List.length_take]; rfl)) ?_
            with_reducible refine (laws_toLetter.calls k a1_0 a1_1 a1_2 _ _ l1_3 t481 t482 t483 t484 _ ?side1 ?side2 A59.out).mono ?_
            (case side1 => repeat (first | exact (Kd.C_below HR1_3.out HB.out) | (with_reducible refine Kd.C_alloc ?_ _) | (with_reducible refine Kd.C_drewN ?_ _) | (with_reducible refine Kd.C_drew ?_)))
            (case side2 => exact HC1_3.out)
            rintro e w135 ⟨v485, rfl, ho0, hb⟩
            refine ⟨_, rfl, ?_⟩
            have n0_ := zz11 (jz11 (by (with_reducible repeat (first | apply az11 | apply bz11 | apply cz11)); exact HO451.out) (fz11 ho0) hb)
            have n1_ := zz11 (jz11 (by (with_reducible repeat (first | apply az11 | apply bz11 | apply cz11)); exact HO457.out) (fz11 ho0) hb)
            have n2_ := zz11 (jz11 (by (with_reducible repeat (first | apply az11 | apply bz11 | apply cz11)); exact HO464.out) (fz11 ho0) hb)
            have n3_ := zz11 (jz11 (by (with_reducible repeat (first | apply az11 | apply bz11 | apply cz11)); exact HO471.out) (fz11 ho0) hb)
            have n4_ := zz11 (jz11 (by (with_reducible repeat (first | apply az11 | apply bz11 | apply cz11)); exact HO479.out) (fz11 ho0) hb)
            have n5_ := zz11 (Kd.R_lower (kz11 (kz11 (kz11 (kz11 (kz11 ho0 (Kd.R_lt (by (with_reducible repeat (first | apply az11 | apply bz11 | apply cz11)); exact HO451.out))) (Kd.R_lt (by (with_reducible repeat (first | apply az11 | apply bz11 | apply cz11)); exact HO457.out))) (Kd.R_lt (by (with_reducible repeat (first | apply az11 | apply bz11 | apply cz11)); exact HO464.out))) (Kd.R_lt (by (with_reducible repeat (first | apply az11 | apply bz11 | apply cz11)); exact HO471.out))) (Kd.R_lt (by (with_reducible repeat (first | apply az11 | apply bz11 | apply cz11)); exact HO479.out))) (below_size (by repeat (first | (with_reducible first | exact HB.out | apply by11 | apply ay11 | apply cy11 | refine dy11 ?_ GE442.out | refine dy11 ?_ GE443.out | refine dy11 ?_ GE465.out | refine dy11 ?_ GE472.out) | exact HB.out))))
            have n6_ := zz11 (hy11 (g := gb442) (o := .cells #[.int .i64 a0_0, .int .i64 a0_1, .int .i64 a0_2, .slice A0_3 l0_3.length c0_3] 55 (0, 0)) (by (with_reducible repeat (first | refine ey11 ?_ _ | refine gy11 ?_ | refine fy11 ?_ _)); exact BK442.out) hb)
            have n7_ := zz11 (hy11 (g := gb443) (o := .cells #[.int .i64 a1_0, .int .i64 a1_1, .int .i64 a1_2, .slice A1_3 l1_3.length c1_3] 55 (0, 0)) (by (with_reducible repeat (first | refine ey11 ?_ _ | refine gy11 ?_ | refine fy11 ?_ _)); exact BK443.out) hb)
            have n8_ := zz11 (hy11 (g := gb465) (o := .cells #[.int .i64 t459, .int .i64 t460, .int .i64 t461, .slice Ao119 t462.length co119] 58 (0, 0)) (by (with_reducible repeat (first | refine ey11 ?_ _ | refine gy11 ?_ | refine fy11 ?_ _)); exact BK465.out) hb)
            have n9_ := zz11 (hy11 (g := gb472) (o := .cells #[.int .i64 t466, .int .i64 t467, .int .i64 t468, .slice Ao127 t469.length co127] 58 (0, 0)) (by (with_reducible repeat (first | refine ey11 ?_ _ | refine gy11 ?_ | refine fy11 ?_ _)); exact BK472.out) hb)
            have n10_ := zz11 (below_step (by repeat (first | (with_reducible first | exact HB.out | apply by11 | apply ay11 | apply cy11 | refine dy11 ?_ GE442.out | refine dy11 ?_ GE443.out | refine dy11 ?_ GE465.out | refine dy11 ?_ GE472.out) | exact HB.out)) hb)
            clear HO451
            clear HO457
            clear HO464
            clear HO471
            clear HO479
            clear BK442
            clear BK443
            clear BK465
            clear BK472
            clear HB
            have HO451 := n0_
            have HO457 := n1_
            have HO464 := n2_
            have HO471 := n3_
            have HO479 := n4_
            have HO486 := n5_
            have BK442 := n6_
            have BK443 := n7_
            have BK465 := n8_
            have BK472 := n9_
            have HB := n10_
            clear n0_ n1_ n2_ n3_ n4_ n5_ n6_ n7_ n8_ n9_ n10_
            (try clear hb)
            (try clear hb2)
            (try clear hk)
            (try clear hi)
            (try clear ho0)
            obtain ⟨Ao136, co136, eo136⟩ := Kd.R_slice HO486.out
            (first | subst eo136 | (injection eo136 with f1_ f2_ f3_; have f4_ := f1_.symm; have f5_ := f3_.symm; clear f1_ f2_ f3_; subst f4_; subst f5_))
            refine hK.out _ _ ⟨(blk_cell BK472.out 0).trans rfl, (blk_cell BK472.out 1).trans rfl, (blk_cell BK472.out 2).trans rfl, (blk_cell BK472.out 3).trans rfl, (blk_cell BK443.out 0).trans rfl, (blk_cell BK443.out 1).trans rfl, (blk_cell BK443.out 2).trans rfl, (blk_cell BK443.out 3).trans rfl⟩ (fun hHeld => ?_)
            clear hK K
            refine norm_ (a' := ?_) ?_ ?_
            rotate_left
            · show Act.put _ (some 42) _ = _
              simp only [Act.put, List.setIfInBounds_toArray, List.set_cons_zero, List.set_cons_succ, i64_w, i32_w]
              rfl
            refine one_ (i := 3) (N := some 43) #[true, true, true, true, false] rfl rfl (by kernel_rfl) (by decide) (fun K hK => ?_)
            refine goes_ Try.func45 (by kernel_rfl) rfl #[.agg #[.int .i64 t466, .int .i64 t467, .int .i64 t468, .slice Ao127 t469.length co127], .agg #[.int .i64 t481, .int .i64 t482, .int .i64 t483, .slice Ao136 t484.length co136]] (by rfl) rfl rfl (by (try simp only [List.map_toArray, List.map_cons, List.map_nil]); first | done | rfl | (simp only [List.length_drop, List.length_take]; rfl)) ?_
            with_reducible refine (laws_eqLetter.calls k t466 t467 t468 _ _ t469 t481 t482 t483 _ _ t484 false _ ?side1 ?side2 ?side3 ?side4 A60.out).mono ?_
            (case side1 => repeat (first | exact (iz11 HO471.out).2.2 | (with_reducible refine Kd.C_alloc ?_ _) | (with_reducible refine Kd.C_drewN ?_ _) | (with_reducible refine Kd.C_drew ?_)))
            (case side2 => exact (iz11 HO471.out).2.1)
            (case side3 => repeat (first | exact (iz11 HO486.out).2.2 | (with_reducible refine Kd.C_alloc ?_ _) | (with_reducible refine Kd.C_drewN ?_ _) | (with_reducible refine Kd.C_drew ?_)))
            (case side4 => exact (iz11 HO486.out).2.1)
            rintro e w137 ⟨rfl, hb⟩
            refine ⟨_, rfl, ?_⟩
            have n0_ := zz11 (dz11 (by (with_reducible repeat (first | apply az11 | apply bz11 | apply cz11)); exact HO451.out) hb)
            have n1_ := zz11 (dz11 (by (with_reducible repeat (first | apply az11 | apply bz11 | apply cz11)); exact HO457.out) hb)
            have n2_ := zz11 (dz11 (by (with_reducible repeat (first | apply az11 | apply bz11 | apply cz11)); exact HO464.out) hb)
            have n3_ := zz11 (dz11 (by (with_reducible repeat (first | apply az11 | apply bz11 | apply cz11)); exact HO471.out) hb)
            have n4_ := zz11 (dz11 (by (with_reducible repeat (first | apply az11 | apply bz11 | apply cz11)); exact HO479.out) hb)
            have n5_ := zz11 (dz11 (by (with_reducible repeat (first | apply az11 | apply bz11 | apply cz11)); exact HO486.out) hb)
            have n6_ := zz11 (hy11 (g := gb442) (o := .cells #[.int .i64 a0_0, .int .i64 a0_1, .int .i64 a0_2, .slice A0_3 l0_3.length c0_3] 55 (0, 0)) (by (with_reducible repeat (first | refine ey11 ?_ _ | refine gy11 ?_ | refine fy11 ?_ _)); exact BK442.out) hb)
            have n7_ := zz11 (hy11 (g := gb443) (o := .cells #[.int .i64 a1_0, .int .i64 a1_1, .int .i64 a1_2, .slice A1_3 l1_3.length c1_3] 55 (0, 0)) (by (with_reducible repeat (first | refine ey11 ?_ _ | refine gy11 ?_ | refine fy11 ?_ _)); exact BK443.out) hb)
            have n8_ := zz11 (hy11 (g := gb465) (o := .cells #[.int .i64 t459, .int .i64 t460, .int .i64 t461, .slice Ao119 t462.length co119] 58 (0, 0)) (by (with_reducible repeat (first | refine ey11 ?_ _ | refine gy11 ?_ | refine fy11 ?_ _)); exact BK465.out) hb)
            have n9_ := zz11 (hy11 (g := gb472) (o := .cells #[.int .i64 t466, .int .i64 t467, .int .i64 t468, .slice Ao127 t469.length co127] 58 (0, 0)) (by (with_reducible repeat (first | refine ey11 ?_ _ | refine gy11 ?_ | refine fy11 ?_ _)); exact BK472.out) hb)
            have n10_ := zz11 (below_step (by repeat (first | (with_reducible first | exact HB.out | apply by11 | apply ay11 | apply cy11 | refine dy11 ?_ GE442.out | refine dy11 ?_ GE443.out | refine dy11 ?_ GE465.out | refine dy11 ?_ GE472.out) | exact HB.out)) hb)
            clear HO451
            clear HO457
            clear HO464
            clear HO471
            clear HO479
            clear HO486
            clear BK442
            clear BK443
            clear BK465
            clear BK472
            clear HB
            have HO451 := n0_
            have HO457 := n1_
            have HO464 := n2_
            have HO471 := n3_
            have HO479 := n4_
            have HO486 := n5_
            have BK442 := n6_
            have BK443 := n7_
            have BK465 := n8_
            have BK472 := n9_
            have HB := n10_
            clear n0_ n1_ n2_ n3_ n4_ n5_ n6_ n7_ n8_ n9_ n10_
            (try clear hb)
            (try clear hb2)
            (try clear hk)
            (try clear hi)
            refine hK.out _ _ ⟨(blk_cell BK472.out 0).trans rfl, (blk_cell BK472.out 1).trans rfl, (blk_cell BK472.out 2).trans rfl, (blk_cell BK472.out 3).trans rfl, (blk_cell BK443.out 0).trans rfl, (blk_cell BK443.out 1).trans rfl, (blk_cell BK443.out 2).trans rfl, (blk_cell BK443.out 3).trans rfl⟩ (fun hHeld => ?_)
            clear hK K
            refine norm_ (a' := ?_) ?_ ?_
            rotate_left
            · show Act.put _ (some 43) _ = _
              simp only [Act.put, List.setIfInBounds_toArray, List.set_cons_zero, List.set_cons_succ, i64_w, i32_w]
              rfl
            refine pure_ (i := 4) (N := some 44) (v := ?_) (a' := ?_) #[true, true, true, true, true] rfl rfl (by kernel_rfl) (fun _ _ _ h => h) (Or.inl ⟨by rfl, ?_⟩) ?_ ?_
            rotate_left
            · intro w'
              go_simp
              with_reducible rfl
            rotate_left
            · simp only [Act.put, List.setIfInBounds_toArray, List.set_cons_zero, List.set_cons_succ, i64_w, i32_w]
              rfl
            refine done_ (by kernel_rfl) ?_
            try go_wp2
            go_ret
            exact ⟨by first | rfl | (simp [errW_none, errW_some] <;> rfl) | (simp [*, errW_none, errW_some] <;> rfl), by repeat (first | (with_reducible first | exact HB.out | apply by11 | apply ay11 | apply cy11 | refine dy11 ?_ GE442.out | refine dy11 ?_ GE443.out | refine dy11 ?_ GE465.out | refine dy11 ?_ GE472.out) | exact HB.out)⟩
        · replace c58 := Bool.eq_false_iff.mpr c58
          subst c58
          have H1 : (some false) = some r := by rw [if_neg (show ¬ (false = true) by decide)] at H; exact H
          clear H
          have H := H1
          clear H1
          obtain rfl := Option.some.inj H
          go_enter Try.func11, Try.ntmps11
          try go_wp2_with (first | ((with_reducible refine gate_dst (N := 2) rfl ?_); refine box_event ?hg (N := 2) ?hd (cs := #[.int .i64 a0_0, .int .i64 a0_1, .int .i64 a0_2, .slice A0_3 l0_3.length c0_3]) (t := 55) ?hr ?_; (case hd => rfl); (case hg => rfl); (case hr => first | (go_simp; done) | (go_simp; rfl)); intro gb442 hg w138 hbox hb; have n0_ := zz11 (below_step (by repeat (first | (with_reducible first | exact HB.out | apply by11 | apply ay11 | apply cy11) | exact HB.out)) hb); have n1_ := zz11 (hbox); have n2_ := zz11 ((by rw [hg]; exact (below_size (by repeat (first | (with_reducible first | exact HB.out | apply by11 | apply ay11 | apply cy11) | exact HB.out))) : w.heap.size ≤ gb442)); have n3_ := zz11 ((by rw [hg]; exact (below_size (by repeat (first | (with_reducible first | exact HB.out | apply by11 | apply ay11 | apply cy11) | exact HB.out))) : w.heap.size ≤ gb442)); clear HB; have HB := n0_; have BK442 := n1_; have GW442 := n2_; have GE442 := n3_; clear n0_ n1_ n2_ n3_; clear hb hbox hg) | ((with_reducible refine gate_dst (N := 3) rfl ?_); refine box_event ?hg (N := 3) ?hd (cs := #[.int .i64 a1_0, .int .i64 a1_1, .int .i64 a1_2, .slice A1_3 l1_3.length c1_3]) (t := 55) ?hr ?_; (case hd => rfl); (case hg => rfl); (case hr => first | (go_simp; done) | (go_simp; rfl)); intro gb443 hg w139 hbox hb; have n0_ := zz11 (hy11 (g := gb442) (o := .cells #[.int .i64 a0_0, .int .i64 a0_1, .int .i64 a0_2, .slice A0_3 l0_3.length c0_3] 55 (0, 0)) (by (with_reducible repeat (first | refine ey11 ?_ _ | refine gy11 ?_ | refine fy11 ?_ _)); exact BK442.out) hb); have n1_ := zz11 (below_step (by repeat (first | (with_reducible first | exact HB.out | apply by11 | apply ay11 | apply cy11 | refine dy11 ?_ GE442.out) | exact HB.out)) hb); have n2_ := zz11 (hbox); have n3_ := zz11 ((by rw [hg]; exact (below_size (by repeat (first | (with_reducible first | exact HB.out | apply by11 | apply ay11 | apply cy11 | refine dy11 ?_ GE442.out) | exact HB.out))) : w.heap.size ≤ gb443)); have n4_ := zz11 ((by rw [hg]; exact (below_size (by repeat (first | (with_reducible first | exact HB.out | apply by11 | apply ay11 | apply cy11 | refine dy11 ?_ GE442.out) | exact HB.out))) : w.heap.size ≤ gb443)); have n5_ := zz11 ((by rw [hg]; exact Nat.ne_of_lt (blk_lt (g := gb442) (o := .cells #[.int .i64 a0_0, .int .i64 a0_1, .int .i64 a0_2, .slice A0_3 l0_3.length c0_3] 55 (0, 0)) (by (with_reducible repeat (first | refine ey11 ?_ _ | refine gy11 ?_ | refine fy11 ?_ _)); exact BK442.out)) : gb442 ≠ gb443)); have n6_ := zz11 ((by rw [hg]; exact Nat.ne_of_gt (blk_lt (g := gb442) (o := .cells #[.int .i64 a0_0, .int .i64 a0_1, .int .i64 a0_2, .slice A0_3 l0_3.length c0_3] 55 (0, 0)) (by (with_reducible repeat (first | refine ey11 ?_ _ | refine gy11 ?_ | refine fy11 ?_ _)); exact BK442.out)) : gb443 ≠ gb442)); clear BK442; clear HB; have BK442 := n0_; have HB := n1_; have BK443 := n2_; have GW443 := n3_; have GE443 := n4_; have NB442_443 := n5_; have NB443_442 := n6_; clear n0_ n1_ n2_ n3_ n4_ n5_ n6_; clear hb hbox hg; have hnb140 := NB442_443.out; have hnc140 := NB443_442.out; have hcz141_0 : w139.cell? ⟨gb442, 0, none⟩ = some (.int .i64 a0_0) := (blk_cell BK442.out 0).trans rfl; have hcz141_1 : w139.cell? ⟨gb442, 1, none⟩ = some (.int .i64 a0_1) := (blk_cell BK442.out 1).trans rfl; have hcz141_2 : w139.cell? ⟨gb442, 2, none⟩ = some (.int .i64 a0_2) := (blk_cell BK442.out 2).trans rfl; have hcz141_3 : w139.cell? ⟨gb442, 3, none⟩ = some (.slice A0_3 l0_3.length c0_3) := (blk_cell BK442.out 3).trans rfl; have hfz141_0 := blk_frozen BK442.out 0; have hfz141_1 := blk_frozen BK442.out 1; have hfz141_2 := blk_frozen BK442.out 2; have hfz141_3 := blk_frozen BK442.out 3) | ((with_reducible refine gate_callee (f := 41) rfl ?_); refine goesL_ (some 12) rfl rfl Try.func41 (by kernel_rfl) rfl #[.agg #[.int .i64 a0_0, .int .i64 a0_1, .int .i64 a0_2, .slice A0_3 l0_3.length c0_3], .int .i64 1048576] rfl (by (try simp only [List.map_toArray, List.map_cons, List.map_nil]); first | done | rfl | (simp only [List.length_drop, List.length_take]; rfl)) ?_; (with_reducible refine (laws_szLetter.calls a0_0 a0_1 a0_2 _ _ l0_3 1048576 t444 _ ?side1 ?side2 A3.out).mono ?_); (case side1 => repeat (first | exact (Kd.C_below HR0_3.out HB.out) | (with_reducible refine Kd.C_alloc ?_ _) | (with_reducible refine Kd.C_drewN ?_ _) | (with_reducible refine Kd.C_drew ?_))); (case side2 => exact HC0_3.out); rintro e w142 ⟨rfl, hb⟩; refine ⟨_, rfl, ?_⟩; have n0_ := zz11 (hy11 (g := gb442) (o := .cells #[.int .i64 a0_0, .int .i64 a0_1, .int .i64 a0_2, .slice A0_3 l0_3.length c0_3] 55 (0, 0)) (by (with_reducible repeat (first | refine ey11 ?_ _ | refine gy11 ?_ | refine fy11 ?_ _)); exact BK442.out) hb); have n1_ := zz11 (hy11 (g := gb443) (o := .cells #[.int .i64 a1_0, .int .i64 a1_1, .int .i64 a1_2, .slice A1_3 l1_3.length c1_3] 55 (0, 0)) (by (with_reducible repeat (first | refine ey11 ?_ _ | refine gy11 ?_ | refine fy11 ?_ _)); exact BK443.out) hb); have n2_ := zz11 (below_step (by repeat (first | (with_reducible first | exact HB.out | apply by11 | apply ay11 | apply cy11 | refine dy11 ?_ GE442.out | refine dy11 ?_ GE443.out) | exact HB.out)) hb); clear BK442; clear BK443; clear HB; have BK442 := n0_; have BK443 := n1_; have HB := n2_; clear n0_ n1_ n2_; (try clear hb); (try clear hb2); (try clear hk); (try clear hi); have hcz143_0 : w142.cell? ⟨gb443, 0, none⟩ = some (.int .i64 a1_0) := (blk_cell BK443.out 0).trans rfl; have hcz143_1 : w142.cell? ⟨gb443, 1, none⟩ = some (.int .i64 a1_1) := (blk_cell BK443.out 1).trans rfl; have hcz143_2 : w142.cell? ⟨gb443, 2, none⟩ = some (.int .i64 a1_2) := (blk_cell BK443.out 2).trans rfl; have hcz143_3 : w142.cell? ⟨gb443, 3, none⟩ = some (.slice A1_3 l1_3.length c1_3) := (blk_cell BK443.out 3).trans rfl; have hfz143_0 := blk_frozen BK443.out 0; have hfz143_1 := blk_frozen BK443.out 1; have hfz143_2 := blk_frozen BK443.out 2; have hfz143_3 := blk_frozen BK443.out 3) | ((with_reducible refine gate_callee (f := 41) rfl ?_); refine goesL_ (some 17) rfl rfl Try.func41 (by kernel_rfl) rfl #[.agg #[.int .i64 a1_0, .int .i64 a1_1, .int .i64 a1_2, .slice A1_3 l1_3.length c1_3], .int .i64 t444] rfl (by (try simp only [List.map_toArray, List.map_cons, List.map_nil]); first | done | rfl | (simp only [List.length_drop, List.length_take]; rfl)) ?_; (with_reducible refine (laws_szLetter.calls a1_0 a1_1 a1_2 _ _ l1_3 t444 t445 _ ?side1 ?side2 A10.out).mono ?_); (case side1 => repeat (first | exact (Kd.C_below HR1_3.out HB.out) | (with_reducible refine Kd.C_alloc ?_ _) | (with_reducible refine Kd.C_drewN ?_ _) | (with_reducible refine Kd.C_drew ?_))); (case side2 => exact HC1_3.out); rintro e w144 ⟨rfl, hb⟩; refine ⟨_, rfl, ?_⟩; have n0_ := zz11 (hy11 (g := gb442) (o := .cells #[.int .i64 a0_0, .int .i64 a0_1, .int .i64 a0_2, .slice A0_3 l0_3.length c0_3] 55 (0, 0)) (by (with_reducible repeat (first | refine ey11 ?_ _ | refine gy11 ?_ | refine fy11 ?_ _)); exact BK442.out) hb); have n1_ := zz11 (hy11 (g := gb443) (o := .cells #[.int .i64 a1_0, .int .i64 a1_1, .int .i64 a1_2, .slice A1_3 l1_3.length c1_3] 55 (0, 0)) (by (with_reducible repeat (first | refine ey11 ?_ _ | refine gy11 ?_ | refine fy11 ?_ _)); exact BK443.out) hb); have n2_ := zz11 (below_step (by repeat (first | (with_reducible first | exact HB.out | apply by11 | apply ay11 | apply cy11 | refine dy11 ?_ GE442.out | refine dy11 ?_ GE443.out) | exact HB.out)) hb); clear BK442; clear BK443; clear HB; have BK442 := n0_; have BK443 := n1_; have HB := n2_; clear n0_ n1_ n2_; (try clear hb); (try clear hb2); (try clear hk); (try clear hi)))
          have n0_ := zz11 (gy11 BK442.out)
          have n1_ := zz11 (gy11 BK443.out)
          have n2_ := zz11 (cy11 HB.out)
          clear BK442
          clear BK443
          clear HB
          have BK442 := n0_
          have BK443 := n1_
          have HB := n2_
          clear n0_ n1_ n2_
          refine start_ (n := 6) (S := fun w' => w'.cell? ⟨gb442, 0, none⟩ = some (.int .i64 a0_0) ∧ w'.cell? ⟨gb442, 1, none⟩ = some (.int .i64 a0_1) ∧ w'.cell? ⟨gb442, 2, none⟩ = some (.int .i64 a0_2) ∧ w'.cell? ⟨gb442, 3, none⟩ = some (.slice A0_3 l0_3.length c0_3) ∧ w'.cell? ⟨gb443, 0, none⟩ = some (.int .i64 a1_0) ∧ w'.cell? ⟨gb443, 1, none⟩ = some (.int .i64 a1_1) ∧ w'.cell? ⟨gb443, 2, none⟩ = some (.int .i64 a1_2) ∧ w'.cell? ⟨gb443, 3, none⟩ = some (.slice A1_3 l1_3.length c1_3)) (ds := []) #[false, false, false, false, false, false] (by kernel_rfl) rfl rfl ⟨(blk_cell BK442.out 0).trans rfl, (blk_cell BK442.out 1).trans rfl, (blk_cell BK442.out 2).trans rfl, (blk_cell BK442.out 3).trans rfl, (blk_cell BK443.out 0).trans rfl, (blk_cell BK443.out 1).trans rfl, (blk_cell BK443.out 2).trans rfl, (blk_cell BK443.out 3).trans rfl⟩ (fun hHeld => ?_)
          generalize w144.drew = w145 at BK442 BK443 HB hHeld ⊢
          refine take_ (i := 0) (N := some 20) (v := ?_) (a' := ?_) #[true, false, false, false, false, false] rfl rfl (by kernel_rfl) (fun _ _ _ h => h) (Or.inl ⟨by rfl, ?_⟩) hHeld ?_ ?_
          rotate_left
          · rintro w' ⟨s0, s1, s2, s3, s4, s5, s6, s7⟩
            go_simp
            with_reducible rfl
          rotate_left
          · simp only [Act.put, List.setIfInBounds_toArray, List.set_cons_zero, List.set_cons_succ, i64_w, i32_w]
            rfl
          refine take_ (i := 2) (N := some 22) (v := ?_) (a' := ?_) #[true, false, true, false, false, false] rfl rfl (by kernel_rfl) (fun _ _ _ h => h) (Or.inl ⟨by rfl, ?_⟩) hHeld ?_ ?_
          rotate_left
          · rintro w' ⟨s0, s1, s2, s3, s4, s5, s6, s7⟩
            go_simp
            with_reducible rfl
          rotate_left
          · simp only [Act.put, List.setIfInBounds_toArray, List.set_cons_zero, List.set_cons_succ, i64_w, i32_w]
            rfl
          refine one_ (i := 1) (N := some 21) #[true, true, true, false, false, false] rfl rfl (by kernel_rfl) (by decide) (fun K hK => ?_)
          refine goes_ Try.func43 (by kernel_rfl) rfl #[.agg #[.int .i64 a0_0, .int .i64 a0_1, .int .i64 a0_2, .slice A0_3 l0_3.length c0_3]] (by rfl) rfl rfl (by (try simp only [List.map_toArray, List.map_cons, List.map_nil]); first | done | rfl | (simp only [List.length_drop, List.length_take]; rfl)) ?_
          with_reducible refine (laws_toLetter.calls k a0_0 a0_1 a0_2 _ _ l0_3 t446 t447 t448 t449 _ ?side1 ?side2 A19.out).mono ?_
          (case side1 => repeat (first | exact (Kd.C_below HR0_3.out HB.out) | (with_reducible refine Kd.C_alloc ?_ _) | (with_reducible refine Kd.C_drewN ?_ _) | (with_reducible refine Kd.C_drew ?_)))
          (case side2 => exact HC0_3.out)
          rintro e w146 ⟨v450, rfl, ho0, hb⟩
          refine ⟨_, rfl, ?_⟩
          have n0_ := zz11 (Kd.R_lower ho0 (below_size (by repeat (first | (with_reducible first | exact HB.out | apply by11 | apply ay11 | apply cy11 | refine dy11 ?_ GE442.out | refine dy11 ?_ GE443.out) | exact HB.out))))
          have n1_ := zz11 (hy11 (g := gb442) (o := .cells #[.int .i64 a0_0, .int .i64 a0_1, .int .i64 a0_2, .slice A0_3 l0_3.length c0_3] 55 (0, 0)) (by (with_reducible repeat (first | refine ey11 ?_ _ | refine gy11 ?_ | refine fy11 ?_ _)); exact BK442.out) hb)
          have n2_ := zz11 (hy11 (g := gb443) (o := .cells #[.int .i64 a1_0, .int .i64 a1_1, .int .i64 a1_2, .slice A1_3 l1_3.length c1_3] 55 (0, 0)) (by (with_reducible repeat (first | refine ey11 ?_ _ | refine gy11 ?_ | refine fy11 ?_ _)); exact BK443.out) hb)
          have n3_ := zz11 (below_step (by repeat (first | (with_reducible first | exact HB.out | apply by11 | apply ay11 | apply cy11 | refine dy11 ?_ GE442.out | refine dy11 ?_ GE443.out) | exact HB.out)) hb)
          clear BK442
          clear BK443
          clear HB
          have HO451 := n0_
          have BK442 := n1_
          have BK443 := n2_
          have HB := n3_
          clear n0_ n1_ n2_ n3_
          (try clear hb)
          (try clear hb2)
          (try clear hk)
          (try clear hi)
          (try clear ho0)
          refine hK.out _ _ ⟨(blk_cell BK442.out 0).trans rfl, (blk_cell BK442.out 1).trans rfl, (blk_cell BK442.out 2).trans rfl, (blk_cell BK442.out 3).trans rfl, (blk_cell BK443.out 0).trans rfl, (blk_cell BK443.out 1).trans rfl, (blk_cell BK443.out 2).trans rfl, (blk_cell BK443.out 3).trans rfl⟩ (fun hHeld => ?_)
          clear hK K
          refine norm_ (a' := ?_) ?_ ?_
          rotate_left
          · show Act.put _ (some 21) _ = _
            simp only [Act.put, List.setIfInBounds_toArray, List.set_cons_zero, List.set_cons_succ, i64_w, i32_w]
            rfl
          refine one_ (i := 3) (N := some 23) #[true, true, true, true, false, false] rfl rfl (by kernel_rfl) (by decide) (fun K hK => ?_)
          refine goes_ Try.func43 (by kernel_rfl) rfl #[.agg #[.int .i64 a1_0, .int .i64 a1_1, .int .i64 a1_2, .slice A1_3 l1_3.length c1_3]] (by rfl) rfl rfl (by (try simp only [List.map_toArray, List.map_cons, List.map_nil]); first | done | rfl | (simp only [List.length_drop, List.length_take]; rfl)) ?_
          with_reducible refine (laws_toLetter.calls k a1_0 a1_1 a1_2 _ _ l1_3 t452 t453 t454 t455 _ ?side1 ?side2 A20.out).mono ?_
          (case side1 => repeat (first | exact (Kd.C_below HR1_3.out HB.out) | (with_reducible refine Kd.C_alloc ?_ _) | (with_reducible refine Kd.C_drewN ?_ _) | (with_reducible refine Kd.C_drew ?_)))
          (case side2 => exact HC1_3.out)
          rintro e w147 ⟨v456, rfl, ho0, hb⟩
          refine ⟨_, rfl, ?_⟩
          have n0_ := zz11 (jz11 (by (with_reducible repeat (first | apply az11 | apply bz11 | apply cz11)); exact HO451.out) (fz11 ho0) hb)
          have n1_ := zz11 (Kd.R_lower (kz11 ho0 (Kd.R_lt (by (with_reducible repeat (first | apply az11 | apply bz11 | apply cz11)); exact HO451.out))) (below_size (by repeat (first | (with_reducible first | exact HB.out | apply by11 | apply ay11 | apply cy11 | refine dy11 ?_ GE442.out | refine dy11 ?_ GE443.out) | exact HB.out))))
          have n2_ := zz11 (hy11 (g := gb442) (o := .cells #[.int .i64 a0_0, .int .i64 a0_1, .int .i64 a0_2, .slice A0_3 l0_3.length c0_3] 55 (0, 0)) (by (with_reducible repeat (first | refine ey11 ?_ _ | refine gy11 ?_ | refine fy11 ?_ _)); exact BK442.out) hb)
          have n3_ := zz11 (hy11 (g := gb443) (o := .cells #[.int .i64 a1_0, .int .i64 a1_1, .int .i64 a1_2, .slice A1_3 l1_3.length c1_3] 55 (0, 0)) (by (with_reducible repeat (first | refine ey11 ?_ _ | refine gy11 ?_ | refine fy11 ?_ _)); exact BK443.out) hb)
          have n4_ := zz11 (below_step (by repeat (first | (with_reducible first | exact HB.out | apply by11 | apply ay11 | apply cy11 | refine dy11 ?_ GE442.out | refine dy11 ?_ GE443.out) | exact HB.out)) hb)
          clear HO451
          clear BK442
          clear BK443
          clear HB
          have HO451 := n0_
          have HO457 := n1_
          have BK442 := n2_
          have BK443 := n3_
          have HB := n4_
          clear n0_ n1_ n2_ n3_ n4_
          (try clear hb)
          (try clear hb2)
          (try clear hk)
          (try clear hi)
          (try clear ho0)
          obtain ⟨Ao148, co148, eo148⟩ := Kd.R_slice HO451.out
          (first | subst eo148 | (injection eo148 with f1_ f2_ f3_; have f4_ := f1_.symm; have f5_ := f3_.symm; clear f1_ f2_ f3_; subst f4_; subst f5_))
          obtain ⟨Ao149, co149, eo149⟩ := Kd.R_slice HO457.out
          (first | subst eo149 | (injection eo149 with f1_ f2_ f3_; have f4_ := f1_.symm; have f5_ := f3_.symm; clear f1_ f2_ f3_; subst f4_; subst f5_))
          refine hK.out _ _ ⟨(blk_cell BK442.out 0).trans rfl, (blk_cell BK442.out 1).trans rfl, (blk_cell BK442.out 2).trans rfl, (blk_cell BK442.out 3).trans rfl, (blk_cell BK443.out 0).trans rfl, (blk_cell BK443.out 1).trans rfl, (blk_cell BK443.out 2).trans rfl, (blk_cell BK443.out 3).trans rfl⟩ (fun hHeld => ?_)
          clear hK K
          refine norm_ (a' := ?_) ?_ ?_
          rotate_left
          · show Act.put _ (some 23) _ = _
            simp only [Act.put, List.setIfInBounds_toArray, List.set_cons_zero, List.set_cons_succ, i64_w, i32_w]
            rfl
          refine one_ (i := 4) (N := some 24) #[true, true, true, true, true, false] rfl rfl (by kernel_rfl) (by decide) (fun K hK => ?_)
          refine goes_ Try.func42 (by kernel_rfl) rfl #[.agg #[.int .i64 t446, .int .i64 t447, .int .i64 t448, .slice Ao148 t449.length co148], .agg #[.int .i64 t452, .int .i64 t453, .int .i64 t454, .slice Ao149 t455.length co149]] (by rfl) rfl rfl (by (try simp only [List.map_toArray, List.map_cons, List.map_nil]); first | done | rfl | (simp only [List.length_drop, List.length_take]; rfl)) ?_
          with_reducible refine (spec_SameLetters.calls t446 t447 t448 _ _ t449 t452 t453 t454 _ _ t455 t458 _ ?side1 ?side2 ?side3 ?side4 A21.out).mono ?_
          (case side1 => repeat (first | exact (iz11 HO451.out).2.2 | (with_reducible refine Kd.C_alloc ?_ _) | (with_reducible refine Kd.C_drewN ?_ _) | (with_reducible refine Kd.C_drew ?_)))
          (case side2 => exact (iz11 HO451.out).2.1)
          (case side3 => repeat (first | exact (iz11 HO457.out).2.2 | (with_reducible refine Kd.C_alloc ?_ _) | (with_reducible refine Kd.C_drewN ?_ _) | (with_reducible refine Kd.C_drew ?_)))
          (case side4 => exact (iz11 HO457.out).2.1)
          rintro e w150 ⟨rfl, hb⟩
          refine ⟨_, rfl, ?_⟩
          have n0_ := zz11 (dz11 (by (with_reducible repeat (first | apply az11 | apply bz11 | apply cz11)); exact HO451.out) hb)
          have n1_ := zz11 (dz11 (by (with_reducible repeat (first | apply az11 | apply bz11 | apply cz11)); exact HO457.out) hb)
          have n2_ := zz11 (hy11 (g := gb442) (o := .cells #[.int .i64 a0_0, .int .i64 a0_1, .int .i64 a0_2, .slice A0_3 l0_3.length c0_3] 55 (0, 0)) (by (with_reducible repeat (first | refine ey11 ?_ _ | refine gy11 ?_ | refine fy11 ?_ _)); exact BK442.out) hb)
          have n3_ := zz11 (hy11 (g := gb443) (o := .cells #[.int .i64 a1_0, .int .i64 a1_1, .int .i64 a1_2, .slice A1_3 l1_3.length c1_3] 55 (0, 0)) (by (with_reducible repeat (first | refine ey11 ?_ _ | refine gy11 ?_ | refine fy11 ?_ _)); exact BK443.out) hb)
          have n4_ := zz11 (below_step (by repeat (first | (with_reducible first | exact HB.out | apply by11 | apply ay11 | apply cy11 | refine dy11 ?_ GE442.out | refine dy11 ?_ GE443.out) | exact HB.out)) hb)
          clear HO451
          clear HO457
          clear BK442
          clear BK443
          clear HB
          have HO451 := n0_
          have HO457 := n1_
          have BK442 := n2_
          have BK443 := n3_
          have HB := n4_
          clear n0_ n1_ n2_ n3_ n4_
          (try clear hb)
          (try clear hb2)
          (try clear hk)
          (try clear hi)
          refine hK.out _ _ ⟨(blk_cell BK442.out 0).trans rfl, (blk_cell BK442.out 1).trans rfl, (blk_cell BK442.out 2).trans rfl, (blk_cell BK442.out 3).trans rfl, (blk_cell BK443.out 0).trans rfl, (blk_cell BK443.out 1).trans rfl, (blk_cell BK443.out 2).trans rfl, (blk_cell BK443.out 3).trans rfl⟩ (fun hHeld => ?_)
          clear hK K
          refine norm_ (a' := ?_) ?_ ?_
          rotate_left
          · show Act.put _ (some 24) _ = _
            simp only [Act.put, List.setIfInBounds_toArray, List.set_cons_zero, List.set_cons_succ, i64_w, i32_w]
            rfl
          refine pure_ (i := 5) (N := some 6) (v := ?_) (a' := ?_) #[true, true, true, true, true, true] rfl rfl (by kernel_rfl) (fun _ _ _ h => h) (Or.inl ⟨by rfl, ?_⟩) ?_ ?_
          rotate_left
          · intro w'
            go_simp
            with_reducible rfl
          rotate_left
          · simp only [Act.put, List.setIfInBounds_toArray, List.set_cons_zero, List.set_cons_succ, i64_w, i32_w]
            rfl
          refine done_ (by kernel_rfl) ?_
          have hcz151_0 : w150.cell? ⟨gb442, 0, none⟩ = some (.int .i64 a0_0) := (blk_cell BK442.out 0).trans rfl
          have hcz151_1 : w150.cell? ⟨gb442, 1, none⟩ = some (.int .i64 a0_1) := (blk_cell BK442.out 1).trans rfl
          have hcz151_2 : w150.cell? ⟨gb442, 2, none⟩ = some (.int .i64 a0_2) := (blk_cell BK442.out 2).trans rfl
          have hcz151_3 : w150.cell? ⟨gb442, 3, none⟩ = some (.slice A0_3 l0_3.length c0_3) := (blk_cell BK442.out 3).trans rfl
          have hfz151_0 := blk_frozen BK442.out 0
          have hfz151_1 := blk_frozen BK442.out 1
          have hfz151_2 := blk_frozen BK442.out 2
          have hfz151_3 := blk_frozen BK442.out 3
          try go_wp2_with (first | ((with_reducible refine gate_callee (f := 43) rfl ?_); refine goesL_ (some 26) rfl rfl Try.func43 (by kernel_rfl) rfl #[.agg #[.int .i64 a0_0, .int .i64 a0_1, .int .i64 a0_2, .slice A0_3 l0_3.length c0_3]] rfl (by (try simp only [List.map_toArray, List.map_cons, List.map_nil]); first | done | rfl | (simp only [List.length_drop, List.length_take]; rfl)) ?_; (with_reducible refine (laws_toLetter.calls k a0_0 a0_1 a0_2 _ _ l0_3 t459 t460 t461 t462 _ ?side1 ?side2 A22.out).mono ?_); (case side1 => repeat (first | exact (Kd.C_below HR0_3.out HB.out) | (with_reducible refine Kd.C_alloc ?_ _) | (with_reducible refine Kd.C_drewN ?_ _) | (with_reducible refine Kd.C_drew ?_))); (case side2 => exact HC0_3.out); rintro e w152 ⟨v463, rfl, ho0, hb⟩; refine ⟨_, rfl, ?_⟩; have n0_ := zz11 (jz11 (by (with_reducible repeat (first | apply az11 | apply bz11 | apply cz11)); exact HO451.out) (fz11 ho0) hb); have n1_ := zz11 (jz11 (by (with_reducible repeat (first | apply az11 | apply bz11 | apply cz11)); exact HO457.out) (fz11 ho0) hb); have n2_ := zz11 (Kd.R_lower (kz11 (kz11 ho0 (Kd.R_lt (by (with_reducible repeat (first | apply az11 | apply bz11 | apply cz11)); exact HO451.out))) (Kd.R_lt (by (with_reducible repeat (first | apply az11 | apply bz11 | apply cz11)); exact HO457.out))) (below_size (by repeat (first | (with_reducible first | exact HB.out | apply by11 | apply ay11 | apply cy11 | refine dy11 ?_ GE442.out | refine dy11 ?_ GE443.out) | exact HB.out)))); have n3_ := zz11 (hy11 (g := gb442) (o := .cells #[.int .i64 a0_0, .int .i64 a0_1, .int .i64 a0_2, .slice A0_3 l0_3.length c0_3] 55 (0, 0)) (by (with_reducible repeat (first | refine ey11 ?_ _ | refine gy11 ?_ | refine fy11 ?_ _)); exact BK442.out) hb); have n4_ := zz11 (hy11 (g := gb443) (o := .cells #[.int .i64 a1_0, .int .i64 a1_1, .int .i64 a1_2, .slice A1_3 l1_3.length c1_3] 55 (0, 0)) (by (with_reducible repeat (first | refine ey11 ?_ _ | refine gy11 ?_ | refine fy11 ?_ _)); exact BK443.out) hb); have n5_ := zz11 (below_step (by repeat (first | (with_reducible first | exact HB.out | apply by11 | apply ay11 | apply cy11 | refine dy11 ?_ GE442.out | refine dy11 ?_ GE443.out) | exact HB.out)) hb); clear HO451; clear HO457; clear BK442; clear BK443; clear HB; have HO451 := n0_; have HO457 := n1_; have HO464 := n2_; have BK442 := n3_; have BK443 := n4_; have HB := n5_; clear n0_ n1_ n2_ n3_ n4_ n5_; (try clear hb); (try clear hb2); (try clear hk); (try clear hi); (try clear ho0)) | ((with_reducible refine gate_dst (N := 7) rfl ?_); refine box_event ?hg (N := 7) ?hd (cs := #[.int .i64 0, .int .i64 0, .int .i64 0, .slice none 0 0]) (t := 58) ?hr ?_; (case hd => rfl); (case hg => rfl); (case hr => first | (go_simp; done) | (go_simp; rfl)); intro gb465 hg w153 hbox hb; have n0_ := zz11 (dz11 (by (with_reducible repeat (first | apply az11 | apply bz11 | apply cz11)); exact HO451.out) hb); have n1_ := zz11 (dz11 (by (with_reducible repeat (first | apply az11 | apply bz11 | apply cz11)); exact HO457.out) hb); have n2_ := zz11 (dz11 (by (with_reducible repeat (first | apply az11 | apply bz11 | apply cz11)); exact HO464.out) hb); have n3_ := zz11 (hy11 (g := gb442) (o := .cells #[.int .i64 a0_0, .int .i64 a0_1, .int .i64 a0_2, .slice A0_3 l0_3.length c0_3] 55 (0, 0)) (by (with_reducible repeat (first | refine ey11 ?_ _ | refine gy11 ?_ | refine fy11 ?_ _)); exact BK442.out) hb); have n4_ := zz11 (hy11 (g := gb443) (o := .cells #[.int .i64 a1_0, .int .i64 a1_1, .int .i64 a1_2, .slice A1_3 l1_3.length c1_3] 55 (0, 0)) (by (with_reducible repeat (first | refine ey11 ?_ _ | refine gy11 ?_ | refine fy11 ?_ _)); exact BK443.out) hb); have n5_ := zz11 (below_step (by repeat (first | (with_reducible first | exact HB.out | apply by11 | apply ay11 | apply cy11 | refine dy11 ?_ GE442.out | refine dy11 ?_ GE443.out) | exact HB.out)) hb); have n6_ := zz11 (hbox); have n7_ := zz11 ((by rw [hg]; exact (below_size (by repeat (first | (with_reducible first | exact HB.out | apply by11 | apply ay11 | apply cy11 | refine dy11 ?_ GE442.out | refine dy11 ?_ GE443.out) | exact HB.out))) : w.heap.size ≤ gb465)); have n8_ := zz11 ((by rw [hg]; exact (below_size (by repeat (first | (with_reducible first | exact HB.out | apply by11 | apply ay11 | apply cy11 | refine dy11 ?_ GE442.out | refine dy11 ?_ GE443.out) | exact HB.out))) : w.heap.size ≤ gb465)); have n9_ := zz11 ((by rw [hg]; exact Nat.ne_of_lt (blk_lt (g := gb442) (o := .cells #[.int .i64 a0_0, .int .i64 a0_1, .int .i64 a0_2, .slice A0_3 l0_3.length c0_3] 55 (0, 0)) (by (with_reducible repeat (first | refine ey11 ?_ _ | refine gy11 ?_ | refine fy11 ?_ _)); exact BK442.out)) : gb442 ≠ gb465)); have n10_ := zz11 ((by rw [hg]; exact Nat.ne_of_gt (blk_lt (g := gb442) (o := .cells #[.int .i64 a0_0, .int .i64 a0_1, .int .i64 a0_2, .slice A0_3 l0_3.length c0_3] 55 (0, 0)) (by (with_reducible repeat (first | refine ey11 ?_ _ | refine gy11 ?_ | refine fy11 ?_ _)); exact BK442.out)) : gb465 ≠ gb442)); have n11_ := zz11 ((by rw [hg]; exact Nat.ne_of_lt (blk_lt (g := gb443) (o := .cells #[.int .i64 a1_0, .int .i64 a1_1, .int .i64 a1_2, .slice A1_3 l1_3.length c1_3] 55 (0, 0)) (by (with_reducible repeat (first | refine ey11 ?_ _ | refine gy11 ?_ | refine fy11 ?_ _)); exact BK443.out)) : gb443 ≠ gb465)); have n12_ := zz11 ((by rw [hg]; exact Nat.ne_of_gt (blk_lt (g := gb443) (o := .cells #[.int .i64 a1_0, .int .i64 a1_1, .int .i64 a1_2, .slice A1_3 l1_3.length c1_3] 55 (0, 0)) (by (with_reducible repeat (first | refine ey11 ?_ _ | refine gy11 ?_ | refine fy11 ?_ _)); exact BK443.out)) : gb465 ≠ gb443)); clear HO451; clear HO457; clear HO464; clear BK442; clear BK443; clear HB; have HO451 := n0_; have HO457 := n1_; have HO464 := n2_; have BK442 := n3_; have BK443 := n4_; have HB := n5_; have BK465 := n6_; have GW465 := n7_; have GE465 := n8_; have NB442_465 := n9_; have NB465_442 := n10_; have NB443_465 := n11_; have NB465_443 := n12_; clear n0_ n1_ n2_ n3_ n4_ n5_ n6_ n7_ n8_ n9_ n10_ n11_ n12_; clear hb hbox hg; have hnb154 := NB465_442.out; have hnc154 := NB442_465.out; have hnb155 := NB465_443.out; have hnc155 := NB443_465.out; have hcz156_0 : w153.cell? ⟨gb465, 0, none⟩ = some (.int .i64 0) := (blk_cell BK465.out 0).trans rfl; have hcz156_1 : w153.cell? ⟨gb465, 1, none⟩ = some (.int .i64 0) := (blk_cell BK465.out 1).trans rfl; have hcz156_2 : w153.cell? ⟨gb465, 2, none⟩ = some (.int .i64 0) := (blk_cell BK465.out 2).trans rfl; have hcz156_3 : w153.cell? ⟨gb465, 3, none⟩ = some (.slice none 0 0) := (blk_cell BK465.out 3).trans rfl; have hfz156_0 := blk_frozen BK465.out 0; have hfz156_1 := blk_frozen BK465.out 1; have hfz156_2 := blk_frozen BK465.out 2; have hfz156_3 := blk_frozen BK465.out 3; obtain ⟨Ao157, co157, eo157⟩ := Kd.R_slice HO464.out; subst eo157; have hcz158_0 : w153.cell? ⟨gb443, 0, none⟩ = some (.int .i64 a1_0) := (blk_cell BK443.out 0).trans rfl; have hcz158_1 : w153.cell? ⟨gb443, 1, none⟩ = some (.int .i64 a1_1) := (blk_cell BK443.out 1).trans rfl; have hcz158_2 : w153.cell? ⟨gb443, 2, none⟩ = some (.int .i64 a1_2) := (blk_cell BK443.out 2).trans rfl; have hcz158_3 : w153.cell? ⟨gb443, 3, none⟩ = some (.slice A1_3 l1_3.length c1_3) := (blk_cell BK443.out 3).trans rfl; have hfz158_0 := blk_frozen BK443.out 0; have hfz158_1 := blk_frozen BK443.out 1; have hfz158_2 := blk_frozen BK443.out 2; have hfz158_3 := blk_frozen BK443.out 3) | ((with_reducible refine gate_callee (f := 43) rfl ?_); refine goesL_ (some 28) rfl rfl Try.func43 (by kernel_rfl) rfl #[.agg #[.int .i64 a1_0, .int .i64 a1_1, .int .i64 a1_2, .slice A1_3 l1_3.length c1_3]] rfl (by (try simp only [List.map_toArray, List.map_cons, List.map_nil]); first | done | rfl | (simp only [List.length_drop, List.length_take]; rfl)) ?_; (with_reducible refine (laws_toLetter.calls k a1_0 a1_1 a1_2 _ _ l1_3 t466 t467 t468 t469 _ ?side1 ?side2 A23.out).mono ?_); (case side1 => exact Kd.C_below HR1_3.out (by repeat (first | (with_reducible first | exact HB.out | apply by11 | apply ay11 | apply cy11 | refine dy11 ?_ GE442.out | refine dy11 ?_ GE443.out | refine dy11 ?_ GE465.out) | exact HB.out))); (case side2 => exact HC1_3.out); rintro e w159 ⟨v470, rfl, ho0, hb⟩; refine ⟨_, rfl, ?_⟩; have n0_ := zz11 (jz11 (by (with_reducible repeat (first | apply az11 | apply bz11 | apply cz11)); exact (gz11 (ez11 (p := ⟨gb465, 3, none⟩) (ez11 (p := ⟨gb465, 2, none⟩) (ez11 (p := ⟨gb465, 1, none⟩) (ez11 (p := ⟨gb465, 0, none⟩) (hz11 HO451.out BK465.out (by decide)) (fun _ hk => hk.2) (.int .i64 t459)) (fun _ hk => hk.2) (.int .i64 t460)) (fun _ hk => hk.2) (.int .i64 t461)) (fun _ hk => hk.2) (.slice Ao157 t462.length co157)) (fun _ h_ => h_.1))) (fz11 ho0) hb); have n1_ := zz11 (jz11 (by (with_reducible repeat (first | apply az11 | apply bz11 | apply cz11)); exact (gz11 (ez11 (p := ⟨gb465, 3, none⟩) (ez11 (p := ⟨gb465, 2, none⟩) (ez11 (p := ⟨gb465, 1, none⟩) (ez11 (p := ⟨gb465, 0, none⟩) (hz11 HO457.out BK465.out (by decide)) (fun _ hk => hk.2) (.int .i64 t459)) (fun _ hk => hk.2) (.int .i64 t460)) (fun _ hk => hk.2) (.int .i64 t461)) (fun _ hk => hk.2) (.slice Ao157 t462.length co157)) (fun _ h_ => h_.1))) (fz11 ho0) hb); have n2_ := zz11 (jz11 (by (with_reducible repeat (first | apply az11 | apply bz11 | apply cz11)); exact (gz11 (ez11 (p := ⟨gb465, 3, none⟩) (ez11 (p := ⟨gb465, 2, none⟩) (ez11 (p := ⟨gb465, 1, none⟩) (ez11 (p := ⟨gb465, 0, none⟩) (hz11 HO464.out BK465.out (by decide)) (fun _ hk => hk.2) (.int .i64 t459)) (fun _ hk => hk.2) (.int .i64 t460)) (fun _ hk => hk.2) (.int .i64 t461)) (fun _ hk => hk.2) (.slice Ao157 t462.length co157)) (fun _ h_ => h_.1))) (fz11 ho0) hb); have n3_ := zz11 (Kd.R_lower (kz11 (kz11 (kz11 ho0 (Kd.R_lt (by (with_reducible repeat (first | apply az11 | apply bz11 | apply cz11)); exact (gz11 (ez11 (p := ⟨gb465, 3, none⟩) (ez11 (p := ⟨gb465, 2, none⟩) (ez11 (p := ⟨gb465, 1, none⟩) (ez11 (p := ⟨gb465, 0, none⟩) (hz11 HO451.out BK465.out (by decide)) (fun _ hk => hk.2) (.int .i64 t459)) (fun _ hk => hk.2) (.int .i64 t460)) (fun _ hk => hk.2) (.int .i64 t461)) (fun _ hk => hk.2) (.slice Ao157 t462.length co157)) (fun _ h_ => h_.1))))) (Kd.R_lt (by (with_reducible repeat (first | apply az11 | apply bz11 | apply cz11)); exact (gz11 (ez11 (p := ⟨gb465, 3, none⟩) (ez11 (p := ⟨gb465, 2, none⟩) (ez11 (p := ⟨gb465, 1, none⟩) (ez11 (p := ⟨gb465, 0, none⟩) (hz11 HO457.out BK465.out (by decide)) (fun _ hk => hk.2) (.int .i64 t459)) (fun _ hk => hk.2) (.int .i64 t460)) (fun _ hk => hk.2) (.int .i64 t461)) (fun _ hk => hk.2) (.slice Ao157 t462.length co157)) (fun _ h_ => h_.1))))) (Kd.R_lt (by (with_reducible repeat (first | apply az11 | apply bz11 | apply cz11)); exact (gz11 (ez11 (p := ⟨gb465, 3, none⟩) (ez11 (p := ⟨gb465, 2, none⟩) (ez11 (p := ⟨gb465, 1, none⟩) (ez11 (p := ⟨gb465, 0, none⟩) (hz11 HO464.out BK465.out (by decide)) (fun _ hk => hk.2) (.int .i64 t459)) (fun _ hk => hk.2) (.int .i64 t460)) (fun _ hk => hk.2) (.int .i64 t461)) (fun _ hk => hk.2) (.slice Ao157 t462.length co157)) (fun _ h_ => h_.1))))) (below_size (by repeat (first | (with_reducible first | exact HB.out | apply by11 | apply ay11 | apply cy11 | refine dy11 ?_ GE442.out | refine dy11 ?_ GE443.out | refine dy11 ?_ GE465.out) | exact HB.out)))); have n4_ := zz11 (hy11 (g := gb442) (o := .cells #[.int .i64 a0_0, .int .i64 a0_1, .int .i64 a0_2, .slice A0_3 l0_3.length c0_3] 55 (0, 0)) (by (with_reducible repeat (first | refine ey11 ?_ _ | refine gy11 ?_ | refine fy11 ?_ _)); refine blk_far ?_ NB442_465.out _; (with_reducible repeat (first | refine ey11 ?_ _ | refine gy11 ?_ | refine fy11 ?_ _)); refine blk_far ?_ NB442_465.out _; (with_reducible repeat (first | refine ey11 ?_ _ | refine gy11 ?_ | refine fy11 ?_ _)); refine blk_far ?_ NB442_465.out _; (with_reducible repeat (first | refine ey11 ?_ _ | refine gy11 ?_ | refine fy11 ?_ _)); refine blk_far ?_ NB442_465.out _; (with_reducible repeat (first | refine ey11 ?_ _ | refine gy11 ?_ | refine fy11 ?_ _)); exact BK442.out) hb); have n5_ := zz11 (hy11 (g := gb443) (o := .cells #[.int .i64 a1_0, .int .i64 a1_1, .int .i64 a1_2, .slice A1_3 l1_3.length c1_3] 55 (0, 0)) (by (with_reducible repeat (first | refine ey11 ?_ _ | refine gy11 ?_ | refine fy11 ?_ _)); refine blk_far ?_ NB443_465.out _; (with_reducible repeat (first | refine ey11 ?_ _ | refine gy11 ?_ | refine fy11 ?_ _)); refine blk_far ?_ NB443_465.out _; (with_reducible repeat (first | refine ey11 ?_ _ | refine gy11 ?_ | refine fy11 ?_ _)); refine blk_far ?_ NB443_465.out _; (with_reducible repeat (first | refine ey11 ?_ _ | refine gy11 ?_ | refine fy11 ?_ _)); refine blk_far ?_ NB443_465.out _; (with_reducible repeat (first | refine ey11 ?_ _ | refine gy11 ?_ | refine fy11 ?_ _)); exact BK443.out) hb); have n6_ := zz11 (hy11 (g := gb465) (o := .cells #[.int .i64 t459, .int .i64 t460, .int .i64 t461, .slice Ao157 t462.length co157] 58 (0, 0)) (by (with_reducible repeat (first | refine ey11 ?_ _ | refine gy11 ?_ | refine fy11 ?_ _)); refine blk_put (cs := #[.int .i64 t459, .int .i64 t460, .int .i64 t461, .slice none 0 0]) ?_ 3 _ rfl; (with_reducible repeat (first | refine ey11 ?_ _ | refine gy11 ?_ | refine fy11 ?_ _)); refine blk_put (cs := #[.int .i64 t459, .int .i64 t460, .int .i64 0, .slice none 0 0]) ?_ 2 _ rfl; (with_reducible repeat (first | refine ey11 ?_ _ | refine gy11 ?_ | refine fy11 ?_ _)); refine blk_put (cs := #[.int .i64 t459, .int .i64 0, .int .i64 0, .slice none 0 0]) ?_ 1 _ rfl; (with_reducible repeat (first | refine ey11 ?_ _ | refine gy11 ?_ | refine fy11 ?_ _)); refine blk_put (cs := #[.int .i64 0, .int .i64 0, .int .i64 0, .slice none 0 0]) ?_ 0 _ rfl; (with_reducible repeat (first | refine ey11 ?_ _ | refine gy11 ?_ | refine fy11 ?_ _)); exact BK465.out) hb); have n7_ := zz11 (below_step (by repeat (first | (with_reducible first | exact HB.out | apply by11 | apply ay11 | apply cy11 | refine dy11 ?_ GE442.out | refine dy11 ?_ GE443.out | refine dy11 ?_ GE465.out) | exact HB.out)) hb); clear HO451; clear HO457; clear HO464; clear BK442; clear BK443; clear BK465; clear HB; have HO451 := n0_; have HO457 := n1_; have HO464 := n2_; have HO471 := n3_; have BK442 := n4_; have BK443 := n5_; have BK465 := n6_; have HB := n7_; clear n0_ n1_ n2_ n3_ n4_ n5_ n6_ n7_; (try clear hb); (try clear hb2); (try clear hk); (try clear hi); (try clear ho0)) | ((with_reducible refine gate_dst (N := 8) rfl ?_); refine box_event ?hg (N := 8) ?hd (cs := #[.int .i64 0, .int .i64 0, .int .i64 0, .slice none 0 0]) (t := 58) ?hr ?_; (case hd => rfl); (case hg => rfl); (case hr => first | (go_simp; done) | (go_simp; rfl)); intro gb472 hg w160 hbox hb; have n0_ := zz11 (dz11 (by (with_reducible repeat (first | apply az11 | apply bz11 | apply cz11)); exact HO451.out) hb); have n1_ := zz11 (dz11 (by (with_reducible repeat (first | apply az11 | apply bz11 | apply cz11)); exact HO457.out) hb); have n2_ := zz11 (dz11 (by (with_reducible repeat (first | apply az11 | apply bz11 | apply cz11)); exact HO464.out) hb); have n3_ := zz11 (dz11 (by (with_reducible repeat (first | apply az11 | apply bz11 | apply cz11)); exact HO471.out) hb); have n4_ := zz11 (hy11 (g := gb442) (o := .cells #[.int .i64 a0_0, .int .i64 a0_1, .int .i64 a0_2, .slice A0_3 l0_3.length c0_3] 55 (0, 0)) (by (with_reducible repeat (first | refine ey11 ?_ _ | refine gy11 ?_ | refine fy11 ?_ _)); exact BK442.out) hb); have n5_ := zz11 (hy11 (g := gb443) (o := .cells #[.int .i64 a1_0, .int .i64 a1_1, .int .i64 a1_2, .slice A1_3 l1_3.length c1_3] 55 (0, 0)) (by (with_reducible repeat (first | refine ey11 ?_ _ | refine gy11 ?_ | refine fy11 ?_ _)); exact BK443.out) hb); have n6_ := zz11 (hy11 (g := gb465) (o := .cells #[.int .i64 t459, .int .i64 t460, .int .i64 t461, .slice Ao157 t462.length co157] 58 (0, 0)) (by (with_reducible repeat (first | refine ey11 ?_ _ | refine gy11 ?_ | refine fy11 ?_ _)); exact BK465.out) hb); have n7_ := zz11 (below_step (by repeat (first | (with_reducible first | exact HB.out | apply by11 | apply ay11 | apply cy11 | refine dy11 ?_ GE442.out | refine dy11 ?_ GE443.out | refine dy11 ?_ GE465.out) | exact HB.out)) hb); have n8_ := zz11 (hbox); have n9_ := zz11 ((by rw [hg]; exact (below_size (by repeat (first | (with_reducible first | exact HB.out | apply by11 | apply ay11 | apply cy11 | refine dy11 ?_ GE442.out | refine dy11 ?_ GE443.out | refine dy11 ?_ GE465.out) | exact HB.out))) : w.heap.size ≤ gb472)); have n10_ := zz11 ((by rw [hg]; exact (below_size (by repeat (first | (with_reducible first | exact HB.out | apply by11 | apply ay11 | apply cy11 | refine dy11 ?_ GE442.out | refine dy11 ?_ GE443.out | refine dy11 ?_ GE465.out) | exact HB.out))) : w.heap.size ≤ gb472)); have n11_ := zz11 ((by rw [hg]; exact Nat.ne_of_lt (blk_lt (g := gb442) (o := .cells #[.int .i64 a0_0, .int .i64 a0_1, .int .i64 a0_2, .slice A0_3 l0_3.length c0_3] 55 (0, 0)) (by (with_reducible repeat (first | refine ey11 ?_ _ | refine gy11 ?_ | refine fy11 ?_ _)); exact BK442.out)) : gb442 ≠ gb472)); have n12_ := zz11 ((by rw [hg]; exact Nat.ne_of_gt (blk_lt (g := gb442) (o := .cells #[.int .i64 a0_0, .int .i64 a0_1, .int .i64 a0_2, .slice A0_3 l0_3.length c0_3] 55 (0, 0)) (by (with_reducible repeat (first | refine ey11 ?_ _ | refine gy11 ?_ | refine fy11 ?_ _)); exact BK442.out)) : gb472 ≠ gb442)); have n13_ := zz11 ((by rw [hg]; exact Nat.ne_of_lt (blk_lt (g := gb443) (o := .cells #[.int .i64 a1_0, .int .i64 a1_1, .int .i64 a1_2, .slice A1_3 l1_3.length c1_3] 55 (0, 0)) (by (with_reducible repeat (first | refine ey11 ?_ _ | refine gy11 ?_ | refine fy11 ?_ _)); exact BK443.out)) : gb443 ≠ gb472)); have n14_ := zz11 ((by rw [hg]; exact Nat.ne_of_gt (blk_lt (g := gb443) (o := .cells #[.int .i64 a1_0, .int .i64 a1_1, .int .i64 a1_2, .slice A1_3 l1_3.length c1_3] 55 (0, 0)) (by (with_reducible repeat (first | refine ey11 ?_ _ | refine gy11 ?_ | refine fy11 ?_ _)); exact BK443.out)) : gb472 ≠ gb443)); have n15_ := zz11 ((by rw [hg]; exact Nat.ne_of_lt (blk_lt (g := gb465) (o := .cells #[.int .i64 t459, .int .i64 t460, .int .i64 t461, .slice Ao157 t462.length co157] 58 (0, 0)) (by (with_reducible repeat (first | refine ey11 ?_ _ | refine gy11 ?_ | refine fy11 ?_ _)); exact BK465.out)) : gb465 ≠ gb472)); have n16_ := zz11 ((by rw [hg]; exact Nat.ne_of_gt (blk_lt (g := gb465) (o := .cells #[.int .i64 t459, .int .i64 t460, .int .i64 t461, .slice Ao157 t462.length co157] 58 (0, 0)) (by (with_reducible repeat (first | refine ey11 ?_ _ | refine gy11 ?_ | refine fy11 ?_ _)); exact BK465.out)) : gb472 ≠ gb465)); clear HO451; clear HO457; clear HO464; clear HO471; clear BK442; clear BK443; clear BK465; clear HB; have HO451 := n0_; have HO457 := n1_; have HO464 := n2_; have HO471 := n3_; have BK442 := n4_; have BK443 := n5_; have BK465 := n6_; have HB := n7_; have BK472 := n8_; have GW472 := n9_; have GE472 := n10_; have NB442_472 := n11_; have NB472_442 := n12_; have NB443_472 := n13_; have NB472_443 := n14_; have NB465_472 := n15_; have NB472_465 := n16_; clear n0_ n1_ n2_ n3_ n4_ n5_ n6_ n7_ n8_ n9_ n10_ n11_ n12_ n13_ n14_ n15_ n16_; clear hb hbox hg; have hnb161 := NB472_442.out; have hnc161 := NB442_472.out; have hnb162 := NB472_443.out; have hnc162 := NB443_472.out; have hnb163 := NB472_465.out; have hnc163 := NB465_472.out; have hcz164_0 : w160.cell? ⟨gb472, 0, none⟩ = some (.int .i64 0) := (blk_cell BK472.out 0).trans rfl; have hcz164_1 : w160.cell? ⟨gb472, 1, none⟩ = some (.int .i64 0) := (blk_cell BK472.out 1).trans rfl; have hcz164_2 : w160.cell? ⟨gb472, 2, none⟩ = some (.int .i64 0) := (blk_cell BK472.out 2).trans rfl; have hcz164_3 : w160.cell? ⟨gb472, 3, none⟩ = some (.slice none 0 0) := (blk_cell BK472.out 3).trans rfl; have hfz164_0 := blk_frozen BK472.out 0; have hfz164_1 := blk_frozen BK472.out 1; have hfz164_2 := blk_frozen BK472.out 2; have hfz164_3 := blk_frozen BK472.out 3; obtain ⟨Ao165, co165, eo165⟩ := Kd.R_slice HO471.out; subst eo165; have hcz166_0 : w160.cell? ⟨gb465, 0, none⟩ = some (.int .i64 t459) := (blk_cell BK465.out 0).trans rfl; have hcz166_1 : w160.cell? ⟨gb465, 1, none⟩ = some (.int .i64 t460) := (blk_cell BK465.out 1).trans rfl; have hcz166_2 : w160.cell? ⟨gb465, 2, none⟩ = some (.int .i64 t461) := (blk_cell BK465.out 2).trans rfl; have hcz166_3 : w160.cell? ⟨gb465, 3, none⟩ = some (.slice Ao157 t462.length co157) := (blk_cell BK465.out 3).trans rfl; have hfz166_0 := blk_frozen BK465.out 0; have hfz166_1 := blk_frozen BK465.out 1; have hfz166_2 := blk_frozen BK465.out 2; have hfz166_3 := blk_frozen BK465.out 3) | ((with_reducible refine gate_callee (f := 44) rfl ?_); refine goesL_ (some 31) rfl rfl Try.func44 (by kernel_rfl) rfl #[.agg #[.int .i64 t459, .int .i64 t460, .int .i64 t461, .slice Ao157 t462.length co157], .agg #[.int .i64 t466, .int .i64 t467, .int .i64 t468, .slice Ao165 t469.length co165]] rfl (by (try simp only [List.map_toArray, List.map_cons, List.map_nil]); first | done | rfl | (simp only [List.length_drop, List.length_take]; rfl)) ?_; (with_reducible refine (impl_SameLetters.calls t459 t460 t461 _ _ t462 t466 t467 t468 _ _ t469 t473 _ ?side1 ?side2 ?side3 ?side4 A24.out).mono ?_); (case side1 => refine (iz11 (e := 5) (base := w.heap.size) (ok := fun k_ => (((True ∧ some k_ ≠ (.slice Ao148 t449.length co148 : Value).ownBlock) ∧ some k_ ≠ (.slice Ao149 t455.length co149 : Value).ownBlock) ∧ some k_ ≠ (.slice Ao165 t469.length co165 : Value).ownBlock)) (n := t462.length) (c := co157) ?_).2.2; exact (by (with_reducible repeat (first | apply az11 | apply bz11 | apply cz11)); exact (gz11 (ez11 (p := ⟨gb472, 3, none⟩) (ez11 (p := ⟨gb472, 2, none⟩) (ez11 (p := ⟨gb472, 1, none⟩) (ez11 (p := ⟨gb472, 0, none⟩) (hz11 HO464.out BK472.out (by decide)) (fun _ hk => hk.2) (.int .i64 t466)) (fun _ hk => hk.2) (.int .i64 t467)) (fun _ hk => hk.2) (.int .i64 t468)) (fun _ hk => hk.2) (.slice Ao165 t469.length co165)) (fun _ h_ => h_.1)))); (case side2 => exact (iz11 HO464.out).2.1); (case side3 => refine (iz11 (e := 5) (base := w.heap.size) (ok := fun k_ => (((True ∧ some k_ ≠ (.slice Ao148 t449.length co148 : Value).ownBlock) ∧ some k_ ≠ (.slice Ao149 t455.length co149 : Value).ownBlock) ∧ some k_ ≠ (.slice Ao157 t462.length co157 : Value).ownBlock)) (n := t469.length) (c := co165) ?_).2.2; exact (by (with_reducible repeat (first | apply az11 | apply bz11 | apply cz11)); exact (gz11 (ez11 (p := ⟨gb472, 3, none⟩) (ez11 (p := ⟨gb472, 2, none⟩) (ez11 (p := ⟨gb472, 1, none⟩) (ez11 (p := ⟨gb472, 0, none⟩) (hz11 HO471.out BK472.out (by decide)) (fun _ hk => hk.2) (.int .i64 t466)) (fun _ hk => hk.2) (.int .i64 t467)) (fun _ hk => hk.2) (.int .i64 t468)) (fun _ hk => hk.2) (.slice Ao165 t469.length co165)) (fun _ h_ => h_.1)))); (case side4 => exact (iz11 HO471.out).2.1); rintro e w167 ⟨rfl, hb⟩; refine ⟨_, rfl, ?_⟩; have n0_ := zz11 (dz11 (by (with_reducible repeat (first | apply az11 | apply bz11 | apply cz11)); exact (gz11 (ez11 (p := ⟨gb472, 3, none⟩) (ez11 (p := ⟨gb472, 2, none⟩) (ez11 (p := ⟨gb472, 1, none⟩) (ez11 (p := ⟨gb472, 0, none⟩) (hz11 HO451.out BK472.out (by decide)) (fun _ hk => hk.2) (.int .i64 t466)) (fun _ hk => hk.2) (.int .i64 t467)) (fun _ hk => hk.2) (.int .i64 t468)) (fun _ hk => hk.2) (.slice Ao165 t469.length co165)) (fun _ h_ => h_.1))) hb); have n1_ := zz11 (dz11 (by (with_reducible repeat (first | apply az11 | apply bz11 | apply cz11)); exact (gz11 (ez11 (p := ⟨gb472, 3, none⟩) (ez11 (p := ⟨gb472, 2, none⟩) (ez11 (p := ⟨gb472, 1, none⟩) (ez11 (p := ⟨gb472, 0, none⟩) (hz11 HO457.out BK472.out (by decide)) (fun _ hk => hk.2) (.int .i64 t466)) (fun _ hk => hk.2) (.int .i64 t467)) (fun _ hk => hk.2) (.int .i64 t468)) (fun _ hk => hk.2) (.slice Ao165 t469.length co165)) (fun _ h_ => h_.1))) hb); have n2_ := zz11 (dz11 (by (with_reducible repeat (first | apply az11 | apply bz11 | apply cz11)); exact (gz11 (ez11 (p := ⟨gb472, 3, none⟩) (ez11 (p := ⟨gb472, 2, none⟩) (ez11 (p := ⟨gb472, 1, none⟩) (ez11 (p := ⟨gb472, 0, none⟩) (hz11 HO464.out BK472.out (by decide)) (fun _ hk => hk.2) (.int .i64 t466)) (fun _ hk => hk.2) (.int .i64 t467)) (fun _ hk => hk.2) (.int .i64 t468)) (fun _ hk => hk.2) (.slice Ao165 t469.length co165)) (fun _ h_ => h_.1))) hb); have n3_ := zz11 (dz11 (by (with_reducible repeat (first | apply az11 | apply bz11 | apply cz11)); exact (gz11 (ez11 (p := ⟨gb472, 3, none⟩) (ez11 (p := ⟨gb472, 2, none⟩) (ez11 (p := ⟨gb472, 1, none⟩) (ez11 (p := ⟨gb472, 0, none⟩) (hz11 HO471.out BK472.out (by decide)) (fun _ hk => hk.2) (.int .i64 t466)) (fun _ hk => hk.2) (.int .i64 t467)) (fun _ hk => hk.2) (.int .i64 t468)) (fun _ hk => hk.2) (.slice Ao165 t469.length co165)) (fun _ h_ => h_.1))) hb); have n4_ := zz11 (hy11 (g := gb442) (o := .cells #[.int .i64 a0_0, .int .i64 a0_1, .int .i64 a0_2, .slice A0_3 l0_3.length c0_3] 55 (0, 0)) (by (with_reducible repeat (first | refine ey11 ?_ _ | refine gy11 ?_ | refine fy11 ?_ _)); refine blk_far ?_ NB442_472.out _; (with_reducible repeat (first | refine ey11 ?_ _ | refine gy11 ?_ | refine fy11 ?_ _)); refine blk_far ?_ NB442_472.out _; (with_reducible repeat (first | refine ey11 ?_ _ | refine gy11 ?_ | refine fy11 ?_ _)); refine blk_far ?_ NB442_472.out _; (with_reducible repeat (first | refine ey11 ?_ _ | refine gy11 ?_ | refine fy11 ?_ _)); refine blk_far ?_ NB442_472.out _; (with_reducible repeat (first | refine ey11 ?_ _ | refine gy11 ?_ | refine fy11 ?_ _)); exact BK442.out) hb); have n5_ := zz11 (hy11 (g := gb443) (o := .cells #[.int .i64 a1_0, .int .i64 a1_1, .int .i64 a1_2, .slice A1_3 l1_3.length c1_3] 55 (0, 0)) (by (with_reducible repeat (first | refine ey11 ?_ _ | refine gy11 ?_ | refine fy11 ?_ _)); refine blk_far ?_ NB443_472.out _; (with_reducible repeat (first | refine ey11 ?_ _ | refine gy11 ?_ | refine fy11 ?_ _)); refine blk_far ?_ NB443_472.out _; (with_reducible repeat (first | refine ey11 ?_ _ | refine gy11 ?_ | refine fy11 ?_ _)); refine blk_far ?_ NB443_472.out _; (with_reducible repeat (first | refine ey11 ?_ _ | refine gy11 ?_ | refine fy11 ?_ _)); refine blk_far ?_ NB443_472.out _; (with_reducible repeat (first | refine ey11 ?_ _ | refine gy11 ?_ | refine fy11 ?_ _)); exact BK443.out) hb); have n6_ := zz11 (hy11 (g := gb465) (o := .cells #[.int .i64 t459, .int .i64 t460, .int .i64 t461, .slice Ao157 t462.length co157] 58 (0, 0)) (by (with_reducible repeat (first | refine ey11 ?_ _ | refine gy11 ?_ | refine fy11 ?_ _)); refine blk_far ?_ NB465_472.out _; (with_reducible repeat (first | refine ey11 ?_ _ | refine gy11 ?_ | refine fy11 ?_ _)); refine blk_far ?_ NB465_472.out _; (with_reducible repeat (first | refine ey11 ?_ _ | refine gy11 ?_ | refine fy11 ?_ _)); refine blk_far ?_ NB465_472.out _; (with_reducible repeat (first | refine ey11 ?_ _ | refine gy11 ?_ | refine fy11 ?_ _)); refine blk_far ?_ NB465_472.out _; (with_reducible repeat (first | refine ey11 ?_ _ | refine gy11 ?_ | refine fy11 ?_ _)); exact BK465.out) hb); have n7_ := zz11 (hy11 (g := gb472) (o := .cells #[.int .i64 t466, .int .i64 t467, .int .i64 t468, .slice Ao165 t469.length co165] 58 (0, 0)) (by (with_reducible repeat (first | refine ey11 ?_ _ | refine gy11 ?_ | refine fy11 ?_ _)); refine blk_put (cs := #[.int .i64 t466, .int .i64 t467, .int .i64 t468, .slice none 0 0]) ?_ 3 _ rfl; (with_reducible repeat (first | refine ey11 ?_ _ | refine gy11 ?_ | refine fy11 ?_ _)); refine blk_put (cs := #[.int .i64 t466, .int .i64 t467, .int .i64 0, .slice none 0 0]) ?_ 2 _ rfl; (with_reducible repeat (first | refine ey11 ?_ _ | refine gy11 ?_ | refine fy11 ?_ _)); refine blk_put (cs := #[.int .i64 t466, .int .i64 0, .int .i64 0, .slice none 0 0]) ?_ 1 _ rfl; (with_reducible repeat (first | refine ey11 ?_ _ | refine gy11 ?_ | refine fy11 ?_ _)); refine blk_put (cs := #[.int .i64 0, .int .i64 0, .int .i64 0, .slice none 0 0]) ?_ 0 _ rfl; (with_reducible repeat (first | refine ey11 ?_ _ | refine gy11 ?_ | refine fy11 ?_ _)); exact BK472.out) hb); have n8_ := zz11 (below_step (by repeat (first | (with_reducible first | exact HB.out | apply by11 | apply ay11 | apply cy11 | refine dy11 ?_ GE442.out | refine dy11 ?_ GE443.out | refine dy11 ?_ GE465.out | refine dy11 ?_ GE472.out) | exact HB.out)) hb); clear HO451; clear HO457; clear HO464; clear HO471; clear BK442; clear BK443; clear BK465; clear BK472; clear HB; have HO451 := n0_; have HO457 := n1_; have HO464 := n2_; have HO471 := n3_; have BK442 := n4_; have BK443 := n5_; have BK465 := n6_; have BK472 := n7_; have HB := n8_; clear n0_ n1_ n2_ n3_ n4_ n5_ n6_ n7_ n8_; (try clear hb); (try clear hb2); (try clear hk); (try clear hi)))
          have n0_ := zz11 (cz11 HO451.out)
          have n1_ := zz11 (cz11 HO457.out)
          have n2_ := zz11 (cz11 HO464.out)
          have n3_ := zz11 (cz11 HO471.out)
          have n4_ := zz11 (gy11 BK442.out)
          have n5_ := zz11 (gy11 BK443.out)
          have n6_ := zz11 (gy11 BK465.out)
          have n7_ := zz11 (gy11 BK472.out)
          have n8_ := zz11 (cy11 HB.out)
          clear HO451
          clear HO457
          clear HO464
          clear HO471
          clear BK442
          clear BK443
          clear BK465
          clear BK472
          clear HB
          have HO451 := n0_
          have HO457 := n1_
          have HO464 := n2_
          have HO471 := n3_
          have BK442 := n4_
          have BK443 := n5_
          have BK465 := n6_
          have BK472 := n7_
          have HB := n8_
          clear n0_ n1_ n2_ n3_ n4_ n5_ n6_ n7_ n8_
          refine start_ (n := 5) (S := fun w' => w'.cell? ⟨gb465, 0, none⟩ = some (.int .i64 t459) ∧ w'.cell? ⟨gb465, 1, none⟩ = some (.int .i64 t460) ∧ w'.cell? ⟨gb465, 2, none⟩ = some (.int .i64 t461) ∧ w'.cell? ⟨gb465, 3, none⟩ = some (.slice Ao157 t462.length co157) ∧ w'.cell? ⟨gb442, 0, none⟩ = some (.int .i64 a0_0) ∧ w'.cell? ⟨gb442, 1, none⟩ = some (.int .i64 a0_1) ∧ w'.cell? ⟨gb442, 2, none⟩ = some (.int .i64 a0_2) ∧ w'.cell? ⟨gb442, 3, none⟩ = some (.slice A0_3 l0_3.length c0_3)) (ds := []) #[false, false, false, false, false] (by kernel_rfl) rfl rfl ⟨(blk_cell BK465.out 0).trans rfl, (blk_cell BK465.out 1).trans rfl, (blk_cell BK465.out 2).trans rfl, (blk_cell BK465.out 3).trans rfl, (blk_cell BK442.out 0).trans rfl, (blk_cell BK442.out 1).trans rfl, (blk_cell BK442.out 2).trans rfl, (blk_cell BK442.out 3).trans rfl⟩ (fun hHeld => ?_)
          generalize w167.drew = w168 at HO451 HO457 HO464 HO471 BK442 BK443 BK465 BK472 HB hHeld ⊢
          refine take_ (i := 0) (N := some 35) (v := ?_) (a' := ?_) #[true, false, false, false, false] rfl rfl (by kernel_rfl) (fun _ _ _ h => h) (Or.inl ⟨by rfl, ?_⟩) hHeld ?_ ?_
          rotate_left
          · rintro w' ⟨s0, s1, s2, s3, s4, s5, s6, s7⟩
            go_simp
            with_reducible rfl
          rotate_left
          · simp only [Act.put, List.setIfInBounds_toArray, List.set_cons_zero, List.set_cons_succ, i64_w, i32_w]
            rfl
          refine take_ (i := 1) (N := some 36) (v := ?_) (a' := ?_) #[true, true, false, false, false] rfl rfl (by kernel_rfl) (fun _ _ _ h => h) (Or.inl ⟨by rfl, ?_⟩) hHeld ?_ ?_
          rotate_left
          · rintro w' ⟨s0, s1, s2, s3, s4, s5, s6, s7⟩
            go_simp
            with_reducible rfl
          rotate_left
          · simp only [Act.put, List.setIfInBounds_toArray, List.set_cons_zero, List.set_cons_succ, i64_w, i32_w]
            rfl
          refine one_ (i := 2) (N := some 37) #[true, true, true, false, false] rfl rfl (by kernel_rfl) (by decide) (fun K hK => ?_)
          refine goes_ Try.func43 (by kernel_rfl) rfl #[.agg #[.int .i64 a0_0, .int .i64 a0_1, .int .i64 a0_2, .slice A0_3 l0_3.length c0_3]] (by rfl) rfl rfl (by (try simp only [List.map_toArray, List.map_cons, List.map_nil]); first | done | rfl | (simp only [List.length_drop, List.length_take]; rfl)) ?_
          with_reducible refine (laws_toLetter.calls k a0_0 a0_1 a0_2 _ _ l0_3 t474 t475 t476 t477 _ ?side1 ?side2 A56.out).mono ?_
          (case side1 => repeat (first | exact (Kd.C_below HR0_3.out HB.out) | (with_reducible refine Kd.C_alloc ?_ _) | (with_reducible refine Kd.C_drewN ?_ _) | (with_reducible refine Kd.C_drew ?_)))
          (case side2 => exact HC0_3.out)
          rintro e w169 ⟨v478, rfl, ho0, hb⟩
          refine ⟨_, rfl, ?_⟩
          have n0_ := zz11 (jz11 (by (with_reducible repeat (first | apply az11 | apply bz11 | apply cz11)); exact HO451.out) (fz11 ho0) hb)
          have n1_ := zz11 (jz11 (by (with_reducible repeat (first | apply az11 | apply bz11 | apply cz11)); exact HO457.out) (fz11 ho0) hb)
          have n2_ := zz11 (jz11 (by (with_reducible repeat (first | apply az11 | apply bz11 | apply cz11)); exact HO464.out) (fz11 ho0) hb)
          have n3_ := zz11 (jz11 (by (with_reducible repeat (first | apply az11 | apply bz11 | apply cz11)); exact HO471.out) (fz11 ho0) hb)
          have n4_ := zz11 (Kd.R_lower (kz11 (kz11 (kz11 (kz11 ho0 (Kd.R_lt (by (with_reducible repeat (first | apply az11 | apply bz11 | apply cz11)); exact HO451.out))) (Kd.R_lt (by (with_reducible repeat (first | apply az11 | apply bz11 | apply cz11)); exact HO457.out))) (Kd.R_lt (by (with_reducible repeat (first | apply az11 | apply bz11 | apply cz11)); exact HO464.out))) (Kd.R_lt (by (with_reducible repeat (first | apply az11 | apply bz11 | apply cz11)); exact HO471.out))) (below_size (by repeat (first | (with_reducible first | exact HB.out | apply by11 | apply ay11 | apply cy11 | refine dy11 ?_ GE442.out | refine dy11 ?_ GE443.out | refine dy11 ?_ GE465.out | refine dy11 ?_ GE472.out) | exact HB.out))))
          have n5_ := zz11 (hy11 (g := gb442) (o := .cells #[.int .i64 a0_0, .int .i64 a0_1, .int .i64 a0_2, .slice A0_3 l0_3.length c0_3] 55 (0, 0)) (by (with_reducible repeat (first | refine ey11 ?_ _ | refine gy11 ?_ | refine fy11 ?_ _)); exact BK442.out) hb)
          have n6_ := zz11 (hy11 (g := gb443) (o := .cells #[.int .i64 a1_0, .int .i64 a1_1, .int .i64 a1_2, .slice A1_3 l1_3.length c1_3] 55 (0, 0)) (by (with_reducible repeat (first | refine ey11 ?_ _ | refine gy11 ?_ | refine fy11 ?_ _)); exact BK443.out) hb)
          have n7_ := zz11 (hy11 (g := gb465) (o := .cells #[.int .i64 t459, .int .i64 t460, .int .i64 t461, .slice Ao157 t462.length co157] 58 (0, 0)) (by (with_reducible repeat (first | refine ey11 ?_ _ | refine gy11 ?_ | refine fy11 ?_ _)); exact BK465.out) hb)
          have n8_ := zz11 (hy11 (g := gb472) (o := .cells #[.int .i64 t466, .int .i64 t467, .int .i64 t468, .slice Ao165 t469.length co165] 58 (0, 0)) (by (with_reducible repeat (first | refine ey11 ?_ _ | refine gy11 ?_ | refine fy11 ?_ _)); exact BK472.out) hb)
          have n9_ := zz11 (below_step (by repeat (first | (with_reducible first | exact HB.out | apply by11 | apply ay11 | apply cy11 | refine dy11 ?_ GE442.out | refine dy11 ?_ GE443.out | refine dy11 ?_ GE465.out | refine dy11 ?_ GE472.out) | exact HB.out)) hb)
          clear HO451
          clear HO457
          clear HO464
          clear HO471
          clear BK442
          clear BK443
          clear BK465
          clear BK472
          clear HB
          have HO451 := n0_
          have HO457 := n1_
          have HO464 := n2_
          have HO471 := n3_
          have HO479 := n4_
          have BK442 := n5_
          have BK443 := n6_
          have BK465 := n7_
          have BK472 := n8_
          have HB := n9_
          clear n0_ n1_ n2_ n3_ n4_ n5_ n6_ n7_ n8_ n9_
          (try clear hb)
          (try clear hb2)
          (try clear hk)
          (try clear hi)
          (try clear ho0)
          obtain ⟨Ao170, co170, eo170⟩ := Kd.R_slice HO479.out
          (first | subst eo170 | (injection eo170 with f1_ f2_ f3_; have f4_ := f1_.symm; have f5_ := f3_.symm; clear f1_ f2_ f3_; subst f4_; subst f5_))
          refine hK.out _ _ ⟨(blk_cell BK465.out 0).trans rfl, (blk_cell BK465.out 1).trans rfl, (blk_cell BK465.out 2).trans rfl, (blk_cell BK465.out 3).trans rfl, (blk_cell BK442.out 0).trans rfl, (blk_cell BK442.out 1).trans rfl, (blk_cell BK442.out 2).trans rfl, (blk_cell BK442.out 3).trans rfl⟩ (fun hHeld => ?_)
          clear hK K
          refine norm_ (a' := ?_) ?_ ?_
          rotate_left
          · show Act.put _ (some 37) _ = _
            simp only [Act.put, List.setIfInBounds_toArray, List.set_cons_zero, List.set_cons_succ, i64_w, i32_w]
            rfl
          refine one_ (i := 3) (N := some 38) #[true, true, true, true, false] rfl rfl (by kernel_rfl) (by decide) (fun K hK => ?_)
          refine goes_ Try.func45 (by kernel_rfl) rfl #[.agg #[.int .i64 t459, .int .i64 t460, .int .i64 t461, .slice Ao157 t462.length co157], .agg #[.int .i64 t474, .int .i64 t475, .int .i64 t476, .slice Ao170 t477.length co170]] (by rfl) rfl rfl (by (try simp only [List.map_toArray, List.map_cons, List.map_nil]); first | done | rfl | (simp only [List.length_drop, List.length_take]; rfl)) ?_
          with_reducible refine (laws_eqLetter.calls k t459 t460 t461 _ _ t462 t474 t475 t476 _ _ t477 false _ ?side1 ?side2 ?side3 ?side4 A57.out).mono ?_
          (case side1 => repeat (first | exact (iz11 HO464.out).2.2 | (with_reducible refine Kd.C_alloc ?_ _) | (with_reducible refine Kd.C_drewN ?_ _) | (with_reducible refine Kd.C_drew ?_)))
          (case side2 => exact (iz11 HO464.out).2.1)
          (case side3 => repeat (first | exact (iz11 HO479.out).2.2 | (with_reducible refine Kd.C_alloc ?_ _) | (with_reducible refine Kd.C_drewN ?_ _) | (with_reducible refine Kd.C_drew ?_)))
          (case side4 => exact (iz11 HO479.out).2.1)
          rintro e w171 ⟨rfl, hb⟩
          refine ⟨_, rfl, ?_⟩
          have n0_ := zz11 (dz11 (by (with_reducible repeat (first | apply az11 | apply bz11 | apply cz11)); exact HO451.out) hb)
          have n1_ := zz11 (dz11 (by (with_reducible repeat (first | apply az11 | apply bz11 | apply cz11)); exact HO457.out) hb)
          have n2_ := zz11 (dz11 (by (with_reducible repeat (first | apply az11 | apply bz11 | apply cz11)); exact HO464.out) hb)
          have n3_ := zz11 (dz11 (by (with_reducible repeat (first | apply az11 | apply bz11 | apply cz11)); exact HO471.out) hb)
          have n4_ := zz11 (dz11 (by (with_reducible repeat (first | apply az11 | apply bz11 | apply cz11)); exact HO479.out) hb)
          have n5_ := zz11 (hy11 (g := gb442) (o := .cells #[.int .i64 a0_0, .int .i64 a0_1, .int .i64 a0_2, .slice A0_3 l0_3.length c0_3] 55 (0, 0)) (by (with_reducible repeat (first | refine ey11 ?_ _ | refine gy11 ?_ | refine fy11 ?_ _)); exact BK442.out) hb)
          have n6_ := zz11 (hy11 (g := gb443) (o := .cells #[.int .i64 a1_0, .int .i64 a1_1, .int .i64 a1_2, .slice A1_3 l1_3.length c1_3] 55 (0, 0)) (by (with_reducible repeat (first | refine ey11 ?_ _ | refine gy11 ?_ | refine fy11 ?_ _)); exact BK443.out) hb)
          have n7_ := zz11 (hy11 (g := gb465) (o := .cells #[.int .i64 t459, .int .i64 t460, .int .i64 t461, .slice Ao157 t462.length co157] 58 (0, 0)) (by (with_reducible repeat (first | refine ey11 ?_ _ | refine gy11 ?_ | refine fy11 ?_ _)); exact BK465.out) hb)
          have n8_ := zz11 (hy11 (g := gb472) (o := .cells #[.int .i64 t466, .int .i64 t467, .int .i64 t468, .slice Ao165 t469.length co165] 58 (0, 0)) (by (with_reducible repeat (first | refine ey11 ?_ _ | refine gy11 ?_ | refine fy11 ?_ _)); exact BK472.out) hb)
          have n9_ := zz11 (below_step (by repeat (first | (with_reducible first | exact HB.out | apply by11 | apply ay11 | apply cy11 | refine dy11 ?_ GE442.out | refine dy11 ?_ GE443.out | refine dy11 ?_ GE465.out | refine dy11 ?_ GE472.out) | exact HB.out)) hb)
          clear HO451
          clear HO457
          clear HO464
          clear HO471
          clear HO479
          clear BK442
          clear BK443
          clear BK465
          clear BK472
          clear HB
          have HO451 := n0_
          have HO457 := n1_
          have HO464 := n2_
          have HO471 := n3_
          have HO479 := n4_
          have BK442 := n5_
          have BK443 := n6_
          have BK465 := n7_
          have BK472 := n8_
          have HB := n9_
          clear n0_ n1_ n2_ n3_ n4_ n5_ n6_ n7_ n8_ n9_
          (try clear hb)
          (try clear hb2)
          (try clear hk)
          (try clear hi)
          refine hK.out _ _ ⟨(blk_cell BK465.out 0).trans rfl, (blk_cell BK465.out 1).trans rfl, (blk_cell BK465.out 2).trans rfl, (blk_cell BK465.out 3).trans rfl, (blk_cell BK442.out 0).trans rfl, (blk_cell BK442.out 1).trans rfl, (blk_cell BK442.out 2).trans rfl, (blk_cell BK442.out 3).trans rfl⟩ (fun hHeld => ?_)
          clear hK K
          refine norm_ (a' := ?_) ?_ ?_
          rotate_left
          · show Act.put _ (some 38) _ = _
            simp only [Act.put, List.setIfInBounds_toArray, List.set_cons_zero, List.set_cons_succ, i64_w, i32_w]
            rfl
          refine pure_ (i := 4) (N := some 39) (v := ?_) (a' := ?_) #[true, true, true, true, true] rfl rfl (by kernel_rfl) (fun _ _ _ h => h) (Or.inl ⟨by rfl, ?_⟩) ?_ ?_
          rotate_left
          · intro w'
            go_simp
            with_reducible rfl
          rotate_left
          · simp only [Act.put, List.setIfInBounds_toArray, List.set_cons_zero, List.set_cons_succ, i64_w, i32_w]
            rfl
          refine done_ (by kernel_rfl) ?_
          try go_wp2
          go_ret
          exact ⟨by first | rfl | (simp [errW_none, errW_some] <;> rfl) | (simp [*, errW_none, errW_some] <;> rfl), by repeat (first | (with_reducible first | exact HB.out | apply by11 | apply ay11 | apply cy11 | refine dy11 ?_ GE442.out | refine dy11 ?_ GE443.out | refine dy11 ?_ GE465.out | refine dy11 ?_ GE472.out) | exact HB.out)⟩

end Go.Proofs.Ytndahpbmjjodpaa.All
