-- Laid by wip/myprint.py of this repo over the kit's print (the functions' texts by the kit's program, some by hand). Not trusted: Lean checks it.
import Derived.Test.YtndahpbmjjodpaaAllx0
import Derived.Test.YtndahpbmjjodpaaAllx502
import Derived.Test.YtndahpbmjjodpaaAllx2
import Derived.Test.YtndahpbmjjodpaaAllx3
import Derived.Test.YtndahpbmjjodpaaAllx6
import Derived.Test.YtndahpbmjjodpaaAllx23
namespace Go.Proofs.Ytndahpbmjjodpaa.All
open Go.RowKit Go.Proofs.YtndahpbmjjodpaaW.PrintWords Go.Proofs.YtndahpbmjjodpaaW.PrintLast Go.Proofs.YtndahpbmjjodpaaW.PrintMore
attribute [local go_sem] max2_int min2_int max_two min_two max_three min_three max_four min_four
set_option linter.unusedVariables false
set_option linter.unusedSimpArgs false

/-! ### spec_DrawFieldTimes: function 59 -/
def spec_DrawFieldTimes.f (l0 : List Int) : Option (Int × Int) := (spec_l1Source.f l0).bind fun bt573 => ((spec_l1Next.f bt573.1 bt573.2 256).bind fun bt576 => ((spec_l1Next.f bt573.1 bt576.2 256).bind fun bt578 => ((spec_l1Next.f bt573.1 bt578.2 256).bind fun bt580 => ((spec_l1Pick.f bt573.1 bt580.2 (([0, 1, 2, 3, 128, bt578.1, bt580.1] : List Int))).bind fun bt585 => (some ((bt576.1) % 256, (bt585.1) % 256))))))
set_option maxHeartbeats 8000000 in
set_option maxRecDepth 100000 in
theorem spec_DrawFieldTimes.calls (A0 : Option Addr) (c0 : Nat) (l0 : List Int) (r1 : Int) (r2 : Int) (w : World) (hr0 : Kd.C (Kd.int .u8) w A0 l0.length l0) (hc0 : l0.length ≤ c0) (h : spec_DrawFieldTimes.f l0 = some (r1, r2)) :
    Calls Try.prog 59 #[.slice A0 l0.length c0] w fun e w' => e = .returned (.tuple #[.int .u8 r1, .int .u8 r2]) ∧ Below w.heap.size w w' := by
  have HR0 := Aside0.mk hr0
  have HC0 := Aside0.mk hc0
  clear hr0 hc0
  have HB := Aside0.mk (Below.refl w.heap.size w)
  have H : ((spec_l1Source.f l0).bind fun bt573 => ((spec_l1Next.f bt573.1 bt573.2 256).bind fun bt576 => ((spec_l1Next.f bt573.1 bt576.2 256).bind fun bt578 => ((spec_l1Next.f bt573.1 bt578.2 256).bind fun bt580 => ((spec_l1Pick.f bt573.1 bt580.2 (([0, 1, 2, 3, 128, bt578.1, bt580.1] : List Int))).bind fun bt585 => (some ((bt576.1) % 256, (bt585.1) % 256))))))) = some (r1, r2) := h
  clear h
  replace H := Option.bind_eq_some_iff.mp H
  obtain ⟨⟨t573, t574⟩, A20, H⟩ := H
  replace H : ((spec_l1Next.f t573 t574 256).bind fun bt576 => ((spec_l1Next.f t573 bt576.2 256).bind fun bt578 => ((spec_l1Next.f t573 bt578.2 256).bind fun bt580 => ((spec_l1Pick.f t573 bt580.2 (([0, 1, 2, 3, 128, bt578.1, bt580.1] : List Int))).bind fun bt585 => (some ((bt576.1) % 256, (bt585.1) % 256)))))) = some (r1, r2) := H
  have A2 := Aside0.mk A20
  clear A20
  replace H := Option.bind_eq_some_iff.mp H
  obtain ⟨⟨t576, t577⟩, A30, H⟩ := H
  replace H : ((spec_l1Next.f t573 t577 256).bind fun bt578 => ((spec_l1Next.f t573 bt578.2 256).bind fun bt580 => ((spec_l1Pick.f t573 bt580.2 (([0, 1, 2, 3, 128, bt578.1, bt580.1] : List Int))).bind fun bt585 => (some ((t576) % 256, (bt585.1) % 256))))) = some (r1, r2) := H
  have A3 := Aside0.mk A30
  clear A30
  replace H := Option.bind_eq_some_iff.mp H
  obtain ⟨⟨t578, t579⟩, A40, H⟩ := H
  replace H : ((spec_l1Next.f t573 t579 256).bind fun bt580 => ((spec_l1Pick.f t573 bt580.2 (([0, 1, 2, 3, 128, t578, bt580.1] : List Int))).bind fun bt585 => (some ((t576) % 256, (bt585.1) % 256)))) = some (r1, r2) := H
  have A4 := Aside0.mk A40
  clear A40
  replace H := Option.bind_eq_some_iff.mp H
  obtain ⟨⟨t580, t581⟩, A50, H⟩ := H
  replace H : ((spec_l1Pick.f t573 t581 (([0, 1, 2, 3, 128, t578, t580] : List Int))).bind fun bt585 => (some ((t576) % 256, (bt585.1) % 256))) = some (r1, r2) := H
  have A5 := Aside0.mk A50
  clear A50
  obtain ⟨y582, hy582⟩ : ∃ y_ : List Int, y_ = (([0, 1, 2, 3, 128, t578, t580] : List Int)) := ⟨_, rfl⟩
  replace H : ((spec_l1Pick.f t573 t581 y582).bind fun bt585 => (some ((t576) % 256, (bt585.1) % 256))) = some (r1, r2) := by first | (rw [hy582]; with_reducible exact H) | (have H2_ := (Option.bind_some _ _).symm.trans H; rw [hy582]; with_reducible exact H2_) | (have H2_ := (Option.bind_some _ _).symm.trans H; with_reducible exact H2_) | with_reducible exact H | (rw [hy582]; exact H) | exact H
  have Ny582 := Aside0.mk hy582
  clear hy582
  replace H := Option.bind_eq_some_iff.mp H
  obtain ⟨⟨t585, t586⟩, A60, H⟩ := H
  replace H : (some ((t576) % 256, (t585) % 256)) = some (r1, r2) := H
  have A6 := Aside0.mk A60
  clear A60
  simp only [Option.some.injEq, Prod.mk.injEq] at H
  obtain ⟨rfl, rfl⟩ := H
  go_enter Try.func59, Try.ntmps59
  go_wp2_with (first | ((with_reducible refine gate_callee (f := 65) rfl ?_); refine goesL_ (some 6) rfl rfl Try.func65 (by kernel_rfl) rfl #[.slice A0 l0.length c0] rfl (by (try simp only [List.map_toArray, List.map_cons, List.map_nil]); first | done | rfl | (simp only [List.length_drop, List.length_take]; rfl)) ?_; (with_reducible refine (spec_l1Source.calls _ _ l0 t573 t574 w _ ?side1 ?side2 ?side3 A2.out).mono ?_); (case side1 => repeat (first | (with_reducible first | exact HB.out | apply below_alloc | apply pw_below_drewN | apply below_drew1) | exact HB.out)); (case side2 => exact HR0.out); (case side3 => exact HC0.out); rintro e w7 ⟨g575, rfl, hi, hb, hb2⟩; refine ⟨_, rfl, ?_⟩; have n0_ := Aside0.mk (hb); have n1_ := Aside0.mk (hi); clear HB; have HB := n0_; have HI575 := n1_; clear n0_ n1_; (try clear hb); (try clear hb2); (try clear hk); (try clear hi)) | ((with_reducible refine gate_callee (f := 98) rfl ?_); refine goesL_ (some 8) rfl rfl Try.func98 (by kernel_rfl) rfl #[.pointer (some ⟨g575, 0, none⟩), .int .i64 256] rfl (by (try simp only [List.map_toArray, List.map_cons, List.map_nil]); first | done | rfl | (simp only [List.length_drop, List.length_take]; rfl)) ?_; (with_reducible refine (spec_l1Next.calls g575 t573 t574 256 t576 t577 w _ ?side1 ?side2 A3.out).mono ?_); (case side1 => repeat (first | (with_reducible first | exact HI575.out | apply IsS111.alloc | apply IsS111.drewN | apply IsS111.drew | apply IsS111.set_1) | exact HI575.out)); (case side2 => repeat (first | (with_reducible first | exact HB.out | apply below_alloc | apply pw_below_drewN | apply below_drew1 | refine below_set ?_ (IsS111.ge HI575.out)) | exact HB.out)); rintro e w8 ⟨rfl, hi, hb, hk⟩; refine ⟨_, rfl, ?_⟩; have n0_ := Aside0.mk (hb); have n1_ := Aside0.mk (hi); clear HB; clear HI575; have HB := n0_; have HI575 := n1_; clear n0_ n1_; (try clear hb); (try clear hb2); (try clear hk); (try clear hi)) | ((with_reducible refine gate_callee (f := 98) rfl ?_); refine goesL_ (some 12) rfl rfl Try.func98 (by kernel_rfl) rfl #[.pointer (some ⟨g575, 0, none⟩), .int .i64 256] rfl (by (try simp only [List.map_toArray, List.map_cons, List.map_nil]); first | done | rfl | (simp only [List.length_drop, List.length_take]; rfl)) ?_; (with_reducible refine (spec_l1Next.calls g575 t573 t577 256 t578 t579 w _ ?side1 ?side2 A4.out).mono ?_); (case side1 => repeat (first | (with_reducible first | exact HI575.out | apply IsS111.alloc | apply IsS111.drewN | apply IsS111.drew | apply IsS111.set_1) | exact HI575.out)); (case side2 => repeat (first | (with_reducible first | exact HB.out | apply below_alloc | apply pw_below_drewN | apply below_drew1 | refine below_set ?_ (IsS111.ge HI575.out)) | exact HB.out)); rintro e w9 ⟨rfl, hi, hb, hk⟩; refine ⟨_, rfl, ?_⟩; have n0_ := Aside0.mk (hb); have n1_ := Aside0.mk (hi); clear HB; clear HI575; have HB := n0_; have HI575 := n1_; clear n0_ n1_; (try clear hb); (try clear hb2); (try clear hk); (try clear hi)) | ((with_reducible refine gate_callee (f := 98) rfl ?_); refine goesL_ (some 14) rfl rfl Try.func98 (by kernel_rfl) rfl #[.pointer (some ⟨g575, 0, none⟩), .int .i64 256] rfl (by (try simp only [List.map_toArray, List.map_cons, List.map_nil]); first | done | rfl | (simp only [List.length_drop, List.length_take]; rfl)) ?_; (with_reducible refine (spec_l1Next.calls g575 t573 t579 256 t580 t581 w _ ?side1 ?side2 A5.out).mono ?_); (case side1 => repeat (first | (with_reducible first | exact HI575.out | apply IsS111.alloc | apply IsS111.drewN | apply IsS111.drew | apply IsS111.set_1) | exact HI575.out)); (case side2 => repeat (first | (with_reducible first | exact HB.out | apply below_alloc | apply pw_below_drewN | apply below_drew1 | refine below_set ?_ (IsS111.ge HI575.out)) | exact HB.out)); rintro e w10 ⟨rfl, hi, hb, hk⟩; refine ⟨_, rfl, ?_⟩; have n0_ := Aside0.mk (hb); have n1_ := Aside0.mk (hi); clear HB; clear HI575; have HB := n0_; have HI575 := n1_; clear n0_ n1_; (try clear hb); (try clear hb2); (try clear hk); (try clear hi)) | ((with_reducible refine gate_dst (N := 15) rfl ?_); refine Kd.R_lit (Kd.int .i64) _ 2 ?hg (N := 15) ?hd (xs := ([0, 1, 2, 3, 128, t578, t580] : List Int)) (inner := [.int .i64 0, .int .i64 1, .int .i64 2, .int .i64 3, .int .i64 128, .int .i64 t578, .int .i64 t580]) (ok := fun _ => True) (okp := fun _ => True) ?hr ?hp (fun _ hk => hk) trivial (Below.refl _ _) (Nat.le_refl _) (by simp) ?_; (case hd => rfl); (case hg => rfl); (case hr => first | (go_simp; done) | (go_simp; rfl)); (case hp => exact (Reps.one (show Kd.M (Kd.int .i64) _ _ _ 0 [.int .i64 0] from rfl) (Reps.one (show Kd.M (Kd.int .i64) _ _ _ 1 [.int .i64 1] from rfl) (Reps.one (show Kd.M (Kd.int .i64) _ _ _ 2 [.int .i64 2] from rfl) (Reps.one (show Kd.M (Kd.int .i64) _ _ _ 3 [.int .i64 3] from rfl) (Reps.one (show Kd.M (Kd.int .i64) _ _ _ 128 [.int .i64 128] from rfl) (Reps.one (show Kd.M (Kd.int .i64) _ _ _ t578 [.int .i64 t578] from rfl) (Reps.one (show Kd.M (Kd.int .i64) _ _ _ t580 [.int .i64 t580] from rfl) (Reps.none _ _))))))))); intro v583 w11 ho12 hb hg_ hnew_; clear hg_ hnew_; (first | rw [← Ny582.out] at ho12 | (simp only [Int.reduceToNat] at ho12; rw [← Ny582.out] at ho12)); have n0_ := Aside0.mk (Kd.R_lower ho12 (below_size (by repeat (first | (with_reducible first | exact HB.out | apply below_alloc | apply pw_below_drewN | apply below_drew1 | refine below_set ?_ (IsS111.ge HI575.out)) | exact HB.out)))); have n1_ := Aside0.mk (IsS111.below (by repeat (first | (with_reducible first | exact HI575.out | apply IsS111.alloc | apply IsS111.drewN | apply IsS111.drew | apply IsS111.set_1) | exact HI575.out)) hb); have n2_ := Aside0.mk (below_step (by repeat (first | (with_reducible first | exact HB.out | apply below_alloc | apply pw_below_drewN | apply below_drew1 | refine below_set ?_ (IsS111.ge HI575.out)) | exact HB.out)) hb); clear HI575; clear HB; have HO584 := n0_; have HI575 := n1_; have HB := n2_; clear n0_ n1_ n2_; clear hb ho12; obtain ⟨Ao13, co13, eo13⟩ := Kd.R_slice HO584.out; subst eo13) | ((with_reducible refine gate_callee (f := 68) rfl ?_); refine goesL_ (some 16) rfl rfl Try.func68 (by kernel_rfl) rfl #[.pointer (some ⟨g575, 0, none⟩), .slice Ao13 y582.length co13] rfl (by (try simp only [List.map_toArray, List.map_cons, List.map_nil]); first | done | rfl | (simp only [List.length_drop, List.length_take]; rfl)) ?_; (with_reducible refine (spec_l1Pick.calls g575 t573 t581 _ _ y582 t585 t586 w _ ?side1 ?side2 ?side3 ?side4 ?side5 A6.out).mono ?_); (case side1 => repeat (first | (with_reducible first | exact HI575.out | apply IsS111.alloc | apply IsS111.drewN | apply IsS111.drew | apply IsS111.set_1) | exact HI575.out)); (case side2 => repeat (first | (with_reducible first | exact HB.out | apply below_alloc | apply pw_below_drewN | apply below_drew1 | refine below_set ?_ (IsS111.ge HI575.out)) | exact HB.out)); (case side3 => repeat (first | exact (Kd.R_reads' HO584.out).2.2 | (with_reducible refine Kd.C_alloc ?_ _) | (with_reducible refine Kd.C_drewN ?_ _) | (with_reducible refine Kd.C_drew ?_))); (case side4 => exact (Kd.R_reads' HO584.out).2.1); (case side5 => exact far_slice (IsS111.own_ne HI575.out HO584.out (by decide))); rintro e w14 ⟨rfl, hi, hb, hk⟩; refine ⟨_, rfl, ?_⟩; have n0_ := Aside0.mk (Kd.R_mono (Kd.R_keep (IsS111.apart (show IsS111 w _ g575 t573 t581 from by repeat (first | (with_reducible first | exact HI575.out | apply IsS111.alloc | apply IsS111.drewN | apply IsS111.drew | apply IsS111.set_1) | exact HI575.out)) (by (with_reducible repeat (first | apply Kd.R_alloc | apply Kd.R_drewN | apply Kd.R_drew)); exact HO584.out) (by decide)) hk (fun _ h => h.2)) (fun _ h => h.1)); have n1_ := Aside0.mk (hb); have n2_ := Aside0.mk (hi); clear HO584; clear HB; clear HI575; have HO584 := n0_; have HB := n1_; have HI575 := n2_; clear n0_ n1_ n2_; (try clear hb); (try clear hb2); (try clear hk); (try clear hi)))
  go_ret2
  exact ⟨by first | rfl | (simp [errW_none, errW_some] <;> rfl) | (simp [*, errW_none, errW_some] <;> rfl), by repeat (first | (with_reducible first | exact HB.out | apply below_alloc | apply pw_below_drewN | apply below_drew1 | refine below_set ?_ (IsS111.ge HI575.out)) | exact HB.out)⟩

/-! ### spec_DrawFieldInverse: function 60 -/
def spec_DrawFieldInverse.f (l0 : List Int) : Option (Int) := (spec_l1Source.f l0).bind fun bt587 => ((spec_l1Next.f bt587.1 bt587.2 256).bind fun bt590 => (some ((bt590.1) % 256)))
set_option maxHeartbeats 8000000 in
set_option maxRecDepth 100000 in
theorem spec_DrawFieldInverse.calls (A0 : Option Addr) (c0 : Nat) (l0 : List Int) (r : Int) (w : World) (hr0 : Kd.C (Kd.int .u8) w A0 l0.length l0) (hc0 : l0.length ≤ c0) (h : spec_DrawFieldInverse.f l0 = some r) :
    Calls Try.prog 60 #[.slice A0 l0.length c0] w fun e w' => e = .returned (.int .u8 r) ∧ Below w.heap.size w w' := by
  have HR0 := Aside0.mk hr0
  have HC0 := Aside0.mk hc0
  clear hr0 hc0
  have HB := Aside0.mk (Below.refl w.heap.size w)
  have H : ((spec_l1Source.f l0).bind fun bt587 => ((spec_l1Next.f bt587.1 bt587.2 256).bind fun bt590 => (some ((bt590.1) % 256)))) = some r := h
  clear h
  replace H := Option.bind_eq_some_iff.mp H
  obtain ⟨⟨t587, t588⟩, A20, H⟩ := H
  replace H : ((spec_l1Next.f t587 t588 256).bind fun bt590 => (some ((bt590.1) % 256))) = some r := H
  have A2 := Aside0.mk A20
  clear A20
  replace H := Option.bind_eq_some_iff.mp H
  obtain ⟨⟨t590, t591⟩, A30, H⟩ := H
  replace H : (some ((t590) % 256)) = some r := H
  have A3 := Aside0.mk A30
  clear A30
  obtain rfl := Option.some.inj H
  go_enter Try.func60, Try.ntmps60
  go_wp2_with (first | ((with_reducible refine gate_callee (f := 65) rfl ?_); refine goesL_ (some 4) rfl rfl Try.func65 (by kernel_rfl) rfl #[.slice A0 l0.length c0] rfl (by (try simp only [List.map_toArray, List.map_cons, List.map_nil]); first | done | rfl | (simp only [List.length_drop, List.length_take]; rfl)) ?_; (with_reducible refine (spec_l1Source.calls _ _ l0 t587 t588 w _ ?side1 ?side2 ?side3 A2.out).mono ?_); (case side1 => repeat (first | (with_reducible first | exact HB.out | apply below_alloc | apply pw_below_drewN | apply below_drew1) | exact HB.out)); (case side2 => exact HR0.out); (case side3 => exact HC0.out); rintro e w4 ⟨g589, rfl, hi, hb, hb2⟩; refine ⟨_, rfl, ?_⟩; have n0_ := Aside0.mk (hb); have n1_ := Aside0.mk (hi); clear HB; have HB := n0_; have HI589 := n1_; clear n0_ n1_; (try clear hb); (try clear hb2); (try clear hk); (try clear hi)) | ((with_reducible refine gate_callee (f := 98) rfl ?_); refine goesL_ (some 5) rfl rfl Try.func98 (by kernel_rfl) rfl #[.pointer (some ⟨g589, 0, none⟩), .int .i64 256] rfl (by (try simp only [List.map_toArray, List.map_cons, List.map_nil]); first | done | rfl | (simp only [List.length_drop, List.length_take]; rfl)) ?_; (with_reducible refine (spec_l1Next.calls g589 t587 t588 256 t590 t591 w _ ?side1 ?side2 A3.out).mono ?_); (case side1 => repeat (first | (with_reducible first | exact HI589.out | apply IsS111.alloc | apply IsS111.drewN | apply IsS111.drew | apply IsS111.set_1) | exact HI589.out)); (case side2 => repeat (first | (with_reducible first | exact HB.out | apply below_alloc | apply pw_below_drewN | apply below_drew1 | refine below_set ?_ (IsS111.ge HI589.out)) | exact HB.out)); rintro e w5 ⟨rfl, hi, hb, hk⟩; refine ⟨_, rfl, ?_⟩; have n0_ := Aside0.mk (hb); have n1_ := Aside0.mk (hi); clear HB; clear HI589; have HB := n0_; have HI589 := n1_; clear n0_ n1_; (try clear hb); (try clear hb2); (try clear hk); (try clear hi)))
  go_ret
  exact ⟨by first | rfl | (simp [errW_none, errW_some] <;> rfl) | (simp [*, errW_none, errW_some] <;> rfl), by repeat (first | (with_reducible first | exact HB.out | apply below_alloc | apply pw_below_drewN | apply below_drew1 | refine below_set ?_ (IsS111.ge HI589.out)) | exact HB.out)⟩

/-! ### spec_DrawSubByte: function 61 -/
def spec_DrawSubByte.f (l0 : List Int) : Option (Int) := (spec_l1Source.f l0).bind fun bt592 => ((spec_l1Next.f bt592.1 bt592.2 256).bind fun bt595 => (some ((bt595.1) % 256)))
set_option maxHeartbeats 8000000 in
set_option maxRecDepth 100000 in
theorem spec_DrawSubByte.calls (A0 : Option Addr) (c0 : Nat) (l0 : List Int) (r : Int) (w : World) (hr0 : Kd.C (Kd.int .u8) w A0 l0.length l0) (hc0 : l0.length ≤ c0) (h : spec_DrawSubByte.f l0 = some r) :
    Calls Try.prog 61 #[.slice A0 l0.length c0] w fun e w' => e = .returned (.int .u8 r) ∧ Below w.heap.size w w' := by
  have HR0 := Aside0.mk hr0
  have HC0 := Aside0.mk hc0
  clear hr0 hc0
  have HB := Aside0.mk (Below.refl w.heap.size w)
  have H : ((spec_l1Source.f l0).bind fun bt592 => ((spec_l1Next.f bt592.1 bt592.2 256).bind fun bt595 => (some ((bt595.1) % 256)))) = some r := h
  clear h
  replace H := Option.bind_eq_some_iff.mp H
  obtain ⟨⟨t592, t593⟩, A20, H⟩ := H
  replace H : ((spec_l1Next.f t592 t593 256).bind fun bt595 => (some ((bt595.1) % 256))) = some r := H
  have A2 := Aside0.mk A20
  clear A20
  replace H := Option.bind_eq_some_iff.mp H
  obtain ⟨⟨t595, t596⟩, A30, H⟩ := H
  replace H : (some ((t595) % 256)) = some r := H
  have A3 := Aside0.mk A30
  clear A30
  obtain rfl := Option.some.inj H
  go_enter Try.func61, Try.ntmps61
  go_wp2_with (first | ((with_reducible refine gate_callee (f := 65) rfl ?_); refine goesL_ (some 4) rfl rfl Try.func65 (by kernel_rfl) rfl #[.slice A0 l0.length c0] rfl (by (try simp only [List.map_toArray, List.map_cons, List.map_nil]); first | done | rfl | (simp only [List.length_drop, List.length_take]; rfl)) ?_; (with_reducible refine (spec_l1Source.calls _ _ l0 t592 t593 w _ ?side1 ?side2 ?side3 A2.out).mono ?_); (case side1 => repeat (first | (with_reducible first | exact HB.out | apply below_alloc | apply pw_below_drewN | apply below_drew1) | exact HB.out)); (case side2 => exact HR0.out); (case side3 => exact HC0.out); rintro e w4 ⟨g594, rfl, hi, hb, hb2⟩; refine ⟨_, rfl, ?_⟩; have n0_ := Aside0.mk (hb); have n1_ := Aside0.mk (hi); clear HB; have HB := n0_; have HI594 := n1_; clear n0_ n1_; (try clear hb); (try clear hb2); (try clear hk); (try clear hi)) | ((with_reducible refine gate_callee (f := 98) rfl ?_); refine goesL_ (some 5) rfl rfl Try.func98 (by kernel_rfl) rfl #[.pointer (some ⟨g594, 0, none⟩), .int .i64 256] rfl (by (try simp only [List.map_toArray, List.map_cons, List.map_nil]); first | done | rfl | (simp only [List.length_drop, List.length_take]; rfl)) ?_; (with_reducible refine (spec_l1Next.calls g594 t592 t593 256 t595 t596 w _ ?side1 ?side2 A3.out).mono ?_); (case side1 => repeat (first | (with_reducible first | exact HI594.out | apply IsS111.alloc | apply IsS111.drewN | apply IsS111.drew | apply IsS111.set_1) | exact HI594.out)); (case side2 => repeat (first | (with_reducible first | exact HB.out | apply below_alloc | apply pw_below_drewN | apply below_drew1 | refine below_set ?_ (IsS111.ge HI594.out)) | exact HB.out)); rintro e w5 ⟨rfl, hi, hb, hk⟩; refine ⟨_, rfl, ?_⟩; have n0_ := Aside0.mk (hb); have n1_ := Aside0.mk (hi); clear HB; clear HI594; have HB := n0_; have HI594 := n1_; clear n0_ n1_; (try clear hb); (try clear hb2); (try clear hk); (try clear hi)))
  go_ret
  exact ⟨by first | rfl | (simp [errW_none, errW_some] <;> rfl) | (simp [*, errW_none, errW_some] <;> rfl), by repeat (first | (with_reducible first | exact HB.out | apply below_alloc | apply pw_below_drewN | apply below_drew1 | refine below_set ?_ (IsS111.ge HI594.out)) | exact HB.out)⟩

/-! ### laws_FnFields: function 14 -/
mutual
def laws_FnFields.j0 : Nat → Int → Int → Int → Int → Int → Bool → Option (Bool)
  | 0, _, _, _, _, _, _ => none
  | k + 1, x3, x4, x5, x6, x7, x66 => if x66 = true then (some false) else (if x5 = 0 then (laws_FnFields.j1 k x3 x4 x5 x6 (x7 != 0)) else ((impl_FieldTimes.f k x5 x7).bind fun t612 => (if t612 = 1 then (laws_FnFields.j1 k x3 x4 x5 x6 false) else (laws_FnFields.j1 k x3 x4 x5 x6 true))))
def laws_FnFields.j1 : Nat → Int → Int → Int → Int → Bool → Option (Bool)
  | 0, _, _, _, _, _ => none
  | k + 1, x3, x4, x5, x6, x82 => if x82 = true then (some false) else ((spec_FieldInverse.f k x6).bind fun t613 => (laws_FnFields.l0 k x3 x4 x5 x6 t613 99 0))
def laws_FnFields.l0 : Nat → Int → Int → Int → Int → Int → Int → Int → Option (Bool)
  | 0, _, _, _, _, _, _, _ => none
  | k + 1, x3, x4, x5, x6, x8, x9, x10 => if x10 < 5 then (if x10 = 0 then (laws_FnFields.l0 k x3 x4 x5 x6 x8 (Go.bits .xor .u8 x9 x8) (IntKind.u64.wrap (x10 + 1))) else (if 0 ≤ x10 then (if 0 ≤ (IntKind.u64.wrap (8 - x10)) then (laws_FnFields.l0 k x3 x4 x5 x6 x8 (Go.bits .xor .u8 x9 (Go.bits .or .u8 (shl .u8 x8 x10) (shr .u8 x8 (IntKind.u64.wrap (8 - x10))))) (IntKind.u64.wrap (x10 + 1))) else (none)) else (none))) else ((impl_SubByte.f x6).bind fun t614 => (if t614 = x9 then ((impl_FieldTimes.f k x3 x4).bind fun t615 => ((impl_FieldTimes.f k t615 x5).bind fun t616 => ((impl_FieldTimes.f k x4 x5).bind fun t617 => ((impl_FieldTimes.f k x3 t617).bind fun t618 => (some (t616 == t618)))))) else (some false)))
end
def laws_FnFields.f (k : Nat) (l0 : List Int) : Option (Bool) := (laws_lwBig.f l0).bind fun t597 => (if t597 = true then (some true) else ((spec_DrawFieldTimes.f l0).bind fun bt598 => ((spec_DrawFieldInverse.f l0).bind fun t600 => ((spec_DrawSubByte.f l0).bind fun t601 => ((impl_FieldInverse.f k t600).bind fun t602 => ((impl_FieldTimes.f k bt598.1 bt598.2).bind fun t603 => ((spec_FieldTimes.f k bt598.1 bt598.2).bind fun t604 => (if t603 = t604 then ((spec_FieldInverse.f k t600).bind fun t605 => (if t602 = t605 then ((impl_FieldTimes.f k bt598.1 bt598.2).bind fun t606 => ((impl_FieldTimes.f k bt598.2 bt598.1).bind fun t607 => (if t606 = t607 then ((impl_FieldTimes.f k bt598.1 (Go.bits .xor .u8 bt598.2 t600)).bind fun t608 => ((impl_FieldTimes.f k bt598.1 bt598.2).bind fun t609 => ((impl_FieldTimes.f k bt598.1 t600).bind fun t610 => (if t608 = (Go.bits .xor .u8 t609 t610) then ((impl_FieldTimes.f k bt598.1 1).bind fun t611 => (laws_FnFields.j0 k bt598.1 bt598.2 t600 t601 t602 (t611 != bt598.1))) else (laws_FnFields.j0 k bt598.1 bt598.2 t600 t601 t602 true))))) else (laws_FnFields.j0 k bt598.1 bt598.2 t600 t601 t602 true)))) else (laws_FnFields.j0 k bt598.1 bt598.2 t600 t601 t602 true))) else (laws_FnFields.j0 k bt598.1 bt598.2 t600 t601 t602 true)))))))))
theorem laws_FnFields.mono_l : ∀ k, (∀ y0 y1 y2 y3 y4 y5, LeO (laws_FnFields.j0 k y0 y1 y2 y3 y4 y5) (laws_FnFields.j0 (k + 1) y0 y1 y2 y3 y4 y5)) ∧ (∀ y0 y1 y2 y3 y4, LeO (laws_FnFields.j1 k y0 y1 y2 y3 y4) (laws_FnFields.j1 (k + 1) y0 y1 y2 y3 y4)) ∧ (∀ y0 y1 y2 y3 y4 y5 y6, LeO (laws_FnFields.l0 k y0 y1 y2 y3 y4 y5 y6) (laws_FnFields.l0 (k + 1) y0 y1 y2 y3 y4 y5 y6))
  | 0 => ⟨fun _ _ _ _ _ _ r h => by simp [laws_FnFields.j0] at h, fun _ _ _ _ _ r h => by simp [laws_FnFields.j1] at h, fun _ _ _ _ _ _ _ r h => by simp [laws_FnFields.l0] at h⟩
  | k + 1 => by
    obtain ⟨ih0, ih1, ih2⟩ := laws_FnFields.mono_l k
    refine ⟨?_, ?_, ?_⟩
    · intro y0 y1 y2 y3 y4 y5
      unfold laws_FnFields.j0
      repeat' first
      | (with_reducible exact ih0 _ _ _ _ _ _)
      | (with_reducible exact ih1 _ _ _ _ _)
      | (with_reducible exact ih2 _ _ _ _ _ _ _)
      | (with_reducible exact impl_FieldInverse.mono _ _)
      | (with_reducible exact impl_FieldTimes.mono _ _ _)
      | (with_reducible exact spec_FieldInverse.mono _ _)
      | (with_reducible exact spec_FieldTimes.mono _ _ _)
      | (with_reducible exact LeO.refl _)
      | (with_reducible exact LeO.none _)
      | (with_reducible refine LeO.ite ?_ ?_)
      | (with_reducible refine LeO.bind ?_ (fun _ => ?_))
      | exact ih0 _ _ _ _ _ _
      | exact ih1 _ _ _ _ _
      | exact ih2 _ _ _ _ _ _ _
      | exact impl_FieldInverse.mono _ _
      | exact impl_FieldTimes.mono _ _ _
      | exact spec_FieldInverse.mono _ _
      | exact spec_FieldTimes.mono _ _ _
      | exact LeO.none _
      | refine LeO.ite ?_ ?_
      | refine LeO.bind ?_ (fun _ => ?_)
    · intro y0 y1 y2 y3 y4
      unfold laws_FnFields.j1
      repeat' first
      | (with_reducible exact ih0 _ _ _ _ _ _)
      | (with_reducible exact ih1 _ _ _ _ _)
      | (with_reducible exact ih2 _ _ _ _ _ _ _)
      | (with_reducible exact impl_FieldInverse.mono _ _)
      | (with_reducible exact impl_FieldTimes.mono _ _ _)
      | (with_reducible exact spec_FieldInverse.mono _ _)
      | (with_reducible exact spec_FieldTimes.mono _ _ _)
      | (with_reducible exact LeO.refl _)
      | (with_reducible exact LeO.none _)
      | (with_reducible refine LeO.ite ?_ ?_)
      | (with_reducible refine LeO.bind ?_ (fun _ => ?_))
      | exact ih0 _ _ _ _ _ _
      | exact ih1 _ _ _ _ _
      | exact ih2 _ _ _ _ _ _ _
      | exact impl_FieldInverse.mono _ _
      | exact impl_FieldTimes.mono _ _ _
      | exact spec_FieldInverse.mono _ _
      | exact spec_FieldTimes.mono _ _ _
      | exact LeO.none _
      | refine LeO.ite ?_ ?_
      | refine LeO.bind ?_ (fun _ => ?_)
    · intro y0 y1 y2 y3 y4 y5 y6
      unfold laws_FnFields.l0
      repeat' first
      | (with_reducible exact ih0 _ _ _ _ _ _)
      | (with_reducible exact ih1 _ _ _ _ _)
      | (with_reducible exact ih2 _ _ _ _ _ _ _)
      | (with_reducible exact impl_FieldInverse.mono _ _)
      | (with_reducible exact impl_FieldTimes.mono _ _ _)
      | (with_reducible exact spec_FieldInverse.mono _ _)
      | (with_reducible exact spec_FieldTimes.mono _ _ _)
      | (with_reducible exact LeO.refl _)
      | (with_reducible exact LeO.none _)
      | (with_reducible refine LeO.ite ?_ ?_)
      | (with_reducible refine LeO.bind ?_ (fun _ => ?_))
      | exact ih0 _ _ _ _ _ _
      | exact ih1 _ _ _ _ _
      | exact ih2 _ _ _ _ _ _ _
      | exact impl_FieldInverse.mono _ _
      | exact impl_FieldTimes.mono _ _ _
      | exact spec_FieldInverse.mono _ _
      | exact spec_FieldTimes.mono _ _ _
      | exact LeO.none _
      | refine LeO.ite ?_ ?_
      | refine LeO.bind ?_ (fun _ => ?_)
theorem laws_FnFields.mono : ∀ a0 k, LeO (laws_FnFields.f k a0) (laws_FnFields.f (k + 1) a0) := by
  intro a0 k
  obtain ⟨ih0, ih1, ih2⟩ := laws_FnFields.mono_l k
  unfold laws_FnFields.f
  repeat' first
      | (with_reducible exact ih0 _ _ _ _ _ _)
      | (with_reducible exact ih1 _ _ _ _ _)
      | (with_reducible exact ih2 _ _ _ _ _ _ _)
      | (with_reducible exact impl_FieldInverse.mono _ _)
      | (with_reducible exact impl_FieldTimes.mono _ _ _)
      | (with_reducible exact spec_FieldInverse.mono _ _)
      | (with_reducible exact spec_FieldTimes.mono _ _ _)
      | (with_reducible exact LeO.refl _)
      | (with_reducible exact LeO.none _)
      | (with_reducible refine LeO.ite ?_ ?_)
      | (with_reducible refine LeO.bind ?_ (fun _ => ?_))
      | exact ih0 _ _ _ _ _ _
      | exact ih1 _ _ _ _ _
      | exact ih2 _ _ _ _ _ _ _
      | exact impl_FieldInverse.mono _ _
      | exact impl_FieldTimes.mono _ _ _
      | exact spec_FieldInverse.mono _ _
      | exact spec_FieldTimes.mono _ _ _
      | exact LeO.none _
      | refine LeO.ite ?_ ?_
      | refine LeO.bind ?_ (fun _ => ?_)
set_option maxHeartbeats 8000000 in
set_option maxRecDepth 100000 in
theorem laws_FnFields.calls (k : Nat) (A0 : Option Addr) (c0 : Nat) (l0 : List Int) (r : Bool) (w : World) (hr0 : Kd.C (Kd.int .u8) w A0 l0.length l0) (hc0 : l0.length ≤ c0) (h : laws_FnFields.f k l0 = some r) :
    Calls Try.prog 14 #[.slice A0 l0.length c0] w fun e w' => e = .returned (.bool r) ∧ Below w.heap.size w w' := by
  have HR0 := Aside0.mk hr0
  have HC0 := Aside0.mk hc0
  clear hr0 hc0
  have HB := Aside0.mk (Below.refl w.heap.size w)
  have H : ((laws_lwBig.f l0).bind fun t597 => (if t597 = true then (some true) else ((spec_DrawFieldTimes.f l0).bind fun bt598 => ((spec_DrawFieldInverse.f l0).bind fun t600 => ((spec_DrawSubByte.f l0).bind fun t601 => ((impl_FieldInverse.f k t600).bind fun t602 => ((impl_FieldTimes.f k bt598.1 bt598.2).bind fun t603 => ((spec_FieldTimes.f k bt598.1 bt598.2).bind fun t604 => (if t603 = t604 then ((spec_FieldInverse.f k t600).bind fun t605 => (if t602 = t605 then ((impl_FieldTimes.f k bt598.1 bt598.2).bind fun t606 => ((impl_FieldTimes.f k bt598.2 bt598.1).bind fun t607 => (if t606 = t607 then ((impl_FieldTimes.f k bt598.1 (Go.bits .xor .u8 bt598.2 t600)).bind fun t608 => ((impl_FieldTimes.f k bt598.1 bt598.2).bind fun t609 => ((impl_FieldTimes.f k bt598.1 t600).bind fun t610 => (if t608 = (Go.bits .xor .u8 t609 t610) then ((impl_FieldTimes.f k bt598.1 1).bind fun t611 => (laws_FnFields.j0 k bt598.1 bt598.2 t600 t601 t602 (t611 != bt598.1))) else (laws_FnFields.j0 k bt598.1 bt598.2 t600 t601 t602 true))))) else (laws_FnFields.j0 k bt598.1 bt598.2 t600 t601 t602 true)))) else (laws_FnFields.j0 k bt598.1 bt598.2 t600 t601 t602 true))) else (laws_FnFields.j0 k bt598.1 bt598.2 t600 t601 t602 true)))))))))) = some r := h
  clear h
  replace H := Option.bind_eq_some_iff.mp H
  obtain ⟨t597, A20, H⟩ := H
  replace H : (if t597 = true then (some true) else ((spec_DrawFieldTimes.f l0).bind fun bt598 => ((spec_DrawFieldInverse.f l0).bind fun t600 => ((spec_DrawSubByte.f l0).bind fun t601 => ((impl_FieldInverse.f k t600).bind fun t602 => ((impl_FieldTimes.f k bt598.1 bt598.2).bind fun t603 => ((spec_FieldTimes.f k bt598.1 bt598.2).bind fun t604 => (if t603 = t604 then ((spec_FieldInverse.f k t600).bind fun t605 => (if t602 = t605 then ((impl_FieldTimes.f k bt598.1 bt598.2).bind fun t606 => ((impl_FieldTimes.f k bt598.2 bt598.1).bind fun t607 => (if t606 = t607 then ((impl_FieldTimes.f k bt598.1 (Go.bits .xor .u8 bt598.2 t600)).bind fun t608 => ((impl_FieldTimes.f k bt598.1 bt598.2).bind fun t609 => ((impl_FieldTimes.f k bt598.1 t600).bind fun t610 => (if t608 = (Go.bits .xor .u8 t609 t610) then ((impl_FieldTimes.f k bt598.1 1).bind fun t611 => (laws_FnFields.j0 k bt598.1 bt598.2 t600 t601 t602 (t611 != bt598.1))) else (laws_FnFields.j0 k bt598.1 bt598.2 t600 t601 t602 true))))) else (laws_FnFields.j0 k bt598.1 bt598.2 t600 t601 t602 true)))) else (laws_FnFields.j0 k bt598.1 bt598.2 t600 t601 t602 true))) else (laws_FnFields.j0 k bt598.1 bt598.2 t600 t601 t602 true))))))))) = some r := H
  have A2 := Aside0.mk A20
  clear A20
  by_cases c3 : t597 = true
  · subst c3
    have H1 : (some true) = some r := by rw [if_pos rfl] at H; exact H
    clear H
    have H := H1
    clear H1
    obtain rfl := Option.some.inj H
    go_enter Try.func14, Try.ntmps14
    go_wp2_with (first | ((with_reducible refine gate_callee (f := 25) rfl ?_); refine goesL_ (some 12) rfl rfl Try.func25 (by kernel_rfl) rfl #[.slice A0 l0.length c0] rfl (by (try simp only [List.map_toArray, List.map_cons, List.map_nil]); first | done | rfl | (simp only [List.length_drop, List.length_take]; rfl)) ?_; (with_reducible refine (laws_lwBig.calls _ _ l0 true _ ?side1 ?side2 A2.out).mono ?_); (case side1 => repeat (first | exact HR0.out | (with_reducible refine Kd.C_alloc ?_ _) | (with_reducible refine Kd.C_drewN ?_ _) | (with_reducible refine Kd.C_drew ?_))); (case side2 => exact HC0.out); rintro e w' ⟨rfl, ⟨nd, rfl⟩⟩; refine ⟨_, rfl, ?_⟩))
    go_ret
    exact ⟨by first | rfl | (simp [errW_none, errW_some] <;> rfl) | (simp [*, errW_none, errW_some] <;> rfl), by repeat (first | (with_reducible first | exact HB.out | apply below_alloc | apply pw_below_drewN | apply below_drew1) | exact HB.out)⟩
  · replace c3 := Bool.eq_false_iff.mpr c3
    subst c3
    have H1 : ((spec_DrawFieldTimes.f l0).bind fun bt598 => ((spec_DrawFieldInverse.f l0).bind fun t600 => ((spec_DrawSubByte.f l0).bind fun t601 => ((impl_FieldInverse.f k t600).bind fun t602 => ((impl_FieldTimes.f k bt598.1 bt598.2).bind fun t603 => ((spec_FieldTimes.f k bt598.1 bt598.2).bind fun t604 => (if t603 = t604 then ((spec_FieldInverse.f k t600).bind fun t605 => (if t602 = t605 then ((impl_FieldTimes.f k bt598.1 bt598.2).bind fun t606 => ((impl_FieldTimes.f k bt598.2 bt598.1).bind fun t607 => (if t606 = t607 then ((impl_FieldTimes.f k bt598.1 (Go.bits .xor .u8 bt598.2 t600)).bind fun t608 => ((impl_FieldTimes.f k bt598.1 bt598.2).bind fun t609 => ((impl_FieldTimes.f k bt598.1 t600).bind fun t610 => (if t608 = (Go.bits .xor .u8 t609 t610) then ((impl_FieldTimes.f k bt598.1 1).bind fun t611 => (laws_FnFields.j0 k bt598.1 bt598.2 t600 t601 t602 (t611 != bt598.1))) else (laws_FnFields.j0 k bt598.1 bt598.2 t600 t601 t602 true))))) else (laws_FnFields.j0 k bt598.1 bt598.2 t600 t601 t602 true)))) else (laws_FnFields.j0 k bt598.1 bt598.2 t600 t601 t602 true))) else (laws_FnFields.j0 k bt598.1 bt598.2 t600 t601 t602 true)))))))) = some r := by rw [if_neg (show ¬ (false = true) by decide)] at H; exact H
    clear H
    have H := H1
    clear H1
    replace H := Option.bind_eq_some_iff.mp H
    obtain ⟨⟨t598, t599⟩, A40, H⟩ := H
    replace H : ((spec_DrawFieldInverse.f l0).bind fun t600 => ((spec_DrawSubByte.f l0).bind fun t601 => ((impl_FieldInverse.f k t600).bind fun t602 => ((impl_FieldTimes.f k t598 t599).bind fun t603 => ((spec_FieldTimes.f k t598 t599).bind fun t604 => (if t603 = t604 then ((spec_FieldInverse.f k t600).bind fun t605 => (if t602 = t605 then ((impl_FieldTimes.f k t598 t599).bind fun t606 => ((impl_FieldTimes.f k t599 t598).bind fun t607 => (if t606 = t607 then ((impl_FieldTimes.f k t598 (Go.bits .xor .u8 t599 t600)).bind fun t608 => ((impl_FieldTimes.f k t598 t599).bind fun t609 => ((impl_FieldTimes.f k t598 t600).bind fun t610 => (if t608 = (Go.bits .xor .u8 t609 t610) then ((impl_FieldTimes.f k t598 1).bind fun t611 => (laws_FnFields.j0 k t598 t599 t600 t601 t602 (t611 != t598))) else (laws_FnFields.j0 k t598 t599 t600 t601 t602 true))))) else (laws_FnFields.j0 k t598 t599 t600 t601 t602 true)))) else (laws_FnFields.j0 k t598 t599 t600 t601 t602 true))) else (laws_FnFields.j0 k t598 t599 t600 t601 t602 true))))))) = some r := H
    have A4 := Aside0.mk A40
    clear A40
    replace H := Option.bind_eq_some_iff.mp H
    obtain ⟨t600, A50, H⟩ := H
    replace H : ((spec_DrawSubByte.f l0).bind fun t601 => ((impl_FieldInverse.f k t600).bind fun t602 => ((impl_FieldTimes.f k t598 t599).bind fun t603 => ((spec_FieldTimes.f k t598 t599).bind fun t604 => (if t603 = t604 then ((spec_FieldInverse.f k t600).bind fun t605 => (if t602 = t605 then ((impl_FieldTimes.f k t598 t599).bind fun t606 => ((impl_FieldTimes.f k t599 t598).bind fun t607 => (if t606 = t607 then ((impl_FieldTimes.f k t598 (Go.bits .xor .u8 t599 t600)).bind fun t608 => ((impl_FieldTimes.f k t598 t599).bind fun t609 => ((impl_FieldTimes.f k t598 t600).bind fun t610 => (if t608 = (Go.bits .xor .u8 t609 t610) then ((impl_FieldTimes.f k t598 1).bind fun t611 => (laws_FnFields.j0 k t598 t599 t600 t601 t602 (t611 != t598))) else (laws_FnFields.j0 k t598 t599 t600 t601 t602 true))))) else (laws_FnFields.j0 k t598 t599 t600 t601 t602 true)))) else (laws_FnFields.j0 k t598 t599 t600 t601 t602 true))) else (laws_FnFields.j0 k t598 t599 t600 t601 t602 true)))))) = some r := H
    have A5 := Aside0.mk A50
    clear A50
    replace H := Option.bind_eq_some_iff.mp H
    obtain ⟨t601, A60, H⟩ := H
    replace H : ((impl_FieldInverse.f k t600).bind fun t602 => ((impl_FieldTimes.f k t598 t599).bind fun t603 => ((spec_FieldTimes.f k t598 t599).bind fun t604 => (if t603 = t604 then ((spec_FieldInverse.f k t600).bind fun t605 => (if t602 = t605 then ((impl_FieldTimes.f k t598 t599).bind fun t606 => ((impl_FieldTimes.f k t599 t598).bind fun t607 => (if t606 = t607 then ((impl_FieldTimes.f k t598 (Go.bits .xor .u8 t599 t600)).bind fun t608 => ((impl_FieldTimes.f k t598 t599).bind fun t609 => ((impl_FieldTimes.f k t598 t600).bind fun t610 => (if t608 = (Go.bits .xor .u8 t609 t610) then ((impl_FieldTimes.f k t598 1).bind fun t611 => (laws_FnFields.j0 k t598 t599 t600 t601 t602 (t611 != t598))) else (laws_FnFields.j0 k t598 t599 t600 t601 t602 true))))) else (laws_FnFields.j0 k t598 t599 t600 t601 t602 true)))) else (laws_FnFields.j0 k t598 t599 t600 t601 t602 true))) else (laws_FnFields.j0 k t598 t599 t600 t601 t602 true))))) = some r := H
    have A6 := Aside0.mk A60
    clear A60
    replace H := Option.bind_eq_some_iff.mp H
    obtain ⟨t602, A70, H⟩ := H
    replace H : ((impl_FieldTimes.f k t598 t599).bind fun t603 => ((spec_FieldTimes.f k t598 t599).bind fun t604 => (if t603 = t604 then ((spec_FieldInverse.f k t600).bind fun t605 => (if t602 = t605 then ((impl_FieldTimes.f k t598 t599).bind fun t606 => ((impl_FieldTimes.f k t599 t598).bind fun t607 => (if t606 = t607 then ((impl_FieldTimes.f k t598 (Go.bits .xor .u8 t599 t600)).bind fun t608 => ((impl_FieldTimes.f k t598 t599).bind fun t609 => ((impl_FieldTimes.f k t598 t600).bind fun t610 => (if t608 = (Go.bits .xor .u8 t609 t610) then ((impl_FieldTimes.f k t598 1).bind fun t611 => (laws_FnFields.j0 k t598 t599 t600 t601 t602 (t611 != t598))) else (laws_FnFields.j0 k t598 t599 t600 t601 t602 true))))) else (laws_FnFields.j0 k t598 t599 t600 t601 t602 true)))) else (laws_FnFields.j0 k t598 t599 t600 t601 t602 true))) else (laws_FnFields.j0 k t598 t599 t600 t601 t602 true)))) = some r := H
    have A7 := Aside0.mk A70
    clear A70
    have HC8 := Aside0.mk H
    clear H
    go_enter Try.func14, Try.ntmps14
    go_upto_region 7 with (first | ((with_reducible refine gate_callee (f := 25) rfl ?_); refine goesL_ (some 12) rfl rfl Try.func25 (by kernel_rfl) rfl #[.slice A0 l0.length c0] rfl (by (try simp only [List.map_toArray, List.map_cons, List.map_nil]); first | done | rfl | (simp only [List.length_drop, List.length_take]; rfl)) ?_; (with_reducible refine (laws_lwBig.calls _ _ l0 false _ ?side1 ?side2 A2.out).mono ?_); (case side1 => repeat (first | exact HR0.out | (with_reducible refine Kd.C_alloc ?_ _) | (with_reducible refine Kd.C_drewN ?_ _) | (with_reducible refine Kd.C_drew ?_))); (case side2 => exact HC0.out); rintro e w' ⟨rfl, ⟨nd, rfl⟩⟩; refine ⟨_, rfl, ?_⟩) | ((with_reducible refine gate_callee (f := 59) rfl ?_); refine goesL_ (some 15) rfl rfl Try.func59 (by kernel_rfl) rfl #[.slice A0 l0.length c0] rfl (by (try simp only [List.map_toArray, List.map_cons, List.map_nil]); first | done | rfl | (simp only [List.length_drop, List.length_take]; rfl)) ?_; (with_reducible refine (spec_DrawFieldTimes.calls _ _ l0 t598 t599 _ ?side1 ?side2 A4.out).mono ?_); (case side1 => repeat (first | exact HR0.out | (with_reducible refine Kd.C_alloc ?_ _) | (with_reducible refine Kd.C_drewN ?_ _) | (with_reducible refine Kd.C_drew ?_))); (case side2 => exact HC0.out); rintro e w9 ⟨rfl, hb⟩; refine ⟨_, rfl, ?_⟩; have n0_ := Aside0.mk (below_step (by repeat (first | (with_reducible first | exact HB.out | apply below_alloc | apply pw_below_drewN | apply below_drew1) | exact HB.out)) hb); clear HB; have HB := n0_; clear n0_; (try clear hb); (try clear hb2); (try clear hk); (try clear hi)) | ((with_reducible refine gate_callee (f := 60) rfl ?_); refine goesL_ (some 19) rfl rfl Try.func60 (by kernel_rfl) rfl #[.slice A0 l0.length c0] rfl (by (try simp only [List.map_toArray, List.map_cons, List.map_nil]); first | done | rfl | (simp only [List.length_drop, List.length_take]; rfl)) ?_; (with_reducible refine (spec_DrawFieldInverse.calls _ _ l0 t600 _ ?side1 ?side2 A5.out).mono ?_); (case side1 => repeat (first | exact (Kd.C_below HR0.out HB.out) | (with_reducible refine Kd.C_alloc ?_ _) | (with_reducible refine Kd.C_drewN ?_ _) | (with_reducible refine Kd.C_drew ?_))); (case side2 => exact HC0.out); rintro e w10 ⟨rfl, hb⟩; refine ⟨_, rfl, ?_⟩; have n0_ := Aside0.mk (below_step (by repeat (first | (with_reducible first | exact HB.out | apply below_alloc | apply pw_below_drewN | apply below_drew1) | exact HB.out)) hb); clear HB; have HB := n0_; clear n0_; (try clear hb); (try clear hb2); (try clear hk); (try clear hi)) | ((with_reducible refine gate_callee (f := 61) rfl ?_); refine goesL_ (some 21) rfl rfl Try.func61 (by kernel_rfl) rfl #[.slice A0 l0.length c0] rfl (by (try simp only [List.map_toArray, List.map_cons, List.map_nil]); first | done | rfl | (simp only [List.length_drop, List.length_take]; rfl)) ?_; (with_reducible refine (spec_DrawSubByte.calls _ _ l0 t601 _ ?side1 ?side2 A6.out).mono ?_); (case side1 => repeat (first | exact (Kd.C_below HR0.out HB.out) | (with_reducible refine Kd.C_alloc ?_ _) | (with_reducible refine Kd.C_drewN ?_ _) | (with_reducible refine Kd.C_drew ?_))); (case side2 => exact HC0.out); rintro e w11 ⟨rfl, hb⟩; refine ⟨_, rfl, ?_⟩; have n0_ := Aside0.mk (below_step (by repeat (first | (with_reducible first | exact HB.out | apply below_alloc | apply pw_below_drewN | apply below_drew1) | exact HB.out)) hb); clear HB; have HB := n0_; clear n0_; (try clear hb); (try clear hb2); (try clear hk); (try clear hi)) | ((with_reducible refine gate_callee (f := 24) rfl ?_); refine goesL_ (some 23) rfl rfl Try.func24 (by kernel_rfl) rfl #[.int .u8 t600] rfl (by (try simp only [List.map_toArray, List.map_cons, List.map_nil]); first | done | rfl | (simp only [List.length_drop, List.length_take]; rfl)) ?_; (with_reducible refine (impl_FieldInverse.calls k t600 t602 _ A7.out).mono ?_); rintro e w' ⟨rfl, ⟨nd, rfl⟩⟩; refine ⟨_, rfl, ?_⟩))
    (try simp only [Act.put, List.setIfInBounds_toArray, List.set_cons_zero, List.set_cons_succ])
    go_cut [66] (fun v66 wc => ∃ (kq : Nat) (x66_7 : Bool), v66 = .bool x66_7 ∧ Aside0 (laws_FnFields.j0 kq t598 t599 t600 t601 t602 x66_7 = some r) ∧ Aside0 (kq ≤ k) ∧ Aside0 (Below w.heap.size w wc))
    case first =>
      have H := HC8.out
      clear HC8
      replace H := Option.bind_eq_some_iff.mp H
      obtain ⟨t603, A120, H⟩ := H
      replace H : ((spec_FieldTimes.f k t598 t599).bind fun t604 => (if t603 = t604 then ((spec_FieldInverse.f k t600).bind fun t605 => (if t602 = t605 then ((impl_FieldTimes.f k t598 t599).bind fun t606 => ((impl_FieldTimes.f k t599 t598).bind fun t607 => (if t606 = t607 then ((impl_FieldTimes.f k t598 (Go.bits .xor .u8 t599 t600)).bind fun t608 => ((impl_FieldTimes.f k t598 t599).bind fun t609 => ((impl_FieldTimes.f k t598 t600).bind fun t610 => (if t608 = (Go.bits .xor .u8 t609 t610) then ((impl_FieldTimes.f k t598 1).bind fun t611 => (laws_FnFields.j0 k t598 t599 t600 t601 t602 (t611 != t598))) else (laws_FnFields.j0 k t598 t599 t600 t601 t602 true))))) else (laws_FnFields.j0 k t598 t599 t600 t601 t602 true)))) else (laws_FnFields.j0 k t598 t599 t600 t601 t602 true))) else (laws_FnFields.j0 k t598 t599 t600 t601 t602 true))) = some r := H
      have A12 := Aside0.mk A120
      clear A120
      replace H := Option.bind_eq_some_iff.mp H
      obtain ⟨t604, A130, H⟩ := H
      replace H : (if t603 = t604 then ((spec_FieldInverse.f k t600).bind fun t605 => (if t602 = t605 then ((impl_FieldTimes.f k t598 t599).bind fun t606 => ((impl_FieldTimes.f k t599 t598).bind fun t607 => (if t606 = t607 then ((impl_FieldTimes.f k t598 (Go.bits .xor .u8 t599 t600)).bind fun t608 => ((impl_FieldTimes.f k t598 t599).bind fun t609 => ((impl_FieldTimes.f k t598 t600).bind fun t610 => (if t608 = (Go.bits .xor .u8 t609 t610) then ((impl_FieldTimes.f k t598 1).bind fun t611 => (laws_FnFields.j0 k t598 t599 t600 t601 t602 (t611 != t598))) else (laws_FnFields.j0 k t598 t599 t600 t601 t602 true))))) else (laws_FnFields.j0 k t598 t599 t600 t601 t602 true)))) else (laws_FnFields.j0 k t598 t599 t600 t601 t602 true))) else (laws_FnFields.j0 k t598 t599 t600 t601 t602 true)) = some r := H
      have A13 := Aside0.mk A130
      clear A130
      by_cases c14 : t603 = t604
      · rw [if_pos c14] at H
        have c14b0 : (t603 == t604) = true := beq_iff_eq.mpr c14
        have c14b1 : (t603 != t604) = false := bne_eq_false_iff_eq.mpr c14
        clear c14
        (first | rw [c14b0] | (simp only [i64_w, i32_w]; rw [c14b0]) | skip)
        replace H := Option.bind_eq_some_iff.mp H
        obtain ⟨t605, A150, H⟩ := H
        replace H : (if t602 = t605 then ((impl_FieldTimes.f k t598 t599).bind fun t606 => ((impl_FieldTimes.f k t599 t598).bind fun t607 => (if t606 = t607 then ((impl_FieldTimes.f k t598 (Go.bits .xor .u8 t599 t600)).bind fun t608 => ((impl_FieldTimes.f k t598 t599).bind fun t609 => ((impl_FieldTimes.f k t598 t600).bind fun t610 => (if t608 = (Go.bits .xor .u8 t609 t610) then ((impl_FieldTimes.f k t598 1).bind fun t611 => (laws_FnFields.j0 k t598 t599 t600 t601 t602 (t611 != t598))) else (laws_FnFields.j0 k t598 t599 t600 t601 t602 true))))) else (laws_FnFields.j0 k t598 t599 t600 t601 t602 true)))) else (laws_FnFields.j0 k t598 t599 t600 t601 t602 true)) = some r := H
        have A15 := Aside0.mk A150
        clear A150
        by_cases c16 : t602 = t605
        · rw [if_pos c16] at H
          have c16b0 : (t602 == t605) = true := beq_iff_eq.mpr c16
          have c16b1 : (t602 != t605) = false := bne_eq_false_iff_eq.mpr c16
          clear c16
          replace H := Option.bind_eq_some_iff.mp H
          obtain ⟨t606, A170, H⟩ := H
          replace H : ((impl_FieldTimes.f k t599 t598).bind fun t607 => (if t606 = t607 then ((impl_FieldTimes.f k t598 (Go.bits .xor .u8 t599 t600)).bind fun t608 => ((impl_FieldTimes.f k t598 t599).bind fun t609 => ((impl_FieldTimes.f k t598 t600).bind fun t610 => (if t608 = (Go.bits .xor .u8 t609 t610) then ((impl_FieldTimes.f k t598 1).bind fun t611 => (laws_FnFields.j0 k t598 t599 t600 t601 t602 (t611 != t598))) else (laws_FnFields.j0 k t598 t599 t600 t601 t602 true))))) else (laws_FnFields.j0 k t598 t599 t600 t601 t602 true))) = some r := H
          have A17 := Aside0.mk A170
          clear A170
          replace H := Option.bind_eq_some_iff.mp H
          obtain ⟨t607, A180, H⟩ := H
          replace H : (if t606 = t607 then ((impl_FieldTimes.f k t598 (Go.bits .xor .u8 t599 t600)).bind fun t608 => ((impl_FieldTimes.f k t598 t599).bind fun t609 => ((impl_FieldTimes.f k t598 t600).bind fun t610 => (if t608 = (Go.bits .xor .u8 t609 t610) then ((impl_FieldTimes.f k t598 1).bind fun t611 => (laws_FnFields.j0 k t598 t599 t600 t601 t602 (t611 != t598))) else (laws_FnFields.j0 k t598 t599 t600 t601 t602 true))))) else (laws_FnFields.j0 k t598 t599 t600 t601 t602 true)) = some r := H
          have A18 := Aside0.mk A180
          clear A180
          by_cases c19 : t606 = t607
          · rw [if_pos c19] at H
            have c19b0 : (t606 == t607) = true := beq_iff_eq.mpr c19
            have c19b1 : (t606 != t607) = false := bne_eq_false_iff_eq.mpr c19
            clear c19
            replace H := Option.bind_eq_some_iff.mp H
            obtain ⟨t608, A200, H⟩ := H
            replace H : ((impl_FieldTimes.f k t598 t599).bind fun t609 => ((impl_FieldTimes.f k t598 t600).bind fun t610 => (if t608 = (Go.bits .xor .u8 t609 t610) then ((impl_FieldTimes.f k t598 1).bind fun t611 => (laws_FnFields.j0 k t598 t599 t600 t601 t602 (t611 != t598))) else (laws_FnFields.j0 k t598 t599 t600 t601 t602 true)))) = some r := H
            have A20 := Aside0.mk A200
            clear A200
            replace H := Option.bind_eq_some_iff.mp H
            obtain ⟨t609, A210, H⟩ := H
            replace H : ((impl_FieldTimes.f k t598 t600).bind fun t610 => (if t608 = (Go.bits .xor .u8 t609 t610) then ((impl_FieldTimes.f k t598 1).bind fun t611 => (laws_FnFields.j0 k t598 t599 t600 t601 t602 (t611 != t598))) else (laws_FnFields.j0 k t598 t599 t600 t601 t602 true))) = some r := H
            have A21 := Aside0.mk A210
            have e9_ : t609 = t606 := Option.some.inj (A21.out.symm.trans A17.out)
            clear A17
            subst e9_
            clear A210
            replace H := Option.bind_eq_some_iff.mp H
            obtain ⟨t610, A220, H⟩ := H
            replace H : (if t608 = (Go.bits .xor .u8 t609 t610) then ((impl_FieldTimes.f k t598 1).bind fun t611 => (laws_FnFields.j0 k t598 t599 t600 t601 t602 (t611 != t598))) else (laws_FnFields.j0 k t598 t599 t600 t601 t602 true)) = some r := H
            have A22 := Aside0.mk A220
            clear A220
            by_cases c23 : t608 = (Go.bits .xor .u8 t609 t610)
            · rw [if_pos c23] at H
              have c23b0 : (t608 == (Go.bits .xor .u8 t609 t610)) = true := beq_iff_eq.mpr c23
              have c23b1 : (t608 != (Go.bits .xor .u8 t609 t610)) = false := bne_eq_false_iff_eq.mpr c23
              clear c23
              replace H := Option.bind_eq_some_iff.mp H
              obtain ⟨t611, A240, H⟩ := H
              replace H : (laws_FnFields.j0 k t598 t599 t600 t601 t602 (t611 != t598)) = some r := H
              have A24 := Aside0.mk A240
              clear A240
              have H' := Aside0.mk H
              clear H
              go_wp2_with (first | ((with_reducible refine gate_callee (f := 22) rfl ?_); refine goesL_ (some 26) rfl rfl Try.func22 (by kernel_rfl) rfl #[.int .u8 t598, .int .u8 t599] rfl (by (try simp only [List.map_toArray, List.map_cons, List.map_nil]); first | done | rfl | (simp only [List.length_drop, List.length_take]; rfl)) ?_; (with_reducible refine (impl_FieldTimes.calls k t598 t599 t603 _ A12.out).mono ?_); rintro e w' ⟨rfl, ⟨nd, rfl⟩⟩; refine ⟨_, rfl, ?_⟩) | ((with_reducible refine gate_callee (f := 21) rfl ?_); refine goesL_ (some 29) rfl rfl Try.func21 (by kernel_rfl) rfl #[.int .u8 t598, .int .u8 t599] rfl (by (try simp only [List.map_toArray, List.map_cons, List.map_nil]); first | done | rfl | (simp only [List.length_drop, List.length_take]; rfl)) ?_; (with_reducible refine (spec_FieldTimes.calls k t598 t599 t604 _ A13.out).mono ?_); rintro e w' ⟨rfl, ⟨nd, rfl⟩⟩; refine ⟨_, rfl, ?_⟩) | (go_at_call 23; (with_reducible refine (spec_FieldInverse.calls k t600 t605 _ A15.out).mono ?_); rintro e w' ⟨rfl, ⟨nd, rfl⟩⟩) | (go_at_call 22; (with_reducible refine (impl_FieldTimes.calls k t598 t599 t606 _ A17.out).mono ?_); rintro e w' ⟨rfl, ⟨nd, rfl⟩⟩) | (go_at_call 22; (with_reducible refine (impl_FieldTimes.calls k t599 t598 t607 _ A18.out).mono ?_); rintro e w' ⟨rfl, ⟨nd, rfl⟩⟩) | (go_at_call 22; (with_reducible refine (impl_FieldTimes.calls k t598 (Go.bits .xor .u8 t599 t600) t608 _ A20.out).mono ?_); rintro e w' ⟨rfl, ⟨nd, rfl⟩⟩) | (go_at_call 22; (with_reducible refine (impl_FieldTimes.calls k t598 t599 t609 _ A21.out).mono ?_); rintro e w' ⟨rfl, ⟨nd, rfl⟩⟩) | (go_at_call 22; (with_reducible refine (impl_FieldTimes.calls k t598 t600 t610 _ A22.out).mono ?_); rintro e w' ⟨rfl, ⟨nd, rfl⟩⟩) | (go_at_call 22; (with_reducible refine (impl_FieldTimes.calls k t598 1 t611 _ A24.out).mono ?_); rintro e w' ⟨rfl, ⟨nd, rfl⟩⟩))
              go_meet
              case rel => exact ⟨_, ((t611 != t598)), (by first | rfl | (simp; done) | (simp [*]; done)), H', ⟨by first | omega | exact Nat.le_refl _⟩, ⟨by repeat (first | (with_reducible first | exact HB.out | apply below_alloc | apply pw_below_drewN | apply below_drew1) | exact HB.out)⟩⟩
            · rw [if_neg c23] at H
              have c23b0 : (t608 == (Go.bits .xor .u8 t609 t610)) = false := beq_eq_false_iff_ne.mpr c23
              have c23b1 : (t608 != (Go.bits .xor .u8 t609 t610)) = true := bne_iff_ne.mpr c23
              have H' := Aside0.mk H
              clear H
              go_wp2_with (first | ((with_reducible refine gate_callee (f := 22) rfl ?_); refine goesL_ (some 26) rfl rfl Try.func22 (by kernel_rfl) rfl #[.int .u8 t598, .int .u8 t599] rfl (by (try simp only [List.map_toArray, List.map_cons, List.map_nil]); first | done | rfl | (simp only [List.length_drop, List.length_take]; rfl)) ?_; (with_reducible refine (impl_FieldTimes.calls k t598 t599 t603 _ A12.out).mono ?_); rintro e w' ⟨rfl, ⟨nd, rfl⟩⟩; refine ⟨_, rfl, ?_⟩) | ((with_reducible refine gate_callee (f := 21) rfl ?_); refine goesL_ (some 29) rfl rfl Try.func21 (by kernel_rfl) rfl #[.int .u8 t598, .int .u8 t599] rfl (by (try simp only [List.map_toArray, List.map_cons, List.map_nil]); first | done | rfl | (simp only [List.length_drop, List.length_take]; rfl)) ?_; (with_reducible refine (spec_FieldTimes.calls k t598 t599 t604 _ A13.out).mono ?_); rintro e w' ⟨rfl, ⟨nd, rfl⟩⟩; refine ⟨_, rfl, ?_⟩) | (go_at_call 23; (with_reducible refine (spec_FieldInverse.calls k t600 t605 _ A15.out).mono ?_); rintro e w' ⟨rfl, ⟨nd, rfl⟩⟩) | (go_at_call 22; (with_reducible refine (impl_FieldTimes.calls k t598 t599 t606 _ A17.out).mono ?_); rintro e w' ⟨rfl, ⟨nd, rfl⟩⟩) | (go_at_call 22; (with_reducible refine (impl_FieldTimes.calls k t599 t598 t607 _ A18.out).mono ?_); rintro e w' ⟨rfl, ⟨nd, rfl⟩⟩) | (go_at_call 22; (with_reducible refine (impl_FieldTimes.calls k t598 (Go.bits .xor .u8 t599 t600) t608 _ A20.out).mono ?_); rintro e w' ⟨rfl, ⟨nd, rfl⟩⟩) | (go_at_call 22; (with_reducible refine (impl_FieldTimes.calls k t598 t599 t609 _ A21.out).mono ?_); rintro e w' ⟨rfl, ⟨nd, rfl⟩⟩) | (go_at_call 22; (with_reducible refine (impl_FieldTimes.calls k t598 t600 t610 _ A22.out).mono ?_); rintro e w' ⟨rfl, ⟨nd, rfl⟩⟩))
              go_meet
              case rel => exact ⟨_, (true), (by first | rfl | (simp; done) | (simp [*]; done)), H', ⟨by first | omega | exact Nat.le_refl _⟩, ⟨by repeat (first | (with_reducible first | exact HB.out | apply below_alloc | apply pw_below_drewN | apply below_drew1) | exact HB.out)⟩⟩
          · rw [if_neg c19] at H
            have c19b0 : (t606 == t607) = false := beq_eq_false_iff_ne.mpr c19
            have c19b1 : (t606 != t607) = true := bne_iff_ne.mpr c19
            have H' := Aside0.mk H
            clear H
            go_wp2_with (first | ((with_reducible refine gate_callee (f := 22) rfl ?_); refine goesL_ (some 26) rfl rfl Try.func22 (by kernel_rfl) rfl #[.int .u8 t598, .int .u8 t599] rfl (by (try simp only [List.map_toArray, List.map_cons, List.map_nil]); first | done | rfl | (simp only [List.length_drop, List.length_take]; rfl)) ?_; (with_reducible refine (impl_FieldTimes.calls k t598 t599 t603 _ A12.out).mono ?_); rintro e w' ⟨rfl, ⟨nd, rfl⟩⟩; refine ⟨_, rfl, ?_⟩) | ((with_reducible refine gate_callee (f := 21) rfl ?_); refine goesL_ (some 29) rfl rfl Try.func21 (by kernel_rfl) rfl #[.int .u8 t598, .int .u8 t599] rfl (by (try simp only [List.map_toArray, List.map_cons, List.map_nil]); first | done | rfl | (simp only [List.length_drop, List.length_take]; rfl)) ?_; (with_reducible refine (spec_FieldTimes.calls k t598 t599 t604 _ A13.out).mono ?_); rintro e w' ⟨rfl, ⟨nd, rfl⟩⟩; refine ⟨_, rfl, ?_⟩) | (go_at_call 23; (with_reducible refine (spec_FieldInverse.calls k t600 t605 _ A15.out).mono ?_); rintro e w' ⟨rfl, ⟨nd, rfl⟩⟩) | (go_at_call 22; (with_reducible refine (impl_FieldTimes.calls k t598 t599 t606 _ A17.out).mono ?_); rintro e w' ⟨rfl, ⟨nd, rfl⟩⟩) | (go_at_call 22; (with_reducible refine (impl_FieldTimes.calls k t599 t598 t607 _ A18.out).mono ?_); rintro e w' ⟨rfl, ⟨nd, rfl⟩⟩))
            go_meet
            case rel => exact ⟨_, (true), (by first | rfl | (simp; done) | (simp [*]; done)), H', ⟨by first | omega | exact Nat.le_refl _⟩, ⟨by repeat (first | (with_reducible first | exact HB.out | apply below_alloc | apply pw_below_drewN | apply below_drew1) | exact HB.out)⟩⟩
        · rw [if_neg c16] at H
          have c16b0 : (t602 == t605) = false := beq_eq_false_iff_ne.mpr c16
          have c16b1 : (t602 != t605) = true := bne_iff_ne.mpr c16
          have H' := Aside0.mk H
          clear H
          go_wp2_with (first | ((with_reducible refine gate_callee (f := 22) rfl ?_); refine goesL_ (some 26) rfl rfl Try.func22 (by kernel_rfl) rfl #[.int .u8 t598, .int .u8 t599] rfl (by (try simp only [List.map_toArray, List.map_cons, List.map_nil]); first | done | rfl | (simp only [List.length_drop, List.length_take]; rfl)) ?_; (with_reducible refine (impl_FieldTimes.calls k t598 t599 t603 _ A12.out).mono ?_); rintro e w' ⟨rfl, ⟨nd, rfl⟩⟩; refine ⟨_, rfl, ?_⟩) | ((with_reducible refine gate_callee (f := 21) rfl ?_); refine goesL_ (some 29) rfl rfl Try.func21 (by kernel_rfl) rfl #[.int .u8 t598, .int .u8 t599] rfl (by (try simp only [List.map_toArray, List.map_cons, List.map_nil]); first | done | rfl | (simp only [List.length_drop, List.length_take]; rfl)) ?_; (with_reducible refine (spec_FieldTimes.calls k t598 t599 t604 _ A13.out).mono ?_); rintro e w' ⟨rfl, ⟨nd, rfl⟩⟩; refine ⟨_, rfl, ?_⟩) | (go_at_call 23; (with_reducible refine (spec_FieldInverse.calls k t600 t605 _ A15.out).mono ?_); rintro e w' ⟨rfl, ⟨nd, rfl⟩⟩))
          go_meet
          case rel => exact ⟨_, (true), (by first | rfl | (simp; done) | (simp [*]; done)), H', ⟨by first | omega | exact Nat.le_refl _⟩, ⟨by repeat (first | (with_reducible first | exact HB.out | apply below_alloc | apply pw_below_drewN | apply below_drew1) | exact HB.out)⟩⟩
      · rw [if_neg c14] at H
        have c14b0 : (t603 == t604) = false := beq_eq_false_iff_ne.mpr c14
        have c14b1 : (t603 != t604) = true := bne_iff_ne.mpr c14
        (first | rw [c14b0] | (simp only [i64_w, i32_w]; rw [c14b0]) | skip)
        have H' := Aside0.mk H
        clear H
        go_wp2_with (first | ((with_reducible refine gate_callee (f := 22) rfl ?_); refine goesL_ (some 26) rfl rfl Try.func22 (by kernel_rfl) rfl #[.int .u8 t598, .int .u8 t599] rfl (by (try simp only [List.map_toArray, List.map_cons, List.map_nil]); first | done | rfl | (simp only [List.length_drop, List.length_take]; rfl)) ?_; (with_reducible refine (impl_FieldTimes.calls k t598 t599 t603 _ A12.out).mono ?_); rintro e w' ⟨rfl, ⟨nd, rfl⟩⟩; refine ⟨_, rfl, ?_⟩) | ((with_reducible refine gate_callee (f := 21) rfl ?_); refine goesL_ (some 29) rfl rfl Try.func21 (by kernel_rfl) rfl #[.int .u8 t598, .int .u8 t599] rfl (by (try simp only [List.map_toArray, List.map_cons, List.map_nil]); first | done | rfl | (simp only [List.length_drop, List.length_take]; rfl)) ?_; (with_reducible refine (spec_FieldTimes.calls k t598 t599 t604 _ A13.out).mono ?_); rintro e w' ⟨rfl, ⟨nd, rfl⟩⟩; refine ⟨_, rfl, ?_⟩))
        go_meet
        case rel => exact ⟨_, (true), (by first | rfl | (simp; done) | (simp [*]; done)), H', ⟨by first | omega | exact Nat.le_refl _⟩, ⟨by repeat (first | (with_reducible first | exact HB.out | apply below_alloc | apply pw_below_drewN | apply below_drew1) | exact HB.out)⟩⟩
    case rest =>
      clear HC8
      try clear c1
      try clear c2
      try clear p2
      try clear c3
      try clear c5
      try clear c6
      try clear c14
      try clear c14b0
      try clear c14b1
      try clear c16
      try clear c16b0
      try clear c16b1
      try clear c19
      try clear c19b0
      try clear c19b1
      try clear c21
      try clear c22
      try clear c23
      try clear c23b0
      try clear c23b1
      try clear c24
      obtain ⟨kq, x66_7, rfl, HA, HJ7, HB⟩ := hcut
      cases kq with
      | zero => exact absurd HA.out (by simp [laws_FnFields.j0])
      | succ kj7 =>
        have H := HA.out
        clear HA
        simp only [laws_FnFields.j0] at H
        by_cases c25 : x66_7 = true
        · subst c25
          have H1 : (some false) = some r := by rw [if_pos rfl] at H; exact H
          clear H
          have H := H1
          clear H1
          obtain rfl := Option.some.inj H
          go_wp2
          go_ret
          exact ⟨by first | rfl | (simp [errW_none, errW_some] <;> rfl) | (simp [*, errW_none, errW_some] <;> rfl), by repeat (first | (with_reducible first | exact HB.out | apply below_alloc | apply pw_below_drewN | apply below_drew1) | exact HB.out)⟩
        · replace c25 := Bool.eq_false_iff.mpr c25
          subst c25
          have H1 : (if t600 = 0 then (laws_FnFields.j1 kj7 t598 t599 t600 t601 (t602 != 0)) else ((impl_FieldTimes.f kj7 t600 t602).bind fun t612 => (if t612 = 1 then (laws_FnFields.j1 kj7 t598 t599 t600 t601 false) else (laws_FnFields.j1 kj7 t598 t599 t600 t601 true)))) = some r := by rw [if_neg (show ¬ (false = true) by decide)] at H; exact H
          clear H
          have H := H1
          clear H1
          have HC26 := Aside0.mk H
          clear H
          go_upto_region 9 with (fail)
          go_cut [82] (fun v82 wc => ∃ (kq : Nat) (x82_25 : Bool), v82 = .bool x82_25 ∧ Aside0 (laws_FnFields.j1 kq t598 t599 t600 t601 x82_25 = some r) ∧ Aside0 (kq ≤ kj7) ∧ Aside0 (Below w.heap.size w wc))
          case first =>
            have H := HC26.out
            clear HC26
            by_cases c27 : t600 = 0
            · rw [if_pos c27] at H
              have c27b0 : (t600 == 0) = true := beq_iff_eq.mpr c27
              have c27b1 : (t600 != 0) = false := bne_eq_false_iff_eq.mpr c27
              clear c27
              (first | rw [c27b0] | (simp only [i64_w, i32_w]; rw [c27b0]) | skip)
              have H' := Aside0.mk H
              clear H
              go_wp2
              go_meet
              case rel => exact ⟨_, ((t602 != 0)), (by first | rfl | (simp; done) | (simp [*]; done)), H', ⟨by have := HJ7.out; first | omega | exact Nat.le_refl _⟩, ⟨by repeat (first | (with_reducible first | exact HB.out | apply below_alloc | apply pw_below_drewN | apply below_drew1) | exact HB.out)⟩⟩
            · rw [if_neg c27] at H
              have c27b0 : (t600 == 0) = false := beq_eq_false_iff_ne.mpr c27
              have c27b1 : (t600 != 0) = true := bne_iff_ne.mpr c27
              (first | rw [c27b0] | (simp only [i64_w, i32_w]; rw [c27b0]) | skip)
              replace H := Option.bind_eq_some_iff.mp H
              obtain ⟨t612, A280, H⟩ := H
              replace H : (if t612 = 1 then (laws_FnFields.j1 kj7 t598 t599 t600 t601 false) else (laws_FnFields.j1 kj7 t598 t599 t600 t601 true)) = some r := H
              have A28 := Aside0.mk A280
              clear A280
              by_cases c29 : t612 = 1
              · rw [if_pos c29] at H
                have c29b0 : (t612 == 1) = true := beq_iff_eq.mpr c29
                have c29b1 : (t612 != 1) = false := bne_eq_false_iff_eq.mpr c29
                clear c29
                have H' := Aside0.mk H
                clear H
                go_wp2_with (first | (go_at_call 22; (with_reducible refine (impl_FieldTimes.calls kj7 t600 t602 t612 _ A28.out).mono ?_); rintro e w' ⟨rfl, ⟨nd, rfl⟩⟩))
                go_meet
                case rel => exact ⟨_, (false), (by first | rfl | (simp; done) | (simp [*]; done)), H', ⟨by have := HJ7.out; first | omega | exact Nat.le_refl _⟩, ⟨by repeat (first | (with_reducible first | exact HB.out | apply below_alloc | apply pw_below_drewN | apply below_drew1) | exact HB.out)⟩⟩
              · rw [if_neg c29] at H
                have c29b0 : (t612 == 1) = false := beq_eq_false_iff_ne.mpr c29
                have c29b1 : (t612 != 1) = true := bne_iff_ne.mpr c29
                have H' := Aside0.mk H
                clear H
                go_wp2_with (first | (go_at_call 22; (with_reducible refine (impl_FieldTimes.calls kj7 t600 t602 t612 _ A28.out).mono ?_); rintro e w' ⟨rfl, ⟨nd, rfl⟩⟩))
                go_meet
                case rel => exact ⟨_, (true), (by first | rfl | (simp; done) | (simp [*]; done)), H', ⟨by have := HJ7.out; first | omega | exact Nat.le_refl _⟩, ⟨by repeat (first | (with_reducible first | exact HB.out | apply below_alloc | apply pw_below_drewN | apply below_drew1) | exact HB.out)⟩⟩
          case rest =>
            clear HC26
            try clear c1
            try clear c2
            try clear p2
            try clear c3
            try clear c5
            try clear c6
            try clear c14
            try clear c14b0
            try clear c14b1
            try clear c16
            try clear c16b0
            try clear c16b1
            try clear c19
            try clear c19b0
            try clear c19b1
            try clear c21
            try clear c22
            try clear c23
            try clear c23b0
            try clear c23b1
            try clear c24
            try clear c25
            try clear c27
            try clear c27b0
            try clear c27b1
            try clear c29
            try clear c29b0
            try clear c29b1
            try clear p2
            obtain ⟨kq, x82_25, rfl, HA, HJ25, HB⟩ := hcut
            cases kq with
            | zero => exact absurd HA.out (by simp [laws_FnFields.j1])
            | succ kj25 =>
              have H := HA.out
              clear HA
              simp only [laws_FnFields.j1] at H
              by_cases c30 : x82_25 = true
              · subst c30
                have H1 : (some false) = some r := by rw [if_pos rfl] at H; exact H
                clear H
                have H := H1
                clear H1
                obtain rfl := Option.some.inj H
                go_wp2
                go_ret
                exact ⟨by first | rfl | (simp [errW_none, errW_some] <;> rfl) | (simp [*, errW_none, errW_some] <;> rfl), by repeat (first | (with_reducible first | exact HB.out | apply below_alloc | apply pw_below_drewN | apply below_drew1) | exact HB.out)⟩
              · replace c30 := Bool.eq_false_iff.mpr c30
                subst c30
                have H1 : ((spec_FieldInverse.f kj25 t601).bind fun t613 => (laws_FnFields.l0 kj25 t598 t599 t600 t601 t613 99 0)) = some r := by rw [if_neg (show ¬ (false = true) by decide)] at H; exact H
                clear H
                have H := H1
                clear H1
                replace H := Option.bind_eq_some_iff.mp H
                obtain ⟨t613, A310, H⟩ := H
                replace H : (laws_FnFields.l0 kj25 t598 t599 t600 t601 t613 99 0) = some r := H
                have A31 := Aside0.mk A310
                clear A310
                have H' := Aside0.mk H
                clear H
                go_wp2_with (first | ((with_reducible refine gate_callee (f := 23) rfl ?_); refine goesL_ (some 84) rfl rfl Try.func23 (by kernel_rfl) rfl #[.int .u8 t601] rfl (by (try simp only [List.map_toArray, List.map_cons, List.map_nil]); first | done | rfl | (simp only [List.length_drop, List.length_take]; rfl)) ?_; (with_reducible refine (spec_FieldInverse.calls kj25 t601 t613 _ A31.out).mono ?_); rintro e w' ⟨rfl, ⟨nd, rfl⟩⟩; refine ⟨_, rfl, ?_⟩))
                go_loopg [9, 10] kj25 (fun kq v9 v10 w' => ∃ (x9_3 : Int) (x10_3 : Int), v9 = .int .u8 x9_3 ∧ v10 = .int .u64 x10_3 ∧ Aside0 (laws_FnFields.l0 kq t598 t599 t600 t601 t613 x9_3 x10_3 = some r) ∧ Aside0 (kq ≤ kj25) ∧ Aside0 (Below w.heap.size w w'))
                case atStart => exact ⟨(99), (0), (by first | rfl | (simp; done) | (simp [*]; done)), (by first | rfl | (simp; done) | (simp [*]; done)), H', ⟨Nat.le_refl _⟩, ⟨by repeat (first | (with_reducible first | exact HB.out | apply below_alloc | apply pw_below_drewN | apply below_drew1) | exact HB.out)⟩⟩
                case round =>
                  clear H'
                  try clear c1
                  try clear c2
                  try clear p2
                  try clear c3
                  try clear c5
                  try clear c6
                  try clear c14
                  try clear c14b0
                  try clear c14b1
                  try clear c16
                  try clear c16b0
                  try clear c16b1
                  try clear c19
                  try clear c19b0
                  try clear c19b1
                  try clear c21
                  try clear c22
                  try clear c23
                  try clear c23b0
                  try clear c23b1
                  try clear c24
                  try clear c25
                  try clear c27
                  try clear c27b0
                  try clear c27b1
                  try clear c29
                  try clear c29b0
                  try clear c29b1
                  try clear c30
                  try clear p2
                  obtain ⟨x9_3, x10_3, rfl, rfl, HA, HK3, HB⟩ := hrel
                  cases gk with
                  | zero => exact absurd HA.out (by simp [laws_FnFields.l0])
                  | succ k3 =>
                    have H := HA.out
                    clear HA
                    simp only [laws_FnFields.l0] at H
                    by_cases c32 : x10_3 < 5
                    · rw [if_pos c32] at H
                      have c32b0 : decide (x10_3 < 5) = true := decide_eq_true c32
                      clear c32
                      by_cases c33 : x10_3 = 0
                      · rw [if_pos c33] at H
                        have c33b0 : (x10_3 == 0) = true := beq_iff_eq.mpr c33
                        have c33b1 : (x10_3 != 0) = false := bne_eq_false_iff_eq.mpr c33
                        clear c33
                        have H' := Aside0.mk H
                        clear H
                        go_wp2
                        go_roundg k3
                        case measure => have := HJ7.out; have := HJ25.out; have := HK3.out; omega
                        case rel => exact ⟨(Go.bits .xor .u8 x9_3 t613), (IntKind.u64.wrap (x10_3 + 1)), (by first | rfl | (simp; done) | (simp [*]; done)), (by first | rfl | (simp; done) | (simp [*]; done)), H', ⟨by have := HJ7.out; have := HJ25.out; have := HK3.out; omega⟩, ⟨by repeat (first | (with_reducible first | exact HB.out | apply below_alloc | apply pw_below_drewN | apply below_drew1) | exact HB.out)⟩⟩
                      · rw [if_neg c33] at H
                        have c33b0 : (x10_3 == 0) = false := beq_eq_false_iff_ne.mpr c33
                        have c33b1 : (x10_3 != 0) = true := bne_iff_ne.mpr c33
                        by_cases c34 : 0 ≤ x10_3
                        · rw [if_pos c34] at H
                          have c34b0 := eq_true c34
                          have c34b1 : decide (0 ≤ x10_3) = true := decide_eq_true c34
                          clear c34
                          obtain ⟨ji35, hji35⟩ : ∃ j_ : Int, (shl .u8 t613 x10_3) = j_ := ⟨_, rfl⟩
                          replace H : (if 0 ≤ (IntKind.u64.wrap (8 - x10_3)) then (laws_FnFields.l0 k3 t598 t599 t600 t601 t613 (Go.bits .xor .u8 x9_3 (Go.bits .or .u8 (ji35) (shr .u8 t613 (IntKind.u64.wrap (8 - x10_3))))) (IntKind.u64.wrap (x10_3 + 1))) else (none)) = some r := by first | (rw [hji35] at H; exact H) | (simp only [hji35] at H ⊢; exact H)
                          have hji35_ : (IntKind.u8.wrap (t613 * 2 ^ min x10_3.toNat 8)) = ji35 := hji35
                          have hji35z : x10_3 ≤ 8 → (IntKind.u8.wrap (t613 * 2 ^ x10_3.toNat)) = ji35 := shl_small hji35
                          obtain ⟨ji36, hji36⟩ : ∃ j_ : Int, (IntKind.u64.wrap (8 - x10_3)) = j_ := ⟨_, rfl⟩
                          replace H : (if 0 ≤ (ji36) then (laws_FnFields.l0 k3 t598 t599 t600 t601 t613 (Go.bits .xor .u8 x9_3 (Go.bits .or .u8 (ji35) (shr .u8 t613 (ji36)))) (IntKind.u64.wrap (x10_3 + 1))) else (none)) = some r := by first | (rw [hji36] at H; exact H) | (simp only [hji36] at H ⊢; exact H)
                          by_cases c37 : 0 ≤ (ji36)
                          · rw [if_pos c37] at H
                            have c37b0 := eq_true c37
                            have c37b1 : decide (0 ≤ (ji36)) = true := decide_eq_true c37
                            clear c37
                            obtain ⟨ji38, hji38⟩ : ∃ j_ : Int, (shr .u8 t613 (ji36)) = j_ := ⟨_, rfl⟩
                            replace H : (laws_FnFields.l0 k3 t598 t599 t600 t601 t613 (Go.bits .xor .u8 x9_3 (Go.bits .or .u8 (ji35) (ji38))) (IntKind.u64.wrap (x10_3 + 1))) = some r := by first | (rw [hji38] at H; exact H) | (simp only [hji38] at H ⊢; exact H)
                            have hji38_ : (t613 / 2 ^ min (ji36).toNat 8) = ji38 := hji38
                            have hji38z : (ji36) ≤ 8 → (t613 / 2 ^ (ji36).toNat) = ji38 := shr_small hji38
                            have H' := Aside0.mk H
                            clear H
                            go_wp2
                            go_roundg k3
                            case measure => have := HJ7.out; have := HJ25.out; have := HK3.out; omega
                            case rel => exact ⟨(Go.bits .xor .u8 x9_3 (Go.bits .or .u8 (ji35) (ji38))), (IntKind.u64.wrap (x10_3 + 1)), (by first | rfl | (simp; done) | (simp only [← hji35, ← hji38] <;> (first | rfl | simp)) | (simp [*]; done)), (by first | rfl | (simp; done) | (simp [*]; done)), H', ⟨by have := HJ7.out; have := HJ25.out; have := HK3.out; omega⟩, ⟨by repeat (first | (with_reducible first | exact HB.out | apply below_alloc | apply pw_below_drewN | apply below_drew1) | exact HB.out)⟩⟩
                          · rw [if_neg c37] at H
                            exact absurd H (by simp)
                        · rw [if_neg c34] at H
                          exact absurd H (by simp)
                    · rw [if_neg c32] at H
                      have c32b0 : decide (x10_3 < 5) = false := decide_eq_false c32
                      clear c32
                      replace H := Option.bind_eq_some_iff.mp H
                      obtain ⟨t614, A390, H⟩ := H
                      replace H : (if t614 = x9_3 then ((impl_FieldTimes.f k3 t598 t599).bind fun t615 => ((impl_FieldTimes.f k3 t615 t600).bind fun t616 => ((impl_FieldTimes.f k3 t599 t600).bind fun t617 => ((impl_FieldTimes.f k3 t598 t617).bind fun t618 => (some (t616 == t618)))))) else (some false)) = some r := H
                      have A39 := Aside0.mk A390
                      clear A390
                      by_cases c40 : t614 = x9_3
                      · rw [if_pos c40] at H
                        have c40b0 : (t614 == x9_3) = true := beq_iff_eq.mpr c40
                        have c40b1 : (t614 != x9_3) = false := bne_eq_false_iff_eq.mpr c40
                        clear c40
                        replace H := Option.bind_eq_some_iff.mp H
                        obtain ⟨t615, A410, H⟩ := H
                        replace H : ((impl_FieldTimes.f k3 t615 t600).bind fun t616 => ((impl_FieldTimes.f k3 t599 t600).bind fun t617 => ((impl_FieldTimes.f k3 t598 t617).bind fun t618 => (some (t616 == t618))))) = some r := H
                        have A41 := Aside0.mk A410
                        clear A410
                        replace H := Option.bind_eq_some_iff.mp H
                        obtain ⟨t616, A420, H⟩ := H
                        replace H : ((impl_FieldTimes.f k3 t599 t600).bind fun t617 => ((impl_FieldTimes.f k3 t598 t617).bind fun t618 => (some (t616 == t618)))) = some r := H
                        have A42 := Aside0.mk A420
                        clear A420
                        replace H := Option.bind_eq_some_iff.mp H
                        obtain ⟨t617, A430, H⟩ := H
                        replace H : ((impl_FieldTimes.f k3 t598 t617).bind fun t618 => (some (t616 == t618))) = some r := H
                        have A43 := Aside0.mk A430
                        clear A430
                        replace H := Option.bind_eq_some_iff.mp H
                        obtain ⟨t618, A440, H⟩ := H
                        replace H : (some (t616 == t618)) = some r := H
                        have A44 := Aside0.mk A440
                        clear A440
                        obtain rfl := Option.some.inj H
                        go_wp2_with (first | ((with_reducible refine gate_callee (f := 16) rfl ?_); refine goesL_ (some 105) rfl rfl Try.func16 (by kernel_rfl) rfl #[.int .u8 t601] rfl (by (try simp only [List.map_toArray, List.map_cons, List.map_nil]); first | done | rfl | (simp only [List.length_drop, List.length_take]; rfl)) ?_; (with_reducible refine (impl_SubByte.calls t601 t614 _ A39.out).mono ?_); rintro e w' ⟨rfl, ⟨nd, rfl⟩⟩; refine ⟨_, rfl, ?_⟩) | (go_at_call 22; (with_reducible refine (impl_FieldTimes.calls k3 t598 t599 t615 _ A41.out).mono ?_); rintro e w' ⟨rfl, ⟨nd, rfl⟩⟩) | (go_at_call 22; (with_reducible refine (impl_FieldTimes.calls k3 t615 t600 t616 _ A42.out).mono ?_); rintro e w' ⟨rfl, ⟨nd, rfl⟩⟩) | (go_at_call 22; (with_reducible refine (impl_FieldTimes.calls k3 t599 t600 t617 _ A43.out).mono ?_); rintro e w' ⟨rfl, ⟨nd, rfl⟩⟩) | (go_at_call 22; (with_reducible refine (impl_FieldTimes.calls k3 t598 t617 t618 _ A44.out).mono ?_); rintro e w' ⟨rfl, ⟨nd, rfl⟩⟩))
                        go_ret
                        exact ⟨by first | rfl | (simp [errW_none, errW_some] <;> rfl) | (simp [*, errW_none, errW_some] <;> rfl), by repeat (first | (with_reducible first | exact HB.out | apply below_alloc | apply pw_below_drewN | apply below_drew1) | exact HB.out)⟩
                      · rw [if_neg c40] at H
                        have c40b0 : (t614 == x9_3) = false := beq_eq_false_iff_ne.mpr c40
                        have c40b1 : (t614 != x9_3) = true := bne_iff_ne.mpr c40
                        obtain rfl := Option.some.inj H
                        go_wp2_with (first | ((with_reducible refine gate_callee (f := 16) rfl ?_); refine goesL_ (some 105) rfl rfl Try.func16 (by kernel_rfl) rfl #[.int .u8 t601] rfl (by (try simp only [List.map_toArray, List.map_cons, List.map_nil]); first | done | rfl | (simp only [List.length_drop, List.length_take]; rfl)) ?_; (with_reducible refine (impl_SubByte.calls t601 t614 _ A39.out).mono ?_); rintro e w' ⟨rfl, ⟨nd, rfl⟩⟩; refine ⟨_, rfl, ?_⟩))
                        go_ret
                        exact ⟨by first | rfl | (simp [errW_none, errW_some] <;> rfl) | (simp [*, errW_none, errW_some] <;> rfl), by repeat (first | (with_reducible first | exact HB.out | apply below_alloc | apply pw_below_drewN | apply below_drew1) | exact HB.out)⟩

/-- THE ONE PURE STATEMENT of laws_FnFields: yours. -/
def laws_FnFields.Pure : Prop := ∀ (l0 : List Int), l0.length ≤ maxLen → l0.length * 1 ≤ 140737488351232 → (∀ x ∈ l0, (Lit.int .u8 x).wf = true) → ∃ k, laws_FnFields.f k l0 = some true
theorem laws_FnFields.walk (P : laws_FnFields.Pure) (a0 : Option Addr) (len0 cap0 : Nat) (z0 : List Int) (w : World) (w0 : (a0 = none ∧ len0 = 0 ∧ cap0 = 0 ∧ z0 = []) ∨ ∃ x, a0 = some x ∧ len0 ≤ cap0 ∧ cap0 ≤ maxLen ∧ z0.length = cap0 ∧ (∀ i, i < z0.length → w.cell? (x.add i) = some (.int .u8 (z0.getD i 0))) ∧ ∀ n ∈ z0, (Lit.int .u8 n).wf = true) (y0 : len0 * 1 ≤ 140737488351232) :
    Calls Try.prog 14 #[.slice a0 len0 cap0] w fun e w' => e = .returned (.bool true) ∧ Below w.heap.size w w' := by
  obtain ⟨l0, rfl, hr0, hm0, hw0, hc0⟩ := ReadsInt.ofRowC w0
  obtain ⟨k, h⟩ := P l0 hm0 y0 hw0
  refine (laws_FnFields.calls k _ _ l0 true w (Kd.C_of_reads (d := (0 : Int)) (h1 := fun _ => rfl) hr0) hc0 h).mono ?_
  rintro e w' ⟨rfl, hd⟩
  exact ⟨rfl, hd⟩

end Go.Proofs.Ytndahpbmjjodpaa.All
