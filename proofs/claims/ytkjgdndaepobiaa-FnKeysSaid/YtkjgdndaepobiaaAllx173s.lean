-- Laid by wip/shake.py of this repo out of this claim's texts. Not trusted: Lean checks it.
import Derived.Test.YtkjgdndaepobiaaAllx0s
import Derived.Test.YtkjgdndaepobiaaAllx20s
section
namespace Go.Proofs.Ytkjgdndaepobiaa.All
open Go.RowKit Go.Proofs.YtkjgdndaepobiaaW.PrintWords Go.Proofs.YtkjgdndaepobiaaW.PrintLast Go.Proofs.YtkjgdndaepobiaaW.PrintMore
attribute [local go_sem] max2_int min2_int max_two min_two max_three min_three max_four min_four
set_option linter.unusedVariables false
set_option linter.unusedSimpArgs false
def spec_DrawRoundConstant.f (l0 : List Int) : Option (Int) := (spec_l1Source.f l0).bind fun bt129 => ((spec_l1Pick.f bt129.1 bt129.2 (([1, 2, 8, 9, 10, 0, 11] : List Int))).bind fun bt135 => (some bt135.1))
set_option maxHeartbeats 8000000 in
set_option maxRecDepth 100000 in
theorem spec_DrawRoundConstant.calls (A0 : Option Addr) (c0 : Nat) (l0 : List Int) (r : Int) (w : World) (hr0 : Kd.C (Kd.int .u8) w A0 l0.length l0) (hc0 : l0.length ≤ c0) (h : spec_DrawRoundConstant.f l0 = some r) :
  Calls Try.prog 9 #[.slice A0 l0.length c0] w fun e w' => e = .returned (.int .i64 r) ∧ Below w.heap.size w w' := by
 have HR0 := Aside0.mk hr0
 have HC0 := Aside0.mk hc0
 clear hr0 hc0
 have HB := Aside0.mk (Below.refl w.heap.size w)
 have H : ((spec_l1Source.f l0).bind fun bt129 => ((spec_l1Pick.f bt129.1 bt129.2 (([1, 2, 8, 9, 10, 0, 11] : List Int))).bind fun bt135 => (some bt135.1))) = some r := h
 clear h
 replace H := Option.bind_eq_some_iff.mp H
 obtain ⟨⟨t129, t130⟩, A20, H⟩ := H
 replace H : ((spec_l1Pick.f t129 t130 (([1, 2, 8, 9, 10, 0, 11] : List Int))).bind fun bt135 => (some bt135.1)) = some r := H
 have A2 := Aside0.mk A20
 clear A20
 obtain ⟨y132, hy132⟩ : ∃ y_ : List Int, y_ = (([1, 2, 8, 9, 10, 0, 11] : List Int)) := ⟨_, rfl⟩
 replace H : ((spec_l1Pick.f t129 t130 y132).bind fun bt135 => (some bt135.1)) = some r := by first | (rw [hy132]; with_reducible exact H) | (have H2_ := (Option.bind_some _ _).symm.trans H; rw [hy132]; with_reducible exact H2_) | (have H2_ := (Option.bind_some _ _).symm.trans H; with_reducible exact H2_) | with_reducible exact H | (rw [hy132]; exact H) | exact H
 have Ny132 := Aside0.mk hy132
 clear hy132
 replace H := Option.bind_eq_some_iff.mp H
 obtain ⟨⟨t135, t136⟩, A30, H⟩ := H
 replace H : (some t135) = some r := H
 have A3 := Aside0.mk A30
 clear A30
 obtain rfl := Option.some.inj H
 go_enter Try.func9, Try.ntmps9
 go_wp2_with (first | ((with_reducible refine gate_callee (f := 29) rfl ?_); refine goesL_ (some 4) rfl rfl Try.func29 (by kernel_rfl) rfl #[.slice A0 l0.length c0] rfl (by (try simp only [List.map_toArray, List.map_cons, List.map_nil]); first | done | rfl | (simp only [List.length_drop, List.length_take]; rfl)) ?_; (with_reducible refine (spec_l1Source.calls _ _ l0 t129 t130 w _ ?side1 ?side2 ?side3 A2.out).mono ?_); (case side1 => repeat (first | (with_reducible first | exact HB.out | apply below_alloc | apply pw_below_drewN | apply below_drew1) | exact HB.out)); (case side2 => exact HR0.out); (case side3 => exact HC0.out); rintro e w4 ⟨g131, rfl, hi, hb, hb2⟩; refine ⟨_, rfl, ?_⟩; have n0_ := Aside0.mk (hb); have n1_ := Aside0.mk (hi); clear HB; have HB := n0_; have HI131 := n1_; clear n0_ n1_; (try clear hb); (try clear hb2); (try clear hk); (try clear hi)) | ((with_reducible refine gate_dst (N := 5) rfl ?_); refine Kd.R_lit (Kd.int .i64) _ 2 ?hg (N := 5) ?hd (xs := ([1, 2, 8, 9, 10, 0, 11] : List Int)) (inner := [.int .i64 1, .int .i64 2, .int .i64 8, .int .i64 9, .int .i64 10, .int .i64 0, .int .i64 11]) (ok := fun _ => True) (okp := fun _ => True) ?hr ?hp (fun _ hk => hk) trivial (Below.refl _ _) (Nat.le_refl _) (by simp) ?_; (case hd => rfl); (case hg => rfl); (case hr => first | (go_simp; done) | (go_simp; rfl)); (case hp => exact (Reps.one (show Kd.M (Kd.int .i64) _ _ _ 1 [.int .i64 1] from rfl) (Reps.one (show Kd.M (Kd.int .i64) _ _ _ 2 [.int .i64 2] from rfl) (Reps.one (show Kd.M (Kd.int .i64) _ _ _ 8 [.int .i64 8] from rfl) (Reps.one (show Kd.M (Kd.int .i64) _ _ _ 9 [.int .i64 9] from rfl) (Reps.one (show Kd.M (Kd.int .i64) _ _ _ 10 [.int .i64 10] from rfl) (Reps.one (show Kd.M (Kd.int .i64) _ _ _ 0 [.int .i64 0] from rfl) (Reps.one (show Kd.M (Kd.int .i64) _ _ _ 11 [.int .i64 11] from rfl) (Reps.none _ _))))))))); intro v133 w5 ho6 hb hg_ hnew_; clear hg_ hnew_; (first | rw [← Ny132.out] at ho6 | (simp only [Int.reduceToNat] at ho6; rw [← Ny132.out] at ho6)); have n0_ := Aside0.mk (Kd.R_lower ho6 (below_size (by repeat (first | (with_reducible first | exact HB.out | apply below_alloc | apply pw_below_drewN | apply below_drew1 | refine below_set ?_ (IsS73.ge HI131.out)) | exact HB.out)))); have n1_ := Aside0.mk (IsS73.below (by repeat (first | (with_reducible first | exact HI131.out | apply IsS73.alloc | apply IsS73.drewN | apply IsS73.drew | apply IsS73.set_1) | exact HI131.out)) hb); have n2_ := Aside0.mk (below_step (by repeat (first | (with_reducible first | exact HB.out | apply below_alloc | apply pw_below_drewN | apply below_drew1 | refine below_set ?_ (IsS73.ge HI131.out)) | exact HB.out)) hb); clear HI131; clear HB; have HO134 := n0_; have HI131 := n1_; have HB := n2_; clear n0_ n1_ n2_; clear hb ho6; obtain ⟨Ao7, co7, eo7⟩ := Kd.R_slice HO134.out; subst eo7) | ((with_reducible refine gate_callee (f := 31) rfl ?_); refine goesL_ (some 6) rfl rfl Try.func31 (by kernel_rfl) rfl #[.pointer (some ⟨g131, 0, none⟩), .slice Ao7 y132.length co7] rfl (by (try simp only [List.map_toArray, List.map_cons, List.map_nil]); first | done | rfl | (simp only [List.length_drop, List.length_take]; rfl)) ?_; (with_reducible refine (spec_l1Pick.calls g131 t129 t130 _ _ y132 t135 t136 w _ ?side1 ?side2 ?side3 ?side4 ?side5 A3.out).mono ?_); (case side1 => repeat (first | (with_reducible first | exact HI131.out | apply IsS73.alloc | apply IsS73.drewN | apply IsS73.drew | apply IsS73.set_1) | exact HI131.out)); (case side2 => repeat (first | (with_reducible first | exact HB.out | apply below_alloc | apply pw_below_drewN | apply below_drew1 | refine below_set ?_ (IsS73.ge HI131.out)) | exact HB.out)); (case side3 => repeat (first | exact (Kd.R_reads' HO134.out).2.2 | (with_reducible refine Kd.C_alloc ?_ _) | (with_reducible refine Kd.C_drewN ?_ _) | (with_reducible refine Kd.C_drew ?_))); (case side4 => exact (Kd.R_reads' HO134.out).2.1); (case side5 => exact far_slice (IsS73.own_ne HI131.out HO134.out (by decide))); rintro e w8 ⟨rfl, hi, hb, hk⟩; refine ⟨_, rfl, ?_⟩; have n0_ := Aside0.mk (Kd.R_mono (Kd.R_keep (IsS73.apart (show IsS73 w _ g131 t129 t130 from by repeat (first | (with_reducible first | exact HI131.out | apply IsS73.alloc | apply IsS73.drewN | apply IsS73.drew | apply IsS73.set_1) | exact HI131.out)) (by (with_reducible repeat (first | apply Kd.R_alloc | apply Kd.R_drewN | apply Kd.R_drew)); exact HO134.out) (by decide)) hk (fun _ h => h.2)) (fun _ h => h.1)); have n1_ := Aside0.mk (hb); have n2_ := Aside0.mk (hi); clear HO134; clear HB; clear HI131; have HO134 := n0_; have HB := n1_; have HI131 := n2_; clear n0_ n1_ n2_; (try clear hb); (try clear hb2); (try clear hk); (try clear hi)))
 go_ret
 exact ⟨by first | rfl | (simp [errW_none, errW_some] <;> rfl) | (simp [*, errW_none, errW_some] <;> rfl), by repeat (first | (with_reducible first | exact HB.out | apply below_alloc | apply pw_below_drewN | apply below_drew1 | refine below_set ?_ (IsS73.ge HI131.out)) | exact HB.out)⟩
end Go.Proofs.Ytkjgdndaepobiaa.All
end
section
namespace Go.Proofs.Ytkjgdndaepobiaa.All
open Go.RowKit Go.Proofs.YtkjgdndaepobiaaW.PrintWords Go.Proofs.YtkjgdndaepobiaaW.PrintLast Go.Proofs.YtkjgdndaepobiaaW.PrintMore
attribute [local go_sem] max2_int min2_int max_two min_two max_three min_three max_four min_four
set_option linter.unusedVariables false
set_option linter.unusedSimpArgs false
def spec_SubByte.f (a0 : Int) : Option (Int) := if 0 ≤ a0 ∧ a0 < 256 then some (bI (SB (BitVec.ofNat 8 a0.toNat))) else none
set_option maxHeartbeats 4000000 in
set_option maxRecDepth 100000 in
theorem spec_SubByte.calls (a0 : Int) (r : Int) (w : World) (h : spec_SubByte.f a0 = some r) :
  Calls Try.prog 15 #[.int .u8 a0] w fun e w' => e = .returned (.int .u8 r) ∧ Drawn0 w w' := by
 unfold spec_SubByte.f at h
 by_cases h1 : 0 ≤ a0 ∧ a0 < 256
 ·rw [if_pos h1, Option.some.injEq] at h
  subst h
  obtain ⟨b, rfl⟩ : ∃ b, a0 = bI b := ⟨BitVec.ofNat 8 a0.toNat, by rw [bI_ofNat _ (by omega)]; omega⟩
  rw [show BitVec.ofNat 8 (bI b).toNat = b by unfold bI; simp]
  clear h1
  go_enter Try.func15, Try.ntmps15
  go_wp2_with (first
    | ((with_reducible refine gate_dst (N := 4) rfl ?_); refine wp_index_box ?hg 9 ?s_411 (.tmp 3) ?ho Try.underlying9 ?hs b ?hi ?_; (case hg => rfl); (case ho => rfl); (case hs => kernel_rfl); (case hi => rfl)))
  go_ret
  exact ⟨rfl, Drawn0.refl _⟩
 ·rw [if_neg h1] at h
  cases h
theorem spec_SubByte_at (b : BitVec 8) : spec_SubByte.f (bI b) = some (bI (SB b)) := by
 unfold spec_SubByte.f
 rw [if_pos ⟨bI_lo b, bI_hi b⟩, show BitVec.ofNat 8 (bI b).toNat = b by unfold bI; simp]
end Go.Proofs.Ytkjgdndaepobiaa.All
end
section
namespace Go.Proofs.Ytkjgdndaepobiaa.All
open Go.RowKit Go.Proofs.YtkjgdndaepobiaaW.PrintWords Go.Proofs.YtkjgdndaepobiaaW.PrintLast Go.Proofs.YtkjgdndaepobiaaW.PrintMore
attribute [local go_sem] max2_int min2_int max_two min_two max_three min_three max_four min_four
set_option linter.unusedVariables false
set_option linter.unusedSimpArgs false
def spec_FieldTimes.l0 : Nat → Int → Int → Int → Int → Option (Int)
 | 0, _, _, _, _ => none
 | k + 1, x0, x1, x5, x6 => if x6 < 8 then (if (Int.tmod x1 2) = 1 then (if x0 ≥ 128 then (spec_FieldTimes.l0 k (Go.bits .xor .u8 ((x0 * 2) % 256) 27) ((Int.tdiv x1 2) % 256) (Go.bits .xor .u8 x5 x0) (wrap64 (x6 + 1))) else (spec_FieldTimes.l0 k ((x0 * 2) % 256) ((Int.tdiv x1 2) % 256) (Go.bits .xor .u8 x5 x0) (wrap64 (x6 + 1)))) else (if x0 ≥ 128 then (spec_FieldTimes.l0 k (Go.bits .xor .u8 ((x0 * 2) % 256) 27) ((Int.tdiv x1 2) % 256) x5 (wrap64 (x6 + 1))) else (spec_FieldTimes.l0 k ((x0 * 2) % 256) ((Int.tdiv x1 2) % 256) x5 (wrap64 (x6 + 1))))) else (some x5)
def spec_FieldTimes.f (k : Nat) (a0 : Int) (a1 : Int) : Option (Int) := spec_FieldTimes.l0 k a0 a1 0 0
theorem spec_FieldTimes.mono_l : ∀ k, (∀ y0 y1 y2 y3, LeO (spec_FieldTimes.l0 k y0 y1 y2 y3) (spec_FieldTimes.l0 (k + 1) y0 y1 y2 y3))
 | 0 => fun _ _ _ _ r h => by simp [spec_FieldTimes.l0] at h
 | k + 1 => by
  have ih0 := spec_FieldTimes.mono_l k
  ·intro y0 y1 y2 y3
   unfold spec_FieldTimes.l0
   repeat' first
   | (with_reducible exact ih0 _ _ _ _)
   | (with_reducible exact LeO.refl _)
   | (with_reducible exact LeO.none _)
   | (with_reducible refine LeO.ite ?_ ?_)
   | (with_reducible refine LeO.bind ?_ (fun _ => ?_))
   | exact ih0 _ _ _ _
   | exact LeO.none _
   | refine LeO.ite ?_ ?_
   | refine LeO.bind ?_ (fun _ => ?_)
theorem spec_FieldTimes.mono : ∀ a0 a1 k, LeO (spec_FieldTimes.f k a0 a1) (spec_FieldTimes.f (k + 1) a0 a1) := by
 intro a0 a1 k
 have ih0 := spec_FieldTimes.mono_l k
 unfold spec_FieldTimes.f
 repeat' first
   | (with_reducible exact ih0 _ _ _ _)
   | (with_reducible exact LeO.refl _)
   | (with_reducible exact LeO.none _)
   | (with_reducible refine LeO.ite ?_ ?_)
   | (with_reducible refine LeO.bind ?_ (fun _ => ?_))
   | exact ih0 _ _ _ _
   | exact LeO.none _
   | refine LeO.ite ?_ ?_
   | refine LeO.bind ?_ (fun _ => ?_)
set_option maxHeartbeats 8000000 in
set_option maxRecDepth 100000 in
theorem spec_FieldTimes.calls (k : Nat) (a0 : Int) (a1 : Int) (r : Int) (w : World) (h : spec_FieldTimes.f k a0 a1 = some r) :
  Calls Try.prog 58 #[.int .u8 a0, .int .u8 a1] w fun e w' => e = .returned (.int .u8 r) ∧ Drawn0 w w' := by
 have H : (spec_FieldTimes.l0 k a0 a1 0 0) = some r := h
 clear h
 have H' := Aside0.mk H
 clear H
 go_enter Try.func58, Try.ntmps58
 go_wp2
 go_loopg [0, 1, 5, 6] k (fun kq v0 v1 v5 v6 w' => ∃ (x0_1 : Int) (x1_1 : Int) (x5_1 : Int) (x6_1 : Int), v0 = .int .u8 x0_1 ∧ v1 = .int .u8 x1_1 ∧ v5 = .int .u8 x5_1 ∧ v6 = .int .i64 x6_1 ∧ Aside0 (spec_FieldTimes.l0 kq x0_1 x1_1 x5_1 x6_1 = some r) ∧ Aside0 (kq ≤ k) ∧ Drawn0 w w')
 case atStart => exact ⟨(a0), (a1), (0), (0), (by first | rfl | (simp; done) | (simp [*]; done)), (by first | rfl | (simp; done) | (simp [*]; done)), (by first | rfl | (simp; done) | (simp [*]; done)), (by first | rfl | (simp; done) | (simp [*]; done)), H', ⟨Nat.le_refl _⟩, by repeat (first | exact Drawn0.refl _ | apply Drawn0.step)⟩
 case round =>
  clear H'
  try clear p2
  obtain ⟨x0_1, x1_1, x5_1, x6_1, rfl, rfl, rfl, rfl, HA, HK1, ⟨m1, rfl⟩⟩ := hrel
  cases gk with
  | zero => exact absurd HA.out (by simp [spec_FieldTimes.l0])
  | succ k1 =>
   have H := HA.out
   clear HA
   simp only [spec_FieldTimes.l0] at H
   by_cases c3 : x6_1 < 8
   ·rw [if_pos c3] at H
    have c3b0 : decide (x6_1 < 8) = true := decide_eq_true c3
    clear c3
    by_cases c4 : (Int.tmod x1_1 2) = 1
    ·rw [if_pos c4] at H
     have c4b0 : ((Int.tmod x1_1 2) == 1) = true := beq_iff_eq.mpr c4
     have c4b1 : ((Int.tmod x1_1 2) != 1) = false := bne_eq_false_iff_eq.mpr c4
     clear c4
     by_cases c5 : x0_1 ≥ 128
     ·rw [if_pos c5] at H
      have c5b0 : decide (128 ≤ x0_1) = true := decide_eq_true c5
      clear c5
      have H' := Aside0.mk H
      clear H
      go_wp2
      go_roundg k1
      case measure => have := HK1.out; omega
      case rel => exact ⟨(Go.bits .xor .u8 ((x0_1 * 2) % 256) 27), ((Int.tdiv x1_1 2) % 256), (Go.bits .xor .u8 x5_1 x0_1), (wrap64 (x6_1 + 1)), (by first | rfl | (simp; done) | (simp [*]; done)), (by first | rfl | (simp; done) | (simp [*]; done)), (by first | rfl | (simp; done) | (simp [*]; done)), (by first | rfl | (simp; done) | (simp [*]; done)), H', ⟨by have := HK1.out; omega⟩, by repeat (first | exact Drawn0.refl _ | apply Drawn0.step)⟩
     ·rw [if_neg c5] at H
      have c5b0 : decide (128 ≤ x0_1) = false := decide_eq_false c5
      clear c5
      have H' := Aside0.mk H
      clear H
      go_wp2
      go_roundg k1
      case measure => have := HK1.out; omega
      case rel => exact ⟨((x0_1 * 2) % 256), ((Int.tdiv x1_1 2) % 256), (Go.bits .xor .u8 x5_1 x0_1), (wrap64 (x6_1 + 1)), (by first | rfl | (simp; done) | (simp [*]; done)), (by first | rfl | (simp; done) | (simp [*]; done)), (by first | rfl | (simp; done) | (simp [*]; done)), (by first | rfl | (simp; done) | (simp [*]; done)), H', ⟨by have := HK1.out; omega⟩, by repeat (first | exact Drawn0.refl _ | apply Drawn0.step)⟩
    ·rw [if_neg c4] at H
     have c4b0 : ((Int.tmod x1_1 2) == 1) = false := beq_eq_false_iff_ne.mpr c4
     have c4b1 : ((Int.tmod x1_1 2) != 1) = true := bne_iff_ne.mpr c4
     by_cases c6 : x0_1 ≥ 128
     ·rw [if_pos c6] at H
      have c6b0 : decide (128 ≤ x0_1) = true := decide_eq_true c6
      clear c6
      have H' := Aside0.mk H
      clear H
      go_wp2
      go_roundg k1
      case measure => have := HK1.out; omega
      case rel => exact ⟨(Go.bits .xor .u8 ((x0_1 * 2) % 256) 27), ((Int.tdiv x1_1 2) % 256), (x5_1), (wrap64 (x6_1 + 1)), (by first | rfl | (simp; done) | (simp [*]; done)), (by first | rfl | (simp; done) | (simp [*]; done)), (by first | rfl | (simp; done) | (simp [*]; done)), (by first | rfl | (simp; done) | (simp [*]; done)), H', ⟨by have := HK1.out; omega⟩, by repeat (first | exact Drawn0.refl _ | apply Drawn0.step)⟩
     ·rw [if_neg c6] at H
      have c6b0 : decide (128 ≤ x0_1) = false := decide_eq_false c6
      clear c6
      have H' := Aside0.mk H
      clear H
      go_wp2
      go_roundg k1
      case measure => have := HK1.out; omega
      case rel => exact ⟨((x0_1 * 2) % 256), ((Int.tdiv x1_1 2) % 256), (x5_1), (wrap64 (x6_1 + 1)), (by first | rfl | (simp; done) | (simp [*]; done)), (by first | rfl | (simp; done) | (simp [*]; done)), (by first | rfl | (simp; done) | (simp [*]; done)), (by first | rfl | (simp; done) | (simp [*]; done)), H', ⟨by have := HK1.out; omega⟩, by repeat (first | exact Drawn0.refl _ | apply Drawn0.step)⟩
   ·rw [if_neg c3] at H
    have c3b0 : decide (x6_1 < 8) = false := decide_eq_false c3
    clear c3
    obtain rfl := Option.some.inj H
    go_wp2
    go_ret
    exact ⟨by first | rfl | (simp; done) | (simp [*]; done), by repeat (first | exact Drawn0.refl _ | apply Drawn0.step)⟩
end Go.Proofs.Ytkjgdndaepobiaa.All
end
section
set_option linter.unusedVariables false
set_option linter.unusedSimpArgs false
namespace Go.Proofs.Ytkjgdndaepobiaa.All
open Go.RowKit Go.Proofs.Ytkjgdndaepobiaa.All Go.Proofs.YtkjgdndaepobiaaW.PrintWords Go.Proofs.YtkjgdndaepobiaaW.PrintLast Go.Proofs.YtkjgdndaepobiaaW.PrintMore
def bitsN : Nat → Nat → List Bool
 | 0, _ => []
 | k + 1, n => (n % 2 == 1) :: bitsN k (n / 2)
theorem bitsN_B (b : BitVec 8) : bitsN 8 b.toNat = bitsB b := by
 have h := of_all8 (p := fun b => bitsN 8 b.toNat == bitsB b) (by decide +kernel) b
 simpa using h
theorem tmod_two (n : Nat) : Int.tmod (n : Int) 2 = ((n % 2 : Nat) : Int) := by
 rw [Int.tmod_eq_emod_of_nonneg (by omega)]
 omega
theorem tdiv_two (n : Nat) (h : n < 256) : Int.tdiv (n : Int) 2 % 256 = ((n / 2 : Nat) : Int) := by
 rw [Int.tdiv_eq_ediv_of_nonneg (by omega)]
 omega
theorem specFT (n : Nat) : ∀ (k : Nat) (a o : BitVec 8) (b i : Nat), i + n = 8 → b < 256 → n < k → spec_FieldTimes.l0 k (bI a) (b : Int) (bI o) (i : Int) = some (bI (opX xt (bitsN n b) a o)) := by
 induction n with
 | zero =>
  intro k a o b i hi _ hk
  obtain ⟨k, rfl⟩ : ∃ m, k = m + 1 := ⟨k - 1, by omega⟩
  simp only [spec_FieldTimes.l0]
  rw [if_neg (by omega)]
  rfl
 | succ n ih =>
  intro k a o b i hi h256 hk
  obtain ⟨k, rfl⟩ : ∃ m, k = m + 1 := ⟨k - 1, by omega⟩
  have hw : wrap64 ((i : Int) + 1) = ((i + 1 : Nat) : Int) := by unfold wrap64; omega
  simp only [spec_FieldTimes.l0]
  rw [if_pos (by omega), tmod_two, tdiv_two b h256, hw, bI_dbl, bI_xor]
  have hx : xt a = if bI a ≥ 128 then (a <<< 1) ^^^ 27#8 else a <<< 1 := by
   unfold xt bI
   by_cases h : a.toNat ≥ 128
   ·rw [if_pos h, if_pos (by omega)]
   ·rw [if_neg h, if_neg (by omega)]
  have h27 : Go.bits .xor .u8 (bI (a <<< 1)) 27 = bI ((a <<< 1) ^^^ 27#8) := by rw [show (27 : Int) = bI 27#8 from rfl, bI_xor]
  by_cases h1 : b % 2 = 1
  ·rw [if_pos (by omega)]
   by_cases h : bI a ≥ 128
   ·rw [if_pos h] at hx
    rw [if_pos h, h27, ← hx, ih k _ _ _ _ (by omega) (by omega) (by omega)]
    simp [bitsN, opX, h1]
   ·rw [if_neg h] at hx
    rw [if_neg h, ← hx, ih k _ _ _ _ (by omega) (by omega) (by omega)]
    simp [bitsN, opX, h1]
  ·rw [if_neg (by omega)]
   by_cases h : bI a ≥ 128
   ·rw [if_pos h] at hx
    rw [if_pos h, h27, ← hx, ih k _ _ _ _ (by omega) (by omega) (by omega)]
    simp [bitsN, opX, h1]
   ·rw [if_neg h] at hx
    rw [if_neg h, ← hx, ih k _ _ _ _ (by omega) (by omega) (by omega)]
    simp [bitsN, opX, h1]
theorem spec_ft (k : Nat) (hk : 8 < k) (a b : BitVec 8) : spec_FieldTimes.f k (bI a) (bI b) = some (bI (ft a b)) := by
 unfold spec_FieldTimes.f
 have h := specFT 8 k a 0#8 b.toNat 0 (by omega) b.isLt hk
 rw [bitsN_B] at h
 exact h
end Go.Proofs.Ytkjgdndaepobiaa.All
end
