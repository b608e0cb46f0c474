-- Laid by wip/myprint.py of this repo over the kit's print (the functions' texts by the kit's program, some by hand). Not trusted: Lean checks it.
import Derived.Test.YtaibogaheidkcaaAllx0
namespace Go.Proofs.Ytaibogaheidkcaa.All
open Go.RowKit Go.Proofs.YtaibogaheidkcaaW.PrintWords Go.Proofs.YtaibogaheidkcaaW.PrintLast Go.Proofs.YtaibogaheidkcaaW.PrintMore
attribute [local go_sem] max2_int min2_int max_two min_two max_three min_three max_four min_four
set_option linter.unusedVariables false
set_option linter.unusedSimpArgs false


set_option maxHeartbeats 4000000 in
set_option maxRecDepth 100000 in
theorem twice_mix (a : BitVec 8) (w : World) : Calls Try.prog 124 #[.int .u8 (bI a)] w fun e w' => e = .returned (.int .u8 (bI (xt a))) ∧ w' = w := by
  have hx := bI_xt a
  have h0 := bI_lo a
  have h1 := bI_hi a
  by_cases h : bI a ≥ 128
  · rw [if_pos h, Option.some.injEq] at hx
    have X := Aside0.mk hx
    clear hx
    go_enter Try.func124, Try.ntmps124
    go_wp2
    go_ret
    exact ⟨by rw [X.out]; rfl, rfl⟩
  · rw [if_neg h, Option.some.injEq] at hx
    have X := Aside0.mk hx
    clear hx
    go_enter Try.func124, Try.ntmps124
    go_wp2
    go_ret
    exact ⟨congrArg (fun z => Ending.returned (.int .u8 z)) (show bI a * 2 = bI (xt a) by have := X.out; omega), rfl⟩
set_option maxHeartbeats 4000000 in
set_option maxRecDepth 100000 in
theorem impl_block_mixColumns.calls (m : List (BitVec 8)) (hm0 : m.length = 16) (w : World) :
    Calls Try.prog 119 #[.agg (cB m)] w fun e w' => e = .returned (.agg (cB (mixL m))) ∧ Below w.heap.size w w' := by
  have hm := Aside0.mk hm0
  clear hm0
  have HB := Aside0.mk (Below.refl w.heap.size w)
  go_enter Try.func119, Try.ntmps119
  go_wp2_with (first
    | ((with_reducible refine gate_dst (N := 1) rfl ?_); refine box_event ?hg (N := 1) ?hd (cs := (cB m)) (t := 61) ?hr ?_; (case hd => rfl); (case hg => rfl); (case hr => first | (go_simp; done) | (go_simp; rfl)); intro g1 hg w1 hbox hb; have n0_ := Aside0.mk (below_step (by repeat (first | (with_reducible first | exact HB.out | apply below_alloc | apply pw_below_drewN | apply below_drew1) | exact HB.out)) hb); have n1_ := Aside0.mk hbox; have n2_ := Aside0.mk (by rw [hg]; exact below_size (by repeat (first | (with_reducible first | exact HB.out | apply below_alloc | apply pw_below_drewN | apply below_drew1) | exact HB.out)) : w.heap.size ≤ g1); clear HB; have HB := n0_; have BK1 := n1_; have GE1 := n2_; clear n0_ n1_ n2_; clear hb hbox hg)
    | ((with_reducible refine gate_dst (N := 2) rfl ?_); refine box_event ?hg (N := 2) ?hd (cs := #[.int .u8 0, .int .u8 0, .int .u8 0, .int .u8 0, .int .u8 0, .int .u8 0, .int .u8 0, .int .u8 0, .int .u8 0, .int .u8 0, .int .u8 0, .int .u8 0, .int .u8 0, .int .u8 0, .int .u8 0, .int .u8 0]) (t := 61) ?hr ?_; (case hd => rfl); (case hg => rfl); (case hr => first | (go_simp; done) | (go_simp; rfl)); intro g2 hg w2 hbox hb; have n0_ := Aside0.mk (below_step (by repeat (first | (with_reducible first | exact HB.out | apply below_alloc | apply pw_below_drewN | apply below_drew1) | exact HB.out)) hb); have n1_ := Aside0.mk (blk_below (g := g1) (o := .cells (cB m) 61 (0, 0)) (by (with_reducible repeat (first | refine blk_drewN ?_ _ | refine blk_drew ?_ | refine blk_alloc ?_ _)); exact BK1.out) hb); have n2_ := Aside0.mk hbox; have n3_ := Aside0.mk (by rw [hg]; exact below_size (by repeat (first | (with_reducible first | exact HB.out | apply below_alloc | apply pw_below_drewN | apply below_drew1) | exact HB.out)) : w.heap.size ≤ g2); have n4_ := Aside0.mk (by rw [hg]; exact Nat.ne_of_lt (blk_lt (g := g1) (o := .cells (cB m) 61 (0, 0)) (by (with_reducible repeat (first | refine blk_drewN ?_ _ | refine blk_drew ?_ | refine blk_alloc ?_ _)); exact BK1.out)) : g1 ≠ g2); have n5_ := Aside0.mk (by rw [hg]; exact Nat.ne_of_gt (blk_lt (g := g1) (o := .cells (cB m) 61 (0, 0)) (by (with_reducible repeat (first | refine blk_drewN ?_ _ | refine blk_drew ?_ | refine blk_alloc ?_ _)); exact BK1.out)) : g2 ≠ g1); clear HB BK1; have HB := n0_; have BK1 := n1_; have BK2 := n2_; have GE2 := n3_; have NE1_2 := n4_; have NE2_1 := n5_; clear n0_ n1_ n2_ n3_ n4_ n5_; clear hb hbox hg)
    | ((with_reducible refine gate_dst (N := 3) rfl ?_); refine box_event ?hg (N := 3) ?hd (cs := #[.int .u8 0, .int .u8 0, .int .u8 0, .int .u8 0, .int .u8 0, .int .u8 0, .int .u8 0, .int .u8 0, .int .u8 0, .int .u8 0, .int .u8 0, .int .u8 0, .int .u8 0, .int .u8 0, .int .u8 0, .int .u8 0]) (t := 61) ?hr ?_; (case hd => rfl); (case hg => rfl); (case hr => first | (go_simp; done) | (go_simp; rfl)); intro g3 hg w3 hbox hb; have n0_ := Aside0.mk (below_step (by repeat (first | (with_reducible first | exact HB.out | apply below_alloc | apply pw_below_drewN | apply below_drew1) | exact HB.out)) hb); have n1_ := Aside0.mk (blk_below (g := g1) (o := .cells (cB m) 61 (0, 0)) (by (with_reducible repeat (first | refine blk_drewN ?_ _ | refine blk_drew ?_ | refine blk_alloc ?_ _)); exact BK1.out) hb); have n2_ := Aside0.mk (blk_below (g := g2) (o := .cells #[.int .u8 0, .int .u8 0, .int .u8 0, .int .u8 0, .int .u8 0, .int .u8 0, .int .u8 0, .int .u8 0, .int .u8 0, .int .u8 0, .int .u8 0, .int .u8 0, .int .u8 0, .int .u8 0, .int .u8 0, .int .u8 0] 61 (0, 0)) (by (with_reducible repeat (first | refine blk_drewN ?_ _ | refine blk_drew ?_ | refine blk_alloc ?_ _)); exact BK2.out) hb); have n3_ := Aside0.mk hbox; have n4_ := Aside0.mk (by rw [hg]; exact below_size (by repeat (first | (with_reducible first | exact HB.out | apply below_alloc | apply pw_below_drewN | apply below_drew1) | exact HB.out)) : w.heap.size ≤ g3); have n5_ := Aside0.mk (by rw [hg]; exact Nat.ne_of_lt (blk_lt (g := g1) (o := .cells (cB m) 61 (0, 0)) (by (with_reducible repeat (first | refine blk_drewN ?_ _ | refine blk_drew ?_ | refine blk_alloc ?_ _)); exact BK1.out)) : g1 ≠ g3); have n6_ := Aside0.mk (by rw [hg]; exact Nat.ne_of_gt (blk_lt (g := g1) (o := .cells (cB m) 61 (0, 0)) (by (with_reducible repeat (first | refine blk_drewN ?_ _ | refine blk_drew ?_ | refine blk_alloc ?_ _)); exact BK1.out)) : g3 ≠ g1); have n7_ := Aside0.mk (by rw [hg]; exact Nat.ne_of_lt (blk_lt (g := g2) (o := .cells #[.int .u8 0, .int .u8 0, .int .u8 0, .int .u8 0, .int .u8 0, .int .u8 0, .int .u8 0, .int .u8 0, .int .u8 0, .int .u8 0, .int .u8 0, .int .u8 0, .int .u8 0, .int .u8 0, .int .u8 0, .int .u8 0] 61 (0, 0)) (by (with_reducible repeat (first | refine blk_drewN ?_ _ | refine blk_drew ?_ | refine blk_alloc ?_ _)); exact BK2.out)) : g2 ≠ g3); have n8_ := Aside0.mk (by rw [hg]; exact Nat.ne_of_gt (blk_lt (g := g2) (o := .cells #[.int .u8 0, .int .u8 0, .int .u8 0, .int .u8 0, .int .u8 0, .int .u8 0, .int .u8 0, .int .u8 0, .int .u8 0, .int .u8 0, .int .u8 0, .int .u8 0, .int .u8 0, .int .u8 0, .int .u8 0, .int .u8 0] 61 (0, 0)) (by (with_reducible repeat (first | refine blk_drewN ?_ _ | refine blk_drew ?_ | refine blk_alloc ?_ _)); exact BK2.out)) : g3 ≠ g2); clear HB BK1 BK2; have HB := n0_; have BK1 := n1_; have BK2 := n2_; have BK3 := n3_; have GE3 := n4_; have NE1_3 := n5_; have NE3_1 := n6_; have NE2_3 := n7_; have NE3_2 := n8_; clear n0_ n1_ n2_ n3_ n4_ n5_ n6_ n7_ n8_; clear hb hbox hg)
    | ((with_reducible refine gate_store (t := 61) (p := 3) rfl ?_); refine row_event ?hg (ty := 61) (p := 3) (y := ?yo_18) ?ho ?hn (g := g3) (old := #[.int .u8 0, .int .u8 0, .int .u8 0, .int .u8 0, .int .u8 0, .int .u8 0, .int .u8 0, .int .u8 0, .int .u8 0, .int .u8 0, .int .u8 0, .int .u8 0, .int .u8 0, .int .u8 0, .int .u8 0, .int .u8 0]) (e := 61) (cells := (cB (tab 16 fun _ => 0#8))) ?hx ?hy ?hk ?hi ?hd ?h1 ?_; (case ho => rfl); (case hg => rfl); (case hn => rfl); (case hx => rfl); (case hy => rfl); (case hk => (with_reducible repeat (first | refine blk_drewN ?_ _ | refine blk_drew ?_ | refine blk_alloc ?_ _)); exact BK3.out); (case hi => rw [cB_size, tab_length]; kernel_rfl); (case hd => rw [cB_size, tab_length]; rfl); (case h1 => exact cB_one _); intro wr_ hbk hgr; have n0_ := Aside0.mk (below_grown1 (by repeat (first | (with_reducible first | exact HB.out | apply below_alloc | apply pw_below_drewN | apply below_drew1) | exact HB.out)) hgr GE3.out); have n1_ := Aside0.mk (blk_grown1 (g' := g1) (ob := .cells (cB m) 61 (0, 0)) (by (with_reducible repeat (first | refine blk_drewN ?_ _ | refine blk_drew ?_ | refine blk_alloc ?_ _)); exact BK1.out) hgr NE1_3.out); have n2_ := Aside0.mk (blk_grown1 (g' := g2) (ob := .cells #[.int .u8 0, .int .u8 0, .int .u8 0, .int .u8 0, .int .u8 0, .int .u8 0, .int .u8 0, .int .u8 0, .int .u8 0, .int .u8 0, .int .u8 0, .int .u8 0, .int .u8 0, .int .u8 0, .int .u8 0, .int .u8 0] 61 (0, 0)) (by (with_reducible repeat (first | refine blk_drewN ?_ _ | refine blk_drew ?_ | refine blk_alloc ?_ _)); exact BK2.out) hgr NE2_3.out); have n3_ := Aside0.mk hbk; clear HB BK1 BK2 BK3; have HB := n0_; have BK1 := n1_; have BK2 := n2_; have BK3 := n3_; clear n0_ n1_ n2_ n3_; clear hbk hgr))
  go_loopw [4] (fun v4 W => ∃ c : Nat, c % 4 = 0 ∧ c ≤ 16 ∧ v4 = .int .i64 c ∧ Aside0 (W.heap[g1]? = some (.cells (cB m) 61 (0, 0))) ∧ Aside0 (W.heap[g2]? = some (.cells #[.int .u8 0, .int .u8 0, .int .u8 0, .int .u8 0, .int .u8 0, .int .u8 0, .int .u8 0, .int .u8 0, .int .u8 0, .int .u8 0, .int .u8 0, .int .u8 0, .int .u8 0, .int .u8 0, .int .u8 0, .int .u8 0] 61 (0, 0))) ∧ Aside0 (W.heap[g3]? = some (.cells (cB (fillL 16 (mixAt m) (fun _ => 0#8) (c))) 61 (0, 0))) ∧ Aside0 (Below w.heap.size w W)) (fun v4 _ => 16 - (intOf v4).toNat)
  case atStart => exact ⟨0, by omega, by omega, rfl, BK1, BK2, ⟨by rw [fillL_zero]; exact BK3.out⟩, HB⟩
  case round =>
    clear BK1 BK2 BK3 HB
    obtain ⟨c, hc4, hc, rfl, BK1, BK2, BK3, HB⟩ := hrel
    by_cases hl : c < 16
    · obtain ⟨wo, rfl⟩ : ∃ wo : World, wo = wr := ⟨_, rfl⟩
      have hd : decide ((c : Int) < 16) = true := decide_eq_true (by omega)
      go_wp2_with fail
      go_loopw [13] (fun v13 W => ∃ r : Nat, r ≤ 4 ∧ v13 = .int .i64 r ∧ Aside0 (W.heap[g1]? = some (.cells (cB m) 61 (0, 0))) ∧ Aside0 (W.heap[g2]? = some (.cells #[.int .u8 0, .int .u8 0, .int .u8 0, .int .u8 0, .int .u8 0, .int .u8 0, .int .u8 0, .int .u8 0, .int .u8 0, .int .u8 0, .int .u8 0, .int .u8 0, .int .u8 0, .int .u8 0, .int .u8 0, .int .u8 0] 61 (0, 0))) ∧ Aside0 (W.heap[g3]? = some (.cells (cB (fillL 16 (mixAt m) (fun _ => 0#8) (c + r))) 61 (0, 0))) ∧ Aside0 (Below w.heap.size w W)) (fun v13 _ => 4 - (intOf v13).toNat)
      case atStart => exact ⟨0, by omega, rfl, BK1, BK2, BK3, HB⟩
      case round =>
        clear BK1 BK2 BK3 HB
        obtain ⟨r, hr, rfl, BK1, BK2, BK3, HB⟩ := hrel
        by_cases hr4 : r < 4
        · have hb0 : c + r < 16 := by omega
          have hlt := Aside0.mk hb0
          have hb1 : c + (r + 1) % 4 < 16 := by omega
          have hb2 : c + (r + 2) % 4 < 16 := by omega
          have hb3 : c + (r + 3) % 4 < 16 := by omega
          have hc0 : wr.cell? ⟨g1, c + r, none⟩ = some (.int .u8 (bI (by_ m (c + r)))) := by rw [blk_cell BK1.out, cB_get _ _ (by rw [hm.out]; exact hb0)]
          have hc1 : wr.cell? ⟨g1, c + (r + 1) % 4, none⟩ = some (.int .u8 (bI (by_ m (c + (r + 1) % 4)))) := by rw [blk_cell BK1.out, cB_get _ _ (by rw [hm.out]; exact hb1)]
          have hc2 : wr.cell? ⟨g1, c + (r + 2) % 4, none⟩ = some (.int .u8 (bI (by_ m (c + (r + 2) % 4)))) := by rw [blk_cell BK1.out, cB_get _ _ (by rw [hm.out]; exact hb2)]
          have hc3 : wr.cell? ⟨g1, c + (r + 3) % 4, none⟩ = some (.int .u8 (bI (by_ m (c + (r + 3) % 4)))) := by rw [blk_cell BK1.out, cB_get _ _ (by rw [hm.out]; exact hb3)]
          obtain ⟨old, hold⟩ := Option.isSome_iff_exists.1 (show (wr.cell? ⟨g3, c + r, none⟩).isSome = true by
            rw [blk_cell BK3.out, cB_get _ _ (by rw [fillL_length]; exact hb0)]; rfl)
          have hf := blk_frozen BK3.out (c + r)
          have i1 := eq_true (show (0 : Int) ≤ (c : Int) + (r : Int) by omega)
          have i2 := eq_true (show (c : Int) + (r : Int) < 16 by omega)
          have i3 := eq_true (show (0 : Int) ≤ (c : Int) + ((r : Int) + 1) % 4 by omega)
          have i4 := eq_true (show (c : Int) + ((r : Int) + 1) % 4 < 16 by omega)
          have i5 := eq_true (show (0 : Int) ≤ (c : Int) + ((r : Int) + 2) % 4 by omega)
          have i6 := eq_true (show (c : Int) + ((r : Int) + 2) % 4 < 16 by omega)
          have i7 := eq_true (show (0 : Int) ≤ (c : Int) + ((r : Int) + 3) % 4 by omega)
          have i8 := eq_true (show (c : Int) + ((r : Int) + 3) % 4 < 16 by omega)
          have s1 : Value.int .i64 (IntKind.i64.wrap ((c : Int) + (r : Int))) = .int .i64 ((c : Int) + (r : Int)) := by rw [IntWalk.i64_in _ (by omega)]
          have s2 : Value.int .i64 (IntKind.i64.wrap ((r : Int) + 2)) = .int .i64 ((r : Int) + 2) := by rw [IntWalk.i64_in _ (by omega)]
          have s3 : Value.int .i64 (IntKind.i64.wrap ((r : Int) + 3)) = .int .i64 ((r : Int) + 3) := by rw [IntWalk.i64_in _ (by omega)]
          have t2 : Value.int .i64 (Int.tmod ((r : Int) + 2) 4) = .int .i64 (((r : Int) + 2) % 4) := by rw [Int.tmod_eq_emod_of_nonneg (by omega)]
          have t3 : Value.int .i64 (Int.tmod ((r : Int) + 3) 4) = .int .i64 (((r : Int) + 3) % 4) := by rw [Int.tmod_eq_emod_of_nonneg (by omega)]
          have s4 : Value.int .i64 (IntKind.i64.wrap ((c : Int) + ((r : Int) + 2) % 4)) = .int .i64 ((c : Int) + ((r : Int) + 2) % 4) := by rw [IntWalk.i64_in _ (by omega)]
          have s5 : Value.int .i64 (IntKind.i64.wrap ((c : Int) + ((r : Int) + 3) % 4)) = .int .i64 ((c : Int) + ((r : Int) + 3) % 4) := by rw [IntWalk.i64_in _ (by omega)]
          have n1 : ∀ g : Nat, (⟨g, ((c : Int) + (r : Int)).toNat, none⟩ : Addr) = ⟨g, c + r, none⟩ := fun g => by rw [show ((c : Int) + (r : Int)).toNat = c + r by omega]
          have n2 : ∀ g : Nat, (⟨g, ((c : Int) + ((r : Int) + 2) % 4).toNat, none⟩ : Addr) = ⟨g, c + (r + 2) % 4, none⟩ := fun g => by rw [show ((c : Int) + ((r : Int) + 2) % 4).toNat = c + (r + 2) % 4 by omega]
          have n3 : ∀ g : Nat, (⟨g, ((c : Int) + ((r : Int) + 3) % 4).toNat, none⟩ : Addr) = ⟨g, c + (r + 3) % 4, none⟩ := fun g => by rw [show ((c : Int) + ((r : Int) + 3) % 4).toNat = c + (r + 3) % 4 by omega]
          clear hb0 hb1 hb2 hb3
          have hval := Aside0.mk (mixAt_eq m c r hc4 hr4)
          go_wp2_with fail
          go_quiet (fail)
          go_wp2_with fail
          refine wp_region_tail 27 (by kernel_rfl) (by kernel_rfl) ?_
          simp only [List.take_succ_cons, List.take_zero, List.drop_succ_cons, List.drop_zero]
          repeat still_step
          still_call (twice_mix _ _)
          repeat still_step
          still_call (twice_mix _ _)
          repeat still_step
          refine wpStill_nil ?_
          clear s1 s2 s3 t2 t3 s4 s5 n1 n2 n3
          go_wp2_with (first
              | ((with_reducible refine gate_store (t := 5) (p := 54) rfl ?_); refine cell_event ?hg (t := 5) (p := 54) (v := ?vo_19) ?ho ?hn (i := c + r) (x := (.int .u8 (Go.bits .xor .u8 (Go.bits .xor .u8 (Go.bits .xor .u8 (Go.bits .xor .u8 (bI (xt (by_ m (c + r)))) (bI (xt (by_ m (c + (r + 1) % 4))))) (bI (by_ m (c + (r + 1) % 4)))) (bI (by_ m (c + (r + 2) % 4)))) (bI (by_ m (c + (r + 3) % 4)))))) (cs := (cB (fillL 16 (mixAt m) (fun _ => 0#8) (c + r)))) (g := g3) (e := 61) ?hk ?hr (cs' := (cB (fillL 16 (mixAt m) (fun _ => 0#8) (c + r + 1)))) ?hc ?_; (case ho => rfl); (case hg => rfl); (case hn => rfl); (case hk => (with_reducible repeat (first | refine blk_drewN ?_ _ | refine blk_drew ?_ | refine blk_alloc ?_ _)); exact BK3.out); (case hr => first | (go_simp; done) | (go_simp; rfl)); (case hc => rw [bI_xor, bI_xor, bI_xor, bI_xor, ← hval.out, cB_set]; exact congrArg cB (fillL_set 16 (mixAt m) (fun _ => 0#8) (c + r) hlt.out)); intro wc hbk hgr; have n0_ := Aside0.mk (below_grown1 (by repeat (first | (with_reducible first | exact HB.out | apply below_alloc | apply pw_below_drewN | apply below_drew1) | exact HB.out)) hgr GE3.out); have n1_ := Aside0.mk (blk_grown1 (g' := g1) (ob := .cells (cB m) 61 (0, 0)) (by (with_reducible repeat (first | refine blk_drewN ?_ _ | refine blk_drew ?_ | refine blk_alloc ?_ _)); exact BK1.out) hgr NE1_3.out); have n2_ := Aside0.mk (blk_grown1 (g' := g2) (ob := .cells #[.int .u8 0, .int .u8 0, .int .u8 0, .int .u8 0, .int .u8 0, .int .u8 0, .int .u8 0, .int .u8 0, .int .u8 0, .int .u8 0, .int .u8 0, .int .u8 0, .int .u8 0, .int .u8 0, .int .u8 0, .int .u8 0] 61 (0, 0)) (by (with_reducible repeat (first | refine blk_drewN ?_ _ | refine blk_drew ?_ | refine blk_alloc ?_ _)); exact BK2.out) hgr NE2_3.out); have n3_ := Aside0.mk hbk; clear HB BK1 BK2 BK3; have HB := n0_; have BK1 := n1_; have BK2 := n2_; have BK3 := n3_; clear n0_ n1_ n2_ n3_; clear hbk hgr))
          go_roundw
          case rel => exact ⟨r + 1, by omega, by go_num, BK1, BK2, BK3, HB⟩
          case measure => simp [intOf]; omega
        · obtain rfl : r = 4 := by omega
          go_wp2
          go_roundw
          case rel => exact ⟨c + 4, by omega, by omega, by go_num, BK1, BK2, BK3, HB⟩
          case measure => simp [intOf]; omega
    · obtain rfl : c = 16 := by omega
      rw [show fillL 16 (mixAt m) (fun _ => 0#8) 16 = mixL m from fillL_all _ _ _] at BK3
      go_wp2_with (first
        | ((with_reducible refine gate_dst (N := 56) rfl ?_); refine wpList_load_row ?hg 61 (.tmp 3) ?ho g3 ?hx 61 (cB (mixL m)) (0, 0) _ ?hk Try.underlying61 rfl ?hi ?_; (case hg => rfl); (case ho => rfl); (case hx => rfl); (case hk => (with_reducible repeat (first | refine blk_drewN ?_ _ | refine blk_drew ?_ | refine blk_alloc ?_ _)); exact BK3.out); (case hi => rw [cB_size, mixL_length]; kernel_rfl))
        | ((with_reducible refine gate_store (t := 61) (p := 2) rfl ?_); refine row_event ?hg (ty := 61) (p := 2) (y := ?yo_21) ?ho ?hn (g := g2) (old := #[.int .u8 0, .int .u8 0, .int .u8 0, .int .u8 0, .int .u8 0, .int .u8 0, .int .u8 0, .int .u8 0, .int .u8 0, .int .u8 0, .int .u8 0, .int .u8 0, .int .u8 0, .int .u8 0, .int .u8 0, .int .u8 0]) (e := 61) (cells := (cB (mixL m))) ?hx ?hy ?hk ?hi ?hd ?h1 ?_; (case ho => rfl); (case hg => rfl); (case hn => rfl); (case hx => rfl); (case hy => rfl); (case hk => (with_reducible repeat (first | refine blk_drewN ?_ _ | refine blk_drew ?_ | refine blk_alloc ?_ _)); exact BK2.out); (case hi => rw [cB_size, mixL_length]; kernel_rfl); (case hd => rw [cB_size, mixL_length]; rfl); (case h1 => exact cB_one _); intro wr_ hbk hgr; have n0_ := Aside0.mk (below_grown1 (by repeat (first | (with_reducible first | exact HB.out | apply below_alloc | apply pw_below_drewN | apply below_drew1) | exact HB.out)) hgr GE2.out); have n1_ := Aside0.mk (blk_grown1 (g' := g1) (ob := .cells (cB m) 61 (0, 0)) (by (with_reducible repeat (first | refine blk_drewN ?_ _ | refine blk_drew ?_ | refine blk_alloc ?_ _)); exact BK1.out) hgr NE1_2.out); have n2_ := Aside0.mk (blk_grown1 (g' := g3) (ob := .cells (cB (mixL m)) 61 (0, 0)) (by (with_reducible repeat (first | refine blk_drewN ?_ _ | refine blk_drew ?_ | refine blk_alloc ?_ _)); exact BK3.out) hgr NE3_2.out); have n3_ := Aside0.mk hbk; clear HB BK1 BK3 BK2; have HB := n0_; have BK1 := n1_; have BK3 := n2_; have BK2 := n3_; clear n0_ n1_ n2_ n3_; clear hbk hgr))
      refine bodyPost_ret (results_cell_row rfl _ _ g2 61 (cB (mixL m)) (0, 0) _ rfl (by (with_reducible repeat (first | refine blk_drewN ?_ _ | refine blk_drew ?_ | refine blk_alloc ?_ _)); exact BK2.out) Try.underlying61 rfl (by rw [cB_size, mixL_length]; kernel_rfl)) rfl ?_
      exact ⟨rfl, HB.out⟩

end Go.Proofs.Ytaibogaheidkcaa.All
