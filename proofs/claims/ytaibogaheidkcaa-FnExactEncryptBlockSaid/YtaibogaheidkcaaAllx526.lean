-- Laid by wip/myprint.py of this repo over the kit's print (the functions' texts by the kit's program, some by hand). Not trusted: Lean checks it.
import Derived.Test.YtaibogaheidkcaaAllx0
namespace Go.Proofs.Ytaibogaheidkcaa.All
open Go.RowKit Go.Proofs.YtaibogaheidkcaaW.PrintWords Go.Proofs.YtaibogaheidkcaaW.PrintLast Go.Proofs.YtaibogaheidkcaaW.PrintMore
attribute [local go_sem] max2_int min2_int max_two min_two max_three min_three max_four min_four
set_option linter.unusedVariables false
set_option linter.unusedSimpArgs false


set_option maxHeartbeats 4000000 in
set_option maxRecDepth 100000 in
theorem impl_cipher_add.calls (gK r : Nat) (ks xs : List (BitVec 8)) (hk0 : ks.length = 176) (hx0 : xs.length = 16) (hr0 : r ≤ 10) (w : World) (hb0 : w.heap[gK]? = some (.cells (cB ks) 102 (0, 0))) :
    Calls Try.prog 126 #[.pointer (some ⟨gK, 0, none⟩), .agg (cB xs), .int .i64 r] w fun e w' => e = .returned (.agg (cB (addL ks r xs))) ∧ Below w.heap.size w w' := by
  have hk := Aside0.mk hk0
  have hx := Aside0.mk hx0
  have hr := Aside0.mk hr0
  have hb := Aside0.mk hb0
  clear hk0 hx0 hr0 hb0
  have HB := Aside0.mk (Below.refl w.heap.size w)
  go_enter Try.func126, Try.ntmps126
  go_wp2_with (first
    | ((with_reducible refine gate_dst (N := 4) rfl ?_); refine box_event ?hg (N := 4) ?hd (cs := (cB xs)) (t := 61) ?hr ?_; (case hd => rfl); (case hg => rfl); (case hr => first | (go_simp; done) | (go_simp; rfl)); intro g4 hg w4 hbox hb; have n0_ := Aside0.mk (below_step (by repeat (first | (with_reducible first | exact HB.out | apply below_alloc | apply pw_below_drewN | apply below_drew1) | exact HB.out)) hb); have n1_ := Aside0.mk hbox; have n2_ := Aside0.mk (by rw [hg]; exact below_size (by repeat (first | (with_reducible first | exact HB.out | apply below_alloc | apply pw_below_drewN | apply below_drew1) | exact HB.out)) : w.heap.size ≤ g4); clear HB; have HB := n0_; have BK4 := n1_; have GE4 := n2_; clear n0_ n1_ n2_; clear hb hbox hg)
    | ((with_reducible refine gate_dst (N := 6) rfl ?_); refine box_event ?hg (N := 6) ?hd (cs := #[.int .u8 0, .int .u8 0, .int .u8 0, .int .u8 0, .int .u8 0, .int .u8 0, .int .u8 0, .int .u8 0, .int .u8 0, .int .u8 0, .int .u8 0, .int .u8 0, .int .u8 0, .int .u8 0, .int .u8 0, .int .u8 0]) (t := 61) ?hr ?_; (case hd => rfl); (case hg => rfl); (case hr => first | (go_simp; done) | (go_simp; rfl)); intro g6 hg w6 hbox hb; have n0_ := Aside0.mk (below_step (by repeat (first | (with_reducible first | exact HB.out | apply below_alloc | apply pw_below_drewN | apply below_drew1) | exact HB.out)) hb); have n1_ := Aside0.mk (blk_below (g := g4) (o := .cells (cB xs) 61 (0, 0)) (by (with_reducible repeat (first | refine blk_drewN ?_ _ | refine blk_drew ?_ | refine blk_alloc ?_ _)); exact BK4.out) hb); have n2_ := Aside0.mk hbox; have n3_ := Aside0.mk (by rw [hg]; exact below_size (by repeat (first | (with_reducible first | exact HB.out | apply below_alloc | apply pw_below_drewN | apply below_drew1) | exact HB.out)) : w.heap.size ≤ g6); have n4_ := Aside0.mk (by rw [hg]; exact Nat.ne_of_lt (blk_lt (g := g4) (o := .cells (cB xs) 61 (0, 0)) (by (with_reducible repeat (first | refine blk_drewN ?_ _ | refine blk_drew ?_ | refine blk_alloc ?_ _)); exact BK4.out)) : g4 ≠ g6); have n5_ := Aside0.mk (by rw [hg]; exact Nat.ne_of_gt (blk_lt (g := g4) (o := .cells (cB xs) 61 (0, 0)) (by (with_reducible repeat (first | refine blk_drewN ?_ _ | refine blk_drew ?_ | refine blk_alloc ?_ _)); exact BK4.out)) : g6 ≠ g4); clear HB BK4; have HB := n0_; have BK4 := n1_; have BK6 := n2_; have GE6 := n3_; have NE4_6 := n4_; have NE6_4 := n5_; clear n0_ n1_ n2_ n3_ n4_ n5_; clear hb hbox hg))
  go_loopw [8] (fun v8 W => ∃ i : Nat, i ≤ 16 ∧ v8 = .int .i64 i ∧ Aside0 (W.heap[g4]? = some (.cells (cB (fillL 16 (fun j => by_ xs j ^^^ by_ ks (16 * r + j)) (by_ xs) i)) 61 (0, 0))) ∧ Aside0 (W.heap[g6]? = some (.cells #[.int .u8 0, .int .u8 0, .int .u8 0, .int .u8 0, .int .u8 0, .int .u8 0, .int .u8 0, .int .u8 0, .int .u8 0, .int .u8 0, .int .u8 0, .int .u8 0, .int .u8 0, .int .u8 0, .int .u8 0, .int .u8 0] 61 (0, 0))) ∧ Aside0 (Below w.heap.size w W)) (fun v8 _ => 16 - (intOf v8).toNat)
  case atStart => exact ⟨0, by omega, rfl, ⟨by rw [fillL_zero, ← hx.out, tab_self]; exact BK4.out⟩, BK6, HB⟩
  case round =>
    clear BK4 BK6 HB
    obtain ⟨i, hi, rfl, BK4, BK6, HB⟩ := hrel
    by_cases hl : i < 16
    · have hlt := Aside0.mk hl
      have hc0 : wr.cell? ⟨g4, i, none⟩ = some (.int .u8 (bI (by_ xs i))) := by
        rw [blk_cell BK4.out, cB_get _ _ (by rw [fillL_length]; exact hl), fillL_get _ _ _ _ _ hl, if_neg (by omega)]
      have hc1 : wr.cell? ⟨gK, 16 * r + i, none⟩ = some (.int .u8 (bI (by_ ks (16 * r + i)))) := by
        rw [blk_cell ((HB.out.block gK (blk_lt hb.out)).trans hb.out), cB_get _ _ (by rw [hk.out]; have := hr.out; omega)]
      have hf := blk_frozen BK4.out i
      have i1 := eq_true (show (0 : Int) ≤ 16 * (r : Int) + (i : Int) by omega)
      have i2 := eq_true (show 16 * (r : Int) + (i : Int) < 176 by have := hr.out; omega)
      have i3 := eq_true (show (0 : Int) ≤ (i : Int) by omega)
      have i4 := eq_true (show (i : Int) < 16 by omega)
      have s1 : Value.int .i64 (IntKind.i64.wrap (16 * (r : Int))) = .int .i64 (16 * (r : Int)) := by rw [IntWalk.i64_in _ (by have := hr.out; omega)]
      have s2 : Value.int .i64 (IntKind.i64.wrap (16 * (r : Int) + (i : Int))) = .int .i64 (16 * (r : Int) + (i : Int)) := by rw [IntWalk.i64_in _ (by have := hr.out; omega)]
      have n1 : ∀ g : Nat, (⟨g, (16 * (r : Int) + (i : Int)).toNat, none⟩ : Addr) = ⟨g, 16 * r + i, none⟩ := fun g => by rw [show (16 * (r : Int) + (i : Int)).toNat = 16 * r + i by omega]
      clear hl
      go_wp2_with fail
      refine wp_region_tail 14 (by kernel_rfl) (by kernel_rfl) ?_
      simp only [List.take_succ_cons, List.take_zero, List.drop_succ_cons, List.drop_zero]
      repeat still_step
      refine wpStill_nil ?_
      clear s1 s2 n1
      go_wp2_with (first
          | ((with_reducible refine gate_store (t := 5) (p := 24) rfl ?_); refine cell_event ?hg (t := 5) (p := 24) (v := ?vo_219) ?ho ?hn (i := i) (x := (.int .u8 (Go.bits .xor .u8 (bI (by_ xs i)) (bI (by_ ks (16 * r + i)))))) (cs := (cB (fillL 16 (fun j => by_ xs j ^^^ by_ ks (16 * r + j)) (by_ xs) i))) (g := g4) (e := 61) ?hk ?hr (cs' := (cB (fillL 16 (fun j => by_ xs j ^^^ by_ ks (16 * r + j)) (by_ xs) (i + 1)))) ?hc ?_; (case ho => rfl); (case hg => rfl); (case hn => rfl); (case hk => (with_reducible repeat (first | refine blk_drewN ?_ _ | refine blk_drew ?_ | refine blk_alloc ?_ _)); exact BK4.out); (case hr => first | (go_simp; done) | (go_simp; rfl)); (case hc => rw [bI_xor, cB_set]; exact congrArg cB (fillL_set 16 (fun j => by_ xs j ^^^ by_ ks (16 * r + j)) (by_ xs) i hlt.out)); intro wc hbk hgr; have n0_ := Aside0.mk (below_grown1 (by repeat (first | (with_reducible first | exact HB.out | apply below_alloc | apply pw_below_drewN | apply below_drew1) | exact HB.out)) hgr GE4.out); have n1_ := Aside0.mk (blk_grown1 (g' := g6) (ob := .cells #[.int .u8 0, .int .u8 0, .int .u8 0, .int .u8 0, .int .u8 0, .int .u8 0, .int .u8 0, .int .u8 0, .int .u8 0, .int .u8 0, .int .u8 0, .int .u8 0, .int .u8 0, .int .u8 0, .int .u8 0, .int .u8 0] 61 (0, 0)) (by (with_reducible repeat (first | refine blk_drewN ?_ _ | refine blk_drew ?_ | refine blk_alloc ?_ _)); exact BK6.out) hgr NE6_4.out); have n2_ := Aside0.mk hbk; clear HB BK6 BK4; have HB := n0_; have BK6 := n1_; have BK4 := n2_; clear n0_ n1_ n2_; clear hbk hgr))
      go_roundw
      case rel => exact ⟨i + 1, by have := hlt.out; omega, by go_num, BK4, BK6, HB⟩
      case measure => simp [intOf]; have := hlt.out; omega
    · obtain rfl : i = 16 := by omega
      rw [show fillL 16 (fun j => by_ xs j ^^^ by_ ks (16 * r + j)) (by_ xs) 16 = addL ks r xs from fillL_all _ _ _] at BK4
      go_wp2_with (first
          | ((with_reducible refine gate_dst (N := 26) rfl ?_); refine wpList_load_row ?hg 61 (.tmp 4) ?ho g4 ?hx 61 (cB (addL ks r xs)) (0, 0) _ ?hk Try.underlying61 rfl ?hi ?_; (case hg => rfl); (case ho => rfl); (case hx => rfl); (case hk => (with_reducible repeat (first | refine blk_drewN ?_ _ | refine blk_drew ?_ | refine blk_alloc ?_ _)); exact BK4.out); (case hi => rw [cB_size, addL_length]; kernel_rfl))
          | ((with_reducible refine gate_store (t := 61) (p := 6) rfl ?_); refine row_event ?hg (ty := 61) (p := 6) (y := ?yo_221) ?ho ?hn (g := g6) (old := #[.int .u8 0, .int .u8 0, .int .u8 0, .int .u8 0, .int .u8 0, .int .u8 0, .int .u8 0, .int .u8 0, .int .u8 0, .int .u8 0, .int .u8 0, .int .u8 0, .int .u8 0, .int .u8 0, .int .u8 0, .int .u8 0]) (e := 61) (cells := (cB (addL ks r xs))) ?hx ?hy ?hk ?hi ?hd ?h1 ?_; (case ho => rfl); (case hg => rfl); (case hn => rfl); (case hx => rfl); (case hy => rfl); (case hk => (with_reducible repeat (first | refine blk_drewN ?_ _ | refine blk_drew ?_ | refine blk_alloc ?_ _)); exact BK6.out); (case hi => rw [cB_size, addL_length]; kernel_rfl); (case hd => rw [cB_size, addL_length]; rfl); (case h1 => exact cB_one _); intro wr_ hbk hgr; have n0_ := Aside0.mk (below_grown1 (by repeat (first | (with_reducible first | exact HB.out | apply below_alloc | apply pw_below_drewN | apply below_drew1) | exact HB.out)) hgr GE6.out); have n1_ := Aside0.mk (blk_grown1 (g' := g4) (ob := .cells (cB (addL ks r xs)) 61 (0, 0)) (by (with_reducible repeat (first | refine blk_drewN ?_ _ | refine blk_drew ?_ | refine blk_alloc ?_ _)); exact BK4.out) hgr NE4_6.out); have n2_ := Aside0.mk hbk; clear HB BK4 BK6; have HB := n0_; have BK4 := n1_; have BK6 := n2_; clear n0_ n1_ n2_; clear hbk hgr))
      refine bodyPost_ret (results_cell_row rfl _ _ g6 61 (cB (addL ks r xs)) (0, 0) _ rfl (by (with_reducible repeat (first | refine blk_drewN ?_ _ | refine blk_drew ?_ | refine blk_alloc ?_ _)); exact BK6.out) Try.underlying61 rfl (by rw [cB_size, addL_length]; kernel_rfl)) rfl ?_
      exact ⟨rfl, HB.out⟩

end Go.Proofs.Ytaibogaheidkcaa.All
