-- Laid by wip/myprint.py of this repo over the kit's print (the functions' texts by the kit's program, some by hand). Not trusted: Lean checks it.
import Derived.Test.YtaibogaheidkcaaAllx0
namespace Go.Proofs.Ytaibogaheidkcaa.All
open Go.RowKit Go.Proofs.YtaibogaheidkcaaW.PrintWords Go.Proofs.YtaibogaheidkcaaW.PrintLast Go.Proofs.YtaibogaheidkcaaW.PrintMore
attribute [local go_sem] max2_int min2_int max_two min_two max_three min_three max_four min_four
set_option linter.unusedVariables false
set_option linter.unusedSimpArgs false


set_option maxHeartbeats 4000000 in
set_option maxRecDepth 100000 in
theorem impl_block_subBytes.calls (m : List (BitVec 8)) (hm0 : m.length = 16) (w : World) :
    Calls Try.prog 116 #[.agg (cB m)] w fun e w' => e = .returned (.agg (cB (subL m))) ∧ Below w.heap.size w w' := by
  have hm := Aside0.mk hm0
  clear hm0
  have HB := Aside0.mk (Below.refl w.heap.size w)
  go_enter Try.func116, Try.ntmps116
  go_wp2_with (first
    | ((with_reducible refine gate_dst (N := 1) rfl ?_); refine box_event ?hg (N := 1) ?hd (cs := (cB m)) (t := 61) ?hr ?_; (case hd => rfl); (case hg => rfl); (case hr => first | (go_simp; done) | (go_simp; rfl)); intro g1 hg w1 hbox hb; have n0_ := Aside0.mk (below_step (by repeat (first | (with_reducible first | exact HB.out | apply below_alloc | apply pw_below_drewN | apply below_drew1) | exact HB.out)) hb); have n1_ := Aside0.mk hbox; have n2_ := Aside0.mk (by rw [hg]; exact below_size (by repeat (first | (with_reducible first | exact HB.out | apply below_alloc | apply pw_below_drewN | apply below_drew1) | exact HB.out)) : w.heap.size ≤ g1); clear HB; have HB := n0_; have BK1 := n1_; have GE1 := n2_; clear n0_ n1_ n2_; clear hb hbox hg)
    | ((with_reducible refine gate_dst (N := 2) rfl ?_); refine box_event ?hg (N := 2) ?hd (cs := #[.int .u8 0, .int .u8 0, .int .u8 0, .int .u8 0, .int .u8 0, .int .u8 0, .int .u8 0, .int .u8 0, .int .u8 0, .int .u8 0, .int .u8 0, .int .u8 0, .int .u8 0, .int .u8 0, .int .u8 0, .int .u8 0]) (t := 61) ?hr ?_; (case hd => rfl); (case hg => rfl); (case hr => first | (go_simp; done) | (go_simp; rfl)); intro g2 hg w2 hbox hb; have n0_ := Aside0.mk (below_step (by repeat (first | (with_reducible first | exact HB.out | apply below_alloc | apply pw_below_drewN | apply below_drew1) | exact HB.out)) hb); have n1_ := Aside0.mk (blk_below (g := g1) (o := .cells (cB m) 61 (0, 0)) (by (with_reducible repeat (first | refine blk_drewN ?_ _ | refine blk_drew ?_ | refine blk_alloc ?_ _)); exact BK1.out) hb); have n2_ := Aside0.mk hbox; have n3_ := Aside0.mk (by rw [hg]; exact below_size (by repeat (first | (with_reducible first | exact HB.out | apply below_alloc | apply pw_below_drewN | apply below_drew1) | exact HB.out)) : w.heap.size ≤ g2); have n4_ := Aside0.mk (by rw [hg]; exact Nat.ne_of_lt (blk_lt (g := g1) (o := .cells (cB m) 61 (0, 0)) (by (with_reducible repeat (first | refine blk_drewN ?_ _ | refine blk_drew ?_ | refine blk_alloc ?_ _)); exact BK1.out)) : g1 ≠ g2); have n5_ := Aside0.mk (by rw [hg]; exact Nat.ne_of_gt (blk_lt (g := g1) (o := .cells (cB m) 61 (0, 0)) (by (with_reducible repeat (first | refine blk_drewN ?_ _ | refine blk_drew ?_ | refine blk_alloc ?_ _)); exact BK1.out)) : g2 ≠ g1); clear HB BK1; have HB := n0_; have BK1 := n1_; have BK2 := n2_; have GE2 := n3_; have NE1_2 := n4_; have NE2_1 := n5_; clear n0_ n1_ n2_ n3_ n4_ n5_; clear hb hbox hg)
    | ((with_reducible refine gate_dst (N := 5) rfl ?_); refine wpList_load_row ?hg 61 (.tmp 1) ?ho g1 ?hx 61 (cB m) (0, 0) _ ?hk Try.underlying61 rfl ?hi ?_; (case hg => rfl); (case ho => rfl); (case hx => rfl); (case hk => (with_reducible repeat (first | refine blk_drewN ?_ _ | refine blk_drew ?_ | refine blk_alloc ?_ _)); exact BK1.out); (case hi => rw [cB_size, hm.out]; kernel_rfl)))
  go_loopw [6] (fun v6 W => ∃ i : Nat, i ≤ 16 ∧ v6 = .int .i64 i ∧ Aside0 (W.heap[g1]? = some (.cells (cB (fillL 16 (fun j => SB (by_ m j)) (by_ m) i)) 61 (0, 0))) ∧ Aside0 (W.heap[g2]? = some (.cells #[.int .u8 0, .int .u8 0, .int .u8 0, .int .u8 0, .int .u8 0, .int .u8 0, .int .u8 0, .int .u8 0, .int .u8 0, .int .u8 0, .int .u8 0, .int .u8 0, .int .u8 0, .int .u8 0, .int .u8 0, .int .u8 0] 61 (0, 0))) ∧ Aside0 (Below w.heap.size w W)) (fun v6 _ => 16 - (intOf v6).toNat)
  case atStart => exact ⟨0, by omega, rfl, ⟨by rw [fillL_zero, ← hm.out, tab_self]; exact BK1.out⟩, BK2, HB⟩
  case round =>
    clear BK1 BK2 HB
    obtain ⟨i, hi, rfl, BK1, BK2, HB⟩ := hrel
    by_cases hl : i < 16
    · have hlt := Aside0.mk hl
      have hix := run_index_arr (P := Try.prog) 61 5 16 Try.underlying61 (by kernel_rfl) Try.underlying5 m hm.out i hl
      have hc1 : ∀ W : World, W.heap[g1]? = some (.cells (cB (fillL 16 (fun j => SB (by_ m j)) (by_ m) i)) 61 (0, 0)) → W.cell? ⟨g1, i, none⟩ = some (.int .u8 (bI (by_ m i))) := fun W h => by
        rw [blk_cell h, cB_get _ _ (by rw [fillL_length]; exact hl), fillL_get _ _ _ _ _ hl, if_neg (by omega)]
      have hc := hc1 _ BK1.out
      have hf := blk_frozen BK1.out i
      clear hc1
      go_wp2_with (first
        | ((with_reducible refine gate_dst (N := 12) rfl ?_); refine wp_index_box ?hg 9 ?s_4 (.tmp 11) ?ho Try.underlying9 ?hs (by_ m i) ?hi ?_; (case hg => rfl); (case ho => rfl); (case hs => kernel_rfl); (case hi => rfl))
        | ((with_reducible refine gate_store (t := 5) (p := 13) rfl ?_); refine cell_event ?hg (t := 5) (p := 13) (v := ?vo_5) ?ho ?hn (i := i) (x := (.int .u8 (bI (SB (by_ m i))))) (cs := (cB (fillL 16 (fun j => SB (by_ m j)) (by_ m) i))) (g := g1) (e := 61) ?hk ?hr (cs' := (cB (fillL 16 (fun j => SB (by_ m j)) (by_ m) (i + 1)))) ?hc ?_; (case ho => rfl); (case hg => rfl); (case hn => rfl); (case hk => (with_reducible repeat (first | refine blk_drewN ?_ _ | refine blk_drew ?_ | refine blk_alloc ?_ _)); exact BK1.out); (case hr => first | (go_simp; done) | (go_simp; rfl)); (case hc => rw [cB_set, fillL_set _ _ _ _ hlt.out]); intro wc hbk hgr; have n0_ := Aside0.mk (below_grown1 (by repeat (first | (with_reducible first | exact HB.out | apply below_alloc | apply pw_below_drewN | apply below_drew1) | exact HB.out)) hgr GE1.out); have n1_ := Aside0.mk (blk_grown1 (g' := g2) (ob := .cells #[.int .u8 0, .int .u8 0, .int .u8 0, .int .u8 0, .int .u8 0, .int .u8 0, .int .u8 0, .int .u8 0, .int .u8 0, .int .u8 0, .int .u8 0, .int .u8 0, .int .u8 0, .int .u8 0, .int .u8 0, .int .u8 0] 61 (0, 0)) (by (with_reducible repeat (first | refine blk_drewN ?_ _ | refine blk_drew ?_ | refine blk_alloc ?_ _)); exact BK2.out) hgr NE2_1.out); have n2_ := Aside0.mk hbk; clear HB BK2 BK1; have HB := n0_; have BK2 := n1_; have BK1 := n2_; clear n0_ n1_ n2_; clear hbk hgr))
      go_roundw
      case rel => exact ⟨i + 1, by omega, by go_num, BK1, BK2, HB⟩
      case measure => simp [intOf]; omega
    · obtain rfl : i = 16 := by omega
      rw [show fillL 16 (fun j => SB (by_ m j)) (by_ m) 16 = subL m from fillL_all _ _ _] at BK1
      go_wp2_with (first
        | ((with_reducible refine gate_dst (N := 15) rfl ?_); refine wpList_load_row ?hg 61 (.tmp 1) ?ho g1 ?hx 61 (cB (subL m)) (0, 0) _ ?hk Try.underlying61 rfl ?hi ?_; (case hg => rfl); (case ho => rfl); (case hx => rfl); (case hk => (with_reducible repeat (first | refine blk_drewN ?_ _ | refine blk_drew ?_ | refine blk_alloc ?_ _)); exact BK1.out); (case hi => rw [cB_size, subL_length]; kernel_rfl))
        | ((with_reducible refine gate_store (t := 61) (p := 2) rfl ?_); refine row_event ?hg (ty := 61) (p := 2) (y := ?yo_7) ?ho ?hn (g := g2) (old := #[.int .u8 0, .int .u8 0, .int .u8 0, .int .u8 0, .int .u8 0, .int .u8 0, .int .u8 0, .int .u8 0, .int .u8 0, .int .u8 0, .int .u8 0, .int .u8 0, .int .u8 0, .int .u8 0, .int .u8 0, .int .u8 0]) (e := 61) (cells := (cB (subL m))) ?hx ?hy ?hk ?hi ?hd ?h1 ?_; (case ho => rfl); (case hg => rfl); (case hn => rfl); (case hx => rfl); (case hy => rfl); (case hk => (with_reducible repeat (first | refine blk_drewN ?_ _ | refine blk_drew ?_ | refine blk_alloc ?_ _)); exact BK2.out); (case hi => rw [cB_size, subL_length]; kernel_rfl); (case hd => rw [cB_size, subL_length]; rfl); (case h1 => exact cB_one _); intro wr_ hbk hgr; have n0_ := Aside0.mk (below_grown1 (by repeat (first | (with_reducible first | exact HB.out | apply below_alloc | apply pw_below_drewN | apply below_drew1) | exact HB.out)) hgr GE2.out); have n1_ := Aside0.mk (blk_grown1 (g' := g1) (ob := .cells (cB (subL m)) 61 (0, 0)) (by (with_reducible repeat (first | refine blk_drewN ?_ _ | refine blk_drew ?_ | refine blk_alloc ?_ _)); exact BK1.out) hgr NE1_2.out); have n2_ := Aside0.mk hbk; clear HB BK1 BK2; have HB := n0_; have BK1 := n1_; have BK2 := n2_; clear n0_ n1_ n2_; clear hbk hgr))
      refine bodyPost_ret (results_cell_row rfl _ _ g2 61 (cB (subL m)) (0, 0) _ rfl (by (with_reducible repeat (first | refine blk_drewN ?_ _ | refine blk_drew ?_ | refine blk_alloc ?_ _)); exact BK2.out) Try.underlying61 rfl (by rw [cB_size, subL_length]; kernel_rfl)) rfl ?_
      exact ⟨rfl, HB.out⟩

end Go.Proofs.Ytaibogaheidkcaa.All
