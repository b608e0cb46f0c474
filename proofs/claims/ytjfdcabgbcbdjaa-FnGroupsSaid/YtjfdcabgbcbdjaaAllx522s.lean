-- Laid by wip/shake.py of this repo out of this claim's texts. Not trusted: Lean checks it.
import Derived.Test.YtjfdcabgbcbdjaaAlgs
import Derived.Test.YtjfdcabgbcbdjaaAllx546s
import Derived.Test.YtjfdcabgbcbdjaaAllx517s
import Derived.Test.YtjfdcabgbcbdjaaAllx99s
import Derived.Test.YtjfdcabgbcbdjaaAllx518s
import Derived.Test.YtjfdcabgbcbdjaaDrawns
namespace Go.Proofs.Ytjfdcabgbcbdjaa.All
open Go.RowKit Go.Proofs.YtjfdcabgbcbdjaaW.PrintWords Go.Proofs.YtjfdcabgbcbdjaaW.PrintLast Go.Proofs.YtjfdcabgbcbdjaaW.PrintMore
attribute [local go_sem] max2_int min2_int max_two min_two max_three min_three max_four min_four
set_option linter.unusedVariables false
set_option linter.unusedSimpArgs false
set_option maxHeartbeats 4000000 in
set_option maxRecDepth 100000 in
theorem noBytes_group (n : Int) (w : World) : Calls Try.prog 88 #[.int .i64 n] w fun e w' => e = .returned (.agg #[.int .i64 n, .slice none 0 0]) ∧ Below w.heap.size w w' := by
 have HB := Aside0.mk (Below.refl w.heap.size w)
 go_enter Try.func88, Try.ntmps88
 go_wp2_with (first
  | ((with_reducible refine gate_dst (N := 2) rfl ?_); refine box_event ?hg (N := 2) ?hd (cs := #[.int .i64 0, .slice none 0 0]) (t := 26) ?hr ?_; (case hd => rfl); (case hg => rfl); (case hr => first | (go_simp; done) | (go_simp; rfl)); intro g2 hg w2 hbox hb; have n0_ := Aside0.mk (below_step (by repeat (first | (with_reducible first | exact HB.out | apply below_alloc | apply pw_below_drewN | apply below_drew1) | exact HB.out)) hb); have n1_ := Aside0.mk hbox; have n2_ := Aside0.mk (by rw [hg]; exact below_size (by repeat (first | (with_reducible first | exact HB.out | apply below_alloc | apply pw_below_drewN | apply below_drew1) | exact HB.out)) : w.heap.size ≤ g2); clear HB; have HB := n0_; have BK2 := n1_; have GE2 := n2_; clear n0_ n1_ n2_; clear hb hbox hg)
  | ((with_reducible refine gate_store (t := 26) (p := 2) rfl ?_); refine row_event ?hg (ty := 26) (p := 2) (y := ?yo_119) ?ho ?hn (g := g2) (old := #[.int .i64 0, .slice none 0 0]) (e := 26) (cells := #[.int .i64 n, .slice none 0 0]) ?hx ?hy ?hk ?hi ?hd ?h1 ?_; (case ho => rfl); (case hg => rfl); (case hn => rfl); (case hx => rfl); (case hy => rfl); (case hk => (with_reducible repeat (first | refine blk_drewN ?_ _ | refine blk_drew ?_ | refine blk_alloc ?_ _)); exact BK2.out); (case hi => kernel_rfl); (case hd => rfl); (case h1 => simp [Value.oneCell']); intro wr_ hbk hgr; have n0_ := Aside0.mk (below_grown1 (by repeat (first | (with_reducible first | exact HB.out | apply below_alloc | apply pw_below_drewN | apply below_drew1) | exact HB.out)) hgr GE2.out); have n1_ := Aside0.mk hbk; clear HB BK2; have HB := n0_; have BK2 := n1_; clear n0_ n1_; clear hbk hgr))
 refine bodyPost_ret (results_cell_row rfl _ _ g2 26 #[.int .i64 n, .slice none 0 0] (0, 0) _ rfl (by (with_reducible repeat (first | refine blk_drewN ?_ _ | refine blk_drew ?_ | refine blk_alloc ?_ _)); exact BK2.out) Try.underlying26 rfl (by kernel_rfl)) rfl ?_
 exact ⟨rfl, HB.out⟩
def impl_GroupTimes.g (k : Nat) (m0 m1 : List (BitVec 8)) : Option (Int × List Int) := if m0.length = 16 ∧ m1.length = 16 then ((impl_element_times.f k (hiN m0 : Nat) (loN m0 : Nat) (hiN m1 : Nat) (loN m1 : Nat)).bind fun r => if 0 ≤ r.1 ∧ r.1 < 18446744073709551616 ∧ 0 ≤ r.2 ∧ r.2 < 18446744073709551616 then some (0, bL (outL r.1.toNat r.2.toNat 8)) else none) else some (2, [])
def impl_GroupTimes.f (k : Nat) (l0 l1 : List Int) : Option (Int × List Int) := if isBs l0 = true ∧ isBs l1 = true then impl_GroupTimes.g k (unB l0) (unB l1) else none
theorem impl_GroupTimes.mono : ∀ a0 a1 k, LeO (impl_GroupTimes.f k a0 a1) (impl_GroupTimes.f (k + 1) a0 a1) := by
 intro a0 a1 k
 unfold impl_GroupTimes.f impl_GroupTimes.g
 repeat' first
   | (with_reducible exact impl_element_times.mono _ _ _ _ _)
   | (with_reducible exact LeO.refl _)
   | (with_reducible refine LeO.ite ?_ ?_)
   | (with_reducible refine LeO.bind ?_ (fun _ => ?_))
set_option maxHeartbeats 4000000 in
set_option maxRecDepth 100000 in
theorem groupTimes_here (k : Nat) (A0 : Option Addr) (c0 : Nat) (m0 : List (BitVec 8)) (A1 : Option Addr) (c1 : Nat) (m1 : List (BitVec 8)) (r1 : Int) (r2 : List Int) (w : World) (hr0 : Kd.C (Kd.int .u8) w A0 m0.length (bL m0)) (hr1 : Kd.C (Kd.int .u8) w A1 m1.length (bL m1)) (h : impl_GroupTimes.g k m0 m1 = some (r1, r2)) :
  Calls Try.prog 44 #[.slice A0 m0.length c0, .slice A1 m1.length c1] w fun e w' => ∃ v1_ : Value, e = .returned (.agg #[.int .i64 r1, v1_]) ∧ Kd.R (Kd.int .u8) 82 w' w.heap.size (fun _ => True) v1_ r2 ∧ Below w.heap.size w w' := by
 have HR0 := Aside0.mk hr0
 have HR1 := Aside0.mk hr1
 clear hr0 hr1
 have HB := Aside0.mk (Below.refl w.heap.size w)
 unfold impl_GroupTimes.g at h
 by_cases h0 : m0.length = 16
 case neg =>
  rw [if_neg (fun q => h0 q.1)] at h
  simp only [Option.some.injEq, Prod.mk.injEq] at h
  obtain ⟨e1, e2⟩ := h
  subst e1 e2
  have hd0 : decide (m0.length = 16) = false := decide_eq_false h0
  clear h0
  go_enter Try.func44, Try.ntmps44
  go_wp2_with (first
    | ((with_reducible refine gate_dst (N := 4) rfl ?_); refine box_event ?hg (N := 4) ?hd (cs := #[.int .i64 0, .slice none 0 0]) (t := 26) ?hr ?_; (case hd => rfl); (case hg => rfl); (case hr => first | (go_simp; done) | (go_simp; rfl)); intro g4 hg w4 hbox hb; have n0_ := Aside0.mk (below_step (by repeat (first | (with_reducible first | exact HB.out | apply below_alloc | apply pw_below_drewN | apply below_drew1) | exact HB.out)) hb); have n1_ := Aside0.mk hbox; have n2_ := Aside0.mk (by rw [hg]; exact below_size (by repeat (first | (with_reducible first | exact HB.out | apply below_alloc | apply pw_below_drewN | apply below_drew1) | exact HB.out)) : w.heap.size ≤ g4); clear HB; have HB := n0_; have BK4 := n1_; have GE4 := n2_; clear n0_ n1_ n2_; clear hb hbox hg)
    | (go_at_call 97; (with_reducible refine (impl_asBlock.calls A0 c0 m0 _ ?hC_110).mono ?_); (case hC_110 => (first | exact Kd.C_below HR0.out (by repeat (first | (with_reducible first | exact HB.out | apply below_alloc | apply pw_below_drewN | apply below_drew1) | exact HB.out)) | exact (Kd.C_below HR0.out HB.out))); rintro e wk ⟨rfl, hb⟩; have n0_ := Aside0.mk (below_step (by repeat (first | (with_reducible first | exact HB.out | apply below_alloc | apply pw_below_drewN | apply below_drew1) | exact HB.out)) hb); have n1_ := Aside0.mk (blk_below (g := g4) (o := .cells #[.int .i64 0, .slice none 0 0] 26 (0, 0)) (by (with_reducible repeat (first | refine blk_drewN ?_ _ | refine blk_drew ?_ | refine blk_alloc ?_ _)); exact BK4.out) hb); clear HB BK4; have HB := n0_; have BK4 := n1_; clear n0_ n1_; clear hb)
    | ((with_reducible refine gate_dst (N := 5) rfl ?_); refine box_event ?hg (N := 5) ?hd (cs := #[.int .u8 0, .int .u8 0, .int .u8 0, .int .u8 0, .int .u8 0, .int .u8 0, .int .u8 0, .int .u8 0, .int .u8 0, .int .u8 0, .int .u8 0, .int .u8 0, .int .u8 0, .int .u8 0, .int .u8 0, .int .u8 0]) (t := 82) ?hr ?_; (case hd => rfl); (case hg => rfl); (case hr => first | (go_simp; done) | (go_simp; rfl)); intro g5 hg w5 hbox hb; have n0_ := Aside0.mk (below_step (by repeat (first | (with_reducible first | exact HB.out | apply below_alloc | apply pw_below_drewN | apply below_drew1) | exact HB.out)) hb); have n1_ := Aside0.mk (blk_below (g := g4) (o := .cells #[.int .i64 0, .slice none 0 0] 26 (0, 0)) (by (with_reducible repeat (first | refine blk_drewN ?_ _ | refine blk_drew ?_ | refine blk_alloc ?_ _)); exact BK4.out) hb); have n2_ := Aside0.mk hbox; have n3_ := Aside0.mk (by rw [hg]; exact below_size (by repeat (first | (with_reducible first | exact HB.out | apply below_alloc | apply pw_below_drewN | apply below_drew1) | exact HB.out)) : w.heap.size ≤ g5); clear HB BK4; have HB := n0_; have BK4 := n1_; have BK5 := n2_; have GE5 := n3_; clear n0_ n1_ n2_ n3_; clear hb hbox hg)
    | ((with_reducible refine gate_store (t := 82) (p := 5) rfl ?_); refine row_event ?hg (ty := 82) (p := 5) (y := ?yo_112) ?ho ?hn (g := g5) (old := #[.int .u8 0, .int .u8 0, .int .u8 0, .int .u8 0, .int .u8 0, .int .u8 0, .int .u8 0, .int .u8 0, .int .u8 0, .int .u8 0, .int .u8 0, .int .u8 0, .int .u8 0, .int .u8 0, .int .u8 0, .int .u8 0]) (e := 82) (cells := (cB (pad16 m0))) ?hx ?hy ?hk ?hi ?hd ?h1 ?_; (case ho => rfl); (case hg => rfl); (case hn => rfl); (case hx => rfl); (case hy => rfl); (case hk => (with_reducible repeat (first | refine blk_drewN ?_ _ | refine blk_drew ?_ | refine blk_alloc ?_ _)); exact BK5.out); (case hi => rw [cB_size, pad16_length]; kernel_rfl); (case hd => rw [cB_size, pad16_length]; rfl); (case h1 => exact cB_one _); intro wr_ hbk hgr; have n0_ := Aside0.mk (below_grown1 (by repeat (first | (with_reducible first | exact HB.out | apply below_alloc | apply pw_below_drewN | apply below_drew1) | exact HB.out)) hgr GE5.out); have n1_ := Aside0.mk (blk_grown1 (g' := g4) (ob := .cells #[.int .i64 0, .slice none 0 0] 26 (0, 0)) (by (with_reducible repeat (first | refine blk_drewN ?_ _ | refine blk_drew ?_ | refine blk_alloc ?_ _)); exact BK4.out) hgr (blk_ne (by (with_reducible repeat (first | refine blk_drewN ?_ _ | refine blk_drew ?_ | refine blk_alloc ?_ _)); exact BK4.out) (by (with_reducible repeat (first | refine blk_drewN ?_ _ | refine blk_drew ?_ | refine blk_alloc ?_ _)); exact BK5.out) (by decide))); have n2_ := Aside0.mk hbk; clear HB BK4 BK5; have HB := n0_; have BK4 := n1_; have BK5 := n2_; clear n0_ n1_ n2_; clear hbk hgr)
    | (go_at_call 97; (with_reducible refine (impl_asBlock.calls A1 c1 m1 _ ?hC_113).mono ?_); (case hC_113 => (first | exact Kd.C_below HR1.out (by repeat (first | (with_reducible first | exact HB.out | apply below_alloc | apply pw_below_drewN | apply below_drew1) | exact HB.out)) | exact (Kd.C_below HR1.out HB.out))); rintro e wk ⟨rfl, hb⟩; have n0_ := Aside0.mk (below_step (by repeat (first | (with_reducible first | exact HB.out | apply below_alloc | apply pw_below_drewN | apply below_drew1) | exact HB.out)) hb); have n1_ := Aside0.mk (blk_below (g := g4) (o := .cells #[.int .i64 0, .slice none 0 0] 26 (0, 0)) (by (with_reducible repeat (first | refine blk_drewN ?_ _ | refine blk_drew ?_ | refine blk_alloc ?_ _)); exact BK4.out) hb); have n2_ := Aside0.mk (blk_below (g := g5) (o := .cells (cB (pad16 m0)) 82 (0, 0)) (by (with_reducible repeat (first | refine blk_drewN ?_ _ | refine blk_drew ?_ | refine blk_alloc ?_ _)); exact BK5.out) hb); clear HB BK4 BK5; have HB := n0_; have BK4 := n1_; have BK5 := n2_; clear n0_ n1_ n2_; clear hb)
    | ((with_reducible refine gate_dst (N := 7) rfl ?_); refine box_event ?hg (N := 7) ?hd (cs := #[.int .u8 0, .int .u8 0, .int .u8 0, .int .u8 0, .int .u8 0, .int .u8 0, .int .u8 0, .int .u8 0, .int .u8 0, .int .u8 0, .int .u8 0, .int .u8 0, .int .u8 0, .int .u8 0, .int .u8 0, .int .u8 0]) (t := 82) ?hr ?_; (case hd => rfl); (case hg => rfl); (case hr => first | (go_simp; done) | (go_simp; rfl)); intro g7 hg w7 hbox hb; have n0_ := Aside0.mk (below_step (by repeat (first | (with_reducible first | exact HB.out | apply below_alloc | apply pw_below_drewN | apply below_drew1) | exact HB.out)) hb); have n1_ := Aside0.mk (blk_below (g := g4) (o := .cells #[.int .i64 0, .slice none 0 0] 26 (0, 0)) (by (with_reducible repeat (first | refine blk_drewN ?_ _ | refine blk_drew ?_ | refine blk_alloc ?_ _)); exact BK4.out) hb); have n2_ := Aside0.mk (blk_below (g := g5) (o := .cells (cB (pad16 m0)) 82 (0, 0)) (by (with_reducible repeat (first | refine blk_drewN ?_ _ | refine blk_drew ?_ | refine blk_alloc ?_ _)); exact BK5.out) hb); have n3_ := Aside0.mk hbox; have n4_ := Aside0.mk (by rw [hg]; exact below_size (by repeat (first | (with_reducible first | exact HB.out | apply below_alloc | apply pw_below_drewN | apply below_drew1) | exact HB.out)) : w.heap.size ≤ g7); have n5_ := Aside0.mk (by rw [hg]; exact Nat.ne_of_lt (blk_lt (g := g5) (o := .cells (cB (pad16 m0)) 82 (0, 0)) (by (with_reducible repeat (first | refine blk_drewN ?_ _ | refine blk_drew ?_ | refine blk_alloc ?_ _)); exact BK5.out)) : g5 ≠ g7); have n6_ := Aside0.mk (by rw [hg]; exact Nat.ne_of_gt (blk_lt (g := g5) (o := .cells (cB (pad16 m0)) 82 (0, 0)) (by (with_reducible repeat (first | refine blk_drewN ?_ _ | refine blk_drew ?_ | refine blk_alloc ?_ _)); exact BK5.out)) : g7 ≠ g5); clear HB BK4 BK5; have HB := n0_; have BK4 := n1_; have BK5 := n2_; have BK7 := n3_; have GE7 := n4_; have NE5_7 := n5_; have NE7_5 := n6_; clear n0_ n1_ n2_ n3_ n4_ n5_ n6_; clear hb hbox hg)
    | ((with_reducible refine gate_store (t := 82) (p := 7) rfl ?_); refine row_event ?hg (ty := 82) (p := 7) (y := ?yo_115) ?ho ?hn (g := g7) (old := #[.int .u8 0, .int .u8 0, .int .u8 0, .int .u8 0, .int .u8 0, .int .u8 0, .int .u8 0, .int .u8 0, .int .u8 0, .int .u8 0, .int .u8 0, .int .u8 0, .int .u8 0, .int .u8 0, .int .u8 0, .int .u8 0]) (e := 82) (cells := (cB (pad16 m1))) ?hx ?hy ?hk ?hi ?hd ?h1 ?_; (case ho => rfl); (case hg => rfl); (case hn => rfl); (case hx => rfl); (case hy => rfl); (case hk => (with_reducible repeat (first | refine blk_drewN ?_ _ | refine blk_drew ?_ | refine blk_alloc ?_ _)); exact BK7.out); (case hi => rw [cB_size, pad16_length]; kernel_rfl); (case hd => rw [cB_size, pad16_length]; rfl); (case h1 => exact cB_one _); intro wr_ hbk hgr; have n0_ := Aside0.mk (below_grown1 (by repeat (first | (with_reducible first | exact HB.out | apply below_alloc | apply pw_below_drewN | apply below_drew1) | exact HB.out)) hgr GE7.out); have n1_ := Aside0.mk (blk_grown1 (g' := g4) (ob := .cells #[.int .i64 0, .slice none 0 0] 26 (0, 0)) (by (with_reducible repeat (first | refine blk_drewN ?_ _ | refine blk_drew ?_ | refine blk_alloc ?_ _)); exact BK4.out) hgr (blk_ne (by (with_reducible repeat (first | refine blk_drewN ?_ _ | refine blk_drew ?_ | refine blk_alloc ?_ _)); exact BK4.out) (by (with_reducible repeat (first | refine blk_drewN ?_ _ | refine blk_drew ?_ | refine blk_alloc ?_ _)); exact BK7.out) (by decide))); have n2_ := Aside0.mk (blk_grown1 (g' := g5) (ob := .cells (cB (pad16 m0)) 82 (0, 0)) (by (with_reducible repeat (first | refine blk_drewN ?_ _ | refine blk_drew ?_ | refine blk_alloc ?_ _)); exact BK5.out) hgr NE5_7.out); have n3_ := Aside0.mk hbk; clear HB BK4 BK5 BK7; have HB := n0_; have BK4 := n1_; have BK5 := n2_; have BK7 := n3_; clear n0_ n1_ n2_ n3_; clear hbk hgr)
    | (go_at_call 88; refine (noBytes_group 2 _).mono ?_; rintro e wk2 ⟨rfl, hb⟩; have n0_ := Aside0.mk (below_step (by repeat (first | (with_reducible first | exact HB.out | apply below_alloc | apply pw_below_drewN | apply below_drew1) | exact HB.out)) hb); have n1_ := Aside0.mk (blk_below (g := g4) (o := .cells #[.int .i64 0, .slice none 0 0] 26 (0, 0)) (by (with_reducible repeat (first | refine blk_drewN ?_ _ | refine blk_drew ?_ | refine blk_alloc ?_ _)); exact BK4.out) hb); have n2_ := Aside0.mk (blk_below (g := g5) (o := .cells (cB (pad16 m0)) 82 (0, 0)) (by (with_reducible repeat (first | refine blk_drewN ?_ _ | refine blk_drew ?_ | refine blk_alloc ?_ _)); exact BK5.out) hb); have n3_ := Aside0.mk (blk_below (g := g7) (o := .cells (cB (pad16 m1)) 82 (0, 0)) (by (with_reducible repeat (first | refine blk_drewN ?_ _ | refine blk_drew ?_ | refine blk_alloc ?_ _)); exact BK7.out) hb); clear HB BK4 BK5 BK7; have HB := n0_; have BK4 := n1_; have BK5 := n2_; have BK7 := n3_; clear n0_ n1_ n2_ n3_; clear hb)
    | ((with_reducible refine gate_store (t := 26) (p := 4) rfl ?_); refine row_event ?hg (ty := 26) (p := 4) (y := ?yo_117) ?ho ?hn (g := g4) (old := #[.int .i64 0, .slice none 0 0]) (e := 26) (cells := #[.int .i64 2, .slice none 0 0]) ?hx ?hy ?hk ?hi ?hd ?h1 ?_; (case ho => rfl); (case hg => rfl); (case hn => rfl); (case hx => rfl); (case hy => rfl); (case hk => (with_reducible repeat (first | refine blk_drewN ?_ _ | refine blk_drew ?_ | refine blk_alloc ?_ _)); exact BK4.out); (case hi => kernel_rfl); (case hd => rfl); (case h1 => simp [Value.oneCell']); intro wr_ hbk hgr; have n0_ := Aside0.mk (below_grown1 (by repeat (first | (with_reducible first | exact HB.out | apply below_alloc | apply pw_below_drewN | apply below_drew1) | exact HB.out)) hgr GE4.out); have n1_ := Aside0.mk (blk_grown1 (g' := g5) (ob := .cells (cB (pad16 m0)) 82 (0, 0)) (by (with_reducible repeat (first | refine blk_drewN ?_ _ | refine blk_drew ?_ | refine blk_alloc ?_ _)); exact BK5.out) hgr (blk_ne (by (with_reducible repeat (first | refine blk_drewN ?_ _ | refine blk_drew ?_ | refine blk_alloc ?_ _)); exact BK5.out) (by (with_reducible repeat (first | refine blk_drewN ?_ _ | refine blk_drew ?_ | refine blk_alloc ?_ _)); exact BK4.out) (by decide))); have n2_ := Aside0.mk (blk_grown1 (g' := g7) (ob := .cells (cB (pad16 m1)) 82 (0, 0)) (by (with_reducible repeat (first | refine blk_drewN ?_ _ | refine blk_drew ?_ | refine blk_alloc ?_ _)); exact BK7.out) hgr (blk_ne (by (with_reducible repeat (first | refine blk_drewN ?_ _ | refine blk_drew ?_ | refine blk_alloc ?_ _)); exact BK7.out) (by (with_reducible repeat (first | refine blk_drewN ?_ _ | refine blk_drew ?_ | refine blk_alloc ?_ _)); exact BK4.out) (by decide))); have n3_ := Aside0.mk hbk; clear HB BK5 BK7 BK4; have HB := n0_; have BK5 := n1_; have BK7 := n2_; have BK4 := n3_; clear n0_ n1_ n2_ n3_; clear hbk hgr))
  refine bodyPost_ret (results_cell_row rfl _ _ g4 26 #[.int .i64 2, .slice none 0 0] (0, 0) _ rfl (by (with_reducible repeat (first | refine blk_drewN ?_ _ | refine blk_drew ?_ | refine blk_alloc ?_ _)); exact BK4.out) Try.underlying26 rfl (by kernel_rfl)) rfl ?_
  exact ⟨_, rfl, Kd.R_nil _ _ _ _ _, HB.out⟩
 by_cases h1 : m1.length = 16
 case neg =>
  rw [if_neg (fun q => h1 q.2)] at h
  simp only [Option.some.injEq, Prod.mk.injEq] at h
  obtain ⟨e1, e2⟩ := h
  subst e1 e2
  have hd0 : decide (m0.length = 16) = true := decide_eq_true h0
  have hd1 : decide (m1.length = 16) = false := decide_eq_false h1
  clear h0 h1
  go_enter Try.func44, Try.ntmps44
  go_wp2_with (first
    | ((with_reducible refine gate_dst (N := 4) rfl ?_); refine box_event ?hg (N := 4) ?hd (cs := #[.int .i64 0, .slice none 0 0]) (t := 26) ?hr ?_; (case hd => rfl); (case hg => rfl); (case hr => first | (go_simp; done) | (go_simp; rfl)); intro g4 hg w4 hbox hb; have n0_ := Aside0.mk (below_step (by repeat (first | (with_reducible first | exact HB.out | apply below_alloc | apply pw_below_drewN | apply below_drew1) | exact HB.out)) hb); have n1_ := Aside0.mk hbox; have n2_ := Aside0.mk (by rw [hg]; exact below_size (by repeat (first | (with_reducible first | exact HB.out | apply below_alloc | apply pw_below_drewN | apply below_drew1) | exact HB.out)) : w.heap.size ≤ g4); clear HB; have HB := n0_; have BK4 := n1_; have GE4 := n2_; clear n0_ n1_ n2_; clear hb hbox hg)
    | (go_at_call 97; (with_reducible refine (impl_asBlock.calls A0 c0 m0 _ ?hC_110).mono ?_); (case hC_110 => (first | exact Kd.C_below HR0.out (by repeat (first | (with_reducible first | exact HB.out | apply below_alloc | apply pw_below_drewN | apply below_drew1) | exact HB.out)) | exact (Kd.C_below HR0.out HB.out))); rintro e wk ⟨rfl, hb⟩; have n0_ := Aside0.mk (below_step (by repeat (first | (with_reducible first | exact HB.out | apply below_alloc | apply pw_below_drewN | apply below_drew1) | exact HB.out)) hb); have n1_ := Aside0.mk (blk_below (g := g4) (o := .cells #[.int .i64 0, .slice none 0 0] 26 (0, 0)) (by (with_reducible repeat (first | refine blk_drewN ?_ _ | refine blk_drew ?_ | refine blk_alloc ?_ _)); exact BK4.out) hb); clear HB BK4; have HB := n0_; have BK4 := n1_; clear n0_ n1_; clear hb)
    | ((with_reducible refine gate_dst (N := 5) rfl ?_); refine box_event ?hg (N := 5) ?hd (cs := #[.int .u8 0, .int .u8 0, .int .u8 0, .int .u8 0, .int .u8 0, .int .u8 0, .int .u8 0, .int .u8 0, .int .u8 0, .int .u8 0, .int .u8 0, .int .u8 0, .int .u8 0, .int .u8 0, .int .u8 0, .int .u8 0]) (t := 82) ?hr ?_; (case hd => rfl); (case hg => rfl); (case hr => first | (go_simp; done) | (go_simp; rfl)); intro g5 hg w5 hbox hb; have n0_ := Aside0.mk (below_step (by repeat (first | (with_reducible first | exact HB.out | apply below_alloc | apply pw_below_drewN | apply below_drew1) | exact HB.out)) hb); have n1_ := Aside0.mk (blk_below (g := g4) (o := .cells #[.int .i64 0, .slice none 0 0] 26 (0, 0)) (by (with_reducible repeat (first | refine blk_drewN ?_ _ | refine blk_drew ?_ | refine blk_alloc ?_ _)); exact BK4.out) hb); have n2_ := Aside0.mk hbox; have n3_ := Aside0.mk (by rw [hg]; exact below_size (by repeat (first | (with_reducible first | exact HB.out | apply below_alloc | apply pw_below_drewN | apply below_drew1) | exact HB.out)) : w.heap.size ≤ g5); clear HB BK4; have HB := n0_; have BK4 := n1_; have BK5 := n2_; have GE5 := n3_; clear n0_ n1_ n2_ n3_; clear hb hbox hg)
    | ((with_reducible refine gate_store (t := 82) (p := 5) rfl ?_); refine row_event ?hg (ty := 82) (p := 5) (y := ?yo_112) ?ho ?hn (g := g5) (old := #[.int .u8 0, .int .u8 0, .int .u8 0, .int .u8 0, .int .u8 0, .int .u8 0, .int .u8 0, .int .u8 0, .int .u8 0, .int .u8 0, .int .u8 0, .int .u8 0, .int .u8 0, .int .u8 0, .int .u8 0, .int .u8 0]) (e := 82) (cells := (cB (pad16 m0))) ?hx ?hy ?hk ?hi ?hd ?h1 ?_; (case ho => rfl); (case hg => rfl); (case hn => rfl); (case hx => rfl); (case hy => rfl); (case hk => (with_reducible repeat (first | refine blk_drewN ?_ _ | refine blk_drew ?_ | refine blk_alloc ?_ _)); exact BK5.out); (case hi => rw [cB_size, pad16_length]; kernel_rfl); (case hd => rw [cB_size, pad16_length]; rfl); (case h1 => exact cB_one _); intro wr_ hbk hgr; have n0_ := Aside0.mk (below_grown1 (by repeat (first | (with_reducible first | exact HB.out | apply below_alloc | apply pw_below_drewN | apply below_drew1) | exact HB.out)) hgr GE5.out); have n1_ := Aside0.mk (blk_grown1 (g' := g4) (ob := .cells #[.int .i64 0, .slice none 0 0] 26 (0, 0)) (by (with_reducible repeat (first | refine blk_drewN ?_ _ | refine blk_drew ?_ | refine blk_alloc ?_ _)); exact BK4.out) hgr (blk_ne (by (with_reducible repeat (first | refine blk_drewN ?_ _ | refine blk_drew ?_ | refine blk_alloc ?_ _)); exact BK4.out) (by (with_reducible repeat (first | refine blk_drewN ?_ _ | refine blk_drew ?_ | refine blk_alloc ?_ _)); exact BK5.out) (by decide))); have n2_ := Aside0.mk hbk; clear HB BK4 BK5; have HB := n0_; have BK4 := n1_; have BK5 := n2_; clear n0_ n1_ n2_; clear hbk hgr)
    | (go_at_call 97; (with_reducible refine (impl_asBlock.calls A1 c1 m1 _ ?hC_113).mono ?_); (case hC_113 => (first | exact Kd.C_below HR1.out (by repeat (first | (with_reducible first | exact HB.out | apply below_alloc | apply pw_below_drewN | apply below_drew1) | exact HB.out)) | exact (Kd.C_below HR1.out HB.out))); rintro e wk ⟨rfl, hb⟩; have n0_ := Aside0.mk (below_step (by repeat (first | (with_reducible first | exact HB.out | apply below_alloc | apply pw_below_drewN | apply below_drew1) | exact HB.out)) hb); have n1_ := Aside0.mk (blk_below (g := g4) (o := .cells #[.int .i64 0, .slice none 0 0] 26 (0, 0)) (by (with_reducible repeat (first | refine blk_drewN ?_ _ | refine blk_drew ?_ | refine blk_alloc ?_ _)); exact BK4.out) hb); have n2_ := Aside0.mk (blk_below (g := g5) (o := .cells (cB (pad16 m0)) 82 (0, 0)) (by (with_reducible repeat (first | refine blk_drewN ?_ _ | refine blk_drew ?_ | refine blk_alloc ?_ _)); exact BK5.out) hb); clear HB BK4 BK5; have HB := n0_; have BK4 := n1_; have BK5 := n2_; clear n0_ n1_ n2_; clear hb)
    | ((with_reducible refine gate_dst (N := 7) rfl ?_); refine box_event ?hg (N := 7) ?hd (cs := #[.int .u8 0, .int .u8 0, .int .u8 0, .int .u8 0, .int .u8 0, .int .u8 0, .int .u8 0, .int .u8 0, .int .u8 0, .int .u8 0, .int .u8 0, .int .u8 0, .int .u8 0, .int .u8 0, .int .u8 0, .int .u8 0]) (t := 82) ?hr ?_; (case hd => rfl); (case hg => rfl); (case hr => first | (go_simp; done) | (go_simp; rfl)); intro g7 hg w7 hbox hb; have n0_ := Aside0.mk (below_step (by repeat (first | (with_reducible first | exact HB.out | apply below_alloc | apply pw_below_drewN | apply below_drew1) | exact HB.out)) hb); have n1_ := Aside0.mk (blk_below (g := g4) (o := .cells #[.int .i64 0, .slice none 0 0] 26 (0, 0)) (by (with_reducible repeat (first | refine blk_drewN ?_ _ | refine blk_drew ?_ | refine blk_alloc ?_ _)); exact BK4.out) hb); have n2_ := Aside0.mk (blk_below (g := g5) (o := .cells (cB (pad16 m0)) 82 (0, 0)) (by (with_reducible repeat (first | refine blk_drewN ?_ _ | refine blk_drew ?_ | refine blk_alloc ?_ _)); exact BK5.out) hb); have n3_ := Aside0.mk hbox; have n4_ := Aside0.mk (by rw [hg]; exact below_size (by repeat (first | (with_reducible first | exact HB.out | apply below_alloc | apply pw_below_drewN | apply below_drew1) | exact HB.out)) : w.heap.size ≤ g7); have n5_ := Aside0.mk (by rw [hg]; exact Nat.ne_of_lt (blk_lt (g := g5) (o := .cells (cB (pad16 m0)) 82 (0, 0)) (by (with_reducible repeat (first | refine blk_drewN ?_ _ | refine blk_drew ?_ | refine blk_alloc ?_ _)); exact BK5.out)) : g5 ≠ g7); have n6_ := Aside0.mk (by rw [hg]; exact Nat.ne_of_gt (blk_lt (g := g5) (o := .cells (cB (pad16 m0)) 82 (0, 0)) (by (with_reducible repeat (first | refine blk_drewN ?_ _ | refine blk_drew ?_ | refine blk_alloc ?_ _)); exact BK5.out)) : g7 ≠ g5); clear HB BK4 BK5; have HB := n0_; have BK4 := n1_; have BK5 := n2_; have BK7 := n3_; have GE7 := n4_; have NE5_7 := n5_; have NE7_5 := n6_; clear n0_ n1_ n2_ n3_ n4_ n5_ n6_; clear hb hbox hg)
    | ((with_reducible refine gate_store (t := 82) (p := 7) rfl ?_); refine row_event ?hg (ty := 82) (p := 7) (y := ?yo_115) ?ho ?hn (g := g7) (old := #[.int .u8 0, .int .u8 0, .int .u8 0, .int .u8 0, .int .u8 0, .int .u8 0, .int .u8 0, .int .u8 0, .int .u8 0, .int .u8 0, .int .u8 0, .int .u8 0, .int .u8 0, .int .u8 0, .int .u8 0, .int .u8 0]) (e := 82) (cells := (cB (pad16 m1))) ?hx ?hy ?hk ?hi ?hd ?h1 ?_; (case ho => rfl); (case hg => rfl); (case hn => rfl); (case hx => rfl); (case hy => rfl); (case hk => (with_reducible repeat (first | refine blk_drewN ?_ _ | refine blk_drew ?_ | refine blk_alloc ?_ _)); exact BK7.out); (case hi => rw [cB_size, pad16_length]; kernel_rfl); (case hd => rw [cB_size, pad16_length]; rfl); (case h1 => exact cB_one _); intro wr_ hbk hgr; have n0_ := Aside0.mk (below_grown1 (by repeat (first | (with_reducible first | exact HB.out | apply below_alloc | apply pw_below_drewN | apply below_drew1) | exact HB.out)) hgr GE7.out); have n1_ := Aside0.mk (blk_grown1 (g' := g4) (ob := .cells #[.int .i64 0, .slice none 0 0] 26 (0, 0)) (by (with_reducible repeat (first | refine blk_drewN ?_ _ | refine blk_drew ?_ | refine blk_alloc ?_ _)); exact BK4.out) hgr (blk_ne (by (with_reducible repeat (first | refine blk_drewN ?_ _ | refine blk_drew ?_ | refine blk_alloc ?_ _)); exact BK4.out) (by (with_reducible repeat (first | refine blk_drewN ?_ _ | refine blk_drew ?_ | refine blk_alloc ?_ _)); exact BK7.out) (by decide))); have n2_ := Aside0.mk (blk_grown1 (g' := g5) (ob := .cells (cB (pad16 m0)) 82 (0, 0)) (by (with_reducible repeat (first | refine blk_drewN ?_ _ | refine blk_drew ?_ | refine blk_alloc ?_ _)); exact BK5.out) hgr NE5_7.out); have n3_ := Aside0.mk hbk; clear HB BK4 BK5 BK7; have HB := n0_; have BK4 := n1_; have BK5 := n2_; have BK7 := n3_; clear n0_ n1_ n2_ n3_; clear hbk hgr)
    | (go_at_call 88; refine (noBytes_group 2 _).mono ?_; rintro e wk2 ⟨rfl, hb⟩; have n0_ := Aside0.mk (below_step (by repeat (first | (with_reducible first | exact HB.out | apply below_alloc | apply pw_below_drewN | apply below_drew1) | exact HB.out)) hb); have n1_ := Aside0.mk (blk_below (g := g4) (o := .cells #[.int .i64 0, .slice none 0 0] 26 (0, 0)) (by (with_reducible repeat (first | refine blk_drewN ?_ _ | refine blk_drew ?_ | refine blk_alloc ?_ _)); exact BK4.out) hb); have n2_ := Aside0.mk (blk_below (g := g5) (o := .cells (cB (pad16 m0)) 82 (0, 0)) (by (with_reducible repeat (first | refine blk_drewN ?_ _ | refine blk_drew ?_ | refine blk_alloc ?_ _)); exact BK5.out) hb); have n3_ := Aside0.mk (blk_below (g := g7) (o := .cells (cB (pad16 m1)) 82 (0, 0)) (by (with_reducible repeat (first | refine blk_drewN ?_ _ | refine blk_drew ?_ | refine blk_alloc ?_ _)); exact BK7.out) hb); clear HB BK4 BK5 BK7; have HB := n0_; have BK4 := n1_; have BK5 := n2_; have BK7 := n3_; clear n0_ n1_ n2_ n3_; clear hb)
    | ((with_reducible refine gate_store (t := 26) (p := 4) rfl ?_); refine row_event ?hg (ty := 26) (p := 4) (y := ?yo_117) ?ho ?hn (g := g4) (old := #[.int .i64 0, .slice none 0 0]) (e := 26) (cells := #[.int .i64 2, .slice none 0 0]) ?hx ?hy ?hk ?hi ?hd ?h1 ?_; (case ho => rfl); (case hg => rfl); (case hn => rfl); (case hx => rfl); (case hy => rfl); (case hk => (with_reducible repeat (first | refine blk_drewN ?_ _ | refine blk_drew ?_ | refine blk_alloc ?_ _)); exact BK4.out); (case hi => kernel_rfl); (case hd => rfl); (case h1 => simp [Value.oneCell']); intro wr_ hbk hgr; have n0_ := Aside0.mk (below_grown1 (by repeat (first | (with_reducible first | exact HB.out | apply below_alloc | apply pw_below_drewN | apply below_drew1) | exact HB.out)) hgr GE4.out); have n1_ := Aside0.mk (blk_grown1 (g' := g5) (ob := .cells (cB (pad16 m0)) 82 (0, 0)) (by (with_reducible repeat (first | refine blk_drewN ?_ _ | refine blk_drew ?_ | refine blk_alloc ?_ _)); exact BK5.out) hgr (blk_ne (by (with_reducible repeat (first | refine blk_drewN ?_ _ | refine blk_drew ?_ | refine blk_alloc ?_ _)); exact BK5.out) (by (with_reducible repeat (first | refine blk_drewN ?_ _ | refine blk_drew ?_ | refine blk_alloc ?_ _)); exact BK4.out) (by decide))); have n2_ := Aside0.mk (blk_grown1 (g' := g7) (ob := .cells (cB (pad16 m1)) 82 (0, 0)) (by (with_reducible repeat (first | refine blk_drewN ?_ _ | refine blk_drew ?_ | refine blk_alloc ?_ _)); exact BK7.out) hgr (blk_ne (by (with_reducible repeat (first | refine blk_drewN ?_ _ | refine blk_drew ?_ | refine blk_alloc ?_ _)); exact BK7.out) (by (with_reducible repeat (first | refine blk_drewN ?_ _ | refine blk_drew ?_ | refine blk_alloc ?_ _)); exact BK4.out) (by decide))); have n3_ := Aside0.mk hbk; clear HB BK5 BK7 BK4; have HB := n0_; have BK5 := n1_; have BK7 := n2_; have BK4 := n3_; clear n0_ n1_ n2_ n3_; clear hbk hgr))
  refine bodyPost_ret (results_cell_row rfl _ _ g4 26 #[.int .i64 2, .slice none 0 0] (0, 0) _ rfl (by (with_reducible repeat (first | refine blk_drewN ?_ _ | refine blk_drew ?_ | refine blk_alloc ?_ _)); exact BK4.out) Try.underlying26 rfl (by kernel_rfl)) rfl ?_
  exact ⟨_, rfl, Kd.R_nil _ _ _ _ _, HB.out⟩
 rw [if_pos ⟨h0, h1⟩] at h
 have hd0 : decide (m0.length = 16) = true := decide_eq_true h0
 have hd1 : decide (m1.length = 16) = true := decide_eq_true h1
 have hm0 := Aside0.mk (pad16_self m0 h0)
 have hm1 := Aside0.mk (pad16_self m1 h1)
 clear h0 h1
 obtain ⟨⟨p, q⟩, hT0, h⟩ := Option.bind_eq_some_iff.mp h
 by_cases hq : 0 ≤ p ∧ p < 18446744073709551616 ∧ 0 ≤ q ∧ q < 18446744073709551616
 case neg =>
  rw [if_neg hq] at h
  cases h
 rw [if_pos hq] at h
 obtain ⟨q1, q2, q3, q4⟩ := hq
 obtain ⟨x, rfl⟩ : ∃ x : Nat, p = x := ⟨p.toNat, by omega⟩
 obtain ⟨y, rfl⟩ : ∃ y : Nat, q = y := ⟨q.toNat, by omega⟩
 simp only [Int.toNat_natCast, Option.some.injEq, Prod.mk.injEq] at h
 obtain ⟨e1, e2⟩ := h
 subst e1 e2
 have hX := Aside0.mk (show x < 18446744073709551616 by omega)
 have hY := Aside0.mk (show y < 18446744073709551616 by omega)
 rw [← hm0.out, ← hm1.out] at hT0
 have hT := Aside0.mk hT0
 clear hT0 q1 q2 q3 q4 hm0 hm1
 go_enter Try.func44, Try.ntmps44
 go_wp2_with (first
  | ((with_reducible refine gate_dst (N := 4) rfl ?_); refine box_event ?hg (N := 4) ?hd (cs := #[.int .i64 0, .slice none 0 0]) (t := 26) ?hr ?_; (case hd => rfl); (case hg => rfl); (case hr => first | (go_simp; done) | (go_simp; rfl)); intro g4 hg w4 hbox hb; have n0_ := Aside0.mk (below_step (by repeat (first | (with_reducible first | exact HB.out | apply below_alloc | apply pw_below_drewN | apply below_drew1) | exact HB.out)) hb); have n1_ := Aside0.mk hbox; have n2_ := Aside0.mk (by rw [hg]; exact below_size (by repeat (first | (with_reducible first | exact HB.out | apply below_alloc | apply pw_below_drewN | apply below_drew1) | exact HB.out)) : w.heap.size ≤ g4); clear HB; have HB := n0_; have BK4 := n1_; have GE4 := n2_; clear n0_ n1_ n2_; clear hb hbox hg)
  | (go_at_call 97; (with_reducible refine (impl_asBlock.calls A0 c0 m0 _ ?hC_121).mono ?_); (case hC_121 => (first | exact Kd.C_below HR0.out (by repeat (first | (with_reducible first | exact HB.out | apply below_alloc | apply pw_below_drewN | apply below_drew1) | exact HB.out)) | exact (Kd.C_below HR0.out HB.out))); rintro e wk ⟨rfl, hb⟩; have n0_ := Aside0.mk (below_step (by repeat (first | (with_reducible first | exact HB.out | apply below_alloc | apply pw_below_drewN | apply below_drew1) | exact HB.out)) hb); have n1_ := Aside0.mk (blk_below (g := g4) (o := .cells #[.int .i64 0, .slice none 0 0] 26 (0, 0)) (by (with_reducible repeat (first | refine blk_drewN ?_ _ | refine blk_drew ?_ | refine blk_alloc ?_ _)); exact BK4.out) hb); clear HB BK4; have HB := n0_; have BK4 := n1_; clear n0_ n1_; clear hb)
  | ((with_reducible refine gate_dst (N := 5) rfl ?_); refine box_event ?hg (N := 5) ?hd (cs := #[.int .u8 0, .int .u8 0, .int .u8 0, .int .u8 0, .int .u8 0, .int .u8 0, .int .u8 0, .int .u8 0, .int .u8 0, .int .u8 0, .int .u8 0, .int .u8 0, .int .u8 0, .int .u8 0, .int .u8 0, .int .u8 0]) (t := 82) ?hr ?_; (case hd => rfl); (case hg => rfl); (case hr => first | (go_simp; done) | (go_simp; rfl)); intro g5 hg w5 hbox hb; have n0_ := Aside0.mk (below_step (by repeat (first | (with_reducible first | exact HB.out | apply below_alloc | apply pw_below_drewN | apply below_drew1) | exact HB.out)) hb); have n1_ := Aside0.mk (blk_below (g := g4) (o := .cells #[.int .i64 0, .slice none 0 0] 26 (0, 0)) (by (with_reducible repeat (first | refine blk_drewN ?_ _ | refine blk_drew ?_ | refine blk_alloc ?_ _)); exact BK4.out) hb); have n2_ := Aside0.mk hbox; have n3_ := Aside0.mk (by rw [hg]; exact below_size (by repeat (first | (with_reducible first | exact HB.out | apply below_alloc | apply pw_below_drewN | apply below_drew1) | exact HB.out)) : w.heap.size ≤ g5); clear HB BK4; have HB := n0_; have BK4 := n1_; have BK5 := n2_; have GE5 := n3_; clear n0_ n1_ n2_ n3_; clear hb hbox hg)
  | ((with_reducible refine gate_store (t := 82) (p := 5) rfl ?_); refine row_event ?hg (ty := 82) (p := 5) (y := ?yo_123) ?ho ?hn (g := g5) (old := #[.int .u8 0, .int .u8 0, .int .u8 0, .int .u8 0, .int .u8 0, .int .u8 0, .int .u8 0, .int .u8 0, .int .u8 0, .int .u8 0, .int .u8 0, .int .u8 0, .int .u8 0, .int .u8 0, .int .u8 0, .int .u8 0]) (e := 82) (cells := (cB (pad16 m0))) ?hx ?hy ?hk ?hi ?hd ?h1 ?_; (case ho => rfl); (case hg => rfl); (case hn => rfl); (case hx => rfl); (case hy => rfl); (case hk => (with_reducible repeat (first | refine blk_drewN ?_ _ | refine blk_drew ?_ | refine blk_alloc ?_ _)); exact BK5.out); (case hi => rw [cB_size, pad16_length]; kernel_rfl); (case hd => rw [cB_size, pad16_length]; rfl); (case h1 => exact cB_one _); intro wr_ hbk hgr; have n0_ := Aside0.mk (below_grown1 (by repeat (first | (with_reducible first | exact HB.out | apply below_alloc | apply pw_below_drewN | apply below_drew1) | exact HB.out)) hgr GE5.out); have n1_ := Aside0.mk (blk_grown1 (g' := g4) (ob := .cells #[.int .i64 0, .slice none 0 0] 26 (0, 0)) (by (with_reducible repeat (first | refine blk_drewN ?_ _ | refine blk_drew ?_ | refine blk_alloc ?_ _)); exact BK4.out) hgr (blk_ne (by (with_reducible repeat (first | refine blk_drewN ?_ _ | refine blk_drew ?_ | refine blk_alloc ?_ _)); exact BK4.out) (by (with_reducible repeat (first | refine blk_drewN ?_ _ | refine blk_drew ?_ | refine blk_alloc ?_ _)); exact BK5.out) (by decide))); have n2_ := Aside0.mk hbk; clear HB BK4 BK5; have HB := n0_; have BK4 := n1_; have BK5 := n2_; clear n0_ n1_ n2_; clear hbk hgr)
  | (go_at_call 97; (with_reducible refine (impl_asBlock.calls A1 c1 m1 _ ?hC_124).mono ?_); (case hC_124 => (first | exact Kd.C_below HR1.out (by repeat (first | (with_reducible first | exact HB.out | apply below_alloc | apply pw_below_drewN | apply below_drew1) | exact HB.out)) | exact (Kd.C_below HR1.out HB.out))); rintro e wk ⟨rfl, hb⟩; have n0_ := Aside0.mk (below_step (by repeat (first | (with_reducible first | exact HB.out | apply below_alloc | apply pw_below_drewN | apply below_drew1) | exact HB.out)) hb); have n1_ := Aside0.mk (blk_below (g := g4) (o := .cells #[.int .i64 0, .slice none 0 0] 26 (0, 0)) (by (with_reducible repeat (first | refine blk_drewN ?_ _ | refine blk_drew ?_ | refine blk_alloc ?_ _)); exact BK4.out) hb); have n2_ := Aside0.mk (blk_below (g := g5) (o := .cells (cB (pad16 m0)) 82 (0, 0)) (by (with_reducible repeat (first | refine blk_drewN ?_ _ | refine blk_drew ?_ | refine blk_alloc ?_ _)); exact BK5.out) hb); clear HB BK4 BK5; have HB := n0_; have BK4 := n1_; have BK5 := n2_; clear n0_ n1_ n2_; clear hb)
  | ((with_reducible refine gate_dst (N := 7) rfl ?_); refine box_event ?hg (N := 7) ?hd (cs := #[.int .u8 0, .int .u8 0, .int .u8 0, .int .u8 0, .int .u8 0, .int .u8 0, .int .u8 0, .int .u8 0, .int .u8 0, .int .u8 0, .int .u8 0, .int .u8 0, .int .u8 0, .int .u8 0, .int .u8 0, .int .u8 0]) (t := 82) ?hr ?_; (case hd => rfl); (case hg => rfl); (case hr => first | (go_simp; done) | (go_simp; rfl)); intro g7 hg w7 hbox hb; have n0_ := Aside0.mk (below_step (by repeat (first | (with_reducible first | exact HB.out | apply below_alloc | apply pw_below_drewN | apply below_drew1) | exact HB.out)) hb); have n1_ := Aside0.mk (blk_below (g := g4) (o := .cells #[.int .i64 0, .slice none 0 0] 26 (0, 0)) (by (with_reducible repeat (first | refine blk_drewN ?_ _ | refine blk_drew ?_ | refine blk_alloc ?_ _)); exact BK4.out) hb); have n2_ := Aside0.mk (blk_below (g := g5) (o := .cells (cB (pad16 m0)) 82 (0, 0)) (by (with_reducible repeat (first | refine blk_drewN ?_ _ | refine blk_drew ?_ | refine blk_alloc ?_ _)); exact BK5.out) hb); have n3_ := Aside0.mk hbox; have n4_ := Aside0.mk (by rw [hg]; exact below_size (by repeat (first | (with_reducible first | exact HB.out | apply below_alloc | apply pw_below_drewN | apply below_drew1) | exact HB.out)) : w.heap.size ≤ g7); have n5_ := Aside0.mk (by rw [hg]; exact Nat.ne_of_lt (blk_lt (g := g5) (o := .cells (cB (pad16 m0)) 82 (0, 0)) (by (with_reducible repeat (first | refine blk_drewN ?_ _ | refine blk_drew ?_ | refine blk_alloc ?_ _)); exact BK5.out)) : g5 ≠ g7); have n6_ := Aside0.mk (by rw [hg]; exact Nat.ne_of_gt (blk_lt (g := g5) (o := .cells (cB (pad16 m0)) 82 (0, 0)) (by (with_reducible repeat (first | refine blk_drewN ?_ _ | refine blk_drew ?_ | refine blk_alloc ?_ _)); exact BK5.out)) : g7 ≠ g5); clear HB BK4 BK5; have HB := n0_; have BK4 := n1_; have BK5 := n2_; have BK7 := n3_; have GE7 := n4_; have NE5_7 := n5_; have NE7_5 := n6_; clear n0_ n1_ n2_ n3_ n4_ n5_ n6_; clear hb hbox hg)
  | ((with_reducible refine gate_store (t := 82) (p := 7) rfl ?_); refine row_event ?hg (ty := 82) (p := 7) (y := ?yo_126) ?ho ?hn (g := g7) (old := #[.int .u8 0, .int .u8 0, .int .u8 0, .int .u8 0, .int .u8 0, .int .u8 0, .int .u8 0, .int .u8 0, .int .u8 0, .int .u8 0, .int .u8 0, .int .u8 0, .int .u8 0, .int .u8 0, .int .u8 0, .int .u8 0]) (e := 82) (cells := (cB (pad16 m1))) ?hx ?hy ?hk ?hi ?hd ?h1 ?_; (case ho => rfl); (case hg => rfl); (case hn => rfl); (case hx => rfl); (case hy => rfl); (case hk => (with_reducible repeat (first | refine blk_drewN ?_ _ | refine blk_drew ?_ | refine blk_alloc ?_ _)); exact BK7.out); (case hi => rw [cB_size, pad16_length]; kernel_rfl); (case hd => rw [cB_size, pad16_length]; rfl); (case h1 => exact cB_one _); intro wr_ hbk hgr; have n0_ := Aside0.mk (below_grown1 (by repeat (first | (with_reducible first | exact HB.out | apply below_alloc | apply pw_below_drewN | apply below_drew1) | exact HB.out)) hgr GE7.out); have n1_ := Aside0.mk (blk_grown1 (g' := g4) (ob := .cells #[.int .i64 0, .slice none 0 0] 26 (0, 0)) (by (with_reducible repeat (first | refine blk_drewN ?_ _ | refine blk_drew ?_ | refine blk_alloc ?_ _)); exact BK4.out) hgr (blk_ne (by (with_reducible repeat (first | refine blk_drewN ?_ _ | refine blk_drew ?_ | refine blk_alloc ?_ _)); exact BK4.out) (by (with_reducible repeat (first | refine blk_drewN ?_ _ | refine blk_drew ?_ | refine blk_alloc ?_ _)); exact BK7.out) (by decide))); have n2_ := Aside0.mk (blk_grown1 (g' := g5) (ob := .cells (cB (pad16 m0)) 82 (0, 0)) (by (with_reducible repeat (first | refine blk_drewN ?_ _ | refine blk_drew ?_ | refine blk_alloc ?_ _)); exact BK5.out) hgr NE5_7.out); have n3_ := Aside0.mk hbk; clear HB BK4 BK5 BK7; have HB := n0_; have BK4 := n1_; have BK5 := n2_; have BK7 := n3_; clear n0_ n1_ n2_ n3_; clear hbk hgr))
 refine' leaf_cut1 (A := fun g9 wz => Below wr_.heap.size wr_ wz ∧ wz.heap[g9]? = some (.cells (cB (outL x y 8)) 82 (0, 0)) ∧ wr_.heap.size ≤ g9) _ (fun leaf => ?main) ?leaf
 case main =>
  have hB := Aside0.mk (below_drew1 (Below.refl wr_.heap.size wr_))
  refine wp_region_held_drew (S := (fun w' => w'.rangeAt g5 0 (cB (pad16 m0)).toList ∧ w'.rangeAt g7 0 (cB (pad16 m1)).toList ∧ Below wr_.heap.size wr_ w')) (by kernel_rfl) ⟨rangeW BK5.out hB.out, rangeW BK7.out hB.out, hB.out⟩ (fun hHeld => ?_)
  generalize wr_.drew = wd at hB hHeld ⊢
  refine wpAnyH_take (i := 0) rfl (by kernel_rfl) (by kernel_rfl) (by kernel_rfl) (fun _ _ _ h => h) (yieldsIf_load_mid (by rfl) 82 _ rfl g5 0 rfl (cB (pad16 m0)).toList _ (fun w h => h.1) Try.underlying82 rfl (by rw [Array.length_toList, cB_size, pad16_length]; kernel_rfl)) hHeld ?_
  try simp only [Act.put, List.setIfInBounds_toArray, List.set_cons_zero, List.set_cons_succ]
  refine wpAnyH_take (i := 2) rfl (by kernel_rfl) (by kernel_rfl) (by kernel_rfl) (fun _ _ _ h => h) (yieldsIf_load_mid (by rfl) 82 _ rfl g7 0 rfl (cB (pad16 m1)).toList _ (fun w h => h.2.1) Try.underlying82 rfl (by rw [Array.length_toList, cB_size, pad16_length]; kernel_rfl)) hHeld ?_
  try simp only [Act.put, List.setIfInBounds_toArray, List.set_cons_zero, List.set_cons_succ]
  refine wpAnyH_ready (rs := [1, 6]) (by kernel_rfl) (by simp) ?_
  refine AllReadyH.cons rfl (fun K hK => ?_) ?_
  ·go_simp
   go_at_call 101
   refine (impl_block_element.calls (pad16 m0) (pad16_length m0) _).mono ?_
   rintro e wk1 ⟨rfl, hbl⟩
   try go_wp2_with fail
   have n0_ := Aside0.mk (below_step hB.out hbl); have hB := n0_; clear n0_;
   skip
   refine hK.out _ _ ⟨rangeW BK5.out hB.out, rangeW BK7.out hB.out, hB.out⟩ (fun hHeld => ?_)
   clear hK K
   try simp only [Act.put, List.setIfInBounds_toArray, List.set_cons_zero, List.set_cons_succ]
   refine wpAnyH_ready (rs := [3, 6]) (by kernel_rfl) (by simp) ?_
   refine AllReadyH.cons rfl (fun K hK => ?_) ?_
   ·go_simp
    go_at_call 101
    refine (impl_block_element.calls (pad16 m1) (pad16_length m1) _).mono ?_
    rintro e wk2 ⟨rfl, hbl⟩
    try go_wp2_with fail
    have n0_ := Aside0.mk (below_step hB.out hbl); have hB := n0_; clear n0_;
    skip
    refine hK.out _ _ ⟨rangeW BK5.out hB.out, rangeW BK7.out hB.out, hB.out⟩ (fun hHeld => ?_)
    clear hK K
    try simp only [Act.put, List.setIfInBounds_toArray, List.set_cons_zero, List.set_cons_succ]
    refine wpAnyH_ready (rs := [4, 6]) (by kernel_rfl) (by simp) ?_
    refine AllReadyH.cons rfl (fun K hK => ?_) ?_
    ·go_simp
     go_at_call 102
     refine (impl_element_times.calls k _ _ _ _ _ _ _ hT.out).mono ?_
     rintro e wk3 ⟨rfl, hbl⟩
     try go_wp2_with fail
     have n0_ := Aside0.mk (below_step hB.out hbl); have hB := n0_; clear n0_;
     skip
     refine hK.out _ _ ⟨rangeW BK5.out hB.out, rangeW BK7.out hB.out, hB.out⟩ (fun hHeld => ?_)
     clear hK K
     try simp only [Act.put, List.setIfInBounds_toArray, List.set_cons_zero, List.set_cons_succ]
     refine wpAnyH_ready (rs := [5, 6]) (by kernel_rfl) (by simp) ?_
     refine AllReadyH.cons rfl (fun K hK => ?_) ?_
     ·go_simp
      go_at_call 103
      refine (impl_element_block.calls x y hX.out hY.out _).mono ?_
      rintro e wk4 ⟨rfl, hbl⟩
      try go_wp2_with fail
      have n0_ := Aside0.mk (below_step hB.out hbl); have hB := n0_; clear n0_;
      skip
      refine hK.out _ _ ⟨rangeW BK5.out hB.out, rangeW BK7.out hB.out, hB.out⟩ (fun hHeld => ?_)
      clear hK K
      try simp only [Act.put, List.setIfInBounds_toArray, List.set_cons_zero, List.set_cons_succ]
      refine wpAnyH_ready (rs := [6]) (by kernel_rfl) (by simp) ?_
      refine AllReadyH.cons rfl (fun K hK => ?_) ?_
      ·go_simp
       have n0_ := Aside0.mk (below_alloc hB.out (.cells #[.int .u8 0, .int .u8 0, .int .u8 0, .int .u8 0, .int .u8 0, .int .u8 0, .int .u8 0, .int .u8 0, .int .u8 0, .int .u8 0, .int .u8 0, .int .u8 0, .int .u8 0, .int .u8 0, .int .u8 0, .int .u8 0] 82))
       have n1_ : Aside0 ((wk4.alloc (.cells #[.int .u8 0, .int .u8 0, .int .u8 0, .int .u8 0, .int .u8 0, .int .u8 0, .int .u8 0, .int .u8 0, .int .u8 0, .int .u8 0, .int .u8 0, .int .u8 0, .int .u8 0, .int .u8 0, .int .u8 0, .int .u8 0] 82)).heap[wk4.heap.size]? = some (.cells #[.int .u8 0, .int .u8 0, .int .u8 0, .int .u8 0, .int .u8 0, .int .u8 0, .int .u8 0, .int .u8 0, .int .u8 0, .int .u8 0, .int .u8 0, .int .u8 0, .int .u8 0, .int .u8 0, .int .u8 0, .int .u8 0] 82 (0, 0))) := ⟨by simpa using heap_alloc_new wk4 (.cells #[.int .u8 0, .int .u8 0, .int .u8 0, .int .u8 0, .int .u8 0, .int .u8 0, .int .u8 0, .int .u8 0, .int .u8 0, .int .u8 0, .int .u8 0, .int .u8 0, .int .u8 0, .int .u8 0, .int .u8 0, .int .u8 0] 82)⟩
       have n2_ := Aside0.mk (below_size hB.out)
       clear hB hHeld
       generalize wk4.heap.size = g9 at n1_ n2_ ⊢
       generalize (wk4.alloc (.cells #[.int .u8 0, .int .u8 0, .int .u8 0, .int .u8 0, .int .u8 0, .int .u8 0, .int .u8 0, .int .u8 0, .int .u8 0, .int .u8 0, .int .u8 0, .int .u8 0, .int .u8 0, .int .u8 0, .int .u8 0, .int .u8 0] 82)) = wk5 at n0_ n1_  ⊢
       have hB := n0_; have HZ9 := n1_; have HG9 := n2_;  clear n0_ n1_ n2_
       refine hK.out _ _ ⟨rangeW BK5.out hB.out, rangeW BK7.out hB.out, hB.out⟩ (fun hHeld => ?_)
       clear hK K
       try simp only [Act.put, List.setIfInBounds_toArray, List.set_cons_zero, List.set_cons_succ]
       refine wpAnyH_ready (rs := [7]) (by kernel_rfl) (by simp) ?_
       refine AllReadyH.cons rfl (fun K hK => ?_) ?_
       ·rw [if_pos (by rfl)]
        refine wp_store_row 82 (.tmp 9) (.tmp 32) rfl g9 (cB (outL x y 8)) rfl rfl 82 #[.int .u8 0, .int .u8 0, .int .u8 0, .int .u8 0, .int .u8 0, .int .u8 0, .int .u8 0, .int .u8 0, .int .u8 0, .int .u8 0, .int .u8 0, .int .u8 0, .int .u8 0, .int .u8 0, .int .u8 0, .int .u8 0] HZ9.out (by rw [cB_size, outL_length]; kernel_rfl) (by rw [cB_size, outL_length]; rfl) (by exact cB_one _) ?_
        have n0_ := Aside0.mk (below_grown1 hB.out (grown_setRow wk5 g9 (cB (outL x y 8))) HG9.out)
        have n1_ := Aside0.mk (setRow_heap wk5 g9 _ (cB (outL x y 8)) 82 (0, 0) HZ9.out)
        clear hB hHeld HZ9
        generalize wk5.setRow g9 (cB (outL x y 8)) = wk6 at n0_ n1_  ⊢
        have hB := n0_; have HZ9 := n1_;  clear n0_ n1_
        refine hK.out _ _ ⟨rangeW BK5.out hB.out, rangeW BK7.out hB.out, hB.out⟩ (fun hHeld => ?_)
        clear hK K
        try simp only [Act.put, List.setIfInBounds_toArray, List.set_cons_zero, List.set_cons_succ]
        refine wpAnyH_done (by kernel_rfl) ?_ _
        exact leaf g9 wk6 ⟨hB.out, HZ9.out, HG9.out⟩
       exact AllReadyH.nil
      exact AllReadyH.nil
     refine AllReadyH.cons rfl (fun K hK => ?_) ?_
     ·go_simp
      have n0_ := Aside0.mk (below_alloc hB.out (.cells #[.int .u8 0, .int .u8 0, .int .u8 0, .int .u8 0, .int .u8 0, .int .u8 0, .int .u8 0, .int .u8 0, .int .u8 0, .int .u8 0, .int .u8 0, .int .u8 0, .int .u8 0, .int .u8 0, .int .u8 0, .int .u8 0] 82))
      have n1_ : Aside0 ((wk3.alloc (.cells #[.int .u8 0, .int .u8 0, .int .u8 0, .int .u8 0, .int .u8 0, .int .u8 0, .int .u8 0, .int .u8 0, .int .u8 0, .int .u8 0, .int .u8 0, .int .u8 0, .int .u8 0, .int .u8 0, .int .u8 0, .int .u8 0] 82)).heap[wk3.heap.size]? = some (.cells #[.int .u8 0, .int .u8 0, .int .u8 0, .int .u8 0, .int .u8 0, .int .u8 0, .int .u8 0, .int .u8 0, .int .u8 0, .int .u8 0, .int .u8 0, .int .u8 0, .int .u8 0, .int .u8 0, .int .u8 0, .int .u8 0] 82 (0, 0))) := ⟨by simpa using heap_alloc_new wk3 (.cells #[.int .u8 0, .int .u8 0, .int .u8 0, .int .u8 0, .int .u8 0, .int .u8 0, .int .u8 0, .int .u8 0, .int .u8 0, .int .u8 0, .int .u8 0, .int .u8 0, .int .u8 0, .int .u8 0, .int .u8 0, .int .u8 0] 82)⟩
      have n2_ := Aside0.mk (below_size hB.out)
      clear hB hHeld
      generalize wk3.heap.size = g9 at n1_ n2_ ⊢
      generalize (wk3.alloc (.cells #[.int .u8 0, .int .u8 0, .int .u8 0, .int .u8 0, .int .u8 0, .int .u8 0, .int .u8 0, .int .u8 0, .int .u8 0, .int .u8 0, .int .u8 0, .int .u8 0, .int .u8 0, .int .u8 0, .int .u8 0, .int .u8 0] 82)) = wk7 at n0_ n1_  ⊢
      have hB := n0_; have HZ9 := n1_; have HG9 := n2_;  clear n0_ n1_ n2_
      refine hK.out _ _ ⟨rangeW BK5.out hB.out, rangeW BK7.out hB.out, hB.out⟩ (fun hHeld => ?_)
      clear hK K
      try simp only [Act.put, List.setIfInBounds_toArray, List.set_cons_zero, List.set_cons_succ]
      refine wpAnyH_ready (rs := [5]) (by kernel_rfl) (by simp) ?_
      refine AllReadyH.cons rfl (fun K hK => ?_) ?_
      ·go_simp
       go_at_call 103
       refine (impl_element_block.calls x y hX.out hY.out _).mono ?_
       rintro e wk8 ⟨rfl, hbl⟩
       try go_wp2_with fail
       have n0_ := Aside0.mk (below_step hB.out hbl); have n1_ := Aside0.mk (blk_below (g := g9) (o := .cells #[.int .u8 0, .int .u8 0, .int .u8 0, .int .u8 0, .int .u8 0, .int .u8 0, .int .u8 0, .int .u8 0, .int .u8 0, .int .u8 0, .int .u8 0, .int .u8 0, .int .u8 0, .int .u8 0, .int .u8 0, .int .u8 0] 82 (0, 0)) HZ9.out hbl); have hB := n0_; have HZ9 := n1_; clear n0_ n1_;
       skip
       refine hK.out _ _ ⟨rangeW BK5.out hB.out, rangeW BK7.out hB.out, hB.out⟩ (fun hHeld => ?_)
       clear hK K
       try simp only [Act.put, List.setIfInBounds_toArray, List.set_cons_zero, List.set_cons_succ]
       refine wpAnyH_ready (rs := [7]) (by kernel_rfl) (by simp) ?_
       refine AllReadyH.cons rfl (fun K hK => ?_) ?_
       ·rw [if_pos (by rfl)]
        refine wp_store_row 82 (.tmp 9) (.tmp 32) rfl g9 (cB (outL x y 8)) rfl rfl 82 #[.int .u8 0, .int .u8 0, .int .u8 0, .int .u8 0, .int .u8 0, .int .u8 0, .int .u8 0, .int .u8 0, .int .u8 0, .int .u8 0, .int .u8 0, .int .u8 0, .int .u8 0, .int .u8 0, .int .u8 0, .int .u8 0] HZ9.out (by rw [cB_size, outL_length]; kernel_rfl) (by rw [cB_size, outL_length]; rfl) (by exact cB_one _) ?_
        have n0_ := Aside0.mk (below_grown1 hB.out (grown_setRow wk8 g9 (cB (outL x y 8))) HG9.out)
        have n1_ := Aside0.mk (setRow_heap wk8 g9 _ (cB (outL x y 8)) 82 (0, 0) HZ9.out)
        clear hB hHeld HZ9
        generalize wk8.setRow g9 (cB (outL x y 8)) = wk9 at n0_ n1_  ⊢
        have hB := n0_; have HZ9 := n1_;  clear n0_ n1_
        refine hK.out _ _ ⟨rangeW BK5.out hB.out, rangeW BK7.out hB.out, hB.out⟩ (fun hHeld => ?_)
        clear hK K
        try simp only [Act.put, List.setIfInBounds_toArray, List.set_cons_zero, List.set_cons_succ]
        refine wpAnyH_done (by kernel_rfl) ?_ _
        exact leaf g9 wk9 ⟨hB.out, HZ9.out, HG9.out⟩
       exact AllReadyH.nil
      exact AllReadyH.nil
     exact AllReadyH.nil
    refine AllReadyH.cons rfl (fun K hK => ?_) ?_
    ·go_simp
     have n0_ := Aside0.mk (below_alloc hB.out (.cells #[.int .u8 0, .int .u8 0, .int .u8 0, .int .u8 0, .int .u8 0, .int .u8 0, .int .u8 0, .int .u8 0, .int .u8 0, .int .u8 0, .int .u8 0, .int .u8 0, .int .u8 0, .int .u8 0, .int .u8 0, .int .u8 0] 82))
     have n1_ : Aside0 ((wk2.alloc (.cells #[.int .u8 0, .int .u8 0, .int .u8 0, .int .u8 0, .int .u8 0, .int .u8 0, .int .u8 0, .int .u8 0, .int .u8 0, .int .u8 0, .int .u8 0, .int .u8 0, .int .u8 0, .int .u8 0, .int .u8 0, .int .u8 0] 82)).heap[wk2.heap.size]? = some (.cells #[.int .u8 0, .int .u8 0, .int .u8 0, .int .u8 0, .int .u8 0, .int .u8 0, .int .u8 0, .int .u8 0, .int .u8 0, .int .u8 0, .int .u8 0, .int .u8 0, .int .u8 0, .int .u8 0, .int .u8 0, .int .u8 0] 82 (0, 0))) := ⟨by simpa using heap_alloc_new wk2 (.cells #[.int .u8 0, .int .u8 0, .int .u8 0, .int .u8 0, .int .u8 0, .int .u8 0, .int .u8 0, .int .u8 0, .int .u8 0, .int .u8 0, .int .u8 0, .int .u8 0, .int .u8 0, .int .u8 0, .int .u8 0, .int .u8 0] 82)⟩
     have n2_ := Aside0.mk (below_size hB.out)
     clear hB hHeld
     generalize wk2.heap.size = g9 at n1_ n2_ ⊢
     generalize (wk2.alloc (.cells #[.int .u8 0, .int .u8 0, .int .u8 0, .int .u8 0, .int .u8 0, .int .u8 0, .int .u8 0, .int .u8 0, .int .u8 0, .int .u8 0, .int .u8 0, .int .u8 0, .int .u8 0, .int .u8 0, .int .u8 0, .int .u8 0] 82)) = wk10 at n0_ n1_  ⊢
     have hB := n0_; have HZ9 := n1_; have HG9 := n2_;  clear n0_ n1_ n2_
     refine hK.out _ _ ⟨rangeW BK5.out hB.out, rangeW BK7.out hB.out, hB.out⟩ (fun hHeld => ?_)
     clear hK K
     try simp only [Act.put, List.setIfInBounds_toArray, List.set_cons_zero, List.set_cons_succ]
     refine wpAnyH_ready (rs := [4]) (by kernel_rfl) (by simp) ?_
     refine AllReadyH.cons rfl (fun K hK => ?_) ?_
     ·go_simp
      go_at_call 102
      refine (impl_element_times.calls k _ _ _ _ _ _ _ hT.out).mono ?_
      rintro e wk11 ⟨rfl, hbl⟩
      try go_wp2_with fail
      have n0_ := Aside0.mk (below_step hB.out hbl); have n1_ := Aside0.mk (blk_below (g := g9) (o := .cells #[.int .u8 0, .int .u8 0, .int .u8 0, .int .u8 0, .int .u8 0, .int .u8 0, .int .u8 0, .int .u8 0, .int .u8 0, .int .u8 0, .int .u8 0, .int .u8 0, .int .u8 0, .int .u8 0, .int .u8 0, .int .u8 0] 82 (0, 0)) HZ9.out hbl); have hB := n0_; have HZ9 := n1_; clear n0_ n1_;
      skip
      refine hK.out _ _ ⟨rangeW BK5.out hB.out, rangeW BK7.out hB.out, hB.out⟩ (fun hHeld => ?_)
      clear hK K
      try simp only [Act.put, List.setIfInBounds_toArray, List.set_cons_zero, List.set_cons_succ]
      refine wpAnyH_ready (rs := [5]) (by kernel_rfl) (by simp) ?_
      refine AllReadyH.cons rfl (fun K hK => ?_) ?_
      ·go_simp
       go_at_call 103
       refine (impl_element_block.calls x y hX.out hY.out _).mono ?_
       rintro e wk12 ⟨rfl, hbl⟩
       try go_wp2_with fail
       have n0_ := Aside0.mk (below_step hB.out hbl); have n1_ := Aside0.mk (blk_below (g := g9) (o := .cells #[.int .u8 0, .int .u8 0, .int .u8 0, .int .u8 0, .int .u8 0, .int .u8 0, .int .u8 0, .int .u8 0, .int .u8 0, .int .u8 0, .int .u8 0, .int .u8 0, .int .u8 0, .int .u8 0, .int .u8 0, .int .u8 0] 82 (0, 0)) HZ9.out hbl); have hB := n0_; have HZ9 := n1_; clear n0_ n1_;
       skip
       refine hK.out _ _ ⟨rangeW BK5.out hB.out, rangeW BK7.out hB.out, hB.out⟩ (fun hHeld => ?_)
       clear hK K
       try simp only [Act.put, List.setIfInBounds_toArray, List.set_cons_zero, List.set_cons_succ]
       refine wpAnyH_ready (rs := [7]) (by kernel_rfl) (by simp) ?_
       refine AllReadyH.cons rfl (fun K hK => ?_) ?_
       ·rw [if_pos (by rfl)]
        refine wp_store_row 82 (.tmp 9) (.tmp 32) rfl g9 (cB (outL x y 8)) rfl rfl 82 #[.int .u8 0, .int .u8 0, .int .u8 0, .int .u8 0, .int .u8 0, .int .u8 0, .int .u8 0, .int .u8 0, .int .u8 0, .int .u8 0, .int .u8 0, .int .u8 0, .int .u8 0, .int .u8 0, .int .u8 0, .int .u8 0] HZ9.out (by rw [cB_size, outL_length]; kernel_rfl) (by rw [cB_size, outL_length]; rfl) (by exact cB_one _) ?_
        have n0_ := Aside0.mk (below_grown1 hB.out (grown_setRow wk12 g9 (cB (outL x y 8))) HG9.out)
        have n1_ := Aside0.mk (setRow_heap wk12 g9 _ (cB (outL x y 8)) 82 (0, 0) HZ9.out)
        clear hB hHeld HZ9
        generalize wk12.setRow g9 (cB (outL x y 8)) = wk13 at n0_ n1_  ⊢
        have hB := n0_; have HZ9 := n1_;  clear n0_ n1_
        refine hK.out _ _ ⟨rangeW BK5.out hB.out, rangeW BK7.out hB.out, hB.out⟩ (fun hHeld => ?_)
        clear hK K
        try simp only [Act.put, List.setIfInBounds_toArray, List.set_cons_zero, List.set_cons_succ]
        refine wpAnyH_done (by kernel_rfl) ?_ _
        exact leaf g9 wk13 ⟨hB.out, HZ9.out, HG9.out⟩
       exact AllReadyH.nil
      exact AllReadyH.nil
     exact AllReadyH.nil
    exact AllReadyH.nil
   refine AllReadyH.cons rfl (fun K hK => ?_) ?_
   ·go_simp
    have n0_ := Aside0.mk (below_alloc hB.out (.cells #[.int .u8 0, .int .u8 0, .int .u8 0, .int .u8 0, .int .u8 0, .int .u8 0, .int .u8 0, .int .u8 0, .int .u8 0, .int .u8 0, .int .u8 0, .int .u8 0, .int .u8 0, .int .u8 0, .int .u8 0, .int .u8 0] 82))
    have n1_ : Aside0 ((wk1.alloc (.cells #[.int .u8 0, .int .u8 0, .int .u8 0, .int .u8 0, .int .u8 0, .int .u8 0, .int .u8 0, .int .u8 0, .int .u8 0, .int .u8 0, .int .u8 0, .int .u8 0, .int .u8 0, .int .u8 0, .int .u8 0, .int .u8 0] 82)).heap[wk1.heap.size]? = some (.cells #[.int .u8 0, .int .u8 0, .int .u8 0, .int .u8 0, .int .u8 0, .int .u8 0, .int .u8 0, .int .u8 0, .int .u8 0, .int .u8 0, .int .u8 0, .int .u8 0, .int .u8 0, .int .u8 0, .int .u8 0, .int .u8 0] 82 (0, 0))) := ⟨by simpa using heap_alloc_new wk1 (.cells #[.int .u8 0, .int .u8 0, .int .u8 0, .int .u8 0, .int .u8 0, .int .u8 0, .int .u8 0, .int .u8 0, .int .u8 0, .int .u8 0, .int .u8 0, .int .u8 0, .int .u8 0, .int .u8 0, .int .u8 0, .int .u8 0] 82)⟩
    have n2_ := Aside0.mk (below_size hB.out)
    clear hB hHeld
    generalize wk1.heap.size = g9 at n1_ n2_ ⊢
    generalize (wk1.alloc (.cells #[.int .u8 0, .int .u8 0, .int .u8 0, .int .u8 0, .int .u8 0, .int .u8 0, .int .u8 0, .int .u8 0, .int .u8 0, .int .u8 0, .int .u8 0, .int .u8 0, .int .u8 0, .int .u8 0, .int .u8 0, .int .u8 0] 82)) = wk14 at n0_ n1_  ⊢
    have hB := n0_; have HZ9 := n1_; have HG9 := n2_;  clear n0_ n1_ n2_
    refine hK.out _ _ ⟨rangeW BK5.out hB.out, rangeW BK7.out hB.out, hB.out⟩ (fun hHeld => ?_)
    clear hK K
    try simp only [Act.put, List.setIfInBounds_toArray, List.set_cons_zero, List.set_cons_succ]
    refine wpAnyH_ready (rs := [3]) (by kernel_rfl) (by simp) ?_
    refine AllReadyH.cons rfl (fun K hK => ?_) ?_
    ·go_simp
     go_at_call 101
     refine (impl_block_element.calls (pad16 m1) (pad16_length m1) _).mono ?_
     rintro e wk15 ⟨rfl, hbl⟩
     try go_wp2_with fail
     have n0_ := Aside0.mk (below_step hB.out hbl); have n1_ := Aside0.mk (blk_below (g := g9) (o := .cells #[.int .u8 0, .int .u8 0, .int .u8 0, .int .u8 0, .int .u8 0, .int .u8 0, .int .u8 0, .int .u8 0, .int .u8 0, .int .u8 0, .int .u8 0, .int .u8 0, .int .u8 0, .int .u8 0, .int .u8 0, .int .u8 0] 82 (0, 0)) HZ9.out hbl); have hB := n0_; have HZ9 := n1_; clear n0_ n1_;
     skip
     refine hK.out _ _ ⟨rangeW BK5.out hB.out, rangeW BK7.out hB.out, hB.out⟩ (fun hHeld => ?_)
     clear hK K
     try simp only [Act.put, List.setIfInBounds_toArray, List.set_cons_zero, List.set_cons_succ]
     refine wpAnyH_ready (rs := [4]) (by kernel_rfl) (by simp) ?_
     refine AllReadyH.cons rfl (fun K hK => ?_) ?_
     ·go_simp
      go_at_call 102
      refine (impl_element_times.calls k _ _ _ _ _ _ _ hT.out).mono ?_
      rintro e wk16 ⟨rfl, hbl⟩
      try go_wp2_with fail
      have n0_ := Aside0.mk (below_step hB.out hbl); have n1_ := Aside0.mk (blk_below (g := g9) (o := .cells #[.int .u8 0, .int .u8 0, .int .u8 0, .int .u8 0, .int .u8 0, .int .u8 0, .int .u8 0, .int .u8 0, .int .u8 0, .int .u8 0, .int .u8 0, .int .u8 0, .int .u8 0, .int .u8 0, .int .u8 0, .int .u8 0] 82 (0, 0)) HZ9.out hbl); have hB := n0_; have HZ9 := n1_; clear n0_ n1_;
      skip
      refine hK.out _ _ ⟨rangeW BK5.out hB.out, rangeW BK7.out hB.out, hB.out⟩ (fun hHeld => ?_)
      clear hK K
      try simp only [Act.put, List.setIfInBounds_toArray, List.set_cons_zero, List.set_cons_succ]
      refine wpAnyH_ready (rs := [5]) (by kernel_rfl) (by simp) ?_
      refine AllReadyH.cons rfl (fun K hK => ?_) ?_
      ·go_simp
       go_at_call 103
       refine (impl_element_block.calls x y hX.out hY.out _).mono ?_
       rintro e wk17 ⟨rfl, hbl⟩
       try go_wp2_with fail
       have n0_ := Aside0.mk (below_step hB.out hbl); have n1_ := Aside0.mk (blk_below (g := g9) (o := .cells #[.int .u8 0, .int .u8 0, .int .u8 0, .int .u8 0, .int .u8 0, .int .u8 0, .int .u8 0, .int .u8 0, .int .u8 0, .int .u8 0, .int .u8 0, .int .u8 0, .int .u8 0, .int .u8 0, .int .u8 0, .int .u8 0] 82 (0, 0)) HZ9.out hbl); have hB := n0_; have HZ9 := n1_; clear n0_ n1_;
       skip
       refine hK.out _ _ ⟨rangeW BK5.out hB.out, rangeW BK7.out hB.out, hB.out⟩ (fun hHeld => ?_)
       clear hK K
       try simp only [Act.put, List.setIfInBounds_toArray, List.set_cons_zero, List.set_cons_succ]
       refine wpAnyH_ready (rs := [7]) (by kernel_rfl) (by simp) ?_
       refine AllReadyH.cons rfl (fun K hK => ?_) ?_
       ·rw [if_pos (by rfl)]
        refine wp_store_row 82 (.tmp 9) (.tmp 32) rfl g9 (cB (outL x y 8)) rfl rfl 82 #[.int .u8 0, .int .u8 0, .int .u8 0, .int .u8 0, .int .u8 0, .int .u8 0, .int .u8 0, .int .u8 0, .int .u8 0, .int .u8 0, .int .u8 0, .int .u8 0, .int .u8 0, .int .u8 0, .int .u8 0, .int .u8 0] HZ9.out (by rw [cB_size, outL_length]; kernel_rfl) (by rw [cB_size, outL_length]; rfl) (by exact cB_one _) ?_
        have n0_ := Aside0.mk (below_grown1 hB.out (grown_setRow wk17 g9 (cB (outL x y 8))) HG9.out)
        have n1_ := Aside0.mk (setRow_heap wk17 g9 _ (cB (outL x y 8)) 82 (0, 0) HZ9.out)
        clear hB hHeld HZ9
        generalize wk17.setRow g9 (cB (outL x y 8)) = wk18 at n0_ n1_  ⊢
        have hB := n0_; have HZ9 := n1_;  clear n0_ n1_
        refine hK.out _ _ ⟨rangeW BK5.out hB.out, rangeW BK7.out hB.out, hB.out⟩ (fun hHeld => ?_)
        clear hK K
        try simp only [Act.put, List.setIfInBounds_toArray, List.set_cons_zero, List.set_cons_succ]
        refine wpAnyH_done (by kernel_rfl) ?_ _
        exact leaf g9 wk18 ⟨hB.out, HZ9.out, HG9.out⟩
       exact AllReadyH.nil
      exact AllReadyH.nil
     exact AllReadyH.nil
    exact AllReadyH.nil
   exact AllReadyH.nil
  refine AllReadyH.cons rfl (fun K hK => ?_) ?_
  ·go_simp
   have n0_ := Aside0.mk (below_alloc hB.out (.cells #[.int .u8 0, .int .u8 0, .int .u8 0, .int .u8 0, .int .u8 0, .int .u8 0, .int .u8 0, .int .u8 0, .int .u8 0, .int .u8 0, .int .u8 0, .int .u8 0, .int .u8 0, .int .u8 0, .int .u8 0, .int .u8 0] 82))
   have n1_ : Aside0 ((wd.alloc (.cells #[.int .u8 0, .int .u8 0, .int .u8 0, .int .u8 0, .int .u8 0, .int .u8 0, .int .u8 0, .int .u8 0, .int .u8 0, .int .u8 0, .int .u8 0, .int .u8 0, .int .u8 0, .int .u8 0, .int .u8 0, .int .u8 0] 82)).heap[wd.heap.size]? = some (.cells #[.int .u8 0, .int .u8 0, .int .u8 0, .int .u8 0, .int .u8 0, .int .u8 0, .int .u8 0, .int .u8 0, .int .u8 0, .int .u8 0, .int .u8 0, .int .u8 0, .int .u8 0, .int .u8 0, .int .u8 0, .int .u8 0] 82 (0, 0))) := ⟨by simpa using heap_alloc_new wd (.cells #[.int .u8 0, .int .u8 0, .int .u8 0, .int .u8 0, .int .u8 0, .int .u8 0, .int .u8 0, .int .u8 0, .int .u8 0, .int .u8 0, .int .u8 0, .int .u8 0, .int .u8 0, .int .u8 0, .int .u8 0, .int .u8 0] 82)⟩
   have n2_ := Aside0.mk (below_size hB.out)
   clear hB hHeld
   generalize wd.heap.size = g9 at n1_ n2_ ⊢
   generalize (wd.alloc (.cells #[.int .u8 0, .int .u8 0, .int .u8 0, .int .u8 0, .int .u8 0, .int .u8 0, .int .u8 0, .int .u8 0, .int .u8 0, .int .u8 0, .int .u8 0, .int .u8 0, .int .u8 0, .int .u8 0, .int .u8 0, .int .u8 0] 82)) = wk19 at n0_ n1_  ⊢
   have hB := n0_; have HZ9 := n1_; have HG9 := n2_;  clear n0_ n1_ n2_
   refine hK.out _ _ ⟨rangeW BK5.out hB.out, rangeW BK7.out hB.out, hB.out⟩ (fun hHeld => ?_)
   clear hK K
   try simp only [Act.put, List.setIfInBounds_toArray, List.set_cons_zero, List.set_cons_succ]
   refine wpAnyH_ready (rs := [1]) (by kernel_rfl) (by simp) ?_
   refine AllReadyH.cons rfl (fun K hK => ?_) ?_
   ·go_simp
    go_at_call 101
    refine (impl_block_element.calls (pad16 m0) (pad16_length m0) _).mono ?_
    rintro e wk20 ⟨rfl, hbl⟩
    try go_wp2_with fail
    have n0_ := Aside0.mk (below_step hB.out hbl); have n1_ := Aside0.mk (blk_below (g := g9) (o := .cells #[.int .u8 0, .int .u8 0, .int .u8 0, .int .u8 0, .int .u8 0, .int .u8 0, .int .u8 0, .int .u8 0, .int .u8 0, .int .u8 0, .int .u8 0, .int .u8 0, .int .u8 0, .int .u8 0, .int .u8 0, .int .u8 0] 82 (0, 0)) HZ9.out hbl); have hB := n0_; have HZ9 := n1_; clear n0_ n1_;
    skip
    refine hK.out _ _ ⟨rangeW BK5.out hB.out, rangeW BK7.out hB.out, hB.out⟩ (fun hHeld => ?_)
    clear hK K
    try simp only [Act.put, List.setIfInBounds_toArray, List.set_cons_zero, List.set_cons_succ]
    refine wpAnyH_ready (rs := [3]) (by kernel_rfl) (by simp) ?_
    refine AllReadyH.cons rfl (fun K hK => ?_) ?_
    ·go_simp
     go_at_call 101
     refine (impl_block_element.calls (pad16 m1) (pad16_length m1) _).mono ?_
     rintro e wk21 ⟨rfl, hbl⟩
     try go_wp2_with fail
     have n0_ := Aside0.mk (below_step hB.out hbl); have n1_ := Aside0.mk (blk_below (g := g9) (o := .cells #[.int .u8 0, .int .u8 0, .int .u8 0, .int .u8 0, .int .u8 0, .int .u8 0, .int .u8 0, .int .u8 0, .int .u8 0, .int .u8 0, .int .u8 0, .int .u8 0, .int .u8 0, .int .u8 0, .int .u8 0, .int .u8 0] 82 (0, 0)) HZ9.out hbl); have hB := n0_; have HZ9 := n1_; clear n0_ n1_;
     skip
     refine hK.out _ _ ⟨rangeW BK5.out hB.out, rangeW BK7.out hB.out, hB.out⟩ (fun hHeld => ?_)
     clear hK K
     try simp only [Act.put, List.setIfInBounds_toArray, List.set_cons_zero, List.set_cons_succ]
     refine wpAnyH_ready (rs := [4]) (by kernel_rfl) (by simp) ?_
     refine AllReadyH.cons rfl (fun K hK => ?_) ?_
     ·go_simp
      go_at_call 102
      refine (impl_element_times.calls k _ _ _ _ _ _ _ hT.out).mono ?_
      rintro e wk22 ⟨rfl, hbl⟩
      try go_wp2_with fail
      have n0_ := Aside0.mk (below_step hB.out hbl); have n1_ := Aside0.mk (blk_below (g := g9) (o := .cells #[.int .u8 0, .int .u8 0, .int .u8 0, .int .u8 0, .int .u8 0, .int .u8 0, .int .u8 0, .int .u8 0, .int .u8 0, .int .u8 0, .int .u8 0, .int .u8 0, .int .u8 0, .int .u8 0, .int .u8 0, .int .u8 0] 82 (0, 0)) HZ9.out hbl); have hB := n0_; have HZ9 := n1_; clear n0_ n1_;
      skip
      refine hK.out _ _ ⟨rangeW BK5.out hB.out, rangeW BK7.out hB.out, hB.out⟩ (fun hHeld => ?_)
      clear hK K
      try simp only [Act.put, List.setIfInBounds_toArray, List.set_cons_zero, List.set_cons_succ]
      refine wpAnyH_ready (rs := [5]) (by kernel_rfl) (by simp) ?_
      refine AllReadyH.cons rfl (fun K hK => ?_) ?_
      ·go_simp
       go_at_call 103
       refine (impl_element_block.calls x y hX.out hY.out _).mono ?_
       rintro e wk23 ⟨rfl, hbl⟩
       try go_wp2_with fail
       have n0_ := Aside0.mk (below_step hB.out hbl); have n1_ := Aside0.mk (blk_below (g := g9) (o := .cells #[.int .u8 0, .int .u8 0, .int .u8 0, .int .u8 0, .int .u8 0, .int .u8 0, .int .u8 0, .int .u8 0, .int .u8 0, .int .u8 0, .int .u8 0, .int .u8 0, .int .u8 0, .int .u8 0, .int .u8 0, .int .u8 0] 82 (0, 0)) HZ9.out hbl); have hB := n0_; have HZ9 := n1_; clear n0_ n1_;
       skip
       refine hK.out _ _ ⟨rangeW BK5.out hB.out, rangeW BK7.out hB.out, hB.out⟩ (fun hHeld => ?_)
       clear hK K
       try simp only [Act.put, List.setIfInBounds_toArray, List.set_cons_zero, List.set_cons_succ]
       refine wpAnyH_ready (rs := [7]) (by kernel_rfl) (by simp) ?_
       refine AllReadyH.cons rfl (fun K hK => ?_) ?_
       ·rw [if_pos (by rfl)]
        refine wp_store_row 82 (.tmp 9) (.tmp 32) rfl g9 (cB (outL x y 8)) rfl rfl 82 #[.int .u8 0, .int .u8 0, .int .u8 0, .int .u8 0, .int .u8 0, .int .u8 0, .int .u8 0, .int .u8 0, .int .u8 0, .int .u8 0, .int .u8 0, .int .u8 0, .int .u8 0, .int .u8 0, .int .u8 0, .int .u8 0] HZ9.out (by rw [cB_size, outL_length]; kernel_rfl) (by rw [cB_size, outL_length]; rfl) (by exact cB_one _) ?_
        have n0_ := Aside0.mk (below_grown1 hB.out (grown_setRow wk23 g9 (cB (outL x y 8))) HG9.out)
        have n1_ := Aside0.mk (setRow_heap wk23 g9 _ (cB (outL x y 8)) 82 (0, 0) HZ9.out)
        clear hB hHeld HZ9
        generalize wk23.setRow g9 (cB (outL x y 8)) = wk24 at n0_ n1_  ⊢
        have hB := n0_; have HZ9 := n1_;  clear n0_ n1_
        refine hK.out _ _ ⟨rangeW BK5.out hB.out, rangeW BK7.out hB.out, hB.out⟩ (fun hHeld => ?_)
        clear hK K
        try simp only [Act.put, List.setIfInBounds_toArray, List.set_cons_zero, List.set_cons_succ]
        refine wpAnyH_done (by kernel_rfl) ?_ _
        exact leaf g9 wk24 ⟨hB.out, HZ9.out, HG9.out⟩
       exact AllReadyH.nil
      exact AllReadyH.nil
     exact AllReadyH.nil
    exact AllReadyH.nil
   exact AllReadyH.nil
  exact AllReadyH.nil
 rintro g9 wz ⟨hb, hz9, hg9⟩
 have n0_ := Aside0.mk (below_step (by repeat (first | (with_reducible first | exact HB.out | apply below_alloc | apply pw_below_drewN | apply below_drew1) | exact HB.out)) hb); have n1_ := Aside0.mk (blk_below (g := g4) (o := .cells #[.int .i64 0, .slice none 0 0] 26 (0, 0)) (by (with_reducible repeat (first | refine blk_drewN ?_ _ | refine blk_drew ?_ | refine blk_alloc ?_ _)); exact BK4.out) hb); have n2_ := Aside0.mk (blk_below (g := g5) (o := .cells (cB (pad16 m0)) 82 (0, 0)) (by (with_reducible repeat (first | refine blk_drewN ?_ _ | refine blk_drew ?_ | refine blk_alloc ?_ _)); exact BK5.out) hb); have n3_ := Aside0.mk (blk_below (g := g7) (o := .cells (cB (pad16 m1)) 82 (0, 0)) (by (with_reducible repeat (first | refine blk_drewN ?_ _ | refine blk_drew ?_ | refine blk_alloc ?_ _)); exact BK7.out) hb); have n4_ := Aside0.mk hz9; have n5_ := Aside0.mk (Nat.le_trans (below_size HB.out) hg9); clear HB BK4 BK5 BK7; have HB := n0_; have BK4 := n1_; have BK5 := n2_; have BK7 := n3_; have BK9 := n4_; have GE9 := n5_; clear n0_ n1_ n2_ n3_ n4_ n5_;
 clear hb hz9 hg9
 go_wp2_with (first
   | ((with_reducible refine gate_store (t := 26) (p := 4) rfl ?_); refine row_event ?hg (ty := 26) (p := 4) (y := ?yo_108) ?ho ?hn (g := g4) (old := #[.int .i64 0, .slice none 0 0]) (e := 26) (cells := #[.int .i64 0, .slice (some ⟨g9, 0, none⟩) 16 16]) ?hx ?hy ?hk ?hi ?hd ?h1 ?_; (case ho => rfl); (case hg => rfl); (case hn => rfl); (case hx => rfl); (case hy => rfl); (case hk => (with_reducible repeat (first | refine blk_drewN ?_ _ | refine blk_drew ?_ | refine blk_alloc ?_ _)); exact BK4.out); (case hi => kernel_rfl); (case hd => rfl); (case h1 => simp [Value.oneCell']); intro wr_ hbk hgr; have n0_ := Aside0.mk (below_grown1 (by repeat (first | (with_reducible first | exact HB.out | apply below_alloc | apply pw_below_drewN | apply below_drew1) | exact HB.out)) hgr GE4.out); have n1_ := Aside0.mk (blk_grown1 (g' := g5) (ob := .cells (cB (pad16 m0)) 82 (0, 0)) (by (with_reducible repeat (first | refine blk_drewN ?_ _ | refine blk_drew ?_ | refine blk_alloc ?_ _)); exact BK5.out) hgr (blk_ne (by (with_reducible repeat (first | refine blk_drewN ?_ _ | refine blk_drew ?_ | refine blk_alloc ?_ _)); exact BK5.out) (by (with_reducible repeat (first | refine blk_drewN ?_ _ | refine blk_drew ?_ | refine blk_alloc ?_ _)); exact BK4.out) (by decide))); have n2_ := Aside0.mk (blk_grown1 (g' := g7) (ob := .cells (cB (pad16 m1)) 82 (0, 0)) (by (with_reducible repeat (first | refine blk_drewN ?_ _ | refine blk_drew ?_ | refine blk_alloc ?_ _)); exact BK7.out) hgr (blk_ne (by (with_reducible repeat (first | refine blk_drewN ?_ _ | refine blk_drew ?_ | refine blk_alloc ?_ _)); exact BK7.out) (by (with_reducible repeat (first | refine blk_drewN ?_ _ | refine blk_drew ?_ | refine blk_alloc ?_ _)); exact BK4.out) (by decide))); have n3_ := Aside0.mk (blk_grown1 (g' := g9) (ob := .cells (cB (outL x y 8)) 82 (0, 0)) (by (with_reducible repeat (first | refine blk_drewN ?_ _ | refine blk_drew ?_ | refine blk_alloc ?_ _)); exact BK9.out) hgr (blk_ne (by (with_reducible repeat (first | refine blk_drewN ?_ _ | refine blk_drew ?_ | refine blk_alloc ?_ _)); exact BK9.out) (by (with_reducible repeat (first | refine blk_drewN ?_ _ | refine blk_drew ?_ | refine blk_alloc ?_ _)); exact BK4.out) (by decide))); have n4_ := Aside0.mk hbk; clear HB BK5 BK7 BK9 BK4; have HB := n0_; have BK5 := n1_; have BK7 := n2_; have BK9 := n3_; have BK4 := n4_; clear n0_ n1_ n2_ n3_ n4_; clear hbk hgr))
 refine bodyPost_ret (results_cell_row rfl _ _ g4 26 #[.int .i64 0, .slice (some ⟨g9, 0, none⟩) 16 16] (0, 0) _ rfl (by (with_reducible repeat (first | refine blk_drewN ?_ _ | refine blk_drew ?_ | refine blk_alloc ?_ _)); exact BK4.out) Try.underlying26 rfl (by kernel_rfl)) rfl ?_
 exact ⟨_, rfl, R_block (by (with_reducible repeat (first | refine blk_drewN ?_ _ | refine blk_drew ?_ | refine blk_alloc ?_ _)); exact BK9.out) GE9.out (outL_length _ _ _) (by omega), HB.out⟩
set_option maxHeartbeats 4000000 in
set_option maxRecDepth 100000 in
theorem impl_GroupTimes.calls (k : Nat) (A0 : Option Addr) (c0 : Nat) (l0 : List Int) (A1 : Option Addr) (c1 : Nat) (l1 : List Int) (r1 : Int) (r2 : List Int) (w : World) (hr0 : Kd.C (Kd.int .u8) w A0 l0.length l0) (hc0 : l0.length ≤ c0) (hr1 : Kd.C (Kd.int .u8) w A1 l1.length l1) (hc1 : l1.length ≤ c1) (h : impl_GroupTimes.f k l0 l1 = some (r1, r2)) :
  Calls Try.prog 44 #[.slice A0 l0.length c0, .slice A1 l1.length c1] w fun e w' => ∃ v1_ : Value, e = .returned (.agg #[.int .i64 r1, v1_]) ∧ Kd.R (Kd.int .u8) 82 w' w.heap.size (fun _ => True) v1_ r2 ∧ Below w.heap.size w w' := by
 unfold impl_GroupTimes.f at h
 by_cases hb : isBs l0 = true ∧ isBs l1 = true
 ·rw [if_pos hb] at h
  obtain ⟨m0, rfl⟩ : ∃ m, l0 = bL m := ⟨_, isBs_bL hb.1⟩
  obtain ⟨m1, rfl⟩ : ∃ m, l1 = bL m := ⟨_, isBs_bL hb.2⟩
  rw [bL_length] at hr0 hr1
  rw [unB_bL, unB_bL] at h
  rw [bL_length, bL_length]
  clear hb hc0 hc1
  exact groupTimes_here k A0 c0 m0 A1 c1 m1 r1 r2 w hr0 hr1 h
 ·rw [if_neg hb] at h
  cases h
end Go.Proofs.Ytjfdcabgbcbdjaa.All
