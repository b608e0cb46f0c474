-- Laid by wip/myprint.py of this repo over the kit's print (the functions' texts by the kit's program, some by hand). Not trusted: Lean checks it.
import Derived.Test.YtjfdcabgbcbdjaaAllx0
import Derived.Test.YtjfdcabgbcbdjaaAllx538
import Derived.Test.YtjfdcabgbcbdjaaAllx536
import Derived.Test.YtjfdcabgbcbdjaaAllx537
import Derived.Test.YtjfdcabgbcbdjaaDrawn
namespace Go.Proofs.Ytjfdcabgbcbdjaa.All
open Go.RowKit Go.Proofs.YtjfdcabgbcbdjaaW.PrintWords Go.Proofs.YtjfdcabgbcbdjaaW.PrintLast Go.Proofs.YtjfdcabgbcbdjaaW.PrintMore
attribute [local go_sem] max2_int min2_int max_two min_two max_three min_three max_four min_four
set_option linter.unusedVariables false
set_option linter.unusedSimpArgs false


set_option maxHeartbeats 4000000 in
set_option maxRecDepth 100000 in
theorem noBytes_enc (n : Int) (w : World) : Calls Try.prog 88 #[.int .i64 n] w fun e w' => e = .returned (.agg #[.int .i64 n, .slice none 0 0]) ∧ Below w.heap.size w w' := by
  have HB := Aside0.mk (Below.refl w.heap.size w)
  go_enter Try.func88, Try.ntmps88
  go_wp2_with (first
    | ((with_reducible refine gate_dst (N := 2) rfl ?_); refine box_event ?hg (N := 2) ?hd (cs := #[.int .i64 0, .slice none 0 0]) (t := 26) ?hr ?_; (case hd => rfl); (case hg => rfl); (case hr => first | (go_simp; done) | (go_simp; rfl)); intro g2 hg w2 hbox hb; have n0_ := Aside0.mk (below_step (by repeat (first | (with_reducible first | exact HB.out | apply below_alloc | apply pw_below_drewN | apply below_drew1) | exact HB.out)) hb); have n1_ := Aside0.mk hbox; have n2_ := Aside0.mk (by rw [hg]; exact below_size (by repeat (first | (with_reducible first | exact HB.out | apply below_alloc | apply pw_below_drewN | apply below_drew1) | exact HB.out)) : w.heap.size ≤ g2); clear HB; have HB := n0_; have BK2 := n1_; have GE2 := n2_; clear n0_ n1_ n2_; clear hb hbox hg)
    | ((with_reducible refine gate_store (t := 26) (p := 2) rfl ?_); refine row_event ?hg (ty := 26) (p := 2) (y := ?yo_263) ?ho ?hn (g := g2) (old := #[.int .i64 0, .slice none 0 0]) (e := 26) (cells := #[.int .i64 n, .slice none 0 0]) ?hx ?hy ?hk ?hi ?hd ?h1 ?_; (case ho => rfl); (case hg => rfl); (case hn => rfl); (case hx => rfl); (case hy => rfl); (case hk => (with_reducible repeat (first | refine blk_drewN ?_ _ | refine blk_drew ?_ | refine blk_alloc ?_ _)); exact BK2.out); (case hi => kernel_rfl); (case hd => rfl); (case h1 => simp [Value.oneCell']); intro wr_ hbk hgr; have n0_ := Aside0.mk (below_grown1 (by repeat (first | (with_reducible first | exact HB.out | apply below_alloc | apply pw_below_drewN | apply below_drew1) | exact HB.out)) hgr GE2.out); have n1_ := Aside0.mk hbk; clear HB BK2; have HB := n0_; have BK2 := n1_; clear n0_ n1_; clear hbk hgr))
  refine bodyPost_ret (results_cell_row rfl _ _ g2 26 #[.int .i64 n, .slice none 0 0] (0, 0) _ rfl (by (with_reducible repeat (first | refine blk_drewN ?_ _ | refine blk_drew ?_ | refine blk_alloc ?_ _)); exact BK2.out) Try.underlying26 rfl (by kernel_rfl)) rfl ?_
  exact ⟨rfl, HB.out⟩
def impl_EncryptBlock.g (m0 m1 : List (BitVec 8)) : Int × List Int := if m0.length = 16 ∧ m1.length = 16 then (0, bL (encL (schedL m0) m1)) else (2, [])
def impl_EncryptBlock.f (l0 l1 : List Int) : Option (Int × List Int) := if isBs l0 = true ∧ isBs l1 = true then some (impl_EncryptBlock.g (unB l0) (unB l1)) else none
set_option maxHeartbeats 4000000 in
set_option maxRecDepth 100000 in
theorem encryptBlock_here (A0 : Option Addr) (c0 : Nat) (m0 : List (BitVec 8)) (A1 : Option Addr) (c1 : Nat) (m1 : List (BitVec 8)) (r1 : Int) (r2 : List Int) (w : World) (hr0 : Kd.C (Kd.int .u8) w A0 m0.length (bL m0)) (hr1 : Kd.C (Kd.int .u8) w A1 m1.length (bL m1)) (h : impl_EncryptBlock.g m0 m1 = (r1, r2)) :
    Calls Try.prog 40 #[.slice A0 m0.length c0, .slice A1 m1.length c1] w fun e w' => ∃ v1_ : Value, e = .returned (.agg #[.int .i64 r1, v1_]) ∧ Kd.R (Kd.int .u8) 82 w' w.heap.size (fun _ => True) v1_ r2 ∧ Below w.heap.size w w' := by
  have HR0 := Aside0.mk hr0
  have HR1 := Aside0.mk hr1
  clear hr0 hr1
  have HB := Aside0.mk (Below.refl w.heap.size w)
  unfold impl_EncryptBlock.g at h
  by_cases h0 : m0.length = 16
  case neg =>
    rw [if_neg (fun q => h0 q.1)] at h
    simp only [Prod.mk.injEq] at h
    obtain ⟨e1, e2⟩ := h
    subst e1 e2
    have hk1 : ((m0.length : Int) != 16) = true := by rw [bne_iff_ne]; omega
    have hk2 : ((m0.length : Int) == 16) = false := by rw [beq_eq_false_iff_ne]; omega
    clear h0
    go_enter Try.func40, Try.ntmps40
    go_wp2_with (first
        | ((with_reducible refine gate_dst (N := 4) rfl ?_); refine box_event ?hg (N := 4) ?hd (cs := #[.int .i64 0, .slice none 0 0]) (t := 26) ?hr ?_; (case hd => rfl); (case hg => rfl); (case hr => first | (go_simp; done) | (go_simp; rfl)); intro g4 hg w4 hbox hb; have n0_ := Aside0.mk (below_step (by repeat (first | (with_reducible first | exact HB.out | apply below_alloc | apply pw_below_drewN | apply below_drew1) | exact HB.out)) hb); have n1_ := Aside0.mk hbox; have n2_ := Aside0.mk (by rw [hg]; exact below_size (by repeat (first | (with_reducible first | exact HB.out | apply below_alloc | apply pw_below_drewN | apply below_drew1) | exact HB.out)) : w.heap.size ≤ g4); clear HB; have HB := n0_; have BK4 := n1_; have GE4 := n2_; clear n0_ n1_ n2_; clear hb hbox hg)
        | (go_at_call 97; (with_reducible refine (impl_asBlock.calls A1 c1 m1 _ ?hC_265).mono ?_); (case hC_265 => (first | exact Kd.C_below HR1.out (by repeat (first | (with_reducible first | exact HB.out | apply below_alloc | apply pw_below_drewN | apply below_drew1) | exact HB.out)) | exact (Kd.C_below HR1.out HB.out))); rintro e wk ⟨rfl, hb⟩; have n0_ := Aside0.mk (below_step (by repeat (first | (with_reducible first | exact HB.out | apply below_alloc | apply pw_below_drewN | apply below_drew1) | exact HB.out)) hb); have n1_ := Aside0.mk (blk_below (g := g4) (o := .cells #[.int .i64 0, .slice none 0 0] 26 (0, 0)) (by (with_reducible repeat (first | refine blk_drewN ?_ _ | refine blk_drew ?_ | refine blk_alloc ?_ _)); exact BK4.out) hb); clear HB BK4; have HB := n0_; have BK4 := n1_; clear n0_ n1_; clear hb)
        | ((with_reducible refine gate_dst (N := 5) rfl ?_); refine box_event ?hg (N := 5) ?hd (cs := #[.int .u8 0, .int .u8 0, .int .u8 0, .int .u8 0, .int .u8 0, .int .u8 0, .int .u8 0, .int .u8 0, .int .u8 0, .int .u8 0, .int .u8 0, .int .u8 0, .int .u8 0, .int .u8 0, .int .u8 0, .int .u8 0]) (t := 82) ?hr ?_; (case hd => rfl); (case hg => rfl); (case hr => first | (go_simp; done) | (go_simp; rfl)); intro g5 hg w5 hbox hb; have n0_ := Aside0.mk (below_step (by repeat (first | (with_reducible first | exact HB.out | apply below_alloc | apply pw_below_drewN | apply below_drew1) | exact HB.out)) hb); have n1_ := Aside0.mk (blk_below (g := g4) (o := .cells #[.int .i64 0, .slice none 0 0] 26 (0, 0)) (by (with_reducible repeat (first | refine blk_drewN ?_ _ | refine blk_drew ?_ | refine blk_alloc ?_ _)); exact BK4.out) hb); have n2_ := Aside0.mk hbox; have n3_ := Aside0.mk (by rw [hg]; exact below_size (by repeat (first | (with_reducible first | exact HB.out | apply below_alloc | apply pw_below_drewN | apply below_drew1) | exact HB.out)) : w.heap.size ≤ g5); clear HB BK4; have HB := n0_; have BK4 := n1_; have BK5 := n2_; have GE5 := n3_; clear n0_ n1_ n2_ n3_; clear hb hbox hg)
        | ((with_reducible refine gate_store (t := 82) (p := 5) rfl ?_); refine row_event ?hg (ty := 82) (p := 5) (y := ?yo_267) ?ho ?hn (g := g5) (old := #[.int .u8 0, .int .u8 0, .int .u8 0, .int .u8 0, .int .u8 0, .int .u8 0, .int .u8 0, .int .u8 0, .int .u8 0, .int .u8 0, .int .u8 0, .int .u8 0, .int .u8 0, .int .u8 0, .int .u8 0, .int .u8 0]) (e := 82) (cells := (cB (pad16 m1))) ?hx ?hy ?hk ?hi ?hd ?h1 ?_; (case ho => rfl); (case hg => rfl); (case hn => rfl); (case hx => rfl); (case hy => rfl); (case hk => (with_reducible repeat (first | refine blk_drewN ?_ _ | refine blk_drew ?_ | refine blk_alloc ?_ _)); exact BK5.out); (case hi => rw [cB_size, pad16_length]; kernel_rfl); (case hd => rw [cB_size, pad16_length]; rfl); (case h1 => exact cB_one _); intro wr_ hbk hgr; have n0_ := Aside0.mk (below_grown1 (by repeat (first | (with_reducible first | exact HB.out | apply below_alloc | apply pw_below_drewN | apply below_drew1) | exact HB.out)) hgr GE5.out); have n1_ := Aside0.mk (blk_grown1 (g' := g4) (ob := .cells #[.int .i64 0, .slice none 0 0] 26 (0, 0)) (by (with_reducible repeat (first | refine blk_drewN ?_ _ | refine blk_drew ?_ | refine blk_alloc ?_ _)); exact BK4.out) hgr (blk_ne (by (with_reducible repeat (first | refine blk_drewN ?_ _ | refine blk_drew ?_ | refine blk_alloc ?_ _)); exact BK4.out) (by (with_reducible repeat (first | refine blk_drewN ?_ _ | refine blk_drew ?_ | refine blk_alloc ?_ _)); exact BK5.out) (by decide))); have n2_ := Aside0.mk hbk; clear HB BK4 BK5; have HB := n0_; have BK4 := n1_; have BK5 := n2_; clear n0_ n1_ n2_; clear hbk hgr)
        | (go_at_call 88; refine (noBytes_enc 2 _).mono ?_; rintro e wk2 ⟨rfl, hb⟩; have n0_ := Aside0.mk (below_step (by repeat (first | (with_reducible first | exact HB.out | apply below_alloc | apply pw_below_drewN | apply below_drew1) | exact HB.out)) hb); have n1_ := Aside0.mk (blk_below (g := g4) (o := .cells #[.int .i64 0, .slice none 0 0] 26 (0, 0)) (by (with_reducible repeat (first | refine blk_drewN ?_ _ | refine blk_drew ?_ | refine blk_alloc ?_ _)); exact BK4.out) hb); have n2_ := Aside0.mk (blk_below (g := g5) (o := .cells (cB (pad16 m1)) 82 (0, 0)) (by (with_reducible repeat (first | refine blk_drewN ?_ _ | refine blk_drew ?_ | refine blk_alloc ?_ _)); exact BK5.out) hb); clear HB BK4 BK5; have HB := n0_; have BK4 := n1_; have BK5 := n2_; clear n0_ n1_ n2_; clear hb)
        | ((with_reducible refine gate_store (t := 26) (p := 4) rfl ?_); refine row_event ?hg (ty := 26) (p := 4) (y := ?yo_269) ?ho ?hn (g := g4) (old := #[.int .i64 0, .slice none 0 0]) (e := 26) (cells := #[.int .i64 2, .slice none 0 0]) ?hx ?hy ?hk ?hi ?hd ?h1 ?_; (case ho => rfl); (case hg => rfl); (case hn => rfl); (case hx => rfl); (case hy => rfl); (case hk => (with_reducible repeat (first | refine blk_drewN ?_ _ | refine blk_drew ?_ | refine blk_alloc ?_ _)); exact BK4.out); (case hi => kernel_rfl); (case hd => rfl); (case h1 => simp [Value.oneCell']); intro wr_ hbk hgr; have n0_ := Aside0.mk (below_grown1 (by repeat (first | (with_reducible first | exact HB.out | apply below_alloc | apply pw_below_drewN | apply below_drew1) | exact HB.out)) hgr GE4.out); have n1_ := Aside0.mk (blk_grown1 (g' := g5) (ob := .cells (cB (pad16 m1)) 82 (0, 0)) (by (with_reducible repeat (first | refine blk_drewN ?_ _ | refine blk_drew ?_ | refine blk_alloc ?_ _)); exact BK5.out) hgr (blk_ne (by (with_reducible repeat (first | refine blk_drewN ?_ _ | refine blk_drew ?_ | refine blk_alloc ?_ _)); exact BK5.out) (by (with_reducible repeat (first | refine blk_drewN ?_ _ | refine blk_drew ?_ | refine blk_alloc ?_ _)); exact BK4.out) (by decide))); have n2_ := Aside0.mk hbk; clear HB BK5 BK4; have HB := n0_; have BK5 := n1_; have BK4 := n2_; clear n0_ n1_ n2_; clear hbk hgr))
    refine bodyPost_ret (results_cell_row rfl _ _ g4 26 #[.int .i64 2, .slice none 0 0] (0, 0) _ rfl (by (with_reducible repeat (first | refine blk_drewN ?_ _ | refine blk_drew ?_ | refine blk_alloc ?_ _)); exact BK4.out) Try.underlying26 rfl (by kernel_rfl)) rfl ?_
    exact ⟨_, rfl, Kd.R_nil _ _ _ _ _, HB.out⟩
  by_cases h1 : m1.length = 16
  case neg =>
    rw [if_neg (fun q => h1 q.2)] at h
    simp only [Prod.mk.injEq] at h
    obtain ⟨e1, e2⟩ := h
    subst e1 e2
    have hd1 : decide (m1.length = 16) = false := decide_eq_false h1
    have hk1 : ((m0.length : Int) != 16) = false := by rw [bne_eq_false_iff_eq]; omega
    have hk2 : ((m0.length : Int) == 16) = true := by rw [beq_iff_eq]; omega
    clear h0 h1
    go_enter Try.func40, Try.ntmps40
    go_wp2_with (first
        | ((with_reducible refine gate_dst (N := 4) rfl ?_); refine box_event ?hg (N := 4) ?hd (cs := #[.int .i64 0, .slice none 0 0]) (t := 26) ?hr ?_; (case hd => rfl); (case hg => rfl); (case hr => first | (go_simp; done) | (go_simp; rfl)); intro g4 hg w4 hbox hb; have n0_ := Aside0.mk (below_step (by repeat (first | (with_reducible first | exact HB.out | apply below_alloc | apply pw_below_drewN | apply below_drew1) | exact HB.out)) hb); have n1_ := Aside0.mk hbox; have n2_ := Aside0.mk (by rw [hg]; exact below_size (by repeat (first | (with_reducible first | exact HB.out | apply below_alloc | apply pw_below_drewN | apply below_drew1) | exact HB.out)) : w.heap.size ≤ g4); clear HB; have HB := n0_; have BK4 := n1_; have GE4 := n2_; clear n0_ n1_ n2_; clear hb hbox hg)
        | (go_at_call 97; (with_reducible refine (impl_asBlock.calls A1 c1 m1 _ ?hC_271).mono ?_); (case hC_271 => (first | exact Kd.C_below HR1.out (by repeat (first | (with_reducible first | exact HB.out | apply below_alloc | apply pw_below_drewN | apply below_drew1) | exact HB.out)) | exact (Kd.C_below HR1.out HB.out))); rintro e wk ⟨rfl, hb⟩; have n0_ := Aside0.mk (below_step (by repeat (first | (with_reducible first | exact HB.out | apply below_alloc | apply pw_below_drewN | apply below_drew1) | exact HB.out)) hb); have n1_ := Aside0.mk (blk_below (g := g4) (o := .cells #[.int .i64 0, .slice none 0 0] 26 (0, 0)) (by (with_reducible repeat (first | refine blk_drewN ?_ _ | refine blk_drew ?_ | refine blk_alloc ?_ _)); exact BK4.out) hb); clear HB BK4; have HB := n0_; have BK4 := n1_; clear n0_ n1_; clear hb)
        | ((with_reducible refine gate_dst (N := 5) rfl ?_); refine box_event ?hg (N := 5) ?hd (cs := #[.int .u8 0, .int .u8 0, .int .u8 0, .int .u8 0, .int .u8 0, .int .u8 0, .int .u8 0, .int .u8 0, .int .u8 0, .int .u8 0, .int .u8 0, .int .u8 0, .int .u8 0, .int .u8 0, .int .u8 0, .int .u8 0]) (t := 82) ?hr ?_; (case hd => rfl); (case hg => rfl); (case hr => first | (go_simp; done) | (go_simp; rfl)); intro g5 hg w5 hbox hb; have n0_ := Aside0.mk (below_step (by repeat (first | (with_reducible first | exact HB.out | apply below_alloc | apply pw_below_drewN | apply below_drew1) | exact HB.out)) hb); have n1_ := Aside0.mk (blk_below (g := g4) (o := .cells #[.int .i64 0, .slice none 0 0] 26 (0, 0)) (by (with_reducible repeat (first | refine blk_drewN ?_ _ | refine blk_drew ?_ | refine blk_alloc ?_ _)); exact BK4.out) hb); have n2_ := Aside0.mk hbox; have n3_ := Aside0.mk (by rw [hg]; exact below_size (by repeat (first | (with_reducible first | exact HB.out | apply below_alloc | apply pw_below_drewN | apply below_drew1) | exact HB.out)) : w.heap.size ≤ g5); clear HB BK4; have HB := n0_; have BK4 := n1_; have BK5 := n2_; have GE5 := n3_; clear n0_ n1_ n2_ n3_; clear hb hbox hg)
        | ((with_reducible refine gate_store (t := 82) (p := 5) rfl ?_); refine row_event ?hg (ty := 82) (p := 5) (y := ?yo_273) ?ho ?hn (g := g5) (old := #[.int .u8 0, .int .u8 0, .int .u8 0, .int .u8 0, .int .u8 0, .int .u8 0, .int .u8 0, .int .u8 0, .int .u8 0, .int .u8 0, .int .u8 0, .int .u8 0, .int .u8 0, .int .u8 0, .int .u8 0, .int .u8 0]) (e := 82) (cells := (cB (pad16 m1))) ?hx ?hy ?hk ?hi ?hd ?h1 ?_; (case ho => rfl); (case hg => rfl); (case hn => rfl); (case hx => rfl); (case hy => rfl); (case hk => (with_reducible repeat (first | refine blk_drewN ?_ _ | refine blk_drew ?_ | refine blk_alloc ?_ _)); exact BK5.out); (case hi => rw [cB_size, pad16_length]; kernel_rfl); (case hd => rw [cB_size, pad16_length]; rfl); (case h1 => exact cB_one _); intro wr_ hbk hgr; have n0_ := Aside0.mk (below_grown1 (by repeat (first | (with_reducible first | exact HB.out | apply below_alloc | apply pw_below_drewN | apply below_drew1) | exact HB.out)) hgr GE5.out); have n1_ := Aside0.mk (blk_grown1 (g' := g4) (ob := .cells #[.int .i64 0, .slice none 0 0] 26 (0, 0)) (by (with_reducible repeat (first | refine blk_drewN ?_ _ | refine blk_drew ?_ | refine blk_alloc ?_ _)); exact BK4.out) hgr (blk_ne (by (with_reducible repeat (first | refine blk_drewN ?_ _ | refine blk_drew ?_ | refine blk_alloc ?_ _)); exact BK4.out) (by (with_reducible repeat (first | refine blk_drewN ?_ _ | refine blk_drew ?_ | refine blk_alloc ?_ _)); exact BK5.out) (by decide))); have n2_ := Aside0.mk hbk; clear HB BK4 BK5; have HB := n0_; have BK4 := n1_; have BK5 := n2_; clear n0_ n1_ n2_; clear hbk hgr)
        | (go_at_call 88; refine (noBytes_enc 2 _).mono ?_; rintro e wk2 ⟨rfl, hb⟩; have n0_ := Aside0.mk (below_step (by repeat (first | (with_reducible first | exact HB.out | apply below_alloc | apply pw_below_drewN | apply below_drew1) | exact HB.out)) hb); have n1_ := Aside0.mk (blk_below (g := g4) (o := .cells #[.int .i64 0, .slice none 0 0] 26 (0, 0)) (by (with_reducible repeat (first | refine blk_drewN ?_ _ | refine blk_drew ?_ | refine blk_alloc ?_ _)); exact BK4.out) hb); have n2_ := Aside0.mk (blk_below (g := g5) (o := .cells (cB (pad16 m1)) 82 (0, 0)) (by (with_reducible repeat (first | refine blk_drewN ?_ _ | refine blk_drew ?_ | refine blk_alloc ?_ _)); exact BK5.out) hb); clear HB BK4 BK5; have HB := n0_; have BK4 := n1_; have BK5 := n2_; clear n0_ n1_ n2_; clear hb)
        | ((with_reducible refine gate_store (t := 26) (p := 4) rfl ?_); refine row_event ?hg (ty := 26) (p := 4) (y := ?yo_275) ?ho ?hn (g := g4) (old := #[.int .i64 0, .slice none 0 0]) (e := 26) (cells := #[.int .i64 2, .slice none 0 0]) ?hx ?hy ?hk ?hi ?hd ?h1 ?_; (case ho => rfl); (case hg => rfl); (case hn => rfl); (case hx => rfl); (case hy => rfl); (case hk => (with_reducible repeat (first | refine blk_drewN ?_ _ | refine blk_drew ?_ | refine blk_alloc ?_ _)); exact BK4.out); (case hi => kernel_rfl); (case hd => rfl); (case h1 => simp [Value.oneCell']); intro wr_ hbk hgr; have n0_ := Aside0.mk (below_grown1 (by repeat (first | (with_reducible first | exact HB.out | apply below_alloc | apply pw_below_drewN | apply below_drew1) | exact HB.out)) hgr GE4.out); have n1_ := Aside0.mk (blk_grown1 (g' := g5) (ob := .cells (cB (pad16 m1)) 82 (0, 0)) (by (with_reducible repeat (first | refine blk_drewN ?_ _ | refine blk_drew ?_ | refine blk_alloc ?_ _)); exact BK5.out) hgr (blk_ne (by (with_reducible repeat (first | refine blk_drewN ?_ _ | refine blk_drew ?_ | refine blk_alloc ?_ _)); exact BK5.out) (by (with_reducible repeat (first | refine blk_drewN ?_ _ | refine blk_drew ?_ | refine blk_alloc ?_ _)); exact BK4.out) (by decide))); have n2_ := Aside0.mk hbk; clear HB BK5 BK4; have HB := n0_; have BK5 := n1_; have BK4 := n2_; clear n0_ n1_ n2_; clear hbk hgr))
    refine bodyPost_ret (results_cell_row rfl _ _ g4 26 #[.int .i64 2, .slice none 0 0] (0, 0) _ rfl (by (with_reducible repeat (first | refine blk_drewN ?_ _ | refine blk_drew ?_ | refine blk_alloc ?_ _)); exact BK4.out) Try.underlying26 rfl (by kernel_rfl)) rfl ?_
    exact ⟨_, rfl, Kd.R_nil _ _ _ _ _, HB.out⟩
  rw [if_pos ⟨h0, h1⟩] at h
  simp only [Prod.mk.injEq] at h
  obtain ⟨e1, e2⟩ := h
  subst e1 e2
  have hd1 : decide (m1.length = 16) = true := decide_eq_true h1
  have hk1 : ((m0.length : Int) != 16) = false := by rw [bne_eq_false_iff_eq]; omega
  have hk2 : ((m0.length : Int) == 16) = true := by rw [beq_iff_eq]; omega
  have hm0 := Aside0.mk h0
  have hm1 := Aside0.mk (pad16_self m1 h1)
  clear h0 h1
  go_enter Try.func40, Try.ntmps40
  go_wp2_with (first
    | ((with_reducible refine gate_dst (N := 4) rfl ?_); refine box_event ?hg (N := 4) ?hd (cs := #[.int .i64 0, .slice none 0 0]) (t := 26) ?hr ?_; (case hd => rfl); (case hg => rfl); (case hr => first | (go_simp; done) | (go_simp; rfl)); intro g4 hg w4 hbox hb; have n0_ := Aside0.mk (below_step (by repeat (first | (with_reducible first | exact HB.out | apply below_alloc | apply pw_below_drewN | apply below_drew1) | exact HB.out)) hb); have n1_ := Aside0.mk hbox; have n2_ := Aside0.mk (by rw [hg]; exact below_size (by repeat (first | (with_reducible first | exact HB.out | apply below_alloc | apply pw_below_drewN | apply below_drew1) | exact HB.out)) : w.heap.size ≤ g4); clear HB; have HB := n0_; have BK4 := n1_; have GE4 := n2_; clear n0_ n1_ n2_; clear hb hbox hg)
    | (go_at_call 97; (with_reducible refine (impl_asBlock.calls A1 c1 m1 _ ?hC_277).mono ?_); (case hC_277 => (first | exact Kd.C_below HR1.out (by repeat (first | (with_reducible first | exact HB.out | apply below_alloc | apply pw_below_drewN | apply below_drew1) | exact HB.out)) | exact (Kd.C_below HR1.out HB.out))); rintro e wk ⟨rfl, hb⟩; have n0_ := Aside0.mk (below_step (by repeat (first | (with_reducible first | exact HB.out | apply below_alloc | apply pw_below_drewN | apply below_drew1) | exact HB.out)) hb); have n1_ := Aside0.mk (blk_below (g := g4) (o := .cells #[.int .i64 0, .slice none 0 0] 26 (0, 0)) (by (with_reducible repeat (first | refine blk_drewN ?_ _ | refine blk_drew ?_ | refine blk_alloc ?_ _)); exact BK4.out) hb); clear HB BK4; have HB := n0_; have BK4 := n1_; clear n0_ n1_; clear hb)
    | ((with_reducible refine gate_dst (N := 5) rfl ?_); refine box_event ?hg (N := 5) ?hd (cs := #[.int .u8 0, .int .u8 0, .int .u8 0, .int .u8 0, .int .u8 0, .int .u8 0, .int .u8 0, .int .u8 0, .int .u8 0, .int .u8 0, .int .u8 0, .int .u8 0, .int .u8 0, .int .u8 0, .int .u8 0, .int .u8 0]) (t := 82) ?hr ?_; (case hd => rfl); (case hg => rfl); (case hr => first | (go_simp; done) | (go_simp; rfl)); intro g5 hg w5 hbox hb; have n0_ := Aside0.mk (below_step (by repeat (first | (with_reducible first | exact HB.out | apply below_alloc | apply pw_below_drewN | apply below_drew1) | exact HB.out)) hb); have n1_ := Aside0.mk (blk_below (g := g4) (o := .cells #[.int .i64 0, .slice none 0 0] 26 (0, 0)) (by (with_reducible repeat (first | refine blk_drewN ?_ _ | refine blk_drew ?_ | refine blk_alloc ?_ _)); exact BK4.out) hb); have n2_ := Aside0.mk hbox; have n3_ := Aside0.mk (by rw [hg]; exact below_size (by repeat (first | (with_reducible first | exact HB.out | apply below_alloc | apply pw_below_drewN | apply below_drew1) | exact HB.out)) : w.heap.size ≤ g5); clear HB BK4; have HB := n0_; have BK4 := n1_; have BK5 := n2_; have GE5 := n3_; clear n0_ n1_ n2_ n3_; clear hb hbox hg)
    | ((with_reducible refine gate_store (t := 82) (p := 5) rfl ?_); refine row_event ?hg (ty := 82) (p := 5) (y := ?yo_279) ?ho ?hn (g := g5) (old := #[.int .u8 0, .int .u8 0, .int .u8 0, .int .u8 0, .int .u8 0, .int .u8 0, .int .u8 0, .int .u8 0, .int .u8 0, .int .u8 0, .int .u8 0, .int .u8 0, .int .u8 0, .int .u8 0, .int .u8 0, .int .u8 0]) (e := 82) (cells := (cB (pad16 m1))) ?hx ?hy ?hk ?hi ?hd ?h1 ?_; (case ho => rfl); (case hg => rfl); (case hn => rfl); (case hx => rfl); (case hy => rfl); (case hk => (with_reducible repeat (first | refine blk_drewN ?_ _ | refine blk_drew ?_ | refine blk_alloc ?_ _)); exact BK5.out); (case hi => rw [cB_size, pad16_length]; kernel_rfl); (case hd => rw [cB_size, pad16_length]; rfl); (case h1 => exact cB_one _); intro wr_ hbk hgr; have n0_ := Aside0.mk (below_grown1 (by repeat (first | (with_reducible first | exact HB.out | apply below_alloc | apply pw_below_drewN | apply below_drew1) | exact HB.out)) hgr GE5.out); have n1_ := Aside0.mk (blk_grown1 (g' := g4) (ob := .cells #[.int .i64 0, .slice none 0 0] 26 (0, 0)) (by (with_reducible repeat (first | refine blk_drewN ?_ _ | refine blk_drew ?_ | refine blk_alloc ?_ _)); exact BK4.out) hgr (blk_ne (by (with_reducible repeat (first | refine blk_drewN ?_ _ | refine blk_drew ?_ | refine blk_alloc ?_ _)); exact BK4.out) (by (with_reducible repeat (first | refine blk_drewN ?_ _ | refine blk_drew ?_ | refine blk_alloc ?_ _)); exact BK5.out) (by decide))); have n2_ := Aside0.mk hbk; clear HB BK4 BK5; have HB := n0_; have BK4 := n1_; have BK5 := n2_; clear n0_ n1_ n2_; clear hbk hgr))
  refine' leaf_cut2 (A := fun gK g7 wz => Below wr_.heap.size wr_ wz ∧ wz.heap[gK]? = some (.cells (cB (schedL m0)) 111 (0, 0)) ∧ wr_.heap.size ≤ gK ∧ wz.heap[g7]? = some (.cells (cB (encL (schedL m0) (pad16 m1))) 82 (0, 0)) ∧ wr_.heap.size ≤ g7) _ (fun leaf => ?main) ?leaf
  case main =>
    have hB := Aside0.mk (below_drew1 (Below.refl wr_.heap.size wr_))
    refine wp_region_held_drew (S := (fun w' => w'.rangeAt g5 0 (cB (pad16 m1)).toList ∧ Below wr_.heap.size wr_ w')) (by kernel_rfl) ⟨rangeW BK5.out hB.out, hB.out⟩ (fun hHeld => ?_)
    generalize wr_.drew = wd at hB hHeld ⊢
    refine wpAnyH_take (i := 0) (v := .slice A0 m0.length c0) rfl (by kernel_rfl) (by kernel_rfl) (by kernel_rfl) (fun _ _ _ h => h) (Or.inl ⟨by rfl, fun w hw => by go_simp⟩) hHeld ?_
    try simp only [Act.put, List.setIfInBounds_toArray, List.set_cons_zero, List.set_cons_succ]
    refine wpAnyH_take (i := 2) rfl (by kernel_rfl) (by kernel_rfl) (by kernel_rfl) (fun _ _ _ h => h) (yieldsIf_load_mid (by rfl) 82 _ rfl g5 0 rfl (cB (pad16 m1)).toList _ (fun w h => h.1) Try.underlying82 rfl (by rw [Array.length_toList, cB_size, pad16_length]; kernel_rfl)) hHeld ?_
    try simp only [Act.put, List.setIfInBounds_toArray, List.set_cons_zero, List.set_cons_succ]
    refine wpAnyH_ready (rs := [1, 4]) (by kernel_rfl) (by simp) ?_
    refine AllReadyH.cons rfl (fun K hK => ?_) ?_
    · go_simp
      go_at_call 98
      refine (impl_newCipher.calls A0 c0 m0 hm0.out _ (Kd.C_below HR0.out (below_step HB.out hB.out))).mono ?_
      rintro e wk1 ⟨gK, rfl, hgK, hZK, hbl⟩
      try go_wp2_with fail
      have HZK := Aside0.mk hZK
      have HGK := Aside0.mk (Nat.le_trans (below_size hB.out) hgK)
      clear hZK hgK
      have n0_ := Aside0.mk (below_step hB.out hbl); have hB := n0_; clear n0_;
      skip
      refine hK.out _ _ ⟨rangeW BK5.out hB.out, hB.out⟩ (fun hHeld => ?_)
      clear hK K
      try simp only [Act.put, List.setIfInBounds_toArray, List.set_cons_zero, List.set_cons_succ]
      refine wpAnyH_ready (rs := [3, 4]) (by kernel_rfl) (by simp) ?_
      refine AllReadyH.cons rfl (fun K hK => ?_) ?_
      · go_simp
        go_at_call 99
        refine (impl_cipher_encrypt.calls gK (schedL m0) (pad16 m1) (schedL_length m0 hm0.out) (pad16_length m1) _ HZK.out).mono ?_
        rintro e wk2 ⟨rfl, hbl⟩
        try go_wp2_with fail
        have n0_ := Aside0.mk (below_step hB.out hbl); have n1_ := Aside0.mk (blk_below (g := gK) (o := .cells (cB (schedL m0)) 111 (0, 0)) HZK.out hbl); have hB := n0_; have HZK := n1_; clear n0_ n1_;
        skip
        refine hK.out _ _ ⟨rangeW BK5.out hB.out, hB.out⟩ (fun hHeld => ?_)
        clear hK K
        try simp only [Act.put, List.setIfInBounds_toArray, List.set_cons_zero, List.set_cons_succ]
        refine wpAnyH_ready (rs := [4]) (by kernel_rfl) (by simp) ?_
        refine AllReadyH.cons rfl (fun K hK => ?_) ?_
        · go_simp
          have n0_ := Aside0.mk (below_alloc hB.out (.cells #[.int .u8 0, .int .u8 0, .int .u8 0, .int .u8 0, .int .u8 0, .int .u8 0, .int .u8 0, .int .u8 0, .int .u8 0, .int .u8 0, .int .u8 0, .int .u8 0, .int .u8 0, .int .u8 0, .int .u8 0, .int .u8 0] 82))
          have n1_ : Aside0 ((wk2.alloc (.cells #[.int .u8 0, .int .u8 0, .int .u8 0, .int .u8 0, .int .u8 0, .int .u8 0, .int .u8 0, .int .u8 0, .int .u8 0, .int .u8 0, .int .u8 0, .int .u8 0, .int .u8 0, .int .u8 0, .int .u8 0, .int .u8 0] 82)).heap[wk2.heap.size]? = some (.cells #[.int .u8 0, .int .u8 0, .int .u8 0, .int .u8 0, .int .u8 0, .int .u8 0, .int .u8 0, .int .u8 0, .int .u8 0, .int .u8 0, .int .u8 0, .int .u8 0, .int .u8 0, .int .u8 0, .int .u8 0, .int .u8 0] 82 (0, 0))) := ⟨by simpa using heap_alloc_new wk2 (.cells #[.int .u8 0, .int .u8 0, .int .u8 0, .int .u8 0, .int .u8 0, .int .u8 0, .int .u8 0, .int .u8 0, .int .u8 0, .int .u8 0, .int .u8 0, .int .u8 0, .int .u8 0, .int .u8 0, .int .u8 0, .int .u8 0] 82)⟩
          have n2_ := Aside0.mk (below_size hB.out)
          have mK_ := Aside0.mk (blk_alloc HZK.out (.cells #[.int .u8 0, .int .u8 0, .int .u8 0, .int .u8 0, .int .u8 0, .int .u8 0, .int .u8 0, .int .u8 0, .int .u8 0, .int .u8 0, .int .u8 0, .int .u8 0, .int .u8 0, .int .u8 0, .int .u8 0, .int .u8 0] 82))
          clear hB hHeld HZK
          generalize wk2.heap.size = g7 at n1_ n2_ ⊢
          generalize (wk2.alloc (.cells #[.int .u8 0, .int .u8 0, .int .u8 0, .int .u8 0, .int .u8 0, .int .u8 0, .int .u8 0, .int .u8 0, .int .u8 0, .int .u8 0, .int .u8 0, .int .u8 0, .int .u8 0, .int .u8 0, .int .u8 0, .int .u8 0] 82)) = wk3 at n0_ n1_ mK_ ⊢
          have hB := n0_; have HZ7 := n1_; have HG7 := n2_; have HZK := mK_; clear n0_ n1_ n2_ mK_
          refine hK.out _ _ ⟨rangeW BK5.out hB.out, hB.out⟩ (fun hHeld => ?_)
          clear hK K
          try simp only [Act.put, List.setIfInBounds_toArray, List.set_cons_zero, List.set_cons_succ]
          refine wpAnyH_ready (rs := [5]) (by kernel_rfl) (by simp) ?_
          refine AllReadyH.cons rfl (fun K hK => ?_) ?_
          · rw [if_pos (by rfl)]
            refine wp_store_row 82 (.tmp 7) (.tmp 24) rfl g7 (cB (encL (schedL m0) (pad16 m1))) rfl rfl 82 #[.int .u8 0, .int .u8 0, .int .u8 0, .int .u8 0, .int .u8 0, .int .u8 0, .int .u8 0, .int .u8 0, .int .u8 0, .int .u8 0, .int .u8 0, .int .u8 0, .int .u8 0, .int .u8 0, .int .u8 0, .int .u8 0] HZ7.out (by rw [cB_size, encL_length]; kernel_rfl) (by rw [cB_size, encL_length]; rfl) (by exact cB_one _) ?_
            have n0_ := Aside0.mk (below_grown1 hB.out (grown_setRow wk3 g7 (cB (encL (schedL m0) (pad16 m1)))) HG7.out)
            have n1_ := Aside0.mk (setRow_heap wk3 g7 _ (cB (encL (schedL m0) (pad16 m1))) 82 (0, 0) HZ7.out)
            have mK_ := Aside0.mk (blk_grown1 (g' := gK) (ob := .cells (cB (schedL m0)) 111 (0, 0)) HZK.out (grown_setRow wk3 g7 (cB (encL (schedL m0) (pad16 m1)))) (blk_ne HZK.out HZ7.out (by decide)))
            clear hB hHeld HZ7 HZK
            generalize wk3.setRow g7 (cB (encL (schedL m0) (pad16 m1))) = wk4 at n0_ n1_ mK_ ⊢
            have hB := n0_; have HZ7 := n1_; have HZK := mK_; clear n0_ n1_ mK_
            refine hK.out _ _ ⟨rangeW BK5.out hB.out, hB.out⟩ (fun hHeld => ?_)
            clear hK K
            try simp only [Act.put, List.setIfInBounds_toArray, List.set_cons_zero, List.set_cons_succ]
            refine wpAnyH_done (by kernel_rfl) ?_ _
            exact leaf gK g7 wk4 ⟨hB.out, HZK.out, HGK.out, HZ7.out, HG7.out⟩
          exact AllReadyH.nil
        exact AllReadyH.nil
      refine AllReadyH.cons rfl (fun K hK => ?_) ?_
      · go_simp
        have n0_ := Aside0.mk (below_alloc hB.out (.cells #[.int .u8 0, .int .u8 0, .int .u8 0, .int .u8 0, .int .u8 0, .int .u8 0, .int .u8 0, .int .u8 0, .int .u8 0, .int .u8 0, .int .u8 0, .int .u8 0, .int .u8 0, .int .u8 0, .int .u8 0, .int .u8 0] 82))
        have n1_ : Aside0 ((wk1.alloc (.cells #[.int .u8 0, .int .u8 0, .int .u8 0, .int .u8 0, .int .u8 0, .int .u8 0, .int .u8 0, .int .u8 0, .int .u8 0, .int .u8 0, .int .u8 0, .int .u8 0, .int .u8 0, .int .u8 0, .int .u8 0, .int .u8 0] 82)).heap[wk1.heap.size]? = some (.cells #[.int .u8 0, .int .u8 0, .int .u8 0, .int .u8 0, .int .u8 0, .int .u8 0, .int .u8 0, .int .u8 0, .int .u8 0, .int .u8 0, .int .u8 0, .int .u8 0, .int .u8 0, .int .u8 0, .int .u8 0, .int .u8 0] 82 (0, 0))) := ⟨by simpa using heap_alloc_new wk1 (.cells #[.int .u8 0, .int .u8 0, .int .u8 0, .int .u8 0, .int .u8 0, .int .u8 0, .int .u8 0, .int .u8 0, .int .u8 0, .int .u8 0, .int .u8 0, .int .u8 0, .int .u8 0, .int .u8 0, .int .u8 0, .int .u8 0] 82)⟩
        have n2_ := Aside0.mk (below_size hB.out)
        have mK_ := Aside0.mk (blk_alloc HZK.out (.cells #[.int .u8 0, .int .u8 0, .int .u8 0, .int .u8 0, .int .u8 0, .int .u8 0, .int .u8 0, .int .u8 0, .int .u8 0, .int .u8 0, .int .u8 0, .int .u8 0, .int .u8 0, .int .u8 0, .int .u8 0, .int .u8 0] 82))
        clear hB hHeld HZK
        generalize wk1.heap.size = g7 at n1_ n2_ ⊢
        generalize (wk1.alloc (.cells #[.int .u8 0, .int .u8 0, .int .u8 0, .int .u8 0, .int .u8 0, .int .u8 0, .int .u8 0, .int .u8 0, .int .u8 0, .int .u8 0, .int .u8 0, .int .u8 0, .int .u8 0, .int .u8 0, .int .u8 0, .int .u8 0] 82)) = wk5 at n0_ n1_ mK_ ⊢
        have hB := n0_; have HZ7 := n1_; have HG7 := n2_; have HZK := mK_; clear n0_ n1_ n2_ mK_
        refine hK.out _ _ ⟨rangeW BK5.out hB.out, hB.out⟩ (fun hHeld => ?_)
        clear hK K
        try simp only [Act.put, List.setIfInBounds_toArray, List.set_cons_zero, List.set_cons_succ]
        refine wpAnyH_ready (rs := [3]) (by kernel_rfl) (by simp) ?_
        refine AllReadyH.cons rfl (fun K hK => ?_) ?_
        · go_simp
          go_at_call 99
          refine (impl_cipher_encrypt.calls gK (schedL m0) (pad16 m1) (schedL_length m0 hm0.out) (pad16_length m1) _ HZK.out).mono ?_
          rintro e wk6 ⟨rfl, hbl⟩
          try go_wp2_with fail
          have n0_ := Aside0.mk (below_step hB.out hbl); have n1_ := Aside0.mk (blk_below (g := gK) (o := .cells (cB (schedL m0)) 111 (0, 0)) HZK.out hbl); have n2_ := Aside0.mk (blk_below (g := g7) (o := .cells #[.int .u8 0, .int .u8 0, .int .u8 0, .int .u8 0, .int .u8 0, .int .u8 0, .int .u8 0, .int .u8 0, .int .u8 0, .int .u8 0, .int .u8 0, .int .u8 0, .int .u8 0, .int .u8 0, .int .u8 0, .int .u8 0] 82 (0, 0)) HZ7.out hbl); have hB := n0_; have HZK := n1_; have HZ7 := n2_; clear n0_ n1_ n2_;
          skip
          refine hK.out _ _ ⟨rangeW BK5.out hB.out, hB.out⟩ (fun hHeld => ?_)
          clear hK K
          try simp only [Act.put, List.setIfInBounds_toArray, List.set_cons_zero, List.set_cons_succ]
          refine wpAnyH_ready (rs := [5]) (by kernel_rfl) (by simp) ?_
          refine AllReadyH.cons rfl (fun K hK => ?_) ?_
          · rw [if_pos (by rfl)]
            refine wp_store_row 82 (.tmp 7) (.tmp 24) rfl g7 (cB (encL (schedL m0) (pad16 m1))) rfl rfl 82 #[.int .u8 0, .int .u8 0, .int .u8 0, .int .u8 0, .int .u8 0, .int .u8 0, .int .u8 0, .int .u8 0, .int .u8 0, .int .u8 0, .int .u8 0, .int .u8 0, .int .u8 0, .int .u8 0, .int .u8 0, .int .u8 0] HZ7.out (by rw [cB_size, encL_length]; kernel_rfl) (by rw [cB_size, encL_length]; rfl) (by exact cB_one _) ?_
            have n0_ := Aside0.mk (below_grown1 hB.out (grown_setRow wk6 g7 (cB (encL (schedL m0) (pad16 m1)))) HG7.out)
            have n1_ := Aside0.mk (setRow_heap wk6 g7 _ (cB (encL (schedL m0) (pad16 m1))) 82 (0, 0) HZ7.out)
            have mK_ := Aside0.mk (blk_grown1 (g' := gK) (ob := .cells (cB (schedL m0)) 111 (0, 0)) HZK.out (grown_setRow wk6 g7 (cB (encL (schedL m0) (pad16 m1)))) (blk_ne HZK.out HZ7.out (by decide)))
            clear hB hHeld HZ7 HZK
            generalize wk6.setRow g7 (cB (encL (schedL m0) (pad16 m1))) = wk7 at n0_ n1_ mK_ ⊢
            have hB := n0_; have HZ7 := n1_; have HZK := mK_; clear n0_ n1_ mK_
            refine hK.out _ _ ⟨rangeW BK5.out hB.out, hB.out⟩ (fun hHeld => ?_)
            clear hK K
            try simp only [Act.put, List.setIfInBounds_toArray, List.set_cons_zero, List.set_cons_succ]
            refine wpAnyH_done (by kernel_rfl) ?_ _
            exact leaf gK g7 wk7 ⟨hB.out, HZK.out, HGK.out, HZ7.out, HG7.out⟩
          exact AllReadyH.nil
        exact AllReadyH.nil
      exact AllReadyH.nil
    refine AllReadyH.cons rfl (fun K hK => ?_) ?_
    · go_simp
      have n0_ := Aside0.mk (below_alloc hB.out (.cells #[.int .u8 0, .int .u8 0, .int .u8 0, .int .u8 0, .int .u8 0, .int .u8 0, .int .u8 0, .int .u8 0, .int .u8 0, .int .u8 0, .int .u8 0, .int .u8 0, .int .u8 0, .int .u8 0, .int .u8 0, .int .u8 0] 82))
      have n1_ : Aside0 ((wd.alloc (.cells #[.int .u8 0, .int .u8 0, .int .u8 0, .int .u8 0, .int .u8 0, .int .u8 0, .int .u8 0, .int .u8 0, .int .u8 0, .int .u8 0, .int .u8 0, .int .u8 0, .int .u8 0, .int .u8 0, .int .u8 0, .int .u8 0] 82)).heap[wd.heap.size]? = some (.cells #[.int .u8 0, .int .u8 0, .int .u8 0, .int .u8 0, .int .u8 0, .int .u8 0, .int .u8 0, .int .u8 0, .int .u8 0, .int .u8 0, .int .u8 0, .int .u8 0, .int .u8 0, .int .u8 0, .int .u8 0, .int .u8 0] 82 (0, 0))) := ⟨by simpa using heap_alloc_new wd (.cells #[.int .u8 0, .int .u8 0, .int .u8 0, .int .u8 0, .int .u8 0, .int .u8 0, .int .u8 0, .int .u8 0, .int .u8 0, .int .u8 0, .int .u8 0, .int .u8 0, .int .u8 0, .int .u8 0, .int .u8 0, .int .u8 0] 82)⟩
      have n2_ := Aside0.mk (below_size hB.out)
      clear hB hHeld 
      generalize wd.heap.size = g7 at n1_ n2_ ⊢
      generalize (wd.alloc (.cells #[.int .u8 0, .int .u8 0, .int .u8 0, .int .u8 0, .int .u8 0, .int .u8 0, .int .u8 0, .int .u8 0, .int .u8 0, .int .u8 0, .int .u8 0, .int .u8 0, .int .u8 0, .int .u8 0, .int .u8 0, .int .u8 0] 82)) = wk8 at n0_ n1_  ⊢
      have hB := n0_; have HZ7 := n1_; have HG7 := n2_;  clear n0_ n1_ n2_ 
      refine hK.out _ _ ⟨rangeW BK5.out hB.out, hB.out⟩ (fun hHeld => ?_)
      clear hK K
      try simp only [Act.put, List.setIfInBounds_toArray, List.set_cons_zero, List.set_cons_succ]
      refine wpAnyH_ready (rs := [1]) (by kernel_rfl) (by simp) ?_
      refine AllReadyH.cons rfl (fun K hK => ?_) ?_
      · go_simp
        go_at_call 98
        refine (impl_newCipher.calls A0 c0 m0 hm0.out _ (Kd.C_below HR0.out (below_step HB.out hB.out))).mono ?_
        rintro e wk9 ⟨gK, rfl, hgK, hZK, hbl⟩
        try go_wp2_with fail
        have HZK := Aside0.mk hZK
        have HGK := Aside0.mk (Nat.le_trans (below_size hB.out) hgK)
        clear hZK hgK
        have n0_ := Aside0.mk (below_step hB.out hbl); have n1_ := Aside0.mk (blk_below (g := g7) (o := .cells #[.int .u8 0, .int .u8 0, .int .u8 0, .int .u8 0, .int .u8 0, .int .u8 0, .int .u8 0, .int .u8 0, .int .u8 0, .int .u8 0, .int .u8 0, .int .u8 0, .int .u8 0, .int .u8 0, .int .u8 0, .int .u8 0] 82 (0, 0)) HZ7.out hbl); have hB := n0_; have HZ7 := n1_; clear n0_ n1_;
        skip
        refine hK.out _ _ ⟨rangeW BK5.out hB.out, hB.out⟩ (fun hHeld => ?_)
        clear hK K
        try simp only [Act.put, List.setIfInBounds_toArray, List.set_cons_zero, List.set_cons_succ]
        refine wpAnyH_ready (rs := [3]) (by kernel_rfl) (by simp) ?_
        refine AllReadyH.cons rfl (fun K hK => ?_) ?_
        · go_simp
          go_at_call 99
          refine (impl_cipher_encrypt.calls gK (schedL m0) (pad16 m1) (schedL_length m0 hm0.out) (pad16_length m1) _ HZK.out).mono ?_
          rintro e wk10 ⟨rfl, hbl⟩
          try go_wp2_with fail
          have n0_ := Aside0.mk (below_step hB.out hbl); have n1_ := Aside0.mk (blk_below (g := g7) (o := .cells #[.int .u8 0, .int .u8 0, .int .u8 0, .int .u8 0, .int .u8 0, .int .u8 0, .int .u8 0, .int .u8 0, .int .u8 0, .int .u8 0, .int .u8 0, .int .u8 0, .int .u8 0, .int .u8 0, .int .u8 0, .int .u8 0] 82 (0, 0)) HZ7.out hbl); have n2_ := Aside0.mk (blk_below (g := gK) (o := .cells (cB (schedL m0)) 111 (0, 0)) HZK.out hbl); have hB := n0_; have HZ7 := n1_; have HZK := n2_; clear n0_ n1_ n2_;
          skip
          refine hK.out _ _ ⟨rangeW BK5.out hB.out, hB.out⟩ (fun hHeld => ?_)
          clear hK K
          try simp only [Act.put, List.setIfInBounds_toArray, List.set_cons_zero, List.set_cons_succ]
          refine wpAnyH_ready (rs := [5]) (by kernel_rfl) (by simp) ?_
          refine AllReadyH.cons rfl (fun K hK => ?_) ?_
          · rw [if_pos (by rfl)]
            refine wp_store_row 82 (.tmp 7) (.tmp 24) rfl g7 (cB (encL (schedL m0) (pad16 m1))) rfl rfl 82 #[.int .u8 0, .int .u8 0, .int .u8 0, .int .u8 0, .int .u8 0, .int .u8 0, .int .u8 0, .int .u8 0, .int .u8 0, .int .u8 0, .int .u8 0, .int .u8 0, .int .u8 0, .int .u8 0, .int .u8 0, .int .u8 0] HZ7.out (by rw [cB_size, encL_length]; kernel_rfl) (by rw [cB_size, encL_length]; rfl) (by exact cB_one _) ?_
            have n0_ := Aside0.mk (below_grown1 hB.out (grown_setRow wk10 g7 (cB (encL (schedL m0) (pad16 m1)))) HG7.out)
            have n1_ := Aside0.mk (setRow_heap wk10 g7 _ (cB (encL (schedL m0) (pad16 m1))) 82 (0, 0) HZ7.out)
            have mK_ := Aside0.mk (blk_grown1 (g' := gK) (ob := .cells (cB (schedL m0)) 111 (0, 0)) HZK.out (grown_setRow wk10 g7 (cB (encL (schedL m0) (pad16 m1)))) (blk_ne HZK.out HZ7.out (by decide)))
            clear hB hHeld HZ7 HZK
            generalize wk10.setRow g7 (cB (encL (schedL m0) (pad16 m1))) = wk11 at n0_ n1_ mK_ ⊢
            have hB := n0_; have HZ7 := n1_; have HZK := mK_; clear n0_ n1_ mK_
            refine hK.out _ _ ⟨rangeW BK5.out hB.out, hB.out⟩ (fun hHeld => ?_)
            clear hK K
            try simp only [Act.put, List.setIfInBounds_toArray, List.set_cons_zero, List.set_cons_succ]
            refine wpAnyH_done (by kernel_rfl) ?_ _
            exact leaf gK g7 wk11 ⟨hB.out, HZK.out, HGK.out, HZ7.out, HG7.out⟩
          exact AllReadyH.nil
        exact AllReadyH.nil
      exact AllReadyH.nil
    exact AllReadyH.nil
  rintro gK g7 wz ⟨hb, hzK, hgK, hz7, hg7⟩
  have n0_ := Aside0.mk (below_step (by repeat (first | (with_reducible first | exact HB.out | apply below_alloc | apply pw_below_drewN | apply below_drew1) | exact HB.out)) hb); have n1_ := Aside0.mk (blk_below (g := g4) (o := .cells #[.int .i64 0, .slice none 0 0] 26 (0, 0)) (by (with_reducible repeat (first | refine blk_drewN ?_ _ | refine blk_drew ?_ | refine blk_alloc ?_ _)); exact BK4.out) hb); have n2_ := Aside0.mk (blk_below (g := g5) (o := .cells (cB (pad16 m1)) 82 (0, 0)) (by (with_reducible repeat (first | refine blk_drewN ?_ _ | refine blk_drew ?_ | refine blk_alloc ?_ _)); exact BK5.out) hb); have n3_ := Aside0.mk hzK; have n4_ := Aside0.mk hz7; have n5_ := Aside0.mk (Nat.le_trans (below_size HB.out) hgK); have n6_ := Aside0.mk (Nat.le_trans (below_size HB.out) hg7); clear HB BK4 BK5; have HB := n0_; have BK4 := n1_; have BK5 := n2_; have BKK := n3_; have BK7 := n4_; have GEK := n5_; have GE7 := n6_; clear n0_ n1_ n2_ n3_ n4_ n5_ n6_;
  clear hb hzK hgK hz7 hg7
  go_wp2_with (first
      | ((with_reducible refine gate_store (t := 26) (p := 4) rfl ?_); refine row_event ?hg (ty := 26) (p := 4) (y := ?yo_280) ?ho ?hn (g := g4) (old := #[.int .i64 0, .slice none 0 0]) (e := 26) (cells := #[.int .i64 0, .slice (some ⟨g7, 0, none⟩) 16 16]) ?hx ?hy ?hk ?hi ?hd ?h1 ?_; (case ho => rfl); (case hg => rfl); (case hn => rfl); (case hx => rfl); (case hy => rfl); (case hk => (with_reducible repeat (first | refine blk_drewN ?_ _ | refine blk_drew ?_ | refine blk_alloc ?_ _)); exact BK4.out); (case hi => kernel_rfl); (case hd => rfl); (case h1 => simp [Value.oneCell']); intro wr_ hbk hgr; have n0_ := Aside0.mk (below_grown1 (by repeat (first | (with_reducible first | exact HB.out | apply below_alloc | apply pw_below_drewN | apply below_drew1) | exact HB.out)) hgr GE4.out); have n1_ := Aside0.mk (blk_grown1 (g' := g5) (ob := .cells (cB (pad16 m1)) 82 (0, 0)) (by (with_reducible repeat (first | refine blk_drewN ?_ _ | refine blk_drew ?_ | refine blk_alloc ?_ _)); exact BK5.out) hgr (blk_ne (by (with_reducible repeat (first | refine blk_drewN ?_ _ | refine blk_drew ?_ | refine blk_alloc ?_ _)); exact BK5.out) (by (with_reducible repeat (first | refine blk_drewN ?_ _ | refine blk_drew ?_ | refine blk_alloc ?_ _)); exact BK4.out) (by decide))); have n2_ := Aside0.mk (blk_grown1 (g' := g7) (ob := .cells (cB (encL (schedL m0) (pad16 m1))) 82 (0, 0)) (by (with_reducible repeat (first | refine blk_drewN ?_ _ | refine blk_drew ?_ | refine blk_alloc ?_ _)); exact BK7.out) hgr (blk_ne (by (with_reducible repeat (first | refine blk_drewN ?_ _ | refine blk_drew ?_ | refine blk_alloc ?_ _)); exact BK7.out) (by (with_reducible repeat (first | refine blk_drewN ?_ _ | refine blk_drew ?_ | refine blk_alloc ?_ _)); exact BK4.out) (by decide))); have n3_ := Aside0.mk (blk_grown1 (g' := gK) (ob := .cells (cB (schedL m0)) 111 (0, 0)) (by (with_reducible repeat (first | refine blk_drewN ?_ _ | refine blk_drew ?_ | refine blk_alloc ?_ _)); exact BKK.out) hgr (blk_ne (by (with_reducible repeat (first | refine blk_drewN ?_ _ | refine blk_drew ?_ | refine blk_alloc ?_ _)); exact BKK.out) (by (with_reducible repeat (first | refine blk_drewN ?_ _ | refine blk_drew ?_ | refine blk_alloc ?_ _)); exact BK4.out) (by decide))); have n4_ := Aside0.mk hbk; clear HB BK5 BK7 BKK BK4; have HB := n0_; have BK5 := n1_; have BK7 := n2_; have BKK := n3_; have BK4 := n4_; clear n0_ n1_ n2_ n3_ n4_; clear hbk hgr))
  refine bodyPost_ret (results_cell_row rfl _ _ g4 26 #[.int .i64 0, .slice (some ⟨g7, 0, none⟩) 16 16] (0, 0) _ rfl (by (with_reducible repeat (first | refine blk_drewN ?_ _ | refine blk_drew ?_ | refine blk_alloc ?_ _)); exact BK4.out) Try.underlying26 rfl (by kernel_rfl)) rfl ?_
  exact ⟨_, rfl, by rw [← congrArg (encL (schedL m0)) hm1.out]; exact R_block (by (with_reducible repeat (first | refine blk_drewN ?_ _ | refine blk_drew ?_ | refine blk_alloc ?_ _)); exact BK7.out) GE7.out (encL_length _ _) (by omega), HB.out⟩
set_option maxHeartbeats 4000000 in
set_option maxRecDepth 100000 in
theorem impl_EncryptBlock.calls (A0 : Option Addr) (c0 : Nat) (l0 : List Int) (A1 : Option Addr) (c1 : Nat) (l1 : List Int) (r1 : Int) (r2 : List Int) (w : World) (hr0 : Kd.C (Kd.int .u8) w A0 l0.length l0) (hc0 : l0.length ≤ c0) (hr1 : Kd.C (Kd.int .u8) w A1 l1.length l1) (hc1 : l1.length ≤ c1) (h : impl_EncryptBlock.f l0 l1 = some (r1, r2)) :
    Calls Try.prog 40 #[.slice A0 l0.length c0, .slice A1 l1.length c1] w fun e w' => ∃ v1_ : Value, e = .returned (.agg #[.int .i64 r1, v1_]) ∧ Kd.R (Kd.int .u8) 82 w' w.heap.size (fun _ => True) v1_ r2 ∧ Below w.heap.size w w' := by
  unfold impl_EncryptBlock.f at h
  by_cases hb : isBs l0 = true ∧ isBs l1 = true
  · rw [if_pos hb, Option.some.injEq] at h
    obtain ⟨m0, rfl⟩ : ∃ m, l0 = bL m := ⟨_, isBs_bL hb.1⟩
    obtain ⟨m1, rfl⟩ : ∃ m, l1 = bL m := ⟨_, isBs_bL hb.2⟩
    rw [bL_length] at hr0 hr1
    rw [unB_bL, unB_bL] at h
    rw [bL_length, bL_length]
    clear hb hc0 hc1
    exact encryptBlock_here A0 c0 m0 A1 c1 m1 r1 r2 w hr0 hr1 h
  · rw [if_neg hb] at h
    cases h

end Go.Proofs.Ytjfdcabgbcbdjaa.All
