-- Laid by wip/myprint.py of this repo over the kit's print (the functions' texts by the kit's program, some by hand). Not trusted: Lean checks it.
import Derived.Test.YtaibogaheidkcaaAllx0
import Derived.Test.YtaibogaheidkcaaAllx33
import Derived.Test.YtaibogaheidkcaaAllx42
import Derived.Test.YtaibogaheidkcaaAllx51
namespace Go.Proofs.Ytaibogaheidkcaa.All
open Go.RowKit Go.Proofs.YtaibogaheidkcaaW.PrintWords Go.Proofs.YtaibogaheidkcaaW.PrintLast Go.Proofs.YtaibogaheidkcaaW.PrintMore
attribute [local go_sem] max2_int min2_int max_two min_two max_three min_three max_four min_four
set_option linter.unusedVariables false
set_option linter.unusedSimpArgs false


set_option maxHeartbeats 4000000 in
set_option maxRecDepth 100000 in
theorem l5Head_here (g : Nat) (a b c : Int) (r : Bool) (q1 q2 q3 : Int) (w : World) (hb : w.heap[g]? = some (.cells #[.int .i64 a, .int .i64 b, .int .i64 c, .slice none 0 0] 48 (0, 0))) (h : spec_l5Head.f a b c ([] : List Int) = some (r, q1, q2, q3)) :
    Calls Try.prog 106 #[.pointer (some ⟨g, 0, none⟩)] w fun e w' => e = .returned (.bool r) ∧ Drawn0 w w' := by
  have hc0 : w.cell? ⟨g, 0, none⟩ = some (.int .i64 a) := by rw [blk_cell hb]; rfl
  have hc1 : w.cell? ⟨g, 1, none⟩ = some (.int .i64 b) := by rw [blk_cell hb]; rfl
  have hc2 : w.cell? ⟨g, 2, none⟩ = some (.int .i64 c) := by rw [blk_cell hb]; rfl
  clear hb
  unfold spec_l5Head.f at h
  obtain ⟨t0, h0, H⟩ := Option.bind_eq_some_iff.mp h
  clear h
  have A0 := Aside0.mk h0
  clear h0
  cases t0 with
  | false =>
    rw [if_neg (by decide)] at H
    simp only [Option.some.injEq, Prod.mk.injEq] at H
    obtain ⟨rfl, rfl, rfl, rfl⟩ := H
    go_enter Try.func106, Try.ntmps106
    go_wp2_with (first
        | (go_at_call 63; (with_reducible refine (spec_l1In.calls a 1 255 false _ A0.out).mono ?_); rintro e w' ⟨rfl, ⟨nd, rfl⟩⟩))
    go_ret
    exact ⟨rfl, ⟨_, rfl⟩⟩
  | true =>
    rw [if_pos rfl] at H
    obtain ⟨t1, h1, H⟩ := Option.bind_eq_some_iff.mp H
    have A1 := Aside0.mk h1
    clear h1
    cases t1 with
    | false =>
      rw [if_neg (by decide)] at H
      simp only [Option.some.injEq, Prod.mk.injEq] at H
      obtain ⟨rfl, rfl, rfl, rfl⟩ := H
      go_enter Try.func106, Try.ntmps106
      go_wp2_with (first
          | (go_at_call 63; (with_reducible refine (spec_l1In.calls a 1 255 true _ A0.out).mono ?_); rintro e w' ⟨rfl, ⟨nd, rfl⟩⟩)
          | (go_at_call 63; (with_reducible refine (spec_l1In.calls b 0 15 false _ A1.out).mono ?_); rintro e w' ⟨rfl, ⟨nd, rfl⟩⟩))
      go_ret
      exact ⟨rfl, ⟨_, rfl⟩⟩
    | true =>
      rw [if_pos rfl] at H
      obtain ⟨t2, h2, H⟩ := Option.bind_eq_some_iff.mp H
      have A2 := Aside0.mk h2
      clear h2
      simp only [Option.some.injEq, Prod.mk.injEq] at H
      obtain ⟨rfl, rfl, rfl, rfl⟩ := H
      go_enter Try.func106, Try.ntmps106
      go_wp2_with (first
          | (go_at_call 63; (with_reducible refine (spec_l1In.calls a 1 255 true _ A0.out).mono ?_); rintro e w' ⟨rfl, ⟨nd, rfl⟩⟩)
          | (go_at_call 63; (with_reducible refine (spec_l1In.calls b 0 15 true _ A1.out).mono ?_); rintro e w' ⟨rfl, ⟨nd, rfl⟩⟩)
          | (go_at_call 63; (with_reducible refine (spec_l1In.calls c 0 1000000000 t2 _ A2.out).mono ?_); rintro e w' ⟨rfl, ⟨nd, rfl⟩⟩))
      go_ret
      exact ⟨rfl, ⟨_, rfl⟩⟩
def spec_ReadHead.f (k : Nat) (l0 : List Int) : Option (Int × Int × Int × Int × List Int) := if (l0.length : Int) < 11 then some (2, 0, 0, 0, ([] : List Int)) else if rd l0 0 = 1 then (if rd l0 3 > 127 then some (3, 0, 0, 0, ([] : List Int)) else ((spec_l1Read.f k l0 3 8).bind fun v => ((spec_l5Head.f (wrap64 (rd l0 1)) (wrap64 (rd l0 2)) v ([] : List Int)).bind fun b => if b.1 = true then some (0, wrap64 (rd l0 1), wrap64 (rd l0 2), v, ([] : List Int)) else some (3, 0, 0, 0, ([] : List Int))))) else some (1, 0, 0, 0, ([] : List Int))
theorem spec_ReadHead.mono : ∀ a0 k, LeO (spec_ReadHead.f k a0) (spec_ReadHead.f (k + 1) a0) := by
  intro a0 k
  unfold spec_ReadHead.f
  repeat' first
      | (with_reducible exact spec_l1Read.mono _ _ _ _)
      | (with_reducible exact LeO.refl _)
      | (with_reducible refine LeO.ite ?_ ?_)
      | (with_reducible refine LeO.bind ?_ (fun _ => ?_))
set_option maxHeartbeats 4000000 in
set_option maxRecDepth 100000 in
theorem spec_ReadHead.calls (k : Nat) (A0 : Option Addr) (c0 : Nat) (l0 : List Int) (r1 : Int) (r2 : Int) (r3 : Int) (r4 : Int) (r5 : List Int) (w : World) (hr0 : Kd.C (Kd.int .u8) w A0 l0.length l0) (hc0 : l0.length ≤ c0) (h : spec_ReadHead.f k l0 = some (r1, r2, r3, r4, r5)) :
    Calls Try.prog 58 #[.slice A0 l0.length c0] w fun e w' => ∃ v4_ : Value, e = .returned (.agg #[.int .i64 r1, .int .i64 r2, .int .i64 r3, .int .i64 r4, v4_]) ∧ Kd.R (Kd.int .u8) 5 w' w.heap.size (fun _ => True) v4_ r5 ∧ Below w.heap.size w w' := by
  have HR0 := Aside0.mk hr0
  have HC0 := Aside0.mk hc0
  clear hr0 hc0
  have HB := Aside0.mk (Below.refl w.heap.size w)
  unfold spec_ReadHead.f at h
  by_cases c1 : (l0.length : Int) < 11
  · rw [if_pos c1] at h
    simp only [Option.some.injEq, Prod.mk.injEq] at h
    obtain ⟨e1, e2, e3, e4, e5⟩ := h
    subst e1 e2 e3 e4 e5
    have hd1 : decide ((l0.length : Int) < 11) = true := decide_eq_true c1
    go_enter Try.func58, Try.ntmps58
    go_wp2_with (first
        | ((with_reducible refine gate_dst (N := 2) rfl ?_); refine box_event ?hg (N := 2) ?hd (cs := #[.int .i64 0, .int .i64 0, .int .i64 0, .int .i64 0, .slice none 0 0]) (t := 50) ?hr ?_; (case hd => rfl); (case hg => rfl); (case hr => first | (go_simp; done) | (go_simp; rfl)); intro g2 hg w2 hbox hb; have n0_ := Aside0.mk (below_step (by repeat (first | (with_reducible first | exact HB.out | apply below_alloc | apply pw_below_drewN | apply below_drew1) | exact HB.out)) hb); have n1_ := Aside0.mk hbox; have n2_ := Aside0.mk (by rw [hg]; exact below_size (by repeat (first | (with_reducible first | exact HB.out | apply below_alloc | apply pw_below_drewN | apply below_drew1) | exact HB.out)) : w.heap.size ≤ g2); clear HB; have HB := n0_; have BK2 := n1_; have GE2 := n2_; clear n0_ n1_ n2_; clear hb hbox hg)
        | ((with_reducible refine gate_store (t := 50) (p := 2) rfl ?_); refine row_event ?hg (ty := 50) (p := 2) (y := ?yo_130) ?ho ?hn (g := g2) (old := #[.int .i64 0, .int .i64 0, .int .i64 0, .int .i64 0, .slice none 0 0]) (e := 50) (cells := #[.int .i64 2, .int .i64 0, .int .i64 0, .int .i64 0, .slice none 0 0]) ?hx ?hy ?hk ?hi ?hd ?h1 ?_; (case ho => rfl); (case hg => rfl); (case hn => rfl); (case hx => rfl); (case hy => rfl); (case hk => (with_reducible repeat (first | refine blk_drewN ?_ _ | refine blk_drew ?_ | refine blk_alloc ?_ _)); exact BK2.out); (case hi => kernel_rfl); (case hd => rfl); (case h1 => simp [Value.oneCell']); intro wr_ hbk hgr; have n0_ := Aside0.mk (below_grown1 (by repeat (first | (with_reducible first | exact HB.out | apply below_alloc | apply pw_below_drewN | apply below_drew1) | exact HB.out)) hgr GE2.out); have n1_ := Aside0.mk hbk; clear HB BK2; have HB := n0_; have BK2 := n1_; clear n0_ n1_; clear hbk hgr))
    refine bodyPost_ret (results_cell_row rfl _ _ g2 50 #[.int .i64 2, .int .i64 0, .int .i64 0, .int .i64 0, .slice none 0 0] (0, 0) _ rfl (by (with_reducible repeat (first | refine blk_drewN ?_ _ | refine blk_drew ?_ | refine blk_alloc ?_ _)); exact BK2.out) Try.underlying50 rfl (by kernel_rfl)) rfl ?_
    exact ⟨_, rfl, Kd.R_nil _ _ _ _ _, HB.out⟩
  rw [if_neg c1] at h
  have hd1 : decide ((l0.length : Int) < 11) = false := decide_eq_false c1
  obtain ⟨ad, e0, hx0⟩ := Kd.at_int HR0.out 0 (by omega) (by omega)
  subst e0
  obtain ⟨ad1, e1, hx1⟩ := Kd.at_int HR0.out 1 (by omega) (by omega)
  obtain rfl : ad = ad1 := by injection e1
  obtain ⟨ad2, e2, hx2⟩ := Kd.at_int HR0.out 2 (by omega) (by omega)
  obtain rfl : ad = ad2 := by injection e2
  obtain ⟨ad3, e3, hx3⟩ := Kd.at_int HR0.out 3 (by omega) (by omega)
  obtain rfl : ad = ad3 := by injection e3
  clear e1 e2 e3
  simp only [show (0 : Int).toNat = 0 from rfl, show (1 : Int).toNat = 1 from rfl, show (2 : Int).toNat = 2 from rfl, show (3 : Int).toNat = 3 from rfl, Nat.reduceMul, Nat.reduceEqDiff, Go.Addr.add, ↓reduceIte] at hx0 hx1 hx2 hx3
  have b1 : (1 : Int) < (l0.length : Int) := by omega
  have b2 : (2 : Int) < (l0.length : Int) := by omega
  have b3 : (3 : Int) < (l0.length : Int) := by omega
  have m0 : (0 < l0.length) = True := eq_true (by omega)
  have m1 : (1 < l0.length) = True := eq_true (by omega)
  have m2 : (2 < l0.length) = True := eq_true (by omega)
  have m3 : (3 < l0.length) = True := eq_true (by omega)
  by_cases c2 : rd l0 0 = 1
  case neg =>
    rw [if_neg c2] at h
    simp only [Option.some.injEq, Prod.mk.injEq] at h
    obtain ⟨e1, e2, e3, e4, e5⟩ := h
    subst e1 e2 e3 e4 e5
    have hd2 : (rd l0 0 != 1) = true := bne_iff_ne.mpr c2
    go_enter Try.func58, Try.ntmps58
    go_wp2_with (first
        | ((with_reducible refine gate_dst (N := 2) rfl ?_); refine box_event ?hg (N := 2) ?hd (cs := #[.int .i64 0, .int .i64 0, .int .i64 0, .int .i64 0, .slice none 0 0]) (t := 50) ?hr ?_; (case hd => rfl); (case hg => rfl); (case hr => first | (go_simp; done) | (go_simp; rfl)); intro g2 hg w2 hbox hb; have n0_ := Aside0.mk (below_step (by repeat (first | (with_reducible first | exact HB.out | apply below_alloc | apply pw_below_drewN | apply below_drew1) | exact HB.out)) hb); have n1_ := Aside0.mk hbox; have n2_ := Aside0.mk (by rw [hg]; exact below_size (by repeat (first | (with_reducible first | exact HB.out | apply below_alloc | apply pw_below_drewN | apply below_drew1) | exact HB.out)) : w.heap.size ≤ g2); clear HB; have HB := n0_; have BK2 := n1_; have GE2 := n2_; clear n0_ n1_ n2_; clear hb hbox hg; have hy0 := (HB.out.cell (World.block_lt_of_cell? w _ hx0)).trans hx0)
        | ((with_reducible refine gate_store (t := 50) (p := 2) rfl ?_); refine row_event ?hg (ty := 50) (p := 2) (y := ?yo_132) ?ho ?hn (g := g2) (old := #[.int .i64 0, .int .i64 0, .int .i64 0, .int .i64 0, .slice none 0 0]) (e := 50) (cells := #[.int .i64 1, .int .i64 0, .int .i64 0, .int .i64 0, .slice none 0 0]) ?hx ?hy ?hk ?hi ?hd ?h1 ?_; (case ho => rfl); (case hg => rfl); (case hn => rfl); (case hx => rfl); (case hy => rfl); (case hk => (with_reducible repeat (first | refine blk_drewN ?_ _ | refine blk_drew ?_ | refine blk_alloc ?_ _)); exact BK2.out); (case hi => kernel_rfl); (case hd => rfl); (case h1 => simp [Value.oneCell']); intro wr_ hbk hgr; have n0_ := Aside0.mk (below_grown1 (by repeat (first | (with_reducible first | exact HB.out | apply below_alloc | apply pw_below_drewN | apply below_drew1) | exact HB.out)) hgr GE2.out); have n1_ := Aside0.mk hbk; clear HB BK2; have HB := n0_; have BK2 := n1_; clear n0_ n1_; clear hbk hgr))
    refine bodyPost_ret (results_cell_row rfl _ _ g2 50 #[.int .i64 1, .int .i64 0, .int .i64 0, .int .i64 0, .slice none 0 0] (0, 0) _ rfl (by (with_reducible repeat (first | refine blk_drewN ?_ _ | refine blk_drew ?_ | refine blk_alloc ?_ _)); exact BK2.out) Try.underlying50 rfl (by kernel_rfl)) rfl ?_
    exact ⟨_, rfl, Kd.R_nil _ _ _ _ _, HB.out⟩
  rw [if_pos c2] at h
  have hd2 : (rd l0 0 != 1) = false := by rw [c2]; rfl
  go_enter Try.func58, Try.ntmps58
  go_wp2_with (first
    | ((with_reducible refine gate_dst (N := 2) rfl ?_); refine box_event ?hg (N := 2) ?hd (cs := #[.int .i64 0, .int .i64 0, .int .i64 0, .int .i64 0, .slice none 0 0]) (t := 50) ?hr ?_; (case hd => rfl); (case hg => rfl); (case hr => first | (go_simp; done) | (go_simp; rfl)); intro g2 hg w2 hbox hb; have n0_ := Aside0.mk (below_step (by repeat (first | (with_reducible first | exact HB.out | apply below_alloc | apply pw_below_drewN | apply below_drew1) | exact HB.out)) hb); have n1_ := Aside0.mk hbox; have n2_ := Aside0.mk (by rw [hg]; exact below_size (by repeat (first | (with_reducible first | exact HB.out | apply below_alloc | apply pw_below_drewN | apply below_drew1) | exact HB.out)) : w.heap.size ≤ g2); clear HB; have HB := n0_; have BK2 := n1_; have GE2 := n2_; clear n0_ n1_ n2_; clear hb hbox hg; have hy0 := (HB.out.cell (World.block_lt_of_cell? w _ hx0)).trans hx0; have hy1 := (HB.out.cell (World.block_lt_of_cell? w _ hx1)).trans hx1; have hy2 := (HB.out.cell (World.block_lt_of_cell? w _ hx2)).trans hx2; have hy3 := (HB.out.cell (World.block_lt_of_cell? w _ hx3)).trans hx3))
  go_region_held3 (fun w' => w'.cell? ⟨ad.block, ad.off + 1, none⟩ = some (.int .u8 (rd l0 1)) ∧ w'.cell? ⟨ad.block, ad.off + 2, none⟩ = some (.int .u8 (rd l0 2))) (go_keep) (fail)
  simp only [i64_w]
  have n0_ := Aside0.mk (blk_drew (blk_alloc BK2.out (.cells #[.int .i64 (wrap64 (rd l0 1)), .int .i64 (wrap64 (rd l0 2)), .int .i64 0, .slice none 0 0] 48)))
  have n1_ : Aside0 ((w2.alloc (.cells #[.int .i64 (wrap64 (rd l0 1)), .int .i64 (wrap64 (rd l0 2)), .int .i64 0, .slice none 0 0] 48)).drew.heap[w2.heap.size]? = some (.cells #[.int .i64 (wrap64 (rd l0 1)), .int .i64 (wrap64 (rd l0 2)), .int .i64 0, .slice none 0 0] 48 (0, 0))) := ⟨blk_drew (by simpa using heap_alloc_new w2 (.cells #[.int .i64 (wrap64 (rd l0 1)), .int .i64 (wrap64 (rd l0 2)), .int .i64 0, .slice none 0 0] 48))⟩
  have n2_ := Aside0.mk (below_drew1 (below_alloc HB.out (.cells #[.int .i64 (wrap64 (rd l0 1)), .int .i64 (wrap64 (rd l0 2)), .int .i64 0, .slice none 0 0] 48)))
  have GE3 := Aside0.mk (below_size HB.out)
  clear BK2 HB hy0 hy1 hy2 hy3
  generalize w2.heap.size = g3 at n1_ GE3 ⊢
  generalize (w2.alloc (.cells #[.int .i64 (wrap64 (rd l0 1)), .int .i64 (wrap64 (rd l0 2)), .int .i64 0, .slice none 0 0] 48)).drew = w3 at n0_ n1_ n2_ ⊢
  have BK2 := n0_
  have BK3 := n1_
  have HB := n2_
  clear n0_ n1_ n2_
  have hy3 := (HB.out.cell (World.block_lt_of_cell? w _ hx3)).trans hx3
  have hs2 : w3.cell? ⟨g3, 2, none⟩ = some (.int .i64 0) := by rw [blk_cell BK3.out]; rfl
  have hsf := blk_frozen BK3.out 2
  by_cases c3 : rd l0 3 > 127
  · rw [if_pos c3] at h
    simp only [Option.some.injEq, Prod.mk.injEq] at h
    obtain ⟨e1, e2, e3, e4, e5⟩ := h
    subst e1 e2 e3 e4 e5
    have hd3 : decide (rd l0 3 > 127) = true := decide_eq_true c3
    go_wp2_with (first
        | ((with_reducible refine gate_store (t := 50) (p := 2) rfl ?_); refine row_event ?hg (ty := 50) (p := 2) (y := ?yo_133) ?ho ?hn (g := g2) (old := #[.int .i64 0, .int .i64 0, .int .i64 0, .int .i64 0, .slice none 0 0]) (e := 50) (cells := #[.int .i64 3, .int .i64 0, .int .i64 0, .int .i64 0, .slice none 0 0]) ?hx ?hy ?hk ?hi ?hd ?h1 ?_; (case ho => rfl); (case hg => rfl); (case hn => rfl); (case hx => rfl); (case hy => rfl); (case hk => (with_reducible repeat (first | refine blk_drewN ?_ _ | refine blk_drew ?_ | refine blk_alloc ?_ _)); exact BK2.out); (case hi => kernel_rfl); (case hd => rfl); (case h1 => simp [Value.oneCell']); intro wr_ hbk hgr; have n0_ := Aside0.mk (below_grown1 (by repeat (first | (with_reducible first | exact HB.out | apply below_alloc | apply pw_below_drewN | apply below_drew1) | exact HB.out)) hgr GE2.out); have n1_ := Aside0.mk (blk_grown1 (g' := g3) (ob := .cells #[.int .i64 (wrap64 (rd l0 1)), .int .i64 (wrap64 (rd l0 2)), .int .i64 0, .slice none 0 0] 48 (0, 0)) (by (with_reducible repeat (first | refine blk_drewN ?_ _ | refine blk_drew ?_ | refine blk_alloc ?_ _)); exact BK3.out) hgr (blk_ne (by (with_reducible repeat (first | refine blk_drewN ?_ _ | refine blk_drew ?_ | refine blk_alloc ?_ _)); exact BK3.out) (by (with_reducible repeat (first | refine blk_drewN ?_ _ | refine blk_drew ?_ | refine blk_alloc ?_ _)); exact BK2.out) (by decide))); have n2_ := Aside0.mk hbk; clear HB BK3 BK2; have HB := n0_; have BK3 := n1_; have BK2 := n2_; clear n0_ n1_ n2_; clear hbk hgr))
    refine bodyPost_ret (results_cell_row rfl _ _ g2 50 #[.int .i64 3, .int .i64 0, .int .i64 0, .int .i64 0, .slice none 0 0] (0, 0) _ rfl (by (with_reducible repeat (first | refine blk_drewN ?_ _ | refine blk_drew ?_ | refine blk_alloc ?_ _)); exact BK2.out) Try.underlying50 rfl (by kernel_rfl)) rfl ?_
    exact ⟨_, rfl, Kd.R_nil _ _ _ _ _, HB.out⟩
  rw [if_neg c3] at h
  have hd3 : decide (rd l0 3 > 127) = false := decide_eq_false c3
  obtain ⟨v, hv, h⟩ := Option.bind_eq_some_iff.mp h
  obtain ⟨⟨b, q1, q2, q3⟩, hh, h⟩ := Option.bind_eq_some_iff.mp h
  have hV := Aside0.mk hv
  have hH := Aside0.mk hh
  clear hv hh
  cases b with
  | false =>
    rw [if_neg (by simp)] at h
    simp only [Option.some.injEq, Prod.mk.injEq] at h
    obtain ⟨e1, e2, e3, e4, e5⟩ := h
    subst e1 e2 e3 e4 e5
    go_wp2_with (first
        | (go_at_call 110; (refine (spec_l1Read.calls k (some ad) c0 l0 3 8 v _ (by first | exact Kd.C_below HR0.out (by repeat (first | (with_reducible first | exact HB.out | apply below_alloc | apply pw_below_drewN | apply below_drew1) | exact HB.out)) | exact (Kd.C_below HR0.out HB.out)) HC0.out hV.out).mono ?_); rintro e w' ⟨rfl, ⟨nd, rfl⟩⟩)
        | ((with_reducible refine gate_store (t := 2) (p := 29) rfl ?_); refine cell_event ?hg (t := 2) (p := 29) (v := ?vo_135) ?ho ?hn (i := 2) (x := (.int .i64 v)) (cs := #[.int .i64 (wrap64 (rd l0 1)), .int .i64 (wrap64 (rd l0 2)), .int .i64 0, .slice none 0 0]) (g := g3) (e := 48) ?hk ?hr (cs' := #[.int .i64 (wrap64 (rd l0 1)), .int .i64 (wrap64 (rd l0 2)), .int .i64 v, .slice none 0 0]) ?hc ?_; (case ho => rfl); (case hg => rfl); (case hn => rfl); (case hk => (with_reducible repeat (first | refine blk_drewN ?_ _ | refine blk_drew ?_ | refine blk_alloc ?_ _)); exact BK3.out); (case hr => first | (go_simp; done) | (go_simp; rfl)); (case hc => rfl); intro wc hbk hgr; have n0_ := Aside0.mk (below_grown1 (by repeat (first | (with_reducible first | exact HB.out | apply below_alloc | apply pw_below_drewN | apply below_drew1) | exact HB.out)) hgr GE3.out); have n1_ := Aside0.mk (blk_grown1 (g' := g2) (ob := .cells #[.int .i64 0, .int .i64 0, .int .i64 0, .int .i64 0, .slice none 0 0] 50 (0, 0)) (by (with_reducible repeat (first | refine blk_drewN ?_ _ | refine blk_drew ?_ | refine blk_alloc ?_ _)); exact BK2.out) hgr (blk_ne (by (with_reducible repeat (first | refine blk_drewN ?_ _ | refine blk_drew ?_ | refine blk_alloc ?_ _)); exact BK2.out) (by (with_reducible repeat (first | refine blk_drewN ?_ _ | refine blk_drew ?_ | refine blk_alloc ?_ _)); exact BK3.out) (by decide))); have n2_ := Aside0.mk hbk; clear HB BK2 BK3; have HB := n0_; have BK2 := n1_; have BK3 := n2_; clear n0_ n1_ n2_; clear hbk hgr)
        | (go_at_call 106; (refine (l5Head_here g3 (wrap64 (rd l0 1)) (wrap64 (rd l0 2)) v false q1 q2 q3 _ (by (with_reducible repeat (first | refine blk_drewN ?_ _ | refine blk_drew ?_ | refine blk_alloc ?_ _)); exact BK3.out) hH.out).mono ?_); rintro e w' ⟨rfl, ⟨nd, rfl⟩⟩)
        | ((with_reducible refine gate_store (t := 50) (p := 2) rfl ?_); refine row_event ?hg (ty := 50) (p := 2) (y := ?yo_137) ?ho ?hn (g := g2) (old := #[.int .i64 0, .int .i64 0, .int .i64 0, .int .i64 0, .slice none 0 0]) (e := 50) (cells := #[.int .i64 3, .int .i64 0, .int .i64 0, .int .i64 0, .slice none 0 0]) ?hx ?hy ?hk ?hi ?hd ?h1 ?_; (case ho => rfl); (case hg => rfl); (case hn => rfl); (case hx => rfl); (case hy => rfl); (case hk => (with_reducible repeat (first | refine blk_drewN ?_ _ | refine blk_drew ?_ | refine blk_alloc ?_ _)); exact BK2.out); (case hi => kernel_rfl); (case hd => rfl); (case h1 => simp [Value.oneCell']); intro wr_ hbk hgr; have n0_ := Aside0.mk (below_grown1 (by repeat (first | (with_reducible first | exact HB.out | apply below_alloc | apply pw_below_drewN | apply below_drew1) | exact HB.out)) hgr GE2.out); have n1_ := Aside0.mk (blk_grown1 (g' := g3) (ob := .cells #[.int .i64 (wrap64 (rd l0 1)), .int .i64 (wrap64 (rd l0 2)), .int .i64 v, .slice none 0 0] 48 (0, 0)) (by (with_reducible repeat (first | refine blk_drewN ?_ _ | refine blk_drew ?_ | refine blk_alloc ?_ _)); exact BK3.out) hgr (blk_ne (by (with_reducible repeat (first | refine blk_drewN ?_ _ | refine blk_drew ?_ | refine blk_alloc ?_ _)); exact BK3.out) (by (with_reducible repeat (first | refine blk_drewN ?_ _ | refine blk_drew ?_ | refine blk_alloc ?_ _)); exact BK2.out) (by decide))); have n2_ := Aside0.mk hbk; clear HB BK3 BK2; have HB := n0_; have BK3 := n1_; have BK2 := n2_; clear n0_ n1_ n2_; clear hbk hgr))
    refine bodyPost_ret (results_cell_row rfl _ _ g2 50 #[.int .i64 3, .int .i64 0, .int .i64 0, .int .i64 0, .slice none 0 0] (0, 0) _ rfl (by (with_reducible repeat (first | refine blk_drewN ?_ _ | refine blk_drew ?_ | refine blk_alloc ?_ _)); exact BK2.out) Try.underlying50 rfl (by kernel_rfl)) rfl ?_
    exact ⟨_, rfl, Kd.R_nil _ _ _ _ _, HB.out⟩
  | true =>
    rw [if_pos rfl] at h
    simp only [Option.some.injEq, Prod.mk.injEq] at h
    obtain ⟨e1, e2, e3, e4, e5⟩ := h
    subst e1 e2 e3 e4 e5
    go_wp2_with (first
        | (go_at_call 110; (refine (spec_l1Read.calls k (some ad) c0 l0 3 8 v _ (by first | exact Kd.C_below HR0.out (by repeat (first | (with_reducible first | exact HB.out | apply below_alloc | apply pw_below_drewN | apply below_drew1) | exact HB.out)) | exact (Kd.C_below HR0.out HB.out)) HC0.out hV.out).mono ?_); rintro e w' ⟨rfl, ⟨nd, rfl⟩⟩)
        | ((with_reducible refine gate_store (t := 2) (p := 29) rfl ?_); refine cell_event ?hg (t := 2) (p := 29) (v := ?vo_125) ?ho ?hn (i := 2) (x := (.int .i64 v)) (cs := #[.int .i64 (wrap64 (rd l0 1)), .int .i64 (wrap64 (rd l0 2)), .int .i64 0, .slice none 0 0]) (g := g3) (e := 48) ?hk ?hr (cs' := #[.int .i64 (wrap64 (rd l0 1)), .int .i64 (wrap64 (rd l0 2)), .int .i64 v, .slice none 0 0]) ?hc ?_; (case ho => rfl); (case hg => rfl); (case hn => rfl); (case hk => (with_reducible repeat (first | refine blk_drewN ?_ _ | refine blk_drew ?_ | refine blk_alloc ?_ _)); exact BK3.out); (case hr => first | (go_simp; done) | (go_simp; rfl)); (case hc => rfl); intro wc hbk hgr; have n0_ := Aside0.mk (below_grown1 (by repeat (first | (with_reducible first | exact HB.out | apply below_alloc | apply pw_below_drewN | apply below_drew1) | exact HB.out)) hgr GE3.out); have n1_ := Aside0.mk (blk_grown1 (g' := g2) (ob := .cells #[.int .i64 0, .int .i64 0, .int .i64 0, .int .i64 0, .slice none 0 0] 50 (0, 0)) (by (with_reducible repeat (first | refine blk_drewN ?_ _ | refine blk_drew ?_ | refine blk_alloc ?_ _)); exact BK2.out) hgr (blk_ne (by (with_reducible repeat (first | refine blk_drewN ?_ _ | refine blk_drew ?_ | refine blk_alloc ?_ _)); exact BK2.out) (by (with_reducible repeat (first | refine blk_drewN ?_ _ | refine blk_drew ?_ | refine blk_alloc ?_ _)); exact BK3.out) (by decide))); have n2_ := Aside0.mk hbk; clear HB BK2 BK3; have HB := n0_; have BK2 := n1_; have BK3 := n2_; clear n0_ n1_ n2_; clear hbk hgr)
        | (go_at_call 106; (refine (l5Head_here g3 (wrap64 (rd l0 1)) (wrap64 (rd l0 2)) v true q1 q2 q3 _ (by (with_reducible repeat (first | refine blk_drewN ?_ _ | refine blk_drew ?_ | refine blk_alloc ?_ _)); exact BK3.out) hH.out).mono ?_); rintro e w' ⟨rfl, ⟨nd, rfl⟩⟩)
        | ((with_reducible refine gate_dst (N := 33) rfl ?_); refine wpList_load_row ?hg 48 (.tmp 3) ?ho g3 ?hx 48 #[.int .i64 (wrap64 (rd l0 1)), .int .i64 (wrap64 (rd l0 2)), .int .i64 v, .slice none 0 0] (0, 0) _ ?hk Try.underlying48 rfl ?hi ?_; (case hg => rfl); (case ho => rfl); (case hx => rfl); (case hk => (with_reducible repeat (first | refine blk_drewN ?_ _ | refine blk_drew ?_ | refine blk_alloc ?_ _)); exact BK3.out); (case hi => kernel_rfl))
        | ((with_reducible refine gate_store (t := 50) (p := 2) rfl ?_); refine row_event ?hg (ty := 50) (p := 2) (y := ?yo_128) ?ho ?hn (g := g2) (old := #[.int .i64 0, .int .i64 0, .int .i64 0, .int .i64 0, .slice none 0 0]) (e := 50) (cells := #[.int .i64 0, .int .i64 (wrap64 (rd l0 1)), .int .i64 (wrap64 (rd l0 2)), .int .i64 v, .slice none 0 0]) ?hx ?hy ?hk ?hi ?hd ?h1 ?_; (case ho => rfl); (case hg => rfl); (case hn => rfl); (case hx => rfl); (case hy => rfl); (case hk => (with_reducible repeat (first | refine blk_drewN ?_ _ | refine blk_drew ?_ | refine blk_alloc ?_ _)); exact BK2.out); (case hi => kernel_rfl); (case hd => rfl); (case h1 => simp [Value.oneCell']); intro wr_ hbk hgr; have n0_ := Aside0.mk (below_grown1 (by repeat (first | (with_reducible first | exact HB.out | apply below_alloc | apply pw_below_drewN | apply below_drew1) | exact HB.out)) hgr GE2.out); have n1_ := Aside0.mk (blk_grown1 (g' := g3) (ob := .cells #[.int .i64 (wrap64 (rd l0 1)), .int .i64 (wrap64 (rd l0 2)), .int .i64 v, .slice none 0 0] 48 (0, 0)) (by (with_reducible repeat (first | refine blk_drewN ?_ _ | refine blk_drew ?_ | refine blk_alloc ?_ _)); exact BK3.out) hgr (blk_ne (by (with_reducible repeat (first | refine blk_drewN ?_ _ | refine blk_drew ?_ | refine blk_alloc ?_ _)); exact BK3.out) (by (with_reducible repeat (first | refine blk_drewN ?_ _ | refine blk_drew ?_ | refine blk_alloc ?_ _)); exact BK2.out) (by decide))); have n2_ := Aside0.mk hbk; clear HB BK3 BK2; have HB := n0_; have BK3 := n1_; have BK2 := n2_; clear n0_ n1_ n2_; clear hbk hgr))
    refine bodyPost_ret (results_cell_row rfl _ _ g2 50 #[.int .i64 0, .int .i64 (wrap64 (rd l0 1)), .int .i64 (wrap64 (rd l0 2)), .int .i64 v, .slice none 0 0] (0, 0) _ rfl (by (with_reducible repeat (first | refine blk_drewN ?_ _ | refine blk_drew ?_ | refine blk_alloc ?_ _)); exact BK2.out) Try.underlying50 rfl (by kernel_rfl)) rfl ?_
    exact ⟨_, rfl, Kd.R_nil _ _ _ _ _, HB.out⟩

end Go.Proofs.Ytaibogaheidkcaa.All
