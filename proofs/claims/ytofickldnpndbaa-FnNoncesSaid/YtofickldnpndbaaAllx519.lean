-- Laid by wip/myprint.py of this repo over the kit's print (the functions' texts by the kit's program, some by hand). Not trusted: Lean checks it.
import Derived.Test.YtofickldnpndbaaAllx0
import Derived.Test.YtofickldnpndbaaAllx20
import Derived.Test.YtofickldnpndbaaAllx51
import Derived.Deep.RegionHeld3
namespace Go.Proofs.Ytofickldnpndbaa.All
open Go.RowKit Go.Proofs.YtofickldnpndbaaW.PrintWords Go.Proofs.YtofickldnpndbaaW.PrintLast Go.Proofs.YtofickldnpndbaaW.PrintMore
attribute [local go_sem] max2_int min2_int max_two min_two max_three min_three max_four min_four
set_option linter.unusedVariables false
set_option linter.unusedSimpArgs false


def spec_NonceOf.f (k : Nat) (a0 : Int) (a1 : Int) : Option (Int × List Int) := (spec_l5Head.f 1 a0 a1 ([] : List Int)).bind fun b => if b.1 = true then ((spec_l5Nonce.f k a0 a1).bind fun t => some (0, t)) else some (3, [])
theorem spec_NonceOf.mono : ∀ a0 a1 k, LeO (spec_NonceOf.f k a0 a1) (spec_NonceOf.f (k + 1) a0 a1) := by
  intro a0 a1 k
  unfold spec_NonceOf.f
  repeat' first
      | (with_reducible exact spec_l5Nonce.mono _ _ _)
      | (with_reducible exact LeO.refl _)
      | (with_reducible refine LeO.ite ?_ ?_)
      | (with_reducible refine LeO.bind ?_ (fun _ => ?_))
set_option maxHeartbeats 4000000 in
set_option maxRecDepth 100000 in
theorem spec_NonceOf.calls (k : Nat) (a0 : Int) (a1 : Int) (r1 : Int) (r2 : List Int) (w : World) (h : spec_NonceOf.f k a0 a1 = some (r1, r2)) :
    Calls Try.prog 32 #[.int .i64 a0, .int .i64 a1] w fun e w' => ∃ v1_ : Value, e = .returned (.agg #[.int .i64 r1, v1_]) ∧ Kd.R (Kd.int .u8) 5 w' w.heap.size (fun _ => True) v1_ r2 ∧ Below w.heap.size w w' := by
  unfold spec_NonceOf.f at h
  obtain ⟨⟨b, q1, q2, q3⟩, hh, H⟩ := Option.bind_eq_some_iff.mp h
  clear h
  have hH := Aside0.mk hh
  clear hh
  have HB := Aside0.mk (Below.refl w.heap.size w)
  cases b with
  | true =>
    replace H : ((spec_l5Nonce.f k a0 a1).bind fun t => some ((0 : Int), t)) = some (r1, r2) := H
    obtain ⟨t, ht, H⟩ := Option.bind_eq_some_iff.mp H
    simp only [Option.some.injEq, Prod.mk.injEq] at H
    obtain ⟨e1, e2⟩ := H
    subst e1
    subst e2
    have hN := Aside0.mk ht
    clear ht
    go_enter Try.func32, Try.ntmps32
    go_wp2_with (first
        | ((with_reducible refine gate_dst (N := 4) rfl ?_); refine box_event ?hg (N := 4) ?hd (cs := #[.int .i64 0, .slice none 0 0]) (t := 27) ?hr ?_; (case hd => rfl); (case hg => rfl); (case hr => first | (go_simp; done) | (go_simp; rfl)); intro g4 hg w4 hbox hb; have n0_ := Aside0.mk (below_step (by repeat (first | (with_reducible first | exact HB.out | apply below_alloc | apply pw_below_drewN | apply below_drew1) | exact HB.out)) hb); have n1_ := Aside0.mk hbox; have n2_ := Aside0.mk (by rw [hg]; exact below_size (by repeat (first | (with_reducible first | exact HB.out | apply below_alloc | apply pw_below_drewN | apply below_drew1) | exact HB.out)) : w.heap.size ≤ g4); clear HB; have HB := n0_; have BK4 := n1_; have GE4 := n2_; clear n0_ n1_ n2_; clear hb hbox hg)
        | ((with_reducible refine gate_dst (N := 8) rfl ?_); refine box_event ?hg (N := 8) ?hd (cs := #[.int .i64 1, .int .i64 a0, .int .i64 a1, .slice none 0 0]) (t := 45) ?hr ?_; (case hd => rfl); (case hg => rfl); (case hr => first | (go_simp; done) | (go_simp; rfl)); intro g8 hg w8 hbox hb; have n0_ := Aside0.mk (below_step (by repeat (first | (with_reducible first | exact HB.out | apply below_alloc | apply pw_below_drewN | apply below_drew1) | exact HB.out)) hb); have n1_ := Aside0.mk (blk_below (g := g4) (o := .cells #[.int .i64 0, .slice none 0 0] 27 (0, 0)) (by (with_reducible repeat (first | refine blk_drewN ?_ _ | refine blk_drew ?_ | refine blk_alloc ?_ _)); exact BK4.out) hb); have n2_ := Aside0.mk hbox; have n3_ := Aside0.mk (by rw [hg]; exact below_size (by repeat (first | (with_reducible first | exact HB.out | apply below_alloc | apply pw_below_drewN | apply below_drew1) | exact HB.out)) : w.heap.size ≤ g8); clear HB BK4; have HB := n0_; have BK4 := n1_; have BK8 := n2_; have GE8 := n3_; clear n0_ n1_ n2_ n3_; clear hb hbox hg)
        | (go_at_call 65; refine (spec_l5Head.calls g8 1 a0 a1 ([] : List Int) true q1 q2 q3 w _ ⟨none, 0, (by (with_reducible repeat (first | refine blk_drewN ?_ _ | refine blk_drew ?_ | refine blk_alloc ?_ _)); exact BK8.out), GE8.out, Kd.C_nil _ _⟩ (by repeat (first | (with_reducible first | exact HB.out | apply below_alloc | apply pw_below_drewN | apply below_drew1) | exact HB.out)) hH.out).mono ?_; rintro e wk ⟨rfl, hI, hb, hk⟩; have n0_ := Aside0.mk hb; have n1_ := Aside0.mk (hk.blk (by (with_reducible repeat (first | refine blk_drewN ?_ _ | refine blk_drew ?_ | refine blk_alloc ?_ _)); exact BK4.out) (blk_ne (by (with_reducible repeat (first | refine blk_drewN ?_ _ | refine blk_drew ?_ | refine blk_alloc ?_ _)); exact BK4.out) (by (with_reducible repeat (first | refine blk_drewN ?_ _ | refine blk_drew ?_ | refine blk_alloc ?_ _)); exact BK8.out) (by decide)) (by simp)); clear HB BK4 BK8; have HB := n0_; have BK4 := n1_; clear n0_ n1_; clear hb hk hI)
        | (go_at_call 66; refine (spec_l5Nonce.calls k a0 a1 t _ hN.out).mono ?_; rintro e wk2 ⟨v1, rfl, ho, hb⟩; obtain ⟨Ao, co, eo⟩ := Kd.R_slice ho; subst eo; have n9_ := Aside0.mk (Kd.R_lower ho (below_size (by repeat (first | (with_reducible first | exact HB.out | apply below_alloc | apply pw_below_drewN | apply below_drew1) | exact HB.out)))); have HO := n9_; clear ho n9_; have n0_ := Aside0.mk (below_step (by repeat (first | (with_reducible first | exact HB.out | apply below_alloc | apply pw_below_drewN | apply below_drew1) | exact HB.out)) hb); have n1_ := Aside0.mk (blk_below (g := g4) (o := .cells #[.int .i64 0, .slice none 0 0] 27 (0, 0)) (by (with_reducible repeat (first | refine blk_drewN ?_ _ | refine blk_drew ?_ | refine blk_alloc ?_ _)); exact BK4.out) hb); clear HB BK4; have HB := n0_; have BK4 := n1_; clear n0_ n1_; clear hb)
        | ((with_reducible refine gate_store (t := 27) (p := 4) rfl ?_); refine row_event ?hg (ty := 27) (p := 4) (y := ?yo_174) ?ho ?hn (g := g4) (old := #[.int .i64 0, .slice none 0 0]) (e := 27) (cells := #[.int .i64 0, .slice Ao t.length co]) ?hx ?hy ?hk ?hi ?hd ?h1 ?_; (case ho => rfl); (case hg => rfl); (case hn => rfl); (case hx => rfl); (case hy => rfl); (case hk => (with_reducible repeat (first | refine blk_drewN ?_ _ | refine blk_drew ?_ | refine blk_alloc ?_ _)); exact BK4.out); (case hi => kernel_rfl); (case hd => rfl); (case h1 => simp [Value.oneCell']); intro wr_ hbk hgr; have n0_ := Aside0.mk (below_grown1 (by repeat (first | (with_reducible first | exact HB.out | apply below_alloc | apply pw_below_drewN | apply below_drew1) | exact HB.out)) hgr GE4.out); have n1_ := Aside0.mk hbk; have n2_ := Aside0.mk (R_grown_types HO.out BK4.out (by decide) hgr); clear HB BK4 HO; have HB := n0_; have BK4 := n1_; have HO := n2_; clear n0_ n1_ n2_; clear hbk hgr))
    refine bodyPost_ret (results_cell_row rfl _ _ g4 27 #[.int .i64 0, .slice Ao t.length co] (0, 0) _ rfl (by (with_reducible repeat (first | refine blk_drewN ?_ _ | refine blk_drew ?_ | refine blk_alloc ?_ _)); exact BK4.out) Try.underlying27 rfl (by kernel_rfl)) rfl ?_
    exact ⟨_, rfl, HO.out, HB.out⟩
  | false =>
    replace H : some ((3 : Int), ([] : List Int)) = some (r1, r2) := H
    simp only [Option.some.injEq, Prod.mk.injEq] at H
    obtain ⟨e1, e2⟩ := H
    subst e1
    subst e2
    go_enter Try.func32, Try.ntmps32
    go_wp2_with (first
        | ((with_reducible refine gate_dst (N := 4) rfl ?_); refine box_event ?hg (N := 4) ?hd (cs := #[.int .i64 0, .slice none 0 0]) (t := 27) ?hr ?_; (case hd => rfl); (case hg => rfl); (case hr => first | (go_simp; done) | (go_simp; rfl)); intro g4 hg w4 hbox hb; have n0_ := Aside0.mk (below_step (by repeat (first | (with_reducible first | exact HB.out | apply below_alloc | apply pw_below_drewN | apply below_drew1) | exact HB.out)) hb); have n1_ := Aside0.mk hbox; have n2_ := Aside0.mk (by rw [hg]; exact below_size (by repeat (first | (with_reducible first | exact HB.out | apply below_alloc | apply pw_below_drewN | apply below_drew1) | exact HB.out)) : w.heap.size ≤ g4); clear HB; have HB := n0_; have BK4 := n1_; have GE4 := n2_; clear n0_ n1_ n2_; clear hb hbox hg)
        | ((with_reducible refine gate_dst (N := 8) rfl ?_); refine box_event ?hg (N := 8) ?hd (cs := #[.int .i64 1, .int .i64 a0, .int .i64 a1, .slice none 0 0]) (t := 45) ?hr ?_; (case hd => rfl); (case hg => rfl); (case hr => first | (go_simp; done) | (go_simp; rfl)); intro g8 hg w8 hbox hb; have n0_ := Aside0.mk (below_step (by repeat (first | (with_reducible first | exact HB.out | apply below_alloc | apply pw_below_drewN | apply below_drew1) | exact HB.out)) hb); have n1_ := Aside0.mk (blk_below (g := g4) (o := .cells #[.int .i64 0, .slice none 0 0] 27 (0, 0)) (by (with_reducible repeat (first | refine blk_drewN ?_ _ | refine blk_drew ?_ | refine blk_alloc ?_ _)); exact BK4.out) hb); have n2_ := Aside0.mk hbox; have n3_ := Aside0.mk (by rw [hg]; exact below_size (by repeat (first | (with_reducible first | exact HB.out | apply below_alloc | apply pw_below_drewN | apply below_drew1) | exact HB.out)) : w.heap.size ≤ g8); clear HB BK4; have HB := n0_; have BK4 := n1_; have BK8 := n2_; have GE8 := n3_; clear n0_ n1_ n2_ n3_; clear hb hbox hg)
        | (go_at_call 65; refine (spec_l5Head.calls g8 1 a0 a1 ([] : List Int) false q1 q2 q3 w _ ⟨none, 0, (by (with_reducible repeat (first | refine blk_drewN ?_ _ | refine blk_drew ?_ | refine blk_alloc ?_ _)); exact BK8.out), GE8.out, Kd.C_nil _ _⟩ (by repeat (first | (with_reducible first | exact HB.out | apply below_alloc | apply pw_below_drewN | apply below_drew1) | exact HB.out)) hH.out).mono ?_; rintro e wk ⟨rfl, hI, hb, hk⟩; have n0_ := Aside0.mk hb; have n1_ := Aside0.mk (hk.blk (by (with_reducible repeat (first | refine blk_drewN ?_ _ | refine blk_drew ?_ | refine blk_alloc ?_ _)); exact BK4.out) (blk_ne (by (with_reducible repeat (first | refine blk_drewN ?_ _ | refine blk_drew ?_ | refine blk_alloc ?_ _)); exact BK4.out) (by (with_reducible repeat (first | refine blk_drewN ?_ _ | refine blk_drew ?_ | refine blk_alloc ?_ _)); exact BK8.out) (by decide)) (by simp)); clear HB BK4 BK8; have HB := n0_; have BK4 := n1_; clear n0_ n1_; clear hb hk hI)
        | ((with_reducible refine gate_store (t := 27) (p := 4) rfl ?_); refine row_event ?hg (ty := 27) (p := 4) (y := ?yo_178) ?ho ?hn (g := g4) (old := #[.int .i64 0, .slice none 0 0]) (e := 27) (cells := #[.int .i64 3, .slice none 0 0]) ?hx ?hy ?hk ?hi ?hd ?h1 ?_; (case ho => rfl); (case hg => rfl); (case hn => rfl); (case hx => rfl); (case hy => rfl); (case hk => (with_reducible repeat (first | refine blk_drewN ?_ _ | refine blk_drew ?_ | refine blk_alloc ?_ _)); exact BK4.out); (case hi => kernel_rfl); (case hd => rfl); (case h1 => simp [Value.oneCell']); intro wr_ hbk hgr; have n0_ := Aside0.mk (below_grown1 (by repeat (first | (with_reducible first | exact HB.out | apply below_alloc | apply pw_below_drewN | apply below_drew1) | exact HB.out)) hgr GE4.out); have n1_ := Aside0.mk hbk; clear HB BK4; have HB := n0_; have BK4 := n1_; clear n0_ n1_; clear hbk hgr))
    refine bodyPost_ret (results_cell_row rfl _ _ g4 27 #[.int .i64 3, .slice none 0 0] (0, 0) _ rfl (by (with_reducible repeat (first | refine blk_drewN ?_ _ | refine blk_drew ?_ | refine blk_alloc ?_ _)); exact BK4.out) Try.underlying27 rfl (by kernel_rfl)) rfl ?_
    exact ⟨_, rfl, Kd.R_nil _ _ _ _ _, HB.out⟩


set_option maxHeartbeats 4000000 in
set_option maxRecDepth 100000 in
theorem l5Head_here2 (g : Nat) (a b c : Int) (r : Bool) (q1 q2 q3 : Int) (w : World) (hb : w.heap[g]? = some (.cells #[.int .i64 a, .int .i64 b, .int .i64 c, .slice none 0 0] 45 (0, 0))) (h : spec_l5Head.f a b c ([] : List Int) = some (r, q1, q2, q3)) :
    Calls Try.prog 65 #[.pointer (some ⟨g, 0, none⟩)] w fun e w' => e = .returned (.bool r) ∧ Drawn0 w w' := by
  have hc0 : w.cell? ⟨g, 0, none⟩ = some (.int .i64 a) := by rw [blk_cell hb]; rfl
  have hc1 : w.cell? ⟨g, 1, none⟩ = some (.int .i64 b) := by rw [blk_cell hb]; rfl
  have hc2 : w.cell? ⟨g, 2, none⟩ = some (.int .i64 c) := by rw [blk_cell hb]; rfl
  clear hb
  unfold spec_l5Head.f at h
  obtain ⟨t0, h0, H⟩ := Option.bind_eq_some_iff.mp h
  clear h
  have A0 := Aside0.mk h0
  clear h0
  cases t0 with
  | false =>
    rw [if_neg (by decide)] at H
    simp only [Option.some.injEq, Prod.mk.injEq] at H
    obtain ⟨rfl, rfl, rfl, rfl⟩ := H
    go_enter Try.func65, Try.ntmps65
    go_wp2_with (first
        | (go_at_call 51; (with_reducible refine (spec_l1In.calls a 1 255 false _ A0.out).mono ?_); rintro e w' ⟨rfl, ⟨nd, rfl⟩⟩))
    go_ret
    exact ⟨rfl, ⟨_, rfl⟩⟩
  | true =>
    rw [if_pos rfl] at H
    obtain ⟨t1, h1, H⟩ := Option.bind_eq_some_iff.mp H
    have A1 := Aside0.mk h1
    clear h1
    cases t1 with
    | false =>
      rw [if_neg (by decide)] at H
      simp only [Option.some.injEq, Prod.mk.injEq] at H
      obtain ⟨rfl, rfl, rfl, rfl⟩ := H
      go_enter Try.func65, Try.ntmps65
      go_wp2_with (first
          | (go_at_call 51; (with_reducible refine (spec_l1In.calls a 1 255 true _ A0.out).mono ?_); rintro e w' ⟨rfl, ⟨nd, rfl⟩⟩)
          | (go_at_call 51; (with_reducible refine (spec_l1In.calls b 0 15 false _ A1.out).mono ?_); rintro e w' ⟨rfl, ⟨nd, rfl⟩⟩))
      go_ret
      exact ⟨rfl, ⟨_, rfl⟩⟩
    | true =>
      rw [if_pos rfl] at H
      obtain ⟨t2, h2, H⟩ := Option.bind_eq_some_iff.mp H
      have A2 := Aside0.mk h2
      clear h2
      simp only [Option.some.injEq, Prod.mk.injEq] at H
      obtain ⟨rfl, rfl, rfl, rfl⟩ := H
      go_enter Try.func65, Try.ntmps65
      go_wp2_with (first
          | (go_at_call 51; (with_reducible refine (spec_l1In.calls a 1 255 true _ A0.out).mono ?_); rintro e w' ⟨rfl, ⟨nd, rfl⟩⟩)
          | (go_at_call 51; (with_reducible refine (spec_l1In.calls b 0 15 true _ A1.out).mono ?_); rintro e w' ⟨rfl, ⟨nd, rfl⟩⟩)
          | (go_at_call 51; (with_reducible refine (spec_l1In.calls c 0 1000000000 t2 _ A2.out).mono ?_); rintro e w' ⟨rfl, ⟨nd, rfl⟩⟩))
      go_ret
      exact ⟨rfl, ⟨_, rfl⟩⟩
theorem u8w (x : Int) : IntKind.u8.wrap x = x % 256 := by simp [IntKind.wrap, IntKind.bits, IntKind.signed]
theorem R_three {W : World} {g base : Nat} {bt : TypeId} {x y z : Int} (hg : W.heap[g]? = some (.cells #[.int .u8 x, .int .u8 y, .int .u8 z] bt (0, 0))) (hb : base ≤ g) :
    Kd.R (Kd.int .u8) bt W base (fun _ => True) (.slice (some ⟨g, 0, none⟩) 3 3) [x, y, z] := by
  have e : encs (Value.int .u8) [x, y, z] = [.int .u8 x, .int .u8 y, .int .u8 z] := rfl
  refine Kd.R_of_own (h1 := fun _ => rfl) ?_ (fun _ _ => trivial)
  refine ⟨by rw [e]; rfl, .inr ⟨g, 3, #[.int .u8 x, .int .u8 y, .int .u8 z], rfl, hb, hg, Nat.le_refl _, by simp only [maxLen]; omega, rfl, ?_⟩⟩
  rw [e]
  rfl
set_option maxHeartbeats 4000000 in
set_option maxRecDepth 100000 in
theorem l5HeadOf_here (k g : Nat) (a b c : Int) (t : List Int) (w : World) (hb : w.heap[g]? = some (.cells #[.int .i64 a, .int .i64 b, .int .i64 c, .slice none 0 0] 45 (0, 0))) (h : spec_l1Pack.f k c 8 = some t) (ht : t.length < 100) :
    Calls Try.prog 67 #[.pointer (some ⟨g, 0, none⟩)] w fun e w' => ∃ v0_ : Value, e = .returned v0_ ∧ Kd.R (Kd.int .u8) 5 w' w.heap.size (fun _ => True) v0_ ([1, a % 256, b % 256] ++ t) ∧ Below w.heap.size w w' := by
  have hc0 : w.cell? ⟨g, 0, none⟩ = some (.int .i64 a) := by rw [blk_cell hb]; rfl
  have hc1 : w.cell? ⟨g, 1, none⟩ = some (.int .i64 b) := by rw [blk_cell hb]; rfl
  have hc2 : w.cell? ⟨g, 2, none⟩ = some (.int .i64 c) := by rw [blk_cell hb]; rfl
  have hP := Aside0.mk h
  clear h
  have ea := World.new_ne w _ hc0
  have eb := World.new_ne w _ hc1
  have ec := World.new_ne w _ hc2
  go_enter Try.func67, Try.ntmps67
  go_wp2_with fail
  go_region_held3 (fun w' => w'.cell? ⟨g, 0, none⟩ = some (.int .i64 a) ∧ w'.cell? ⟨g, 1, none⟩ = some (.int .i64 b) ∧ w'.cell? ⟨g, 2, none⟩ = some (.int .i64 c)) (first | exact ⟨(hbl.cell (World.block_lt_of_cell? _ _ (show World.cell? _ ⟨g, 0, none⟩ = some (Value.int .i64 a) by first | assumption | simp [*]))).trans (by first | assumption | simp [*]), (hbl.cell (World.block_lt_of_cell? _ _ (show World.cell? _ ⟨g, 1, none⟩ = some (Value.int .i64 b) by first | assumption | simp [*]))).trans (by first | assumption | simp [*]), (hbl.cell (World.block_lt_of_cell? _ _ (show World.cell? _ ⟨g, 2, none⟩ = some (Value.int .i64 c) by first | assumption | simp [*]))).trans (by first | assumption | simp [*])⟩ | exact ⟨(hbF.cell (World.block_lt_of_cell? _ _ hc0)).trans hc0, (hbF.cell (World.block_lt_of_cell? _ _ hc1)).trans hc1, (hbF.cell (World.block_lt_of_cell? _ _ hc2)).trans hc2⟩ | go_keep)
    (first | (go_at_call 52; refine (spec_l1Pack.calls k c 8 t _ hP.out).mono ?_; rintro e wk ⟨v1, rfl, ho, hbl⟩; obtain ⟨Ao, co, eo⟩ := Kd.R_slice ho; subst eo) | (refine Kd.R_append_rows_step (Kd.int .u8) (w0 := w) w.heap.size (by simp [Region.wanted]) (.tmp 13) (.tmp 18) 22 5 (.int .u8 0) 1 rfl Try.underlying22 info5 rfl (by decide) (by omega) _ [1, a % 256, b % 256] t _ _ _ (fun _ => True) (fun _ => False) rfl rfl ?aO ?aR (fun _ _ h => h) (fun _ h => h.elim) ?aF ?aB ?aS ?aL ?_; (case aR => first | exact (Kd.R_reads' ho).2.2 | exact (Kd.R_reads' (Kd.R_alloc ho _)).2.2); (case aB => first | exact below_step (by repeat (first | exact Below.refl _ _ | apply below_alloc | apply pw_below_drewN | apply below_drew1)) hbl | (apply below_alloc; exact below_step (by repeat (first | exact Below.refl _ _ | apply below_alloc | apply pw_below_drewN | apply below_drew1)) hbl)); (case aF => exact (fun _ _ => trivial)); (case aO => (rw [← u8w a, ← u8w b]; first | exact R_three ((hbl.block w.heap.size (by show w.heap.size < (w.alloc _).heap.size; simp)).trans (blk_drew (by simpa using heap_alloc_new w _))) (Nat.le_refl _) | exact R_three (by simpa using heap_alloc_new wk _) hbl.size)); (case aS => exact (below_size (by first | exact below_step (by repeat (first | exact Below.refl _ _ | apply below_alloc | apply pw_below_drewN | apply below_drew1)) hbl | (apply below_alloc; exact below_step (by repeat (first | exact Below.refl _ _ | apply below_alloc | apply pw_below_drewN | apply below_drew1)) hbl)))); (case aL => simp; omega); intro v2 w5 hoF hbF hgF hatF))
  all_goals go_wp2
  all_goals go_ret
  all_goals exact ⟨_, rfl, hoF, hbF⟩
def spec_HeadOf.f (k : Nat) (a0 : Int) (a1 : Int) (a2 : Int) : Option (Int × List Int) := (spec_l5Head.f a0 a1 a2 ([] : List Int)).bind fun b => if b.1 = true then ((spec_l1Pack.f k a2 8).bind fun t => if t.length < 100 then some (0, [1, a0 % 256, a1 % 256] ++ t) else none) else some (3, [])
theorem spec_HeadOf.mono : ∀ a0 a1 a2 k, LeO (spec_HeadOf.f k a0 a1 a2) (spec_HeadOf.f (k + 1) a0 a1 a2) := by
  intro a0 a1 a2 k
  unfold spec_HeadOf.f
  repeat' first
      | (with_reducible exact spec_l1Pack.mono _ _ _)
      | (with_reducible exact LeO.refl _)
      | (with_reducible refine LeO.ite ?_ ?_)
      | (with_reducible refine LeO.bind ?_ (fun _ => ?_))
set_option maxHeartbeats 4000000 in
set_option maxRecDepth 100000 in
theorem spec_HeadOf.calls (k : Nat) (a0 : Int) (a1 : Int) (a2 : Int) (r1 : Int) (r2 : List Int) (w : World) (h : spec_HeadOf.f k a0 a1 a2 = some (r1, r2)) :
    Calls Try.prog 33 #[.int .i64 a0, .int .i64 a1, .int .i64 a2] w fun e w' => ∃ v1_ : Value, e = .returned (.agg #[.int .i64 r1, v1_]) ∧ Kd.R (Kd.int .u8) 5 w' w.heap.size (fun _ => True) v1_ r2 ∧ Below w.heap.size w w' := by
  unfold spec_HeadOf.f at h
  obtain ⟨⟨b, q1, q2, q3⟩, hh, H⟩ := Option.bind_eq_some_iff.mp h
  clear h
  have hH := Aside0.mk hh
  clear hh
  have HB := Aside0.mk (Below.refl w.heap.size w)
  cases b with
  | true =>
    replace H : ((spec_l1Pack.f k a2 8).bind fun t => if t.length < 100 then some ((0 : Int), [1, a0 % 256, a1 % 256] ++ t) else none) = some (r1, r2) := H
    obtain ⟨t, ht, H⟩ := Option.bind_eq_some_iff.mp H
    by_cases hl : t.length < 100
    · rw [if_pos hl] at H
      simp only [Option.some.injEq, Prod.mk.injEq] at H
      obtain ⟨e1, e2⟩ := H
      subst e1
      subst e2
      have hN := Aside0.mk ht
      have hT := Aside0.mk hl
      clear ht hl
      go_enter Try.func33, Try.ntmps33
      go_wp2_with (first
          | ((with_reducible refine gate_dst (N := 6) rfl ?_); refine box_event ?hg (N := 6) ?hd (cs := #[.int .i64 0, .slice none 0 0]) (t := 27) ?hr ?_; (case hd => rfl); (case hg => rfl); (case hr => first | (go_simp; done) | (go_simp; rfl)); intro g6 hg w6 hbox hb; have n0_ := Aside0.mk (below_step (by repeat (first | (with_reducible first | exact HB.out | apply below_alloc | apply pw_below_drewN | apply below_drew1) | exact HB.out)) hb); have n1_ := Aside0.mk hbox; have n2_ := Aside0.mk (by rw [hg]; exact below_size (by repeat (first | (with_reducible first | exact HB.out | apply below_alloc | apply pw_below_drewN | apply below_drew1) | exact HB.out)) : w.heap.size ≤ g6); clear HB; have HB := n0_; have BK6 := n1_; have GE6 := n2_; clear n0_ n1_ n2_; clear hb hbox hg)
          | ((with_reducible refine gate_dst (N := 7) rfl ?_); refine box_event ?hg (N := 7) ?hd (cs := #[.int .i64 0, .int .i64 0, .int .i64 0, .slice none 0 0]) (t := 45) ?hr ?_; (case hd => rfl); (case hg => rfl); (case hr => first | (go_simp; done) | (go_simp; rfl)); intro g7 hg w7 hbox hb; have n0_ := Aside0.mk (below_step (by repeat (first | (with_reducible first | exact HB.out | apply below_alloc | apply pw_below_drewN | apply below_drew1) | exact HB.out)) hb); have n1_ := Aside0.mk (blk_below (g := g6) (o := .cells #[.int .i64 0, .slice none 0 0] 27 (0, 0)) (by (with_reducible repeat (first | refine blk_drewN ?_ _ | refine blk_drew ?_ | refine blk_alloc ?_ _)); exact BK6.out) hb); have n2_ := Aside0.mk hbox; have n3_ := Aside0.mk (by rw [hg]; exact below_size (by repeat (first | (with_reducible first | exact HB.out | apply below_alloc | apply pw_below_drewN | apply below_drew1) | exact HB.out)) : w.heap.size ≤ g7); clear HB BK6; have HB := n0_; have BK6 := n1_; have BK7 := n2_; have GE7 := n3_; clear n0_ n1_ n2_ n3_; clear hb hbox hg)
          | ((with_reducible refine gate_store (t := 45) (p := 7) rfl ?_); refine row_event ?hg (ty := 45) (p := 7) (y := ?yo_202) ?ho ?hn (g := g7) (old := #[.int .i64 0, .int .i64 0, .int .i64 0, .slice none 0 0]) (e := 45) (cells := #[.int .i64 a0, .int .i64 a1, .int .i64 a2, .slice none 0 0]) ?hx ?hy ?hk ?hi ?hd ?h1 ?_; (case ho => rfl); (case hg => rfl); (case hn => rfl); (case hx => rfl); (case hy => rfl); (case hk => (with_reducible repeat (first | refine blk_drewN ?_ _ | refine blk_drew ?_ | refine blk_alloc ?_ _)); exact BK7.out); (case hi => kernel_rfl); (case hd => rfl); (case h1 => simp [Value.oneCell']); intro wr_ hbk hgr; have n0_ := Aside0.mk (below_grown1 (by repeat (first | (with_reducible first | exact HB.out | apply below_alloc | apply pw_below_drewN | apply below_drew1) | exact HB.out)) hgr GE7.out); have n1_ := Aside0.mk (blk_grown1 (g' := g6) (ob := .cells #[.int .i64 0, .slice none 0 0] 27 (0, 0)) (by (with_reducible repeat (first | refine blk_drewN ?_ _ | refine blk_drew ?_ | refine blk_alloc ?_ _)); exact BK6.out) hgr (blk_ne (by (with_reducible repeat (first | refine blk_drewN ?_ _ | refine blk_drew ?_ | refine blk_alloc ?_ _)); exact BK6.out) (by (with_reducible repeat (first | refine blk_drewN ?_ _ | refine blk_drew ?_ | refine blk_alloc ?_ _)); exact BK7.out) (by decide))); have n2_ := Aside0.mk hbk; clear HB BK6 BK7; have HB := n0_; have BK6 := n1_; have BK7 := n2_; clear n0_ n1_ n2_; clear hbk hgr)
          | (go_at_call 65; (refine (l5Head_here2 g7 a0 a1 a2 true q1 q2 q3 _ (by (with_reducible repeat (first | refine blk_drewN ?_ _ | refine blk_drew ?_ | refine blk_alloc ?_ _)); exact BK7.out) hH.out).mono ?_); rintro e w' ⟨rfl, ⟨nd, rfl⟩⟩)
          | (go_at_call 67; refine (l5HeadOf_here k g7 a0 a1 a2 t _ (by (with_reducible repeat (first | refine blk_drewN ?_ _ | refine blk_drew ?_ | refine blk_alloc ?_ _)); exact BK7.out) hN.out hT.out).mono ?_; rintro e wk2 ⟨v1, rfl, ho, hb⟩; obtain ⟨Ao, co, eo⟩ := Kd.R_slice ho; subst eo; have n9_ := Aside0.mk (Kd.R_lower ho (below_size (by repeat (first | (with_reducible first | exact HB.out | apply below_alloc | apply pw_below_drewN | apply below_drew1) | exact HB.out)))); have HO := n9_; clear ho n9_; have n0_ := Aside0.mk (below_step (by repeat (first | (with_reducible first | exact HB.out | apply below_alloc | apply pw_below_drewN | apply below_drew1) | exact HB.out)) hb); have n1_ := Aside0.mk (blk_below (g := g6) (o := .cells #[.int .i64 0, .slice none 0 0] 27 (0, 0)) (by (with_reducible repeat (first | refine blk_drewN ?_ _ | refine blk_drew ?_ | refine blk_alloc ?_ _)); exact BK6.out) hb); have n2_ := Aside0.mk (blk_below (g := g7) (o := .cells #[.int .i64 a0, .int .i64 a1, .int .i64 a2, .slice none 0 0] 45 (0, 0)) (by (with_reducible repeat (first | refine blk_drewN ?_ _ | refine blk_drew ?_ | refine blk_alloc ?_ _)); exact BK7.out) hb); clear HB BK6 BK7; have HB := n0_; have BK6 := n1_; have BK7 := n2_; clear n0_ n1_ n2_; clear hb)
          | ((with_reducible refine gate_store (t := 27) (p := 6) rfl ?_); refine row_event ?hg (ty := 27) (p := 6) (y := ?yo_205) ?ho ?hn (g := g6) (old := #[.int .i64 0, .slice none 0 0]) (e := 27) (cells := #[.int .i64 0, .slice Ao ([1, a0 % 256, a1 % 256] ++ t).length co]) ?hx ?hy ?hk ?hi ?hd ?h1 ?_; (case ho => rfl); (case hg => rfl); (case hn => rfl); (case hx => rfl); (case hy => rfl); (case hk => (with_reducible repeat (first | refine blk_drewN ?_ _ | refine blk_drew ?_ | refine blk_alloc ?_ _)); exact BK6.out); (case hi => kernel_rfl); (case hd => rfl); (case h1 => simp [Value.oneCell']); intro wr_ hbk hgr; have n0_ := Aside0.mk (below_grown1 (by repeat (first | (with_reducible first | exact HB.out | apply below_alloc | apply pw_below_drewN | apply below_drew1) | exact HB.out)) hgr GE6.out); have n1_ := Aside0.mk hbk; have n2_ := Aside0.mk (R_grown_types HO.out BK6.out (by decide) hgr); clear HB BK6 HO; have HB := n0_; have BK6 := n1_; have HO := n2_; clear n0_ n1_ n2_; clear hbk hgr))
      refine bodyPost_ret (results_cell_row rfl _ _ g6 27 #[.int .i64 0, .slice Ao ([1, a0 % 256, a1 % 256] ++ t).length co] (0, 0) _ rfl (by (with_reducible repeat (first | refine blk_drewN ?_ _ | refine blk_drew ?_ | refine blk_alloc ?_ _)); exact BK6.out) Try.underlying27 rfl (by kernel_rfl)) rfl ?_
      exact ⟨_, rfl, HO.out, HB.out⟩
    · rw [if_neg hl] at H
      cases H
  | false =>
    replace H : some ((3 : Int), ([] : List Int)) = some (r1, r2) := H
    simp only [Option.some.injEq, Prod.mk.injEq] at H
    obtain ⟨e1, e2⟩ := H
    subst e1
    subst e2
    go_enter Try.func33, Try.ntmps33
    go_wp2_with (first
        | ((with_reducible refine gate_dst (N := 6) rfl ?_); refine box_event ?hg (N := 6) ?hd (cs := #[.int .i64 0, .slice none 0 0]) (t := 27) ?hr ?_; (case hd => rfl); (case hg => rfl); (case hr => first | (go_simp; done) | (go_simp; rfl)); intro g6 hg w6 hbox hb; have n0_ := Aside0.mk (below_step (by repeat (first | (with_reducible first | exact HB.out | apply below_alloc | apply pw_below_drewN | apply below_drew1) | exact HB.out)) hb); have n1_ := Aside0.mk hbox; have n2_ := Aside0.mk (by rw [hg]; exact below_size (by repeat (first | (with_reducible first | exact HB.out | apply below_alloc | apply pw_below_drewN | apply below_drew1) | exact HB.out)) : w.heap.size ≤ g6); clear HB; have HB := n0_; have BK6 := n1_; have GE6 := n2_; clear n0_ n1_ n2_; clear hb hbox hg)
        | ((with_reducible refine gate_dst (N := 7) rfl ?_); refine box_event ?hg (N := 7) ?hd (cs := #[.int .i64 0, .int .i64 0, .int .i64 0, .slice none 0 0]) (t := 45) ?hr ?_; (case hd => rfl); (case hg => rfl); (case hr => first | (go_simp; done) | (go_simp; rfl)); intro g7 hg w7 hbox hb; have n0_ := Aside0.mk (below_step (by repeat (first | (with_reducible first | exact HB.out | apply below_alloc | apply pw_below_drewN | apply below_drew1) | exact HB.out)) hb); have n1_ := Aside0.mk (blk_below (g := g6) (o := .cells #[.int .i64 0, .slice none 0 0] 27 (0, 0)) (by (with_reducible repeat (first | refine blk_drewN ?_ _ | refine blk_drew ?_ | refine blk_alloc ?_ _)); exact BK6.out) hb); have n2_ := Aside0.mk hbox; have n3_ := Aside0.mk (by rw [hg]; exact below_size (by repeat (first | (with_reducible first | exact HB.out | apply below_alloc | apply pw_below_drewN | apply below_drew1) | exact HB.out)) : w.heap.size ≤ g7); clear HB BK6; have HB := n0_; have BK6 := n1_; have BK7 := n2_; have GE7 := n3_; clear n0_ n1_ n2_ n3_; clear hb hbox hg)
        | ((with_reducible refine gate_store (t := 45) (p := 7) rfl ?_); refine row_event ?hg (ty := 45) (p := 7) (y := ?yo_208) ?ho ?hn (g := g7) (old := #[.int .i64 0, .int .i64 0, .int .i64 0, .slice none 0 0]) (e := 45) (cells := #[.int .i64 a0, .int .i64 a1, .int .i64 a2, .slice none 0 0]) ?hx ?hy ?hk ?hi ?hd ?h1 ?_; (case ho => rfl); (case hg => rfl); (case hn => rfl); (case hx => rfl); (case hy => rfl); (case hk => (with_reducible repeat (first | refine blk_drewN ?_ _ | refine blk_drew ?_ | refine blk_alloc ?_ _)); exact BK7.out); (case hi => kernel_rfl); (case hd => rfl); (case h1 => simp [Value.oneCell']); intro wr_ hbk hgr; have n0_ := Aside0.mk (below_grown1 (by repeat (first | (with_reducible first | exact HB.out | apply below_alloc | apply pw_below_drewN | apply below_drew1) | exact HB.out)) hgr GE7.out); have n1_ := Aside0.mk (blk_grown1 (g' := g6) (ob := .cells #[.int .i64 0, .slice none 0 0] 27 (0, 0)) (by (with_reducible repeat (first | refine blk_drewN ?_ _ | refine blk_drew ?_ | refine blk_alloc ?_ _)); exact BK6.out) hgr (blk_ne (by (with_reducible repeat (first | refine blk_drewN ?_ _ | refine blk_drew ?_ | refine blk_alloc ?_ _)); exact BK6.out) (by (with_reducible repeat (first | refine blk_drewN ?_ _ | refine blk_drew ?_ | refine blk_alloc ?_ _)); exact BK7.out) (by decide))); have n2_ := Aside0.mk hbk; clear HB BK6 BK7; have HB := n0_; have BK6 := n1_; have BK7 := n2_; clear n0_ n1_ n2_; clear hbk hgr)
        | (go_at_call 65; (refine (l5Head_here2 g7 a0 a1 a2 false q1 q2 q3 _ (by (with_reducible repeat (first | refine blk_drewN ?_ _ | refine blk_drew ?_ | refine blk_alloc ?_ _)); exact BK7.out) hH.out).mono ?_); rintro e w' ⟨rfl, ⟨nd, rfl⟩⟩)
        | ((with_reducible refine gate_store (t := 27) (p := 6) rfl ?_); refine row_event ?hg (ty := 27) (p := 6) (y := ?yo_210) ?ho ?hn (g := g6) (old := #[.int .i64 0, .slice none 0 0]) (e := 27) (cells := #[.int .i64 3, .slice none 0 0]) ?hx ?hy ?hk ?hi ?hd ?h1 ?_; (case ho => rfl); (case hg => rfl); (case hn => rfl); (case hx => rfl); (case hy => rfl); (case hk => (with_reducible repeat (first | refine blk_drewN ?_ _ | refine blk_drew ?_ | refine blk_alloc ?_ _)); exact BK6.out); (case hi => kernel_rfl); (case hd => rfl); (case h1 => simp [Value.oneCell']); intro wr_ hbk hgr; have n0_ := Aside0.mk (below_grown1 (by repeat (first | (with_reducible first | exact HB.out | apply below_alloc | apply pw_below_drewN | apply below_drew1) | exact HB.out)) hgr GE6.out); have n1_ := Aside0.mk (blk_grown1 (g' := g7) (ob := .cells #[.int .i64 a0, .int .i64 a1, .int .i64 a2, .slice none 0 0] 45 (0, 0)) (by (with_reducible repeat (first | refine blk_drewN ?_ _ | refine blk_drew ?_ | refine blk_alloc ?_ _)); exact BK7.out) hgr (blk_ne (by (with_reducible repeat (first | refine blk_drewN ?_ _ | refine blk_drew ?_ | refine blk_alloc ?_ _)); exact BK7.out) (by (with_reducible repeat (first | refine blk_drewN ?_ _ | refine blk_drew ?_ | refine blk_alloc ?_ _)); exact BK6.out) (by decide))); have n2_ := Aside0.mk hbk; clear HB BK7 BK6; have HB := n0_; have BK7 := n1_; have BK6 := n2_; clear n0_ n1_ n2_; clear hbk hgr))
    refine bodyPost_ret (results_cell_row rfl _ _ g6 27 #[.int .i64 3, .slice none 0 0] (0, 0) _ rfl (by (with_reducible repeat (first | refine blk_drewN ?_ _ | refine blk_drew ?_ | refine blk_alloc ?_ _)); exact BK6.out) Try.underlying27 rfl (by kernel_rfl)) rfl ?_
    exact ⟨_, rfl, Kd.R_nil _ _ _ _ _, HB.out⟩

end Go.Proofs.Ytofickldnpndbaa.All
