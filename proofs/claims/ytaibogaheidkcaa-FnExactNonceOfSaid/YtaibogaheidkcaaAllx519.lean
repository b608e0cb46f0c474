-- Laid by wip/myprint.py of this repo over the kit's print (the functions' texts by the kit's program, some by hand). Not trusted: Lean checks it.
import Derived.Test.YtaibogaheidkcaaAllx0
import Derived.Test.YtaibogaheidkcaaAllx51
import Derived.Test.YtaibogaheidkcaaAllx110
namespace Go.Proofs.Ytaibogaheidkcaa.All
open Go.RowKit Go.Proofs.YtaibogaheidkcaaW.PrintWords Go.Proofs.YtaibogaheidkcaaW.PrintLast Go.Proofs.YtaibogaheidkcaaW.PrintMore
attribute [local go_sem] max2_int min2_int max_two min_two max_three min_three max_four min_four
set_option linter.unusedVariables false
set_option linter.unusedSimpArgs false


def spec_NonceOf.f (k : Nat) (a0 : Int) (a1 : Int) : Option (Int × List Int) := (spec_l5Head.f 1 a0 a1 ([] : List Int)).bind fun b => if b.1 = true then ((spec_l5Nonce.f k a0 a1).bind fun t => some (0, t)) else some (3, [])
theorem spec_NonceOf.mono : ∀ a0 a1 k, LeO (spec_NonceOf.f k a0 a1) (spec_NonceOf.f (k + 1) a0 a1) := by
  intro a0 a1 k
  unfold spec_NonceOf.f
  repeat' first
      | (with_reducible exact spec_l5Nonce.mono _ _ _)
      | (with_reducible exact LeO.refl _)
      | (with_reducible refine LeO.ite ?_ ?_)
      | (with_reducible refine LeO.bind ?_ (fun _ => ?_))
set_option maxHeartbeats 4000000 in
set_option maxRecDepth 100000 in
theorem spec_NonceOf.calls (k : Nat) (a0 : Int) (a1 : Int) (r1 : Int) (r2 : List Int) (w : World) (h : spec_NonceOf.f k a0 a1 = some (r1, r2)) :
    Calls Try.prog 54 #[.int .i64 a0, .int .i64 a1] w fun e w' => ∃ v1_ : Value, e = .returned (.agg #[.int .i64 r1, v1_]) ∧ Kd.R (Kd.int .u8) 5 w' w.heap.size (fun _ => True) v1_ r2 ∧ Below w.heap.size w w' := by
  unfold spec_NonceOf.f at h
  obtain ⟨⟨b, q1, q2, q3⟩, hh, H⟩ := Option.bind_eq_some_iff.mp h
  clear h
  have hH := Aside0.mk hh
  clear hh
  have HB := Aside0.mk (Below.refl w.heap.size w)
  cases b with
  | true =>
    replace H : ((spec_l5Nonce.f k a0 a1).bind fun t => some ((0 : Int), t)) = some (r1, r2) := H
    obtain ⟨t, ht, H⟩ := Option.bind_eq_some_iff.mp H
    simp only [Option.some.injEq, Prod.mk.injEq] at H
    obtain ⟨e1, e2⟩ := H
    subst e1
    subst e2
    have hN := Aside0.mk ht
    clear ht
    go_enter Try.func54, Try.ntmps54
    go_wp2_with (first
        | ((with_reducible refine gate_dst (N := 4) rfl ?_); refine box_event ?hg (N := 4) ?hd (cs := #[.int .i64 0, .slice none 0 0]) (t := 24) ?hr ?_; (case hd => rfl); (case hg => rfl); (case hr => first | (go_simp; done) | (go_simp; rfl)); intro g4 hg w4 hbox hb; have n0_ := Aside0.mk (below_step (by repeat (first | (with_reducible first | exact HB.out | apply below_alloc | apply pw_below_drewN | apply below_drew1) | exact HB.out)) hb); have n1_ := Aside0.mk hbox; have n2_ := Aside0.mk (by rw [hg]; exact below_size (by repeat (first | (with_reducible first | exact HB.out | apply below_alloc | apply pw_below_drewN | apply below_drew1) | exact HB.out)) : w.heap.size ≤ g4); clear HB; have HB := n0_; have BK4 := n1_; have GE4 := n2_; clear n0_ n1_ n2_; clear hb hbox hg)
        | ((with_reducible refine gate_dst (N := 8) rfl ?_); refine box_event ?hg (N := 8) ?hd (cs := #[.int .i64 1, .int .i64 a0, .int .i64 a1, .slice none 0 0]) (t := 48) ?hr ?_; (case hd => rfl); (case hg => rfl); (case hr => first | (go_simp; done) | (go_simp; rfl)); intro g8 hg w8 hbox hb; have n0_ := Aside0.mk (below_step (by repeat (first | (with_reducible first | exact HB.out | apply below_alloc | apply pw_below_drewN | apply below_drew1) | exact HB.out)) hb); have n1_ := Aside0.mk (blk_below (g := g4) (o := .cells #[.int .i64 0, .slice none 0 0] 24 (0, 0)) (by (with_reducible repeat (first | refine blk_drewN ?_ _ | refine blk_drew ?_ | refine blk_alloc ?_ _)); exact BK4.out) hb); have n2_ := Aside0.mk hbox; have n3_ := Aside0.mk (by rw [hg]; exact below_size (by repeat (first | (with_reducible first | exact HB.out | apply below_alloc | apply pw_below_drewN | apply below_drew1) | exact HB.out)) : w.heap.size ≤ g8); clear HB BK4; have HB := n0_; have BK4 := n1_; have BK8 := n2_; have GE8 := n3_; clear n0_ n1_ n2_ n3_; clear hb hbox hg)
        | (go_at_call 106; refine (spec_l5Head.calls g8 1 a0 a1 ([] : List Int) true q1 q2 q3 w _ ⟨none, 0, (by (with_reducible repeat (first | refine blk_drewN ?_ _ | refine blk_drew ?_ | refine blk_alloc ?_ _)); exact BK8.out), GE8.out, Kd.C_nil _ _⟩ (by repeat (first | (with_reducible first | exact HB.out | apply below_alloc | apply pw_below_drewN | apply below_drew1) | exact HB.out)) hH.out).mono ?_; rintro e wk ⟨rfl, hI, hb, hk⟩; have n0_ := Aside0.mk hb; have n1_ := Aside0.mk (hk.blk (by (with_reducible repeat (first | refine blk_drewN ?_ _ | refine blk_drew ?_ | refine blk_alloc ?_ _)); exact BK4.out) (blk_ne (by (with_reducible repeat (first | refine blk_drewN ?_ _ | refine blk_drew ?_ | refine blk_alloc ?_ _)); exact BK4.out) (by (with_reducible repeat (first | refine blk_drewN ?_ _ | refine blk_drew ?_ | refine blk_alloc ?_ _)); exact BK8.out) (by decide)) (by simp)); clear HB BK4 BK8; have HB := n0_; have BK4 := n1_; clear n0_ n1_; clear hb hk hI)
        | (go_at_call 107; refine (spec_l5Nonce.calls k a0 a1 t _ hN.out).mono ?_; rintro e wk2 ⟨v1, rfl, ho, hb⟩; obtain ⟨Ao, co, eo⟩ := Kd.R_slice ho; subst eo; have n9_ := Aside0.mk (Kd.R_lower ho (below_size (by repeat (first | (with_reducible first | exact HB.out | apply below_alloc | apply pw_below_drewN | apply below_drew1) | exact HB.out)))); have HO := n9_; clear ho n9_; have n0_ := Aside0.mk (below_step (by repeat (first | (with_reducible first | exact HB.out | apply below_alloc | apply pw_below_drewN | apply below_drew1) | exact HB.out)) hb); have n1_ := Aside0.mk (blk_below (g := g4) (o := .cells #[.int .i64 0, .slice none 0 0] 24 (0, 0)) (by (with_reducible repeat (first | refine blk_drewN ?_ _ | refine blk_drew ?_ | refine blk_alloc ?_ _)); exact BK4.out) hb); clear HB BK4; have HB := n0_; have BK4 := n1_; clear n0_ n1_; clear hb)
        | ((with_reducible refine gate_store (t := 24) (p := 4) rfl ?_); refine row_event ?hg (ty := 24) (p := 4) (y := ?yo_112) ?ho ?hn (g := g4) (old := #[.int .i64 0, .slice none 0 0]) (e := 24) (cells := #[.int .i64 0, .slice Ao t.length co]) ?hx ?hy ?hk ?hi ?hd ?h1 ?_; (case ho => rfl); (case hg => rfl); (case hn => rfl); (case hx => rfl); (case hy => rfl); (case hk => (with_reducible repeat (first | refine blk_drewN ?_ _ | refine blk_drew ?_ | refine blk_alloc ?_ _)); exact BK4.out); (case hi => kernel_rfl); (case hd => rfl); (case h1 => simp [Value.oneCell']); intro wr_ hbk hgr; have n0_ := Aside0.mk (below_grown1 (by repeat (first | (with_reducible first | exact HB.out | apply below_alloc | apply pw_below_drewN | apply below_drew1) | exact HB.out)) hgr GE4.out); have n1_ := Aside0.mk hbk; have n2_ := Aside0.mk (R_grown_types HO.out BK4.out (by decide) hgr); clear HB BK4 HO; have HB := n0_; have BK4 := n1_; have HO := n2_; clear n0_ n1_ n2_; clear hbk hgr))
    refine bodyPost_ret (results_cell_row rfl _ _ g4 24 #[.int .i64 0, .slice Ao t.length co] (0, 0) _ rfl (by (with_reducible repeat (first | refine blk_drewN ?_ _ | refine blk_drew ?_ | refine blk_alloc ?_ _)); exact BK4.out) Try.underlying24 rfl (by kernel_rfl)) rfl ?_
    exact ⟨_, rfl, HO.out, HB.out⟩
  | false =>
    replace H : some ((3 : Int), ([] : List Int)) = some (r1, r2) := H
    simp only [Option.some.injEq, Prod.mk.injEq] at H
    obtain ⟨e1, e2⟩ := H
    subst e1
    subst e2
    go_enter Try.func54, Try.ntmps54
    go_wp2_with (first
        | ((with_reducible refine gate_dst (N := 4) rfl ?_); refine box_event ?hg (N := 4) ?hd (cs := #[.int .i64 0, .slice none 0 0]) (t := 24) ?hr ?_; (case hd => rfl); (case hg => rfl); (case hr => first | (go_simp; done) | (go_simp; rfl)); intro g4 hg w4 hbox hb; have n0_ := Aside0.mk (below_step (by repeat (first | (with_reducible first | exact HB.out | apply below_alloc | apply pw_below_drewN | apply below_drew1) | exact HB.out)) hb); have n1_ := Aside0.mk hbox; have n2_ := Aside0.mk (by rw [hg]; exact below_size (by repeat (first | (with_reducible first | exact HB.out | apply below_alloc | apply pw_below_drewN | apply below_drew1) | exact HB.out)) : w.heap.size ≤ g4); clear HB; have HB := n0_; have BK4 := n1_; have GE4 := n2_; clear n0_ n1_ n2_; clear hb hbox hg)
        | ((with_reducible refine gate_dst (N := 8) rfl ?_); refine box_event ?hg (N := 8) ?hd (cs := #[.int .i64 1, .int .i64 a0, .int .i64 a1, .slice none 0 0]) (t := 48) ?hr ?_; (case hd => rfl); (case hg => rfl); (case hr => first | (go_simp; done) | (go_simp; rfl)); intro g8 hg w8 hbox hb; have n0_ := Aside0.mk (below_step (by repeat (first | (with_reducible first | exact HB.out | apply below_alloc | apply pw_below_drewN | apply below_drew1) | exact HB.out)) hb); have n1_ := Aside0.mk (blk_below (g := g4) (o := .cells #[.int .i64 0, .slice none 0 0] 24 (0, 0)) (by (with_reducible repeat (first | refine blk_drewN ?_ _ | refine blk_drew ?_ | refine blk_alloc ?_ _)); exact BK4.out) hb); have n2_ := Aside0.mk hbox; have n3_ := Aside0.mk (by rw [hg]; exact below_size (by repeat (first | (with_reducible first | exact HB.out | apply below_alloc | apply pw_below_drewN | apply below_drew1) | exact HB.out)) : w.heap.size ≤ g8); clear HB BK4; have HB := n0_; have BK4 := n1_; have BK8 := n2_; have GE8 := n3_; clear n0_ n1_ n2_ n3_; clear hb hbox hg)
        | (go_at_call 106; refine (spec_l5Head.calls g8 1 a0 a1 ([] : List Int) false q1 q2 q3 w _ ⟨none, 0, (by (with_reducible repeat (first | refine blk_drewN ?_ _ | refine blk_drew ?_ | refine blk_alloc ?_ _)); exact BK8.out), GE8.out, Kd.C_nil _ _⟩ (by repeat (first | (with_reducible first | exact HB.out | apply below_alloc | apply pw_below_drewN | apply below_drew1) | exact HB.out)) hH.out).mono ?_; rintro e wk ⟨rfl, hI, hb, hk⟩; have n0_ := Aside0.mk hb; have n1_ := Aside0.mk (hk.blk (by (with_reducible repeat (first | refine blk_drewN ?_ _ | refine blk_drew ?_ | refine blk_alloc ?_ _)); exact BK4.out) (blk_ne (by (with_reducible repeat (first | refine blk_drewN ?_ _ | refine blk_drew ?_ | refine blk_alloc ?_ _)); exact BK4.out) (by (with_reducible repeat (first | refine blk_drewN ?_ _ | refine blk_drew ?_ | refine blk_alloc ?_ _)); exact BK8.out) (by decide)) (by simp)); clear HB BK4 BK8; have HB := n0_; have BK4 := n1_; clear n0_ n1_; clear hb hk hI)
        | ((with_reducible refine gate_store (t := 24) (p := 4) rfl ?_); refine row_event ?hg (ty := 24) (p := 4) (y := ?yo_116) ?ho ?hn (g := g4) (old := #[.int .i64 0, .slice none 0 0]) (e := 24) (cells := #[.int .i64 3, .slice none 0 0]) ?hx ?hy ?hk ?hi ?hd ?h1 ?_; (case ho => rfl); (case hg => rfl); (case hn => rfl); (case hx => rfl); (case hy => rfl); (case hk => (with_reducible repeat (first | refine blk_drewN ?_ _ | refine blk_drew ?_ | refine blk_alloc ?_ _)); exact BK4.out); (case hi => kernel_rfl); (case hd => rfl); (case h1 => simp [Value.oneCell']); intro wr_ hbk hgr; have n0_ := Aside0.mk (below_grown1 (by repeat (first | (with_reducible first | exact HB.out | apply below_alloc | apply pw_below_drewN | apply below_drew1) | exact HB.out)) hgr GE4.out); have n1_ := Aside0.mk hbk; clear HB BK4; have HB := n0_; have BK4 := n1_; clear n0_ n1_; clear hbk hgr))
    refine bodyPost_ret (results_cell_row rfl _ _ g4 24 #[.int .i64 3, .slice none 0 0] (0, 0) _ rfl (by (with_reducible repeat (first | refine blk_drewN ?_ _ | refine blk_drew ?_ | refine blk_alloc ?_ _)); exact BK4.out) Try.underlying24 rfl (by kernel_rfl)) rfl ?_
    exact ⟨_, rfl, Kd.R_nil _ _ _ _ _, HB.out⟩

end Go.Proofs.Ytaibogaheidkcaa.All
