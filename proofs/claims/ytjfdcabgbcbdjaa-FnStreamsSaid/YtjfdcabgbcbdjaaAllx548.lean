-- Laid by wip/myprint.py of this repo over the kit's print (the functions' texts by the kit's program, some by hand). Not trusted: Lean checks it.
import Derived.Test.YtjfdcabgbcbdjaaAllx0
import Derived.Test.YtjfdcabgbcbdjaaAllx546
import Derived.Test.YtjfdcabgbcbdjaaAllx536
import Derived.Test.YtjfdcabgbcbdjaaAllx537
import Derived.Test.YtjfdcabgbcbdjaaDrawn
import Derived.Test.YtjfdcabgbcbdjaaRow
namespace Go.Proofs.Ytjfdcabgbcbdjaa.All
open Go.RowKit Go.Proofs.YtjfdcabgbcbdjaaW.PrintWords Go.Proofs.YtjfdcabgbcbdjaaW.PrintLast Go.Proofs.YtjfdcabgbcbdjaaW.PrintMore
attribute [local go_sem] max2_int min2_int max_two min_two max_three min_three max_four min_four
set_option linter.unusedVariables false
set_option linter.unusedSimpArgs false


/-- The block so many ahead. -/
def upN (m : List (BitVec 8)) : Nat → List (BitVec 8)
  | 0 => m
  | q + 1 => upL (upN m q)
theorem upN_length (m : List (BitVec 8)) : ∀ q, m.length = 16 → (upN m q).length = 16
  | 0, h => h
  | q + 1, h => by rw [upN, upL_length', upN_length m q h]
def padL (ks m : List (BitVec 8)) (j : Nat) : BitVec 8 := by_ (encL ks (upN m (j / 16))) (j % 16)
def streamL (ks m d : List (BitVec 8)) : List (BitVec 8) := tab d.length fun j => by_ d j ^^^ padL ks m j
theorem streamL_length (ks m d : List (BitVec 8)) : (streamL ks m d).length = d.length := tab_length _ _
theorem pad_at (ks m : List (BitVec 8)) (q i k : Nat) (hi : i = 16 * q) (h1 : i ≤ k) (h2 : k < i + 16) : by_ (encL ks (upN m q)) (k - i) = padL ks m k := by
  subst hi
  unfold padL
  rw [show k / 16 = q by omega, show k % 16 = k - 16 * q by omega]
theorem fill_upto (n : Nat) (f g : Nat → BitVec 8) (k k2 : Nat) (hk : n ≤ k) (hk2 : n ≤ k2) : fillL n f g k = fillL n f g k2 := tab_congr fun j hj => by rw [if_pos (by omega), if_pos (by omega)]
set_option maxHeartbeats 4000000 in
set_option maxRecDepth 100000 in
theorem impl_cipher_stream.calls (gK : Nat) (ks m d : List (BitVec 8)) (n : Nat) (hk0 : ks.length = 176) (hm0 : m.length = 16) (hd0 : d.length = n) (hn0 : n ≤ 700) (A : Option Addr) (c : Nat) (w : World) (hb0 : w.heap[gK]? = some (.cells (cB ks) 111 (0, 0)))
    (hr0 : Kd.C (Kd.int .u8) w A (bL d).length (bL d)) (hc0 : (bL d).length ≤ c) :
    Calls Try.prog 107 #[.pointer (some ⟨gK, 0, none⟩), .agg (cB m), .slice A (bL d).length c] w fun e w' => ∃ v0_ : Value, e = .returned v0_ ∧ Kd.R (Kd.int .u8) 5 w' w.heap.size (fun _ => True) v0_ (bL (streamL ks m d)) ∧ Below w.heap.size w w' := by
  have hk := Aside0.mk hk0
  have hm := Aside0.mk hm0
  have hd := Aside0.mk hd0
  have hb := Aside0.mk hb0
  have HR := Aside0.mk hr0
  have hLC := Aside0.mk hc0
  have hcl : Aside0 (bytes_Clone.f (bL d) = some (bL d)) := ⟨by unfold bytes_Clone.f; rw [if_pos (by rw [bL_length]; omega)]⟩
  clear hk0 hm0 hd0 hb0 hr0 hc0
  have HB := Aside0.mk (Below.refl w.heap.size w)
  go_enter Try.func107, Try.ntmps107
  go_wp2_with (first
    | ((with_reducible refine gate_dst (N := 4) rfl ?_); refine box_event ?hg (N := 4) ?hd (cs := (cB m)) (t := 82) ?hr ?_; (case hd => rfl); (case hg => rfl); (case hr => first | (go_simp; done) | (go_simp; rfl)); intro g4 hg w4 hbox hb; have n0_ := Aside0.mk (below_step (by repeat (first | (with_reducible first | exact HB.out | apply below_alloc | apply pw_below_drewN | apply below_drew1) | exact HB.out)) hb); have n1_ := Aside0.mk hbox; have n2_ := Aside0.mk (by rw [hg]; exact below_size (by repeat (first | (with_reducible first | exact HB.out | apply below_alloc | apply pw_below_drewN | apply below_drew1) | exact HB.out)) : w.heap.size ≤ g4); clear HB; have HB := n0_; have BK4 := n1_; have GE4 := n2_; clear n0_ n1_ n2_; clear hb hbox hg)
    | (go_at_call 80; (with_reducible refine (bytes_Clone.calls A c (bL d) (bL d) _ ?hC_295 ?hL ?hF).mono ?_); (case hC_295 => first | exact Kd.C_below HR.out (by repeat (first | (with_reducible first | exact HB.out | apply below_alloc | apply pw_below_drewN | apply below_drew1) | exact HB.out)) | exact (Kd.C_below HR.out HB.out)); (case hL => exact hLC.out); (case hF => exact hcl.out); rintro e wk ⟨v7, rfl, ho7, hb⟩; have n0_ := Aside0.mk (Kd.R_lower ho7 (below_size (by repeat (first | (with_reducible first | exact HB.out | apply below_alloc | apply pw_below_drewN | apply below_drew1) | exact HB.out)))); have n1_ := Aside0.mk (below_step (by repeat (first | (with_reducible first | exact HB.out | apply below_alloc | apply pw_below_drewN | apply below_drew1) | exact HB.out)) hb); have n2_ := Aside0.mk (blk_below (g := g4) (o := .cells (cB m) 82 (0, 0)) (by (with_reducible repeat (first | refine blk_drewN ?_ _ | refine blk_drew ?_ | refine blk_alloc ?_ _)); exact BK4.out) hb); clear HB BK4; have HO7_ := n0_; have HB := n1_; have BK4 := n2_; clear n0_ n1_ n2_; have HO7 := HO7_; clear HO7_ ho7 hb))
  obtain ⟨Ao, co, ev⟩ := row_out HO7.out
  subst ev
  rw [hd.out] at HO7 ⊢
  go_loopw [8] (fun v8 W => ∃ q i : Nat, Aside0 (i = 16 * q) ∧ i ≤ 800 ∧ v8 = .int .i64 i ∧ Aside0 (W.heap[g4]? = some (.cells (cB (upN m q)) 82 (0, 0))) ∧ Aside0 (Kd.R (Kd.int .u8) 5 W w.heap.size (fun _ => True) (.slice Ao n co) (bL (fillL n (fun j => by_ d j ^^^ padL ks m j) (by_ d) i))) ∧ Aside0 (Below w.heap.size w W)) (fun v8 _ => 1000 - (intOf v8).toNat)
  case atStart => exact ⟨0, 0, ⟨rfl⟩, by omega, rfl, BK4, ⟨by rw [fillL_zero, ← hd.out, tab_self]; rw [hd.out]; exact HO7.out⟩, HB⟩
  case round =>
    clear BK4 HO7 HB
    obtain ⟨q, i, hiq, hi, rfl, BK4, HO7, HB⟩ := hrel
    by_cases hl : i < n
    · obtain ⟨go, eA, hgo⟩ := row_open HO7.out (by rw [fillL_length]; omega)
      subst eA
      have GE7 := Aside0.mk hgo
      clear hgo
      have hlt : decide (i < n) = true := decide_eq_true hl
      go_wp2_with (first
          | ((with_reducible refine gate_dst (N := 20) rfl ?_); refine wpList_load_row ?hg 82 (.tmp 4) ?ho g4 ?hx 82 (cB (upN m q)) (0, 0) _ ?hk Try.underlying82 rfl ?hi ?_; (case hg => rfl); (case ho => rfl); (case hx => rfl); (case hk => (with_reducible repeat (first | refine blk_drewN ?_ _ | refine blk_drew ?_ | refine blk_alloc ?_ _)); exact BK4.out); (case hi => rw [cB_size, upN_length _ _ hm.out]; kernel_rfl))
          | (go_at_call 99; (refine (impl_cipher_encrypt.calls gK ks (upN m q) hk.out (upN_length _ _ hm.out) _ ((Below.block (B := w.heap.size) (w := w) (by repeat (first | (with_reducible first | exact HB.out | apply below_alloc | apply pw_below_drewN | apply below_drew1) | exact HB.out)) gK (blk_lt hb.out)).trans hb.out)).mono ?_); rintro e wk ⟨rfl, hb9⟩; have n0_ := Aside0.mk (below_step (by repeat (first | (with_reducible first | exact HB.out | apply below_alloc | apply pw_below_drewN | apply below_drew1) | exact HB.out)) hb9); have n1_ := Aside0.mk (blk_below (g := g4) (o := .cells (cB (upN m q)) 82 (0, 0)) (by (with_reducible repeat (first | refine blk_drewN ?_ _ | refine blk_drew ?_ | refine blk_alloc ?_ _)); exact BK4.out) hb9); have n2_ := Aside0.mk (Kd.R_below (by (with_reducible repeat (first | apply Kd.R_alloc | apply Kd.R_drewN | apply Kd.R_drew)); exact HO7.out) hb9); clear HB BK4 HO7; have HB := n0_; have BK4 := n1_; have HO7 := n2_; clear n0_ n1_ n2_; clear hb9)
          | ((with_reducible refine gate_dst (N := 9) rfl ?_); refine box_event ?hg (N := 9) ?hd (cs := #[.int .u8 0, .int .u8 0, .int .u8 0, .int .u8 0, .int .u8 0, .int .u8 0, .int .u8 0, .int .u8 0, .int .u8 0, .int .u8 0, .int .u8 0, .int .u8 0, .int .u8 0, .int .u8 0, .int .u8 0, .int .u8 0]) (t := 82) ?hr ?_; (case hd => rfl); (case hg => rfl); (case hr => first | (go_simp; done) | (go_simp; rfl)); intro g9 hg w9 hbox hb; have n0_ := Aside0.mk (below_step (by repeat (first | (with_reducible first | exact HB.out | apply below_alloc | apply pw_below_drewN | apply below_drew1) | exact HB.out)) hb); have n1_ := Aside0.mk (blk_below (g := g4) (o := .cells (cB (upN m q)) 82 (0, 0)) (by (with_reducible repeat (first | refine blk_drewN ?_ _ | refine blk_drew ?_ | refine blk_alloc ?_ _)); exact BK4.out) hb); have n2_ := Aside0.mk (Kd.R_below (by (with_reducible repeat (first | apply Kd.R_alloc | apply Kd.R_drewN | apply Kd.R_drew)); exact HO7.out) hb); have n3_ := Aside0.mk hbox; have n4_ := Aside0.mk (by rw [hg]; exact below_size (by repeat (first | (with_reducible first | exact HB.out | apply below_alloc | apply pw_below_drewN | apply below_drew1) | exact HB.out)) : w.heap.size ≤ g9); have n5_ := Aside0.mk (by rw [hg]; exact Nat.ne_of_lt (blk_lt (g := g4) (o := .cells (cB (upN m q)) 82 (0, 0)) (by (with_reducible repeat (first | refine blk_drewN ?_ _ | refine blk_drew ?_ | refine blk_alloc ?_ _)); exact BK4.out)) : g4 ≠ g9); have n6_ := Aside0.mk (by rw [hg]; exact Nat.ne_of_gt (blk_lt (g := g4) (o := .cells (cB (upN m q)) 82 (0, 0)) (by (with_reducible repeat (first | refine blk_drewN ?_ _ | refine blk_drew ?_ | refine blk_alloc ?_ _)); exact BK4.out)) : g9 ≠ g4); clear HB BK4 HO7; have HB := n0_; have BK4 := n1_; have HO7 := n2_; have BK9 := n3_; have GE9 := n4_; have NE4_9 := n5_; have NE9_4 := n6_; clear n0_ n1_ n2_ n3_ n4_ n5_ n6_; clear hb hbox hg)
          | ((with_reducible refine gate_store (t := 82) (p := 9) rfl ?_); refine row_event ?hg (ty := 82) (p := 9) (y := ?yo_299) ?ho ?hn (g := g9) (old := #[.int .u8 0, .int .u8 0, .int .u8 0, .int .u8 0, .int .u8 0, .int .u8 0, .int .u8 0, .int .u8 0, .int .u8 0, .int .u8 0, .int .u8 0, .int .u8 0, .int .u8 0, .int .u8 0, .int .u8 0, .int .u8 0]) (e := 82) (cells := (cB (encL ks (upN m q)))) ?hx ?hy ?hk ?hi ?hd ?h1 ?_; (case ho => rfl); (case hg => rfl); (case hn => rfl); (case hx => rfl); (case hy => rfl); (case hk => (with_reducible repeat (first | refine blk_drewN ?_ _ | refine blk_drew ?_ | refine blk_alloc ?_ _)); exact BK9.out); (case hi => rw [cB_size, encL_length]; kernel_rfl); (case hd => rw [cB_size, encL_length]; rfl); (case h1 => exact cB_one _); intro wr_ hbk hgr; have n0_ := Aside0.mk (below_grown1 (by repeat (first | (with_reducible first | exact HB.out | apply below_alloc | apply pw_below_drewN | apply below_drew1) | exact HB.out)) hgr GE9.out); have n1_ := Aside0.mk (blk_grown1 (g' := g4) (ob := .cells (cB (upN m q)) 82 (0, 0)) (by (with_reducible repeat (first | refine blk_drewN ?_ _ | refine blk_drew ?_ | refine blk_alloc ?_ _)); exact BK4.out) hgr NE4_9.out); have n2_ := Aside0.mk (R_grown_types (by (with_reducible repeat (first | apply Kd.R_alloc | apply Kd.R_drewN | apply Kd.R_drew)); exact HO7.out) (by (with_reducible repeat (first | refine blk_drewN ?_ _ | refine blk_drew ?_ | refine blk_alloc ?_ _)); exact BK9.out) (by decide) hgr); have n3_ := Aside0.mk hbk; clear HB BK4 HO7 BK9; have HB := n0_; have BK4 := n1_; have HO7 := n2_; have BK9 := n3_; clear n0_ n1_ n2_ n3_; clear hbk hgr))
      go_wp2
      go_loopw [10] (fun v10 W => ∃ k : Nat, Aside0 (i ≤ k) ∧ k ≤ n ∧ k ≤ i + 16 ∧ v10 = .int .i64 k ∧ Aside0 (W.heap[g4]? = some (.cells (cB (upN m q)) 82 (0, 0))) ∧ Aside0 (W.heap[g9]? = some (.cells (cB (encL ks (upN m q))) 82 (0, 0))) ∧ Aside0 (Kd.R (Kd.int .u8) 5 W w.heap.size (fun _ => True) (.slice (some ⟨go, 0, none⟩) n co) (bL (fillL n (fun j => by_ d j ^^^ padL ks m j) (by_ d) k))) ∧ Aside0 (Below w.heap.size w W)) (fun v10 _ => 2000 - (intOf v10).toNat)
      case atStart => exact ⟨i, ⟨Nat.le_refl _⟩, by omega, by omega, rfl, BK4, BK9, HO7, HB⟩
      case round =>
        clear BK4 BK9 HO7 HB
        obtain ⟨k, hik, hk1, hk2, rfl, BK4, BK9, HO7, HB⟩ := hrel
        by_cases hkn0 : k < n
        · by_cases hki : k < i + 16
          · have hkn := Aside0.mk hkn0
            have hpad := Aside0.mk (pad_at ks m q i k hiq.out hik.out hki)
            have t1 : decide (k < n) = true := decide_eq_true hkn0
            have t2 : decide ((k : Int) < (i : Int) + 16) = true := decide_eq_true (by omega)
            have t3 : decide (k < i + 16) = true := decide_eq_true hki
            have hrc := row_cell HO7.out k hkn0
            have hx1 := hrc.1
            have hx2 := hrc.2
            clear hrc
            rw [fillL_get _ _ _ _ _ hkn0, if_neg (Nat.lt_irrefl _)] at hx1
            have hik0 := hik.out
            have hy1 : wr.cell? ⟨g9, k - i, none⟩ = some (.int .u8 (bI (by_ (encL ks (upN m q)) (k - i)))) := by rw [blk_cell BK9.out, cB_get _ _ (by rw [encL_length]; omega)]
            have s1 : Value.int .i64 (IntKind.i64.wrap ((k : Int) - (i : Int))) = .int .i64 ((k : Int) - (i : Int)) := by rw [IntWalk.i64_in _ (by omega)]
            have n1 : ∀ g : Nat, (⟨g, ((k : Int) - (i : Int)).toNat, none⟩ : Addr) = ⟨g, k - i, none⟩ := fun g => by rw [show ((k : Int) - (i : Int)).toNat = k - i by omega]
            have p1 := eq_true (show (0 : Int) ≤ (k : Int) - (i : Int) by omega)
            have p2 := eq_true (show (k : Int) - (i : Int) < 16 by omega)
            have p3 := eq_true (show (i : Int) ≤ (k : Int) by omega)
            have p4 := eq_true (show (0 : Int) ≤ (k : Int) by omega)
            have p5 := eq_true (show (k : Int) < (n : Int) by omega)
            clear hkn0 hki hik0
            go_wp2_with fail
            refine wp_region_tail 11 (by kernel_rfl) (by kernel_rfl) ?_
            simp only [List.take_succ_cons, List.take_zero, List.drop_succ_cons, List.drop_zero]
            repeat (first | still_step)
            refine wpStill_nil ?_
            clear s1 n1 p1 p2 p3 p4 p5 hy1
            go_wp2_with (first
                | ((with_reducible refine gate_store (t := 5) (p := 45) rfl ?_); refine rowput_event ?hg (t := 5) (p := 45) (v := ?vo_300) ?ho ?hn (n := n) (cap := co) (go := go) (xs := (fillL n (fun j => by_ d j ^^^ padL ks m j) (by_ d) k)) (e := 5) (base := w.heap.size) ?hR (i := k) (x := (Go.bits .xor .u8 (bI (by_ d k)) (bI (by_ (encL ks (upN m q)) (k - i))))) (b := (by_ d k ^^^ by_ (encL ks (upN m q)) (k - i))) ?hx ?hr ?_; (case ho => rfl); (case hg => rfl); (case hn => rfl); (case hR => exact (by (with_reducible repeat (first | apply Kd.R_alloc | apply Kd.R_drewN | apply Kd.R_drew)); exact HO7.out)); (case hx => rw [bI_xor]); (case hr => first | (go_simp; done) | (go_simp; rfl)); intro wc hrow hgr; have n0_ := Aside0.mk (below_grown1 (by repeat (first | (with_reducible first | exact HB.out | apply below_alloc | apply pw_below_drewN | apply below_drew1) | exact HB.out)) hgr GE7.out); have n1_ := Aside0.mk (row_other (e := 5) (bt := 82) (g := g4) (cells := (cB (upN m q))) (by (with_reducible repeat (first | apply Kd.R_alloc | apply Kd.R_drewN | apply Kd.R_drew)); exact HO7.out) (by (with_reducible repeat (first | refine blk_drewN ?_ _ | refine blk_drew ?_ | refine blk_alloc ?_ _)); exact BK4.out) (by decide) hgr); have n2_ := Aside0.mk (row_other (e := 5) (bt := 82) (g := g9) (cells := (cB (encL ks (upN m q)))) (by (with_reducible repeat (first | apply Kd.R_alloc | apply Kd.R_drewN | apply Kd.R_drew)); exact HO7.out) (by (with_reducible repeat (first | refine blk_drewN ?_ _ | refine blk_drew ?_ | refine blk_alloc ?_ _)); exact BK9.out) (by decide) hgr); have n3_ := Aside0.mk (show Kd.R (Kd.int .u8) 5 wc w.heap.size (fun _ => True) (.slice (some ⟨go, 0, none⟩) n co) (bL (fillL n (fun j => by_ d j ^^^ padL ks m j) (by_ d) (k + 1))) from by have e_ : (fillL n (fun j => by_ d j ^^^ padL ks m j) (by_ d) k).set k (by_ d k ^^^ padL ks m k) = fillL n (fun j => by_ d j ^^^ padL ks m j) (by_ d) (k + 1) := fillL_set n (fun j => by_ d j ^^^ padL ks m j) (by_ d) k hkn.out; rw [hpad.out, e_] at hrow; exact hrow); clear HB BK4 BK9 HO7; have HB := n0_; have BK4 := n1_; have BK9 := n2_; have HO7 := n3_; clear n0_ n1_ n2_ n3_; clear hrow hgr))
            go_roundw
            case rel => exact ⟨k + 1, ⟨by have := hik.out; omega⟩, by have := hkn.out; omega, by have := of_decide_eq_true t3; omega, by go_num, BK4, BK9, HO7, HB⟩
            case measure => simp [intOf]; have := hkn.out; omega
          · have t1 : decide (k < n) = true := decide_eq_true hkn0
            have t2 : decide ((k : Int) < (i : Int) + 16) = false := decide_eq_false (by omega)
            have t3 : decide (k < i + 16) = false := decide_eq_false hki
            obtain rfl : k = i + 16 := by omega
            go_wp2_with (first
                | ((with_reducible refine gate_dst (N := 46) rfl ?_); refine wpList_load_row ?hg 82 (.tmp 4) ?ho g4 ?hx 82 (cB (upN m q)) (0, 0) _ ?hk Try.underlying82 rfl ?hi ?_; (case hg => rfl); (case ho => rfl); (case hx => rfl); (case hk => (with_reducible repeat (first | refine blk_drewN ?_ _ | refine blk_drew ?_ | refine blk_alloc ?_ _)); exact BK4.out); (case hi => rw [cB_size, upN_length _ _ hm.out]; kernel_rfl))
                | (go_at_call 112; refine (impl_block_up.calls (upN m q) (upN_length _ _ hm.out) _).mono ?_; rintro e wk ⟨rfl, hb⟩; have n0_ := Aside0.mk (below_step (by repeat (first | (with_reducible first | exact HB.out | apply below_alloc | apply pw_below_drewN | apply below_drew1) | exact HB.out)) hb); have n1_ := Aside0.mk (blk_below (g := g4) (o := .cells (cB (upN m q)) 82 (0, 0)) (by (with_reducible repeat (first | refine blk_drewN ?_ _ | refine blk_drew ?_ | refine blk_alloc ?_ _)); exact BK4.out) hb); have n2_ := Aside0.mk (blk_below (g := g9) (o := .cells (cB (encL ks (upN m q))) 82 (0, 0)) (by (with_reducible repeat (first | refine blk_drewN ?_ _ | refine blk_drew ?_ | refine blk_alloc ?_ _)); exact BK9.out) hb); have n3_ := Aside0.mk (Kd.R_below (by (with_reducible repeat (first | apply Kd.R_alloc | apply Kd.R_drewN | apply Kd.R_drew)); exact HO7.out) hb); clear HB BK4 BK9 HO7; have HB := n0_; have BK4 := n1_; have BK9 := n2_; have HO7 := n3_; clear n0_ n1_ n2_ n3_; clear hb)
                | ((with_reducible refine gate_store (t := 82) (p := 4) rfl ?_); refine row_event ?hg (ty := 82) (p := 4) (y := ?yo_303) ?ho ?hn (g := g4) (old := (cB (upN m q))) (e := 82) (cells := (cB (upN m (q + 1)))) ?hx ?hy ?hk ?hi ?hd ?h1 ?_; (case ho => rfl); (case hg => rfl); (case hn => rfl); (case hx => rfl); (case hy => rfl); (case hk => (with_reducible repeat (first | refine blk_drewN ?_ _ | refine blk_drew ?_ | refine blk_alloc ?_ _)); exact BK4.out); (case hi => rw [cB_size, upN_length _ _ hm.out]; kernel_rfl); (case hd => rw [cB_size, cB_size, upN_length _ _ hm.out, upN_length _ _ hm.out]); (case h1 => exact cB_one _); intro wu_ hbk hgr; have n0_ := Aside0.mk (below_grown1 (by repeat (first | (with_reducible first | exact HB.out | apply below_alloc | apply pw_below_drewN | apply below_drew1) | exact HB.out)) hgr GE4.out); have n1_ := Aside0.mk (blk_grown1 (g' := g9) (ob := .cells (cB (encL ks (upN m q))) 82 (0, 0)) (by (with_reducible repeat (first | refine blk_drewN ?_ _ | refine blk_drew ?_ | refine blk_alloc ?_ _)); exact BK9.out) hgr NE9_4.out); have n2_ := Aside0.mk (R_grown_types (by (with_reducible repeat (first | apply Kd.R_alloc | apply Kd.R_drewN | apply Kd.R_drew)); exact HO7.out) (by (with_reducible repeat (first | refine blk_drewN ?_ _ | refine blk_drew ?_ | refine blk_alloc ?_ _)); exact BK4.out) (by decide) hgr); have n3_ := Aside0.mk hbk; clear HB BK9 HO7 BK4; have HB := n0_; have BK9 := n1_; have HO7 := n2_; have BK4 := n3_; clear n0_ n1_ n2_ n3_; clear hbk hgr))
            go_roundw
            case rel => exact ⟨q + 1, i + 16, ⟨by have := hiq.out; omega⟩, by omega, by go_num, BK4, HO7, HB⟩
            case measure => simp [intOf]; omega
        · have t1 : decide (k < n) = false := decide_eq_false hkn0
          obtain rfl : k = n := by omega
          go_wp2_with (first
              | ((with_reducible refine gate_dst (N := 46) rfl ?_); refine wpList_load_row ?hg 82 (.tmp 4) ?ho g4 ?hx 82 (cB (upN m q)) (0, 0) _ ?hk Try.underlying82 rfl ?hi ?_; (case hg => rfl); (case ho => rfl); (case hx => rfl); (case hk => (with_reducible repeat (first | refine blk_drewN ?_ _ | refine blk_drew ?_ | refine blk_alloc ?_ _)); exact BK4.out); (case hi => rw [cB_size, upN_length _ _ hm.out]; kernel_rfl))
              | (go_at_call 112; refine (impl_block_up.calls (upN m q) (upN_length _ _ hm.out) _).mono ?_; rintro e wk ⟨rfl, hb⟩; have n0_ := Aside0.mk (below_step (by repeat (first | (with_reducible first | exact HB.out | apply below_alloc | apply pw_below_drewN | apply below_drew1) | exact HB.out)) hb); have n1_ := Aside0.mk (blk_below (g := g4) (o := .cells (cB (upN m q)) 82 (0, 0)) (by (with_reducible repeat (first | refine blk_drewN ?_ _ | refine blk_drew ?_ | refine blk_alloc ?_ _)); exact BK4.out) hb); have n2_ := Aside0.mk (blk_below (g := g9) (o := .cells (cB (encL ks (upN m q))) 82 (0, 0)) (by (with_reducible repeat (first | refine blk_drewN ?_ _ | refine blk_drew ?_ | refine blk_alloc ?_ _)); exact BK9.out) hb); have n3_ := Aside0.mk (Kd.R_below (by (with_reducible repeat (first | apply Kd.R_alloc | apply Kd.R_drewN | apply Kd.R_drew)); exact HO7.out) hb); clear HB BK4 BK9 HO7; have HB := n0_; have BK4 := n1_; have BK9 := n2_; have HO7 := n3_; clear n0_ n1_ n2_ n3_; clear hb)
              | ((with_reducible refine gate_store (t := 82) (p := 4) rfl ?_); refine row_event ?hg (ty := 82) (p := 4) (y := ?yo_306) ?ho ?hn (g := g4) (old := (cB (upN m q))) (e := 82) (cells := (cB (upN m (q + 1)))) ?hx ?hy ?hk ?hi ?hd ?h1 ?_; (case ho => rfl); (case hg => rfl); (case hn => rfl); (case hx => rfl); (case hy => rfl); (case hk => (with_reducible repeat (first | refine blk_drewN ?_ _ | refine blk_drew ?_ | refine blk_alloc ?_ _)); exact BK4.out); (case hi => rw [cB_size, upN_length _ _ hm.out]; kernel_rfl); (case hd => rw [cB_size, cB_size, upN_length _ _ hm.out, upN_length _ _ hm.out]); (case h1 => exact cB_one _); intro wu_ hbk hgr; have n0_ := Aside0.mk (below_grown1 (by repeat (first | (with_reducible first | exact HB.out | apply below_alloc | apply pw_below_drewN | apply below_drew1) | exact HB.out)) hgr GE4.out); have n1_ := Aside0.mk (blk_grown1 (g' := g9) (ob := .cells (cB (encL ks (upN m q))) 82 (0, 0)) (by (with_reducible repeat (first | refine blk_drewN ?_ _ | refine blk_drew ?_ | refine blk_alloc ?_ _)); exact BK9.out) hgr NE9_4.out); have n2_ := Aside0.mk (R_grown_types (by (with_reducible repeat (first | apply Kd.R_alloc | apply Kd.R_drewN | apply Kd.R_drew)); exact HO7.out) (by (with_reducible repeat (first | refine blk_drewN ?_ _ | refine blk_drew ?_ | refine blk_alloc ?_ _)); exact BK4.out) (by decide) hgr); have n3_ := Aside0.mk hbk; clear HB BK9 HO7 BK4; have HB := n0_; have BK9 := n1_; have HO7 := n2_; have BK4 := n3_; clear n0_ n1_ n2_ n3_; clear hbk hgr))
          go_roundw
          case rel => exact ⟨q + 1, i + 16, ⟨by have := hiq.out; omega⟩, by omega, by go_num, BK4, ⟨by rw [fill_upto k (fun j => by_ d j ^^^ padL ks m j) (by_ d) (i + 16) k (by omega) (Nat.le_refl _)]; exact HO7.out⟩, HB⟩
          case measure => simp [intOf]; omega
    · have hlt : decide (i < n) = false := decide_eq_false hl
      go_wp2
      go_ret
      refine ⟨_, rfl, ?_, HB.out⟩
      have h9 := HO7.out
      rw [fill_upto n (fun j => by_ d j ^^^ padL ks m j) (by_ d) i n (by omega) (Nat.le_refl _), fillL_all] at h9
      rw [show streamL ks m d = tab n (fun j => by_ d j ^^^ padL ks m j) from by unfold streamL; rw [hd.out]]
      exact h9


set_option maxHeartbeats 4000000 in
set_option maxRecDepth 100000 in
theorem noBytes_str (n : Int) (w : World) : Calls Try.prog 88 #[.int .i64 n] w fun e w' => e = .returned (.agg #[.int .i64 n, .slice none 0 0]) ∧ Below w.heap.size w w' := by
  have HB := Aside0.mk (Below.refl w.heap.size w)
  go_enter Try.func88, Try.ntmps88
  go_wp2_with (first
    | ((with_reducible refine gate_dst (N := 2) rfl ?_); refine box_event ?hg (N := 2) ?hd (cs := #[.int .i64 0, .slice none 0 0]) (t := 26) ?hr ?_; (case hd => rfl); (case hg => rfl); (case hr => first | (go_simp; done) | (go_simp; rfl)); intro g2 hg w2 hbox hb; have n0_ := Aside0.mk (below_step (by repeat (first | (with_reducible first | exact HB.out | apply below_alloc | apply pw_below_drewN | apply below_drew1) | exact HB.out)) hb); have n1_ := Aside0.mk hbox; have n2_ := Aside0.mk (by rw [hg]; exact below_size (by repeat (first | (with_reducible first | exact HB.out | apply below_alloc | apply pw_below_drewN | apply below_drew1) | exact HB.out)) : w.heap.size ≤ g2); clear HB; have HB := n0_; have BK2 := n1_; have GE2 := n2_; clear n0_ n1_ n2_; clear hb hbox hg)
    | ((with_reducible refine gate_store (t := 26) (p := 2) rfl ?_); refine row_event ?hg (ty := 26) (p := 2) (y := ?yo_308) ?ho ?hn (g := g2) (old := #[.int .i64 0, .slice none 0 0]) (e := 26) (cells := #[.int .i64 n, .slice none 0 0]) ?hx ?hy ?hk ?hi ?hd ?h1 ?_; (case ho => rfl); (case hg => rfl); (case hn => rfl); (case hx => rfl); (case hy => rfl); (case hk => (with_reducible repeat (first | refine blk_drewN ?_ _ | refine blk_drew ?_ | refine blk_alloc ?_ _)); exact BK2.out); (case hi => kernel_rfl); (case hd => rfl); (case h1 => simp [Value.oneCell']); intro wr_ hbk hgr; have n0_ := Aside0.mk (below_grown1 (by repeat (first | (with_reducible first | exact HB.out | apply below_alloc | apply pw_below_drewN | apply below_drew1) | exact HB.out)) hgr GE2.out); have n1_ := Aside0.mk hbk; clear HB BK2; have HB := n0_; have BK2 := n1_; clear n0_ n1_; clear hbk hgr))
  refine bodyPost_ret (results_cell_row rfl _ _ g2 26 #[.int .i64 n, .slice none 0 0] (0, 0) _ rfl (by (with_reducible repeat (first | refine blk_drewN ?_ _ | refine blk_drew ?_ | refine blk_alloc ?_ _)); exact BK2.out) Try.underlying26 rfl (by kernel_rfl)) rfl ?_
  exact ⟨rfl, HB.out⟩
def impl_StreamXor.g (m0 m1 m2 : List (BitVec 8)) : Int × List Int := if m0.length = 16 ∧ m1.length = 16 ∧ m2.length ≤ 600 then (0, bL (streamL (schedL m0) m1 m2)) else (2, [])
def impl_StreamXor.f (l0 l1 l2 : List Int) : Option (Int × List Int) := if isBs l0 = true ∧ isBs l1 = true ∧ isBs l2 = true then some (impl_StreamXor.g (unB l0) (unB l1) (unB l2)) else none
set_option maxHeartbeats 4000000 in
set_option maxRecDepth 100000 in
theorem streamXor_here (A0 : Option Addr) (c0 : Nat) (m0 : List (BitVec 8)) (A1 : Option Addr) (c1 : Nat) (m1 : List (BitVec 8)) (A2 : Option Addr) (c2 : Nat) (m2 : List (BitVec 8)) (r1 : Int) (r2 : List Int) (w : World) (hr0 : Kd.C (Kd.int .u8) w A0 m0.length (bL m0)) (hr1 : Kd.C (Kd.int .u8) w A1 m1.length (bL m1)) (hr2 : Kd.C (Kd.int .u8) w A2 (bL m2).length (bL m2)) (hc2 : (bL m2).length ≤ c2) (h : impl_StreamXor.g m0 m1 m2 = (r1, r2)) :
    Calls Try.prog 50 #[.slice A0 m0.length c0, .slice A1 m1.length c1, .slice A2 (bL m2).length c2] w fun e w' => ∃ v1_ : Value, e = .returned (.agg #[.int .i64 r1, v1_]) ∧ Kd.R (Kd.int .u8) 5 w' w.heap.size (fun _ => True) v1_ r2 ∧ Below w.heap.size w w' := by
  have HR0 := Aside0.mk hr0
  have HR1 := Aside0.mk hr1
  have HR2 := Aside0.mk hr2
  have HC2 := Aside0.mk hc2
  have hl2 : (bL m2).length = m2.length := bL_length m2
  clear hr0 hr1 hr2 hc2
  have HB := Aside0.mk (Below.refl w.heap.size w)
  unfold impl_StreamXor.g at h
  by_cases h0 : m0.length = 16
  case neg =>
    rw [if_neg (fun q => h0 q.1)] at h
    simp only [Prod.mk.injEq] at h
    obtain ⟨e1, e2⟩ := h
    subst e1 e2
    have hk1 : ((m0.length : Int) != 16) = true := by rw [bne_iff_ne]; omega
    have hk2 : ((m0.length : Int) == 16) = false := by rw [beq_eq_false_iff_ne]; omega
    clear h0 hl2
    go_enter Try.func50, Try.ntmps50
    go_wp2_with (first
        | ((with_reducible refine gate_dst (N := 6) rfl ?_); refine box_event ?hg (N := 6) ?hd (cs := #[.int .i64 0, .slice none 0 0]) (t := 26) ?hr ?_; (case hd => rfl); (case hg => rfl); (case hr => first | (go_simp; done) | (go_simp; rfl)); intro g6 hg w6 hbox hb; have n0_ := Aside0.mk (below_step (by repeat (first | (with_reducible first | exact HB.out | apply below_alloc | apply pw_below_drewN | apply below_drew1) | exact HB.out)) hb); have n1_ := Aside0.mk hbox; have n2_ := Aside0.mk (by rw [hg]; exact below_size (by repeat (first | (with_reducible first | exact HB.out | apply below_alloc | apply pw_below_drewN | apply below_drew1) | exact HB.out)) : w.heap.size ≤ g6); clear HB; have HB := n0_; have BK6 := n1_; have GE6 := n2_; clear n0_ n1_ n2_; clear hb hbox hg)
        | (go_at_call 97; (with_reducible refine (impl_asBlock.calls A1 c1 m1 _ ?hC_310).mono ?_); (case hC_310 => (first | exact Kd.C_below HR1.out (by repeat (first | (with_reducible first | exact HB.out | apply below_alloc | apply pw_below_drewN | apply below_drew1) | exact HB.out)) | exact (Kd.C_below HR1.out HB.out))); rintro e wk ⟨rfl, hb⟩; have n0_ := Aside0.mk (below_step (by repeat (first | (with_reducible first | exact HB.out | apply below_alloc | apply pw_below_drewN | apply below_drew1) | exact HB.out)) hb); have n1_ := Aside0.mk (blk_below (g := g6) (o := .cells #[.int .i64 0, .slice none 0 0] 26 (0, 0)) (by (with_reducible repeat (first | refine blk_drewN ?_ _ | refine blk_drew ?_ | refine blk_alloc ?_ _)); exact BK6.out) hb); clear HB BK6; have HB := n0_; have BK6 := n1_; clear n0_ n1_; clear hb)
        | ((with_reducible refine gate_dst (N := 7) rfl ?_); refine box_event ?hg (N := 7) ?hd (cs := #[.int .u8 0, .int .u8 0, .int .u8 0, .int .u8 0, .int .u8 0, .int .u8 0, .int .u8 0, .int .u8 0, .int .u8 0, .int .u8 0, .int .u8 0, .int .u8 0, .int .u8 0, .int .u8 0, .int .u8 0, .int .u8 0]) (t := 82) ?hr ?_; (case hd => rfl); (case hg => rfl); (case hr => first | (go_simp; done) | (go_simp; rfl)); intro g7 hg w7 hbox hb; have n0_ := Aside0.mk (below_step (by repeat (first | (with_reducible first | exact HB.out | apply below_alloc | apply pw_below_drewN | apply below_drew1) | exact HB.out)) hb); have n1_ := Aside0.mk (blk_below (g := g6) (o := .cells #[.int .i64 0, .slice none 0 0] 26 (0, 0)) (by (with_reducible repeat (first | refine blk_drewN ?_ _ | refine blk_drew ?_ | refine blk_alloc ?_ _)); exact BK6.out) hb); have n2_ := Aside0.mk hbox; have n3_ := Aside0.mk (by rw [hg]; exact below_size (by repeat (first | (with_reducible first | exact HB.out | apply below_alloc | apply pw_below_drewN | apply below_drew1) | exact HB.out)) : w.heap.size ≤ g7); clear HB BK6; have HB := n0_; have BK6 := n1_; have BK7 := n2_; have GE7 := n3_; clear n0_ n1_ n2_ n3_; clear hb hbox hg)
        | ((with_reducible refine gate_store (t := 82) (p := 7) rfl ?_); refine row_event ?hg (ty := 82) (p := 7) (y := ?yo_312) ?ho ?hn (g := g7) (old := #[.int .u8 0, .int .u8 0, .int .u8 0, .int .u8 0, .int .u8 0, .int .u8 0, .int .u8 0, .int .u8 0, .int .u8 0, .int .u8 0, .int .u8 0, .int .u8 0, .int .u8 0, .int .u8 0, .int .u8 0, .int .u8 0]) (e := 82) (cells := (cB (pad16 m1))) ?hx ?hy ?hk ?hi ?hd ?h1 ?_; (case ho => rfl); (case hg => rfl); (case hn => rfl); (case hx => rfl); (case hy => rfl); (case hk => (with_reducible repeat (first | refine blk_drewN ?_ _ | refine blk_drew ?_ | refine blk_alloc ?_ _)); exact BK7.out); (case hi => rw [cB_size, pad16_length]; kernel_rfl); (case hd => rw [cB_size, pad16_length]; rfl); (case h1 => exact cB_one _); intro wr_ hbk hgr; have n0_ := Aside0.mk (below_grown1 (by repeat (first | (with_reducible first | exact HB.out | apply below_alloc | apply pw_below_drewN | apply below_drew1) | exact HB.out)) hgr GE7.out); have n1_ := Aside0.mk (blk_grown1 (g' := g6) (ob := .cells #[.int .i64 0, .slice none 0 0] 26 (0, 0)) (by (with_reducible repeat (first | refine blk_drewN ?_ _ | refine blk_drew ?_ | refine blk_alloc ?_ _)); exact BK6.out) hgr (blk_ne (by (with_reducible repeat (first | refine blk_drewN ?_ _ | refine blk_drew ?_ | refine blk_alloc ?_ _)); exact BK6.out) (by (with_reducible repeat (first | refine blk_drewN ?_ _ | refine blk_drew ?_ | refine blk_alloc ?_ _)); exact BK7.out) (by decide))); have n2_ := Aside0.mk hbk; clear HB BK6 BK7; have HB := n0_; have BK6 := n1_; have BK7 := n2_; clear n0_ n1_ n2_; clear hbk hgr)
        | (go_at_call 88; refine (noBytes_str 2 _).mono ?_; rintro e wk2 ⟨rfl, hb⟩; have n0_ := Aside0.mk (below_step (by repeat (first | (with_reducible first | exact HB.out | apply below_alloc | apply pw_below_drewN | apply below_drew1) | exact HB.out)) hb); have n1_ := Aside0.mk (blk_below (g := g6) (o := .cells #[.int .i64 0, .slice none 0 0] 26 (0, 0)) (by (with_reducible repeat (first | refine blk_drewN ?_ _ | refine blk_drew ?_ | refine blk_alloc ?_ _)); exact BK6.out) hb); have n2_ := Aside0.mk (blk_below (g := g7) (o := .cells (cB (pad16 m1)) 82 (0, 0)) (by (with_reducible repeat (first | refine blk_drewN ?_ _ | refine blk_drew ?_ | refine blk_alloc ?_ _)); exact BK7.out) hb); clear HB BK6 BK7; have HB := n0_; have BK6 := n1_; have BK7 := n2_; clear n0_ n1_ n2_; clear hb)
        | ((with_reducible refine gate_store (t := 26) (p := 6) rfl ?_); refine row_event ?hg (ty := 26) (p := 6) (y := ?yo_314) ?ho ?hn (g := g6) (old := #[.int .i64 0, .slice none 0 0]) (e := 26) (cells := #[.int .i64 2, .slice none 0 0]) ?hx ?hy ?hk ?hi ?hd ?h1 ?_; (case ho => rfl); (case hg => rfl); (case hn => rfl); (case hx => rfl); (case hy => rfl); (case hk => (with_reducible repeat (first | refine blk_drewN ?_ _ | refine blk_drew ?_ | refine blk_alloc ?_ _)); exact BK6.out); (case hi => kernel_rfl); (case hd => rfl); (case h1 => simp [Value.oneCell']); intro wr_ hbk hgr; have n0_ := Aside0.mk (below_grown1 (by repeat (first | (with_reducible first | exact HB.out | apply below_alloc | apply pw_below_drewN | apply below_drew1) | exact HB.out)) hgr GE6.out); have n1_ := Aside0.mk (blk_grown1 (g' := g7) (ob := .cells (cB (pad16 m1)) 82 (0, 0)) (by (with_reducible repeat (first | refine blk_drewN ?_ _ | refine blk_drew ?_ | refine blk_alloc ?_ _)); exact BK7.out) hgr (blk_ne (by (with_reducible repeat (first | refine blk_drewN ?_ _ | refine blk_drew ?_ | refine blk_alloc ?_ _)); exact BK7.out) (by (with_reducible repeat (first | refine blk_drewN ?_ _ | refine blk_drew ?_ | refine blk_alloc ?_ _)); exact BK6.out) (by decide))); have n2_ := Aside0.mk hbk; clear HB BK7 BK6; have HB := n0_; have BK7 := n1_; have BK6 := n2_; clear n0_ n1_ n2_; clear hbk hgr))
    refine bodyPost_ret (results_cell_row rfl _ _ g6 26 #[.int .i64 2, .slice none 0 0] (0, 0) _ rfl (by (with_reducible repeat (first | refine blk_drewN ?_ _ | refine blk_drew ?_ | refine blk_alloc ?_ _)); exact BK6.out) Try.underlying26 rfl (by kernel_rfl)) rfl ?_
    exact ⟨_, rfl, Kd.R_nil _ _ _ _ _, HB.out⟩
  by_cases h1 : m1.length = 16
  case neg =>
    rw [if_neg (fun q => h1 q.2.1)] at h
    simp only [Prod.mk.injEq] at h
    obtain ⟨e1, e2⟩ := h
    subst e1 e2
    have hd1 : decide (m1.length = 16) = false := decide_eq_false h1
    have hk1 : ((m0.length : Int) != 16) = false := by rw [bne_eq_false_iff_eq]; omega
    have hk2 : ((m0.length : Int) == 16) = true := by rw [beq_iff_eq]; omega
    clear h0 h1 hl2
    go_enter Try.func50, Try.ntmps50
    go_wp2_with (first
        | ((with_reducible refine gate_dst (N := 6) rfl ?_); refine box_event ?hg (N := 6) ?hd (cs := #[.int .i64 0, .slice none 0 0]) (t := 26) ?hr ?_; (case hd => rfl); (case hg => rfl); (case hr => first | (go_simp; done) | (go_simp; rfl)); intro g6 hg w6 hbox hb; have n0_ := Aside0.mk (below_step (by repeat (first | (with_reducible first | exact HB.out | apply below_alloc | apply pw_below_drewN | apply below_drew1) | exact HB.out)) hb); have n1_ := Aside0.mk hbox; have n2_ := Aside0.mk (by rw [hg]; exact below_size (by repeat (first | (with_reducible first | exact HB.out | apply below_alloc | apply pw_below_drewN | apply below_drew1) | exact HB.out)) : w.heap.size ≤ g6); clear HB; have HB := n0_; have BK6 := n1_; have GE6 := n2_; clear n0_ n1_ n2_; clear hb hbox hg)
        | (go_at_call 97; (with_reducible refine (impl_asBlock.calls A1 c1 m1 _ ?hC_316).mono ?_); (case hC_316 => (first | exact Kd.C_below HR1.out (by repeat (first | (with_reducible first | exact HB.out | apply below_alloc | apply pw_below_drewN | apply below_drew1) | exact HB.out)) | exact (Kd.C_below HR1.out HB.out))); rintro e wk ⟨rfl, hb⟩; have n0_ := Aside0.mk (below_step (by repeat (first | (with_reducible first | exact HB.out | apply below_alloc | apply pw_below_drewN | apply below_drew1) | exact HB.out)) hb); have n1_ := Aside0.mk (blk_below (g := g6) (o := .cells #[.int .i64 0, .slice none 0 0] 26 (0, 0)) (by (with_reducible repeat (first | refine blk_drewN ?_ _ | refine blk_drew ?_ | refine blk_alloc ?_ _)); exact BK6.out) hb); clear HB BK6; have HB := n0_; have BK6 := n1_; clear n0_ n1_; clear hb)
        | ((with_reducible refine gate_dst (N := 7) rfl ?_); refine box_event ?hg (N := 7) ?hd (cs := #[.int .u8 0, .int .u8 0, .int .u8 0, .int .u8 0, .int .u8 0, .int .u8 0, .int .u8 0, .int .u8 0, .int .u8 0, .int .u8 0, .int .u8 0, .int .u8 0, .int .u8 0, .int .u8 0, .int .u8 0, .int .u8 0]) (t := 82) ?hr ?_; (case hd => rfl); (case hg => rfl); (case hr => first | (go_simp; done) | (go_simp; rfl)); intro g7 hg w7 hbox hb; have n0_ := Aside0.mk (below_step (by repeat (first | (with_reducible first | exact HB.out | apply below_alloc | apply pw_below_drewN | apply below_drew1) | exact HB.out)) hb); have n1_ := Aside0.mk (blk_below (g := g6) (o := .cells #[.int .i64 0, .slice none 0 0] 26 (0, 0)) (by (with_reducible repeat (first | refine blk_drewN ?_ _ | refine blk_drew ?_ | refine blk_alloc ?_ _)); exact BK6.out) hb); have n2_ := Aside0.mk hbox; have n3_ := Aside0.mk (by rw [hg]; exact below_size (by repeat (first | (with_reducible first | exact HB.out | apply below_alloc | apply pw_below_drewN | apply below_drew1) | exact HB.out)) : w.heap.size ≤ g7); clear HB BK6; have HB := n0_; have BK6 := n1_; have BK7 := n2_; have GE7 := n3_; clear n0_ n1_ n2_ n3_; clear hb hbox hg)
        | ((with_reducible refine gate_store (t := 82) (p := 7) rfl ?_); refine row_event ?hg (ty := 82) (p := 7) (y := ?yo_318) ?ho ?hn (g := g7) (old := #[.int .u8 0, .int .u8 0, .int .u8 0, .int .u8 0, .int .u8 0, .int .u8 0, .int .u8 0, .int .u8 0, .int .u8 0, .int .u8 0, .int .u8 0, .int .u8 0, .int .u8 0, .int .u8 0, .int .u8 0, .int .u8 0]) (e := 82) (cells := (cB (pad16 m1))) ?hx ?hy ?hk ?hi ?hd ?h1 ?_; (case ho => rfl); (case hg => rfl); (case hn => rfl); (case hx => rfl); (case hy => rfl); (case hk => (with_reducible repeat (first | refine blk_drewN ?_ _ | refine blk_drew ?_ | refine blk_alloc ?_ _)); exact BK7.out); (case hi => rw [cB_size, pad16_length]; kernel_rfl); (case hd => rw [cB_size, pad16_length]; rfl); (case h1 => exact cB_one _); intro wr_ hbk hgr; have n0_ := Aside0.mk (below_grown1 (by repeat (first | (with_reducible first | exact HB.out | apply below_alloc | apply pw_below_drewN | apply below_drew1) | exact HB.out)) hgr GE7.out); have n1_ := Aside0.mk (blk_grown1 (g' := g6) (ob := .cells #[.int .i64 0, .slice none 0 0] 26 (0, 0)) (by (with_reducible repeat (first | refine blk_drewN ?_ _ | refine blk_drew ?_ | refine blk_alloc ?_ _)); exact BK6.out) hgr (blk_ne (by (with_reducible repeat (first | refine blk_drewN ?_ _ | refine blk_drew ?_ | refine blk_alloc ?_ _)); exact BK6.out) (by (with_reducible repeat (first | refine blk_drewN ?_ _ | refine blk_drew ?_ | refine blk_alloc ?_ _)); exact BK7.out) (by decide))); have n2_ := Aside0.mk hbk; clear HB BK6 BK7; have HB := n0_; have BK6 := n1_; have BK7 := n2_; clear n0_ n1_ n2_; clear hbk hgr)
        | (go_at_call 88; refine (noBytes_str 2 _).mono ?_; rintro e wk2 ⟨rfl, hb⟩; have n0_ := Aside0.mk (below_step (by repeat (first | (with_reducible first | exact HB.out | apply below_alloc | apply pw_below_drewN | apply below_drew1) | exact HB.out)) hb); have n1_ := Aside0.mk (blk_below (g := g6) (o := .cells #[.int .i64 0, .slice none 0 0] 26 (0, 0)) (by (with_reducible repeat (first | refine blk_drewN ?_ _ | refine blk_drew ?_ | refine blk_alloc ?_ _)); exact BK6.out) hb); have n2_ := Aside0.mk (blk_below (g := g7) (o := .cells (cB (pad16 m1)) 82 (0, 0)) (by (with_reducible repeat (first | refine blk_drewN ?_ _ | refine blk_drew ?_ | refine blk_alloc ?_ _)); exact BK7.out) hb); clear HB BK6 BK7; have HB := n0_; have BK6 := n1_; have BK7 := n2_; clear n0_ n1_ n2_; clear hb)
        | ((with_reducible refine gate_store (t := 26) (p := 6) rfl ?_); refine row_event ?hg (ty := 26) (p := 6) (y := ?yo_320) ?ho ?hn (g := g6) (old := #[.int .i64 0, .slice none 0 0]) (e := 26) (cells := #[.int .i64 2, .slice none 0 0]) ?hx ?hy ?hk ?hi ?hd ?h1 ?_; (case ho => rfl); (case hg => rfl); (case hn => rfl); (case hx => rfl); (case hy => rfl); (case hk => (with_reducible repeat (first | refine blk_drewN ?_ _ | refine blk_drew ?_ | refine blk_alloc ?_ _)); exact BK6.out); (case hi => kernel_rfl); (case hd => rfl); (case h1 => simp [Value.oneCell']); intro wr_ hbk hgr; have n0_ := Aside0.mk (below_grown1 (by repeat (first | (with_reducible first | exact HB.out | apply below_alloc | apply pw_below_drewN | apply below_drew1) | exact HB.out)) hgr GE6.out); have n1_ := Aside0.mk (blk_grown1 (g' := g7) (ob := .cells (cB (pad16 m1)) 82 (0, 0)) (by (with_reducible repeat (first | refine blk_drewN ?_ _ | refine blk_drew ?_ | refine blk_alloc ?_ _)); exact BK7.out) hgr (blk_ne (by (with_reducible repeat (first | refine blk_drewN ?_ _ | refine blk_drew ?_ | refine blk_alloc ?_ _)); exact BK7.out) (by (with_reducible repeat (first | refine blk_drewN ?_ _ | refine blk_drew ?_ | refine blk_alloc ?_ _)); exact BK6.out) (by decide))); have n2_ := Aside0.mk hbk; clear HB BK7 BK6; have HB := n0_; have BK7 := n1_; have BK6 := n2_; clear n0_ n1_ n2_; clear hbk hgr))
    refine bodyPost_ret (results_cell_row rfl _ _ g6 26 #[.int .i64 2, .slice none 0 0] (0, 0) _ rfl (by (with_reducible repeat (first | refine blk_drewN ?_ _ | refine blk_drew ?_ | refine blk_alloc ?_ _)); exact BK6.out) Try.underlying26 rfl (by kernel_rfl)) rfl ?_
    exact ⟨_, rfl, Kd.R_nil _ _ _ _ _, HB.out⟩
  by_cases h2 : m2.length ≤ 600
  case neg =>
    rw [if_neg (fun q => h2 q.2.2)] at h
    simp only [Prod.mk.injEq] at h
    obtain ⟨e1, e2⟩ := h
    subst e1 e2
    have hd1 : decide (m1.length = 16) = true := decide_eq_true h1
    have hk1 : ((m0.length : Int) != 16) = false := by rw [bne_eq_false_iff_eq]; omega
    have hk2 : ((m0.length : Int) == 16) = true := by rw [beq_iff_eq]; omega
    have hk3 : decide ((((bL m2).length : Nat) : Int) > 600) = true := decide_eq_true (by omega)
    have hk4 : decide (600 < (((bL m2).length : Nat) : Int)) = true := decide_eq_true (by omega)
    clear h0 h1 h2 hl2
    go_enter Try.func50, Try.ntmps50
    go_wp2_with (first
        | ((with_reducible refine gate_dst (N := 6) rfl ?_); refine box_event ?hg (N := 6) ?hd (cs := #[.int .i64 0, .slice none 0 0]) (t := 26) ?hr ?_; (case hd => rfl); (case hg => rfl); (case hr => first | (go_simp; done) | (go_simp; rfl)); intro g6 hg w6 hbox hb; have n0_ := Aside0.mk (below_step (by repeat (first | (with_reducible first | exact HB.out | apply below_alloc | apply pw_below_drewN | apply below_drew1) | exact HB.out)) hb); have n1_ := Aside0.mk hbox; have n2_ := Aside0.mk (by rw [hg]; exact below_size (by repeat (first | (with_reducible first | exact HB.out | apply below_alloc | apply pw_below_drewN | apply below_drew1) | exact HB.out)) : w.heap.size ≤ g6); clear HB; have HB := n0_; have BK6 := n1_; have GE6 := n2_; clear n0_ n1_ n2_; clear hb hbox hg)
        | (go_at_call 97; (with_reducible refine (impl_asBlock.calls A1 c1 m1 _ ?hC_322).mono ?_); (case hC_322 => (first | exact Kd.C_below HR1.out (by repeat (first | (with_reducible first | exact HB.out | apply below_alloc | apply pw_below_drewN | apply below_drew1) | exact HB.out)) | exact (Kd.C_below HR1.out HB.out))); rintro e wk ⟨rfl, hb⟩; have n0_ := Aside0.mk (below_step (by repeat (first | (with_reducible first | exact HB.out | apply below_alloc | apply pw_below_drewN | apply below_drew1) | exact HB.out)) hb); have n1_ := Aside0.mk (blk_below (g := g6) (o := .cells #[.int .i64 0, .slice none 0 0] 26 (0, 0)) (by (with_reducible repeat (first | refine blk_drewN ?_ _ | refine blk_drew ?_ | refine blk_alloc ?_ _)); exact BK6.out) hb); clear HB BK6; have HB := n0_; have BK6 := n1_; clear n0_ n1_; clear hb)
        | ((with_reducible refine gate_dst (N := 7) rfl ?_); refine box_event ?hg (N := 7) ?hd (cs := #[.int .u8 0, .int .u8 0, .int .u8 0, .int .u8 0, .int .u8 0, .int .u8 0, .int .u8 0, .int .u8 0, .int .u8 0, .int .u8 0, .int .u8 0, .int .u8 0, .int .u8 0, .int .u8 0, .int .u8 0, .int .u8 0]) (t := 82) ?hr ?_; (case hd => rfl); (case hg => rfl); (case hr => first | (go_simp; done) | (go_simp; rfl)); intro g7 hg w7 hbox hb; have n0_ := Aside0.mk (below_step (by repeat (first | (with_reducible first | exact HB.out | apply below_alloc | apply pw_below_drewN | apply below_drew1) | exact HB.out)) hb); have n1_ := Aside0.mk (blk_below (g := g6) (o := .cells #[.int .i64 0, .slice none 0 0] 26 (0, 0)) (by (with_reducible repeat (first | refine blk_drewN ?_ _ | refine blk_drew ?_ | refine blk_alloc ?_ _)); exact BK6.out) hb); have n2_ := Aside0.mk hbox; have n3_ := Aside0.mk (by rw [hg]; exact below_size (by repeat (first | (with_reducible first | exact HB.out | apply below_alloc | apply pw_below_drewN | apply below_drew1) | exact HB.out)) : w.heap.size ≤ g7); clear HB BK6; have HB := n0_; have BK6 := n1_; have BK7 := n2_; have GE7 := n3_; clear n0_ n1_ n2_ n3_; clear hb hbox hg)
        | ((with_reducible refine gate_store (t := 82) (p := 7) rfl ?_); refine row_event ?hg (ty := 82) (p := 7) (y := ?yo_324) ?ho ?hn (g := g7) (old := #[.int .u8 0, .int .u8 0, .int .u8 0, .int .u8 0, .int .u8 0, .int .u8 0, .int .u8 0, .int .u8 0, .int .u8 0, .int .u8 0, .int .u8 0, .int .u8 0, .int .u8 0, .int .u8 0, .int .u8 0, .int .u8 0]) (e := 82) (cells := (cB (pad16 m1))) ?hx ?hy ?hk ?hi ?hd ?h1 ?_; (case ho => rfl); (case hg => rfl); (case hn => rfl); (case hx => rfl); (case hy => rfl); (case hk => (with_reducible repeat (first | refine blk_drewN ?_ _ | refine blk_drew ?_ | refine blk_alloc ?_ _)); exact BK7.out); (case hi => rw [cB_size, pad16_length]; kernel_rfl); (case hd => rw [cB_size, pad16_length]; rfl); (case h1 => exact cB_one _); intro wr_ hbk hgr; have n0_ := Aside0.mk (below_grown1 (by repeat (first | (with_reducible first | exact HB.out | apply below_alloc | apply pw_below_drewN | apply below_drew1) | exact HB.out)) hgr GE7.out); have n1_ := Aside0.mk (blk_grown1 (g' := g6) (ob := .cells #[.int .i64 0, .slice none 0 0] 26 (0, 0)) (by (with_reducible repeat (first | refine blk_drewN ?_ _ | refine blk_drew ?_ | refine blk_alloc ?_ _)); exact BK6.out) hgr (blk_ne (by (with_reducible repeat (first | refine blk_drewN ?_ _ | refine blk_drew ?_ | refine blk_alloc ?_ _)); exact BK6.out) (by (with_reducible repeat (first | refine blk_drewN ?_ _ | refine blk_drew ?_ | refine blk_alloc ?_ _)); exact BK7.out) (by decide))); have n2_ := Aside0.mk hbk; clear HB BK6 BK7; have HB := n0_; have BK6 := n1_; have BK7 := n2_; clear n0_ n1_ n2_; clear hbk hgr)
        | (go_at_call 88; refine (noBytes_str 2 _).mono ?_; rintro e wk2 ⟨rfl, hb⟩; have n0_ := Aside0.mk (below_step (by repeat (first | (with_reducible first | exact HB.out | apply below_alloc | apply pw_below_drewN | apply below_drew1) | exact HB.out)) hb); have n1_ := Aside0.mk (blk_below (g := g6) (o := .cells #[.int .i64 0, .slice none 0 0] 26 (0, 0)) (by (with_reducible repeat (first | refine blk_drewN ?_ _ | refine blk_drew ?_ | refine blk_alloc ?_ _)); exact BK6.out) hb); have n2_ := Aside0.mk (blk_below (g := g7) (o := .cells (cB (pad16 m1)) 82 (0, 0)) (by (with_reducible repeat (first | refine blk_drewN ?_ _ | refine blk_drew ?_ | refine blk_alloc ?_ _)); exact BK7.out) hb); clear HB BK6 BK7; have HB := n0_; have BK6 := n1_; have BK7 := n2_; clear n0_ n1_ n2_; clear hb)
        | ((with_reducible refine gate_store (t := 26) (p := 6) rfl ?_); refine row_event ?hg (ty := 26) (p := 6) (y := ?yo_326) ?ho ?hn (g := g6) (old := #[.int .i64 0, .slice none 0 0]) (e := 26) (cells := #[.int .i64 2, .slice none 0 0]) ?hx ?hy ?hk ?hi ?hd ?h1 ?_; (case ho => rfl); (case hg => rfl); (case hn => rfl); (case hx => rfl); (case hy => rfl); (case hk => (with_reducible repeat (first | refine blk_drewN ?_ _ | refine blk_drew ?_ | refine blk_alloc ?_ _)); exact BK6.out); (case hi => kernel_rfl); (case hd => rfl); (case h1 => simp [Value.oneCell']); intro wr_ hbk hgr; have n0_ := Aside0.mk (below_grown1 (by repeat (first | (with_reducible first | exact HB.out | apply below_alloc | apply pw_below_drewN | apply below_drew1) | exact HB.out)) hgr GE6.out); have n1_ := Aside0.mk (blk_grown1 (g' := g7) (ob := .cells (cB (pad16 m1)) 82 (0, 0)) (by (with_reducible repeat (first | refine blk_drewN ?_ _ | refine blk_drew ?_ | refine blk_alloc ?_ _)); exact BK7.out) hgr (blk_ne (by (with_reducible repeat (first | refine blk_drewN ?_ _ | refine blk_drew ?_ | refine blk_alloc ?_ _)); exact BK7.out) (by (with_reducible repeat (first | refine blk_drewN ?_ _ | refine blk_drew ?_ | refine blk_alloc ?_ _)); exact BK6.out) (by decide))); have n2_ := Aside0.mk hbk; clear HB BK7 BK6; have HB := n0_; have BK7 := n1_; have BK6 := n2_; clear n0_ n1_ n2_; clear hbk hgr))
    refine bodyPost_ret (results_cell_row rfl _ _ g6 26 #[.int .i64 2, .slice none 0 0] (0, 0) _ rfl (by (with_reducible repeat (first | refine blk_drewN ?_ _ | refine blk_drew ?_ | refine blk_alloc ?_ _)); exact BK6.out) Try.underlying26 rfl (by kernel_rfl)) rfl ?_
    exact ⟨_, rfl, Kd.R_nil _ _ _ _ _, HB.out⟩
  rw [if_pos ⟨h0, h1, h2⟩] at h
  simp only [Prod.mk.injEq] at h
  obtain ⟨e1, e2⟩ := h
  subst e1 e2
  have hd1 : decide (m1.length = 16) = true := decide_eq_true h1
  have hk1 : ((m0.length : Int) != 16) = false := by rw [bne_eq_false_iff_eq]; omega
  have hk2 : ((m0.length : Int) == 16) = true := by rw [beq_iff_eq]; omega
  have hk3 : decide ((((bL m2).length : Nat) : Int) > 600) = false := decide_eq_false (by omega)
  have hk4 : decide (600 < (((bL m2).length : Nat) : Int)) = false := decide_eq_false (by omega)
  have hm0 := Aside0.mk h0
  have hm1 := Aside0.mk (pad16_self m1 h1)
  have hn2 := Aside0.mk (show m2.length ≤ 700 by omega)
  clear h0 h1 h2 hl2
  go_enter Try.func50, Try.ntmps50
  go_wp2_with (first
    | ((with_reducible refine gate_dst (N := 6) rfl ?_); refine box_event ?hg (N := 6) ?hd (cs := #[.int .i64 0, .slice none 0 0]) (t := 26) ?hr ?_; (case hd => rfl); (case hg => rfl); (case hr => first | (go_simp; done) | (go_simp; rfl)); intro g6 hg w6 hbox hb; have n0_ := Aside0.mk (below_step (by repeat (first | (with_reducible first | exact HB.out | apply below_alloc | apply pw_below_drewN | apply below_drew1) | exact HB.out)) hb); have n1_ := Aside0.mk hbox; have n2_ := Aside0.mk (by rw [hg]; exact below_size (by repeat (first | (with_reducible first | exact HB.out | apply below_alloc | apply pw_below_drewN | apply below_drew1) | exact HB.out)) : w.heap.size ≤ g6); clear HB; have HB := n0_; have BK6 := n1_; have GE6 := n2_; clear n0_ n1_ n2_; clear hb hbox hg)
    | (go_at_call 97; (with_reducible refine (impl_asBlock.calls A1 c1 m1 _ ?hC_328).mono ?_); (case hC_328 => (first | exact Kd.C_below HR1.out (by repeat (first | (with_reducible first | exact HB.out | apply below_alloc | apply pw_below_drewN | apply below_drew1) | exact HB.out)) | exact (Kd.C_below HR1.out HB.out))); rintro e wk ⟨rfl, hb⟩; have n0_ := Aside0.mk (below_step (by repeat (first | (with_reducible first | exact HB.out | apply below_alloc | apply pw_below_drewN | apply below_drew1) | exact HB.out)) hb); have n1_ := Aside0.mk (blk_below (g := g6) (o := .cells #[.int .i64 0, .slice none 0 0] 26 (0, 0)) (by (with_reducible repeat (first | refine blk_drewN ?_ _ | refine blk_drew ?_ | refine blk_alloc ?_ _)); exact BK6.out) hb); clear HB BK6; have HB := n0_; have BK6 := n1_; clear n0_ n1_; clear hb)
    | ((with_reducible refine gate_dst (N := 7) rfl ?_); refine box_event ?hg (N := 7) ?hd (cs := #[.int .u8 0, .int .u8 0, .int .u8 0, .int .u8 0, .int .u8 0, .int .u8 0, .int .u8 0, .int .u8 0, .int .u8 0, .int .u8 0, .int .u8 0, .int .u8 0, .int .u8 0, .int .u8 0, .int .u8 0, .int .u8 0]) (t := 82) ?hr ?_; (case hd => rfl); (case hg => rfl); (case hr => first | (go_simp; done) | (go_simp; rfl)); intro g7 hg w7 hbox hb; have n0_ := Aside0.mk (below_step (by repeat (first | (with_reducible first | exact HB.out | apply below_alloc | apply pw_below_drewN | apply below_drew1) | exact HB.out)) hb); have n1_ := Aside0.mk (blk_below (g := g6) (o := .cells #[.int .i64 0, .slice none 0 0] 26 (0, 0)) (by (with_reducible repeat (first | refine blk_drewN ?_ _ | refine blk_drew ?_ | refine blk_alloc ?_ _)); exact BK6.out) hb); have n2_ := Aside0.mk hbox; have n3_ := Aside0.mk (by rw [hg]; exact below_size (by repeat (first | (with_reducible first | exact HB.out | apply below_alloc | apply pw_below_drewN | apply below_drew1) | exact HB.out)) : w.heap.size ≤ g7); clear HB BK6; have HB := n0_; have BK6 := n1_; have BK7 := n2_; have GE7 := n3_; clear n0_ n1_ n2_ n3_; clear hb hbox hg)
    | ((with_reducible refine gate_store (t := 82) (p := 7) rfl ?_); refine row_event ?hg (ty := 82) (p := 7) (y := ?yo_330) ?ho ?hn (g := g7) (old := #[.int .u8 0, .int .u8 0, .int .u8 0, .int .u8 0, .int .u8 0, .int .u8 0, .int .u8 0, .int .u8 0, .int .u8 0, .int .u8 0, .int .u8 0, .int .u8 0, .int .u8 0, .int .u8 0, .int .u8 0, .int .u8 0]) (e := 82) (cells := (cB (pad16 m1))) ?hx ?hy ?hk ?hi ?hd ?h1 ?_; (case ho => rfl); (case hg => rfl); (case hn => rfl); (case hx => rfl); (case hy => rfl); (case hk => (with_reducible repeat (first | refine blk_drewN ?_ _ | refine blk_drew ?_ | refine blk_alloc ?_ _)); exact BK7.out); (case hi => rw [cB_size, pad16_length]; kernel_rfl); (case hd => rw [cB_size, pad16_length]; rfl); (case h1 => exact cB_one _); intro wr_ hbk hgr; have n0_ := Aside0.mk (below_grown1 (by repeat (first | (with_reducible first | exact HB.out | apply below_alloc | apply pw_below_drewN | apply below_drew1) | exact HB.out)) hgr GE7.out); have n1_ := Aside0.mk (blk_grown1 (g' := g6) (ob := .cells #[.int .i64 0, .slice none 0 0] 26 (0, 0)) (by (with_reducible repeat (first | refine blk_drewN ?_ _ | refine blk_drew ?_ | refine blk_alloc ?_ _)); exact BK6.out) hgr (blk_ne (by (with_reducible repeat (first | refine blk_drewN ?_ _ | refine blk_drew ?_ | refine blk_alloc ?_ _)); exact BK6.out) (by (with_reducible repeat (first | refine blk_drewN ?_ _ | refine blk_drew ?_ | refine blk_alloc ?_ _)); exact BK7.out) (by decide))); have n2_ := Aside0.mk hbk; clear HB BK6 BK7; have HB := n0_; have BK6 := n1_; have BK7 := n2_; clear n0_ n1_ n2_; clear hbk hgr))
  refine' leaf_cutS (A := fun gK_ As cs_ wz => ∃ wX, Below wr_.heap.size wr_ wX ∧ wX.grownBy wz (some g6) ∧ wz.heap[g6]? = some (.cells #[.int .i64 0, .slice As (bL (streamL (schedL m0) (pad16 m1) m2)).length cs_] 26 (0, 0)) ∧ Kd.R (Kd.int .u8) 5 wX w.heap.size (fun _ => True) (.slice As (bL (streamL (schedL m0) (pad16 m1) m2)).length cs_) (bL (streamL (schedL m0) (pad16 m1) m2))) _ (fun leaf => ?main) ?leaf
  case main =>
    have hB := Aside0.mk (below_drew1 (Below.refl wr_.heap.size wr_))
    refine wp_region_held_drew (S := (fun w' => w'.rangeAt g7 0 (cB (pad16 m1)).toList ∧ True)) (by kernel_rfl) ⟨rangeW BK7.out hB.out, trivial⟩ (fun hHeld => ?_)
    generalize wr_.drew = wd at hB hHeld ⊢
    refine wpAnyH_take (i := 0) (v := .slice A0 m0.length c0) rfl (by kernel_rfl) (by kernel_rfl) (by kernel_rfl) (fun _ _ _ h => h) (Or.inl ⟨by rfl, fun w hw => by go_simp⟩) hHeld ?_
    try simp only [Act.put, List.setIfInBounds_toArray, List.set_cons_zero, List.set_cons_succ]
    refine wpAnyH_take (i := 2) rfl (by kernel_rfl) (by kernel_rfl) (by kernel_rfl) (fun _ _ _ h => h) (yieldsIf_load_mid (by rfl) 82 _ rfl g7 0 rfl (cB (pad16 m1)).toList _ (fun w h => h.1) Try.underlying82 rfl (by rw [Array.length_toList, cB_size, pad16_length]; kernel_rfl)) hHeld ?_
    try simp only [Act.put, List.setIfInBounds_toArray, List.set_cons_zero, List.set_cons_succ]
    refine wpAnyH_take (i := 3) (v := .slice A2 (bL m2).length c2) rfl (by kernel_rfl) (by kernel_rfl) (by kernel_rfl) (fun _ _ _ h => h) (Or.inl ⟨by rfl, fun w hw => by go_simp⟩) hHeld ?_
    try simp only [Act.put, List.setIfInBounds_toArray, List.set_cons_zero, List.set_cons_succ]
    refine wpAnyH_ready (rs := [1]) (by kernel_rfl) (by simp) ?_
    refine AllReadyH.cons rfl (fun K hK => ?_) ?_
    · go_simp
      go_at_call 98
      refine (impl_newCipher.calls A0 c0 m0 hm0.out _ (Kd.C_below HR0.out (below_step HB.out hB.out))).mono ?_
      rintro e wk1 ⟨gK, rfl, hgK, hZK, hbl⟩
      try go_wp2_with fail
      have HZK := Aside0.mk hZK
      have HGK := Aside0.mk (Nat.le_trans (below_size hB.out) hgK)
      clear hZK hgK
      have n0_ := Aside0.mk (below_step hB.out hbl); have hB := n0_; clear n0_;
      skip
      refine hK.out _ _ ⟨rangeW BK7.out hB.out, trivial⟩ (fun hHeld => ?_)
      clear hK K
      try simp only [Act.put, List.setIfInBounds_toArray, List.set_cons_zero, List.set_cons_succ]
      refine wpAnyH_ready (rs := [4]) (by kernel_rfl) (by simp) ?_
      refine AllReadyH.cons rfl (fun K hK => ?_) ?_
      · go_simp
        go_at_call 107
        refine (impl_cipher_stream.calls gK (schedL m0) (pad16 m1) m2 _ (schedL_length m0 hm0.out) (pad16_length m1) rfl hn2.out A2 c2 _ HZK.out (Kd.C_below HR2.out (below_step HB.out hB.out)) HC2.out).mono ?_
        rintro e wk2 ⟨vS, rfl, hrow, hbl⟩
        try go_wp2_with fail
        have HVvS := Aside0.mk (Kd.R_lower hrow (below_size (below_step (by repeat (first | (with_reducible first | exact HB.out | apply below_alloc | apply pw_below_drewN | apply below_drew1) | exact HB.out)) hB.out)))
        clear hrow
        obtain ⟨As, cs_, es_⟩ := Kd.R_slice HVvS.out
        subst es_
        have n0_ := Aside0.mk (below_step hB.out hbl); have n1_ := Aside0.mk (blk_below (g := gK) (o := .cells (cB (schedL m0)) 111 (0, 0)) HZK.out hbl); have hB := n0_; have HZK := n1_; clear n0_ n1_;
        refine hK.out _ _ ⟨rangeW BK7.out hB.out, trivial⟩ (fun hHeld => ?_)
        clear hK K
        try simp only [Act.put, List.setIfInBounds_toArray, List.set_cons_zero, List.set_cons_succ]
        refine wpAnyH_ready (rs := [5]) (by kernel_rfl) (by simp) ?_
        refine AllReadyH.cons rfl (fun K hK => ?_) ?_
        · go_simp
          refine hK.out _ _ ⟨rangeW BK7.out hB.out, trivial⟩ (fun hHeld => ?_)
          clear hK K
          try simp only [Act.put, List.setIfInBounds_toArray, List.set_cons_zero, List.set_cons_succ]
          refine wpAnyH_ready (rs := [6]) (by kernel_rfl) (by simp) ?_
          refine AllReadyH.cons rfl (fun K hK => ?_) ?_
          · rw [if_pos (by rfl)]
            have hI := Aside0.mk (blk_below (g := g6) (o := .cells #[.int .i64 0, .slice none 0 0] 26 (0, 0)) (by (with_reducible repeat (first | refine blk_drewN ?_ _ | refine blk_drew ?_ | refine blk_alloc ?_ _)); exact BK6.out) hB.out)
            refine wp_store_row 26 _ (.tmp 32) rfl g6 #[.int .i64 0, .slice As (bL (streamL (schedL m0) (pad16 m1) m2)).length cs_] rfl rfl 26 #[.int .i64 0, .slice none 0 0] hI.out (by kernel_rfl) (by rfl) (by simp [Value.oneCell']) ?_
            have hY := Aside0.mk (grown_setRow wk2 g6 #[.int .i64 0, .slice As (bL (streamL (schedL m0) (pad16 m1) m2)).length cs_])
            have hZ := Aside0.mk (setRow_heap wk2 g6 _ #[.int .i64 0, .slice As (bL (streamL (schedL m0) (pad16 m1) m2)).length cs_] 26 (0, 0) hI.out)
            have hX := hB
            clear hHeld
            generalize wk2.setRow g6 #[.int .i64 0, .slice As (bL (streamL (schedL m0) (pad16 m1) m2)).length cs_] = wk4 at hY hZ ⊢
            refine hK.out _ _ ⟨rangeB (blk_grown1 (g' := g7) (ob := .cells (cB (pad16 m1)) 82 (0, 0)) (blk_below (g := g7) (o := .cells (cB (pad16 m1)) 82 (0, 0)) (by (with_reducible repeat (first | refine blk_drewN ?_ _ | refine blk_drew ?_ | refine blk_alloc ?_ _)); exact BK7.out) hB.out) hY.out (blk_ne (by (with_reducible repeat (first | refine blk_drewN ?_ _ | refine blk_drew ?_ | refine blk_alloc ?_ _)); exact BK7.out) (by (with_reducible repeat (first | refine blk_drewN ?_ _ | refine blk_drew ?_ | refine blk_alloc ?_ _)); exact BK6.out) (by decide))), trivial⟩ (fun hHeld => ?_)
            clear hK K
            try simp only [Act.put, List.setIfInBounds_toArray, List.set_cons_zero, List.set_cons_succ]
            refine wpAnyH_done (by kernel_rfl) ?_ _
            exact leaf gK As cs_ wk4 ⟨_, hX.out, hY.out, hZ.out, HVvS.out⟩
          exact AllReadyH.nil
        exact AllReadyH.nil
      exact AllReadyH.nil
    exact AllReadyH.nil
  rintro gK_ As cs_ wz ⟨wX, hb, hgr, hbk, hvvS⟩
  have n0_ := Aside0.mk (below_step (by repeat (first | (with_reducible first | exact HB.out | apply below_alloc | apply pw_below_drewN | apply below_drew1) | exact HB.out)) hb); have n1_ := Aside0.mk (blk_below (g := g6) (o := .cells #[.int .i64 0, .slice none 0 0] 26 (0, 0)) (by (with_reducible repeat (first | refine blk_drewN ?_ _ | refine blk_drew ?_ | refine blk_alloc ?_ _)); exact BK6.out) hb); have n2_ := Aside0.mk (blk_below (g := g7) (o := .cells (cB (pad16 m1)) 82 (0, 0)) (by (with_reducible repeat (first | refine blk_drewN ?_ _ | refine blk_drew ?_ | refine blk_alloc ?_ _)); exact BK7.out) hb); have n3_ := Aside0.mk hvvS; clear HB BK6 BK7; have HB := n0_; have BK6 := n1_; have BK7 := n2_; have HOvS := n3_; clear n0_ n1_ n2_ n3_;
  clear hb
  clear hvvS
  have n0_ := Aside0.mk (below_grown1 (by repeat (first | (with_reducible first | exact HB.out | apply below_alloc | apply pw_below_drewN | apply below_drew1) | exact HB.out)) hgr GE6.out); have n1_ := Aside0.mk (blk_grown1 (g' := g7) (ob := .cells (cB (pad16 m1)) 82 (0, 0)) (by (with_reducible repeat (first | refine blk_drewN ?_ _ | refine blk_drew ?_ | refine blk_alloc ?_ _)); exact BK7.out) hgr (blk_ne (by (with_reducible repeat (first | refine blk_drewN ?_ _ | refine blk_drew ?_ | refine blk_alloc ?_ _)); exact BK7.out) (by (with_reducible repeat (first | refine blk_drewN ?_ _ | refine blk_drew ?_ | refine blk_alloc ?_ _)); exact BK6.out) (by decide))); have n2_ := Aside0.mk (R_grown_types (by (with_reducible repeat (first | apply Kd.R_alloc | apply Kd.R_drewN | apply Kd.R_drew)); exact HOvS.out) (by (with_reducible repeat (first | refine blk_drewN ?_ _ | refine blk_drew ?_ | refine blk_alloc ?_ _)); exact BK6.out) (by decide) hgr); have n3_ := Aside0.mk hbk; clear HB BK7 HOvS BK6; have HB := n0_; have BK7 := n1_; have HOvS := n2_; have BK6 := n3_; clear n0_ n1_ n2_ n3_;
  clear hgr hbk
  go_wp2
  refine bodyPost_ret (results_cell_row rfl _ _ g6 26 #[.int .i64 0, .slice As (bL (streamL (schedL m0) (pad16 m1) m2)).length cs_] (0, 0) _ rfl (by (with_reducible repeat (first | refine blk_drewN ?_ _ | refine blk_drew ?_ | refine blk_alloc ?_ _)); exact BK6.out) Try.underlying26 rfl (by kernel_rfl)) rfl ?_
  exact ⟨_, rfl, by rw [← congrArg (fun q => streamL (schedL m0) q m2) hm1.out]; exact HOvS.out, HB.out⟩
set_option maxHeartbeats 4000000 in
set_option maxRecDepth 100000 in
theorem impl_StreamXor.calls (A0 : Option Addr) (c0 : Nat) (l0 : List Int) (A1 : Option Addr) (c1 : Nat) (l1 : List Int) (A2 : Option Addr) (c2 : Nat) (l2 : List Int) (r1 : Int) (r2 : List Int) (w : World) (hr0 : Kd.C (Kd.int .u8) w A0 l0.length l0) (hc0 : l0.length ≤ c0) (hr1 : Kd.C (Kd.int .u8) w A1 l1.length l1) (hc1 : l1.length ≤ c1) (hr2 : Kd.C (Kd.int .u8) w A2 l2.length l2) (hc2 : l2.length ≤ c2) (h : impl_StreamXor.f l0 l1 l2 = some (r1, r2)) :
    Calls Try.prog 50 #[.slice A0 l0.length c0, .slice A1 l1.length c1, .slice A2 l2.length c2] w fun e w' => ∃ v1_ : Value, e = .returned (.agg #[.int .i64 r1, v1_]) ∧ Kd.R (Kd.int .u8) 5 w' w.heap.size (fun _ => True) v1_ r2 ∧ Below w.heap.size w w' := by
  unfold impl_StreamXor.f at h
  by_cases hb : isBs l0 = true ∧ isBs l1 = true ∧ isBs l2 = true
  · rw [if_pos hb, Option.some.injEq] at h
    obtain ⟨m0, rfl⟩ : ∃ m, l0 = bL m := ⟨_, isBs_bL hb.1⟩
    obtain ⟨m1, rfl⟩ : ∃ m, l1 = bL m := ⟨_, isBs_bL hb.2.1⟩
    obtain ⟨m2, rfl⟩ : ∃ m, l2 = bL m := ⟨_, isBs_bL hb.2.2⟩
    rw [bL_length] at hr0 hr1
    rw [unB_bL, unB_bL, unB_bL] at h
    rw [bL_length, bL_length]
    clear hb hc0 hc1
    exact streamXor_here A0 c0 m0 A1 c1 m1 A2 c2 m2 r1 r2 w hr0 hr1 hr2 hc2 h
  · rw [if_neg hb] at h
    cases h

end Go.Proofs.Ytjfdcabgbcbdjaa.All
