-- Laid by wip/shake.py of this repo out of this claim's texts. Not trusted: Lean checks it.
import Derived.Test.YtkjgdndaepobiaaAllx0s
import Derived.Test.YtkjgdndaepobiaaAllx537s
import Derived.Test.YtkjgdndaepobiaaAllx574s
import Derived.Test.YtkjgdndaepobiaaHands
namespace Go.Proofs.Ytkjgdndaepobiaa.All
open Go.RowKit Go.Proofs.YtkjgdndaepobiaaW.PrintWords Go.Proofs.YtkjgdndaepobiaaW.PrintLast Go.Proofs.YtkjgdndaepobiaaW.PrintMore
attribute [local go_sem] max2_int min2_int max_two min_two max_three min_three max_four min_four
set_option linter.unusedVariables false
set_option linter.unusedSimpArgs false
def wordAt (m : List (BitVec 8)) (i : Nat) : List Int := ((bL m).take (4 * i + 4)).drop (4 * i)
def wordsTo (m : List (BitVec 8)) (n : Nat) : List (List Int) := (List.range n).map (wordAt m)
theorem wordsTo_length (m : List (BitVec 8)) (n : Nat) : (wordsTo m n).length = n := by simp [wordsTo]
theorem wordsTo_next (m : List (BitVec 8)) (n : Nat) : wordsTo m n ++ [wordAt m n] = wordsTo m (n + 1) := by simp [wordsTo, List.range_succ]
def impl_KeyWords.f (l0 : List Int) : Option (Int × List (List Int)) := if isBs l0 then (if l0.length = 16 then some (0, wordsTo (schedL (unB l0)) 44) else some (2, [])) else none
theorem bytes_Clone_4 (A : Option Addr) (c : Nat) (y : List Int) (w : World) (hr : Kd.C (Kd.int .u8) w A y.length y) (hc : y.length ≤ c) (h4 : y.length = 4) :
  Calls Try.prog 33 #[.slice A 4 c] w fun e w' => ∃ v0_ : Value, e = .returned v0_ ∧ Kd.R (Kd.int .u8) 5 w' w.heap.size (fun _ => True) v0_ y ∧ Below w.heap.size w w' := by
 rw [show (Value.slice A 4 c) = .slice A y.length c by rw [h4]]
 exact bytes_Clone.calls A c y y w hr hc (by unfold bytes_Clone.f; rw [if_pos (by omega)])
theorem run_cut176 (g : Nat) (lo hi : Int) (h0 : 0 ≤ lo) (h1 : lo + 4 = hi) (h2 : hi ≤ 176) (W : World) :
  (Instr.sliceAt 49 (.pointer (some ⟨g, 0, none⟩)) (some (.int .i64 lo)) (some (.int .i64 hi)) none).run Try.prog W = .ok (.slice (some ((⟨g, 0, none⟩ : Addr).add lo.toNat)) 4 (176 - lo.toNat)) W := by
 have hu := Try.underlying49
 have hlen : Try.prog.arrayLen 49 = 176 := by kernel_rfl
 have hel : Try.prog.elem 49 = 5 := by kernel_rfl
 rw [run_sliceAt_array_lh W 49 ⟨g, 0, none⟩ (by rw [hlen, hel]; exact hu) .i64 .i64 lo hi h0 (by omega) (by rw [hlen]; omega), hlen, hel]
 have hz : (sizeOf 5).run Try.prog W = .ok 1 W := by rfl
 rw [hz]
 simp only [Result.andThen, slicedAt, Nat.mul_one]
 rw [if_neg (by omega), show hi.toNat - lo.toNat = 4 by omega]
theorem step4 (kk : Nat) (h : kk < 44) : wrap64 (((4 * kk : Nat) : Int) + 4) = ((4 * (kk + 1) : Nat) : Int) := by
 unfold wrap64
 omega
theorem C_word (g : Nat) (m : List (BitVec 8)) (hm : m.length = 176) (kk : Nat) (hk : kk < 44) (W : World) (hb : W.heap[g]? = some (.cells (cB m) 49 (0, 0))) : Kd.C (Kd.int .u8) W (some ((⟨g, 0, none⟩ : Addr).add (4 * kk))) (wordAt m kk).length (wordAt m kk) := by
 have h := (Kd.R_reads' (R_block (base := g) hb (Nat.le_refl _) hm (by omega))).2.2
 have hl : (bL m).length = 176 := by rw [bL_length]; exact hm
 have h2 := Kd.C_mid (lo := 4 * kk) (hi := 4 * kk + 4) (c := 176) h (by omega) (by omega) (by omega)
 rw [if_neg (by omega)] at h2
 simpa [wordAt, Kd.int, Kd.scalar] using h2
theorem word_len (m : List (BitVec 8)) (hm : m.length = 176) (kk : Nat) (hk : kk < 44) : (wordAt m kk).length = 4 := by
 unfold wordAt
 rw [List.length_drop, List.length_take, bL_length]
 omega
set_option maxHeartbeats 8000000 in
set_option maxRecDepth 100000 in
theorem impl_KeyWords.ok (A0 : Option Addr) (c0 : Nat) (n : List (BitVec 8)) (hn : n.length = 16) (w : World) (hr0 : Kd.C (Kd.int .u8) w A0 n.length (bL n)) :
  Calls Try.prog 8 #[.slice A0 n.length c0] w fun e w' => ∃ v1_ : Value, e = .returned (.agg #[.int .i64 0, v1_]) ∧ Kd.S (Kd.slice 5 (Kd.int .u8)) 22 w' w.heap.size (fun _ => True) v1_ (wordsTo (schedL n) 44) ∧ Below w.heap.size w w' := by
 have hu_ := Try.underlying27
 have HR0 := Aside0.mk hr0
 have H16 := Aside0.mk hn
 have hq : ((n.length : Int) != 16) = false := by rw [hn]; rfl
 clear hr0 hn
 have HB := Aside0.mk (Below.refl w.heap.size w)
 go_enter Try.func8, Try.ntmps8
 go_wp2_with (first
   | ((with_reducible refine gate_dst (N := 2) rfl ?_); refine box_event ?hg (N := 2) ?hd (cs := #[.int .i64 0, .slice none 0 0]) (t := 27) ?hr ?_; (case hd => rfl); (case hg => rfl); (case hr => first | (go_simp; done) | (go_simp; rfl)); intro g2 hg wa2 hbox hb; have GE2 := Aside0.mk (show w.heap.size ≤ g2 by rw [hg]; exact below_size HB.out); have nb_ := Aside0.mk (below_step HB.out hb); have BK2 := Aside0.mk hbox; clear HB  hb hbox hg; have HB := nb_; clear nb_; skip)
   | ((with_reducible refine gate_callee (f := 32) rfl ?_); refine goesL_ (some 11) rfl rfl Try.func32 (by kernel_rfl) rfl #[.slice A0 n.length c0] rfl (by (try simp only [List.map_toArray, List.map_cons, List.map_nil]); first | done | rfl) ?_; (with_reducible refine (impl_schedule.calls A0 c0 n H16.out _ ?sc).mono ?_); (case sc => exact Kd.C_below HR0.out HB.out); rintro e wc ⟨rfl, hb⟩; refine ⟨_, rfl, ?_⟩; have n0_ := Aside0.mk (blk_below (g := g2) (o := .cells #[.int .i64 0, .slice none 0 0] 27 (0, 0)) BK2.out hb); have n1_ := Aside0.mk (below_step HB.out hb); clear HB BK2 hb; have BK2 := n0_; have HB := n1_; clear n0_ n1_; have HM := Aside0.mk (schedL_length n H16.out); generalize hme : schedL n = m at HM ⊢; have HME := Aside0.mk hme; clear hme)
   | ((with_reducible refine gate_dst (N := 3) rfl ?_); refine box_event ?hg (N := 3) ?hd (cs := #[.int .u8 0, .int .u8 0, .int .u8 0, .int .u8 0, .int .u8 0, .int .u8 0, .int .u8 0, .int .u8 0, .int .u8 0, .int .u8 0, .int .u8 0, .int .u8 0, .int .u8 0, .int .u8 0, .int .u8 0, .int .u8 0, .int .u8 0, .int .u8 0, .int .u8 0, .int .u8 0, .int .u8 0, .int .u8 0, .int .u8 0, .int .u8 0, .int .u8 0, .int .u8 0, .int .u8 0, .int .u8 0, .int .u8 0, .int .u8 0, .int .u8 0, .int .u8 0, .int .u8 0, .int .u8 0, .int .u8 0, .int .u8 0, .int .u8 0, .int .u8 0, .int .u8 0, .int .u8 0, .int .u8 0, .int .u8 0, .int .u8 0, .int .u8 0, .int .u8 0, .int .u8 0, .int .u8 0, .int .u8 0, .int .u8 0, .int .u8 0, .int .u8 0, .int .u8 0, .int .u8 0, .int .u8 0, .int .u8 0, .int .u8 0, .int .u8 0, .int .u8 0, .int .u8 0, .int .u8 0, .int .u8 0, .int .u8 0, .int .u8 0, .int .u8 0, .int .u8 0, .int .u8 0, .int .u8 0, .int .u8 0, .int .u8 0, .int .u8 0, .int .u8 0, .int .u8 0, .int .u8 0, .int .u8 0, .int .u8 0, .int .u8 0, .int .u8 0, .int .u8 0, .int .u8 0, .int .u8 0, .int .u8 0, .int .u8 0, .int .u8 0, .int .u8 0, .int .u8 0, .int .u8 0, .int .u8 0, .int .u8 0, .int .u8 0, .int .u8 0, .int .u8 0, .int .u8 0, .int .u8 0, .int .u8 0, .int .u8 0, .int .u8 0, .int .u8 0, .int .u8 0, .int .u8 0, .int .u8 0, .int .u8 0, .int .u8 0, .int .u8 0, .int .u8 0, .int .u8 0, .int .u8 0, .int .u8 0, .int .u8 0, .int .u8 0, .int .u8 0, .int .u8 0, .int .u8 0, .int .u8 0, .int .u8 0, .int .u8 0, .int .u8 0, .int .u8 0, .int .u8 0, .int .u8 0, .int .u8 0, .int .u8 0, .int .u8 0, .int .u8 0, .int .u8 0, .int .u8 0, .int .u8 0, .int .u8 0, .int .u8 0, .int .u8 0, .int .u8 0, .int .u8 0, .int .u8 0, .int .u8 0, .int .u8 0, .int .u8 0, .int .u8 0, .int .u8 0, .int .u8 0, .int .u8 0, .int .u8 0, .int .u8 0, .int .u8 0, .int .u8 0, .int .u8 0, .int .u8 0, .int .u8 0, .int .u8 0, .int .u8 0, .int .u8 0, .int .u8 0, .int .u8 0, .int .u8 0, .int .u8 0, .int .u8 0, .int .u8 0, .int .u8 0, .int .u8 0, .int .u8 0, .int .u8 0, .int .u8 0, .int .u8 0, .int .u8 0, .int .u8 0, .int .u8 0, .int .u8 0, .int .u8 0, .int .u8 0, .int .u8 0, .int .u8 0, .int .u8 0, .int .u8 0, .int .u8 0, .int .u8 0, .int .u8 0, .int .u8 0, .int .u8 0]) (t := 49) ?hr ?_; (case hd => rfl); (case hg => rfl); (case hr => first | (go_simp; done) | (go_simp; rfl)); intro g3 hg wa3 hbox hb; have n2_ := Aside0.mk (blk_below (g := g2) (o := .cells #[.int .i64 0, .slice none 0 0] 27 (0, 0)) BK2.out hb); have NE23 := Aside0.mk (show g2 ≠ g3 by rw [hg]; exact Nat.ne_of_lt (blk_lt BK2.out)); have GE3 := Aside0.mk (show w.heap.size ≤ g3 by rw [hg]; exact below_size HB.out); have nb_ := Aside0.mk (below_step HB.out hb); have BK3 := Aside0.mk hbox; clear HB BK2 hb hbox hg; have HB := nb_; clear nb_; have BK2 := n2_; clear n2_; skip)
   | ((with_reducible refine gate_store (t := 49) (p := 3) rfl ?_); refine row_event ?hg (ty := 49) (p := 3) (y := ?yo) ?ho ?hn (g := g3) (old := #[.int .u8 0, .int .u8 0, .int .u8 0, .int .u8 0, .int .u8 0, .int .u8 0, .int .u8 0, .int .u8 0, .int .u8 0, .int .u8 0, .int .u8 0, .int .u8 0, .int .u8 0, .int .u8 0, .int .u8 0, .int .u8 0, .int .u8 0, .int .u8 0, .int .u8 0, .int .u8 0, .int .u8 0, .int .u8 0, .int .u8 0, .int .u8 0, .int .u8 0, .int .u8 0, .int .u8 0, .int .u8 0, .int .u8 0, .int .u8 0, .int .u8 0, .int .u8 0, .int .u8 0, .int .u8 0, .int .u8 0, .int .u8 0, .int .u8 0, .int .u8 0, .int .u8 0, .int .u8 0, .int .u8 0, .int .u8 0, .int .u8 0, .int .u8 0, .int .u8 0, .int .u8 0, .int .u8 0, .int .u8 0, .int .u8 0, .int .u8 0, .int .u8 0, .int .u8 0, .int .u8 0, .int .u8 0, .int .u8 0, .int .u8 0, .int .u8 0, .int .u8 0, .int .u8 0, .int .u8 0, .int .u8 0, .int .u8 0, .int .u8 0, .int .u8 0, .int .u8 0, .int .u8 0, .int .u8 0, .int .u8 0, .int .u8 0, .int .u8 0, .int .u8 0, .int .u8 0, .int .u8 0, .int .u8 0, .int .u8 0, .int .u8 0, .int .u8 0, .int .u8 0, .int .u8 0, .int .u8 0, .int .u8 0, .int .u8 0, .int .u8 0, .int .u8 0, .int .u8 0, .int .u8 0, .int .u8 0, .int .u8 0, .int .u8 0, .int .u8 0, .int .u8 0, .int .u8 0, .int .u8 0, .int .u8 0, .int .u8 0, .int .u8 0, .int .u8 0, .int .u8 0, .int .u8 0, .int .u8 0, .int .u8 0, .int .u8 0, .int .u8 0, .int .u8 0, .int .u8 0, .int .u8 0, .int .u8 0, .int .u8 0, .int .u8 0, .int .u8 0, .int .u8 0, .int .u8 0, .int .u8 0, .int .u8 0, .int .u8 0, .int .u8 0, .int .u8 0, .int .u8 0, .int .u8 0, .int .u8 0, .int .u8 0, .int .u8 0, .int .u8 0, .int .u8 0, .int .u8 0, .int .u8 0, .int .u8 0, .int .u8 0, .int .u8 0, .int .u8 0, .int .u8 0, .int .u8 0, .int .u8 0, .int .u8 0, .int .u8 0, .int .u8 0, .int .u8 0, .int .u8 0, .int .u8 0, .int .u8 0, .int .u8 0, .int .u8 0, .int .u8 0, .int .u8 0, .int .u8 0, .int .u8 0, .int .u8 0, .int .u8 0, .int .u8 0, .int .u8 0, .int .u8 0, .int .u8 0, .int .u8 0, .int .u8 0, .int .u8 0, .int .u8 0, .int .u8 0, .int .u8 0, .int .u8 0, .int .u8 0, .int .u8 0, .int .u8 0, .int .u8 0, .int .u8 0, .int .u8 0, .int .u8 0, .int .u8 0, .int .u8 0, .int .u8 0, .int .u8 0, .int .u8 0, .int .u8 0, .int .u8 0, .int .u8 0, .int .u8 0, .int .u8 0]) (e := 49) (cells := cB m) ?hx ?hy ?hk ?hi ?hd ?h1 ?_; (case ho => rfl); (case hg => rfl); (case hn => rfl); (case hx => rfl); (case hy => rfl); (case hk => exact BK3.out); (case hi => rw [cB_size, HM.out]; kernel_rfl); (case hd => rw [cB_size, HM.out]; rfl); (case h1 => exact cB_one m); intro ws hbk hgr; have n0_ := Aside0.mk (blk_grown1 (g' := g2) (ob := .cells #[.int .i64 0, .slice none 0 0] 27 (0, 0)) BK2.out hgr NE23.out); have n1_ := Aside0.mk (below_grown1 HB.out hgr GE3.out); clear HB BK2 BK3 hgr; have BK2 := n0_; have HB := n1_; have BK3 := Aside0.mk hbk; clear n0_ n1_ hbk)
   | ((with_reducible refine gate_dst (N := 4) rfl ?_); refine box_event ?hg (N := 4) ?hd (cs := #[.int .i64 0, .slice none 0 0]) (t := 27) ?hr ?_; (case hd => rfl); (case hg => rfl); (case hr => first | (go_simp; done) | (go_simp; rfl)); intro g4 hg wa4 hbox hb; have n2_ := Aside0.mk (blk_below (g := g2) (o := .cells #[.int .i64 0, .slice none 0 0] 27 (0, 0)) BK2.out hb); have NE24 := Aside0.mk (show g2 ≠ g4 by rw [hg]; exact Nat.ne_of_lt (blk_lt BK2.out)); have n3_ := Aside0.mk (blk_below (g := g3) (o := .cells (cB m) 49 (0, 0)) BK3.out hb); have NE34 := Aside0.mk (show g3 ≠ g4 by rw [hg]; exact Nat.ne_of_lt (blk_lt BK3.out)); have GE4 := Aside0.mk (show w.heap.size ≤ g4 by rw [hg]; exact below_size HB.out); have nb_ := Aside0.mk (below_step HB.out hb); have BK4 := Aside0.mk hbox; clear HB BK2 BK3 hb hbox hg; have HB := nb_; clear nb_; have BK2 := n2_; clear n2_; have BK3 := n3_; clear n3_; have hz0 := blk_cell BK4.out 0; have hz1 := blk_cell BK4.out 1; have hf0 := blk_frozen BK4.out 0; have hf1 := blk_frozen BK4.out 1; have hn1 := NE24.out; have hn2 := NE34.out))
 go_loopw [5] (fun v5 W => ∃ (kk : Nat) (x : Int) (u : Value), kk ≤ 44 ∧ v5 = .int .i64 x ∧ Aside0 (x = ((4 * kk : Nat) : Int)) ∧ Aside0 (Kd.S (Kd.slice 5 (Kd.int .u8)) 22 W w.heap.size (fun _ => True) u (wordsTo m kk)) ∧ Aside0 (W.heap[g2]? = some (.cells #[.int .i64 0, .slice none 0 0] 27 (0, 0))) ∧ Aside0 (W.heap[g3]? = some (.cells (cB m) 49 (0, 0))) ∧ Aside0 (W.heap[g4]? = some (.cells #[.int .i64 0, u] 27 (0, 0))) ∧ Aside0 (Below w.heap.size w W)) (fun v5 _ => 176 - (intOf v5).toNat)
 case atStart => exact ⟨0, 0, .slice none 0 0, Nat.zero_le _, rfl, ⟨rfl⟩, ⟨Kd.S_nil _ _ _ _ _⟩, ⟨blk_far (blk_far BK2.out NE24.out _) NE24.out _⟩, ⟨blk_far (blk_far BK3.out NE34.out _) NE34.out _⟩, ⟨blk_put (cs := #[.int .i64 0, .slice none 0 0]) (blk_put (cs := #[.int .i64 0, .slice none 0 0]) BK4.out 0 _ rfl) 1 _ rfl⟩, ⟨below_set (below_set HB.out GE4.out) GE4.out⟩⟩
 case round =>
  clear BK2 BK3 BK4 HB hz0 hz1 hf0 hf1 hn1 hn2
  obtain ⟨kk, x, u, hk, rfl, HX, HO, BK2, BK3, BK4, HB⟩ := hrel
  by_cases hl : kk < 44
  ·have hd : decide (x < 176) = true := decide_eq_true (by rw [HX.out]; omega)
   have hlt := Aside0.mk hl
   have HST : Aside0 (wrap64 (x + 4) = ((4 * (kk + 1) : Nat) : Int)) := ⟨by rw [HX.out]; exact step4 kk hl⟩
   have hcc16 : ∀ W : World, W.heap[g3]? = some (.cells (cB m) 49 (0, 0)) → Kd.C (Kd.int .u8) W (some ((⟨g3, 0, none⟩ : Addr).add (4 * kk))) (wordAt m kk).length (wordAt m kk) := fun W hb => C_word g3 m HM.out kk hlt.out W hb
   have hcut : ∀ W : World, (Instr.sliceAt 49 (.pointer (some ⟨g3, 0, none⟩)) (some (.int .i64 x)) (some (.int .i64 (wrap64 (x + 4)))) none).run Try.prog W = .ok (.slice (some ((⟨g3, 0, none⟩ : Addr).add (4 * kk))) 4 (176 - 4 * kk)) W := fun W => by have h9 := run_cut176 g3 x (wrap64 (x + 4)) (by rw [HX.out]; omega) (by rw [HST.out, HX.out]; omega) (by rw [HST.out]; have := hlt.out; omega) W; rw [show x.toNat = 4 * kk by rw [HX.out]; omega] at h9; exact h9
   have H4 := Aside0.mk (word_len m HM.out kk hl)
   have HYN := Aside0.mk (wordsTo_next m kk)
   have HYL : Aside0 ((wordAt m kk).length ≤ 176 - 4 * kk) := ⟨by rw [H4.out]; omega⟩
   generalize wordAt m kk = y at hcc16 H4 HYN HYL
   generalize (some ((⟨g3, 0, none⟩ : Addr).add (4 * kk)) : Option Addr) = A17 at hcc16 hcut
   generalize 176 - 4 * kk = c17 at hcut HYL
   clear hl
   go_wp2_with fail
   have n0_ := Aside0.mk (below_drew1 HB.out)
   have n1_ := Aside0.mk (Kd.S_drew HO.out)
   have n2_ := Aside0.mk (blk_drew BK2.out)
   have n3_ := Aside0.mk (blk_drew BK3.out)
   have n4_ := Aside0.mk (blk_drew BK4.out)
   clear HB HO BK2 BK3 BK4
   have HB := n0_
   have HO := n1_
   have BK2 := n2_
   have BK3 := n3_
   have BK4 := n4_
   clear n0_ n1_ n2_ n3_ n4_
   refine start_ (n := 11) (S := fun w' => w'.cell? ⟨g4, 0, none⟩ = some (.int .i64 0) ∧ w'.cell? ⟨g4, 1, none⟩ = some u) (ds := [10]) #[false, false, false, false, false, false, false, false, false, false, false] (by kernel_rfl) rfl rfl ⟨(blk_cell BK4.out 0).trans rfl, (blk_cell BK4.out 1).trans rfl⟩ (fun hHeld => ?_)
   generalize wr.drew = w16 at HO BK2 BK3 BK4 HB hHeld ⊢
   refine pure_ (i := 0) (N := some 17) (v := ?_) (a' := ?_) #[true, false, false, false, false, false, false, false, false, false, false] rfl rfl (by kernel_rfl) (fun _ _ _ h => h) (Or.inl ⟨by rfl, ?_⟩) ?_ ?_
   rotate_left
   ·intro w'
    go_simp
    with_reducible rfl
   rotate_left
   ·simp only [Act.put, List.setIfInBounds_toArray, List.set_cons_zero, List.set_cons_succ, i64_w, i32_w]
    rfl
   refine pure_ (i := 2) (N := some 19) (v := ?_) (a' := ?_) #[true, false, true, false, false, false, false, false, false, false, false] rfl rfl (by kernel_rfl) (fun _ _ _ h => h) (Or.inl ⟨by rfl, ?_⟩) ?_ ?_
   rotate_left
   ·intro w'
    go_simp
    with_reducible rfl
   rotate_left
   ·simp only [Act.put, List.setIfInBounds_toArray, List.set_cons_zero, List.set_cons_succ, i64_w, i32_w]
    rfl
   refine pure_ (i := 3) (N := some 20) (v := ?_) (a' := ?_) #[true, false, true, true, false, false, false, false, false, false, false] rfl rfl (by kernel_rfl) (fun _ _ _ h => h) (Or.inl ⟨by rfl, ?_⟩) ?_ ?_
   rotate_left
   ·intro w'
    go_simp
    with_reducible rfl
   rotate_left
   ·simp only [Act.put, List.setIfInBounds_toArray, List.set_cons_zero, List.set_cons_succ, i64_w, i32_w]
    rfl
   refine pure_ (i := 4) (N := some 21) (v := ?_) (a' := ?_) #[true, false, true, true, true, false, false, false, false, false, false] rfl rfl (by kernel_rfl) (fun _ _ _ h => h) (Or.inl ⟨by rfl, ?_⟩) ?_ ?_
   rotate_left
   ·intro w'
    go_simp
    with_reducible rfl
   rotate_left
   ·simp only [Act.put, List.setIfInBounds_toArray, List.set_cons_zero, List.set_cons_succ, i64_w, i32_w]
    rfl
   refine pure_ (i := 5) (N := some 22) (v := ?_) (a' := ?_) #[true, false, true, true, true, true, false, false, false, false, false] rfl rfl (by kernel_rfl) (fun _ _ _ h => h) (Or.inl ⟨by rfl, ?_⟩) ?_ ?_
   rotate_left
   ·intro w'
    go_simp
    first | with_reducible rfl | exact hcut w'
   rotate_left
   ·simp only [Act.put, List.setIfInBounds_toArray, List.set_cons_zero, List.set_cons_succ, i64_w, i32_w]
    rfl
   refine take_ (i := 1) (N := some 18) (v := ?_) (a' := ?_) #[true, true, true, true, true, true, false, false, false, false, false] rfl rfl (by kernel_rfl) (fun _ _ _ h => h) (Or.inl ⟨by rfl, ?_⟩) hHeld ?_ ?_
   rotate_left
   ·rintro w' ⟨s0, s1⟩
    go_simp
    with_reducible rfl
   rotate_left
   ·simp only [Act.put, List.setIfInBounds_toArray, List.set_cons_zero, List.set_cons_succ, i64_w, i32_w]
    rfl
   refine one_ (i := 6) (N := some 23) #[true, true, true, true, true, true, true, false, false, false, false] rfl rfl (by kernel_rfl) (by decide) (fun K hK => ?_)
   refine goes_ Try.func33 (by kernel_rfl) rfl #[.slice A17 4 c17] (by rfl) rfl rfl (by (try simp only [List.map_toArray, List.map_cons, List.map_nil]); first | done | rfl) ?_
   have HC17 := Aside0.mk (hcc16 _ BK3.out)
   with_reducible refine (bytes_Clone_4 _ c17 y _ HC17.out HYL.out H4.out).mono ?_
   rintro e w19 ⟨v155, rfl, ho0, hb⟩
   refine ⟨_, rfl, ?_⟩
   have n0_ := Aside0.mk (Kd.S_elder' HO.out (Kd.R_base ho0) hb)
   have n1_ := Aside0.mk (Kd.R_lower (Kd.R_mono ho0 (ok' := fun _ => True) (fun _ _ => trivial)) (below_size HB.out))
   have n2_ := Aside0.mk (blk_below (g := g2) BK2.out hb)
   have n3_ := Aside0.mk (blk_below (g := g3) BK3.out hb)
   have n4_ := Aside0.mk (blk_below (g := g4) (o := .cells #[.int .i64 0, u] 27 (0, 0)) BK4.out hb)
   have n5_ := Aside0.mk (below_step HB.out hb)
   clear HO BK2 BK3 BK4 HB hb ho0 HC17 hHeld
   have HO := n0_
   have HN := n1_
   have BK2 := n2_
   have BK3 := n3_
   have BK4 := n4_
   have HB := n5_
   clear n0_ n1_ n2_ n3_ n4_ n5_
   obtain ⟨Ao, co, eo_⟩ := Kd.R_slice HN.out
   subst eo_
   refine hK.out _ _ ⟨(blk_cell BK4.out 0).trans rfl, (blk_cell BK4.out 1).trans rfl⟩ (fun hHeld => ?_)
   clear hK K
   refine norm_ (a' := ?_) ?_ ?_
   rotate_left
   ·show Act.put _ (some 23) _ = _
    simp only [Act.put, List.setIfInBounds_toArray, List.set_cons_zero, List.set_cons_succ, i64_w, i32_w]
    rfl
   refine one_ (i := 7) (N := some 24) #[true, true, true, true, true, true, true, true, false, false, false] rfl rfl (by kernel_rfl) (by decide) (fun K hK => ?_)
   refine value_ (w1 := ?_) (v := ?_) (by rfl) rfl ?_ ?_
   rotate_left 2
   ·go_simp
    constructor
    ·rfl
    ·rfl
   clear hHeld
   refine hK.out _ _ ⟨(blk_cell (blk_alloc BK4.out _) 0).trans rfl, (blk_cell (blk_alloc BK4.out _) 1).trans rfl⟩ (fun hHeld => ?_)
   clear hK K
   refine norm_ (a' := ?_) ?_ ?_
   rotate_left
   ·show Act.put _ (some 24) _ = _
    simp only [Act.put, List.setIfInBounds_toArray, List.set_cons_zero, List.set_cons_succ, i64_w, i32_w]
    rfl
   refine one_ (i := 8) (N := some 25) #[true, true, true, true, true, true, true, true, true, false, false] rfl rfl (by kernel_rfl) (by decide) (fun K hK => ?_)
   refine Kd.S_append_step (Kd.slice 5 (Kd.int .u8)) (w0 := w) w.heap.size (by rfl) (.tmp 18) (.tmp 24) 25 22 (.slice none 0 0) 24 rfl Try.underlying25 info22 rfl (by decide) (by omega) u (wordsTo m kk) y [.slice Ao y.length co] (fun _ => True) (fun k_ => some k_ = (.slice Ao y.length co : Value).ownBlock) rfl rfl ?aP (fun k_ hk_ => ⟨trivial, ((Kd.R_apart' HN.out (Kd.S_typed HO.out) (by decide)).1 k_ hk_.symm).2⟩) ?aF ?aO ?aB ?aS ?aL ?_
   (case aP => exact Kd.M_row (Kd.R_mono (Kd.R_tight rfl HN.out) (fun _ h_ => h_)))
   (case aB => exact HB.out)
   (case aF => exact (fun k_ hk => trivial))
   (case aO => exact Kd.S_mono HO.out (fun k_ hk => ⟨trivial, fun e_ => hk.2 e_⟩))
   (case aS => exact below_size HB.out)
   (case aL => rw [wordsTo_length]; have := hlt.out; omega)
   intro v158 w20 ho hb hg hat
   rw [HYN.out] at ho
   have n0_ := Aside0.mk (blk_grown (g := g2) (o := .cells #[.int .i64 0, .slice none 0 0] 27 (0, 0)) (by (with_reducible repeat (first | refine blk_drewN ?_ _ | refine blk_drew ?_ | refine blk_alloc ?_ _)); exact BK2.out) hg (Kd.S_ne HO.out BK2.out (by decide)))
   have n1_ := Aside0.mk (blk_grown (g := g3) (o := .cells (cB m) 49 (0, 0)) (by (with_reducible repeat (first | refine blk_drewN ?_ _ | refine blk_drew ?_ | refine blk_alloc ?_ _)); exact BK3.out) hg (Kd.S_ne HO.out BK3.out (by decide)))
   have n2_ := Aside0.mk (blk_grown (g := g4) (o := .cells #[.int .i64 0, u] 27 (0, 0)) (by (with_reducible repeat (first | refine blk_drewN ?_ _ | refine blk_drew ?_ | refine blk_alloc ?_ _)); exact BK4.out) hg (Kd.S_ne HO.out BK4.out (by decide)))
   have n3_ := Aside0.mk hb
   have n4_ := Aside0.mk ho
   clear HO BK2 BK3 BK4 HB HN hHeld
   have BK2 := n0_
   have BK3 := n1_
   have BK4 := n2_
   have HB := n3_
   have HO := n4_
   clear n0_ n1_ n2_ n3_ n4_ ho hb hg hat
   obtain ⟨Aq, cq, eq_⟩ := Kd.S_slice HO.out
   subst eq_
   refine hK.out _ _ ⟨(blk_cell BK4.out 0).trans rfl, (blk_cell BK4.out 1).trans rfl⟩ (fun hHeld => ?_)
   clear hK K
   refine norm_ (a' := ?_) ?_ ?_
   rotate_left
   ·show Act.put _ (some 25) _ = _
    simp only [Act.put, List.setIfInBounds_toArray, List.set_cons_zero, List.set_cons_succ, i64_w, i32_w]
    rfl
   refine pure_ (i := 9) (N := some 26) (v := ?_) (a' := ?_) #[true, true, true, true, true, true, true, true, true, true, false] rfl rfl (by kernel_rfl) (fun _ _ _ h => h) (Or.inl ⟨by rfl, ?_⟩) ?_ ?_
   rotate_left
   ·intro w'
    go_simp
    with_reducible rfl
   rotate_left
   ·simp only [Act.put, List.setIfInBounds_toArray, List.set_cons_zero, List.set_cons_succ, i64_w, i32_w]
    rfl
   refine last_ (i := 10) (N := none) #[true, true, true, true, true, true, true, true, true, true, true] rfl rfl (by kernel_rfl) (by decide) (fun K hK => ?_)
   have hs23 : w20.cell? ⟨g4, 1, none⟩ = some u := (blk_cell BK4.out 1).trans rfl
   have hfs23 := blk_frozen BK4.out 1
   have hns0 := NE24.out
   have hns1 := NE34.out
   refine skip_ (w1 := ?_) (by rfl) rfl ?_ ?_
   rotate_left
   ·go_simp
    rfl
   refine hK.out _ _ ?_
   clear hK K
   refine done_ (by kernel_rfl) ?_
   try go_wp2
   go_roundw
   case rel => exact ⟨kk + 1, wrap64 (x + 4), _, hlt.out, by first | rfl | exact congrArg _ (i64_w _), HST, ⟨Kd.S_mono (Kd.S_far (p := ⟨g4, 1, none⟩) (Kd.S_types HO.out BK4.out (by decide)) (fun _ hk => hk.2) _) (fun _ hk => trivial)⟩, ⟨blk_far BK2.out NE24.out _⟩, ⟨blk_far BK3.out NE34.out _⟩, ⟨blk_put (cs := #[.int .i64 0, u]) BK4.out 1 _ rfl⟩, ⟨below_set HB.out GE4.out⟩⟩
   case measure => have h1 := HST.out; have h2 := HX.out; have := hlt.out; first | (simp only [intOf, i64_w]; omega) | (show 176 - (wrap64 (x + 4)).toNat < 176 - x.toNat; omega)
  ·obtain rfl : kk = 44 := by omega
   have hd : decide (x < 176) = false := decide_eq_false (by rw [HX.out]; omega)
   obtain ⟨Aq, cq, eq_⟩ := Kd.S_slice HO.out
   subst eq_
   have hz0 : wr.cell? ⟨g4, 0, none⟩ = some (.int .i64 0) := (blk_cell BK4.out 0).trans rfl
   have hz1 : wr.cell? ⟨g4, 1, none⟩ = some (.slice Aq (wordsTo m 44).length cq) := (blk_cell BK4.out 1).trans rfl
   have hy0 : wr.cell? ⟨g2, 0, none⟩ = some (.int .i64 0) := (blk_cell BK2.out 0).trans rfl
   have hy1 : wr.cell? ⟨g2, 1, none⟩ = some (.slice none 0 0) := (blk_cell BK2.out 1).trans rfl
   have hf0 := blk_frozen BK2.out 0
   have hf1 := blk_frozen BK2.out 1
   have hn1 := NE24.out
   go_wp2
   refine bodyPost_ret (results_cell_row rfl _ _ g2 27 #[.int .i64 0, .slice Aq (wordsTo m 44).length cq] (0, 0) _ rfl (by refine blk_put (cs := #[.int .i64 0, .slice none 0 0]) ?_ 1 _ rfl; refine blk_put (cs := #[.int .i64 0, .slice none 0 0]) ?_ 0 _ rfl; exact BK2.out) Try.underlying27 rfl (by kernel_rfl)) rfl ?_
   exact ⟨_, rfl, by rw [HME.out]; exact Kd.S_mono (Kd.S_far (p := ⟨g2, 1, none⟩) (Kd.S_far (p := ⟨g2, 0, none⟩) (Kd.S_types HO.out BK2.out (by decide)) (fun _ hk => hk.2) _) (fun _ hk => hk.2) _) (fun _ hk => trivial), below_set (below_set HB.out GE2.out) GE2.out⟩
set_option maxHeartbeats 8000000 in
set_option maxRecDepth 100000 in
theorem impl_KeyWords.bad (A0 : Option Addr) (c0 : Nat) (n : Nat) (hn : n ≠ 16) (w : World) :
  Calls Try.prog 8 #[.slice A0 n c0] w fun e w' => ∃ v1_ : Value, e = .returned (.agg #[.int .i64 2, v1_]) ∧ Kd.S (Kd.slice 5 (Kd.int .u8)) 22 w' w.heap.size (fun _ => True) v1_ ([] : List (List Int)) ∧ Below w.heap.size w w' := by
 have hu_ := Try.underlying27
 have hq : ((n : Int) != 16) = true := by rw [bne_iff_ne]; omega
 clear hn
 have HB := Aside0.mk (Below.refl w.heap.size w)
 go_enter Try.func8, Try.ntmps8
 go_wp2_with (first
   | ((with_reducible refine gate_dst (N := 2) rfl ?_); refine box_event ?hg (N := 2) ?hd (cs := #[.int .i64 0, .slice none 0 0]) (t := 27) ?hr ?_; (case hd => rfl); (case hg => rfl); (case hr => first | (go_simp; done) | (go_simp; rfl)); intro g2 hg wa2 hbox hb; have GE2 := Aside0.mk (show w.heap.size ≤ g2 by rw [hg]; exact below_size HB.out); have nb_ := Aside0.mk (below_step HB.out hb); have BK2 := Aside0.mk hbox; clear HB  hb hbox hg; have HB := nb_; clear nb_; have hz0 := blk_cell BK2.out 0; have hz1 := blk_cell BK2.out 1; have hf0 := blk_frozen BK2.out 0; have hf1 := blk_frozen BK2.out 1))
 refine bodyPost_ret (results_cell_row rfl _ _ g2 27 #[.int .i64 2, .slice none 0 0] (0, 0) _ rfl (by refine blk_put (cs := #[.int .i64 2, .slice none 0 0]) ?_ 1 _ rfl; refine blk_put (cs := #[.int .i64 0, .slice none 0 0]) ?_ 0 _ rfl; exact BK2.out) Try.underlying27 rfl (by kernel_rfl)) rfl ?_
 exact ⟨_, rfl, Kd.S_nil _ _ _ _ _, below_set (below_set HB.out GE2.out) GE2.out⟩
theorem impl_KeyWords.calls (A0 : Option Addr) (c0 : Nat) (l0 : List Int) (r1 : Int) (r2 : List (List Int)) (w : World) (hr0 : Kd.C (Kd.int .u8) w A0 l0.length l0) (hc0 : l0.length ≤ c0) (h : impl_KeyWords.f l0 = some (r1, r2)) :
  Calls Try.prog 8 #[.slice A0 l0.length c0] w fun e w' => ∃ v1_ : Value, e = .returned (.agg #[.int .i64 r1, v1_]) ∧ Kd.S (Kd.slice 5 (Kd.int .u8)) 22 w' w.heap.size (fun _ => True) v1_ r2 ∧ Below w.heap.size w w' := by
 unfold impl_KeyWords.f at h
 by_cases hb : isBs l0
 ·rw [if_pos hb] at h
  by_cases h1 : l0.length = 16
  ·rw [if_pos h1] at h
   simp only [Option.some.injEq, Prod.mk.injEq] at h
   obtain ⟨rfl, rfl⟩ := h
   have he : bL (unB l0) = l0 := (isBs_bL hb).symm
   have hl : (unB l0).length = l0.length := by rw [← bL_length, he]
   have h2 := impl_KeyWords.ok A0 c0 (unB l0) (by omega) w (by rw [hl, he]; exact hr0)
   rw [hl] at h2
   exact h2
  ·rw [if_neg h1] at h
   simp only [Option.some.injEq, Prod.mk.injEq] at h
   obtain ⟨rfl, rfl⟩ := h
   exact impl_KeyWords.bad A0 c0 l0.length h1 w
 ·rw [if_neg hb] at h
  cases h
end Go.Proofs.Ytkjgdndaepobiaa.All
