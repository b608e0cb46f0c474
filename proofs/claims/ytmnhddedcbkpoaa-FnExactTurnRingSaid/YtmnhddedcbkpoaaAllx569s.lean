-- Laid by wip/shake.py of this repo out of this claim's texts. Not trusted: Lean checks it.
import Derived.Test.YtmnhddedcbkpoaaHands
import Derived.Test.YtmnhddedcbkpoaaAllx214s
import Derived.Test.YtmnhddedcbkpoaaAllx215s
import Derived.Test.YtmnhddedcbkpoaaAllx45s
import Derived.Test.YtmnhddedcbkpoaaAllx56s
import Derived.Test.YtmnhddedcbkpoaaAllx58s
import Derived.Test.YtmnhddedcbkpoaaAllx59s
import Derived.Test.YtmnhddedcbkpoaaAllx61s
import Derived.Test.YtmnhddedcbkpoaaAllx62s
import Derived.Test.YtmnhddedcbkpoaaAllx63s
import Derived.Test.YtmnhddedcbkpoaaAllx67s
namespace Go.Proofs.Ytmnhddedcbkpoaa.All
open Go.RowKit Go.Proofs.YtmnhddedcbkpoaaW.PrintWords Go.Proofs.YtmnhddedcbkpoaaW.PrintLast Go.Proofs.YtmnhddedcbkpoaaW.PrintMore
attribute [local go_sem] max2_int min2_int max_two min_two max_three min_three max_four min_four
set_option linter.unusedVariables false
set_option linter.unusedSimpArgs false
theorem TurnRing_zS {w w' : World} {base top : Nat} {v : Value} {xs : List S25} (h : Kd.S k25 25 w' w.heap.size (fun _ => True) v xs) (hb : base ≤ w.heap.size) (ht : top ≤ w.heap.size) (hs : w.heap.size ≤ w'.heap.size) : ∃ lo hi, (top ≤ lo ∧ lo ≤ hi) ∧ hi ≤ w'.heap.size ∧ Kd.S k25 25 w' base (fun j_ => lo ≤ j_ ∧ j_ < hi) v xs :=
 ⟨w.heap.size, w'.heap.size, ⟨ht, hs⟩, Nat.le_refl _, Kd.S_lower (Kd.S_mono (Kd.S_bound h) (fun _ hk => ⟨hk.2.1, hk.2.2.1⟩)) hb⟩
theorem TurnRing_zR {w w' : World} {base top e : Nat} {v : Value} {xs : List Int} (h : Kd.R (Kd.int .u8) e w' w.heap.size (fun _ => True) v xs) (hb : base ≤ w.heap.size) (ht : top ≤ w.heap.size) (hs : w.heap.size ≤ w'.heap.size) : ∃ lo hi, (top ≤ lo ∧ lo ≤ hi) ∧ hi ≤ w'.heap.size ∧ Kd.R (Kd.int .u8) e w' base (fun j_ => lo ≤ j_ ∧ j_ < hi) v xs :=
 ⟨w.heap.size, w'.heap.size, ⟨ht, hs⟩, Nat.le_refl _, Kd.R_lower (Kd.R_mono (Kd.R_bound h) (fun _ hk => ⟨hk.2.1, hk.2.2.1⟩)) hb⟩
theorem held_TurnRing (k : Nat) (a b : Int) (A : Option Addr) (c n : Nat) (l : List S25) (a1 r : Int) (w : World) (hn : n = l.length) (hr : Kd.C k25 w A l.length l) (hc : n ≤ c) (h : laws_heldRingResult.f k a b l a1 = some r) :
  Calls Try.prog 36 #[.agg #[.int .i64 a, .int .i64 b, .slice A n c], .int .i64 a1] w fun e w' => e = .returned (.int .i64 r) ∧ Below w.heap.size w w' := by
 subst hn
 exact laws_heldRingResult.calls k a b A c l a1 r w hr hc h
set_option maxHeartbeats 8000000 in
set_option maxRecDepth 100000 in
theorem laws_FnExactTurnRing.walk (K : Nat) (a0_0 : Int) (A0_1 : Option Addr) (c0_1 : Nat) (l0_1 : List S43) (a1 : Int) (a2_0 : Int) (A2_1 : Option Addr) (c2_1 : Nat) (l2_1 : List Int) (m m1 : List S25) (b b1 : List Int) (v0 v1 r1 r2 k1 k2 q1 : Int) (r3 q3 : List S25) (w : World) (hr0_1 : Kd.C k43 w A0_1 l0_1.length l0_1) (hc0_1 : l0_1.length ≤ c0_1) (hr2_1 : Kd.C (Kd.int .u8) w A2_1 l2_1.length l2_1) (hc2_1 : l2_1.length ≤ c2_1)
  (hsz : laws_szRing.f K a0_0 l0_1 1048576 = some v0) (hsk : laws_szKey.f a2_0 l2_1 v0 = some v1) (hto : laws_toRing.f K a0_0 l0_1 = some (a0_0, m)) (htk : laws_toKey.f K a2_0 l2_1 = some (a2_0, b)) (hsp : spec_TurnRing.f K a0_0 m a1 a2_0 b = some (r1, r2, r3)) (him : impl_TurnRing.f K a0_0 m a1 a2_0 b = some (r1, r2, r3)) (heq : laws_eqRingResult.f K r1 r2 r3 r1 r2 r3 = some true) (her : laws_eqRing.f K a0_0 m a0_0 m = some true) (hek : laws_eqKey.f K a2_0 b a2_0 b = some true) (hml : m.length < 140737488355328) (hml3 : r3.length < 140737488355328) (hq3 : r3.length = q3.length) (hmk : markKs K m 1 = some (k1, m1)) (hmb : laws_markKey.f K a2_0 b k1 = some (k2, b1)) (hb1 : b.length = b1.length) (hmr : markKs K r3 1 = some (q1, q3)) (hhl : laws_heldRingResult.f K r1 r2 q3 1 = some q1) (hv0 : ¬ v0 < 0) (hv9 : ¬ v1 < 0) (hk1 : ¬ k2 < 0) (hq1 : ¬ q1 < 0) :
  Calls Try.prog 4 #[.agg #[.int .i64 a0_0, .slice A0_1 l0_1.length c0_1], .int .i64 a1, .agg #[.int .i64 a2_0, .slice A2_1 l2_1.length c2_1]] w fun e w' => e = .returned (.bool true) ∧ Below w.heap.size w w' := by
 have HR := Aside0.mk hr0_1
 have HC := Aside0.mk hc0_1
 have HRK := Aside0.mk hr2_1
 have HCK := Aside0.mk hc2_1
 have HSZ := Aside0.mk hsz
 have HSK := Aside0.mk hsk
 have HTO := Aside0.mk hto
 have HTK := Aside0.mk htk
 have HSP := Aside0.mk hsp
 have HIM := Aside0.mk him
 have HEQ := Aside0.mk heq
 have HER := Aside0.mk her
 have HEK := Aside0.mk hek
 have HML := Aside0.mk hml
 have HML3 := Aside0.mk hml3
 have HQ3 := Aside0.mk hq3
 have HMK := Aside0.mk hmk
 have HMB := Aside0.mk hmb
 have HMR := Aside0.mk hmr
 have HHL := Aside0.mk hhl
 have hv1 := decide_eq_false hv0
 have hv2 := decide_eq_false hv9
 have hk2 := decide_eq_false hk1
 have hq2 := decide_eq_false hq1
 have hqq : (q1 != q1) = false := bne_self_eq_false q1
 clear hr0_1 hc0_1 hr2_1 hc2_1 hsz hsk hto htk hsp him heq her hek hml hml3 hq3 hmk hmb hb1 hmr hhl hv0 hv9 hk1 hq1
 have HB := Aside0.mk (Below.refl w.heap.size w)
 have HT := Aside0.mk (Nat.le_refl w.heap.size)
 go_enter Try.func4, Try.ntmps4
 go_wp2_with (first
   | ((with_reducible refine gate_dst (N := 3) rfl ?_); refine box_event ?hg (N := 3) ?hd (cs := #[.int .i64 a0_0, .slice A0_1 l0_1.length c0_1]) (t := 42) ?hr ?_; (case hd => rfl); (case hg => rfl); (case hr => first | (go_simp; done) | (go_simp; rfl)); intro g3 hg w1 hbox hb; have n0_ := Aside0.mk (below_step HB.out hb); have n1_ := Aside0.mk hbox; have n2_ := Aside0.mk (show w.heap.size ≤ g3 by rw [hg]; exact HT.out); have n3_ := Aside0.mk (show w.heap.size ≤ g3 by rw [hg]; exact below_size HB.out); have n4_ := Aside0.mk (show g3 + 1 ≤ w1.heap.size from blk_lt hbox); clear HB HT; have HB := n0_; have BK3 := n1_; have CH3 := n2_; have GE3 := n3_; have HT := n4_; clear n0_ n1_ n2_ n3_ n4_; clear hb hbox hg; have hc3_0 : w1.cell? ⟨g3, 0, none⟩ = some (.int .i64 a0_0) := (blk_cell BK3.out 0).trans rfl; have hc3_1 : w1.cell? ⟨g3, 1, none⟩ = some (.slice A0_1 l0_1.length c0_1) := (blk_cell BK3.out 1).trans rfl)
   | ((with_reducible refine gate_dst (N := 5) rfl ?_); refine box_event ?hg (N := 5) ?hd (cs := #[.int .i64 a2_0, .slice A2_1 l2_1.length c2_1]) (t := 43) ?hr ?_; (case hd => rfl); (case hg => rfl); (case hr => first | (go_simp; done) | (go_simp; rfl)); intro g5 hg w2 hbox hb; have n0_ := Aside0.mk (below_step HB.out hb); have n1_ := Aside0.mk (blk_below (g := g3) (o := .cells #[.int .i64 a0_0, .slice A0_1 l0_1.length c0_1] 42 (0, 0)) BK3.out hb); have n2_ := Aside0.mk hbox; have n3_ := Aside0.mk (show g3 + 1 ≤ g5 by rw [hg]; exact HT.out); have n4_ := Aside0.mk (show w.heap.size ≤ g5 by rw [hg]; exact below_size HB.out); have n5_ := Aside0.mk (show g5 + 1 ≤ w2.heap.size from blk_lt hbox); clear HB BK3 HT; have HB := n0_; have BK3 := n1_; have BK5 := n2_; have CH5 := n3_; have GE5 := n4_; have HT := n5_; clear n0_ n1_ n2_ n3_ n4_ n5_; clear hb hbox hg; clear hc3_0 hc3_1; have hc3_0 : w2.cell? ⟨g3, 0, none⟩ = some (.int .i64 a0_0) := (blk_cell BK3.out 0).trans rfl; have hc3_1 : w2.cell? ⟨g3, 1, none⟩ = some (.slice A0_1 l0_1.length c0_1) := (blk_cell BK3.out 1).trans rfl; have hc5_0 : w2.cell? ⟨g5, 0, none⟩ = some (.int .i64 a2_0) := (blk_cell BK5.out 0).trans rfl; have hc5_1 : w2.cell? ⟨g5, 1, none⟩ = some (.slice A2_1 l2_1.length c2_1) := (blk_cell BK5.out 1).trans rfl)
   | ((with_reducible refine gate_callee (f := 26) rfl ?_); refine goesL_ (some 18) rfl rfl Try.func26 (by kernel_rfl) rfl #[.agg #[.int .i64 a0_0, .slice A0_1 l0_1.length c0_1], .int .i64 1048576] rfl (by (try simp only [List.map_toArray, List.map_cons, List.map_nil]); first | done | rfl) ?_; (with_reducible refine (laws_szRing.calls K a0_0 A0_1 c0_1 l0_1 1048576 v0 _ (Kd.C_below HR.out HB.out) HC.out HSZ.out).mono ?_); rintro e w3 ⟨rfl, hb⟩; refine ⟨_, rfl, ?_⟩; have n0_ := Aside0.mk (below_step HB.out hb); have n1_ := Aside0.mk (Nat.le_trans HT.out (Below.size hb)); have n2_ := Aside0.mk (blk_below (g := g3) (o := .cells #[.int .i64 a0_0, .slice A0_1 l0_1.length c0_1] 42 (0, 0)) BK3.out hb); have n3_ := Aside0.mk (blk_below (g := g5) (o := .cells #[.int .i64 a2_0, .slice A2_1 l2_1.length c2_1] 43 (0, 0)) BK5.out hb); clear HB HT BK3 BK5; have HB := n0_; have HT := n1_; have BK3 := n2_; have BK5 := n3_; clear n0_ n1_ n2_ n3_; clear hb; clear hc3_0 hc3_1 hc5_0 hc5_1; have hc3_0 : w3.cell? ⟨g3, 0, none⟩ = some (.int .i64 a0_0) := (blk_cell BK3.out 0).trans rfl; have hc3_1 : w3.cell? ⟨g3, 1, none⟩ = some (.slice A0_1 l0_1.length c0_1) := (blk_cell BK3.out 1).trans rfl; have hc5_0 : w3.cell? ⟨g5, 0, none⟩ = some (.int .i64 a2_0) := (blk_cell BK5.out 0).trans rfl; have hc5_1 : w3.cell? ⟨g5, 1, none⟩ = some (.slice A2_1 l2_1.length c2_1) := (blk_cell BK5.out 1).trans rfl)
   | ((with_reducible refine gate_callee (f := 27) rfl ?_); refine goesL_ (some 23) rfl rfl Try.func27 (by kernel_rfl) rfl #[.agg #[.int .i64 a2_0, .slice A2_1 l2_1.length c2_1], .int .i64 v0] rfl (by (try simp only [List.map_toArray, List.map_cons, List.map_nil]); first | done | rfl) ?_; (with_reducible refine (laws_szKey.calls a2_0 A2_1 c2_1 l2_1 v0 v1 _ (Kd.C_below HRK.out HB.out) HCK.out HSK.out).mono ?_); rintro e w4 ⟨rfl, hb⟩; refine ⟨_, rfl, ?_⟩; have n0_ := Aside0.mk (below_step HB.out hb); have n1_ := Aside0.mk (Nat.le_trans HT.out (Below.size hb)); have n2_ := Aside0.mk (blk_below (g := g3) (o := .cells #[.int .i64 a0_0, .slice A0_1 l0_1.length c0_1] 42 (0, 0)) BK3.out hb); have n3_ := Aside0.mk (blk_below (g := g5) (o := .cells #[.int .i64 a2_0, .slice A2_1 l2_1.length c2_1] 43 (0, 0)) BK5.out hb); clear HB HT BK3 BK5; have HB := n0_; have HT := n1_; have BK3 := n2_; have BK5 := n3_; clear n0_ n1_ n2_ n3_; clear hb; clear hc3_0 hc3_1 hc5_0 hc5_1; have hc3_0 : w4.cell? ⟨g3, 0, none⟩ = some (.int .i64 a0_0) := (blk_cell BK3.out 0).trans rfl; have hc3_1 : w4.cell? ⟨g3, 1, none⟩ = some (.slice A0_1 l0_1.length c0_1) := (blk_cell BK3.out 1).trans rfl; have hc5_0 : w4.cell? ⟨g5, 0, none⟩ = some (.int .i64 a2_0) := (blk_cell BK5.out 0).trans rfl; have hc5_1 : w4.cell? ⟨g5, 1, none⟩ = some (.slice A2_1 l2_1.length c2_1) := (blk_cell BK5.out 1).trans rfl))
 have n0_ := Aside0.mk (below_drew1 HB.out)
 have n1_ := Aside0.mk (show g5 + 1 ≤ w4.drew.heap.size from HT.out)
 have n2_ := Aside0.mk (blk_drew BK3.out)
 have n3_ := Aside0.mk (blk_drew BK5.out)
 clear HB HT BK3 BK5
 have HB := n0_
 have HT := n1_
 have BK3 := n2_
 have BK5 := n3_
 clear n0_ n1_ n2_ n3_
 clear hc3_0 hc3_1 hc5_0 hc5_1
 refine start_ (n := 8) (S := fun w' => w'.cell? ⟨g3, 0, none⟩ = some (.int .i64 a0_0) ∧ w'.cell? ⟨g3, 1, none⟩ = some (.slice A0_1 l0_1.length c0_1) ∧ w'.cell? ⟨g5, 0, none⟩ = some (.int .i64 a2_0) ∧ w'.cell? ⟨g5, 1, none⟩ = some (.slice A2_1 l2_1.length c2_1)) (ds := [7]) #[false, false, false, false, false, false, false, false] (by kernel_rfl) rfl rfl ⟨(blk_cell BK3.out 0).trans rfl, (blk_cell BK3.out 1).trans rfl, (blk_cell BK5.out 0).trans rfl, (blk_cell BK5.out 1).trans rfl⟩ (fun hHeld => ?_)
 generalize w4.drew = w5 at HB HT BK3 BK5 hHeld ⊢
 refine take_ (i := 0) (N := some 26) (v := ?_) (a' := ?_) #[true, false, false, false, false, false, false, false] rfl rfl (by kernel_rfl) (fun _ _ _ h => h) (Or.inl ⟨by rfl, ?_⟩) hHeld ?_ ?_
 rotate_left
 ·rintro w' ⟨s0, s1, s2, s3⟩
  go_simp
  with_reducible rfl
 rotate_left
 ·simp only [Act.put, List.setIfInBounds_toArray, List.set_cons_zero, List.set_cons_succ, i64_w, i32_w]
  rfl
 refine pure_ (i := 2) (N := some 28) (v := ?_) (a' := ?_) #[true, false, true, false, false, false, false, false] rfl rfl (by kernel_rfl) (fun _ _ _ h => h) (Or.inl ⟨by rfl, ?_⟩) ?_ ?_
 rotate_left
 ·intro w'
  go_simp
  with_reducible rfl
 rotate_left
 ·simp only [Act.put, List.setIfInBounds_toArray, List.set_cons_zero, List.set_cons_succ, i64_w, i32_w]
  rfl
 refine take_ (i := 3) (N := some 29) (v := ?_) (a' := ?_) #[true, false, true, true, false, false, false, false] rfl rfl (by kernel_rfl) (fun _ _ _ h => h) (Or.inl ⟨by rfl, ?_⟩) hHeld ?_ ?_
 rotate_left
 ·rintro w' ⟨s0, s1, s2, s3⟩
  go_simp
  with_reducible rfl
 rotate_left
 ·simp only [Act.put, List.setIfInBounds_toArray, List.set_cons_zero, List.set_cons_succ, i64_w, i32_w]
  rfl
 refine join_ (σ := Value × Value × Nat × Option Addr × Nat) 1 #[true, true, true, true, true, true, true, false] (fun s_ => [(27, s_.1), (30, s_.2.1), (31, .agg #[.int .i64 r1, .int .i64 r2, .slice s_.2.2.2.1 r3.length s_.2.2.2.2]), (8, .pointer (some ⟨s_.2.2.1, 0, none⟩))]) (fun s_ w' => Below w5.heap.size w5 w' ∧ w'.heap[s_.2.2.1]? = some (Obj.cells #[.int .i64 0, .int .i64 0, .slice none 0 0] 31 (0, 0)) ∧ w5.heap.size ≤ s_.2.2.1 ∧ Kd.S k25 25 w' w.heap.size (fun j_ => w5.heap.size ≤ j_ ∧ j_ < w'.heap.size ∧ j_ ≠ s_.2.2.1) (.slice s_.2.2.2.1 r3.length s_.2.2.2.2) r3) ?_ ?_
 rotate_left
 ·intro hCont
  have hB := Aside0.mk (Below.refl w5.heap.size w5)
  have hC := HB
  refine two_ (i := 1) (j := 6) (Ni := some 27) (Nj := some 8) #[true, true, true, true, false, false, false, false] #[true, false, true, true, false, false, true, false] rfl rfl rfl rfl (by kernel_rfl) (by decide) (by decide) (fun K_ hK => ?_) (fun K_ hK => ?_)
  ·skip
   refine goes_ Try.func28 (by kernel_rfl) rfl #[.agg #[.int .i64 a0_0, .slice A0_1 l0_1.length c0_1]] (by rfl) rfl rfl (by (try simp only [List.map_toArray, List.map_cons, List.map_nil]); first | done | rfl) ?_
   with_reducible refine (laws_toRing.calls K a0_0 A0_1 c0_1 l0_1 a0_0 m _ ?caspec1 HC.out HTO.out).mono ?_
   (case caspec1 => exact Kd.C_below HR.out hC.out)
   rintro e w5c1 ⟨v_, rfl, ho, hb⟩
   refine ⟨_, rfl, ?_⟩
   have n0_ := Aside0.mk (below_step hB.out hb)
   have n1_ := Aside0.mk (below_step hC.out hb)
   have n2_ := Aside0.mk (Kd.S_lower ho (below_size hC.out))
   clear hHeld hB hC
   have hB := n0_
   have hC := n1_
   have HOt_ := n2_
   clear n0_ n1_ n2_
   clear hb ho
   obtain ⟨At_, ct_, ev_⟩ := Kd.S_slice HOt_.out
   subst ev_
   refine hK.out _ _ ⟨(blk_cell (blk_below (g := g3) (o := .cells #[.int .i64 a0_0, .slice A0_1 l0_1.length c0_1] 42 (0, 0)) BK3.out hB.out) 0).trans rfl, (blk_cell (blk_below (g := g3) (o := .cells #[.int .i64 a0_0, .slice A0_1 l0_1.length c0_1] 42 (0, 0)) BK3.out hB.out) 1).trans rfl, (blk_cell (blk_below (g := g5) (o := .cells #[.int .i64 a2_0, .slice A2_1 l2_1.length c2_1] 43 (0, 0)) BK5.out hB.out) 0).trans rfl, (blk_cell (blk_below (g := g5) (o := .cells #[.int .i64 a2_0, .slice A2_1 l2_1.length c2_1] 43 (0, 0)) BK5.out hB.out) 1).trans rfl⟩ (fun hHeld => ?_)
   clear hK K_
   refine norm_ (a' := ?_) ?_ ?_
   rotate_left
   ·show Act.put _ (some 27) _ = _
    simp only [Act.put, List.setIfInBounds_toArray, List.set_cons_zero, List.set_cons_succ, i64_w, i32_w]
    rfl
   refine two_ (i := 4) (j := 6) (Ni := some 30) (Nj := some 8) #[true, true, true, true, true, false, false, false] #[true, true, true, true, false, false, true, false] rfl rfl rfl rfl (by kernel_rfl) (by decide) (by decide) (fun K_ hK => ?_) (fun K_ hK => ?_)
   ·skip
    refine goes_ Try.func29 (by kernel_rfl) rfl #[.agg #[.int .i64 a2_0, .slice A2_1 l2_1.length c2_1]] (by rfl) rfl rfl (by (try simp only [List.map_toArray, List.map_cons, List.map_nil]); first | done | rfl) ?_
    with_reducible refine (laws_toKey.calls K a2_0 A2_1 c2_1 l2_1 a2_0 b _ ?cbspec2 HCK.out HTK.out).mono ?_
    (case cbspec2 => exact Kd.C_below HRK.out hC.out)
    rintro e w5c2 ⟨v_, rfl, ho, hb⟩
    refine ⟨_, rfl, ?_⟩
    have n0_ := Aside0.mk (below_step hB.out hb)
    have n1_ := Aside0.mk (below_step hC.out hb)
    have n2_ := Aside0.mk (Kd.S_below HOt_.out hb)
    have n3_ := Aside0.mk (Kd.R_lower ho (below_size hC.out))
    clear hHeld hB hC HOt_
    have hB := n0_
    have hC := n1_
    have HOt_ := n2_
    have HOy_ := n3_
    clear n0_ n1_ n2_ n3_
    clear hb ho
    obtain ⟨Ay_, cy_, ev_⟩ := Kd.R_slice HOy_.out
    subst ev_
    refine hK.out _ _ ⟨(blk_cell (blk_below (g := g3) (o := .cells #[.int .i64 a0_0, .slice A0_1 l0_1.length c0_1] 42 (0, 0)) BK3.out hB.out) 0).trans rfl, (blk_cell (blk_below (g := g3) (o := .cells #[.int .i64 a0_0, .slice A0_1 l0_1.length c0_1] 42 (0, 0)) BK3.out hB.out) 1).trans rfl, (blk_cell (blk_below (g := g5) (o := .cells #[.int .i64 a2_0, .slice A2_1 l2_1.length c2_1] 43 (0, 0)) BK5.out hB.out) 0).trans rfl, (blk_cell (blk_below (g := g5) (o := .cells #[.int .i64 a2_0, .slice A2_1 l2_1.length c2_1] 43 (0, 0)) BK5.out hB.out) 1).trans rfl⟩ (fun hHeld => ?_)
    clear hK K_
    refine norm_ (a' := ?_) ?_ ?_
    rotate_left
    ·show Act.put _ (some 30) _ = _
     simp only [Act.put, List.setIfInBounds_toArray, List.set_cons_zero, List.set_cons_succ, i64_w, i32_w]
     rfl
    refine two_ (i := 5) (j := 6) (Ni := some 31) (Nj := some 8) #[true, true, true, true, true, true, false, false] #[true, true, true, true, true, false, true, false] rfl rfl rfl rfl (by kernel_rfl) (by decide) (by decide) (fun K_ hK => ?_) (fun K_ hK => ?_)
    ·skip
     refine goes_ Try.func22 (by kernel_rfl) rfl #[.agg #[.int .i64 a0_0, .slice At_ m.length ct_], .int .i64 a1, .agg #[.int .i64 a2_0, .slice Ay_ b.length cy_]] (by rfl) rfl rfl (by (try simp only [List.map_toArray, List.map_cons, List.map_nil]); first | done | rfl) ?_
     with_reducible refine (spec_TurnRing.calls K a0_0 _ _ m a1 a2_0 _ _ b r1 r2 r3 _ ?ccspec3 ?cdspec3 ?cespec3 ?cfspec3 HSP.out).mono ?_
     (case ccspec3 => exact (Kd.S_reads' HOt_.out).2.2)
     (case cdspec3 => exact (Kd.S_reads' HOt_.out).2.1)
     (case cespec3 => exact (Kd.R_reads' HOy_.out).2.2)
     (case cfspec3 => exact (Kd.R_reads' HOy_.out).2.1)
     rintro e w5c3 ⟨v_, rfl, ho, hb⟩
     refine ⟨_, rfl, ?_⟩
     have n0_ := Aside0.mk (below_step hB.out hb)
     have n1_ := Aside0.mk (below_step hC.out hb)
     have n2_ := Aside0.mk (Kd.S_below HOt_.out hb)
     have n3_ := Aside0.mk (Kd.R_below HOy_.out hb)
     have n4_ := Aside0.mk (Kd.S_lower (Kd.S_mono (Kd.S_bound ho) (ok' := fun j_ => w5.heap.size ≤ j_ ∧ j_ < w5c3.heap.size) (fun j_ hj_ => ⟨Nat.le_trans hB.out.size hj_.2.1, hj_.2.2.1⟩)) (below_size hC.out))
     clear hHeld hB hC HOt_ HOy_
     have hB := n0_
     have hC := n1_
     have HOt_ := n2_
     have HOy_ := n3_
     have HOw_ := n4_
     clear n0_ n1_ n2_ n3_ n4_
     clear hb ho
     obtain ⟨Aw_, cw_, ev_⟩ := Kd.S_slice HOw_.out
     subst ev_
     refine hK.out _ _ ⟨(blk_cell (blk_below (g := g3) (o := .cells #[.int .i64 a0_0, .slice A0_1 l0_1.length c0_1] 42 (0, 0)) BK3.out hB.out) 0).trans rfl, (blk_cell (blk_below (g := g3) (o := .cells #[.int .i64 a0_0, .slice A0_1 l0_1.length c0_1] 42 (0, 0)) BK3.out hB.out) 1).trans rfl, (blk_cell (blk_below (g := g5) (o := .cells #[.int .i64 a2_0, .slice A2_1 l2_1.length c2_1] 43 (0, 0)) BK5.out hB.out) 0).trans rfl, (blk_cell (blk_below (g := g5) (o := .cells #[.int .i64 a2_0, .slice A2_1 l2_1.length c2_1] 43 (0, 0)) BK5.out hB.out) 1).trans rfl⟩ (fun hHeld => ?_)
     clear hK K_
     refine norm_ (a' := ?_) ?_ ?_
     rotate_left
     ·show Act.put _ (some 31) _ = _
      simp only [Act.put, List.setIfInBounds_toArray, List.set_cons_zero, List.set_cons_succ, i64_w, i32_w]
      rfl
     refine one_ (i := 6) (N := some 8) #[true, true, true, true, true, true, true, false] rfl rfl (by kernel_rfl) (by decide) (fun K_ hK => ?_)
     refine value_ (w1 := (w5c3.alloc (.cells #[.int .i64 0, .int .i64 0, .slice none 0 0] 31))) (v := .pointer (some ⟨w5c3.heap.size, 0, none⟩)) (by rfl) rfl ?_ ?_
     ·first
       | (go_simp; done)
       | (go_simp; rfl)
     have n0_ := Aside0.mk (below_alloc hB.out (.cells #[.int .i64 0, .int .i64 0, .slice none 0 0] 31))
     have n1_ := Aside0.mk (below_alloc hC.out (.cells #[.int .i64 0, .int .i64 0, .slice none 0 0] 31))
     have n2_ := Aside0.mk (Kd.S_alloc HOt_.out (.cells #[.int .i64 0, .int .i64 0, .slice none 0 0] 31))
     have n3_ := Aside0.mk (Kd.R_alloc HOy_.out (.cells #[.int .i64 0, .int .i64 0, .slice none 0 0] 31))
     have nz_ : Aside0 ((w5c3.alloc (.cells #[.int .i64 0, .int .i64 0, .slice none 0 0] 31)).heap[w5c3.heap.size]? = some (Obj.cells #[.int .i64 0, .int .i64 0, .slice none 0 0] 31 (0, 0))) := ⟨heap_alloc_new w5c3 (.cells #[.int .i64 0, .int .i64 0, .slice none 0 0] 31)⟩
     have ng_ : Aside0 (w5.heap.size ≤ w5c3.heap.size) := ⟨hB.out.size⟩
     have nw_ : Aside0 (Kd.S k25 25 (w5c3.alloc (.cells #[.int .i64 0, .int .i64 0, .slice none 0 0] 31)) w.heap.size (fun j_ => w5.heap.size ≤ j_ ∧ j_ < (w5c3.alloc (.cells #[.int .i64 0, .int .i64 0, .slice none 0 0] 31)).heap.size ∧ j_ ≠ w5c3.heap.size) (.slice Aw_ r3.length cw_) r3) := ⟨Kd.S_mono (Kd.S_alloc HOw_.out (.cells #[.int .i64 0, .int .i64 0, .slice none 0 0] 31)) (fun j_ hj_ => ⟨hj_.1, by rw [show (w5c3.alloc (.cells #[.int .i64 0, .int .i64 0, .slice none 0 0] 31)).heap.size = w5c3.heap.size + 1 from Array.size_push _]; have := hj_.2; omega, Nat.ne_of_lt hj_.2⟩)⟩
     clear hHeld hB hC HOt_ HOy_ HOw_
     generalize w5c3.heap.size = gq_ at nz_ ng_ nw_ ⊢
     generalize (w5c3.alloc (.cells #[.int .i64 0, .int .i64 0, .slice none 0 0] 31)) = w5c4 at n0_ n1_ n2_ n3_ nz_ nw_ ⊢
     have hB := n0_
     have hC := n1_
     have HOt_ := n2_
     have HOy_ := n3_
     have HZ := nz_
     have HG := ng_
     have HOw_ := nw_
     clear nz_ ng_ nw_ n0_ n1_ n2_ n3_
     refine hK.out _ _ ⟨(blk_cell (blk_below (g := g3) (o := .cells #[.int .i64 a0_0, .slice A0_1 l0_1.length c0_1] 42 (0, 0)) BK3.out hB.out) 0).trans rfl, (blk_cell (blk_below (g := g3) (o := .cells #[.int .i64 a0_0, .slice A0_1 l0_1.length c0_1] 42 (0, 0)) BK3.out hB.out) 1).trans rfl, (blk_cell (blk_below (g := g5) (o := .cells #[.int .i64 a2_0, .slice A2_1 l2_1.length c2_1] 43 (0, 0)) BK5.out hB.out) 0).trans rfl, (blk_cell (blk_below (g := g5) (o := .cells #[.int .i64 a2_0, .slice A2_1 l2_1.length c2_1] 43 (0, 0)) BK5.out hB.out) 1).trans rfl⟩ (fun hHeld => ?_)
     clear hK K_
     refine norm_ (a' := ?_) ?_ ?_
     rotate_left
     ·show Act.put _ (some 8) _ = _
      simp only [Act.put, List.setIfInBounds_toArray, List.set_cons_zero, List.set_cons_succ, i64_w, i32_w]
      rfl
     exact norm_ (by simp only [putAll, Act.put, List.setIfInBounds_toArray, List.set_cons_zero, List.set_cons_succ]) (hCont (.agg #[.int .i64 a0_0, .slice At_ m.length ct_], .agg #[.int .i64 a2_0, .slice Ay_ b.length cy_], gq_, Aw_, cw_) _ ⟨hB.out, HZ.out, HG.out, HOw_.out⟩)
    ·skip
     refine value_ (w1 := (w5c2.alloc (.cells #[.int .i64 0, .int .i64 0, .slice none 0 0] 31))) (v := .pointer (some ⟨w5c2.heap.size, 0, none⟩)) (by rfl) rfl ?_ ?_
     ·first
       | (go_simp; done)
       | (go_simp; rfl)
     have n0_ := Aside0.mk (below_alloc hB.out (.cells #[.int .i64 0, .int .i64 0, .slice none 0 0] 31))
     have n1_ := Aside0.mk (below_alloc hC.out (.cells #[.int .i64 0, .int .i64 0, .slice none 0 0] 31))
     have n2_ := Aside0.mk (Kd.S_alloc HOt_.out (.cells #[.int .i64 0, .int .i64 0, .slice none 0 0] 31))
     have n3_ := Aside0.mk (Kd.R_alloc HOy_.out (.cells #[.int .i64 0, .int .i64 0, .slice none 0 0] 31))
     have nz_ : Aside0 ((w5c2.alloc (.cells #[.int .i64 0, .int .i64 0, .slice none 0 0] 31)).heap[w5c2.heap.size]? = some (Obj.cells #[.int .i64 0, .int .i64 0, .slice none 0 0] 31 (0, 0))) := ⟨heap_alloc_new w5c2 (.cells #[.int .i64 0, .int .i64 0, .slice none 0 0] 31)⟩
     have ng_ : Aside0 (w5.heap.size ≤ w5c2.heap.size) := ⟨hB.out.size⟩
     clear hHeld hB hC HOt_ HOy_
     generalize w5c2.heap.size = gq_ at nz_ ng_ ⊢
     generalize (w5c2.alloc (.cells #[.int .i64 0, .int .i64 0, .slice none 0 0] 31)) = w5c5 at n0_ n1_ n2_ n3_ nz_ ⊢
     have hB := n0_
     have hC := n1_
     have HOt_ := n2_
     have HOy_ := n3_
     have HZ := nz_
     have HG := ng_
     clear nz_ ng_ n0_ n1_ n2_ n3_
     refine hK.out _ _ ⟨(blk_cell (blk_below (g := g3) (o := .cells #[.int .i64 a0_0, .slice A0_1 l0_1.length c0_1] 42 (0, 0)) BK3.out hB.out) 0).trans rfl, (blk_cell (blk_below (g := g3) (o := .cells #[.int .i64 a0_0, .slice A0_1 l0_1.length c0_1] 42 (0, 0)) BK3.out hB.out) 1).trans rfl, (blk_cell (blk_below (g := g5) (o := .cells #[.int .i64 a2_0, .slice A2_1 l2_1.length c2_1] 43 (0, 0)) BK5.out hB.out) 0).trans rfl, (blk_cell (blk_below (g := g5) (o := .cells #[.int .i64 a2_0, .slice A2_1 l2_1.length c2_1] 43 (0, 0)) BK5.out hB.out) 1).trans rfl⟩ (fun hHeld => ?_)
     clear hK K_
     refine norm_ (a' := ?_) ?_ ?_
     rotate_left
     ·show Act.put _ (some 8) _ = _
      simp only [Act.put, List.setIfInBounds_toArray, List.set_cons_zero, List.set_cons_succ, i64_w, i32_w]
      rfl
     refine one_ (i := 5) (N := some 31) #[true, true, true, true, true, true, true, false] rfl rfl (by kernel_rfl) (by decide) (fun K_ hK => ?_)
     refine goes_ Try.func22 (by kernel_rfl) rfl #[.agg #[.int .i64 a0_0, .slice At_ m.length ct_], .int .i64 a1, .agg #[.int .i64 a2_0, .slice Ay_ b.length cy_]] (by rfl) rfl rfl (by (try simp only [List.map_toArray, List.map_cons, List.map_nil]); first | done | rfl) ?_
     with_reducible refine (spec_TurnRing.calls K a0_0 _ _ m a1 a2_0 _ _ b r1 r2 r3 _ ?ccspec6 ?cdspec6 ?cespec6 ?cfspec6 HSP.out).mono ?_
     (case ccspec6 => exact (Kd.S_reads' HOt_.out).2.2)
     (case cdspec6 => exact (Kd.S_reads' HOt_.out).2.1)
     (case cespec6 => exact (Kd.R_reads' HOy_.out).2.2)
     (case cfspec6 => exact (Kd.R_reads' HOy_.out).2.1)
     rintro e w5c6 ⟨v_, rfl, ho, hb⟩
     refine ⟨_, rfl, ?_⟩
     have n0_ := Aside0.mk (below_step hB.out hb)
     have n1_ := Aside0.mk (below_step hC.out hb)
     have n2_ := Aside0.mk (blk_below (g := gq_) (o := .cells #[.int .i64 0, .int .i64 0, .slice none 0 0] 31 (0, 0)) HZ.out hb)
     have n3_ := Aside0.mk (Kd.S_below HOt_.out hb)
     have n4_ := Aside0.mk (Kd.R_below HOy_.out hb)
     have n5_ := Aside0.mk (Kd.S_lower (Kd.S_mono (Kd.S_bound ho) (ok' := fun j_ => w5.heap.size ≤ j_ ∧ j_ < w5c6.heap.size ∧ j_ ≠ gq_) (fun j_ hj_ => ⟨Nat.le_trans hB.out.size hj_.2.1, hj_.2.2.1, fun e_ => by subst e_; have h9 := blk_lt HZ.out; have h8 := hj_.2.1; omega⟩)) (below_size hC.out))
     clear hHeld hB hC HZ HOt_ HOy_
     have hB := n0_
     have hC := n1_
     have HZ := n2_
     have HOt_ := n3_
     have HOy_ := n4_
     have HOw_ := n5_
     clear n0_ n1_ n2_ n3_ n4_ n5_
     clear hb ho
     obtain ⟨Aw_, cw_, ev_⟩ := Kd.S_slice HOw_.out
     subst ev_
     refine hK.out _ _ ⟨(blk_cell (blk_below (g := g3) (o := .cells #[.int .i64 a0_0, .slice A0_1 l0_1.length c0_1] 42 (0, 0)) BK3.out hB.out) 0).trans rfl, (blk_cell (blk_below (g := g3) (o := .cells #[.int .i64 a0_0, .slice A0_1 l0_1.length c0_1] 42 (0, 0)) BK3.out hB.out) 1).trans rfl, (blk_cell (blk_below (g := g5) (o := .cells #[.int .i64 a2_0, .slice A2_1 l2_1.length c2_1] 43 (0, 0)) BK5.out hB.out) 0).trans rfl, (blk_cell (blk_below (g := g5) (o := .cells #[.int .i64 a2_0, .slice A2_1 l2_1.length c2_1] 43 (0, 0)) BK5.out hB.out) 1).trans rfl⟩ (fun hHeld => ?_)
     clear hK K_
     refine norm_ (a' := ?_) ?_ ?_
     rotate_left
     ·show Act.put _ (some 31) _ = _
      simp only [Act.put, List.setIfInBounds_toArray, List.set_cons_zero, List.set_cons_succ, i64_w, i32_w]
      rfl
     exact norm_ (by simp only [putAll, Act.put, List.setIfInBounds_toArray, List.set_cons_zero, List.set_cons_succ]) (hCont (.agg #[.int .i64 a0_0, .slice At_ m.length ct_], .agg #[.int .i64 a2_0, .slice Ay_ b.length cy_], gq_, Aw_, cw_) _ ⟨hB.out, HZ.out, HG.out, HOw_.out⟩)
   ·skip
    refine value_ (w1 := (w5c1.alloc (.cells #[.int .i64 0, .int .i64 0, .slice none 0 0] 31))) (v := .pointer (some ⟨w5c1.heap.size, 0, none⟩)) (by rfl) rfl ?_ ?_
    ·first
      | (go_simp; done)
      | (go_simp; rfl)
    have n0_ := Aside0.mk (below_alloc hB.out (.cells #[.int .i64 0, .int .i64 0, .slice none 0 0] 31))
    have n1_ := Aside0.mk (below_alloc hC.out (.cells #[.int .i64 0, .int .i64 0, .slice none 0 0] 31))
    have n2_ := Aside0.mk (Kd.S_alloc HOt_.out (.cells #[.int .i64 0, .int .i64 0, .slice none 0 0] 31))
    have nz_ : Aside0 ((w5c1.alloc (.cells #[.int .i64 0, .int .i64 0, .slice none 0 0] 31)).heap[w5c1.heap.size]? = some (Obj.cells #[.int .i64 0, .int .i64 0, .slice none 0 0] 31 (0, 0))) := ⟨heap_alloc_new w5c1 (.cells #[.int .i64 0, .int .i64 0, .slice none 0 0] 31)⟩
    have ng_ : Aside0 (w5.heap.size ≤ w5c1.heap.size) := ⟨hB.out.size⟩
    clear hHeld hB hC HOt_
    generalize w5c1.heap.size = gq_ at nz_ ng_ ⊢
    generalize (w5c1.alloc (.cells #[.int .i64 0, .int .i64 0, .slice none 0 0] 31)) = w5c7 at n0_ n1_ n2_ nz_ ⊢
    have hB := n0_
    have hC := n1_
    have HOt_ := n2_
    have HZ := nz_
    have HG := ng_
    clear nz_ ng_ n0_ n1_ n2_
    refine hK.out _ _ ⟨(blk_cell (blk_below (g := g3) (o := .cells #[.int .i64 a0_0, .slice A0_1 l0_1.length c0_1] 42 (0, 0)) BK3.out hB.out) 0).trans rfl, (blk_cell (blk_below (g := g3) (o := .cells #[.int .i64 a0_0, .slice A0_1 l0_1.length c0_1] 42 (0, 0)) BK3.out hB.out) 1).trans rfl, (blk_cell (blk_below (g := g5) (o := .cells #[.int .i64 a2_0, .slice A2_1 l2_1.length c2_1] 43 (0, 0)) BK5.out hB.out) 0).trans rfl, (blk_cell (blk_below (g := g5) (o := .cells #[.int .i64 a2_0, .slice A2_1 l2_1.length c2_1] 43 (0, 0)) BK5.out hB.out) 1).trans rfl⟩ (fun hHeld => ?_)
    clear hK K_
    refine norm_ (a' := ?_) ?_ ?_
    rotate_left
    ·show Act.put _ (some 8) _ = _
     simp only [Act.put, List.setIfInBounds_toArray, List.set_cons_zero, List.set_cons_succ, i64_w, i32_w]
     rfl
    refine one_ (i := 4) (N := some 30) #[true, true, true, true, true, false, true, false] rfl rfl (by kernel_rfl) (by decide) (fun K_ hK => ?_)
    refine goes_ Try.func29 (by kernel_rfl) rfl #[.agg #[.int .i64 a2_0, .slice A2_1 l2_1.length c2_1]] (by rfl) rfl rfl (by (try simp only [List.map_toArray, List.map_cons, List.map_nil]); first | done | rfl) ?_
    with_reducible refine (laws_toKey.calls K a2_0 A2_1 c2_1 l2_1 a2_0 b _ ?cbspec8 HCK.out HTK.out).mono ?_
    (case cbspec8 => exact Kd.C_below HRK.out hC.out)
    rintro e w5c8 ⟨v_, rfl, ho, hb⟩
    refine ⟨_, rfl, ?_⟩
    have n0_ := Aside0.mk (below_step hB.out hb)
    have n1_ := Aside0.mk (below_step hC.out hb)
    have n2_ := Aside0.mk (blk_below (g := gq_) (o := .cells #[.int .i64 0, .int .i64 0, .slice none 0 0] 31 (0, 0)) HZ.out hb)
    have n3_ := Aside0.mk (Kd.S_below HOt_.out hb)
    have n4_ := Aside0.mk (Kd.R_lower ho (below_size hC.out))
    clear hHeld hB hC HZ HOt_
    have hB := n0_
    have hC := n1_
    have HZ := n2_
    have HOt_ := n3_
    have HOy_ := n4_
    clear n0_ n1_ n2_ n3_ n4_
    clear hb ho
    obtain ⟨Ay_, cy_, ev_⟩ := Kd.R_slice HOy_.out
    subst ev_
    refine hK.out _ _ ⟨(blk_cell (blk_below (g := g3) (o := .cells #[.int .i64 a0_0, .slice A0_1 l0_1.length c0_1] 42 (0, 0)) BK3.out hB.out) 0).trans rfl, (blk_cell (blk_below (g := g3) (o := .cells #[.int .i64 a0_0, .slice A0_1 l0_1.length c0_1] 42 (0, 0)) BK3.out hB.out) 1).trans rfl, (blk_cell (blk_below (g := g5) (o := .cells #[.int .i64 a2_0, .slice A2_1 l2_1.length c2_1] 43 (0, 0)) BK5.out hB.out) 0).trans rfl, (blk_cell (blk_below (g := g5) (o := .cells #[.int .i64 a2_0, .slice A2_1 l2_1.length c2_1] 43 (0, 0)) BK5.out hB.out) 1).trans rfl⟩ (fun hHeld => ?_)
    clear hK K_
    refine norm_ (a' := ?_) ?_ ?_
    rotate_left
    ·show Act.put _ (some 30) _ = _
     simp only [Act.put, List.setIfInBounds_toArray, List.set_cons_zero, List.set_cons_succ, i64_w, i32_w]
     rfl
    refine one_ (i := 5) (N := some 31) #[true, true, true, true, true, true, true, false] rfl rfl (by kernel_rfl) (by decide) (fun K_ hK => ?_)
    refine goes_ Try.func22 (by kernel_rfl) rfl #[.agg #[.int .i64 a0_0, .slice At_ m.length ct_], .int .i64 a1, .agg #[.int .i64 a2_0, .slice Ay_ b.length cy_]] (by rfl) rfl rfl (by (try simp only [List.map_toArray, List.map_cons, List.map_nil]); first | done | rfl) ?_
    with_reducible refine (spec_TurnRing.calls K a0_0 _ _ m a1 a2_0 _ _ b r1 r2 r3 _ ?ccspec9 ?cdspec9 ?cespec9 ?cfspec9 HSP.out).mono ?_
    (case ccspec9 => exact (Kd.S_reads' HOt_.out).2.2)
    (case cdspec9 => exact (Kd.S_reads' HOt_.out).2.1)
    (case cespec9 => exact (Kd.R_reads' HOy_.out).2.2)
    (case cfspec9 => exact (Kd.R_reads' HOy_.out).2.1)
    rintro e w5c9 ⟨v_, rfl, ho, hb⟩
    refine ⟨_, rfl, ?_⟩
    have n0_ := Aside0.mk (below_step hB.out hb)
    have n1_ := Aside0.mk (below_step hC.out hb)
    have n2_ := Aside0.mk (blk_below (g := gq_) (o := .cells #[.int .i64 0, .int .i64 0, .slice none 0 0] 31 (0, 0)) HZ.out hb)
    have n3_ := Aside0.mk (Kd.S_below HOt_.out hb)
    have n4_ := Aside0.mk (Kd.R_below HOy_.out hb)
    have n5_ := Aside0.mk (Kd.S_lower (Kd.S_mono (Kd.S_bound ho) (ok' := fun j_ => w5.heap.size ≤ j_ ∧ j_ < w5c9.heap.size ∧ j_ ≠ gq_) (fun j_ hj_ => ⟨Nat.le_trans hB.out.size hj_.2.1, hj_.2.2.1, fun e_ => by subst e_; have h9 := blk_lt HZ.out; have h8 := hj_.2.1; omega⟩)) (below_size hC.out))
    clear hHeld hB hC HZ HOt_ HOy_
    have hB := n0_
    have hC := n1_
    have HZ := n2_
    have HOt_ := n3_
    have HOy_ := n4_
    have HOw_ := n5_
    clear n0_ n1_ n2_ n3_ n4_ n5_
    clear hb ho
    obtain ⟨Aw_, cw_, ev_⟩ := Kd.S_slice HOw_.out
    subst ev_
    refine hK.out _ _ ⟨(blk_cell (blk_below (g := g3) (o := .cells #[.int .i64 a0_0, .slice A0_1 l0_1.length c0_1] 42 (0, 0)) BK3.out hB.out) 0).trans rfl, (blk_cell (blk_below (g := g3) (o := .cells #[.int .i64 a0_0, .slice A0_1 l0_1.length c0_1] 42 (0, 0)) BK3.out hB.out) 1).trans rfl, (blk_cell (blk_below (g := g5) (o := .cells #[.int .i64 a2_0, .slice A2_1 l2_1.length c2_1] 43 (0, 0)) BK5.out hB.out) 0).trans rfl, (blk_cell (blk_below (g := g5) (o := .cells #[.int .i64 a2_0, .slice A2_1 l2_1.length c2_1] 43 (0, 0)) BK5.out hB.out) 1).trans rfl⟩ (fun hHeld => ?_)
    clear hK K_
    refine norm_ (a' := ?_) ?_ ?_
    rotate_left
    ·show Act.put _ (some 31) _ = _
     simp only [Act.put, List.setIfInBounds_toArray, List.set_cons_zero, List.set_cons_succ, i64_w, i32_w]
     rfl
    exact norm_ (by simp only [putAll, Act.put, List.setIfInBounds_toArray, List.set_cons_zero, List.set_cons_succ]) (hCont (.agg #[.int .i64 a0_0, .slice At_ m.length ct_], .agg #[.int .i64 a2_0, .slice Ay_ b.length cy_], gq_, Aw_, cw_) _ ⟨hB.out, HZ.out, HG.out, HOw_.out⟩)
  ·skip
   refine value_ (w1 := (w5.alloc (.cells #[.int .i64 0, .int .i64 0, .slice none 0 0] 31))) (v := .pointer (some ⟨w5.heap.size, 0, none⟩)) (by rfl) rfl ?_ ?_
   ·first
     | (go_simp; done)
     | (go_simp; rfl)
   have n0_ := Aside0.mk (below_alloc hB.out (.cells #[.int .i64 0, .int .i64 0, .slice none 0 0] 31))
   have n1_ := Aside0.mk (below_alloc hC.out (.cells #[.int .i64 0, .int .i64 0, .slice none 0 0] 31))
   have nz_ : Aside0 ((w5.alloc (.cells #[.int .i64 0, .int .i64 0, .slice none 0 0] 31)).heap[w5.heap.size]? = some (Obj.cells #[.int .i64 0, .int .i64 0, .slice none 0 0] 31 (0, 0))) := ⟨heap_alloc_new w5 (.cells #[.int .i64 0, .int .i64 0, .slice none 0 0] 31)⟩
   have ng_ : Aside0 (w5.heap.size ≤ w5.heap.size) := ⟨hB.out.size⟩
   clear hHeld hB hC
   obtain ⟨gq_, hgq_⟩ : ∃ x, x = w5.heap.size := ⟨_, rfl⟩
   have nz2_ : Aside0 ((w5.alloc (.cells #[.int .i64 0, .int .i64 0, .slice none 0 0] 31)).heap[gq_]? = some (Obj.cells #[.int .i64 0, .int .i64 0, .slice none 0 0] 31 (0, 0))) := ⟨by rw [hgq_]; exact nz_.out⟩
   have ng2_ : Aside0 (w5.heap.size ≤ gq_) := ⟨Nat.le_of_eq hgq_.symm⟩
   clear nz_ ng_
   have nz_ := nz2_
   have ng_ := ng2_
   clear nz2_ ng2_
   rw [← hgq_]
   clear hgq_
   generalize (w5.alloc (.cells #[.int .i64 0, .int .i64 0, .slice none 0 0] 31)) = w5c10 at n0_ n1_ nz_ ⊢
   have hB := n0_
   have hC := n1_
   have HZ := nz_
   have HG := ng_
   clear nz_ ng_ n0_ n1_
   refine hK.out _ _ ⟨(blk_cell (blk_below (g := g3) (o := .cells #[.int .i64 a0_0, .slice A0_1 l0_1.length c0_1] 42 (0, 0)) BK3.out hB.out) 0).trans rfl, (blk_cell (blk_below (g := g3) (o := .cells #[.int .i64 a0_0, .slice A0_1 l0_1.length c0_1] 42 (0, 0)) BK3.out hB.out) 1).trans rfl, (blk_cell (blk_below (g := g5) (o := .cells #[.int .i64 a2_0, .slice A2_1 l2_1.length c2_1] 43 (0, 0)) BK5.out hB.out) 0).trans rfl, (blk_cell (blk_below (g := g5) (o := .cells #[.int .i64 a2_0, .slice A2_1 l2_1.length c2_1] 43 (0, 0)) BK5.out hB.out) 1).trans rfl⟩ (fun hHeld => ?_)
   clear hK K_
   refine norm_ (a' := ?_) ?_ ?_
   rotate_left
   ·show Act.put _ (some 8) _ = _
    simp only [Act.put, List.setIfInBounds_toArray, List.set_cons_zero, List.set_cons_succ, i64_w, i32_w]
    rfl
   refine one_ (i := 1) (N := some 27) #[true, true, true, true, false, false, true, false] rfl rfl (by kernel_rfl) (by decide) (fun K_ hK => ?_)
   refine goes_ Try.func28 (by kernel_rfl) rfl #[.agg #[.int .i64 a0_0, .slice A0_1 l0_1.length c0_1]] (by rfl) rfl rfl (by (try simp only [List.map_toArray, List.map_cons, List.map_nil]); first | done | rfl) ?_
   with_reducible refine (laws_toRing.calls K a0_0 A0_1 c0_1 l0_1 a0_0 m _ ?caspec11 HC.out HTO.out).mono ?_
   (case caspec11 => exact Kd.C_below HR.out hC.out)
   rintro e w5c11 ⟨v_, rfl, ho, hb⟩
   refine ⟨_, rfl, ?_⟩
   have n0_ := Aside0.mk (below_step hB.out hb)
   have n1_ := Aside0.mk (below_step hC.out hb)
   have n2_ := Aside0.mk (blk_below (g := gq_) (o := .cells #[.int .i64 0, .int .i64 0, .slice none 0 0] 31 (0, 0)) HZ.out hb)
   have n3_ := Aside0.mk (Kd.S_lower ho (below_size hC.out))
   clear hHeld hB hC HZ
   have hB := n0_
   have hC := n1_
   have HZ := n2_
   have HOt_ := n3_
   clear n0_ n1_ n2_ n3_
   clear hb ho
   obtain ⟨At_, ct_, ev_⟩ := Kd.S_slice HOt_.out
   subst ev_
   refine hK.out _ _ ⟨(blk_cell (blk_below (g := g3) (o := .cells #[.int .i64 a0_0, .slice A0_1 l0_1.length c0_1] 42 (0, 0)) BK3.out hB.out) 0).trans rfl, (blk_cell (blk_below (g := g3) (o := .cells #[.int .i64 a0_0, .slice A0_1 l0_1.length c0_1] 42 (0, 0)) BK3.out hB.out) 1).trans rfl, (blk_cell (blk_below (g := g5) (o := .cells #[.int .i64 a2_0, .slice A2_1 l2_1.length c2_1] 43 (0, 0)) BK5.out hB.out) 0).trans rfl, (blk_cell (blk_below (g := g5) (o := .cells #[.int .i64 a2_0, .slice A2_1 l2_1.length c2_1] 43 (0, 0)) BK5.out hB.out) 1).trans rfl⟩ (fun hHeld => ?_)
   clear hK K_
   refine norm_ (a' := ?_) ?_ ?_
   rotate_left
   ·show Act.put _ (some 27) _ = _
    simp only [Act.put, List.setIfInBounds_toArray, List.set_cons_zero, List.set_cons_succ, i64_w, i32_w]
    rfl
   refine one_ (i := 4) (N := some 30) #[true, true, true, true, true, false, true, false] rfl rfl (by kernel_rfl) (by decide) (fun K_ hK => ?_)
   refine goes_ Try.func29 (by kernel_rfl) rfl #[.agg #[.int .i64 a2_0, .slice A2_1 l2_1.length c2_1]] (by rfl) rfl rfl (by (try simp only [List.map_toArray, List.map_cons, List.map_nil]); first | done | rfl) ?_
   with_reducible refine (laws_toKey.calls K a2_0 A2_1 c2_1 l2_1 a2_0 b _ ?cbspec12 HCK.out HTK.out).mono ?_
   (case cbspec12 => exact Kd.C_below HRK.out hC.out)
   rintro e w5c12 ⟨v_, rfl, ho, hb⟩
   refine ⟨_, rfl, ?_⟩
   have n0_ := Aside0.mk (below_step hB.out hb)
   have n1_ := Aside0.mk (below_step hC.out hb)
   have n2_ := Aside0.mk (blk_below (g := gq_) (o := .cells #[.int .i64 0, .int .i64 0, .slice none 0 0] 31 (0, 0)) HZ.out hb)
   have n3_ := Aside0.mk (Kd.S_below HOt_.out hb)
   have n4_ := Aside0.mk (Kd.R_lower ho (below_size hC.out))
   clear hHeld hB hC HZ HOt_
   have hB := n0_
   have hC := n1_
   have HZ := n2_
   have HOt_ := n3_
   have HOy_ := n4_
   clear n0_ n1_ n2_ n3_ n4_
   clear hb ho
   obtain ⟨Ay_, cy_, ev_⟩ := Kd.R_slice HOy_.out
   subst ev_
   refine hK.out _ _ ⟨(blk_cell (blk_below (g := g3) (o := .cells #[.int .i64 a0_0, .slice A0_1 l0_1.length c0_1] 42 (0, 0)) BK3.out hB.out) 0).trans rfl, (blk_cell (blk_below (g := g3) (o := .cells #[.int .i64 a0_0, .slice A0_1 l0_1.length c0_1] 42 (0, 0)) BK3.out hB.out) 1).trans rfl, (blk_cell (blk_below (g := g5) (o := .cells #[.int .i64 a2_0, .slice A2_1 l2_1.length c2_1] 43 (0, 0)) BK5.out hB.out) 0).trans rfl, (blk_cell (blk_below (g := g5) (o := .cells #[.int .i64 a2_0, .slice A2_1 l2_1.length c2_1] 43 (0, 0)) BK5.out hB.out) 1).trans rfl⟩ (fun hHeld => ?_)
   clear hK K_
   refine norm_ (a' := ?_) ?_ ?_
   rotate_left
   ·show Act.put _ (some 30) _ = _
    simp only [Act.put, List.setIfInBounds_toArray, List.set_cons_zero, List.set_cons_succ, i64_w, i32_w]
    rfl
   refine one_ (i := 5) (N := some 31) #[true, true, true, true, true, true, true, false] rfl rfl (by kernel_rfl) (by decide) (fun K_ hK => ?_)
   refine goes_ Try.func22 (by kernel_rfl) rfl #[.agg #[.int .i64 a0_0, .slice At_ m.length ct_], .int .i64 a1, .agg #[.int .i64 a2_0, .slice Ay_ b.length cy_]] (by rfl) rfl rfl (by (try simp only [List.map_toArray, List.map_cons, List.map_nil]); first | done | rfl) ?_
   with_reducible refine (spec_TurnRing.calls K a0_0 _ _ m a1 a2_0 _ _ b r1 r2 r3 _ ?ccspec13 ?cdspec13 ?cespec13 ?cfspec13 HSP.out).mono ?_
   (case ccspec13 => exact (Kd.S_reads' HOt_.out).2.2)
   (case cdspec13 => exact (Kd.S_reads' HOt_.out).2.1)
   (case cespec13 => exact (Kd.R_reads' HOy_.out).2.2)
   (case cfspec13 => exact (Kd.R_reads' HOy_.out).2.1)
   rintro e w5c13 ⟨v_, rfl, ho, hb⟩
   refine ⟨_, rfl, ?_⟩
   have n0_ := Aside0.mk (below_step hB.out hb)
   have n1_ := Aside0.mk (below_step hC.out hb)
   have n2_ := Aside0.mk (blk_below (g := gq_) (o := .cells #[.int .i64 0, .int .i64 0, .slice none 0 0] 31 (0, 0)) HZ.out hb)
   have n3_ := Aside0.mk (Kd.S_below HOt_.out hb)
   have n4_ := Aside0.mk (Kd.R_below HOy_.out hb)
   have n5_ := Aside0.mk (Kd.S_lower (Kd.S_mono (Kd.S_bound ho) (ok' := fun j_ => w5.heap.size ≤ j_ ∧ j_ < w5c13.heap.size ∧ j_ ≠ gq_) (fun j_ hj_ => ⟨Nat.le_trans hB.out.size hj_.2.1, hj_.2.2.1, fun e_ => by subst e_; have h9 := blk_lt HZ.out; have h8 := hj_.2.1; omega⟩)) (below_size hC.out))
   clear hHeld hB hC HZ HOt_ HOy_
   have hB := n0_
   have hC := n1_
   have HZ := n2_
   have HOt_ := n3_
   have HOy_ := n4_
   have HOw_ := n5_
   clear n0_ n1_ n2_ n3_ n4_ n5_
   clear hb ho
   obtain ⟨Aw_, cw_, ev_⟩ := Kd.S_slice HOw_.out
   subst ev_
   refine hK.out _ _ ⟨(blk_cell (blk_below (g := g3) (o := .cells #[.int .i64 a0_0, .slice A0_1 l0_1.length c0_1] 42 (0, 0)) BK3.out hB.out) 0).trans rfl, (blk_cell (blk_below (g := g3) (o := .cells #[.int .i64 a0_0, .slice A0_1 l0_1.length c0_1] 42 (0, 0)) BK3.out hB.out) 1).trans rfl, (blk_cell (blk_below (g := g5) (o := .cells #[.int .i64 a2_0, .slice A2_1 l2_1.length c2_1] 43 (0, 0)) BK5.out hB.out) 0).trans rfl, (blk_cell (blk_below (g := g5) (o := .cells #[.int .i64 a2_0, .slice A2_1 l2_1.length c2_1] 43 (0, 0)) BK5.out hB.out) 1).trans rfl⟩ (fun hHeld => ?_)
   clear hK K_
   refine norm_ (a' := ?_) ?_ ?_
   rotate_left
   ·show Act.put _ (some 31) _ = _
    simp only [Act.put, List.setIfInBounds_toArray, List.set_cons_zero, List.set_cons_succ, i64_w, i32_w]
    rfl
   exact norm_ (by simp only [putAll, Act.put, List.setIfInBounds_toArray, List.set_cons_zero, List.set_cons_succ]) (hCont (.agg #[.int .i64 a0_0, .slice At_ m.length ct_], .agg #[.int .i64 a2_0, .slice Ay_ b.length cy_], gq_, Aw_, cw_) _ ⟨hB.out, HZ.out, HG.out, HOw_.out⟩)
 rintro ⟨t25_, t27_, g8, Aw, cw⟩ w6 ⟨hb, hz_, hg_, hw_⟩
 refine norm_ (a' := ?_) ?_ ?_
 rotate_left
 ·simp only [putAll, Act.put, List.setIfInBounds_toArray, List.set_cons_zero, List.set_cons_succ]
  rfl
 clear hHeld
 obtain ⟨loww, hlow_⟩ : ∃ x_, x_ = w5.heap.size := ⟨_, rfl⟩
 obtain ⟨hiww, hhi_⟩ : ∃ x_, x_ = w6.heap.size := ⟨_, rfl⟩
 have n0_ := Aside0.mk (below_step HB.out hb)
 have n1_ := Aside0.mk (blk_below (g := g3) (o := .cells #[.int .i64 a0_0, .slice A0_1 l0_1.length c0_1] 42 (0, 0)) BK3.out hb)
 have n2_ := Aside0.mk (blk_below (g := g5) (o := .cells #[.int .i64 a2_0, .slice A2_1 l2_1.length c2_1] 43 (0, 0)) BK5.out hb)
 have n3_ := Aside0.mk hz_
 have n4_ := Aside0.mk (Kd.S_mono hw_ (ok' := fun j_ => loww ≤ j_ ∧ j_ < hiww ∧ j_ ≠ g8) (fun j_ hj_ => ⟨by rw [hlow_]; exact hj_.1, by rw [hhi_]; exact hj_.2.1, hj_.2.2⟩))
 have n5_ := Aside0.mk (show g5 + 1 ≤ g8 ∧ g8 + 1 ≤ hiww from ⟨Nat.le_trans HT.out hg_, by rw [hhi_]; exact blk_lt hz_⟩)
 have n6_ := Aside0.mk (show g5 + 1 ≤ loww ∧ loww ≤ hiww from ⟨by rw [hlow_]; exact HT.out, by rw [hlow_, hhi_]; exact hb.size⟩)
 have n7_ := Aside0.mk (Nat.le_trans (below_size HB.out) hg_)
 have n8_ := Aside0.mk (show hiww ≤ w6.heap.size from Nat.le_of_eq hhi_)
 clear HB BK3 BK5 HT
 have HB := n0_
 have BK3 := n1_
 have BK5 := n2_
 have BK8 := n3_
 have HOw := n4_
 have CH8 := n5_
 have CHw := n6_
 have GE8 := n7_
 have HT := n8_
 clear n0_ n1_ n2_ n3_ n4_ n5_ n6_ n7_ n8_
 clear hb hz_ hg_ hw_ hlow_ hhi_
 refine last_ (i := 7) (N := none) #[true, true, true, true, true, true, true, true] rfl rfl (by kernel_rfl) (by decide) (fun K_ hK => ?_)
 rw [if_pos (by rfl)]
 refine wp_store_row 31 (.tmp 8) (.tmp 31) rfl g8 #[.int .i64 r1, .int .i64 r2, (.slice Aw r3.length cw)] rfl rfl 31 #[.int .i64 0, .int .i64 0, .slice none 0 0] BK8.out (by kernel_rfl) rfl (by simp [Value.oneCell']) ?_
 have hgr := grown_setRow w6 g8 #[.int .i64 r1, .int .i64 r2, (.slice Aw r3.length cw)]
 have hbk := setRow_heap w6 g8 _ #[.int .i64 r1, .int .i64 r2, (.slice Aw r3.length cw)] 31 (0, 0) BK8.out
 generalize w6.setRow g8 #[.int .i64 r1, .int .i64 r2, (.slice Aw r3.length cw)] = w7 at hgr hbk ⊢
 have n0_ := Aside0.mk (below_grown1 HB.out hgr GE8.out)
 have n1_ := Aside0.mk (Nat.le_trans HT.out hgr.size)
 have n2_ := Aside0.mk (blk_grown1 (g' := g3) (ob := .cells #[.int .i64 a0_0, .slice A0_1 l0_1.length c0_1] 42 (0, 0)) BK3.out hgr (by have := CH3.out; have := CH5.out; have := CH8.out; omega))
 have n3_ := Aside0.mk (blk_grown1 (g' := g5) (ob := .cells #[.int .i64 a2_0, .slice A2_1 l2_1.length c2_1] 43 (0, 0)) BK5.out hgr (by have := CH5.out; have := CH8.out; omega))
 have n4_ := Aside0.mk (Kd.S_grown HOw.out hgr (fun q_ hq_ he_ => by injection he_ with he_; subst he_; exact hq_.2.2 rfl))
 have n5_ := Aside0.mk hbk
 clear HB HT BK3 BK5 HOw BK8
 have HB := n0_
 have HT := n1_
 have BK3 := n2_
 have BK5 := n3_
 have HOw := n4_
 have BK8 := n5_
 clear n0_ n1_ n2_ n3_ n4_ n5_
 clear hbk hgr
 refine hK.out _ _ ?_
 clear hK K_
 refine done_ (by kernel_rfl) ?_
 have hc3_0 : w7.cell? ⟨g3, 0, none⟩ = some (.int .i64 a0_0) := (blk_cell BK3.out 0).trans rfl
 have hc3_1 : w7.cell? ⟨g3, 1, none⟩ = some (.slice A0_1 l0_1.length c0_1) := (blk_cell BK3.out 1).trans rfl
 have hc5_0 : w7.cell? ⟨g5, 0, none⟩ = some (.int .i64 a2_0) := (blk_cell BK5.out 0).trans rfl
 have hc5_1 : w7.cell? ⟨g5, 1, none⟩ = some (.slice A2_1 l2_1.length c2_1) := (blk_cell BK5.out 1).trans rfl
 have hc8_0 : w7.cell? ⟨g8, 0, none⟩ = some (.int .i64 r1) := (blk_cell BK8.out 0).trans rfl
 have hc8_1 : w7.cell? ⟨g8, 1, none⟩ = some (.int .i64 r2) := (blk_cell BK8.out 1).trans rfl
 have hc8_2 : w7.cell? ⟨g8, 2, none⟩ = some ((.slice Aw r3.length cw)) := (blk_cell BK8.out 2).trans rfl
 go_wp2_with (first
   | ((with_reducible refine gate_callee (f := 28) rfl ?_); refine goesL_ (some 33) rfl rfl Try.func28 (by kernel_rfl) rfl #[.agg #[.int .i64 a0_0, .slice A0_1 l0_1.length c0_1]] rfl (by (try simp only [List.map_toArray, List.map_cons, List.map_nil]); first | done | rfl) ?_; (with_reducible refine (laws_toRing.calls K a0_0 A0_1 c0_1 l0_1 a0_0 m _ (Kd.C_below HR.out HB.out) HC.out HTO.out).mono ?_); rintro e w8 ⟨v_, rfl, ho, hb⟩; refine ⟨_, rfl, ?_⟩; obtain ⟨lox, hix, hch_, hhi_, hz_⟩ := TurnRing_zS ho (below_size HB.out) HT.out hb.size; clear ho; have n0_ := Aside0.mk (below_step HB.out hb); have n1_ := Aside0.mk (blk_below (g := g3) (o := .cells #[.int .i64 a0_0, .slice A0_1 l0_1.length c0_1] 42 (0, 0)) BK3.out hb); have n2_ := Aside0.mk (blk_below (g := g5) (o := .cells #[.int .i64 a2_0, .slice A2_1 l2_1.length c2_1] 43 (0, 0)) BK5.out hb); have n3_ := Aside0.mk (blk_below (g := g8) (o := .cells #[.int .i64 r1, .int .i64 r2, (.slice Aw r3.length cw)] 31 (0, 0)) BK8.out hb); have n4_ := Aside0.mk (Kd.S_below HOw.out hb); have n5_ := Aside0.mk hz_; have n6_ := Aside0.mk hch_; have n7_ := Aside0.mk hhi_; clear HB BK3 BK5 BK8 HOw HT; have HB := n0_; have BK3 := n1_; have BK5 := n2_; have BK8 := n3_; have HOw := n4_; have HOx := n5_; have CHx := n6_; have HT := n7_; clear n0_ n1_ n2_ n3_ n4_ n5_ n6_ n7_; clear hb hch_ hhi_ hz_; obtain ⟨Ax, cx, ev_⟩ := Kd.S_slice HOx.out; subst ev_; clear hc3_0 hc3_1 hc5_0 hc5_1 hc8_0 hc8_1 hc8_2; have hc3_0 : w8.cell? ⟨g3, 0, none⟩ = some (.int .i64 a0_0) := (blk_cell BK3.out 0).trans rfl; have hc3_1 : w8.cell? ⟨g3, 1, none⟩ = some (.slice A0_1 l0_1.length c0_1) := (blk_cell BK3.out 1).trans rfl; have hc5_0 : w8.cell? ⟨g5, 0, none⟩ = some (.int .i64 a2_0) := (blk_cell BK5.out 0).trans rfl; have hc5_1 : w8.cell? ⟨g5, 1, none⟩ = some (.slice A2_1 l2_1.length c2_1) := (blk_cell BK5.out 1).trans rfl; have hc8_0 : w8.cell? ⟨g8, 0, none⟩ = some (.int .i64 r1) := (blk_cell BK8.out 0).trans rfl; have hc8_1 : w8.cell? ⟨g8, 1, none⟩ = some (.int .i64 r2) := (blk_cell BK8.out 1).trans rfl; have hc8_2 : w8.cell? ⟨g8, 2, none⟩ = some ((.slice Aw r3.length cw)) := (blk_cell BK8.out 2).trans rfl)
   | ((with_reducible refine gate_dst (N := 9) rfl ?_); refine box_event ?hg (N := 9) ?hd (cs := #[.int .i64 0, .slice none 0 0]) (t := 29) ?hr ?_; (case hd => rfl); (case hg => rfl); (case hr => first | (go_simp; done) | (go_simp; rfl)); intro g9 hg w9 hbox hb; have n0_ := Aside0.mk (below_step HB.out hb); have n1_ := Aside0.mk (blk_below (g := g3) (o := .cells #[.int .i64 a0_0, .slice A0_1 l0_1.length c0_1] 42 (0, 0)) BK3.out hb); have n2_ := Aside0.mk (blk_below (g := g5) (o := .cells #[.int .i64 a2_0, .slice A2_1 l2_1.length c2_1] 43 (0, 0)) BK5.out hb); have n3_ := Aside0.mk (blk_below (g := g8) (o := .cells #[.int .i64 r1, .int .i64 r2, (.slice Aw r3.length cw)] 31 (0, 0)) BK8.out hb); have n4_ := Aside0.mk (Kd.S_below HOw.out hb); have n5_ := Aside0.mk (Kd.S_below HOx.out hb); have n6_ := Aside0.mk hbox; have n7_ := Aside0.mk (show hix ≤ g9 by rw [hg]; exact HT.out); have n8_ := Aside0.mk (show w.heap.size ≤ g9 by rw [hg]; exact below_size HB.out); have n9_ := Aside0.mk (show g9 + 1 ≤ w9.heap.size from blk_lt hbox); clear HB BK3 BK5 BK8 HOw HOx HT; have HB := n0_; have BK3 := n1_; have BK5 := n2_; have BK8 := n3_; have HOw := n4_; have HOx := n5_; have BK9 := n6_; have CH9 := n7_; have GE9 := n8_; have HT := n9_; clear n0_ n1_ n2_ n3_ n4_ n5_ n6_ n7_ n8_ n9_; clear hb hbox hg; clear hc3_0 hc3_1 hc5_0 hc5_1 hc8_0 hc8_1 hc8_2; have hc3_0 : w9.cell? ⟨g3, 0, none⟩ = some (.int .i64 a0_0) := (blk_cell BK3.out 0).trans rfl; have hc3_1 : w9.cell? ⟨g3, 1, none⟩ = some (.slice A0_1 l0_1.length c0_1) := (blk_cell BK3.out 1).trans rfl; have hc5_0 : w9.cell? ⟨g5, 0, none⟩ = some (.int .i64 a2_0) := (blk_cell BK5.out 0).trans rfl; have hc5_1 : w9.cell? ⟨g5, 1, none⟩ = some (.slice A2_1 l2_1.length c2_1) := (blk_cell BK5.out 1).trans rfl; have hc8_0 : w9.cell? ⟨g8, 0, none⟩ = some (.int .i64 r1) := (blk_cell BK8.out 0).trans rfl; have hc8_1 : w9.cell? ⟨g8, 1, none⟩ = some (.int .i64 r2) := (blk_cell BK8.out 1).trans rfl; have hc8_2 : w9.cell? ⟨g8, 2, none⟩ = some ((.slice Aw r3.length cw)) := (blk_cell BK8.out 2).trans rfl; have hc9_0 : w9.cell? ⟨g9, 0, none⟩ = some (.int .i64 0) := (blk_cell BK9.out 0).trans rfl; have hc9_1 : w9.cell? ⟨g9, 1, none⟩ = some (.slice none 0 0) := (blk_cell BK9.out 1).trans rfl)
   | ((with_reducible refine gate_store (t := 29) (p := 9) rfl ?_); refine row_event ?hg (ty := 29) (p := 9) (y := ?yo9) ?ho ?hn (g := g9) (old := #[.int .i64 0, .slice none 0 0]) (e := 29) (cells := #[.int .i64 a0_0, (.slice Ax m.length cx)]) ?hx ?hy ?hk ?hi ?hd ?h1 ?_; (case ho => rfl); (case hg => rfl); (case hn => rfl); (case hx => rfl); (case hy => rfl); (case hk => exact BK9.out); (case hi => kernel_rfl); (case hd => rfl); (case h1 => simp [Value.oneCell']); intro w10 hbk hgr; have n0_ := Aside0.mk (below_grown1 HB.out hgr GE9.out); have n1_ := Aside0.mk (Nat.le_trans HT.out hgr.size); have n2_ := Aside0.mk (blk_grown1 (g' := g3) (ob := .cells #[.int .i64 a0_0, .slice A0_1 l0_1.length c0_1] 42 (0, 0)) BK3.out hgr (by have := CH3.out; have := CH5.out; have := CH8.out; have := CHw.out; have := CHx.out; have := CH9.out; omega)); have n3_ := Aside0.mk (blk_grown1 (g' := g5) (ob := .cells #[.int .i64 a2_0, .slice A2_1 l2_1.length c2_1] 43 (0, 0)) BK5.out hgr (by have := CH5.out; have := CH8.out; have := CHw.out; have := CHx.out; have := CH9.out; omega)); have n4_ := Aside0.mk (blk_grown1 (g' := g8) (ob := .cells #[.int .i64 r1, .int .i64 r2, (.slice Aw r3.length cw)] 31 (0, 0)) BK8.out hgr (by have := CH8.out; have := CHw.out; have := CHx.out; have := CH9.out; omega)); have n5_ := Aside0.mk (Kd.S_grown HOw.out hgr (fun q_ hq_ he_ => by injection he_ with he_; subst he_; have := CHw.out; have := CHx.out; have := CH9.out; omega)); have n6_ := Aside0.mk (Kd.S_grown HOx.out hgr (fun q_ hq_ he_ => by injection he_ with he_; subst he_; have := CHx.out; have := CH9.out; omega)); have n7_ := Aside0.mk hbk; clear HB HT BK3 BK5 BK8 HOw HOx BK9; have HB := n0_; have HT := n1_; have BK3 := n2_; have BK5 := n3_; have BK8 := n4_; have HOw := n5_; have HOx := n6_; have BK9 := n7_; clear n0_ n1_ n2_ n3_ n4_ n5_ n6_ n7_; clear hbk hgr; clear hc3_0 hc3_1 hc5_0 hc5_1 hc8_0 hc8_1 hc8_2 hc9_0 hc9_1; have hc3_0 : w10.cell? ⟨g3, 0, none⟩ = some (.int .i64 a0_0) := (blk_cell BK3.out 0).trans rfl; have hc3_1 : w10.cell? ⟨g3, 1, none⟩ = some (.slice A0_1 l0_1.length c0_1) := (blk_cell BK3.out 1).trans rfl; have hc5_0 : w10.cell? ⟨g5, 0, none⟩ = some (.int .i64 a2_0) := (blk_cell BK5.out 0).trans rfl; have hc5_1 : w10.cell? ⟨g5, 1, none⟩ = some (.slice A2_1 l2_1.length c2_1) := (blk_cell BK5.out 1).trans rfl; have hc8_0 : w10.cell? ⟨g8, 0, none⟩ = some (.int .i64 r1) := (blk_cell BK8.out 0).trans rfl; have hc8_1 : w10.cell? ⟨g8, 1, none⟩ = some (.int .i64 r2) := (blk_cell BK8.out 1).trans rfl; have hc8_2 : w10.cell? ⟨g8, 2, none⟩ = some ((.slice Aw r3.length cw)) := (blk_cell BK8.out 2).trans rfl; have hc9_0 : w10.cell? ⟨g9, 0, none⟩ = some (.int .i64 a0_0) := (blk_cell BK9.out 0).trans rfl; have hc9_1 : w10.cell? ⟨g9, 1, none⟩ = some ((.slice Ax m.length cx)) := (blk_cell BK9.out 1).trans rfl)
   | ((with_reducible refine gate_callee (f := 29) rfl ?_); refine goesL_ (some 35) rfl rfl Try.func29 (by kernel_rfl) rfl #[.agg #[.int .i64 a2_0, .slice A2_1 l2_1.length c2_1]] rfl (by (try simp only [List.map_toArray, List.map_cons, List.map_nil]); first | done | rfl) ?_; (with_reducible refine (laws_toKey.calls K a2_0 A2_1 c2_1 l2_1 a2_0 b _ (Kd.C_below HRK.out HB.out) HCK.out HTK.out).mono ?_); rintro e w11 ⟨v_, rfl, ho, hb⟩; refine ⟨_, rfl, ?_⟩; obtain ⟨loy, hiy, hch_, hhi_, hz_⟩ := TurnRing_zR ho (below_size HB.out) HT.out hb.size; clear ho; have n0_ := Aside0.mk (below_step HB.out hb); have n1_ := Aside0.mk (blk_below (g := g3) (o := .cells #[.int .i64 a0_0, .slice A0_1 l0_1.length c0_1] 42 (0, 0)) BK3.out hb); have n2_ := Aside0.mk (blk_below (g := g5) (o := .cells #[.int .i64 a2_0, .slice A2_1 l2_1.length c2_1] 43 (0, 0)) BK5.out hb); have n3_ := Aside0.mk (blk_below (g := g8) (o := .cells #[.int .i64 r1, .int .i64 r2, (.slice Aw r3.length cw)] 31 (0, 0)) BK8.out hb); have n4_ := Aside0.mk (Kd.S_below HOw.out hb); have n5_ := Aside0.mk (Kd.S_below HOx.out hb); have n6_ := Aside0.mk (blk_below (g := g9) (o := .cells #[.int .i64 a0_0, (.slice Ax m.length cx)] 29 (0, 0)) BK9.out hb); have n7_ := Aside0.mk hz_; have n8_ := Aside0.mk hch_; have n9_ := Aside0.mk hhi_; clear HB BK3 BK5 BK8 HOw HOx BK9 HT; have HB := n0_; have BK3 := n1_; have BK5 := n2_; have BK8 := n3_; have HOw := n4_; have HOx := n5_; have BK9 := n6_; have HOy := n7_; have CHy := n8_; have HT := n9_; clear n0_ n1_ n2_ n3_ n4_ n5_ n6_ n7_ n8_ n9_; clear hb hch_ hhi_ hz_; obtain ⟨Ay, cy, ev_⟩ := Kd.R_slice HOy.out; subst ev_; clear hc3_0 hc3_1 hc5_0 hc5_1 hc8_0 hc8_1 hc8_2 hc9_0 hc9_1; have hc3_0 : w11.cell? ⟨g3, 0, none⟩ = some (.int .i64 a0_0) := (blk_cell BK3.out 0).trans rfl; have hc3_1 : w11.cell? ⟨g3, 1, none⟩ = some (.slice A0_1 l0_1.length c0_1) := (blk_cell BK3.out 1).trans rfl; have hc5_0 : w11.cell? ⟨g5, 0, none⟩ = some (.int .i64 a2_0) := (blk_cell BK5.out 0).trans rfl; have hc5_1 : w11.cell? ⟨g5, 1, none⟩ = some (.slice A2_1 l2_1.length c2_1) := (blk_cell BK5.out 1).trans rfl; have hc8_0 : w11.cell? ⟨g8, 0, none⟩ = some (.int .i64 r1) := (blk_cell BK8.out 0).trans rfl; have hc8_1 : w11.cell? ⟨g8, 1, none⟩ = some (.int .i64 r2) := (blk_cell BK8.out 1).trans rfl; have hc8_2 : w11.cell? ⟨g8, 2, none⟩ = some ((.slice Aw r3.length cw)) := (blk_cell BK8.out 2).trans rfl; have hc9_0 : w11.cell? ⟨g9, 0, none⟩ = some (.int .i64 a0_0) := (blk_cell BK9.out 0).trans rfl; have hc9_1 : w11.cell? ⟨g9, 1, none⟩ = some ((.slice Ax m.length cx)) := (blk_cell BK9.out 1).trans rfl)
   | ((with_reducible refine gate_dst (N := 10) rfl ?_); refine box_event ?hg (N := 10) ?hd (cs := #[.int .i64 0, .slice none 0 0]) (t := 25) ?hr ?_; (case hd => rfl); (case hg => rfl); (case hr => first | (go_simp; done) | (go_simp; rfl)); intro g10 hg w12 hbox hb; have n0_ := Aside0.mk (below_step HB.out hb); have n1_ := Aside0.mk (blk_below (g := g3) (o := .cells #[.int .i64 a0_0, .slice A0_1 l0_1.length c0_1] 42 (0, 0)) BK3.out hb); have n2_ := Aside0.mk (blk_below (g := g5) (o := .cells #[.int .i64 a2_0, .slice A2_1 l2_1.length c2_1] 43 (0, 0)) BK5.out hb); have n3_ := Aside0.mk (blk_below (g := g8) (o := .cells #[.int .i64 r1, .int .i64 r2, (.slice Aw r3.length cw)] 31 (0, 0)) BK8.out hb); have n4_ := Aside0.mk (Kd.S_below HOw.out hb); have n5_ := Aside0.mk (Kd.S_below HOx.out hb); have n6_ := Aside0.mk (blk_below (g := g9) (o := .cells #[.int .i64 a0_0, (.slice Ax m.length cx)] 29 (0, 0)) BK9.out hb); have n7_ := Aside0.mk (Kd.R_below HOy.out hb); have n8_ := Aside0.mk hbox; have n9_ := Aside0.mk (show hiy ≤ g10 by rw [hg]; exact HT.out); have n10_ := Aside0.mk (show w.heap.size ≤ g10 by rw [hg]; exact below_size HB.out); have n11_ := Aside0.mk (show g10 + 1 ≤ w12.heap.size from blk_lt hbox); clear HB BK3 BK5 BK8 HOw HOx BK9 HOy HT; have HB := n0_; have BK3 := n1_; have BK5 := n2_; have BK8 := n3_; have HOw := n4_; have HOx := n5_; have BK9 := n6_; have HOy := n7_; have BK10 := n8_; have CH10 := n9_; have GE10 := n10_; have HT := n11_; clear n0_ n1_ n2_ n3_ n4_ n5_ n6_ n7_ n8_ n9_ n10_ n11_; clear hb hbox hg; clear hc3_0 hc3_1 hc5_0 hc5_1 hc8_0 hc8_1 hc8_2 hc9_0 hc9_1; have hc3_0 : w12.cell? ⟨g3, 0, none⟩ = some (.int .i64 a0_0) := (blk_cell BK3.out 0).trans rfl; have hc3_1 : w12.cell? ⟨g3, 1, none⟩ = some (.slice A0_1 l0_1.length c0_1) := (blk_cell BK3.out 1).trans rfl; have hc5_0 : w12.cell? ⟨g5, 0, none⟩ = some (.int .i64 a2_0) := (blk_cell BK5.out 0).trans rfl; have hc5_1 : w12.cell? ⟨g5, 1, none⟩ = some (.slice A2_1 l2_1.length c2_1) := (blk_cell BK5.out 1).trans rfl; have hc8_0 : w12.cell? ⟨g8, 0, none⟩ = some (.int .i64 r1) := (blk_cell BK8.out 0).trans rfl; have hc8_1 : w12.cell? ⟨g8, 1, none⟩ = some (.int .i64 r2) := (blk_cell BK8.out 1).trans rfl; have hc8_2 : w12.cell? ⟨g8, 2, none⟩ = some ((.slice Aw r3.length cw)) := (blk_cell BK8.out 2).trans rfl; have hc9_0 : w12.cell? ⟨g9, 0, none⟩ = some (.int .i64 a0_0) := (blk_cell BK9.out 0).trans rfl; have hc9_1 : w12.cell? ⟨g9, 1, none⟩ = some ((.slice Ax m.length cx)) := (blk_cell BK9.out 1).trans rfl; have hc10_0 : w12.cell? ⟨g10, 0, none⟩ = some (.int .i64 0) := (blk_cell BK10.out 0).trans rfl; have hc10_1 : w12.cell? ⟨g10, 1, none⟩ = some (.slice none 0 0) := (blk_cell BK10.out 1).trans rfl)
   | ((with_reducible refine gate_store (t := 25) (p := 10) rfl ?_); refine row_event ?hg (ty := 25) (p := 10) (y := ?yo10) ?ho ?hn (g := g10) (old := #[.int .i64 0, .slice none 0 0]) (e := 25) (cells := #[.int .i64 a2_0, (.slice Ay b.length cy)]) ?hx ?hy ?hk ?hi ?hd ?h1 ?_; (case ho => rfl); (case hg => rfl); (case hn => rfl); (case hx => rfl); (case hy => rfl); (case hk => exact BK10.out); (case hi => kernel_rfl); (case hd => rfl); (case h1 => simp [Value.oneCell']); intro w13 hbk hgr; have n0_ := Aside0.mk (below_grown1 HB.out hgr GE10.out); have n1_ := Aside0.mk (Nat.le_trans HT.out hgr.size); have n2_ := Aside0.mk (blk_grown1 (g' := g3) (ob := .cells #[.int .i64 a0_0, .slice A0_1 l0_1.length c0_1] 42 (0, 0)) BK3.out hgr (by have := CH3.out; have := CH5.out; have := CH8.out; have := CHw.out; have := CHx.out; have := CH9.out; have := CHy.out; have := CH10.out; omega)); have n3_ := Aside0.mk (blk_grown1 (g' := g5) (ob := .cells #[.int .i64 a2_0, .slice A2_1 l2_1.length c2_1] 43 (0, 0)) BK5.out hgr (by have := CH5.out; have := CH8.out; have := CHw.out; have := CHx.out; have := CH9.out; have := CHy.out; have := CH10.out; omega)); have n4_ := Aside0.mk (blk_grown1 (g' := g8) (ob := .cells #[.int .i64 r1, .int .i64 r2, (.slice Aw r3.length cw)] 31 (0, 0)) BK8.out hgr (by have := CH8.out; have := CHw.out; have := CHx.out; have := CH9.out; have := CHy.out; have := CH10.out; omega)); have n5_ := Aside0.mk (Kd.S_grown HOw.out hgr (fun q_ hq_ he_ => by injection he_ with he_; subst he_; have := CHw.out; have := CHx.out; have := CH9.out; have := CHy.out; have := CH10.out; omega)); have n6_ := Aside0.mk (Kd.S_grown HOx.out hgr (fun q_ hq_ he_ => by injection he_ with he_; subst he_; have := CHx.out; have := CH9.out; have := CHy.out; have := CH10.out; omega)); have n7_ := Aside0.mk (blk_grown1 (g' := g9) (ob := .cells #[.int .i64 a0_0, (.slice Ax m.length cx)] 29 (0, 0)) BK9.out hgr (by have := CH9.out; have := CHy.out; have := CH10.out; omega)); have n8_ := Aside0.mk (Kd.R_grown HOy.out hgr (fun q_ hq_ he_ => by injection he_ with he_; subst he_; have := CHy.out; have := CH10.out; omega)); have n9_ := Aside0.mk hbk; clear HB HT BK3 BK5 BK8 HOw HOx BK9 HOy BK10; have HB := n0_; have HT := n1_; have BK3 := n2_; have BK5 := n3_; have BK8 := n4_; have HOw := n5_; have HOx := n6_; have BK9 := n7_; have HOy := n8_; have BK10 := n9_; clear n0_ n1_ n2_ n3_ n4_ n5_ n6_ n7_ n8_ n9_; clear hbk hgr; clear hc3_0 hc3_1 hc5_0 hc5_1 hc8_0 hc8_1 hc8_2 hc9_0 hc9_1 hc10_0 hc10_1; have hc3_0 : w13.cell? ⟨g3, 0, none⟩ = some (.int .i64 a0_0) := (blk_cell BK3.out 0).trans rfl; have hc3_1 : w13.cell? ⟨g3, 1, none⟩ = some (.slice A0_1 l0_1.length c0_1) := (blk_cell BK3.out 1).trans rfl; have hc5_0 : w13.cell? ⟨g5, 0, none⟩ = some (.int .i64 a2_0) := (blk_cell BK5.out 0).trans rfl; have hc5_1 : w13.cell? ⟨g5, 1, none⟩ = some (.slice A2_1 l2_1.length c2_1) := (blk_cell BK5.out 1).trans rfl; have hc8_0 : w13.cell? ⟨g8, 0, none⟩ = some (.int .i64 r1) := (blk_cell BK8.out 0).trans rfl; have hc8_1 : w13.cell? ⟨g8, 1, none⟩ = some (.int .i64 r2) := (blk_cell BK8.out 1).trans rfl; have hc8_2 : w13.cell? ⟨g8, 2, none⟩ = some ((.slice Aw r3.length cw)) := (blk_cell BK8.out 2).trans rfl; have hc9_0 : w13.cell? ⟨g9, 0, none⟩ = some (.int .i64 a0_0) := (blk_cell BK9.out 0).trans rfl; have hc9_1 : w13.cell? ⟨g9, 1, none⟩ = some ((.slice Ax m.length cx)) := (blk_cell BK9.out 1).trans rfl; have hc10_0 : w13.cell? ⟨g10, 0, none⟩ = some (.int .i64 a2_0) := (blk_cell BK10.out 0).trans rfl; have hc10_1 : w13.cell? ⟨g10, 1, none⟩ = some ((.slice Ay b.length cy)) := (blk_cell BK10.out 1).trans rfl)
   | ((with_reducible refine gate_callee (f := 19) rfl ?_); refine goesL_ (some 39) rfl rfl Try.func19 (by kernel_rfl) rfl #[.agg #[.int .i64 a0_0, (.slice Ax m.length cx)], .int .i64 a1, .agg #[.int .i64 a2_0, (.slice Ay b.length cy)]] rfl (by (try simp only [List.map_toArray, List.map_cons, List.map_nil]); first | done | rfl) ?_; (with_reducible refine (impl_TurnRing.calls K a0_0 _ _ m a1 a2_0 _ _ b r1 r2 r3 _ ?sg1 ?sg2 ?sg3 ?sg4 HIM.out).mono ?_); (case sg1 => exact (Kd.S_reads' HOx.out).2.2); (case sg2 => exact (Kd.S_reads' HOx.out).2.1); (case sg3 => exact (Kd.R_reads' HOy.out).2.2); (case sg4 => exact (Kd.R_reads' HOy.out).2.1); rintro e w14 ⟨v_, rfl, ho, hb⟩; refine ⟨_, rfl, ?_⟩; obtain ⟨log, hig, hch_, hhi_, hz_⟩ := TurnRing_zS ho (below_size HB.out) HT.out hb.size; clear ho; have n0_ := Aside0.mk (below_step HB.out hb); have n1_ := Aside0.mk (blk_below (g := g3) (o := .cells #[.int .i64 a0_0, .slice A0_1 l0_1.length c0_1] 42 (0, 0)) BK3.out hb); have n2_ := Aside0.mk (blk_below (g := g5) (o := .cells #[.int .i64 a2_0, .slice A2_1 l2_1.length c2_1] 43 (0, 0)) BK5.out hb); have n3_ := Aside0.mk (blk_below (g := g8) (o := .cells #[.int .i64 r1, .int .i64 r2, (.slice Aw r3.length cw)] 31 (0, 0)) BK8.out hb); have n4_ := Aside0.mk (Kd.S_below HOw.out hb); have n5_ := Aside0.mk (Kd.S_below HOx.out hb); have n6_ := Aside0.mk (blk_below (g := g9) (o := .cells #[.int .i64 a0_0, (.slice Ax m.length cx)] 29 (0, 0)) BK9.out hb); have n7_ := Aside0.mk (Kd.R_below HOy.out hb); have n8_ := Aside0.mk (blk_below (g := g10) (o := .cells #[.int .i64 a2_0, (.slice Ay b.length cy)] 25 (0, 0)) BK10.out hb); have n9_ := Aside0.mk hz_; have n10_ := Aside0.mk hch_; have n11_ := Aside0.mk hhi_; clear HB BK3 BK5 BK8 HOw HOx BK9 HOy BK10 HT; have HB := n0_; have BK3 := n1_; have BK5 := n2_; have BK8 := n3_; have HOw := n4_; have HOx := n5_; have BK9 := n6_; have HOy := n7_; have BK10 := n8_; have HOg := n9_; have CHg := n10_; have HT := n11_; clear n0_ n1_ n2_ n3_ n4_ n5_ n6_ n7_ n8_ n9_ n10_ n11_; clear hb hch_ hhi_ hz_; obtain ⟨Ag, cg, ev_⟩ := Kd.S_slice HOg.out; subst ev_; clear hc3_0 hc3_1 hc5_0 hc5_1 hc8_0 hc8_1 hc8_2 hc9_0 hc9_1 hc10_0 hc10_1; have hc3_0 : w14.cell? ⟨g3, 0, none⟩ = some (.int .i64 a0_0) := (blk_cell BK3.out 0).trans rfl; have hc3_1 : w14.cell? ⟨g3, 1, none⟩ = some (.slice A0_1 l0_1.length c0_1) := (blk_cell BK3.out 1).trans rfl; have hc5_0 : w14.cell? ⟨g5, 0, none⟩ = some (.int .i64 a2_0) := (blk_cell BK5.out 0).trans rfl; have hc5_1 : w14.cell? ⟨g5, 1, none⟩ = some (.slice A2_1 l2_1.length c2_1) := (blk_cell BK5.out 1).trans rfl; have hc8_0 : w14.cell? ⟨g8, 0, none⟩ = some (.int .i64 r1) := (blk_cell BK8.out 0).trans rfl; have hc8_1 : w14.cell? ⟨g8, 1, none⟩ = some (.int .i64 r2) := (blk_cell BK8.out 1).trans rfl; have hc8_2 : w14.cell? ⟨g8, 2, none⟩ = some ((.slice Aw r3.length cw)) := (blk_cell BK8.out 2).trans rfl; have hc9_0 : w14.cell? ⟨g9, 0, none⟩ = some (.int .i64 a0_0) := (blk_cell BK9.out 0).trans rfl; have hc9_1 : w14.cell? ⟨g9, 1, none⟩ = some ((.slice Ax m.length cx)) := (blk_cell BK9.out 1).trans rfl; have hc10_0 : w14.cell? ⟨g10, 0, none⟩ = some (.int .i64 a2_0) := (blk_cell BK10.out 0).trans rfl; have hc10_1 : w14.cell? ⟨g10, 1, none⟩ = some ((.slice Ay b.length cy)) := (blk_cell BK10.out 1).trans rfl)
   | ((with_reducible refine gate_dst (N := 11) rfl ?_); refine box_event ?hg (N := 11) ?hd (cs := #[.int .i64 0, .int .i64 0, .slice none 0 0]) (t := 31) ?hr ?_; (case hd => rfl); (case hg => rfl); (case hr => first | (go_simp; done) | (go_simp; rfl)); intro g11 hg w15 hbox hb; have n0_ := Aside0.mk (below_step HB.out hb); have n1_ := Aside0.mk (blk_below (g := g3) (o := .cells #[.int .i64 a0_0, .slice A0_1 l0_1.length c0_1] 42 (0, 0)) BK3.out hb); have n2_ := Aside0.mk (blk_below (g := g5) (o := .cells #[.int .i64 a2_0, .slice A2_1 l2_1.length c2_1] 43 (0, 0)) BK5.out hb); have n3_ := Aside0.mk (blk_below (g := g8) (o := .cells #[.int .i64 r1, .int .i64 r2, (.slice Aw r3.length cw)] 31 (0, 0)) BK8.out hb); have n4_ := Aside0.mk (Kd.S_below HOw.out hb); have n5_ := Aside0.mk (Kd.S_below HOx.out hb); have n6_ := Aside0.mk (blk_below (g := g9) (o := .cells #[.int .i64 a0_0, (.slice Ax m.length cx)] 29 (0, 0)) BK9.out hb); have n7_ := Aside0.mk (Kd.R_below HOy.out hb); have n8_ := Aside0.mk (blk_below (g := g10) (o := .cells #[.int .i64 a2_0, (.slice Ay b.length cy)] 25 (0, 0)) BK10.out hb); have n9_ := Aside0.mk (Kd.S_below HOg.out hb); have n10_ := Aside0.mk hbox; have n11_ := Aside0.mk (show hig ≤ g11 by rw [hg]; exact HT.out); have n12_ := Aside0.mk (show w.heap.size ≤ g11 by rw [hg]; exact below_size HB.out); have n13_ := Aside0.mk (show g11 + 1 ≤ w15.heap.size from blk_lt hbox); clear HB BK3 BK5 BK8 HOw HOx BK9 HOy BK10 HOg HT; have HB := n0_; have BK3 := n1_; have BK5 := n2_; have BK8 := n3_; have HOw := n4_; have HOx := n5_; have BK9 := n6_; have HOy := n7_; have BK10 := n8_; have HOg := n9_; have BK11 := n10_; have CH11 := n11_; have GE11 := n12_; have HT := n13_; clear n0_ n1_ n2_ n3_ n4_ n5_ n6_ n7_ n8_ n9_ n10_ n11_ n12_ n13_; clear hb hbox hg; clear hc3_0 hc3_1 hc5_0 hc5_1 hc8_0 hc8_1 hc8_2 hc9_0 hc9_1 hc10_0 hc10_1; have hc3_0 : w15.cell? ⟨g3, 0, none⟩ = some (.int .i64 a0_0) := (blk_cell BK3.out 0).trans rfl; have hc3_1 : w15.cell? ⟨g3, 1, none⟩ = some (.slice A0_1 l0_1.length c0_1) := (blk_cell BK3.out 1).trans rfl; have hc5_0 : w15.cell? ⟨g5, 0, none⟩ = some (.int .i64 a2_0) := (blk_cell BK5.out 0).trans rfl; have hc5_1 : w15.cell? ⟨g5, 1, none⟩ = some (.slice A2_1 l2_1.length c2_1) := (blk_cell BK5.out 1).trans rfl; have hc8_0 : w15.cell? ⟨g8, 0, none⟩ = some (.int .i64 r1) := (blk_cell BK8.out 0).trans rfl; have hc8_1 : w15.cell? ⟨g8, 1, none⟩ = some (.int .i64 r2) := (blk_cell BK8.out 1).trans rfl; have hc8_2 : w15.cell? ⟨g8, 2, none⟩ = some ((.slice Aw r3.length cw)) := (blk_cell BK8.out 2).trans rfl; have hc9_0 : w15.cell? ⟨g9, 0, none⟩ = some (.int .i64 a0_0) := (blk_cell BK9.out 0).trans rfl; have hc9_1 : w15.cell? ⟨g9, 1, none⟩ = some ((.slice Ax m.length cx)) := (blk_cell BK9.out 1).trans rfl; have hc10_0 : w15.cell? ⟨g10, 0, none⟩ = some (.int .i64 a2_0) := (blk_cell BK10.out 0).trans rfl; have hc10_1 : w15.cell? ⟨g10, 1, none⟩ = some ((.slice Ay b.length cy)) := (blk_cell BK10.out 1).trans rfl; have hc11_0 : w15.cell? ⟨g11, 0, none⟩ = some (.int .i64 0) := (blk_cell BK11.out 0).trans rfl; have hc11_1 : w15.cell? ⟨g11, 1, none⟩ = some (.int .i64 0) := (blk_cell BK11.out 1).trans rfl; have hc11_2 : w15.cell? ⟨g11, 2, none⟩ = some (.slice none 0 0) := (blk_cell BK11.out 2).trans rfl)
   | ((with_reducible refine gate_store (t := 31) (p := 11) rfl ?_); refine row_event ?hg (ty := 31) (p := 11) (y := ?yo11) ?ho ?hn (g := g11) (old := #[.int .i64 0, .int .i64 0, .slice none 0 0]) (e := 31) (cells := #[.int .i64 r1, .int .i64 r2, (.slice Ag r3.length cg)]) ?hx ?hy ?hk ?hi ?hd ?h1 ?_; (case ho => rfl); (case hg => rfl); (case hn => rfl); (case hx => rfl); (case hy => rfl); (case hk => exact BK11.out); (case hi => kernel_rfl); (case hd => rfl); (case h1 => simp [Value.oneCell']); intro w16 hbk hgr; have n0_ := Aside0.mk (below_grown1 HB.out hgr GE11.out); have n1_ := Aside0.mk (Nat.le_trans HT.out hgr.size); have n2_ := Aside0.mk (blk_grown1 (g' := g3) (ob := .cells #[.int .i64 a0_0, .slice A0_1 l0_1.length c0_1] 42 (0, 0)) BK3.out hgr (by have := CH3.out; have := CH5.out; have := CH8.out; have := CHw.out; have := CHx.out; have := CH9.out; have := CHy.out; have := CH10.out; have := CHg.out; have := CH11.out; omega)); have n3_ := Aside0.mk (blk_grown1 (g' := g5) (ob := .cells #[.int .i64 a2_0, .slice A2_1 l2_1.length c2_1] 43 (0, 0)) BK5.out hgr (by have := CH5.out; have := CH8.out; have := CHw.out; have := CHx.out; have := CH9.out; have := CHy.out; have := CH10.out; have := CHg.out; have := CH11.out; omega)); have n4_ := Aside0.mk (blk_grown1 (g' := g8) (ob := .cells #[.int .i64 r1, .int .i64 r2, (.slice Aw r3.length cw)] 31 (0, 0)) BK8.out hgr (by have := CH8.out; have := CHw.out; have := CHx.out; have := CH9.out; have := CHy.out; have := CH10.out; have := CHg.out; have := CH11.out; omega)); have n5_ := Aside0.mk (Kd.S_grown HOw.out hgr (fun q_ hq_ he_ => by injection he_ with he_; subst he_; have := CHw.out; have := CHx.out; have := CH9.out; have := CHy.out; have := CH10.out; have := CHg.out; have := CH11.out; omega)); have n6_ := Aside0.mk (Kd.S_grown HOx.out hgr (fun q_ hq_ he_ => by injection he_ with he_; subst he_; have := CHx.out; have := CH9.out; have := CHy.out; have := CH10.out; have := CHg.out; have := CH11.out; omega)); have n7_ := Aside0.mk (blk_grown1 (g' := g9) (ob := .cells #[.int .i64 a0_0, (.slice Ax m.length cx)] 29 (0, 0)) BK9.out hgr (by have := CH9.out; have := CHy.out; have := CH10.out; have := CHg.out; have := CH11.out; omega)); have n8_ := Aside0.mk (Kd.R_grown HOy.out hgr (fun q_ hq_ he_ => by injection he_ with he_; subst he_; have := CHy.out; have := CH10.out; have := CHg.out; have := CH11.out; omega)); have n9_ := Aside0.mk (blk_grown1 (g' := g10) (ob := .cells #[.int .i64 a2_0, (.slice Ay b.length cy)] 25 (0, 0)) BK10.out hgr (by have := CH10.out; have := CHg.out; have := CH11.out; omega)); have n10_ := Aside0.mk (Kd.S_grown HOg.out hgr (fun q_ hq_ he_ => by injection he_ with he_; subst he_; have := CHg.out; have := CH11.out; omega)); have n11_ := Aside0.mk hbk; clear HB HT BK3 BK5 BK8 HOw HOx BK9 HOy BK10 HOg BK11; have HB := n0_; have HT := n1_; have BK3 := n2_; have BK5 := n3_; have BK8 := n4_; have HOw := n5_; have HOx := n6_; have BK9 := n7_; have HOy := n8_; have BK10 := n9_; have HOg := n10_; have BK11 := n11_; clear n0_ n1_ n2_ n3_ n4_ n5_ n6_ n7_ n8_ n9_ n10_ n11_; clear hbk hgr; clear hc3_0 hc3_1 hc5_0 hc5_1 hc8_0 hc8_1 hc8_2 hc9_0 hc9_1 hc10_0 hc10_1 hc11_0 hc11_1 hc11_2; have hc3_0 : w16.cell? ⟨g3, 0, none⟩ = some (.int .i64 a0_0) := (blk_cell BK3.out 0).trans rfl; have hc3_1 : w16.cell? ⟨g3, 1, none⟩ = some (.slice A0_1 l0_1.length c0_1) := (blk_cell BK3.out 1).trans rfl; have hc5_0 : w16.cell? ⟨g5, 0, none⟩ = some (.int .i64 a2_0) := (blk_cell BK5.out 0).trans rfl; have hc5_1 : w16.cell? ⟨g5, 1, none⟩ = some (.slice A2_1 l2_1.length c2_1) := (blk_cell BK5.out 1).trans rfl; have hc8_0 : w16.cell? ⟨g8, 0, none⟩ = some (.int .i64 r1) := (blk_cell BK8.out 0).trans rfl; have hc8_1 : w16.cell? ⟨g8, 1, none⟩ = some (.int .i64 r2) := (blk_cell BK8.out 1).trans rfl; have hc8_2 : w16.cell? ⟨g8, 2, none⟩ = some ((.slice Aw r3.length cw)) := (blk_cell BK8.out 2).trans rfl; have hc9_0 : w16.cell? ⟨g9, 0, none⟩ = some (.int .i64 a0_0) := (blk_cell BK9.out 0).trans rfl; have hc9_1 : w16.cell? ⟨g9, 1, none⟩ = some ((.slice Ax m.length cx)) := (blk_cell BK9.out 1).trans rfl; have hc10_0 : w16.cell? ⟨g10, 0, none⟩ = some (.int .i64 a2_0) := (blk_cell BK10.out 0).trans rfl; have hc10_1 : w16.cell? ⟨g10, 1, none⟩ = some ((.slice Ay b.length cy)) := (blk_cell BK10.out 1).trans rfl; have hc11_0 : w16.cell? ⟨g11, 0, none⟩ = some (.int .i64 r1) := (blk_cell BK11.out 0).trans rfl; have hc11_1 : w16.cell? ⟨g11, 1, none⟩ = some (.int .i64 r2) := (blk_cell BK11.out 1).trans rfl; have hc11_2 : w16.cell? ⟨g11, 2, none⟩ = some ((.slice Ag r3.length cg)) := (blk_cell BK11.out 2).trans rfl)
   | ((with_reducible refine gate_callee (f := 30) rfl ?_); refine goesL_ (some 42) rfl rfl Try.func30 (by kernel_rfl) rfl #[.agg #[.int .i64 r1, .int .i64 r2, (.slice Ag r3.length cg)], .agg #[.int .i64 r1, .int .i64 r2, (.slice Aw r3.length cw)]] rfl (by (try simp only [List.map_toArray, List.map_cons, List.map_nil]); first | done | rfl) ?_; (with_reducible refine (laws_eqRingResult.calls K r1 r2 _ _ r3 r1 r2 _ _ r3 true _ ?ea42 ?eb42 ?ec42 ?ed42 HEQ.out).mono ?_); (case ea42 => exact (Kd.S_reads' HOg.out).2.2); (case eb42 => exact (Kd.S_reads' HOg.out).2.1); (case ec42 => exact (Kd.S_reads' HOw.out).2.2); (case ed42 => exact (Kd.S_reads' HOw.out).2.1); rintro e w17 ⟨rfl, hb⟩; refine ⟨_, rfl, ?_⟩; have n0_ := Aside0.mk (below_step HB.out hb); have n1_ := Aside0.mk (Nat.le_trans HT.out (Below.size hb)); have n2_ := Aside0.mk (blk_below (g := g3) (o := .cells #[.int .i64 a0_0, .slice A0_1 l0_1.length c0_1] 42 (0, 0)) BK3.out hb); have n3_ := Aside0.mk (blk_below (g := g5) (o := .cells #[.int .i64 a2_0, .slice A2_1 l2_1.length c2_1] 43 (0, 0)) BK5.out hb); have n4_ := Aside0.mk (blk_below (g := g8) (o := .cells #[.int .i64 r1, .int .i64 r2, (.slice Aw r3.length cw)] 31 (0, 0)) BK8.out hb); have n5_ := Aside0.mk (Kd.S_below HOw.out hb); have n6_ := Aside0.mk (Kd.S_below HOx.out hb); have n7_ := Aside0.mk (blk_below (g := g9) (o := .cells #[.int .i64 a0_0, (.slice Ax m.length cx)] 29 (0, 0)) BK9.out hb); have n8_ := Aside0.mk (Kd.R_below HOy.out hb); have n9_ := Aside0.mk (blk_below (g := g10) (o := .cells #[.int .i64 a2_0, (.slice Ay b.length cy)] 25 (0, 0)) BK10.out hb); have n10_ := Aside0.mk (Kd.S_below HOg.out hb); have n11_ := Aside0.mk (blk_below (g := g11) (o := .cells #[.int .i64 r1, .int .i64 r2, (.slice Ag r3.length cg)] 31 (0, 0)) BK11.out hb); clear HB HT BK3 BK5 BK8 HOw HOx BK9 HOy BK10 HOg BK11; have HB := n0_; have HT := n1_; have BK3 := n2_; have BK5 := n3_; have BK8 := n4_; have HOw := n5_; have HOx := n6_; have BK9 := n7_; have HOy := n8_; have BK10 := n9_; have HOg := n10_; have BK11 := n11_; clear n0_ n1_ n2_ n3_ n4_ n5_ n6_ n7_ n8_ n9_ n10_ n11_; clear hb; clear hc3_0 hc3_1 hc5_0 hc5_1 hc8_0 hc8_1 hc8_2 hc9_0 hc9_1 hc10_0 hc10_1 hc11_0 hc11_1 hc11_2; have hc3_0 : w17.cell? ⟨g3, 0, none⟩ = some (.int .i64 a0_0) := (blk_cell BK3.out 0).trans rfl; have hc3_1 : w17.cell? ⟨g3, 1, none⟩ = some (.slice A0_1 l0_1.length c0_1) := (blk_cell BK3.out 1).trans rfl; have hc5_0 : w17.cell? ⟨g5, 0, none⟩ = some (.int .i64 a2_0) := (blk_cell BK5.out 0).trans rfl; have hc5_1 : w17.cell? ⟨g5, 1, none⟩ = some (.slice A2_1 l2_1.length c2_1) := (blk_cell BK5.out 1).trans rfl; have hc8_0 : w17.cell? ⟨g8, 0, none⟩ = some (.int .i64 r1) := (blk_cell BK8.out 0).trans rfl; have hc8_1 : w17.cell? ⟨g8, 1, none⟩ = some (.int .i64 r2) := (blk_cell BK8.out 1).trans rfl; have hc8_2 : w17.cell? ⟨g8, 2, none⟩ = some ((.slice Aw r3.length cw)) := (blk_cell BK8.out 2).trans rfl; have hc9_0 : w17.cell? ⟨g9, 0, none⟩ = some (.int .i64 a0_0) := (blk_cell BK9.out 0).trans rfl; have hc9_1 : w17.cell? ⟨g9, 1, none⟩ = some ((.slice Ax m.length cx)) := (blk_cell BK9.out 1).trans rfl; have hc10_0 : w17.cell? ⟨g10, 0, none⟩ = some (.int .i64 a2_0) := (blk_cell BK10.out 0).trans rfl; have hc10_1 : w17.cell? ⟨g10, 1, none⟩ = some ((.slice Ay b.length cy)) := (blk_cell BK10.out 1).trans rfl; have hc11_0 : w17.cell? ⟨g11, 0, none⟩ = some (.int .i64 r1) := (blk_cell BK11.out 0).trans rfl; have hc11_1 : w17.cell? ⟨g11, 1, none⟩ = some (.int .i64 r2) := (blk_cell BK11.out 1).trans rfl; have hc11_2 : w17.cell? ⟨g11, 2, none⟩ = some ((.slice Ag r3.length cg)) := (blk_cell BK11.out 2).trans rfl))
 have n0_ := Aside0.mk (below_drew1 HB.out)
 have n1_ := Aside0.mk (show g11 + 1 ≤ w17.drew.heap.size from HT.out)
 have n2_ := Aside0.mk (blk_drew BK3.out)
 have n3_ := Aside0.mk (blk_drew BK5.out)
 have n4_ := Aside0.mk (blk_drew BK8.out)
 have n5_ := Aside0.mk (Kd.S_drew HOw.out)
 have n6_ := Aside0.mk (Kd.S_drew HOx.out)
 have n7_ := Aside0.mk (blk_drew BK9.out)
 have n8_ := Aside0.mk (Kd.R_drew HOy.out)
 have n9_ := Aside0.mk (blk_drew BK10.out)
 have n10_ := Aside0.mk (Kd.S_drew HOg.out)
 have n11_ := Aside0.mk (blk_drew BK11.out)
 clear HB HT BK3 BK5 BK8 HOw HOx BK9 HOy BK10 HOg BK11
 have HB := n0_
 have HT := n1_
 have BK3 := n2_
 have BK5 := n3_
 have BK8 := n4_
 have HOw := n5_
 have HOx := n6_
 have BK9 := n7_
 have HOy := n8_
 have BK10 := n9_
 have HOg := n10_
 have BK11 := n11_
 clear n0_ n1_ n2_ n3_ n4_ n5_ n6_ n7_ n8_ n9_ n10_ n11_
 clear hc3_0 hc3_1 hc5_0 hc5_1 hc8_0 hc8_1 hc8_2 hc9_0 hc9_1 hc10_0 hc10_1 hc11_0 hc11_1 hc11_2
 refine start_ (n := 5) (S := fun w' => w'.cell? ⟨g9, 0, none⟩ = some (.int .i64 a0_0) ∧ w'.cell? ⟨g9, 1, none⟩ = some (.slice Ax m.length cx) ∧ w'.cell? ⟨g3, 0, none⟩ = some (.int .i64 a0_0) ∧ w'.cell? ⟨g3, 1, none⟩ = some (.slice A0_1 l0_1.length c0_1)) (ds := []) #[false, false, false, false, false] (by kernel_rfl) rfl rfl ⟨(blk_cell BK9.out 0).trans rfl, (blk_cell BK9.out 1).trans rfl, (blk_cell BK3.out 0).trans rfl, (blk_cell BK3.out 1).trans rfl⟩ (fun hHeld => ?_)
 generalize w17.drew = w18 at HB HT BK3 BK5 BK8 HOw HOx BK9 HOy BK10 HOg BK11 hHeld ⊢
 refine take_ (i := 0) (N := some 44) (v := ?_) (a' := ?_) #[true, false, false, false, false] rfl rfl (by kernel_rfl) (fun _ _ _ h => h) (Or.inl ⟨by rfl, ?_⟩) hHeld ?_ ?_
 rotate_left
 ·rintro w' ⟨s0, s1, s2, s3⟩
  go_simp
  with_reducible rfl
 rotate_left
 ·simp only [Act.put, List.setIfInBounds_toArray, List.set_cons_zero, List.set_cons_succ, i64_w, i32_w]
  rfl
 refine take_ (i := 1) (N := some 45) (v := ?_) (a' := ?_) #[true, true, false, false, false] rfl rfl (by kernel_rfl) (fun _ _ _ h => h) (Or.inl ⟨by rfl, ?_⟩) hHeld ?_ ?_
 rotate_left
 ·rintro w' ⟨s0, s1, s2, s3⟩
  go_simp
  with_reducible rfl
 rotate_left
 ·simp only [Act.put, List.setIfInBounds_toArray, List.set_cons_zero, List.set_cons_succ, i64_w, i32_w]
  rfl
 refine one_ (i := 2) (N := some 46) #[true, true, true, false, false] rfl rfl (by kernel_rfl) (by decide) (fun K_ hK => ?_)
 refine goes_ Try.func28 (by kernel_rfl) rfl #[.agg #[.int .i64 a0_0, .slice A0_1 l0_1.length c0_1]] (by rfl) rfl rfl (by (try simp only [List.map_toArray, List.map_cons, List.map_nil]); first | done | rfl) ?_
 with_reducible refine (laws_toRing.calls K a0_0 A0_1 c0_1 l0_1 a0_0 m _ (Kd.C_below HR.out HB.out) HC.out HTO.out).mono ?_
 rintro e w19 ⟨v_, rfl, ho, hb⟩
 refine ⟨_, rfl, ?_⟩
 obtain ⟨lozx, hizx, hch_, hhi_, hz_⟩ := TurnRing_zS ho (below_size HB.out) HT.out hb.size
 clear ho
 have n0_ := Aside0.mk (below_step HB.out hb)
 have n1_ := Aside0.mk (blk_below (g := g3) (o := .cells #[.int .i64 a0_0, .slice A0_1 l0_1.length c0_1] 42 (0, 0)) BK3.out hb)
 have n2_ := Aside0.mk (blk_below (g := g5) (o := .cells #[.int .i64 a2_0, .slice A2_1 l2_1.length c2_1] 43 (0, 0)) BK5.out hb)
 have n3_ := Aside0.mk (blk_below (g := g8) (o := .cells #[.int .i64 r1, .int .i64 r2, (.slice Aw r3.length cw)] 31 (0, 0)) BK8.out hb)
 have n4_ := Aside0.mk (Kd.S_below HOw.out hb)
 have n5_ := Aside0.mk (Kd.S_below HOx.out hb)
 have n6_ := Aside0.mk (blk_below (g := g9) (o := .cells #[.int .i64 a0_0, (.slice Ax m.length cx)] 29 (0, 0)) BK9.out hb)
 have n7_ := Aside0.mk (Kd.R_below HOy.out hb)
 have n8_ := Aside0.mk (blk_below (g := g10) (o := .cells #[.int .i64 a2_0, (.slice Ay b.length cy)] 25 (0, 0)) BK10.out hb)
 have n9_ := Aside0.mk (Kd.S_below HOg.out hb)
 have n10_ := Aside0.mk (blk_below (g := g11) (o := .cells #[.int .i64 r1, .int .i64 r2, (.slice Ag r3.length cg)] 31 (0, 0)) BK11.out hb)
 have n11_ := Aside0.mk hz_
 have n12_ := Aside0.mk hch_
 have n13_ := Aside0.mk hhi_
 clear HB BK3 BK5 BK8 HOw HOx BK9 HOy BK10 HOg BK11 HT
 have HB := n0_
 have BK3 := n1_
 have BK5 := n2_
 have BK8 := n3_
 have HOw := n4_
 have HOx := n5_
 have BK9 := n6_
 have HOy := n7_
 have BK10 := n8_
 have HOg := n9_
 have BK11 := n10_
 have HOzx := n11_
 have CHzx := n12_
 have HT := n13_
 clear n0_ n1_ n2_ n3_ n4_ n5_ n6_ n7_ n8_ n9_ n10_ n11_ n12_ n13_
 clear hb hch_ hhi_ hz_
 obtain ⟨Azx, czx, ev_⟩ := Kd.S_slice HOzx.out
 subst ev_
 refine hK.out _ _ ⟨(blk_cell BK9.out 0).trans rfl, (blk_cell BK9.out 1).trans rfl, (blk_cell BK3.out 0).trans rfl, (blk_cell BK3.out 1).trans rfl⟩ (fun hHeld => ?_)
 clear hK K_
 refine norm_ (a' := ?_) ?_ ?_
 rotate_left
 ·show Act.put _ (some 46) _ = _
  simp only [Act.put, List.setIfInBounds_toArray, List.set_cons_zero, List.set_cons_succ, i64_w, i32_w]
  rfl
 refine one_ (i := 3) (N := some 47) #[true, true, true, true, false] rfl rfl (by kernel_rfl) (by decide) (fun K_ hK => ?_)
 refine goes_ Try.func31 (by kernel_rfl) rfl #[.agg #[.int .i64 a0_0, (.slice Ax m.length cx)], .agg #[.int .i64 a0_0, (.slice Azx m.length czx)]] (by rfl) rfl rfl (by (try simp only [List.map_toArray, List.map_cons, List.map_nil]); first | done | rfl) ?_
 with_reducible refine (laws_eqRing.calls K a0_0 _ _ m a0_0 _ _ m true _ ?ra ?rb ?rc ?rd HER.out).mono ?_
 (case ra => exact (Kd.S_reads' HOx.out).2.2)
 (case rb => exact (Kd.S_reads' HOx.out).2.1)
 (case rc => exact (Kd.S_reads' HOzx.out).2.2)
 (case rd => exact (Kd.S_reads' HOzx.out).2.1)
 rintro e w20 ⟨rfl, hb⟩
 refine ⟨_, rfl, ?_⟩
 have n0_ := Aside0.mk (below_step HB.out hb)
 have n1_ := Aside0.mk (Nat.le_trans HT.out (Below.size hb))
 have n2_ := Aside0.mk (blk_below (g := g3) (o := .cells #[.int .i64 a0_0, .slice A0_1 l0_1.length c0_1] 42 (0, 0)) BK3.out hb)
 have n3_ := Aside0.mk (blk_below (g := g5) (o := .cells #[.int .i64 a2_0, .slice A2_1 l2_1.length c2_1] 43 (0, 0)) BK5.out hb)
 have n4_ := Aside0.mk (blk_below (g := g8) (o := .cells #[.int .i64 r1, .int .i64 r2, (.slice Aw r3.length cw)] 31 (0, 0)) BK8.out hb)
 have n5_ := Aside0.mk (Kd.S_below HOw.out hb)
 have n6_ := Aside0.mk (Kd.S_below HOx.out hb)
 have n7_ := Aside0.mk (blk_below (g := g9) (o := .cells #[.int .i64 a0_0, (.slice Ax m.length cx)] 29 (0, 0)) BK9.out hb)
 have n8_ := Aside0.mk (Kd.R_below HOy.out hb)
 have n9_ := Aside0.mk (blk_below (g := g10) (o := .cells #[.int .i64 a2_0, (.slice Ay b.length cy)] 25 (0, 0)) BK10.out hb)
 have n10_ := Aside0.mk (Kd.S_below HOg.out hb)
 have n11_ := Aside0.mk (blk_below (g := g11) (o := .cells #[.int .i64 r1, .int .i64 r2, (.slice Ag r3.length cg)] 31 (0, 0)) BK11.out hb)
 have n12_ := Aside0.mk (Kd.S_below HOzx.out hb)
 clear HB HT BK3 BK5 BK8 HOw HOx BK9 HOy BK10 HOg BK11 HOzx
 have HB := n0_
 have HT := n1_
 have BK3 := n2_
 have BK5 := n3_
 have BK8 := n4_
 have HOw := n5_
 have HOx := n6_
 have BK9 := n7_
 have HOy := n8_
 have BK10 := n9_
 have HOg := n10_
 have BK11 := n11_
 have HOzx := n12_
 clear n0_ n1_ n2_ n3_ n4_ n5_ n6_ n7_ n8_ n9_ n10_ n11_ n12_
 clear hb
 refine hK.out _ _ ⟨(blk_cell BK9.out 0).trans rfl, (blk_cell BK9.out 1).trans rfl, (blk_cell BK3.out 0).trans rfl, (blk_cell BK3.out 1).trans rfl⟩ (fun hHeld => ?_)
 clear hK K_
 refine norm_ (a' := ?_) ?_ ?_
 rotate_left
 ·show Act.put _ (some 47) _ = _
  simp only [Act.put, List.setIfInBounds_toArray, List.set_cons_zero, List.set_cons_succ, i64_w, i32_w]
  rfl
 refine pure_ (i := 4) (N := some 48) (v := ?_) (a' := ?_) #[true, true, true, true, true] rfl rfl (by kernel_rfl) (fun _ _ _ h => h) (Or.inl ⟨by rfl, ?_⟩) ?_ ?_
 rotate_left
 ·intro w'
  go_simp
  with_reducible rfl
 rotate_left
 ·simp only [Act.put, List.setIfInBounds_toArray, List.set_cons_zero, List.set_cons_succ, i64_w, i32_w]
  rfl
 refine done_ (by kernel_rfl) ?_
 have hc3_0 : w20.cell? ⟨g3, 0, none⟩ = some (.int .i64 a0_0) := (blk_cell BK3.out 0).trans rfl
 have hc3_1 : w20.cell? ⟨g3, 1, none⟩ = some (.slice A0_1 l0_1.length c0_1) := (blk_cell BK3.out 1).trans rfl
 have hc5_0 : w20.cell? ⟨g5, 0, none⟩ = some (.int .i64 a2_0) := (blk_cell BK5.out 0).trans rfl
 have hc5_1 : w20.cell? ⟨g5, 1, none⟩ = some (.slice A2_1 l2_1.length c2_1) := (blk_cell BK5.out 1).trans rfl
 have hc8_0 : w20.cell? ⟨g8, 0, none⟩ = some (.int .i64 r1) := (blk_cell BK8.out 0).trans rfl
 have hc8_1 : w20.cell? ⟨g8, 1, none⟩ = some (.int .i64 r2) := (blk_cell BK8.out 1).trans rfl
 have hc8_2 : w20.cell? ⟨g8, 2, none⟩ = some ((.slice Aw r3.length cw)) := (blk_cell BK8.out 2).trans rfl
 have hc9_0 : w20.cell? ⟨g9, 0, none⟩ = some (.int .i64 a0_0) := (blk_cell BK9.out 0).trans rfl
 have hc9_1 : w20.cell? ⟨g9, 1, none⟩ = some ((.slice Ax m.length cx)) := (blk_cell BK9.out 1).trans rfl
 have hc10_0 : w20.cell? ⟨g10, 0, none⟩ = some (.int .i64 a2_0) := (blk_cell BK10.out 0).trans rfl
 have hc10_1 : w20.cell? ⟨g10, 1, none⟩ = some ((.slice Ay b.length cy)) := (blk_cell BK10.out 1).trans rfl
 have hc11_0 : w20.cell? ⟨g11, 0, none⟩ = some (.int .i64 r1) := (blk_cell BK11.out 0).trans rfl
 have hc11_1 : w20.cell? ⟨g11, 1, none⟩ = some (.int .i64 r2) := (blk_cell BK11.out 1).trans rfl
 have hc11_2 : w20.cell? ⟨g11, 2, none⟩ = some ((.slice Ag r3.length cg)) := (blk_cell BK11.out 2).trans rfl
 go_wp2_with fail
 have n0_ := Aside0.mk (below_drew1 HB.out)
 have n1_ := Aside0.mk (show hizx ≤ w20.drew.heap.size from HT.out)
 have n2_ := Aside0.mk (blk_drew BK3.out)
 have n3_ := Aside0.mk (blk_drew BK5.out)
 have n4_ := Aside0.mk (blk_drew BK8.out)
 have n5_ := Aside0.mk (Kd.S_drew HOw.out)
 have n6_ := Aside0.mk (Kd.S_drew HOx.out)
 have n7_ := Aside0.mk (blk_drew BK9.out)
 have n8_ := Aside0.mk (Kd.R_drew HOy.out)
 have n9_ := Aside0.mk (blk_drew BK10.out)
 have n10_ := Aside0.mk (Kd.S_drew HOg.out)
 have n11_ := Aside0.mk (blk_drew BK11.out)
 clear HB HT BK3 BK5 BK8 HOw HOx BK9 HOy BK10 HOg BK11
 have HB := n0_
 have HT := n1_
 have BK3 := n2_
 have BK5 := n3_
 have BK8 := n4_
 have HOw := n5_
 have HOx := n6_
 have BK9 := n7_
 have HOy := n8_
 have BK10 := n9_
 have HOg := n10_
 have BK11 := n11_
 clear n0_ n1_ n2_ n3_ n4_ n5_ n6_ n7_ n8_ n9_ n10_ n11_
 clear hc3_0 hc3_1 hc5_0 hc5_1 hc8_0 hc8_1 hc8_2 hc9_0 hc9_1 hc10_0 hc10_1 hc11_0 hc11_1 hc11_2
 refine start_ (n := 5) (S := fun w' => w'.cell? ⟨g10, 0, none⟩ = some (.int .i64 a2_0) ∧ w'.cell? ⟨g10, 1, none⟩ = some (.slice Ay b.length cy) ∧ w'.cell? ⟨g5, 0, none⟩ = some (.int .i64 a2_0) ∧ w'.cell? ⟨g5, 1, none⟩ = some (.slice A2_1 l2_1.length c2_1)) (ds := []) #[false, false, false, false, false] (by kernel_rfl) rfl rfl ⟨(blk_cell BK10.out 0).trans rfl, (blk_cell BK10.out 1).trans rfl, (blk_cell BK5.out 0).trans rfl, (blk_cell BK5.out 1).trans rfl⟩ (fun hHeld => ?_)
 generalize w20.drew = w21 at HB HT BK3 BK5 BK8 HOw HOx BK9 HOy BK10 HOg BK11 hHeld ⊢
 refine take_ (i := 0) (N := some 49) (v := ?_) (a' := ?_) #[true, false, false, false, false] rfl rfl (by kernel_rfl) (fun _ _ _ h => h) (Or.inl ⟨by rfl, ?_⟩) hHeld ?_ ?_
 rotate_left
 ·rintro w' ⟨s0, s1, s2, s3⟩
  go_simp
  with_reducible rfl
 rotate_left
 ·simp only [Act.put, List.setIfInBounds_toArray, List.set_cons_zero, List.set_cons_succ, i64_w, i32_w]
  rfl
 refine take_ (i := 1) (N := some 50) (v := ?_) (a' := ?_) #[true, true, false, false, false] rfl rfl (by kernel_rfl) (fun _ _ _ h => h) (Or.inl ⟨by rfl, ?_⟩) hHeld ?_ ?_
 rotate_left
 ·rintro w' ⟨s0, s1, s2, s3⟩
  go_simp
  with_reducible rfl
 rotate_left
 ·simp only [Act.put, List.setIfInBounds_toArray, List.set_cons_zero, List.set_cons_succ, i64_w, i32_w]
  rfl
 refine one_ (i := 2) (N := some 51) #[true, true, true, false, false] rfl rfl (by kernel_rfl) (by decide) (fun K_ hK => ?_)
 refine goes_ Try.func29 (by kernel_rfl) rfl #[.agg #[.int .i64 a2_0, .slice A2_1 l2_1.length c2_1]] (by rfl) rfl rfl (by (try simp only [List.map_toArray, List.map_cons, List.map_nil]); first | done | rfl) ?_
 with_reducible refine (laws_toKey.calls K a2_0 A2_1 c2_1 l2_1 a2_0 b _ (Kd.C_below HRK.out HB.out) HCK.out HTK.out).mono ?_
 rintro e w22 ⟨v_, rfl, ho, hb⟩
 refine ⟨_, rfl, ?_⟩
 obtain ⟨lozy, hizy, hch_, hhi_, hz_⟩ := TurnRing_zR ho (below_size HB.out) HT.out hb.size
 clear ho
 have n0_ := Aside0.mk (below_step HB.out hb)
 have n1_ := Aside0.mk (blk_below (g := g3) (o := .cells #[.int .i64 a0_0, .slice A0_1 l0_1.length c0_1] 42 (0, 0)) BK3.out hb)
 have n2_ := Aside0.mk (blk_below (g := g5) (o := .cells #[.int .i64 a2_0, .slice A2_1 l2_1.length c2_1] 43 (0, 0)) BK5.out hb)
 have n3_ := Aside0.mk (blk_below (g := g8) (o := .cells #[.int .i64 r1, .int .i64 r2, (.slice Aw r3.length cw)] 31 (0, 0)) BK8.out hb)
 have n4_ := Aside0.mk (Kd.S_below HOw.out hb)
 have n5_ := Aside0.mk (Kd.S_below HOx.out hb)
 have n6_ := Aside0.mk (blk_below (g := g9) (o := .cells #[.int .i64 a0_0, (.slice Ax m.length cx)] 29 (0, 0)) BK9.out hb)
 have n7_ := Aside0.mk (Kd.R_below HOy.out hb)
 have n8_ := Aside0.mk (blk_below (g := g10) (o := .cells #[.int .i64 a2_0, (.slice Ay b.length cy)] 25 (0, 0)) BK10.out hb)
 have n9_ := Aside0.mk (Kd.S_below HOg.out hb)
 have n10_ := Aside0.mk (blk_below (g := g11) (o := .cells #[.int .i64 r1, .int .i64 r2, (.slice Ag r3.length cg)] 31 (0, 0)) BK11.out hb)
 have n11_ := Aside0.mk hz_
 have n12_ := Aside0.mk hch_
 have n13_ := Aside0.mk hhi_
 clear HB BK3 BK5 BK8 HOw HOx BK9 HOy BK10 HOg BK11 HT
 have HB := n0_
 have BK3 := n1_
 have BK5 := n2_
 have BK8 := n3_
 have HOw := n4_
 have HOx := n5_
 have BK9 := n6_
 have HOy := n7_
 have BK10 := n8_
 have HOg := n9_
 have BK11 := n10_
 have HOzy := n11_
 have CHzy := n12_
 have HT := n13_
 clear n0_ n1_ n2_ n3_ n4_ n5_ n6_ n7_ n8_ n9_ n10_ n11_ n12_ n13_
 clear hb hch_ hhi_ hz_
 obtain ⟨Azy, czy, ev_⟩ := Kd.R_slice HOzy.out
 subst ev_
 refine hK.out _ _ ⟨(blk_cell BK10.out 0).trans rfl, (blk_cell BK10.out 1).trans rfl, (blk_cell BK5.out 0).trans rfl, (blk_cell BK5.out 1).trans rfl⟩ (fun hHeld => ?_)
 clear hK K_
 refine norm_ (a' := ?_) ?_ ?_
 rotate_left
 ·show Act.put _ (some 51) _ = _
  simp only [Act.put, List.setIfInBounds_toArray, List.set_cons_zero, List.set_cons_succ, i64_w, i32_w]
  rfl
 refine one_ (i := 3) (N := some 52) #[true, true, true, true, false] rfl rfl (by kernel_rfl) (by decide) (fun K_ hK => ?_)
 refine goes_ Try.func32 (by kernel_rfl) rfl #[.agg #[.int .i64 a2_0, (.slice Ay b.length cy)], .agg #[.int .i64 a2_0, (.slice Azy b.length czy)]] (by rfl) rfl rfl (by (try simp only [List.map_toArray, List.map_cons, List.map_nil]); first | done | rfl) ?_
 with_reducible refine (laws_eqKey.calls K a2_0 _ _ b a2_0 _ _ b true _ ?ka ?kb ?kc ?kd HEK.out).mono ?_
 (case ka => exact (Kd.R_reads' HOy.out).2.2)
 (case kb => exact (Kd.R_reads' HOy.out).2.1)
 (case kc => exact (Kd.R_reads' HOzy.out).2.2)
 (case kd => exact (Kd.R_reads' HOzy.out).2.1)
 rintro e w23 ⟨rfl, hb⟩
 refine ⟨_, rfl, ?_⟩
 have n0_ := Aside0.mk (below_step HB.out hb)
 have n1_ := Aside0.mk (Nat.le_trans HT.out (Below.size hb))
 have n2_ := Aside0.mk (blk_below (g := g3) (o := .cells #[.int .i64 a0_0, .slice A0_1 l0_1.length c0_1] 42 (0, 0)) BK3.out hb)
 have n3_ := Aside0.mk (blk_below (g := g5) (o := .cells #[.int .i64 a2_0, .slice A2_1 l2_1.length c2_1] 43 (0, 0)) BK5.out hb)
 have n4_ := Aside0.mk (blk_below (g := g8) (o := .cells #[.int .i64 r1, .int .i64 r2, (.slice Aw r3.length cw)] 31 (0, 0)) BK8.out hb)
 have n5_ := Aside0.mk (Kd.S_below HOw.out hb)
 have n6_ := Aside0.mk (Kd.S_below HOx.out hb)
 have n7_ := Aside0.mk (blk_below (g := g9) (o := .cells #[.int .i64 a0_0, (.slice Ax m.length cx)] 29 (0, 0)) BK9.out hb)
 have n8_ := Aside0.mk (Kd.R_below HOy.out hb)
 have n9_ := Aside0.mk (blk_below (g := g10) (o := .cells #[.int .i64 a2_0, (.slice Ay b.length cy)] 25 (0, 0)) BK10.out hb)
 have n10_ := Aside0.mk (Kd.S_below HOg.out hb)
 have n11_ := Aside0.mk (blk_below (g := g11) (o := .cells #[.int .i64 r1, .int .i64 r2, (.slice Ag r3.length cg)] 31 (0, 0)) BK11.out hb)
 have n12_ := Aside0.mk (Kd.R_below HOzy.out hb)
 clear HB HT BK3 BK5 BK8 HOw HOx BK9 HOy BK10 HOg BK11 HOzy
 have HB := n0_
 have HT := n1_
 have BK3 := n2_
 have BK5 := n3_
 have BK8 := n4_
 have HOw := n5_
 have HOx := n6_
 have BK9 := n7_
 have HOy := n8_
 have BK10 := n9_
 have HOg := n10_
 have BK11 := n11_
 have HOzy := n12_
 clear n0_ n1_ n2_ n3_ n4_ n5_ n6_ n7_ n8_ n9_ n10_ n11_ n12_
 clear hb
 refine hK.out _ _ ⟨(blk_cell BK10.out 0).trans rfl, (blk_cell BK10.out 1).trans rfl, (blk_cell BK5.out 0).trans rfl, (blk_cell BK5.out 1).trans rfl⟩ (fun hHeld => ?_)
 clear hK K_
 refine norm_ (a' := ?_) ?_ ?_
 rotate_left
 ·show Act.put _ (some 52) _ = _
  simp only [Act.put, List.setIfInBounds_toArray, List.set_cons_zero, List.set_cons_succ, i64_w, i32_w]
  rfl
 refine pure_ (i := 4) (N := some 53) (v := ?_) (a' := ?_) #[true, true, true, true, true] rfl rfl (by kernel_rfl) (fun _ _ _ h => h) (Or.inl ⟨by rfl, ?_⟩) ?_ ?_
 rotate_left
 ·intro w'
  go_simp
  with_reducible rfl
 rotate_left
 ·simp only [Act.put, List.setIfInBounds_toArray, List.set_cons_zero, List.set_cons_succ, i64_w, i32_w]
  rfl
 refine done_ (by kernel_rfl) ?_
 have hc3_0 : w23.cell? ⟨g3, 0, none⟩ = some (.int .i64 a0_0) := (blk_cell BK3.out 0).trans rfl
 have hc3_1 : w23.cell? ⟨g3, 1, none⟩ = some (.slice A0_1 l0_1.length c0_1) := (blk_cell BK3.out 1).trans rfl
 have hc5_0 : w23.cell? ⟨g5, 0, none⟩ = some (.int .i64 a2_0) := (blk_cell BK5.out 0).trans rfl
 have hc5_1 : w23.cell? ⟨g5, 1, none⟩ = some (.slice A2_1 l2_1.length c2_1) := (blk_cell BK5.out 1).trans rfl
 have hc8_0 : w23.cell? ⟨g8, 0, none⟩ = some (.int .i64 r1) := (blk_cell BK8.out 0).trans rfl
 have hc8_1 : w23.cell? ⟨g8, 1, none⟩ = some (.int .i64 r2) := (blk_cell BK8.out 1).trans rfl
 have hc8_2 : w23.cell? ⟨g8, 2, none⟩ = some ((.slice Aw r3.length cw)) := (blk_cell BK8.out 2).trans rfl
 have hc9_0 : w23.cell? ⟨g9, 0, none⟩ = some (.int .i64 a0_0) := (blk_cell BK9.out 0).trans rfl
 have hc9_1 : w23.cell? ⟨g9, 1, none⟩ = some ((.slice Ax m.length cx)) := (blk_cell BK9.out 1).trans rfl
 have hc10_0 : w23.cell? ⟨g10, 0, none⟩ = some (.int .i64 a2_0) := (blk_cell BK10.out 0).trans rfl
 have hc10_1 : w23.cell? ⟨g10, 1, none⟩ = some ((.slice Ay b.length cy)) := (blk_cell BK10.out 1).trans rfl
 have hc11_0 : w23.cell? ⟨g11, 0, none⟩ = some (.int .i64 r1) := (blk_cell BK11.out 0).trans rfl
 have hc11_1 : w23.cell? ⟨g11, 1, none⟩ = some (.int .i64 r2) := (blk_cell BK11.out 1).trans rfl
 have hc11_2 : w23.cell? ⟨g11, 2, none⟩ = some ((.slice Ag r3.length cg)) := (blk_cell BK11.out 2).trans rfl
 go_wp2_with (first
   | ((with_reducible refine gate_callee (f := 33) rfl ?_); refine goesL_ (some 56) rfl rfl Try.func33 (by kernel_rfl) rfl #[.agg #[.int .i64 a0_0, (.slice Ax m.length cx)], .int .i64 1] rfl (by (try simp only [List.map_toArray, List.map_cons, List.map_nil]); first | done | rfl) ?_; (with_reducible refine (laws_markRing.calls K (fun j_ => lox ≤ j_ ∧ j_ < hix) a0_0 _ _ m 1 k1 m1 w w23 HB.out HML.out HOx.out HMK.out).mono ?_); rintro e w24 ⟨rfl, ho, hb, hk⟩; refine ⟨_, rfl, ?_⟩; have n0_ := Aside0.mk hb; have n1_ := Aside0.mk (Nat.le_trans HT.out hk.1); have n2_ := Aside0.mk (blk_kept (g := g3) (o := .cells #[.int .i64 a0_0, .slice A0_1 l0_1.length c0_1] 42 (0, 0)) BK3.out hk (fun h_ => by have := CH3.out; have := CH5.out; have := CH8.out; have := CHw.out; have := CHx.out; omega)); have n3_ := Aside0.mk (blk_kept (g := g5) (o := .cells #[.int .i64 a2_0, .slice A2_1 l2_1.length c2_1] 43 (0, 0)) BK5.out hk (fun h_ => by have := CH5.out; have := CH8.out; have := CHw.out; have := CHx.out; omega)); have n4_ := Aside0.mk (blk_kept (g := g8) (o := .cells #[.int .i64 r1, .int .i64 r2, (.slice Aw r3.length cw)] 31 (0, 0)) BK8.out hk (fun h_ => by have := CH8.out; have := CHw.out; have := CHx.out; omega)); have n5_ := Aside0.mk (Kd.S_kept HOw.out hk (fun q_ hq_ hz_ => by have := CHw.out; have := CHx.out; omega)); have n6_ := Aside0.mk (blk_kept (g := g9) (o := .cells #[.int .i64 a0_0, (.slice Ax m.length cx)] 29 (0, 0)) BK9.out hk (fun h_ => by have := CHx.out; have := CH9.out; omega)); have n7_ := Aside0.mk (Kd.R_kept HOy.out hk (fun q_ hq_ hz_ => by have := CHx.out; have := CH9.out; have := CHy.out; omega)); have n8_ := Aside0.mk (blk_kept (g := g10) (o := .cells #[.int .i64 a2_0, (.slice Ay b.length cy)] 25 (0, 0)) BK10.out hk (fun h_ => by have := CHx.out; have := CH9.out; have := CHy.out; have := CH10.out; omega)); have n9_ := Aside0.mk (Kd.S_kept HOg.out hk (fun q_ hq_ hz_ => by have := CHx.out; have := CH9.out; have := CHy.out; have := CH10.out; have := CHg.out; omega)); have n10_ := Aside0.mk (blk_kept (g := g11) (o := .cells #[.int .i64 r1, .int .i64 r2, (.slice Ag r3.length cg)] 31 (0, 0)) BK11.out hk (fun h_ => by have := CHx.out; have := CH9.out; have := CHy.out; have := CH10.out; have := CHg.out; have := CH11.out; omega)); have n11_ := Aside0.mk ho; clear HB HT BK3 BK5 BK8 HOw BK9 HOy BK10 HOg BK11 HOx; have HB := n0_; have HT := n1_; have BK3 := n2_; have BK5 := n3_; have BK8 := n4_; have HOw := n5_; have BK9 := n6_; have HOy := n7_; have BK10 := n8_; have HOg := n9_; have BK11 := n10_; have HOx := n11_; clear n0_ n1_ n2_ n3_ n4_ n5_ n6_ n7_ n8_ n9_ n10_ n11_; clear ho hb hk; clear hc3_0 hc3_1 hc5_0 hc5_1 hc8_0 hc8_1 hc8_2 hc9_0 hc9_1 hc10_0 hc10_1 hc11_0 hc11_1 hc11_2; have hc3_0 : w24.cell? ⟨g3, 0, none⟩ = some (.int .i64 a0_0) := (blk_cell BK3.out 0).trans rfl; have hc3_1 : w24.cell? ⟨g3, 1, none⟩ = some (.slice A0_1 l0_1.length c0_1) := (blk_cell BK3.out 1).trans rfl; have hc5_0 : w24.cell? ⟨g5, 0, none⟩ = some (.int .i64 a2_0) := (blk_cell BK5.out 0).trans rfl; have hc5_1 : w24.cell? ⟨g5, 1, none⟩ = some (.slice A2_1 l2_1.length c2_1) := (blk_cell BK5.out 1).trans rfl; have hc8_0 : w24.cell? ⟨g8, 0, none⟩ = some (.int .i64 r1) := (blk_cell BK8.out 0).trans rfl; have hc8_1 : w24.cell? ⟨g8, 1, none⟩ = some (.int .i64 r2) := (blk_cell BK8.out 1).trans rfl; have hc8_2 : w24.cell? ⟨g8, 2, none⟩ = some ((.slice Aw r3.length cw)) := (blk_cell BK8.out 2).trans rfl; have hc9_0 : w24.cell? ⟨g9, 0, none⟩ = some (.int .i64 a0_0) := (blk_cell BK9.out 0).trans rfl; have hc9_1 : w24.cell? ⟨g9, 1, none⟩ = some ((.slice Ax m.length cx)) := (blk_cell BK9.out 1).trans rfl; have hc10_0 : w24.cell? ⟨g10, 0, none⟩ = some (.int .i64 a2_0) := (blk_cell BK10.out 0).trans rfl; have hc10_1 : w24.cell? ⟨g10, 1, none⟩ = some ((.slice Ay b.length cy)) := (blk_cell BK10.out 1).trans rfl; have hc11_0 : w24.cell? ⟨g11, 0, none⟩ = some (.int .i64 r1) := (blk_cell BK11.out 0).trans rfl; have hc11_1 : w24.cell? ⟨g11, 1, none⟩ = some (.int .i64 r2) := (blk_cell BK11.out 1).trans rfl; have hc11_2 : w24.cell? ⟨g11, 2, none⟩ = some ((.slice Ag r3.length cg)) := (blk_cell BK11.out 2).trans rfl)
   | ((with_reducible refine gate_callee (f := 34) rfl ?_); refine goesL_ (some 59) rfl rfl Try.func34 (by kernel_rfl) rfl #[.agg #[.int .i64 a2_0, (.slice Ay b.length cy)], .int .i64 k1] rfl (by (try simp only [List.map_toArray, List.map_cons, List.map_nil]); first | done | rfl) ?_; (with_reducible refine (laws_markKey.calls K a2_0 (fun j_ => loy ≤ j_ ∧ j_ < hiy) (.slice Ay b.length cy) b k1 k2 b1 w w24 HB.out HOy.out HMB.out).mono ?_); rintro e w25 ⟨rfl, ho, hb, hk⟩; refine ⟨_, rfl, ?_⟩; have n0_ := Aside0.mk hb; have n1_ := Aside0.mk (Nat.le_trans HT.out hk.1); have n2_ := Aside0.mk (blk_kept (g := g3) (o := .cells #[.int .i64 a0_0, .slice A0_1 l0_1.length c0_1] 42 (0, 0)) BK3.out hk (fun h_ => by have := CH3.out; have := CH5.out; have := CH8.out; have := CHw.out; have := CHx.out; have := CH9.out; have := CHy.out; omega)); have n3_ := Aside0.mk (blk_kept (g := g5) (o := .cells #[.int .i64 a2_0, .slice A2_1 l2_1.length c2_1] 43 (0, 0)) BK5.out hk (fun h_ => by have := CH5.out; have := CH8.out; have := CHw.out; have := CHx.out; have := CH9.out; have := CHy.out; omega)); have n4_ := Aside0.mk (blk_kept (g := g8) (o := .cells #[.int .i64 r1, .int .i64 r2, (.slice Aw r3.length cw)] 31 (0, 0)) BK8.out hk (fun h_ => by have := CH8.out; have := CHw.out; have := CHx.out; have := CH9.out; have := CHy.out; omega)); have n5_ := Aside0.mk (Kd.S_kept HOw.out hk (fun q_ hq_ hz_ => by have := CHw.out; have := CHx.out; have := CH9.out; have := CHy.out; omega)); have n6_ := Aside0.mk (Kd.S_kept HOx.out hk (fun q_ hq_ hz_ => by have := CHx.out; have := CH9.out; have := CHy.out; omega)); have n7_ := Aside0.mk (blk_kept (g := g9) (o := .cells #[.int .i64 a0_0, (.slice Ax m.length cx)] 29 (0, 0)) BK9.out hk (fun h_ => by have := CH9.out; have := CHy.out; omega)); have n8_ := Aside0.mk (blk_kept (g := g10) (o := .cells #[.int .i64 a2_0, (.slice Ay b.length cy)] 25 (0, 0)) BK10.out hk (fun h_ => by have := CHy.out; have := CH10.out; omega)); have n9_ := Aside0.mk (Kd.S_kept HOg.out hk (fun q_ hq_ hz_ => by have := CHy.out; have := CH10.out; have := CHg.out; omega)); have n10_ := Aside0.mk (blk_kept (g := g11) (o := .cells #[.int .i64 r1, .int .i64 r2, (.slice Ag r3.length cg)] 31 (0, 0)) BK11.out hk (fun h_ => by have := CHy.out; have := CH10.out; have := CHg.out; have := CH11.out; omega)); have n11_ := Aside0.mk (Kd.R_mono (Kd.R_tight rfl ho) (fun k_ hk_ => HOy.out.1 k_ hk_.symm)); clear HB HT BK3 BK5 BK8 HOw HOx BK9 BK10 HOg BK11 HOy; have HB := n0_; have HT := n1_; have BK3 := n2_; have BK5 := n3_; have BK8 := n4_; have HOw := n5_; have HOx := n6_; have BK9 := n7_; have BK10 := n8_; have HOg := n9_; have BK11 := n10_; have HOy := n11_; clear n0_ n1_ n2_ n3_ n4_ n5_ n6_ n7_ n8_ n9_ n10_ n11_; clear ho hb hk; clear hc3_0 hc3_1 hc5_0 hc5_1 hc8_0 hc8_1 hc8_2 hc9_0 hc9_1 hc10_0 hc10_1 hc11_0 hc11_1 hc11_2; have hc3_0 : w25.cell? ⟨g3, 0, none⟩ = some (.int .i64 a0_0) := (blk_cell BK3.out 0).trans rfl; have hc3_1 : w25.cell? ⟨g3, 1, none⟩ = some (.slice A0_1 l0_1.length c0_1) := (blk_cell BK3.out 1).trans rfl; have hc5_0 : w25.cell? ⟨g5, 0, none⟩ = some (.int .i64 a2_0) := (blk_cell BK5.out 0).trans rfl; have hc5_1 : w25.cell? ⟨g5, 1, none⟩ = some (.slice A2_1 l2_1.length c2_1) := (blk_cell BK5.out 1).trans rfl; have hc8_0 : w25.cell? ⟨g8, 0, none⟩ = some (.int .i64 r1) := (blk_cell BK8.out 0).trans rfl; have hc8_1 : w25.cell? ⟨g8, 1, none⟩ = some (.int .i64 r2) := (blk_cell BK8.out 1).trans rfl; have hc8_2 : w25.cell? ⟨g8, 2, none⟩ = some ((.slice Aw r3.length cw)) := (blk_cell BK8.out 2).trans rfl; have hc9_0 : w25.cell? ⟨g9, 0, none⟩ = some (.int .i64 a0_0) := (blk_cell BK9.out 0).trans rfl; have hc9_1 : w25.cell? ⟨g9, 1, none⟩ = some ((.slice Ax m.length cx)) := (blk_cell BK9.out 1).trans rfl; have hc10_0 : w25.cell? ⟨g10, 0, none⟩ = some (.int .i64 a2_0) := (blk_cell BK10.out 0).trans rfl; have hc10_1 : w25.cell? ⟨g10, 1, none⟩ = some ((.slice Ay b.length cy)) := (blk_cell BK10.out 1).trans rfl; have hc11_0 : w25.cell? ⟨g11, 0, none⟩ = some (.int .i64 r1) := (blk_cell BK11.out 0).trans rfl; have hc11_1 : w25.cell? ⟨g11, 1, none⟩ = some (.int .i64 r2) := (blk_cell BK11.out 1).trans rfl; have hc11_2 : w25.cell? ⟨g11, 2, none⟩ = some ((.slice Ag r3.length cg)) := (blk_cell BK11.out 2).trans rfl)
   | (go_at_call 30; (with_reducible refine (laws_eqRingResult.calls K r1 r2 _ _ r3 r1 r2 _ _ r3 true _ ?ea65 ?eb65 ?ec65 ?ed65 HEQ.out).mono ?_); (case ea65 => exact (Kd.S_reads' HOg.out).2.2); (case eb65 => exact (Kd.S_reads' HOg.out).2.1); (case ec65 => exact (Kd.S_reads' HOw.out).2.2); (case ed65 => exact (Kd.S_reads' HOw.out).2.1); rintro e w26 ⟨rfl, hb⟩; have n0_ := Aside0.mk (below_step HB.out hb); have n1_ := Aside0.mk (Nat.le_trans HT.out (Below.size hb)); have n2_ := Aside0.mk (blk_below (g := g3) (o := .cells #[.int .i64 a0_0, .slice A0_1 l0_1.length c0_1] 42 (0, 0)) BK3.out hb); have n3_ := Aside0.mk (blk_below (g := g5) (o := .cells #[.int .i64 a2_0, .slice A2_1 l2_1.length c2_1] 43 (0, 0)) BK5.out hb); have n4_ := Aside0.mk (blk_below (g := g8) (o := .cells #[.int .i64 r1, .int .i64 r2, (.slice Aw r3.length cw)] 31 (0, 0)) BK8.out hb); have n5_ := Aside0.mk (Kd.S_below HOw.out hb); have n6_ := Aside0.mk (Kd.S_below HOx.out hb); have n7_ := Aside0.mk (blk_below (g := g9) (o := .cells #[.int .i64 a0_0, (.slice Ax m.length cx)] 29 (0, 0)) BK9.out hb); have n8_ := Aside0.mk (Kd.R_below HOy.out hb); have n9_ := Aside0.mk (blk_below (g := g10) (o := .cells #[.int .i64 a2_0, (.slice Ay b.length cy)] 25 (0, 0)) BK10.out hb); have n10_ := Aside0.mk (Kd.S_below HOg.out hb); have n11_ := Aside0.mk (blk_below (g := g11) (o := .cells #[.int .i64 r1, .int .i64 r2, (.slice Ag r3.length cg)] 31 (0, 0)) BK11.out hb); clear HB HT BK3 BK5 BK8 HOw HOx BK9 HOy BK10 HOg BK11; have HB := n0_; have HT := n1_; have BK3 := n2_; have BK5 := n3_; have BK8 := n4_; have HOw := n5_; have HOx := n6_; have BK9 := n7_; have HOy := n8_; have BK10 := n9_; have HOg := n10_; have BK11 := n11_; clear n0_ n1_ n2_ n3_ n4_ n5_ n6_ n7_ n8_ n9_ n10_ n11_; clear hb; clear hc3_0 hc3_1 hc5_0 hc5_1 hc8_0 hc8_1 hc8_2 hc9_0 hc9_1 hc10_0 hc10_1 hc11_0 hc11_1 hc11_2; have hc3_0 : w26.cell? ⟨g3, 0, none⟩ = some (.int .i64 a0_0) := (blk_cell BK3.out 0).trans rfl; have hc3_1 : w26.cell? ⟨g3, 1, none⟩ = some (.slice A0_1 l0_1.length c0_1) := (blk_cell BK3.out 1).trans rfl; have hc5_0 : w26.cell? ⟨g5, 0, none⟩ = some (.int .i64 a2_0) := (blk_cell BK5.out 0).trans rfl; have hc5_1 : w26.cell? ⟨g5, 1, none⟩ = some (.slice A2_1 l2_1.length c2_1) := (blk_cell BK5.out 1).trans rfl; have hc8_0 : w26.cell? ⟨g8, 0, none⟩ = some (.int .i64 r1) := (blk_cell BK8.out 0).trans rfl; have hc8_1 : w26.cell? ⟨g8, 1, none⟩ = some (.int .i64 r2) := (blk_cell BK8.out 1).trans rfl; have hc8_2 : w26.cell? ⟨g8, 2, none⟩ = some ((.slice Aw r3.length cw)) := (blk_cell BK8.out 2).trans rfl; have hc9_0 : w26.cell? ⟨g9, 0, none⟩ = some (.int .i64 a0_0) := (blk_cell BK9.out 0).trans rfl; have hc9_1 : w26.cell? ⟨g9, 1, none⟩ = some ((.slice Ax m.length cx)) := (blk_cell BK9.out 1).trans rfl; have hc10_0 : w26.cell? ⟨g10, 0, none⟩ = some (.int .i64 a2_0) := (blk_cell BK10.out 0).trans rfl; have hc10_1 : w26.cell? ⟨g10, 1, none⟩ = some ((.slice Ay b.length cy)) := (blk_cell BK10.out 1).trans rfl; have hc11_0 : w26.cell? ⟨g11, 0, none⟩ = some (.int .i64 r1) := (blk_cell BK11.out 0).trans rfl; have hc11_1 : w26.cell? ⟨g11, 1, none⟩ = some (.int .i64 r2) := (blk_cell BK11.out 1).trans rfl; have hc11_2 : w26.cell? ⟨g11, 2, none⟩ = some ((.slice Ag r3.length cg)) := (blk_cell BK11.out 2).trans rfl)
   | ((with_reducible refine gate_callee (f := 35) rfl ?_); refine goesL_ (some 70) rfl rfl Try.func35 (by kernel_rfl) rfl #[.agg #[.int .i64 r1, .int .i64 r2, (.slice Ag r3.length cg)], .int .i64 1] rfl (by (try simp only [List.map_toArray, List.map_cons, List.map_nil]); first | done | rfl) ?_; (with_reducible refine (laws_markRingResult.calls K (fun j_ => log ≤ j_ ∧ j_ < hig) r1 r2 _ _ r3 1 q1 q3 w w26 HB.out HML3.out HOg.out HMR.out).mono ?_); rintro e w27 ⟨rfl, ho, hb, hk⟩; refine ⟨_, rfl, ?_⟩; have n0_ := Aside0.mk hb; have n1_ := Aside0.mk (Nat.le_trans HT.out hk.1); have n2_ := Aside0.mk (blk_kept (g := g3) (o := .cells #[.int .i64 a0_0, .slice A0_1 l0_1.length c0_1] 42 (0, 0)) BK3.out hk (fun h_ => by have := CH3.out; have := CH5.out; have := CH8.out; have := CHw.out; have := CHx.out; have := CH9.out; have := CHy.out; have := CH10.out; have := CHg.out; omega)); have n3_ := Aside0.mk (blk_kept (g := g5) (o := .cells #[.int .i64 a2_0, .slice A2_1 l2_1.length c2_1] 43 (0, 0)) BK5.out hk (fun h_ => by have := CH5.out; have := CH8.out; have := CHw.out; have := CHx.out; have := CH9.out; have := CHy.out; have := CH10.out; have := CHg.out; omega)); have n4_ := Aside0.mk (blk_kept (g := g8) (o := .cells #[.int .i64 r1, .int .i64 r2, (.slice Aw r3.length cw)] 31 (0, 0)) BK8.out hk (fun h_ => by have := CH8.out; have := CHw.out; have := CHx.out; have := CH9.out; have := CHy.out; have := CH10.out; have := CHg.out; omega)); have n5_ := Aside0.mk (Kd.S_kept HOw.out hk (fun q_ hq_ hz_ => by have := CHw.out; have := CHx.out; have := CH9.out; have := CHy.out; have := CH10.out; have := CHg.out; omega)); have n6_ := Aside0.mk (Kd.S_kept HOx.out hk (fun q_ hq_ hz_ => by have := CHx.out; have := CH9.out; have := CHy.out; have := CH10.out; have := CHg.out; omega)); have n7_ := Aside0.mk (blk_kept (g := g9) (o := .cells #[.int .i64 a0_0, (.slice Ax m.length cx)] 29 (0, 0)) BK9.out hk (fun h_ => by have := CH9.out; have := CHy.out; have := CH10.out; have := CHg.out; omega)); have n8_ := Aside0.mk (Kd.R_kept HOy.out hk (fun q_ hq_ hz_ => by have := CHy.out; have := CH10.out; have := CHg.out; omega)); have n9_ := Aside0.mk (blk_kept (g := g10) (o := .cells #[.int .i64 a2_0, (.slice Ay b.length cy)] 25 (0, 0)) BK10.out hk (fun h_ => by have := CH10.out; have := CHg.out; omega)); have n10_ := Aside0.mk (blk_kept (g := g11) (o := .cells #[.int .i64 r1, .int .i64 r2, (.slice Ag r3.length cg)] 31 (0, 0)) BK11.out hk (fun h_ => by have := CHg.out; have := CH11.out; omega)); have n11_ := Aside0.mk ho; clear HB HT BK3 BK5 BK8 HOw HOx BK9 HOy BK10 BK11 HOg; have HB := n0_; have HT := n1_; have BK3 := n2_; have BK5 := n3_; have BK8 := n4_; have HOw := n5_; have HOx := n6_; have BK9 := n7_; have HOy := n8_; have BK10 := n9_; have BK11 := n10_; have HOg := n11_; clear n0_ n1_ n2_ n3_ n4_ n5_ n6_ n7_ n8_ n9_ n10_ n11_; clear ho hb hk; clear hc3_0 hc3_1 hc5_0 hc5_1 hc8_0 hc8_1 hc8_2 hc9_0 hc9_1 hc10_0 hc10_1 hc11_0 hc11_1 hc11_2; have hc3_0 : w27.cell? ⟨g3, 0, none⟩ = some (.int .i64 a0_0) := (blk_cell BK3.out 0).trans rfl; have hc3_1 : w27.cell? ⟨g3, 1, none⟩ = some (.slice A0_1 l0_1.length c0_1) := (blk_cell BK3.out 1).trans rfl; have hc5_0 : w27.cell? ⟨g5, 0, none⟩ = some (.int .i64 a2_0) := (blk_cell BK5.out 0).trans rfl; have hc5_1 : w27.cell? ⟨g5, 1, none⟩ = some (.slice A2_1 l2_1.length c2_1) := (blk_cell BK5.out 1).trans rfl; have hc8_0 : w27.cell? ⟨g8, 0, none⟩ = some (.int .i64 r1) := (blk_cell BK8.out 0).trans rfl; have hc8_1 : w27.cell? ⟨g8, 1, none⟩ = some (.int .i64 r2) := (blk_cell BK8.out 1).trans rfl; have hc8_2 : w27.cell? ⟨g8, 2, none⟩ = some ((.slice Aw r3.length cw)) := (blk_cell BK8.out 2).trans rfl; have hc9_0 : w27.cell? ⟨g9, 0, none⟩ = some (.int .i64 a0_0) := (blk_cell BK9.out 0).trans rfl; have hc9_1 : w27.cell? ⟨g9, 1, none⟩ = some ((.slice Ax m.length cx)) := (blk_cell BK9.out 1).trans rfl; have hc10_0 : w27.cell? ⟨g10, 0, none⟩ = some (.int .i64 a2_0) := (blk_cell BK10.out 0).trans rfl; have hc10_1 : w27.cell? ⟨g10, 1, none⟩ = some ((.slice Ay b.length cy)) := (blk_cell BK10.out 1).trans rfl; have hc11_0 : w27.cell? ⟨g11, 0, none⟩ = some (.int .i64 r1) := (blk_cell BK11.out 0).trans rfl; have hc11_1 : w27.cell? ⟨g11, 1, none⟩ = some (.int .i64 r2) := (blk_cell BK11.out 1).trans rfl; have hc11_2 : w27.cell? ⟨g11, 2, none⟩ = some ((.slice Ag r3.length cg)) := (blk_cell BK11.out 2).trans rfl)
   | ((with_reducible refine gate_callee (f := 36) rfl ?_); refine goesL_ (some 73) rfl rfl Try.func36 (by kernel_rfl) rfl #[.agg #[.int .i64 r1, .int .i64 r2, (.slice Ag r3.length cg)], .int .i64 1] rfl (by (try simp only [List.map_toArray, List.map_cons, List.map_nil]); first | done | rfl) ?_; (with_reducible refine (held_TurnRing K r1 r2 _ _ r3.length q3 1 q1 _ HQ3.out ?ha73 ?hb73 HHL.out).mono ?_); (case ha73 => exact (Kd.S_reads' HOg.out).2.2); (case hb73 => exact (Kd.S_reads' HOg.out).2.1); rintro e w28 ⟨rfl, hb⟩; refine ⟨_, rfl, ?_⟩; have n0_ := Aside0.mk (below_step HB.out hb); have n1_ := Aside0.mk (Nat.le_trans HT.out (Below.size hb)); have n2_ := Aside0.mk (blk_below (g := g3) (o := .cells #[.int .i64 a0_0, .slice A0_1 l0_1.length c0_1] 42 (0, 0)) BK3.out hb); have n3_ := Aside0.mk (blk_below (g := g5) (o := .cells #[.int .i64 a2_0, .slice A2_1 l2_1.length c2_1] 43 (0, 0)) BK5.out hb); have n4_ := Aside0.mk (blk_below (g := g8) (o := .cells #[.int .i64 r1, .int .i64 r2, (.slice Aw r3.length cw)] 31 (0, 0)) BK8.out hb); have n5_ := Aside0.mk (Kd.S_below HOw.out hb); have n6_ := Aside0.mk (blk_below (g := g9) (o := .cells #[.int .i64 a0_0, (.slice Ax m.length cx)] 29 (0, 0)) BK9.out hb); have n7_ := Aside0.mk (blk_below (g := g10) (o := .cells #[.int .i64 a2_0, (.slice Ay b.length cy)] 25 (0, 0)) BK10.out hb); have n8_ := Aside0.mk (Kd.S_below HOg.out hb); have n9_ := Aside0.mk (blk_below (g := g11) (o := .cells #[.int .i64 r1, .int .i64 r2, (.slice Ag r3.length cg)] 31 (0, 0)) BK11.out hb); clear HB HT BK3 BK5 BK8 HOw BK9 BK10 HOg BK11; have HB := n0_; have HT := n1_; have BK3 := n2_; have BK5 := n3_; have BK8 := n4_; have HOw := n5_; have BK9 := n6_; have BK10 := n7_; have HOg := n8_; have BK11 := n9_; clear n0_ n1_ n2_ n3_ n4_ n5_ n6_ n7_ n8_ n9_; clear hb; clear hc3_0 hc3_1 hc5_0 hc5_1 hc8_0 hc8_1 hc8_2 hc9_0 hc9_1 hc10_0 hc10_1 hc11_0 hc11_1 hc11_2; have hc3_0 : w28.cell? ⟨g3, 0, none⟩ = some (.int .i64 a0_0) := (blk_cell BK3.out 0).trans rfl; have hc3_1 : w28.cell? ⟨g3, 1, none⟩ = some (.slice A0_1 l0_1.length c0_1) := (blk_cell BK3.out 1).trans rfl; have hc5_0 : w28.cell? ⟨g5, 0, none⟩ = some (.int .i64 a2_0) := (blk_cell BK5.out 0).trans rfl; have hc5_1 : w28.cell? ⟨g5, 1, none⟩ = some (.slice A2_1 l2_1.length c2_1) := (blk_cell BK5.out 1).trans rfl; have hc8_0 : w28.cell? ⟨g8, 0, none⟩ = some (.int .i64 r1) := (blk_cell BK8.out 0).trans rfl; have hc8_1 : w28.cell? ⟨g8, 1, none⟩ = some (.int .i64 r2) := (blk_cell BK8.out 1).trans rfl; have hc8_2 : w28.cell? ⟨g8, 2, none⟩ = some ((.slice Aw r3.length cw)) := (blk_cell BK8.out 2).trans rfl; have hc9_0 : w28.cell? ⟨g9, 0, none⟩ = some (.int .i64 a0_0) := (blk_cell BK9.out 0).trans rfl; have hc9_1 : w28.cell? ⟨g9, 1, none⟩ = some ((.slice Ax m.length cx)) := (blk_cell BK9.out 1).trans rfl; have hc10_0 : w28.cell? ⟨g10, 0, none⟩ = some (.int .i64 a2_0) := (blk_cell BK10.out 0).trans rfl; have hc10_1 : w28.cell? ⟨g10, 1, none⟩ = some ((.slice Ay b.length cy)) := (blk_cell BK10.out 1).trans rfl; have hc11_0 : w28.cell? ⟨g11, 0, none⟩ = some (.int .i64 r1) := (blk_cell BK11.out 0).trans rfl; have hc11_1 : w28.cell? ⟨g11, 1, none⟩ = some (.int .i64 r2) := (blk_cell BK11.out 1).trans rfl; have hc11_2 : w28.cell? ⟨g11, 2, none⟩ = some ((.slice Ag r3.length cg)) := (blk_cell BK11.out 2).trans rfl))
 have n0_ := Aside0.mk (below_drew1 HB.out)
 have n1_ := Aside0.mk (show hizy ≤ w28.drew.heap.size from HT.out)
 have n2_ := Aside0.mk (blk_drew BK3.out)
 have n3_ := Aside0.mk (blk_drew BK5.out)
 have n4_ := Aside0.mk (blk_drew BK8.out)
 have n5_ := Aside0.mk (Kd.S_drew HOw.out)
 have n6_ := Aside0.mk (blk_drew BK9.out)
 have n7_ := Aside0.mk (blk_drew BK10.out)
 have n8_ := Aside0.mk (Kd.S_drew HOg.out)
 have n9_ := Aside0.mk (blk_drew BK11.out)
 clear HB HT BK3 BK5 BK8 HOw BK9 BK10 HOg BK11
 have HB := n0_
 have HT := n1_
 have BK3 := n2_
 have BK5 := n3_
 have BK8 := n4_
 have HOw := n5_
 have BK9 := n6_
 have BK10 := n7_
 have HOg := n8_
 have BK11 := n9_
 clear n0_ n1_ n2_ n3_ n4_ n5_ n6_ n7_ n8_ n9_
 clear hc3_0 hc3_1 hc5_0 hc5_1 hc8_0 hc8_1 hc8_2 hc9_0 hc9_1 hc10_0 hc10_1 hc11_0 hc11_1 hc11_2
 refine start_ (n := 8) (S := fun w' => w'.cell? ⟨g3, 0, none⟩ = some (.int .i64 a0_0) ∧ w'.cell? ⟨g3, 1, none⟩ = some (.slice A0_1 l0_1.length c0_1) ∧ w'.cell? ⟨g5, 0, none⟩ = some (.int .i64 a2_0) ∧ w'.cell? ⟨g5, 1, none⟩ = some (.slice A2_1 l2_1.length c2_1)) (ds := [7]) #[false, false, false, false, false, false, false, false] (by kernel_rfl) rfl rfl ⟨(blk_cell BK3.out 0).trans rfl, (blk_cell BK3.out 1).trans rfl, (blk_cell BK5.out 0).trans rfl, (blk_cell BK5.out 1).trans rfl⟩ (fun hHeld => ?_)
 generalize w28.drew = w29 at HB HT BK3 BK5 BK8 HOw BK9 BK10 HOg BK11 hHeld ⊢
 refine take_ (i := 0) (N := some 79) (v := ?_) (a' := ?_) #[true, false, false, false, false, false, false, false] rfl rfl (by kernel_rfl) (fun _ _ _ h => h) (Or.inl ⟨by rfl, ?_⟩) hHeld ?_ ?_
 rotate_left
 ·rintro w' ⟨s0, s1, s2, s3⟩
  go_simp
  with_reducible rfl
 rotate_left
 ·simp only [Act.put, List.setIfInBounds_toArray, List.set_cons_zero, List.set_cons_succ, i64_w, i32_w]
  rfl
 refine pure_ (i := 2) (N := some 81) (v := ?_) (a' := ?_) #[true, false, true, false, false, false, false, false] rfl rfl (by kernel_rfl) (fun _ _ _ h => h) (Or.inl ⟨by rfl, ?_⟩) ?_ ?_
 rotate_left
 ·intro w'
  go_simp
  with_reducible rfl
 rotate_left
 ·simp only [Act.put, List.setIfInBounds_toArray, List.set_cons_zero, List.set_cons_succ, i64_w, i32_w]
  rfl
 refine take_ (i := 3) (N := some 82) (v := ?_) (a' := ?_) #[true, false, true, true, false, false, false, false] rfl rfl (by kernel_rfl) (fun _ _ _ h => h) (Or.inl ⟨by rfl, ?_⟩) hHeld ?_ ?_
 rotate_left
 ·rintro w' ⟨s0, s1, s2, s3⟩
  go_simp
  with_reducible rfl
 rotate_left
 ·simp only [Act.put, List.setIfInBounds_toArray, List.set_cons_zero, List.set_cons_succ, i64_w, i32_w]
  rfl
 refine join_ (σ := Value × Value × Nat × Option Addr × Nat) 1 #[true, true, true, true, true, true, true, false] (fun s_ => [(80, s_.1), (83, s_.2.1), (84, .agg #[.int .i64 r1, .int .i64 r2, .slice s_.2.2.2.1 r3.length s_.2.2.2.2]), (15, .pointer (some ⟨s_.2.2.1, 0, none⟩))]) (fun s_ w' => Below w29.heap.size w29 w' ∧ w'.heap[s_.2.2.1]? = some (Obj.cells #[.int .i64 0, .int .i64 0, .slice none 0 0] 31 (0, 0)) ∧ w29.heap.size ≤ s_.2.2.1 ∧ Kd.S k25 25 w' w.heap.size (fun j_ => w29.heap.size ≤ j_ ∧ j_ < w'.heap.size ∧ j_ ≠ s_.2.2.1) (.slice s_.2.2.2.1 r3.length s_.2.2.2.2) r3) ?_ ?_
 rotate_left
 ·intro hCont
  have hB := Aside0.mk (Below.refl w29.heap.size w29)
  have hC := HB
  refine two_ (i := 1) (j := 6) (Ni := some 80) (Nj := some 15) #[true, true, true, true, false, false, false, false] #[true, false, true, true, false, false, true, false] rfl rfl rfl rfl (by kernel_rfl) (by decide) (by decide) (fun K_ hK => ?_) (fun K_ hK => ?_)
  ·skip
   refine goes_ Try.func28 (by kernel_rfl) rfl #[.agg #[.int .i64 a0_0, .slice A0_1 l0_1.length c0_1]] (by rfl) rfl rfl (by (try simp only [List.map_toArray, List.map_cons, List.map_nil]); first | done | rfl) ?_
   with_reducible refine (laws_toRing.calls K a0_0 A0_1 c0_1 l0_1 a0_0 m _ ?caimpl1 HC.out HTO.out).mono ?_
   (case caimpl1 => exact Kd.C_below HR.out hC.out)
   rintro e w29c1 ⟨v_, rfl, ho, hb⟩
   refine ⟨_, rfl, ?_⟩
   have n0_ := Aside0.mk (below_step hB.out hb)
   have n1_ := Aside0.mk (below_step hC.out hb)
   have n2_ := Aside0.mk (Kd.S_lower ho (below_size hC.out))
   clear hHeld hB hC
   have hB := n0_
   have hC := n1_
   have HOt_ := n2_
   clear n0_ n1_ n2_
   clear hb ho
   obtain ⟨At_, ct_, ev_⟩ := Kd.S_slice HOt_.out
   subst ev_
   refine hK.out _ _ ⟨(blk_cell (blk_below (g := g3) (o := .cells #[.int .i64 a0_0, .slice A0_1 l0_1.length c0_1] 42 (0, 0)) BK3.out hB.out) 0).trans rfl, (blk_cell (blk_below (g := g3) (o := .cells #[.int .i64 a0_0, .slice A0_1 l0_1.length c0_1] 42 (0, 0)) BK3.out hB.out) 1).trans rfl, (blk_cell (blk_below (g := g5) (o := .cells #[.int .i64 a2_0, .slice A2_1 l2_1.length c2_1] 43 (0, 0)) BK5.out hB.out) 0).trans rfl, (blk_cell (blk_below (g := g5) (o := .cells #[.int .i64 a2_0, .slice A2_1 l2_1.length c2_1] 43 (0, 0)) BK5.out hB.out) 1).trans rfl⟩ (fun hHeld => ?_)
   clear hK K_
   refine norm_ (a' := ?_) ?_ ?_
   rotate_left
   ·show Act.put _ (some 80) _ = _
    simp only [Act.put, List.setIfInBounds_toArray, List.set_cons_zero, List.set_cons_succ, i64_w, i32_w]
    rfl
   refine two_ (i := 4) (j := 6) (Ni := some 83) (Nj := some 15) #[true, true, true, true, true, false, false, false] #[true, true, true, true, false, false, true, false] rfl rfl rfl rfl (by kernel_rfl) (by decide) (by decide) (fun K_ hK => ?_) (fun K_ hK => ?_)
   ·skip
    refine goes_ Try.func29 (by kernel_rfl) rfl #[.agg #[.int .i64 a2_0, .slice A2_1 l2_1.length c2_1]] (by rfl) rfl rfl (by (try simp only [List.map_toArray, List.map_cons, List.map_nil]); first | done | rfl) ?_
    with_reducible refine (laws_toKey.calls K a2_0 A2_1 c2_1 l2_1 a2_0 b _ ?cbimpl2 HCK.out HTK.out).mono ?_
    (case cbimpl2 => exact Kd.C_below HRK.out hC.out)
    rintro e w29c2 ⟨v_, rfl, ho, hb⟩
    refine ⟨_, rfl, ?_⟩
    have n0_ := Aside0.mk (below_step hB.out hb)
    have n1_ := Aside0.mk (below_step hC.out hb)
    have n2_ := Aside0.mk (Kd.S_below HOt_.out hb)
    have n3_ := Aside0.mk (Kd.R_lower ho (below_size hC.out))
    clear hHeld hB hC HOt_
    have hB := n0_
    have hC := n1_
    have HOt_ := n2_
    have HOy_ := n3_
    clear n0_ n1_ n2_ n3_
    clear hb ho
    obtain ⟨Ay_, cy_, ev_⟩ := Kd.R_slice HOy_.out
    subst ev_
    refine hK.out _ _ ⟨(blk_cell (blk_below (g := g3) (o := .cells #[.int .i64 a0_0, .slice A0_1 l0_1.length c0_1] 42 (0, 0)) BK3.out hB.out) 0).trans rfl, (blk_cell (blk_below (g := g3) (o := .cells #[.int .i64 a0_0, .slice A0_1 l0_1.length c0_1] 42 (0, 0)) BK3.out hB.out) 1).trans rfl, (blk_cell (blk_below (g := g5) (o := .cells #[.int .i64 a2_0, .slice A2_1 l2_1.length c2_1] 43 (0, 0)) BK5.out hB.out) 0).trans rfl, (blk_cell (blk_below (g := g5) (o := .cells #[.int .i64 a2_0, .slice A2_1 l2_1.length c2_1] 43 (0, 0)) BK5.out hB.out) 1).trans rfl⟩ (fun hHeld => ?_)
    clear hK K_
    refine norm_ (a' := ?_) ?_ ?_
    rotate_left
    ·show Act.put _ (some 83) _ = _
     simp only [Act.put, List.setIfInBounds_toArray, List.set_cons_zero, List.set_cons_succ, i64_w, i32_w]
     rfl
    refine two_ (i := 5) (j := 6) (Ni := some 84) (Nj := some 15) #[true, true, true, true, true, true, false, false] #[true, true, true, true, true, false, true, false] rfl rfl rfl rfl (by kernel_rfl) (by decide) (by decide) (fun K_ hK => ?_) (fun K_ hK => ?_)
    ·skip
     refine goes_ Try.func19 (by kernel_rfl) rfl #[.agg #[.int .i64 a0_0, .slice At_ m.length ct_], .int .i64 a1, .agg #[.int .i64 a2_0, .slice Ay_ b.length cy_]] (by rfl) rfl rfl (by (try simp only [List.map_toArray, List.map_cons, List.map_nil]); first | done | rfl) ?_
     with_reducible refine (impl_TurnRing.calls K a0_0 _ _ m a1 a2_0 _ _ b r1 r2 r3 _ ?ccimpl3 ?cdimpl3 ?ceimpl3 ?cfimpl3 HIM.out).mono ?_
     (case ccimpl3 => exact (Kd.S_reads' HOt_.out).2.2)
     (case cdimpl3 => exact (Kd.S_reads' HOt_.out).2.1)
     (case ceimpl3 => exact (Kd.R_reads' HOy_.out).2.2)
     (case cfimpl3 => exact (Kd.R_reads' HOy_.out).2.1)
     rintro e w29c3 ⟨v_, rfl, ho, hb⟩
     refine ⟨_, rfl, ?_⟩
     have n0_ := Aside0.mk (below_step hB.out hb)
     have n1_ := Aside0.mk (below_step hC.out hb)
     have n2_ := Aside0.mk (Kd.S_below HOt_.out hb)
     have n3_ := Aside0.mk (Kd.R_below HOy_.out hb)
     have n4_ := Aside0.mk (Kd.S_lower (Kd.S_mono (Kd.S_bound ho) (ok' := fun j_ => w29.heap.size ≤ j_ ∧ j_ < w29c3.heap.size) (fun j_ hj_ => ⟨Nat.le_trans hB.out.size hj_.2.1, hj_.2.2.1⟩)) (below_size hC.out))
     clear hHeld hB hC HOt_ HOy_
     have hB := n0_
     have hC := n1_
     have HOt_ := n2_
     have HOy_ := n3_
     have HOw_ := n4_
     clear n0_ n1_ n2_ n3_ n4_
     clear hb ho
     obtain ⟨Aw_, cw_, ev_⟩ := Kd.S_slice HOw_.out
     subst ev_
     refine hK.out _ _ ⟨(blk_cell (blk_below (g := g3) (o := .cells #[.int .i64 a0_0, .slice A0_1 l0_1.length c0_1] 42 (0, 0)) BK3.out hB.out) 0).trans rfl, (blk_cell (blk_below (g := g3) (o := .cells #[.int .i64 a0_0, .slice A0_1 l0_1.length c0_1] 42 (0, 0)) BK3.out hB.out) 1).trans rfl, (blk_cell (blk_below (g := g5) (o := .cells #[.int .i64 a2_0, .slice A2_1 l2_1.length c2_1] 43 (0, 0)) BK5.out hB.out) 0).trans rfl, (blk_cell (blk_below (g := g5) (o := .cells #[.int .i64 a2_0, .slice A2_1 l2_1.length c2_1] 43 (0, 0)) BK5.out hB.out) 1).trans rfl⟩ (fun hHeld => ?_)
     clear hK K_
     refine norm_ (a' := ?_) ?_ ?_
     rotate_left
     ·show Act.put _ (some 84) _ = _
      simp only [Act.put, List.setIfInBounds_toArray, List.set_cons_zero, List.set_cons_succ, i64_w, i32_w]
      rfl
     refine one_ (i := 6) (N := some 15) #[true, true, true, true, true, true, true, false] rfl rfl (by kernel_rfl) (by decide) (fun K_ hK => ?_)
     refine value_ (w1 := (w29c3.alloc (.cells #[.int .i64 0, .int .i64 0, .slice none 0 0] 31))) (v := .pointer (some ⟨w29c3.heap.size, 0, none⟩)) (by rfl) rfl ?_ ?_
     ·first
       | (go_simp; done)
       | (go_simp; rfl)
     have n0_ := Aside0.mk (below_alloc hB.out (.cells #[.int .i64 0, .int .i64 0, .slice none 0 0] 31))
     have n1_ := Aside0.mk (below_alloc hC.out (.cells #[.int .i64 0, .int .i64 0, .slice none 0 0] 31))
     have n2_ := Aside0.mk (Kd.S_alloc HOt_.out (.cells #[.int .i64 0, .int .i64 0, .slice none 0 0] 31))
     have n3_ := Aside0.mk (Kd.R_alloc HOy_.out (.cells #[.int .i64 0, .int .i64 0, .slice none 0 0] 31))
     have nz_ : Aside0 ((w29c3.alloc (.cells #[.int .i64 0, .int .i64 0, .slice none 0 0] 31)).heap[w29c3.heap.size]? = some (Obj.cells #[.int .i64 0, .int .i64 0, .slice none 0 0] 31 (0, 0))) := ⟨heap_alloc_new w29c3 (.cells #[.int .i64 0, .int .i64 0, .slice none 0 0] 31)⟩
     have ng_ : Aside0 (w29.heap.size ≤ w29c3.heap.size) := ⟨hB.out.size⟩
     have nw_ : Aside0 (Kd.S k25 25 (w29c3.alloc (.cells #[.int .i64 0, .int .i64 0, .slice none 0 0] 31)) w.heap.size (fun j_ => w29.heap.size ≤ j_ ∧ j_ < (w29c3.alloc (.cells #[.int .i64 0, .int .i64 0, .slice none 0 0] 31)).heap.size ∧ j_ ≠ w29c3.heap.size) (.slice Aw_ r3.length cw_) r3) := ⟨Kd.S_mono (Kd.S_alloc HOw_.out (.cells #[.int .i64 0, .int .i64 0, .slice none 0 0] 31)) (fun j_ hj_ => ⟨hj_.1, by rw [show (w29c3.alloc (.cells #[.int .i64 0, .int .i64 0, .slice none 0 0] 31)).heap.size = w29c3.heap.size + 1 from Array.size_push _]; have := hj_.2; omega, Nat.ne_of_lt hj_.2⟩)⟩
     clear hHeld hB hC HOt_ HOy_ HOw_
     generalize w29c3.heap.size = gq_ at nz_ ng_ nw_ ⊢
     generalize (w29c3.alloc (.cells #[.int .i64 0, .int .i64 0, .slice none 0 0] 31)) = w29c4 at n0_ n1_ n2_ n3_ nz_ nw_ ⊢
     have hB := n0_
     have hC := n1_
     have HOt_ := n2_
     have HOy_ := n3_
     have HZ := nz_
     have HG := ng_
     have HOw_ := nw_
     clear nz_ ng_ nw_ n0_ n1_ n2_ n3_
     refine hK.out _ _ ⟨(blk_cell (blk_below (g := g3) (o := .cells #[.int .i64 a0_0, .slice A0_1 l0_1.length c0_1] 42 (0, 0)) BK3.out hB.out) 0).trans rfl, (blk_cell (blk_below (g := g3) (o := .cells #[.int .i64 a0_0, .slice A0_1 l0_1.length c0_1] 42 (0, 0)) BK3.out hB.out) 1).trans rfl, (blk_cell (blk_below (g := g5) (o := .cells #[.int .i64 a2_0, .slice A2_1 l2_1.length c2_1] 43 (0, 0)) BK5.out hB.out) 0).trans rfl, (blk_cell (blk_below (g := g5) (o := .cells #[.int .i64 a2_0, .slice A2_1 l2_1.length c2_1] 43 (0, 0)) BK5.out hB.out) 1).trans rfl⟩ (fun hHeld => ?_)
     clear hK K_
     refine norm_ (a' := ?_) ?_ ?_
     rotate_left
     ·show Act.put _ (some 15) _ = _
      simp only [Act.put, List.setIfInBounds_toArray, List.set_cons_zero, List.set_cons_succ, i64_w, i32_w]
      rfl
     exact norm_ (by simp only [putAll, Act.put, List.setIfInBounds_toArray, List.set_cons_zero, List.set_cons_succ]) (hCont (.agg #[.int .i64 a0_0, .slice At_ m.length ct_], .agg #[.int .i64 a2_0, .slice Ay_ b.length cy_], gq_, Aw_, cw_) _ ⟨hB.out, HZ.out, HG.out, HOw_.out⟩)
    ·skip
     refine value_ (w1 := (w29c2.alloc (.cells #[.int .i64 0, .int .i64 0, .slice none 0 0] 31))) (v := .pointer (some ⟨w29c2.heap.size, 0, none⟩)) (by rfl) rfl ?_ ?_
     ·first
       | (go_simp; done)
       | (go_simp; rfl)
     have n0_ := Aside0.mk (below_alloc hB.out (.cells #[.int .i64 0, .int .i64 0, .slice none 0 0] 31))
     have n1_ := Aside0.mk (below_alloc hC.out (.cells #[.int .i64 0, .int .i64 0, .slice none 0 0] 31))
     have n2_ := Aside0.mk (Kd.S_alloc HOt_.out (.cells #[.int .i64 0, .int .i64 0, .slice none 0 0] 31))
     have n3_ := Aside0.mk (Kd.R_alloc HOy_.out (.cells #[.int .i64 0, .int .i64 0, .slice none 0 0] 31))
     have nz_ : Aside0 ((w29c2.alloc (.cells #[.int .i64 0, .int .i64 0, .slice none 0 0] 31)).heap[w29c2.heap.size]? = some (Obj.cells #[.int .i64 0, .int .i64 0, .slice none 0 0] 31 (0, 0))) := ⟨heap_alloc_new w29c2 (.cells #[.int .i64 0, .int .i64 0, .slice none 0 0] 31)⟩
     have ng_ : Aside0 (w29.heap.size ≤ w29c2.heap.size) := ⟨hB.out.size⟩
     clear hHeld hB hC HOt_ HOy_
     generalize w29c2.heap.size = gq_ at nz_ ng_ ⊢
     generalize (w29c2.alloc (.cells #[.int .i64 0, .int .i64 0, .slice none 0 0] 31)) = w29c5 at n0_ n1_ n2_ n3_ nz_ ⊢
     have hB := n0_
     have hC := n1_
     have HOt_ := n2_
     have HOy_ := n3_
     have HZ := nz_
     have HG := ng_
     clear nz_ ng_ n0_ n1_ n2_ n3_
     refine hK.out _ _ ⟨(blk_cell (blk_below (g := g3) (o := .cells #[.int .i64 a0_0, .slice A0_1 l0_1.length c0_1] 42 (0, 0)) BK3.out hB.out) 0).trans rfl, (blk_cell (blk_below (g := g3) (o := .cells #[.int .i64 a0_0, .slice A0_1 l0_1.length c0_1] 42 (0, 0)) BK3.out hB.out) 1).trans rfl, (blk_cell (blk_below (g := g5) (o := .cells #[.int .i64 a2_0, .slice A2_1 l2_1.length c2_1] 43 (0, 0)) BK5.out hB.out) 0).trans rfl, (blk_cell (blk_below (g := g5) (o := .cells #[.int .i64 a2_0, .slice A2_1 l2_1.length c2_1] 43 (0, 0)) BK5.out hB.out) 1).trans rfl⟩ (fun hHeld => ?_)
     clear hK K_
     refine norm_ (a' := ?_) ?_ ?_
     rotate_left
     ·show Act.put _ (some 15) _ = _
      simp only [Act.put, List.setIfInBounds_toArray, List.set_cons_zero, List.set_cons_succ, i64_w, i32_w]
      rfl
     refine one_ (i := 5) (N := some 84) #[true, true, true, true, true, true, true, false] rfl rfl (by kernel_rfl) (by decide) (fun K_ hK => ?_)
     refine goes_ Try.func19 (by kernel_rfl) rfl #[.agg #[.int .i64 a0_0, .slice At_ m.length ct_], .int .i64 a1, .agg #[.int .i64 a2_0, .slice Ay_ b.length cy_]] (by rfl) rfl rfl (by (try simp only [List.map_toArray, List.map_cons, List.map_nil]); first | done | rfl) ?_
     with_reducible refine (impl_TurnRing.calls K a0_0 _ _ m a1 a2_0 _ _ b r1 r2 r3 _ ?ccimpl6 ?cdimpl6 ?ceimpl6 ?cfimpl6 HIM.out).mono ?_
     (case ccimpl6 => exact (Kd.S_reads' HOt_.out).2.2)
     (case cdimpl6 => exact (Kd.S_reads' HOt_.out).2.1)
     (case ceimpl6 => exact (Kd.R_reads' HOy_.out).2.2)
     (case cfimpl6 => exact (Kd.R_reads' HOy_.out).2.1)
     rintro e w29c6 ⟨v_, rfl, ho, hb⟩
     refine ⟨_, rfl, ?_⟩
     have n0_ := Aside0.mk (below_step hB.out hb)
     have n1_ := Aside0.mk (below_step hC.out hb)
     have n2_ := Aside0.mk (blk_below (g := gq_) (o := .cells #[.int .i64 0, .int .i64 0, .slice none 0 0] 31 (0, 0)) HZ.out hb)
     have n3_ := Aside0.mk (Kd.S_below HOt_.out hb)
     have n4_ := Aside0.mk (Kd.R_below HOy_.out hb)
     have n5_ := Aside0.mk (Kd.S_lower (Kd.S_mono (Kd.S_bound ho) (ok' := fun j_ => w29.heap.size ≤ j_ ∧ j_ < w29c6.heap.size ∧ j_ ≠ gq_) (fun j_ hj_ => ⟨Nat.le_trans hB.out.size hj_.2.1, hj_.2.2.1, fun e_ => by subst e_; have h9 := blk_lt HZ.out; have h8 := hj_.2.1; omega⟩)) (below_size hC.out))
     clear hHeld hB hC HZ HOt_ HOy_
     have hB := n0_
     have hC := n1_
     have HZ := n2_
     have HOt_ := n3_
     have HOy_ := n4_
     have HOw_ := n5_
     clear n0_ n1_ n2_ n3_ n4_ n5_
     clear hb ho
     obtain ⟨Aw_, cw_, ev_⟩ := Kd.S_slice HOw_.out
     subst ev_
     refine hK.out _ _ ⟨(blk_cell (blk_below (g := g3) (o := .cells #[.int .i64 a0_0, .slice A0_1 l0_1.length c0_1] 42 (0, 0)) BK3.out hB.out) 0).trans rfl, (blk_cell (blk_below (g := g3) (o := .cells #[.int .i64 a0_0, .slice A0_1 l0_1.length c0_1] 42 (0, 0)) BK3.out hB.out) 1).trans rfl, (blk_cell (blk_below (g := g5) (o := .cells #[.int .i64 a2_0, .slice A2_1 l2_1.length c2_1] 43 (0, 0)) BK5.out hB.out) 0).trans rfl, (blk_cell (blk_below (g := g5) (o := .cells #[.int .i64 a2_0, .slice A2_1 l2_1.length c2_1] 43 (0, 0)) BK5.out hB.out) 1).trans rfl⟩ (fun hHeld => ?_)
     clear hK K_
     refine norm_ (a' := ?_) ?_ ?_
     rotate_left
     ·show Act.put _ (some 84) _ = _
      simp only [Act.put, List.setIfInBounds_toArray, List.set_cons_zero, List.set_cons_succ, i64_w, i32_w]
      rfl
     exact norm_ (by simp only [putAll, Act.put, List.setIfInBounds_toArray, List.set_cons_zero, List.set_cons_succ]) (hCont (.agg #[.int .i64 a0_0, .slice At_ m.length ct_], .agg #[.int .i64 a2_0, .slice Ay_ b.length cy_], gq_, Aw_, cw_) _ ⟨hB.out, HZ.out, HG.out, HOw_.out⟩)
   ·skip
    refine value_ (w1 := (w29c1.alloc (.cells #[.int .i64 0, .int .i64 0, .slice none 0 0] 31))) (v := .pointer (some ⟨w29c1.heap.size, 0, none⟩)) (by rfl) rfl ?_ ?_
    ·first
      | (go_simp; done)
      | (go_simp; rfl)
    have n0_ := Aside0.mk (below_alloc hB.out (.cells #[.int .i64 0, .int .i64 0, .slice none 0 0] 31))
    have n1_ := Aside0.mk (below_alloc hC.out (.cells #[.int .i64 0, .int .i64 0, .slice none 0 0] 31))
    have n2_ := Aside0.mk (Kd.S_alloc HOt_.out (.cells #[.int .i64 0, .int .i64 0, .slice none 0 0] 31))
    have nz_ : Aside0 ((w29c1.alloc (.cells #[.int .i64 0, .int .i64 0, .slice none 0 0] 31)).heap[w29c1.heap.size]? = some (Obj.cells #[.int .i64 0, .int .i64 0, .slice none 0 0] 31 (0, 0))) := ⟨heap_alloc_new w29c1 (.cells #[.int .i64 0, .int .i64 0, .slice none 0 0] 31)⟩
    have ng_ : Aside0 (w29.heap.size ≤ w29c1.heap.size) := ⟨hB.out.size⟩
    clear hHeld hB hC HOt_
    generalize w29c1.heap.size = gq_ at nz_ ng_ ⊢
    generalize (w29c1.alloc (.cells #[.int .i64 0, .int .i64 0, .slice none 0 0] 31)) = w29c7 at n0_ n1_ n2_ nz_ ⊢
    have hB := n0_
    have hC := n1_
    have HOt_ := n2_
    have HZ := nz_
    have HG := ng_
    clear nz_ ng_ n0_ n1_ n2_
    refine hK.out _ _ ⟨(blk_cell (blk_below (g := g3) (o := .cells #[.int .i64 a0_0, .slice A0_1 l0_1.length c0_1] 42 (0, 0)) BK3.out hB.out) 0).trans rfl, (blk_cell (blk_below (g := g3) (o := .cells #[.int .i64 a0_0, .slice A0_1 l0_1.length c0_1] 42 (0, 0)) BK3.out hB.out) 1).trans rfl, (blk_cell (blk_below (g := g5) (o := .cells #[.int .i64 a2_0, .slice A2_1 l2_1.length c2_1] 43 (0, 0)) BK5.out hB.out) 0).trans rfl, (blk_cell (blk_below (g := g5) (o := .cells #[.int .i64 a2_0, .slice A2_1 l2_1.length c2_1] 43 (0, 0)) BK5.out hB.out) 1).trans rfl⟩ (fun hHeld => ?_)
    clear hK K_
    refine norm_ (a' := ?_) ?_ ?_
    rotate_left
    ·show Act.put _ (some 15) _ = _
     simp only [Act.put, List.setIfInBounds_toArray, List.set_cons_zero, List.set_cons_succ, i64_w, i32_w]
     rfl
    refine one_ (i := 4) (N := some 83) #[true, true, true, true, true, false, true, false] rfl rfl (by kernel_rfl) (by decide) (fun K_ hK => ?_)
    refine goes_ Try.func29 (by kernel_rfl) rfl #[.agg #[.int .i64 a2_0, .slice A2_1 l2_1.length c2_1]] (by rfl) rfl rfl (by (try simp only [List.map_toArray, List.map_cons, List.map_nil]); first | done | rfl) ?_
    with_reducible refine (laws_toKey.calls K a2_0 A2_1 c2_1 l2_1 a2_0 b _ ?cbimpl8 HCK.out HTK.out).mono ?_
    (case cbimpl8 => exact Kd.C_below HRK.out hC.out)
    rintro e w29c8 ⟨v_, rfl, ho, hb⟩
    refine ⟨_, rfl, ?_⟩
    have n0_ := Aside0.mk (below_step hB.out hb)
    have n1_ := Aside0.mk (below_step hC.out hb)
    have n2_ := Aside0.mk (blk_below (g := gq_) (o := .cells #[.int .i64 0, .int .i64 0, .slice none 0 0] 31 (0, 0)) HZ.out hb)
    have n3_ := Aside0.mk (Kd.S_below HOt_.out hb)
    have n4_ := Aside0.mk (Kd.R_lower ho (below_size hC.out))
    clear hHeld hB hC HZ HOt_
    have hB := n0_
    have hC := n1_
    have HZ := n2_
    have HOt_ := n3_
    have HOy_ := n4_
    clear n0_ n1_ n2_ n3_ n4_
    clear hb ho
    obtain ⟨Ay_, cy_, ev_⟩ := Kd.R_slice HOy_.out
    subst ev_
    refine hK.out _ _ ⟨(blk_cell (blk_below (g := g3) (o := .cells #[.int .i64 a0_0, .slice A0_1 l0_1.length c0_1] 42 (0, 0)) BK3.out hB.out) 0).trans rfl, (blk_cell (blk_below (g := g3) (o := .cells #[.int .i64 a0_0, .slice A0_1 l0_1.length c0_1] 42 (0, 0)) BK3.out hB.out) 1).trans rfl, (blk_cell (blk_below (g := g5) (o := .cells #[.int .i64 a2_0, .slice A2_1 l2_1.length c2_1] 43 (0, 0)) BK5.out hB.out) 0).trans rfl, (blk_cell (blk_below (g := g5) (o := .cells #[.int .i64 a2_0, .slice A2_1 l2_1.length c2_1] 43 (0, 0)) BK5.out hB.out) 1).trans rfl⟩ (fun hHeld => ?_)
    clear hK K_
    refine norm_ (a' := ?_) ?_ ?_
    rotate_left
    ·show Act.put _ (some 83) _ = _
     simp only [Act.put, List.setIfInBounds_toArray, List.set_cons_zero, List.set_cons_succ, i64_w, i32_w]
     rfl
    refine one_ (i := 5) (N := some 84) #[true, true, true, true, true, true, true, false] rfl rfl (by kernel_rfl) (by decide) (fun K_ hK => ?_)
    refine goes_ Try.func19 (by kernel_rfl) rfl #[.agg #[.int .i64 a0_0, .slice At_ m.length ct_], .int .i64 a1, .agg #[.int .i64 a2_0, .slice Ay_ b.length cy_]] (by rfl) rfl rfl (by (try simp only [List.map_toArray, List.map_cons, List.map_nil]); first | done | rfl) ?_
    with_reducible refine (impl_TurnRing.calls K a0_0 _ _ m a1 a2_0 _ _ b r1 r2 r3 _ ?ccimpl9 ?cdimpl9 ?ceimpl9 ?cfimpl9 HIM.out).mono ?_
    (case ccimpl9 => exact (Kd.S_reads' HOt_.out).2.2)
    (case cdimpl9 => exact (Kd.S_reads' HOt_.out).2.1)
    (case ceimpl9 => exact (Kd.R_reads' HOy_.out).2.2)
    (case cfimpl9 => exact (Kd.R_reads' HOy_.out).2.1)
    rintro e w29c9 ⟨v_, rfl, ho, hb⟩
    refine ⟨_, rfl, ?_⟩
    have n0_ := Aside0.mk (below_step hB.out hb)
    have n1_ := Aside0.mk (below_step hC.out hb)
    have n2_ := Aside0.mk (blk_below (g := gq_) (o := .cells #[.int .i64 0, .int .i64 0, .slice none 0 0] 31 (0, 0)) HZ.out hb)
    have n3_ := Aside0.mk (Kd.S_below HOt_.out hb)
    have n4_ := Aside0.mk (Kd.R_below HOy_.out hb)
    have n5_ := Aside0.mk (Kd.S_lower (Kd.S_mono (Kd.S_bound ho) (ok' := fun j_ => w29.heap.size ≤ j_ ∧ j_ < w29c9.heap.size ∧ j_ ≠ gq_) (fun j_ hj_ => ⟨Nat.le_trans hB.out.size hj_.2.1, hj_.2.2.1, fun e_ => by subst e_; have h9 := blk_lt HZ.out; have h8 := hj_.2.1; omega⟩)) (below_size hC.out))
    clear hHeld hB hC HZ HOt_ HOy_
    have hB := n0_
    have hC := n1_
    have HZ := n2_
    have HOt_ := n3_
    have HOy_ := n4_
    have HOw_ := n5_
    clear n0_ n1_ n2_ n3_ n4_ n5_
    clear hb ho
    obtain ⟨Aw_, cw_, ev_⟩ := Kd.S_slice HOw_.out
    subst ev_
    refine hK.out _ _ ⟨(blk_cell (blk_below (g := g3) (o := .cells #[.int .i64 a0_0, .slice A0_1 l0_1.length c0_1] 42 (0, 0)) BK3.out hB.out) 0).trans rfl, (blk_cell (blk_below (g := g3) (o := .cells #[.int .i64 a0_0, .slice A0_1 l0_1.length c0_1] 42 (0, 0)) BK3.out hB.out) 1).trans rfl, (blk_cell (blk_below (g := g5) (o := .cells #[.int .i64 a2_0, .slice A2_1 l2_1.length c2_1] 43 (0, 0)) BK5.out hB.out) 0).trans rfl, (blk_cell (blk_below (g := g5) (o := .cells #[.int .i64 a2_0, .slice A2_1 l2_1.length c2_1] 43 (0, 0)) BK5.out hB.out) 1).trans rfl⟩ (fun hHeld => ?_)
    clear hK K_
    refine norm_ (a' := ?_) ?_ ?_
    rotate_left
    ·show Act.put _ (some 84) _ = _
     simp only [Act.put, List.setIfInBounds_toArray, List.set_cons_zero, List.set_cons_succ, i64_w, i32_w]
     rfl
    exact norm_ (by simp only [putAll, Act.put, List.setIfInBounds_toArray, List.set_cons_zero, List.set_cons_succ]) (hCont (.agg #[.int .i64 a0_0, .slice At_ m.length ct_], .agg #[.int .i64 a2_0, .slice Ay_ b.length cy_], gq_, Aw_, cw_) _ ⟨hB.out, HZ.out, HG.out, HOw_.out⟩)
  ·skip
   refine value_ (w1 := (w29.alloc (.cells #[.int .i64 0, .int .i64 0, .slice none 0 0] 31))) (v := .pointer (some ⟨w29.heap.size, 0, none⟩)) (by rfl) rfl ?_ ?_
   ·first
     | (go_simp; done)
     | (go_simp; rfl)
   have n0_ := Aside0.mk (below_alloc hB.out (.cells #[.int .i64 0, .int .i64 0, .slice none 0 0] 31))
   have n1_ := Aside0.mk (below_alloc hC.out (.cells #[.int .i64 0, .int .i64 0, .slice none 0 0] 31))
   have nz_ : Aside0 ((w29.alloc (.cells #[.int .i64 0, .int .i64 0, .slice none 0 0] 31)).heap[w29.heap.size]? = some (Obj.cells #[.int .i64 0, .int .i64 0, .slice none 0 0] 31 (0, 0))) := ⟨heap_alloc_new w29 (.cells #[.int .i64 0, .int .i64 0, .slice none 0 0] 31)⟩
   have ng_ : Aside0 (w29.heap.size ≤ w29.heap.size) := ⟨hB.out.size⟩
   clear hHeld hB hC
   obtain ⟨gq_, hgq_⟩ : ∃ x, x = w29.heap.size := ⟨_, rfl⟩
   have nz2_ : Aside0 ((w29.alloc (.cells #[.int .i64 0, .int .i64 0, .slice none 0 0] 31)).heap[gq_]? = some (Obj.cells #[.int .i64 0, .int .i64 0, .slice none 0 0] 31 (0, 0))) := ⟨by rw [hgq_]; exact nz_.out⟩
   have ng2_ : Aside0 (w29.heap.size ≤ gq_) := ⟨Nat.le_of_eq hgq_.symm⟩
   clear nz_ ng_
   have nz_ := nz2_
   have ng_ := ng2_
   clear nz2_ ng2_
   rw [← hgq_]
   clear hgq_
   generalize (w29.alloc (.cells #[.int .i64 0, .int .i64 0, .slice none 0 0] 31)) = w29c10 at n0_ n1_ nz_ ⊢
   have hB := n0_
   have hC := n1_
   have HZ := nz_
   have HG := ng_
   clear nz_ ng_ n0_ n1_
   refine hK.out _ _ ⟨(blk_cell (blk_below (g := g3) (o := .cells #[.int .i64 a0_0, .slice A0_1 l0_1.length c0_1] 42 (0, 0)) BK3.out hB.out) 0).trans rfl, (blk_cell (blk_below (g := g3) (o := .cells #[.int .i64 a0_0, .slice A0_1 l0_1.length c0_1] 42 (0, 0)) BK3.out hB.out) 1).trans rfl, (blk_cell (blk_below (g := g5) (o := .cells #[.int .i64 a2_0, .slice A2_1 l2_1.length c2_1] 43 (0, 0)) BK5.out hB.out) 0).trans rfl, (blk_cell (blk_below (g := g5) (o := .cells #[.int .i64 a2_0, .slice A2_1 l2_1.length c2_1] 43 (0, 0)) BK5.out hB.out) 1).trans rfl⟩ (fun hHeld => ?_)
   clear hK K_
   refine norm_ (a' := ?_) ?_ ?_
   rotate_left
   ·show Act.put _ (some 15) _ = _
    simp only [Act.put, List.setIfInBounds_toArray, List.set_cons_zero, List.set_cons_succ, i64_w, i32_w]
    rfl
   refine one_ (i := 1) (N := some 80) #[true, true, true, true, false, false, true, false] rfl rfl (by kernel_rfl) (by decide) (fun K_ hK => ?_)
   refine goes_ Try.func28 (by kernel_rfl) rfl #[.agg #[.int .i64 a0_0, .slice A0_1 l0_1.length c0_1]] (by rfl) rfl rfl (by (try simp only [List.map_toArray, List.map_cons, List.map_nil]); first | done | rfl) ?_
   with_reducible refine (laws_toRing.calls K a0_0 A0_1 c0_1 l0_1 a0_0 m _ ?caimpl11 HC.out HTO.out).mono ?_
   (case caimpl11 => exact Kd.C_below HR.out hC.out)
   rintro e w29c11 ⟨v_, rfl, ho, hb⟩
   refine ⟨_, rfl, ?_⟩
   have n0_ := Aside0.mk (below_step hB.out hb)
   have n1_ := Aside0.mk (below_step hC.out hb)
   have n2_ := Aside0.mk (blk_below (g := gq_) (o := .cells #[.int .i64 0, .int .i64 0, .slice none 0 0] 31 (0, 0)) HZ.out hb)
   have n3_ := Aside0.mk (Kd.S_lower ho (below_size hC.out))
   clear hHeld hB hC HZ
   have hB := n0_
   have hC := n1_
   have HZ := n2_
   have HOt_ := n3_
   clear n0_ n1_ n2_ n3_
   clear hb ho
   obtain ⟨At_, ct_, ev_⟩ := Kd.S_slice HOt_.out
   subst ev_
   refine hK.out _ _ ⟨(blk_cell (blk_below (g := g3) (o := .cells #[.int .i64 a0_0, .slice A0_1 l0_1.length c0_1] 42 (0, 0)) BK3.out hB.out) 0).trans rfl, (blk_cell (blk_below (g := g3) (o := .cells #[.int .i64 a0_0, .slice A0_1 l0_1.length c0_1] 42 (0, 0)) BK3.out hB.out) 1).trans rfl, (blk_cell (blk_below (g := g5) (o := .cells #[.int .i64 a2_0, .slice A2_1 l2_1.length c2_1] 43 (0, 0)) BK5.out hB.out) 0).trans rfl, (blk_cell (blk_below (g := g5) (o := .cells #[.int .i64 a2_0, .slice A2_1 l2_1.length c2_1] 43 (0, 0)) BK5.out hB.out) 1).trans rfl⟩ (fun hHeld => ?_)
   clear hK K_
   refine norm_ (a' := ?_) ?_ ?_
   rotate_left
   ·show Act.put _ (some 80) _ = _
    simp only [Act.put, List.setIfInBounds_toArray, List.set_cons_zero, List.set_cons_succ, i64_w, i32_w]
    rfl
   refine one_ (i := 4) (N := some 83) #[true, true, true, true, true, false, true, false] rfl rfl (by kernel_rfl) (by decide) (fun K_ hK => ?_)
   refine goes_ Try.func29 (by kernel_rfl) rfl #[.agg #[.int .i64 a2_0, .slice A2_1 l2_1.length c2_1]] (by rfl) rfl rfl (by (try simp only [List.map_toArray, List.map_cons, List.map_nil]); first | done | rfl) ?_
   with_reducible refine (laws_toKey.calls K a2_0 A2_1 c2_1 l2_1 a2_0 b _ ?cbimpl12 HCK.out HTK.out).mono ?_
   (case cbimpl12 => exact Kd.C_below HRK.out hC.out)
   rintro e w29c12 ⟨v_, rfl, ho, hb⟩
   refine ⟨_, rfl, ?_⟩
   have n0_ := Aside0.mk (below_step hB.out hb)
   have n1_ := Aside0.mk (below_step hC.out hb)
   have n2_ := Aside0.mk (blk_below (g := gq_) (o := .cells #[.int .i64 0, .int .i64 0, .slice none 0 0] 31 (0, 0)) HZ.out hb)
   have n3_ := Aside0.mk (Kd.S_below HOt_.out hb)
   have n4_ := Aside0.mk (Kd.R_lower ho (below_size hC.out))
   clear hHeld hB hC HZ HOt_
   have hB := n0_
   have hC := n1_
   have HZ := n2_
   have HOt_ := n3_
   have HOy_ := n4_
   clear n0_ n1_ n2_ n3_ n4_
   clear hb ho
   obtain ⟨Ay_, cy_, ev_⟩ := Kd.R_slice HOy_.out
   subst ev_
   refine hK.out _ _ ⟨(blk_cell (blk_below (g := g3) (o := .cells #[.int .i64 a0_0, .slice A0_1 l0_1.length c0_1] 42 (0, 0)) BK3.out hB.out) 0).trans rfl, (blk_cell (blk_below (g := g3) (o := .cells #[.int .i64 a0_0, .slice A0_1 l0_1.length c0_1] 42 (0, 0)) BK3.out hB.out) 1).trans rfl, (blk_cell (blk_below (g := g5) (o := .cells #[.int .i64 a2_0, .slice A2_1 l2_1.length c2_1] 43 (0, 0)) BK5.out hB.out) 0).trans rfl, (blk_cell (blk_below (g := g5) (o := .cells #[.int .i64 a2_0, .slice A2_1 l2_1.length c2_1] 43 (0, 0)) BK5.out hB.out) 1).trans rfl⟩ (fun hHeld => ?_)
   clear hK K_
   refine norm_ (a' := ?_) ?_ ?_
   rotate_left
   ·show Act.put _ (some 83) _ = _
    simp only [Act.put, List.setIfInBounds_toArray, List.set_cons_zero, List.set_cons_succ, i64_w, i32_w]
    rfl
   refine one_ (i := 5) (N := some 84) #[true, true, true, true, true, true, true, false] rfl rfl (by kernel_rfl) (by decide) (fun K_ hK => ?_)
   refine goes_ Try.func19 (by kernel_rfl) rfl #[.agg #[.int .i64 a0_0, .slice At_ m.length ct_], .int .i64 a1, .agg #[.int .i64 a2_0, .slice Ay_ b.length cy_]] (by rfl) rfl rfl (by (try simp only [List.map_toArray, List.map_cons, List.map_nil]); first | done | rfl) ?_
   with_reducible refine (impl_TurnRing.calls K a0_0 _ _ m a1 a2_0 _ _ b r1 r2 r3 _ ?ccimpl13 ?cdimpl13 ?ceimpl13 ?cfimpl13 HIM.out).mono ?_
   (case ccimpl13 => exact (Kd.S_reads' HOt_.out).2.2)
   (case cdimpl13 => exact (Kd.S_reads' HOt_.out).2.1)
   (case ceimpl13 => exact (Kd.R_reads' HOy_.out).2.2)
   (case cfimpl13 => exact (Kd.R_reads' HOy_.out).2.1)
   rintro e w29c13 ⟨v_, rfl, ho, hb⟩
   refine ⟨_, rfl, ?_⟩
   have n0_ := Aside0.mk (below_step hB.out hb)
   have n1_ := Aside0.mk (below_step hC.out hb)
   have n2_ := Aside0.mk (blk_below (g := gq_) (o := .cells #[.int .i64 0, .int .i64 0, .slice none 0 0] 31 (0, 0)) HZ.out hb)
   have n3_ := Aside0.mk (Kd.S_below HOt_.out hb)
   have n4_ := Aside0.mk (Kd.R_below HOy_.out hb)
   have n5_ := Aside0.mk (Kd.S_lower (Kd.S_mono (Kd.S_bound ho) (ok' := fun j_ => w29.heap.size ≤ j_ ∧ j_ < w29c13.heap.size ∧ j_ ≠ gq_) (fun j_ hj_ => ⟨Nat.le_trans hB.out.size hj_.2.1, hj_.2.2.1, fun e_ => by subst e_; have h9 := blk_lt HZ.out; have h8 := hj_.2.1; omega⟩)) (below_size hC.out))
   clear hHeld hB hC HZ HOt_ HOy_
   have hB := n0_
   have hC := n1_
   have HZ := n2_
   have HOt_ := n3_
   have HOy_ := n4_
   have HOw_ := n5_
   clear n0_ n1_ n2_ n3_ n4_ n5_
   clear hb ho
   obtain ⟨Aw_, cw_, ev_⟩ := Kd.S_slice HOw_.out
   subst ev_
   refine hK.out _ _ ⟨(blk_cell (blk_below (g := g3) (o := .cells #[.int .i64 a0_0, .slice A0_1 l0_1.length c0_1] 42 (0, 0)) BK3.out hB.out) 0).trans rfl, (blk_cell (blk_below (g := g3) (o := .cells #[.int .i64 a0_0, .slice A0_1 l0_1.length c0_1] 42 (0, 0)) BK3.out hB.out) 1).trans rfl, (blk_cell (blk_below (g := g5) (o := .cells #[.int .i64 a2_0, .slice A2_1 l2_1.length c2_1] 43 (0, 0)) BK5.out hB.out) 0).trans rfl, (blk_cell (blk_below (g := g5) (o := .cells #[.int .i64 a2_0, .slice A2_1 l2_1.length c2_1] 43 (0, 0)) BK5.out hB.out) 1).trans rfl⟩ (fun hHeld => ?_)
   clear hK K_
   refine norm_ (a' := ?_) ?_ ?_
   rotate_left
   ·show Act.put _ (some 84) _ = _
    simp only [Act.put, List.setIfInBounds_toArray, List.set_cons_zero, List.set_cons_succ, i64_w, i32_w]
    rfl
   exact norm_ (by simp only [putAll, Act.put, List.setIfInBounds_toArray, List.set_cons_zero, List.set_cons_succ]) (hCont (.agg #[.int .i64 a0_0, .slice At_ m.length ct_], .agg #[.int .i64 a2_0, .slice Ay_ b.length cy_], gq_, Aw_, cw_) _ ⟨hB.out, HZ.out, HG.out, HOw_.out⟩)
 rintro ⟨t25_, t27_, g15, Ah, ch⟩ w30 ⟨hb, hz_, hg_, hw_⟩
 refine norm_ (a' := ?_) ?_ ?_
 rotate_left
 ·simp only [putAll, Act.put, List.setIfInBounds_toArray, List.set_cons_zero, List.set_cons_succ]
  rfl
 clear hHeld
 obtain ⟨lowh, hlow_⟩ : ∃ x_, x_ = w29.heap.size := ⟨_, rfl⟩
 obtain ⟨hiwh, hhi_⟩ : ∃ x_, x_ = w30.heap.size := ⟨_, rfl⟩
 have n0_ := Aside0.mk (below_step HB.out hb)
 have n1_ := Aside0.mk (blk_below (g := g3) (o := .cells #[.int .i64 a0_0, .slice A0_1 l0_1.length c0_1] 42 (0, 0)) BK3.out hb)
 have n2_ := Aside0.mk (blk_below (g := g5) (o := .cells #[.int .i64 a2_0, .slice A2_1 l2_1.length c2_1] 43 (0, 0)) BK5.out hb)
 have n3_ := Aside0.mk (blk_below (g := g8) (o := .cells #[.int .i64 r1, .int .i64 r2, (.slice Aw r3.length cw)] 31 (0, 0)) BK8.out hb)
 have n4_ := Aside0.mk (Kd.S_below HOw.out hb)
 have n5_ := Aside0.mk (blk_below (g := g9) (o := .cells #[.int .i64 a0_0, (.slice Ax m.length cx)] 29 (0, 0)) BK9.out hb)
 have n6_ := Aside0.mk (blk_below (g := g10) (o := .cells #[.int .i64 a2_0, (.slice Ay b.length cy)] 25 (0, 0)) BK10.out hb)
 have n7_ := Aside0.mk (Kd.S_below HOg.out hb)
 have n8_ := Aside0.mk (blk_below (g := g11) (o := .cells #[.int .i64 r1, .int .i64 r2, (.slice Ag r3.length cg)] 31 (0, 0)) BK11.out hb)
 have n9_ := Aside0.mk hz_
 have n10_ := Aside0.mk (Kd.S_mono hw_ (ok' := fun j_ => lowh ≤ j_ ∧ j_ < hiwh ∧ j_ ≠ g15) (fun j_ hj_ => ⟨by rw [hlow_]; exact hj_.1, by rw [hhi_]; exact hj_.2.1, hj_.2.2⟩))
 have n11_ := Aside0.mk (show hizy ≤ g15 ∧ g15 + 1 ≤ hiwh from ⟨Nat.le_trans HT.out hg_, by rw [hhi_]; exact blk_lt hz_⟩)
 have n12_ := Aside0.mk (show hizy ≤ lowh ∧ lowh ≤ hiwh from ⟨by rw [hlow_]; exact HT.out, by rw [hlow_, hhi_]; exact hb.size⟩)
 have n13_ := Aside0.mk (Nat.le_trans (below_size HB.out) hg_)
 have n14_ := Aside0.mk (show hiwh ≤ w30.heap.size from Nat.le_of_eq hhi_)
 clear HB BK3 BK5 BK8 HOw BK9 BK10 HOg BK11 HT
 have HB := n0_
 have BK3 := n1_
 have BK5 := n2_
 have BK8 := n3_
 have HOw := n4_
 have BK9 := n5_
 have BK10 := n6_
 have HOg := n7_
 have BK11 := n8_
 have BK15 := n9_
 have HOh := n10_
 have CH15 := n11_
 have CHh := n12_
 have GE15 := n13_
 have HT := n14_
 clear n0_ n1_ n2_ n3_ n4_ n5_ n6_ n7_ n8_ n9_ n10_ n11_ n12_ n13_ n14_
 clear hb hz_ hg_ hw_ hlow_ hhi_
 refine last_ (i := 7) (N := none) #[true, true, true, true, true, true, true, true] rfl rfl (by kernel_rfl) (by decide) (fun K_ hK => ?_)
 rw [if_pos (by rfl)]
 refine wp_store_row 31 (.tmp 15) (.tmp 84) rfl g15 #[.int .i64 r1, .int .i64 r2, (.slice Ah r3.length ch)] rfl rfl 31 #[.int .i64 0, .int .i64 0, .slice none 0 0] BK15.out (by kernel_rfl) rfl (by simp [Value.oneCell']) ?_
 have hgr := grown_setRow w30 g15 #[.int .i64 r1, .int .i64 r2, (.slice Ah r3.length ch)]
 have hbk := setRow_heap w30 g15 _ #[.int .i64 r1, .int .i64 r2, (.slice Ah r3.length ch)] 31 (0, 0) BK15.out
 generalize w30.setRow g15 #[.int .i64 r1, .int .i64 r2, (.slice Ah r3.length ch)] = w31 at hgr hbk ⊢
 have n0_ := Aside0.mk (below_grown1 HB.out hgr GE15.out)
 have n1_ := Aside0.mk (Nat.le_trans HT.out hgr.size)
 have n2_ := Aside0.mk (blk_grown1 (g' := g3) (ob := .cells #[.int .i64 a0_0, .slice A0_1 l0_1.length c0_1] 42 (0, 0)) BK3.out hgr (by have := CH3.out; have := CH5.out; have := CH8.out; have := CHw.out; have := CHx.out; have := CH9.out; have := CHy.out; have := CH10.out; have := CHg.out; have := CH11.out; have := CHzx.out; have := CHzy.out; have := CH15.out; omega))
 have n3_ := Aside0.mk (blk_grown1 (g' := g5) (ob := .cells #[.int .i64 a2_0, .slice A2_1 l2_1.length c2_1] 43 (0, 0)) BK5.out hgr (by have := CH5.out; have := CH8.out; have := CHw.out; have := CHx.out; have := CH9.out; have := CHy.out; have := CH10.out; have := CHg.out; have := CH11.out; have := CHzx.out; have := CHzy.out; have := CH15.out; omega))
 have n4_ := Aside0.mk (blk_grown1 (g' := g8) (ob := .cells #[.int .i64 r1, .int .i64 r2, (.slice Aw r3.length cw)] 31 (0, 0)) BK8.out hgr (by have := CH8.out; have := CHw.out; have := CHx.out; have := CH9.out; have := CHy.out; have := CH10.out; have := CHg.out; have := CH11.out; have := CHzx.out; have := CHzy.out; have := CH15.out; omega))
 have n5_ := Aside0.mk (Kd.S_grown HOw.out hgr (fun q_ hq_ he_ => by injection he_ with he_; subst he_; have := CHw.out; have := CHx.out; have := CH9.out; have := CHy.out; have := CH10.out; have := CHg.out; have := CH11.out; have := CHzx.out; have := CHzy.out; have := CH15.out; omega))
 have n6_ := Aside0.mk (blk_grown1 (g' := g9) (ob := .cells #[.int .i64 a0_0, (.slice Ax m.length cx)] 29 (0, 0)) BK9.out hgr (by have := CH9.out; have := CHy.out; have := CH10.out; have := CHg.out; have := CH11.out; have := CHzx.out; have := CHzy.out; have := CH15.out; omega))
 have n7_ := Aside0.mk (blk_grown1 (g' := g10) (ob := .cells #[.int .i64 a2_0, (.slice Ay b.length cy)] 25 (0, 0)) BK10.out hgr (by have := CH10.out; have := CHg.out; have := CH11.out; have := CHzx.out; have := CHzy.out; have := CH15.out; omega))
 have n8_ := Aside0.mk (Kd.S_grown HOg.out hgr (fun q_ hq_ he_ => by injection he_ with he_; subst he_; have := CHg.out; have := CH11.out; have := CHzx.out; have := CHzy.out; have := CH15.out; omega))
 have n9_ := Aside0.mk (blk_grown1 (g' := g11) (ob := .cells #[.int .i64 r1, .int .i64 r2, (.slice Ag r3.length cg)] 31 (0, 0)) BK11.out hgr (by have := CH11.out; have := CHzx.out; have := CHzy.out; have := CH15.out; omega))
 have n10_ := Aside0.mk (Kd.S_grown HOh.out hgr (fun q_ hq_ he_ => by injection he_ with he_; subst he_; exact hq_.2.2 rfl))
 have n11_ := Aside0.mk hbk
 clear HB HT BK3 BK5 BK8 HOw BK9 BK10 HOg BK11 HOh BK15
 have HB := n0_
 have HT := n1_
 have BK3 := n2_
 have BK5 := n3_
 have BK8 := n4_
 have HOw := n5_
 have BK9 := n6_
 have BK10 := n7_
 have HOg := n8_
 have BK11 := n9_
 have HOh := n10_
 have BK15 := n11_
 clear n0_ n1_ n2_ n3_ n4_ n5_ n6_ n7_ n8_ n9_ n10_ n11_
 clear hbk hgr
 refine hK.out _ _ ?_
 clear hK K_
 refine done_ (by kernel_rfl) ?_
 have hc3_0 : w31.cell? ⟨g3, 0, none⟩ = some (.int .i64 a0_0) := (blk_cell BK3.out 0).trans rfl
 have hc3_1 : w31.cell? ⟨g3, 1, none⟩ = some (.slice A0_1 l0_1.length c0_1) := (blk_cell BK3.out 1).trans rfl
 have hc5_0 : w31.cell? ⟨g5, 0, none⟩ = some (.int .i64 a2_0) := (blk_cell BK5.out 0).trans rfl
 have hc5_1 : w31.cell? ⟨g5, 1, none⟩ = some (.slice A2_1 l2_1.length c2_1) := (blk_cell BK5.out 1).trans rfl
 have hc8_0 : w31.cell? ⟨g8, 0, none⟩ = some (.int .i64 r1) := (blk_cell BK8.out 0).trans rfl
 have hc8_1 : w31.cell? ⟨g8, 1, none⟩ = some (.int .i64 r2) := (blk_cell BK8.out 1).trans rfl
 have hc8_2 : w31.cell? ⟨g8, 2, none⟩ = some ((.slice Aw r3.length cw)) := (blk_cell BK8.out 2).trans rfl
 have hc9_0 : w31.cell? ⟨g9, 0, none⟩ = some (.int .i64 a0_0) := (blk_cell BK9.out 0).trans rfl
 have hc9_1 : w31.cell? ⟨g9, 1, none⟩ = some ((.slice Ax m.length cx)) := (blk_cell BK9.out 1).trans rfl
 have hc10_0 : w31.cell? ⟨g10, 0, none⟩ = some (.int .i64 a2_0) := (blk_cell BK10.out 0).trans rfl
 have hc10_1 : w31.cell? ⟨g10, 1, none⟩ = some ((.slice Ay b.length cy)) := (blk_cell BK10.out 1).trans rfl
 have hc11_0 : w31.cell? ⟨g11, 0, none⟩ = some (.int .i64 r1) := (blk_cell BK11.out 0).trans rfl
 have hc11_1 : w31.cell? ⟨g11, 1, none⟩ = some (.int .i64 r2) := (blk_cell BK11.out 1).trans rfl
 have hc11_2 : w31.cell? ⟨g11, 2, none⟩ = some ((.slice Ag r3.length cg)) := (blk_cell BK11.out 2).trans rfl
 have hc15_0 : w31.cell? ⟨g15, 0, none⟩ = some (.int .i64 r1) := (blk_cell BK15.out 0).trans rfl
 have hc15_1 : w31.cell? ⟨g15, 1, none⟩ = some (.int .i64 r2) := (blk_cell BK15.out 1).trans rfl
 have hc15_2 : w31.cell? ⟨g15, 2, none⟩ = some ((.slice Ah r3.length ch)) := (blk_cell BK15.out 2).trans rfl
 go_wp2_with (first
   | ((with_reducible refine gate_callee (f := 30) rfl ?_); refine goesL_ (some 87) rfl rfl Try.func30 (by kernel_rfl) rfl #[.agg #[.int .i64 r1, .int .i64 r2, (.slice Ah r3.length ch)], .agg #[.int .i64 r1, .int .i64 r2, (.slice Aw r3.length cw)]] rfl (by (try simp only [List.map_toArray, List.map_cons, List.map_nil]); first | done | rfl) ?_; (with_reducible refine (laws_eqRingResult.calls K r1 r2 _ _ r3 r1 r2 _ _ r3 true _ ?ea87 ?eb87 ?ec87 ?ed87 HEQ.out).mono ?_); (case ea87 => exact (Kd.S_reads' HOh.out).2.2); (case eb87 => exact (Kd.S_reads' HOh.out).2.1); (case ec87 => exact (Kd.S_reads' HOw.out).2.2); (case ed87 => exact (Kd.S_reads' HOw.out).2.1); rintro e w32 ⟨rfl, hb⟩; refine ⟨_, rfl, ?_⟩; have n0_ := Aside0.mk (below_step HB.out hb); have n1_ := Aside0.mk (Nat.le_trans HT.out (Below.size hb)); have n2_ := Aside0.mk (blk_below (g := g3) (o := .cells #[.int .i64 a0_0, .slice A0_1 l0_1.length c0_1] 42 (0, 0)) BK3.out hb); have n3_ := Aside0.mk (blk_below (g := g5) (o := .cells #[.int .i64 a2_0, .slice A2_1 l2_1.length c2_1] 43 (0, 0)) BK5.out hb); have n4_ := Aside0.mk (blk_below (g := g8) (o := .cells #[.int .i64 r1, .int .i64 r2, (.slice Aw r3.length cw)] 31 (0, 0)) BK8.out hb); have n5_ := Aside0.mk (Kd.S_below HOw.out hb); have n6_ := Aside0.mk (blk_below (g := g9) (o := .cells #[.int .i64 a0_0, (.slice Ax m.length cx)] 29 (0, 0)) BK9.out hb); have n7_ := Aside0.mk (blk_below (g := g10) (o := .cells #[.int .i64 a2_0, (.slice Ay b.length cy)] 25 (0, 0)) BK10.out hb); have n8_ := Aside0.mk (Kd.S_below HOg.out hb); have n9_ := Aside0.mk (blk_below (g := g11) (o := .cells #[.int .i64 r1, .int .i64 r2, (.slice Ag r3.length cg)] 31 (0, 0)) BK11.out hb); have n10_ := Aside0.mk (blk_below (g := g15) (o := .cells #[.int .i64 r1, .int .i64 r2, (.slice Ah r3.length ch)] 31 (0, 0)) BK15.out hb); have n11_ := Aside0.mk (Kd.S_below HOh.out hb); clear HB HT BK3 BK5 BK8 HOw BK9 BK10 HOg BK11 BK15 HOh; have HB := n0_; have HT := n1_; have BK3 := n2_; have BK5 := n3_; have BK8 := n4_; have HOw := n5_; have BK9 := n6_; have BK10 := n7_; have HOg := n8_; have BK11 := n9_; have BK15 := n10_; have HOh := n11_; clear n0_ n1_ n2_ n3_ n4_ n5_ n6_ n7_ n8_ n9_ n10_ n11_; clear hb; clear hc3_0 hc3_1 hc5_0 hc5_1 hc8_0 hc8_1 hc8_2 hc9_0 hc9_1 hc10_0 hc10_1 hc11_0 hc11_1 hc11_2 hc15_0 hc15_1 hc15_2; have hc3_0 : w32.cell? ⟨g3, 0, none⟩ = some (.int .i64 a0_0) := (blk_cell BK3.out 0).trans rfl; have hc3_1 : w32.cell? ⟨g3, 1, none⟩ = some (.slice A0_1 l0_1.length c0_1) := (blk_cell BK3.out 1).trans rfl; have hc5_0 : w32.cell? ⟨g5, 0, none⟩ = some (.int .i64 a2_0) := (blk_cell BK5.out 0).trans rfl; have hc5_1 : w32.cell? ⟨g5, 1, none⟩ = some (.slice A2_1 l2_1.length c2_1) := (blk_cell BK5.out 1).trans rfl; have hc8_0 : w32.cell? ⟨g8, 0, none⟩ = some (.int .i64 r1) := (blk_cell BK8.out 0).trans rfl; have hc8_1 : w32.cell? ⟨g8, 1, none⟩ = some (.int .i64 r2) := (blk_cell BK8.out 1).trans rfl; have hc8_2 : w32.cell? ⟨g8, 2, none⟩ = some ((.slice Aw r3.length cw)) := (blk_cell BK8.out 2).trans rfl; have hc9_0 : w32.cell? ⟨g9, 0, none⟩ = some (.int .i64 a0_0) := (blk_cell BK9.out 0).trans rfl; have hc9_1 : w32.cell? ⟨g9, 1, none⟩ = some ((.slice Ax m.length cx)) := (blk_cell BK9.out 1).trans rfl; have hc10_0 : w32.cell? ⟨g10, 0, none⟩ = some (.int .i64 a2_0) := (blk_cell BK10.out 0).trans rfl; have hc10_1 : w32.cell? ⟨g10, 1, none⟩ = some ((.slice Ay b.length cy)) := (blk_cell BK10.out 1).trans rfl; have hc11_0 : w32.cell? ⟨g11, 0, none⟩ = some (.int .i64 r1) := (blk_cell BK11.out 0).trans rfl; have hc11_1 : w32.cell? ⟨g11, 1, none⟩ = some (.int .i64 r2) := (blk_cell BK11.out 1).trans rfl; have hc11_2 : w32.cell? ⟨g11, 2, none⟩ = some ((.slice Ag r3.length cg)) := (blk_cell BK11.out 2).trans rfl; have hc15_0 : w32.cell? ⟨g15, 0, none⟩ = some (.int .i64 r1) := (blk_cell BK15.out 0).trans rfl; have hc15_1 : w32.cell? ⟨g15, 1, none⟩ = some (.int .i64 r2) := (blk_cell BK15.out 1).trans rfl; have hc15_2 : w32.cell? ⟨g15, 2, none⟩ = some ((.slice Ah r3.length ch)) := (blk_cell BK15.out 2).trans rfl)
   | ((with_reducible refine gate_callee (f := 36) rfl ?_); refine goesL_ (some 91) rfl rfl Try.func36 (by kernel_rfl) rfl #[.agg #[.int .i64 r1, .int .i64 r2, (.slice Ag r3.length cg)], .int .i64 1] rfl (by (try simp only [List.map_toArray, List.map_cons, List.map_nil]); first | done | rfl) ?_; (with_reducible refine (held_TurnRing K r1 r2 _ _ r3.length q3 1 q1 _ HQ3.out ?ha91 ?hb91 HHL.out).mono ?_); (case ha91 => exact (Kd.S_reads' HOg.out).2.2); (case hb91 => exact (Kd.S_reads' HOg.out).2.1); rintro e w33 ⟨rfl, hb⟩; refine ⟨_, rfl, ?_⟩; have n0_ := Aside0.mk (below_step HB.out hb); have n1_ := Aside0.mk (Nat.le_trans HT.out (Below.size hb)); have n2_ := Aside0.mk (blk_below (g := g3) (o := .cells #[.int .i64 a0_0, .slice A0_1 l0_1.length c0_1] 42 (0, 0)) BK3.out hb); have n3_ := Aside0.mk (blk_below (g := g5) (o := .cells #[.int .i64 a2_0, .slice A2_1 l2_1.length c2_1] 43 (0, 0)) BK5.out hb); have n4_ := Aside0.mk (blk_below (g := g8) (o := .cells #[.int .i64 r1, .int .i64 r2, (.slice Aw r3.length cw)] 31 (0, 0)) BK8.out hb); have n5_ := Aside0.mk (Kd.S_below HOw.out hb); have n6_ := Aside0.mk (blk_below (g := g9) (o := .cells #[.int .i64 a0_0, (.slice Ax m.length cx)] 29 (0, 0)) BK9.out hb); have n7_ := Aside0.mk (blk_below (g := g10) (o := .cells #[.int .i64 a2_0, (.slice Ay b.length cy)] 25 (0, 0)) BK10.out hb); have n8_ := Aside0.mk (Kd.S_below HOg.out hb); have n9_ := Aside0.mk (blk_below (g := g11) (o := .cells #[.int .i64 r1, .int .i64 r2, (.slice Ag r3.length cg)] 31 (0, 0)) BK11.out hb); have n10_ := Aside0.mk (blk_below (g := g15) (o := .cells #[.int .i64 r1, .int .i64 r2, (.slice Ah r3.length ch)] 31 (0, 0)) BK15.out hb); have n11_ := Aside0.mk (Kd.S_below HOh.out hb); clear HB HT BK3 BK5 BK8 HOw BK9 BK10 HOg BK11 BK15 HOh; have HB := n0_; have HT := n1_; have BK3 := n2_; have BK5 := n3_; have BK8 := n4_; have HOw := n5_; have BK9 := n6_; have BK10 := n7_; have HOg := n8_; have BK11 := n9_; have BK15 := n10_; have HOh := n11_; clear n0_ n1_ n2_ n3_ n4_ n5_ n6_ n7_ n8_ n9_ n10_ n11_; clear hb; clear hc3_0 hc3_1 hc5_0 hc5_1 hc8_0 hc8_1 hc8_2 hc9_0 hc9_1 hc10_0 hc10_1 hc11_0 hc11_1 hc11_2 hc15_0 hc15_1 hc15_2; have hc3_0 : w33.cell? ⟨g3, 0, none⟩ = some (.int .i64 a0_0) := (blk_cell BK3.out 0).trans rfl; have hc3_1 : w33.cell? ⟨g3, 1, none⟩ = some (.slice A0_1 l0_1.length c0_1) := (blk_cell BK3.out 1).trans rfl; have hc5_0 : w33.cell? ⟨g5, 0, none⟩ = some (.int .i64 a2_0) := (blk_cell BK5.out 0).trans rfl; have hc5_1 : w33.cell? ⟨g5, 1, none⟩ = some (.slice A2_1 l2_1.length c2_1) := (blk_cell BK5.out 1).trans rfl; have hc8_0 : w33.cell? ⟨g8, 0, none⟩ = some (.int .i64 r1) := (blk_cell BK8.out 0).trans rfl; have hc8_1 : w33.cell? ⟨g8, 1, none⟩ = some (.int .i64 r2) := (blk_cell BK8.out 1).trans rfl; have hc8_2 : w33.cell? ⟨g8, 2, none⟩ = some ((.slice Aw r3.length cw)) := (blk_cell BK8.out 2).trans rfl; have hc9_0 : w33.cell? ⟨g9, 0, none⟩ = some (.int .i64 a0_0) := (blk_cell BK9.out 0).trans rfl; have hc9_1 : w33.cell? ⟨g9, 1, none⟩ = some ((.slice Ax m.length cx)) := (blk_cell BK9.out 1).trans rfl; have hc10_0 : w33.cell? ⟨g10, 0, none⟩ = some (.int .i64 a2_0) := (blk_cell BK10.out 0).trans rfl; have hc10_1 : w33.cell? ⟨g10, 1, none⟩ = some ((.slice Ay b.length cy)) := (blk_cell BK10.out 1).trans rfl; have hc11_0 : w33.cell? ⟨g11, 0, none⟩ = some (.int .i64 r1) := (blk_cell BK11.out 0).trans rfl; have hc11_1 : w33.cell? ⟨g11, 1, none⟩ = some (.int .i64 r2) := (blk_cell BK11.out 1).trans rfl; have hc11_2 : w33.cell? ⟨g11, 2, none⟩ = some ((.slice Ag r3.length cg)) := (blk_cell BK11.out 2).trans rfl; have hc15_0 : w33.cell? ⟨g15, 0, none⟩ = some (.int .i64 r1) := (blk_cell BK15.out 0).trans rfl; have hc15_1 : w33.cell? ⟨g15, 1, none⟩ = some (.int .i64 r2) := (blk_cell BK15.out 1).trans rfl; have hc15_2 : w33.cell? ⟨g15, 2, none⟩ = some ((.slice Ah r3.length ch)) := (blk_cell BK15.out 2).trans rfl))
 go_ret
 exact ⟨rfl, HB.out⟩
set_option maxHeartbeats 8000000 in
set_option maxRecDepth 100000 in
theorem laws_FnExactTurnRing.small (K : Nat) (a0_0 : Int) (A0_1 : Option Addr) (c0_1 : Nat) (l0_1 : List S43) (a1 : Int) (a2_0 : Int) (A2_1 : Option Addr) (c2_1 : Nat) (l2_1 : List Int) (v0 : Int) (w : World) (hr0_1 : Kd.C k43 w A0_1 l0_1.length l0_1) (hc0_1 : l0_1.length ≤ c0_1) (hr2_1 : Kd.C (Kd.int .u8) w A2_1 l2_1.length l2_1) (hc2_1 : l2_1.length ≤ c2_1) (hsz : laws_szRing.f K a0_0 l0_1 1048576 = some v0) (hv0 : v0 < 0) :
  Calls Try.prog 4 #[.agg #[.int .i64 a0_0, .slice A0_1 l0_1.length c0_1], .int .i64 a1, .agg #[.int .i64 a2_0, .slice A2_1 l2_1.length c2_1]] w fun e w' => e = .returned (.bool true) ∧ Below w.heap.size w w' := by
 have HR := Aside0.mk hr0_1
 have HC := Aside0.mk hc0_1
 have HRK := Aside0.mk hr2_1
 have HCK := Aside0.mk hc2_1
 have HSZ := Aside0.mk hsz
 have hv1 := decide_eq_true hv0
 clear hsz hv0
 clear hr0_1 hc0_1 hr2_1 hc2_1
 have HB := Aside0.mk (Below.refl w.heap.size w)
 have HT := Aside0.mk (Nat.le_refl w.heap.size)
 go_enter Try.func4, Try.ntmps4
 go_wp2_with (first
   | ((with_reducible refine gate_dst (N := 3) rfl ?_); refine box_event ?hg (N := 3) ?hd (cs := #[.int .i64 a0_0, .slice A0_1 l0_1.length c0_1]) (t := 42) ?hr ?_; (case hd => rfl); (case hg => rfl); (case hr => first | (go_simp; done) | (go_simp; rfl)); intro g3 hg w1 hbox hb; have n0_ := Aside0.mk (below_step HB.out hb); have n1_ := Aside0.mk hbox; have n2_ := Aside0.mk (show w.heap.size ≤ g3 by rw [hg]; exact HT.out); have n3_ := Aside0.mk (show w.heap.size ≤ g3 by rw [hg]; exact below_size HB.out); have n4_ := Aside0.mk (show g3 + 1 ≤ w1.heap.size from blk_lt hbox); clear HB HT; have HB := n0_; have BK3 := n1_; have CH3 := n2_; have GE3 := n3_; have HT := n4_; clear n0_ n1_ n2_ n3_ n4_; clear hb hbox hg; have hc3_0 : w1.cell? ⟨g3, 0, none⟩ = some (.int .i64 a0_0) := (blk_cell BK3.out 0).trans rfl; have hc3_1 : w1.cell? ⟨g3, 1, none⟩ = some (.slice A0_1 l0_1.length c0_1) := (blk_cell BK3.out 1).trans rfl)
   | ((with_reducible refine gate_dst (N := 5) rfl ?_); refine box_event ?hg (N := 5) ?hd (cs := #[.int .i64 a2_0, .slice A2_1 l2_1.length c2_1]) (t := 43) ?hr ?_; (case hd => rfl); (case hg => rfl); (case hr => first | (go_simp; done) | (go_simp; rfl)); intro g5 hg w2 hbox hb; have n0_ := Aside0.mk (below_step HB.out hb); have n1_ := Aside0.mk (blk_below (g := g3) (o := .cells #[.int .i64 a0_0, .slice A0_1 l0_1.length c0_1] 42 (0, 0)) BK3.out hb); have n2_ := Aside0.mk hbox; have n3_ := Aside0.mk (show g3 + 1 ≤ g5 by rw [hg]; exact HT.out); have n4_ := Aside0.mk (show w.heap.size ≤ g5 by rw [hg]; exact below_size HB.out); have n5_ := Aside0.mk (show g5 + 1 ≤ w2.heap.size from blk_lt hbox); clear HB BK3 HT; have HB := n0_; have BK3 := n1_; have BK5 := n2_; have CH5 := n3_; have GE5 := n4_; have HT := n5_; clear n0_ n1_ n2_ n3_ n4_ n5_; clear hb hbox hg; clear hc3_0 hc3_1; have hc3_0 : w2.cell? ⟨g3, 0, none⟩ = some (.int .i64 a0_0) := (blk_cell BK3.out 0).trans rfl; have hc3_1 : w2.cell? ⟨g3, 1, none⟩ = some (.slice A0_1 l0_1.length c0_1) := (blk_cell BK3.out 1).trans rfl; have hc5_0 : w2.cell? ⟨g5, 0, none⟩ = some (.int .i64 a2_0) := (blk_cell BK5.out 0).trans rfl; have hc5_1 : w2.cell? ⟨g5, 1, none⟩ = some (.slice A2_1 l2_1.length c2_1) := (blk_cell BK5.out 1).trans rfl)
   | ((with_reducible refine gate_callee (f := 26) rfl ?_); refine goesL_ (some 18) rfl rfl Try.func26 (by kernel_rfl) rfl #[.agg #[.int .i64 a0_0, .slice A0_1 l0_1.length c0_1], .int .i64 1048576] rfl (by (try simp only [List.map_toArray, List.map_cons, List.map_nil]); first | done | rfl) ?_; (with_reducible refine (laws_szRing.calls K a0_0 A0_1 c0_1 l0_1 1048576 v0 _ (Kd.C_below HR.out HB.out) HC.out HSZ.out).mono ?_); rintro e w3 ⟨rfl, hb⟩; refine ⟨_, rfl, ?_⟩; have n0_ := Aside0.mk (below_step HB.out hb); have n1_ := Aside0.mk (Nat.le_trans HT.out (Below.size hb)); have n2_ := Aside0.mk (blk_below (g := g3) (o := .cells #[.int .i64 a0_0, .slice A0_1 l0_1.length c0_1] 42 (0, 0)) BK3.out hb); have n3_ := Aside0.mk (blk_below (g := g5) (o := .cells #[.int .i64 a2_0, .slice A2_1 l2_1.length c2_1] 43 (0, 0)) BK5.out hb); clear HB HT BK3 BK5; have HB := n0_; have HT := n1_; have BK3 := n2_; have BK5 := n3_; clear n0_ n1_ n2_ n3_; clear hb; clear hc3_0 hc3_1 hc5_0 hc5_1; have hc3_0 : w3.cell? ⟨g3, 0, none⟩ = some (.int .i64 a0_0) := (blk_cell BK3.out 0).trans rfl; have hc3_1 : w3.cell? ⟨g3, 1, none⟩ = some (.slice A0_1 l0_1.length c0_1) := (blk_cell BK3.out 1).trans rfl; have hc5_0 : w3.cell? ⟨g5, 0, none⟩ = some (.int .i64 a2_0) := (blk_cell BK5.out 0).trans rfl; have hc5_1 : w3.cell? ⟨g5, 1, none⟩ = some (.slice A2_1 l2_1.length c2_1) := (blk_cell BK5.out 1).trans rfl))
 go_ret
 exact ⟨rfl, HB.out⟩
set_option maxHeartbeats 8000000 in
set_option maxRecDepth 100000 in
theorem laws_FnExactTurnRing.small2 (K : Nat) (a0_0 : Int) (A0_1 : Option Addr) (c0_1 : Nat) (l0_1 : List S43) (a1 : Int) (a2_0 : Int) (A2_1 : Option Addr) (c2_1 : Nat) (l2_1 : List Int) (v0 v1 : Int) (w : World) (hr0_1 : Kd.C k43 w A0_1 l0_1.length l0_1) (hc0_1 : l0_1.length ≤ c0_1) (hr2_1 : Kd.C (Kd.int .u8) w A2_1 l2_1.length l2_1) (hc2_1 : l2_1.length ≤ c2_1) (hsz : laws_szRing.f K a0_0 l0_1 1048576 = some v0) (hv0 : ¬ v0 < 0) (hsk : laws_szKey.f a2_0 l2_1 v0 = some v1) (hv9 : v1 < 0) :
  Calls Try.prog 4 #[.agg #[.int .i64 a0_0, .slice A0_1 l0_1.length c0_1], .int .i64 a1, .agg #[.int .i64 a2_0, .slice A2_1 l2_1.length c2_1]] w fun e w' => e = .returned (.bool true) ∧ Below w.heap.size w w' := by
 have HR := Aside0.mk hr0_1
 have HC := Aside0.mk hc0_1
 have HRK := Aside0.mk hr2_1
 have HCK := Aside0.mk hc2_1
 have HSZ := Aside0.mk hsz
 have HSK := Aside0.mk hsk
 have hv1 := decide_eq_false hv0
 have hv2 := decide_eq_true hv9
 clear hsz hv0 hsk hv9
 clear hr0_1 hc0_1 hr2_1 hc2_1
 have HB := Aside0.mk (Below.refl w.heap.size w)
 have HT := Aside0.mk (Nat.le_refl w.heap.size)
 go_enter Try.func4, Try.ntmps4
 go_wp2_with (first
   | ((with_reducible refine gate_dst (N := 3) rfl ?_); refine box_event ?hg (N := 3) ?hd (cs := #[.int .i64 a0_0, .slice A0_1 l0_1.length c0_1]) (t := 42) ?hr ?_; (case hd => rfl); (case hg => rfl); (case hr => first | (go_simp; done) | (go_simp; rfl)); intro g3 hg w1 hbox hb; have n0_ := Aside0.mk (below_step HB.out hb); have n1_ := Aside0.mk hbox; have n2_ := Aside0.mk (show w.heap.size ≤ g3 by rw [hg]; exact HT.out); have n3_ := Aside0.mk (show w.heap.size ≤ g3 by rw [hg]; exact below_size HB.out); have n4_ := Aside0.mk (show g3 + 1 ≤ w1.heap.size from blk_lt hbox); clear HB HT; have HB := n0_; have BK3 := n1_; have CH3 := n2_; have GE3 := n3_; have HT := n4_; clear n0_ n1_ n2_ n3_ n4_; clear hb hbox hg; have hc3_0 : w1.cell? ⟨g3, 0, none⟩ = some (.int .i64 a0_0) := (blk_cell BK3.out 0).trans rfl; have hc3_1 : w1.cell? ⟨g3, 1, none⟩ = some (.slice A0_1 l0_1.length c0_1) := (blk_cell BK3.out 1).trans rfl)
   | ((with_reducible refine gate_dst (N := 5) rfl ?_); refine box_event ?hg (N := 5) ?hd (cs := #[.int .i64 a2_0, .slice A2_1 l2_1.length c2_1]) (t := 43) ?hr ?_; (case hd => rfl); (case hg => rfl); (case hr => first | (go_simp; done) | (go_simp; rfl)); intro g5 hg w2 hbox hb; have n0_ := Aside0.mk (below_step HB.out hb); have n1_ := Aside0.mk (blk_below (g := g3) (o := .cells #[.int .i64 a0_0, .slice A0_1 l0_1.length c0_1] 42 (0, 0)) BK3.out hb); have n2_ := Aside0.mk hbox; have n3_ := Aside0.mk (show g3 + 1 ≤ g5 by rw [hg]; exact HT.out); have n4_ := Aside0.mk (show w.heap.size ≤ g5 by rw [hg]; exact below_size HB.out); have n5_ := Aside0.mk (show g5 + 1 ≤ w2.heap.size from blk_lt hbox); clear HB BK3 HT; have HB := n0_; have BK3 := n1_; have BK5 := n2_; have CH5 := n3_; have GE5 := n4_; have HT := n5_; clear n0_ n1_ n2_ n3_ n4_ n5_; clear hb hbox hg; clear hc3_0 hc3_1; have hc3_0 : w2.cell? ⟨g3, 0, none⟩ = some (.int .i64 a0_0) := (blk_cell BK3.out 0).trans rfl; have hc3_1 : w2.cell? ⟨g3, 1, none⟩ = some (.slice A0_1 l0_1.length c0_1) := (blk_cell BK3.out 1).trans rfl; have hc5_0 : w2.cell? ⟨g5, 0, none⟩ = some (.int .i64 a2_0) := (blk_cell BK5.out 0).trans rfl; have hc5_1 : w2.cell? ⟨g5, 1, none⟩ = some (.slice A2_1 l2_1.length c2_1) := (blk_cell BK5.out 1).trans rfl)
   | ((with_reducible refine gate_callee (f := 26) rfl ?_); refine goesL_ (some 18) rfl rfl Try.func26 (by kernel_rfl) rfl #[.agg #[.int .i64 a0_0, .slice A0_1 l0_1.length c0_1], .int .i64 1048576] rfl (by (try simp only [List.map_toArray, List.map_cons, List.map_nil]); first | done | rfl) ?_; (with_reducible refine (laws_szRing.calls K a0_0 A0_1 c0_1 l0_1 1048576 v0 _ (Kd.C_below HR.out HB.out) HC.out HSZ.out).mono ?_); rintro e w3 ⟨rfl, hb⟩; refine ⟨_, rfl, ?_⟩; have n0_ := Aside0.mk (below_step HB.out hb); have n1_ := Aside0.mk (Nat.le_trans HT.out (Below.size hb)); have n2_ := Aside0.mk (blk_below (g := g3) (o := .cells #[.int .i64 a0_0, .slice A0_1 l0_1.length c0_1] 42 (0, 0)) BK3.out hb); have n3_ := Aside0.mk (blk_below (g := g5) (o := .cells #[.int .i64 a2_0, .slice A2_1 l2_1.length c2_1] 43 (0, 0)) BK5.out hb); clear HB HT BK3 BK5; have HB := n0_; have HT := n1_; have BK3 := n2_; have BK5 := n3_; clear n0_ n1_ n2_ n3_; clear hb; clear hc3_0 hc3_1 hc5_0 hc5_1; have hc3_0 : w3.cell? ⟨g3, 0, none⟩ = some (.int .i64 a0_0) := (blk_cell BK3.out 0).trans rfl; have hc3_1 : w3.cell? ⟨g3, 1, none⟩ = some (.slice A0_1 l0_1.length c0_1) := (blk_cell BK3.out 1).trans rfl; have hc5_0 : w3.cell? ⟨g5, 0, none⟩ = some (.int .i64 a2_0) := (blk_cell BK5.out 0).trans rfl; have hc5_1 : w3.cell? ⟨g5, 1, none⟩ = some (.slice A2_1 l2_1.length c2_1) := (blk_cell BK5.out 1).trans rfl)
   | ((with_reducible refine gate_callee (f := 27) rfl ?_); refine goesL_ (some 23) rfl rfl Try.func27 (by kernel_rfl) rfl #[.agg #[.int .i64 a2_0, .slice A2_1 l2_1.length c2_1], .int .i64 v0] rfl (by (try simp only [List.map_toArray, List.map_cons, List.map_nil]); first | done | rfl) ?_; (with_reducible refine (laws_szKey.calls a2_0 A2_1 c2_1 l2_1 v0 v1 _ (Kd.C_below HRK.out HB.out) HCK.out HSK.out).mono ?_); rintro e w4 ⟨rfl, hb⟩; refine ⟨_, rfl, ?_⟩; have n0_ := Aside0.mk (below_step HB.out hb); have n1_ := Aside0.mk (Nat.le_trans HT.out (Below.size hb)); have n2_ := Aside0.mk (blk_below (g := g3) (o := .cells #[.int .i64 a0_0, .slice A0_1 l0_1.length c0_1] 42 (0, 0)) BK3.out hb); have n3_ := Aside0.mk (blk_below (g := g5) (o := .cells #[.int .i64 a2_0, .slice A2_1 l2_1.length c2_1] 43 (0, 0)) BK5.out hb); clear HB HT BK3 BK5; have HB := n0_; have HT := n1_; have BK3 := n2_; have BK5 := n3_; clear n0_ n1_ n2_ n3_; clear hb; clear hc3_0 hc3_1 hc5_0 hc5_1; have hc3_0 : w4.cell? ⟨g3, 0, none⟩ = some (.int .i64 a0_0) := (blk_cell BK3.out 0).trans rfl; have hc3_1 : w4.cell? ⟨g3, 1, none⟩ = some (.slice A0_1 l0_1.length c0_1) := (blk_cell BK3.out 1).trans rfl; have hc5_0 : w4.cell? ⟨g5, 0, none⟩ = some (.int .i64 a2_0) := (blk_cell BK5.out 0).trans rfl; have hc5_1 : w4.cell? ⟨g5, 1, none⟩ = some (.slice A2_1 l2_1.length c2_1) := (blk_cell BK5.out 1).trans rfl))
 go_ret
 exact ⟨rfl, HB.out⟩
def laws_FnExactTurnRing.f (k : Nat) (a0_0 : Int) (l0_1 : List S43) (a1 : Int) (a2_0 : Int) (l2_1 : List Int) (r : Bool) : Prop := r = true ∧ ∃ v0, laws_szRing.f k a0_0 l0_1 1048576 = some v0 ∧ (v0 < 0 ∨ ¬ v0 < 0 ∧ ∃ v1, laws_szKey.f a2_0 l2_1 v0 = some v1 ∧ (v1 < 0 ∨ ¬ v1 < 0 ∧ ∃ (m m1 : List S25) (b b1 : List Int) (r1 r2 k1 k2 q1 : Int) (r3 q3 : List S25), laws_toRing.f k a0_0 l0_1 = some (a0_0, m) ∧ laws_toKey.f k a2_0 l2_1 = some (a2_0, b) ∧ spec_TurnRing.f k a0_0 m a1 a2_0 b = some (r1, r2, r3) ∧ impl_TurnRing.f k a0_0 m a1 a2_0 b = some (r1, r2, r3) ∧ laws_eqRingResult.f k r1 r2 r3 r1 r2 r3 = some true ∧ laws_eqRing.f k a0_0 m a0_0 m = some true ∧ laws_eqKey.f k a2_0 b a2_0 b = some true ∧ m.length < 140737488355328 ∧ r3.length < 140737488355328 ∧ r3.length = q3.length ∧ markKs k m 1 = some (k1, m1) ∧ laws_markKey.f k a2_0 b k1 = some (k2, b1) ∧ b.length = b1.length ∧ markKs k r3 1 = some (q1, q3) ∧ laws_heldRingResult.f k r1 r2 q3 1 = some q1 ∧ ¬ k2 < 0 ∧ ¬ q1 < 0))
theorem laws_FnExactTurnRing.calls (k : Nat) (a0_0 : Int) (A0_1 : Option Addr) (c0_1 : Nat) (l0_1 : List S43) (a1 : Int) (a2_0 : Int) (A2_1 : Option Addr) (c2_1 : Nat) (l2_1 : List Int) (r : Bool) (w : World) (hr0_1 : Kd.C k43 w A0_1 l0_1.length l0_1) (hc0_1 : l0_1.length ≤ c0_1) (hr2_1 : Kd.C (Kd.int .u8) w A2_1 l2_1.length l2_1) (hc2_1 : l2_1.length ≤ c2_1) (h : laws_FnExactTurnRing.f k a0_0 l0_1 a1 a2_0 l2_1 r) :
  Calls Try.prog 4 #[.agg #[.int .i64 a0_0, .slice A0_1 l0_1.length c0_1], .int .i64 a1, .agg #[.int .i64 a2_0, .slice A2_1 l2_1.length c2_1]] w fun e w' => e = .returned (.bool r) ∧ Below w.heap.size w w' := by
 obtain ⟨rfl, v0, hsz, hv0 | ⟨hv0, v1, hsk, hv9 | ⟨hv9, m, m1, b, b1, r1, r2, k1, k2, q1, r3, q3, h0, h1, h2, h3, h4, h5, h6, h7, h8, h9, h10, h11, h12, h13, h14, h15, h16⟩⟩⟩ := h
 ·exact laws_FnExactTurnRing.small k a0_0 A0_1 c0_1 l0_1 a1 a2_0 A2_1 c2_1 l2_1 v0 w hr0_1 hc0_1 hr2_1 hc2_1 hsz hv0
 ·exact laws_FnExactTurnRing.small2 k a0_0 A0_1 c0_1 l0_1 a1 a2_0 A2_1 c2_1 l2_1 v0 v1 w hr0_1 hc0_1 hr2_1 hc2_1 hsz hv0 hsk hv9
 ·exact laws_FnExactTurnRing.walk k a0_0 A0_1 c0_1 l0_1 a1 a2_0 A2_1 c2_1 l2_1 m m1 b b1 v0 v1 r1 r2 k1 k2 q1 r3 q3 w hr0_1 hc0_1 hr2_1 hc2_1 hsz hsk h0 h1 h2 h3 h4 h5 h6 h7 h8 h9 h10 h11 h12 h13 h14 hv0 hv9 h15 h16
end Go.Proofs.Ytmnhddedcbkpoaa.All
