-- Laid by wip/shake.py of this repo out of this claim's texts. Not trusted: Lean checks it.
import Derived.Test.YtaibogaheidkcaaAllx0s
import Derived.Test.YtaibogaheidkcaaAllx535s
import Derived.Test.YtaibogaheidkcaaAllx539s
section
namespace Go.Proofs.Ytaibogaheidkcaa.All
open Go.RowKit Go.Proofs.YtaibogaheidkcaaW.PrintWords Go.Proofs.YtaibogaheidkcaaW.PrintLast Go.Proofs.YtaibogaheidkcaaW.PrintMore
attribute [local go_sem] max2_int min2_int max_two min_two max_three min_three max_four min_four
set_option linter.unusedVariables false
set_option linter.unusedSimpArgs false
set_option maxHeartbeats 4000000 in
set_option maxRecDepth 100000 in
theorem slices_Grow.calls (n : Nat) (hn0 : n ≤ 5000) (w : World) :
  Calls Try.prog 129 #[.slice none 0 0, .int .i64 n] w fun e w' => ∃ v0_ : Value, e = .returned v0_ ∧ Kd.R (Kd.int .u8) 5 w' w.heap.size (fun _ => True) v0_ ([] : List Int) ∧ Below w.heap.size w w' := by
 have HB := Aside0.mk (Below.refl w.heap.size w)
 by_cases h0 : n = 0
 ·subst h0
  rw [show ((0 : Nat) : Int) = 0 from rfl]
  go_enter Try.func129, Try.ntmps129
  go_wp2
  go_ret
  exact ⟨_, rfl, Kd.R_nil _ _ _ _ _, HB.out⟩
 ·have hn := Aside0.mk hn0
  have t1 : decide ((n : Int) < 0) = false := decide_eq_false (by omega)
  have t2 : decide ((n : Int) > 0) = true := decide_eq_true (by omega)
  have t3 : decide (0 < (n : Int)) = true := decide_eq_true (by omega)
  have t4 : decide (0 < n) = true := decide_eq_true (by omega)
  clear h0
  go_enter Try.func129, Try.ntmps129
  go_wp2_with (first
    | ((with_reducible refine gate_builtin (b := .append) (xs := #[.tmp 20, .tmp 21]) rfl ?_); at_builtin; refine Kd.R_append_zeros (Kd.int .u8) (w0 := w) w.heap.size rfl (.tmp 20) (.tmp 21) 22 3 5 (.int .u8 0) 1 rfl Try.underlying22 Try.underlying3 info5 rfl (by decide) (by omega) (.slice none 0 0) ([] : List Int) 0 (n : Int) (fun _ => True) rfl rfl rfl ?aF ?aO (by omega) ?aB ?aS ?aL ?_; (case aB => exact (by repeat (first | (with_reducible first | exact HB.out | apply below_alloc | apply pw_below_drewN | apply below_drew1) | exact HB.out))); (case aF => exact (fun _ _ => trivial)); (case aO => exact Kd.R_nil _ _ _ _ _); (case aS => exact (below_size (by repeat (first | (with_reducible first | exact HB.out | apply below_alloc | apply pw_below_drewN | apply below_drew1) | exact HB.out)))); (case aL => simp; have := hn.out; omega); intro v1 w5 ho hb hg hat; obtain ⟨As, cs_, es_⟩ := Kd.R_slice ho; rw [show (([] : List Int) ++ List.replicate ((n : Int)).toNat (0 : Int)).length = n by simp] at es_; subst es_; have n0_ := Aside0.mk hb; have n1_ := Aside0.mk (Kd.R_take (m := 0) ho (Nat.zero_le _)); clear HB; have HB := n0_; have HO2 := n1_; clear n0_ n1_; clear ho hb hg hat))
  go_ret
  exact ⟨_, rfl, by have h9 := HO2.out; rw [List.take_zero] at h9; exact h9, HB.out⟩
end Go.Proofs.Ytaibogaheidkcaa.All
end
section
namespace Go.Proofs.Ytaibogaheidkcaa.All
open Go.RowKit Go.Proofs.YtaibogaheidkcaaW.PrintWords Go.Proofs.YtaibogaheidkcaaW.PrintLast Go.Proofs.YtaibogaheidkcaaW.PrintMore
attribute [local go_sem] max2_int min2_int max_two min_two max_three min_three max_four min_four
set_option linter.unusedVariables false
set_option linter.unusedSimpArgs false
def xsN (xss : List (List Int)) (i : Nat) : List Int := xss.getD i []
def flatN (xss : List (List Int)) (i : Nat) : List Int := (xss.take i).flatten
theorem flatN_succ (xss : List (List Int)) (i : Nat) (h : i < xss.length) : flatN xss (i + 1) = flatN xss i ++ xsN xss i := by
 unfold flatN xsN
 rw [List.take_succ_eq_append_getElem h, List.flatten_append, List.getD_eq_getElem?_getD, List.getElem?_eq_getElem h]
 simp
theorem flatN_all (xss : List (List Int)) : flatN xss xss.length = xss.flatten := by unfold flatN; rw [List.take_length]
theorem flat_le (xss : List (List Int)) (i : Nat) (h : i < xss.length) : (flatN xss i).length + (xsN xss i).length ≤ xss.flatten.length := by
 have e := flatN_succ xss i h
 have e2 : (flatN xss (i + 1)).length ≤ xss.flatten.length := by
  have e3 : xss.flatten = flatN xss (i + 1) ++ (xss.drop (i + 1)).flatten := by unfold flatN; rw [← List.flatten_append, List.take_append_drop]
  rw [e3, List.length_append]
  omega
 rw [e, List.length_append] at e2
 exact e2
set_option maxHeartbeats 4000000 in
set_option maxRecDepth 100000 in
theorem slices_Concat.calls (go cap : Nat) (xss : List (List Int)) (hfl0 : xss.flatten.length ≤ 5000) (hn0 : xss.length ≤ 100) (w : World)
  (hg0 : ∀ i, i < xss.length → ∃ (A : Option Addr) (c : Nat), w.cell? ⟨go, i, none⟩ = some (.slice A (xsN xss i).length c) ∧ (xsN xss i).length ≤ c ∧ Kd.C (Kd.int .u8) w A (xsN xss i).length (xsN xss i)) :
  Calls Try.prog 102 #[.slice (some ⟨go, 0, none⟩) xss.length cap] w fun e w' => ∃ v0_ : Value, e = .returned v0_ ∧ Kd.R (Kd.int .u8) 5 w' w.heap.size (fun _ => True) v0_ xss.flatten ∧ Below w.heap.size w w' := by
 have hfl := Aside0.mk hfl0
 have hg := Aside0.mk hg0
 obtain ⟨n, hn⟩ : ∃ n, xss.length = n := ⟨_, rfl⟩
 rw [hn] at hn0 ⊢
 have hN := Aside0.mk hn
 clear hfl0 hg0 hn
 have HB := Aside0.mk (Below.refl w.heap.size w)
 go_enter Try.func102, Try.ntmps102
 go_wp2
 go_loopw [3, 11] (fun v3 v11 W => ∃ i S : Nat, i ≤ n ∧ Aside0 (S = (flatN xss i).length) ∧ S ≤ 5000 ∧ v11 = .int .i64 i ∧ v3 = .int .i64 S ∧ Aside0 (Below w.heap.size w W)) (fun _ v11 _ => 200 - (intOf v11).toNat)
 case atStart => exact ⟨0, 0, by omega, ⟨rfl⟩, by omega, rfl, rfl, HB⟩
 case round =>
  clear HB
  obtain ⟨i, S, hi, hS, hS5, rfl, rfl, HB⟩ := hrel
  by_cases hl : i < n
  ·have hlt := Aside0.mk (show i < xss.length by rw [hN.out]; exact hl)
   obtain ⟨A, c, hc0, hle, hC0⟩ := hg.out i hlt.out
   have hc : wr.cell? ⟨go, i, none⟩ = some (.slice A (xsN xss i).length c) := (HB.out.cell (World.block_lt_of_cell? w _ hc0)).trans hc0
   clear hc0 hC0
   have hsum := flat_le xss i hlt.out
   have hf5 := hfl.out
   have hS' := hS.out
   obtain ⟨m, hm⟩ : ∃ m, (xsN xss i).length = m := ⟨_, rfl⟩
   rw [hm] at hc hle hsum
   have hM := Aside0.mk hm
   have hb5 : S + m ≤ 5000 := by omega
   clear hm hS' hsum hf5
   have t1 : decide ((S : Int) + (m : Int) < 0) = false := decide_eq_false (by omega)
   have t2 : decide (i < n) = true := decide_eq_true hl
   have p1 := eq_true (show (0 : Int) ≤ (i : Int) by omega)
   have p2 := eq_true (show (i : Int) < (n : Int) by omega)
   go_wp2
   go_roundw
   case rel => exact ⟨i + 1, S + m, by omega, ⟨by rw [flatN_succ xss i hlt.out, List.length_append, hM.out, ← hS.out]⟩, by omega, by go_num, by go_num, HB⟩
   case measure => simp [intOf]; omega
  ·obtain rfl : i = n := by omega
   have t2 : decide (i < i) = false := decide_eq_false (by omega)
   clear hl
   go_wp2_with (go_at_call 129; refine (slices_Grow.calls S hS5 _).mono ?_; rintro e wk ⟨v6_, rfl, ho6, hb⟩; have n0_ := Aside0.mk (Kd.R_lower ho6 (below_size (by repeat (first | (with_reducible first | exact HB.out | apply below_alloc | apply pw_below_drewN | apply below_drew1) | exact HB.out)))); have n1_ := Aside0.mk (below_step (by repeat (first | (with_reducible first | exact HB.out | apply below_alloc | apply pw_below_drewN | apply below_drew1) | exact HB.out)) hb); clear HB; have HO6 := n0_; have HB := n1_; clear n0_ n1_ ho6 hb)
   go_loopw [6, 27] (fun v6 v27 W => ∃ (j : Nat), j ≤ i ∧ v27 = .int .i64 j ∧ Aside0 (Kd.R (Kd.int .u8) 5 W w.heap.size (fun _ => True) v6 (flatN xss j)) ∧ Aside0 (Below w.heap.size w W)) (fun _ v27 _ => 200 - (intOf v27).toNat)
   case atStart => exact ⟨0, by omega, rfl, HO6, HB⟩
   case round =>
    clear HO6 HB
    obtain ⟨j, hj, rfl, HO6, HB⟩ := hrel
    by_cases hl : j < i
    ·have hlt := Aside0.mk (show j < xss.length by rw [hN.out]; exact hl)
     obtain ⟨A, c, hc0, hle, hC0⟩ := hg.out j hlt.out
     have hc : wr.cell? ⟨go, j, none⟩ = some (.slice A (xsN xss j).length c) := (HB.out.cell (World.block_lt_of_cell? w _ hc0)).trans hc0
     have hC := Aside0.mk hC0
     clear hc0 hC0
     have t2 : decide (j < i) = true := decide_eq_true hl
     have p1 := eq_true (show (0 : Int) ≤ (j : Int) by omega)
     have p2 := eq_true (show (j : Int) < (i : Int) by omega)
     go_wp2_with (first
       | ((with_reducible refine gate_builtin (b := .append) (xs := #[.tmp 31, .tmp 32]) rfl ?_); at_builtin; refine Kd.R_append_rows (Kd.int .u8) (w0 := w) w.heap.size rfl (.tmp 31) (.tmp 32) 22 5 (.int .u8 0) 1 rfl Try.underlying22 info5 rfl (by decide) (by omega) _ (flatN xss j) (xsN xss j) _ _ _ (fun _ => True) (fun _ => False) rfl rfl ?aO ?aR (fun _ _ h => h) (fun _ h => h.elim) ?aF ?aB ?aS ?aL ?_; (case aR => exact Kd.C_below hC.out (by repeat (first | (with_reducible first | exact HB.out | apply below_alloc | apply pw_below_drewN | apply below_drew1) | exact HB.out))); (case aB => exact (by repeat (first | (with_reducible first | exact HB.out | apply below_alloc | apply pw_below_drewN | apply below_drew1) | exact HB.out))); (case aF => exact (fun _ _ => trivial)); (case aO => exact HO6.out); (case aS => exact (below_size (by repeat (first | (with_reducible first | exact HB.out | apply below_alloc | apply pw_below_drewN | apply below_drew1) | exact HB.out)))); (case aL => have := hfl.out; have := flat_le xss j hlt.out; omega); intro v2 w5 ho hb hg hat; have n0_ := Aside0.mk hb; have n1_ := Aside0.mk ho; clear HB HO6; have HB := n0_; have HO6 := n1_; clear n0_ n1_; clear ho hb hg hat))
     go_roundw
     case rel => exact ⟨j + 1, by omega, by go_num, ⟨by rw [flatN_succ xss j hlt.out]; exact HO6.out⟩, HB⟩
     case measure => simp [intOf]; omega
    ·obtain rfl : j = i := by omega
     have t2 : decide (j < j) = false := decide_eq_false (by omega)
     go_wp2
     go_ret
     refine ⟨_, rfl, ?_, HB.out⟩
     have h9 := HO6.out
     rw [← hN.out, flatN_all] at h9
     exact h9
end Go.Proofs.Ytaibogaheidkcaa.All
end
section
namespace Go.Proofs.Ytaibogaheidkcaa.All
open Go.RowKit Go.Proofs.YtaibogaheidkcaaW.PrintWords Go.Proofs.YtaibogaheidkcaaW.PrintLast Go.Proofs.YtaibogaheidkcaaW.PrintMore
attribute [local go_sem] max2_int min2_int max_two min_two max_three min_three max_four min_four
set_option linter.unusedVariables false
set_option linter.unusedSimpArgs false
def impl_whole.f (l0 : List Int) : Option (List Int) := (bytes_Clone.f l0).bind fun t868 => (if 0 ≤ ((16 - ((l0.length : Int) % 16)) % 16) then (if t868.length + ((16 - ((l0.length : Int) % 16)) % 16 : Int).toNat < 140737488355328 then (some (t868 ++ List.replicate ((16 - ((l0.length : Int) % 16)) % 16 : Int).toNat 0)) else (none)) else (none))
set_option maxHeartbeats 8000000 in
set_option maxRecDepth 100000 in
theorem impl_whole.calls (A0 : Option Addr) (c0 : Nat) (l0 : List Int) (r : List Int) (w : World) (hr0 : Kd.C (Kd.int .u8) w A0 l0.length l0) (hc0 : l0.length ≤ c0) (h : impl_whole.f l0 = some r) :
  Calls Try.prog 130 #[.slice A0 l0.length c0] w fun e w' => ∃ v0_ : Value, e = .returned (v0_) ∧ Kd.R (Kd.int .u8) 5 w' w.heap.size (fun _ => True) v0_ r ∧ Below w.heap.size w w' := by
 have HR0 := Aside0.mk hr0
 have HC0 := Aside0.mk hc0
 clear hr0 hc0
 have HB := Aside0.mk (Below.refl w.heap.size w)
 have H : ((bytes_Clone.f l0).bind fun t868 => (if 0 ≤ ((16 - ((l0.length : Int) % 16)) % 16) then (if t868.length + ((16 - ((l0.length : Int) % 16)) % 16 : Int).toNat < 140737488355328 then (some (t868 ++ List.replicate ((16 - ((l0.length : Int) % 16)) % 16 : Int).toNat 0)) else (none)) else (none))) = some r := h
 clear h
 replace H := Option.bind_eq_some_iff.mp H
 obtain ⟨t868, A20, H⟩ := H
 replace H : (if 0 ≤ ((16 - ((l0.length : Int) % 16)) % 16) then (if t868.length + ((16 - ((l0.length : Int) % 16)) % 16 : Int).toNat < 140737488355328 then (some (t868 ++ List.replicate ((16 - ((l0.length : Int) % 16)) % 16 : Int).toNat 0)) else (none)) else (none)) = some r := H
 have A2 := Aside0.mk A20
 clear A20
 obtain ⟨ji3, hji3⟩ : ∃ j_ : Int, ((16 - ((l0.length : Int) % 16)) % 16) = j_ := ⟨_, rfl⟩
 replace H : (if 0 ≤ (ji3) then (if t868.length + (ji3 : Int).toNat < 140737488355328 then (some (t868 ++ List.replicate (ji3 : Int).toNat 0)) else (none)) else (none)) = some r := by first | (rw [hji3] at H; exact H) | (simp only [hji3] at H ⊢; exact H)
 (try rw [hji3] at A2)
 by_cases c4 : 0 ≤ (ji3)
 ·rw [if_pos c4] at H
  have c4b0 := eq_true c4
  have c4b1 : decide (0 ≤ (ji3)) = true := decide_eq_true c4
  clear c4
  by_cases c5 : t868.length + (ji3 : Int).toNat < 140737488355328
  ·rw [if_pos c5] at H
   have LMc5 := Aside0.mk c5
   clear c5
   obtain ⟨y871, hy871⟩ : ∃ y_ : List Int, y_ = (t868 ++ List.replicate (ji3 : Int).toNat 0) := ⟨_, rfl⟩
   replace H : (some y871) = some r := by first | (rw [hy871]; with_reducible exact H) | (have H2_ := (Option.bind_some _ _).symm.trans H; rw [hy871]; with_reducible exact H2_) | (have H2_ := (Option.bind_some _ _).symm.trans H; with_reducible exact H2_) | with_reducible exact H | (rw [hy871]; exact H) | exact H
   have Ny871 := Aside0.mk hy871
   clear hy871
   obtain rfl := Option.some.inj H
   go_enter Try.func130, Try.ntmps130
   go_wp2_with (first | ((with_reducible refine gate_callee (f := 70) rfl ?_); refine goesL_ (some 4) rfl rfl Try.func70 (by kernel_rfl) rfl #[.slice A0 l0.length c0] rfl (by (try simp only [List.map_toArray, List.map_cons, List.map_nil]); first | done | rfl | (simp only [List.length_drop, List.length_take]; rfl)) ?_; (with_reducible refine (bytes_Clone.calls _ _ l0 t868 _ ?side1 ?side2 A2.out).mono ?_); (case side1 => repeat (first | exact HR0.out | (with_reducible refine Kd.C_alloc ?_ _) | (with_reducible refine Kd.C_drewN ?_ _) | (with_reducible refine Kd.C_drew ?_))); (case side2 => exact HC0.out); rintro e w6 ⟨v869, rfl, ho0, hb⟩; refine ⟨_, rfl, ?_⟩; have n0_ := Aside0.mk (Kd.R_lower ho0 (below_size (by repeat (first | (with_reducible first | exact HB.out | apply below_alloc | apply pw_below_drewN | apply below_drew1) | exact HB.out)))); have n1_ := Aside0.mk (below_step (by repeat (first | (with_reducible first | exact HB.out | apply below_alloc | apply pw_below_drewN | apply below_drew1) | exact HB.out)) hb); clear HB; have HO870 := n0_; have HB := n1_; clear n0_ n1_; (try clear hb); (try clear hb2); (try clear hk); (try clear hi); (try clear ho0)) | (at_builtin; (try simp only [hji3]); refine Kd.R_append_zeros (Kd.int .u8) (w0 := w) w.heap.size rfl (.tmp 4) (.tmp 9) 22 3 5 (.int .u8 0) 1 rfl Try.underlying22 Try.underlying3 info5 rfl (by decide) (by omega) v869 t868 0 (ji3 : Int) (fun _ => True) rfl rfl rfl ?aF ?aO (of_decide_eq_true (by first | (with_reducible assumption) | assumption)) ?aB ?aS ?aL ?_; (case aB => exact (by repeat (first | (with_reducible first | exact HB.out | apply below_alloc | apply pw_below_drewN | apply below_drew1) | exact HB.out))); (case aF => exact (fun _ _ => trivial)); (case aO => exact (by (with_reducible repeat (first | apply Kd.R_alloc | apply Kd.R_drewN | apply Kd.R_drew)); exact HO870.out)); (case aS => exact (below_size (by repeat (first | (with_reducible first | exact HB.out | apply below_alloc | apply pw_below_drewN | apply below_drew1) | exact HB.out)))); (case aL => have := LMc5.out; omega); intro v872 w7 ho hb hg hat; rw [← Ny871.out] at ho; have n0_ := Aside0.mk (hb); have n1_ := Aside0.mk (ho); clear HB; clear HO870; have HB := n0_; have HO873 := n1_; clear n0_ n1_; clear ho hb hg hat))
   go_ret
   exact ⟨_, by first | rfl | (simp [errW_none, errW_some] <;> rfl) | (simp only [← hji3]; first | rfl | (simp [errW_none, errW_some] <;> rfl)) | (simp [*, errW_none, errW_some] <;> rfl), by (with_reducible repeat (first | apply Kd.R_alloc | apply Kd.R_drewN | apply Kd.R_drew)); exact HO873.out, by repeat (first | (with_reducible first | exact HB.out | apply below_alloc | apply pw_below_drewN | apply below_drew1) | exact HB.out)⟩
  ·rw [if_neg c5] at H
   exact absurd H (by simp)
 ·rw [if_neg c4] at H
  exact absurd H (by simp)
end Go.Proofs.Ytaibogaheidkcaa.All
end
section
set_option linter.unusedVariables false
set_option linter.unusedSimpArgs false
namespace Go.Proofs.Ytaibogaheidkcaa.All
open Go.RowKit Go.Proofs.Ytaibogaheidkcaa.All Go.Proofs.YtaibogaheidkcaaW.PrintWords Go.Proofs.YtaibogaheidkcaaW.PrintLast Go.Proofs.YtaibogaheidkcaaW.PrintMore
def packB : Nat → Nat → List (BitVec 8)
 | _, 0 => []
 | v, m + 1 => packB (v / 256) m ++ [BitVec.ofNat 8 v]
theorem packB_length : ∀ m v, (packB v m).length = m
 | 0, v => rfl
 | m + 1, v => by rw [packB, List.length_append, packB_length m, List.length_singleton]
theorem wordB_loop : ∀ (d K : Nat) (v : Nat) (ys : List Int), d ≤ ys.length → ys.length < 1099511627776 → v < 9223372036854775808 → d < K → impl_word.l0 K (v : Int) ys ((d : Int) - 1) = some (bL (packB v d) ++ ys.drop d)
 | 0, K, v, ys, h0, h1, hv9_, hk => by
  obtain ⟨K, rfl⟩ : ∃ m, K = m + 1 := ⟨K - 1, by omega⟩
  simp only [impl_word.l0]
  rw [if_neg (by omega)]
  rfl
 | d + 1, K, v, ys, h0, h1, hv9_, hk => by
  obtain ⟨K, rfl⟩ : ∃ m, K = m + 1 := ⟨K - 1, by omega⟩
  have hw : wrap64 (((d + 1 : Nat) : Int) - 1 - 1) = (d : Int) - 1 := by unfold wrap64; omega
  have hv2 : wrap64 (Int.tdiv (v : Int) 256) = ((v / 256 : Nat) : Int) := by
   rw [Int.tdiv_eq_ediv_of_nonneg (by omega)]; unfold wrap64; omega
  have hb : Int.tmod (v : Int) 256 % 256 = bI (BitVec.ofNat 8 v) := by
   rw [Int.tmod_eq_emod_of_nonneg (by omega), ← byte_of]
   omega
  have hd : (((d + 1 : Nat) : Int) - 1).toNat = d := by omega
  simp only [impl_word.l0]
  rw [if_pos (by omega), if_pos (by omega), if_pos (by omega), hw, hv2, hb, hd, wordB_loop d K (v / 256) _ (by rw [List.length_set]; omega) (by rw [List.length_set]; omega) (by omega) (by omega)]
  rw [List.drop_set, if_neg (by omega), Nat.sub_self, List.drop_eq_getElem_cons (show d < ys.length by omega), List.set_cons_zero, packB, bL_append, List.append_assoc]
  rfl
theorem wordB (K v m : Nat) (hm : m ≤ 8) (hv9_ : v < 9223372036854775808) (hk : 8 < K) : impl_word.f K (v : Int) (m : Int) = some (bL (packB v m)) := by
 have hw : wrap64 ((m : Int) - 1) = (m : Int) - 1 := by unfold wrap64; omega
 unfold impl_word.f
 rw [if_pos (by omega), if_pos (by omega), hw, Int.toNat_natCast, wordB_loop m K v _ (by simp) (by simp; omega) hv9_ (by omega)]
 rw [List.drop_of_length_le (by simp), List.append_nil]
end Go.Proofs.Ytaibogaheidkcaa.All
end
