-- Laid by wip/shake.py of this repo out of this claim's texts. Not trusted: Lean checks it.
import Derived.Test.YtmnhddedcbkpoaaAllx0s
import Derived.Test.YtmnhddedcbkpoaaAllx10s
import Derived.Lib.SliceRun
section
namespace Go.Proofs.Ytmnhddedcbkpoaa.All
open Go.RowKit Go.Proofs.YtmnhddedcbkpoaaW.PrintWords Go.Proofs.YtmnhddedcbkpoaaW.PrintLast Go.Proofs.YtmnhddedcbkpoaaW.PrintMore
attribute [local go_sem] max2_int min2_int max_two min_two max_three min_three max_four min_four
set_option linter.unusedVariables false
set_option linter.unusedSimpArgs false
def sameK (x y : S25) : Bool := decide (x.f0 = y.f0) && ((strOfNums x.f1).toList == (strOfNums y.f1).toList)
def sameKs : List S25 → List S25 → Bool
 | [], [] => true
 | x :: xs, y :: ys => if sameK x y = true then sameKs xs ys else false
 | _, _ => false
theorem sameKs_len : ∀ (a b : List S25), a.length ≠ b.length → sameKs a b = false
 | [], [] => fun h => absurd rfl h
 | [], _ :: _ => fun _ => rfl
 | _ :: _, [] => fun _ => rfl
 | x :: xs, y :: ys => fun h => by
  simp only [sameKs]
  by_cases hq : sameK x y = true
  ·rw [if_pos hq]; exact sameKs_len xs ys (fun e => h (by simp [e]))
  ·rw [if_neg hq]
theorem sameKs_drop (a b : List S25) (k : Nat) (ha : k < a.length) (hb : k < b.length) : sameKs (a.drop k) (b.drop k) = if sameK (rd_T25 a (k : Int)) (rd_T25 b (k : Int)) = true then sameKs (a.drop (k + 1)) (b.drop (k + 1)) else false := by
 rw [List.drop_eq_getElem_cons ha, List.drop_eq_getElem_cons hb, rd_get a k ha, rd_get b k hb]
 simp only [sameKs]
theorem sameK_eq (x y : S25) : impl_sameKey.f x.f0 x.f1 y.f0 y.f1 = some (sameK x y) := by
 unfold impl_sameKey.f bytes_Equal.f sameK
 by_cases h : x.f0 = y.f0
 ·rw [if_pos h, decide_eq_true h]; simp
 ·rw [if_neg h, decide_eq_false h]; simp
def impl_SameRings.f (a0_0 : Int) (l0_1 : List S25) (a1_0 : Int) (l1_1 : List S25) : Option Bool := if l0_1.length < 140737488355328 then (if a0_0 = a1_0 then some (sameKs l0_1 l1_1) else some false) else none
set_option maxHeartbeats 4000000 in
set_option maxRecDepth 100000 in
theorem equalKeys (A : Option Addr) (c : Nat) (l : List S25) (B : Option Addr) (d : Nat) (m : List S25) (w : World) (hr0 : Kd.C k25 w A l.length l) (hr1 : Kd.C k25 w B m.length m) (hm0 : l.length < 140737488355328) :
  Calls Try.prog 69 #[.slice A l.length c, .slice B m.length d, .func (.func 70) #[] #[]] w fun e w' => e = .returned (.bool (sameKs l m)) ∧ Below w.heap.size w w' := by
 have HR := Aside0.mk hr0
 have HQ := Aside0.mk hr1
 have HM := Aside0.mk hm0
 have HB := Aside0.mk (Below.refl w.heap.size w)
 clear hr0 hr1 hm0
 by_cases hlen : l.length = m.length
 ·have HN := Aside0.mk hlen
  have hd : (l.length == m.length) = true := beq_iff_eq.mpr hlen
  have hd1 : ((l.length : Int) == (m.length : Int)) = true := beq_iff_eq.mpr (by omega)
  have hd2 : ((l.length : Int) != (m.length : Int)) = false := bne_eq_false_iff_eq.mpr (by omega)
  clear hlen
  go_enter Try.func69, Try.ntmps69
  go_wp2
  go_loopw [7, 17] (fun _ v17 W => ∃ kk : Nat, kk ≤ l.length ∧ v17 = .int .i64 kk ∧ Aside0 (sameKs l m = sameKs (l.drop kk) (m.drop kk)) ∧ Aside0 (Below w.heap.size w W)) (fun _ v17 _ => l.length - (intOf v17).toNat)
  case atStart => exact ⟨0, Nat.zero_le _, rfl, ⟨rfl⟩, HB⟩
  case round =>
   clear HB hd hd1 hd2
   obtain ⟨kk, hk, rfl, HP, HB⟩ := hrel
   by_cases hl : kk < l.length
   ·have hd : decide (kk < l.length) = true := decide_eq_true hl
    have hl2 : kk < m.length := by have := HN.out; omega
    have HD := Aside0.mk (sameKs_drop l m kk hl hl2)
    have hlt := Aside0.mk hl
    obtain ⟨ad, A1, c1, rfl, hx0, hx1, hxl, hxi⟩ := at_T25 HR.out (kk : Int) (by omega) (by omega)
    obtain ⟨ad2, A2, c2, rfl, hy0, hy1, hyl, hyi⟩ := at_T25 HQ.out (kk : Int) (by omega) (by omega)
    generalize rd_T25 l (kk : Int) = x at HD hx0 hx1 hxl hxi
    generalize rd_T25 m (kk : Int) = y at HD hy0 hy1 hyl hyi
    rw [Int.toNat_natCast] at hx0 hx1 hy0 hy1
    have HX := Aside0.mk (And.intro hx0 hx1)
    have HY := Aside0.mk (And.intro hy0 hy1)
    have HRX := Aside0.mk hxi
    have HRY := Aside0.mk hyi
    have HLX := Aside0.mk hxl
    have HLY := Aside0.mk hyl
    clear hx0 hx1 hxl hxi hy0 hy1 hyl hyi
    have hx0 := (HB.out.cell (World.block_lt_of_cell? w _ HX.out.1)).trans HX.out.1
    have hx1 := (HB.out.cell (World.block_lt_of_cell? w _ HX.out.2)).trans HX.out.2
    have hy0 : ∀ o, (wr.alloc o).cell? _ = _ := fun o => Go.Lib.cell?_alloc_some _ ((HB.out.cell (World.block_lt_of_cell? w _ HY.out.1)).trans HY.out.1)
    have hy1 : ∀ o, (wr.alloc o).cell? _ = _ := fun o => Go.Lib.cell?_alloc_some _ ((HB.out.cell (World.block_lt_of_cell? w _ HY.out.2)).trans HY.out.2)
    by_cases hs : sameK x y = true
    ·have HS : Aside0 (impl_sameKey.f x.f0 x.f1 y.f0 y.f1 = some true) := ⟨by rw [sameK_eq, hs]⟩
     have HP2 : Aside0 (sameKs l m = sameKs (l.drop (kk + 1)) (m.drop (kk + 1))) := ⟨by rw [HP.out, HD.out, if_pos hs]⟩
     clear HP HD hs
     go_wp2_with (first
       | (go_at_call 70; (with_reducible refine (impl_sameKey.calls x.f0 A1 c1 x.f1 y.f0 A2 c2 y.f1 true _ ?hC1 HLX.out ?hC2 HLY.out HS.out).mono ?_); (case hC1 => exact Kd.C_below HRX.out (by repeat (first | (with_reducible first | exact HB.out | apply below_alloc | apply pw_below_drewN | apply below_drew1) | exact HB.out))); (case hC2 => exact Kd.C_below HRY.out (by repeat (first | (with_reducible first | exact HB.out | apply below_alloc | apply pw_below_drewN | apply below_drew1) | exact HB.out))); rintro e wk ⟨rfl, hb⟩; have n0_ := Aside0.mk (below_step (by repeat (first | (with_reducible first | exact HB.out | apply below_alloc | apply pw_below_drewN | apply below_drew1) | exact HB.out)) hb); clear HB hb; have HB := n0_; clear n0_))
     go_roundw
     case rel => exact ⟨kk + 1, hlt.out, congrArg _ (wrap_next kk _ hlt.out HM.out), HP2, ⟨by repeat (first | (with_reducible first | exact HB.out | apply below_alloc | apply pw_below_drewN | apply below_drew1) | exact HB.out)⟩⟩
     case measure => exact next_less kk _ hlt.out HM.out
    ·have HS : Aside0 (impl_sameKey.f x.f0 x.f1 y.f0 y.f1 = some false) := ⟨by rw [sameK_eq, Bool.eq_false_iff.mpr hs]⟩
     have HP2 : Aside0 (sameKs l m = false) := ⟨by rw [HP.out, HD.out, if_neg hs]⟩
     clear HP HD hs
     go_wp2_with (first
       | (go_at_call 70; (with_reducible refine (impl_sameKey.calls x.f0 A1 c1 x.f1 y.f0 A2 c2 y.f1 false _ ?hC1 HLX.out ?hC2 HLY.out HS.out).mono ?_); (case hC1 => exact Kd.C_below HRX.out (by repeat (first | (with_reducible first | exact HB.out | apply below_alloc | apply pw_below_drewN | apply below_drew1) | exact HB.out))); (case hC2 => exact Kd.C_below HRY.out (by repeat (first | (with_reducible first | exact HB.out | apply below_alloc | apply pw_below_drewN | apply below_drew1) | exact HB.out))); rintro e wk ⟨rfl, hb⟩; have n0_ := Aside0.mk (below_step (by repeat (first | (with_reducible first | exact HB.out | apply below_alloc | apply pw_below_drewN | apply below_drew1) | exact HB.out)) hb); clear HB hb; have HB := n0_; clear n0_))
     go_ret
     exact ⟨by rw [HP2.out]; rfl, (by repeat (first | (with_reducible first | exact HB.out | apply below_alloc | apply pw_below_drewN | apply below_drew1) | exact HB.out))⟩
   ·obtain rfl : kk = l.length := by omega
    have HP2 : Aside0 (sameKs l m = true) := ⟨by rw [HP.out, List.drop_length, HN.out, List.drop_length]; rfl⟩
    clear HP
    go_wp2
    go_ret
    exact ⟨by rw [HP2.out]; rfl, HB.out⟩
 ·have HN : Aside0 (sameKs l m = false) := ⟨sameKs_len l m hlen⟩
  have hd : (l.length == m.length) = false := beq_eq_false_iff_ne.mpr hlen
  have hd1 : ((l.length : Int) == (m.length : Int)) = false := beq_eq_false_iff_ne.mpr (by omega)
  have hd2 : ((l.length : Int) != (m.length : Int)) = true := bne_iff_ne.mpr (by omega)
  clear hlen
  go_enter Try.func69, Try.ntmps69
  go_wp2
  go_ret
  exact ⟨by rw [HN.out]; rfl, HB.out⟩
set_option maxHeartbeats 4000000 in
set_option maxRecDepth 100000 in
theorem impl_SameRings.calls (a0_0 : Int) (A0_1 : Option Addr) (c0_1 : Nat) (l0_1 : List S25) (a1_0 : Int) (A1_1 : Option Addr) (c1_1 : Nat) (l1_1 : List S25) (r : Bool) (w : World) (hr0_1 : Kd.C k25 w A0_1 l0_1.length l0_1) (hc0_1 : l0_1.length ≤ c0_1) (hr1_1 : Kd.C k25 w A1_1 l1_1.length l1_1) (hc1_1 : l1_1.length ≤ c1_1) (h : impl_SameRings.f a0_0 l0_1 a1_0 l1_1 = some r) :
  Calls Try.prog 23 #[.agg #[.int .i64 a0_0, .slice A0_1 l0_1.length c0_1], .agg #[.int .i64 a1_0, .slice A1_1 l1_1.length c1_1]] w fun e w' => e = .returned (.bool r) ∧ Below w.heap.size w w' := by
 unfold impl_SameRings.f at h
 by_cases hm : l0_1.length < 140737488355328
 ·rw [if_pos hm] at h
  have HM := Aside0.mk hm
  clear hm
  have HR := Aside0.mk hr0_1
  have HQ := Aside0.mk hr1_1
  clear hr0_1 hc0_1 hr1_1 hc1_1
  by_cases hp : a0_0 = a1_0
  ·rw [if_pos hp, Option.some.injEq] at h
   subst h
   have hd : (a0_0 == a1_0) = true := beq_iff_eq.mpr hp
   clear hp
   go_enter Try.func23, Try.ntmps23
   go_wp2_with (go_at_call 69; refine (equalKeys A0_1 c0_1 l0_1 A1_1 c1_1 l1_1 _ (Kd.C_alloc (Kd.C_alloc HR.out _) _) (Kd.C_alloc (Kd.C_alloc HQ.out _) _) HM.out).mono ?_; rintro e wk ⟨rfl, hb⟩)
   go_ret
   exact ⟨rfl, (((Below.refl _ _).alloc (Nat.le_refl _) _).alloc (by simp) _).trans (hb.mono (by simp; omega))⟩
  ·rw [if_neg hp, Option.some.injEq] at h
   subst h
   have hd : (a0_0 == a1_0) = false := beq_eq_false_iff_ne.mpr hp
   clear hp
   go_enter Try.func23, Try.ntmps23
   go_wp2
   go_ret
   exact ⟨rfl, (((Below.refl _ _).alloc (Nat.le_refl _) _).alloc (by simp) _)⟩
 ·rw [if_neg hm] at h
  cases h
end Go.Proofs.Ytmnhddedcbkpoaa.All
end
section
namespace Go.Proofs.Ytmnhddedcbkpoaa.All
open Go.RowKit Go.Proofs.YtmnhddedcbkpoaaW.PrintWords Go.Proofs.YtmnhddedcbkpoaaW.PrintLast Go.Proofs.YtmnhddedcbkpoaaW.PrintMore
attribute [local go_sem] max2_int min2_int max_two min_two max_three min_three max_four min_four
set_option linter.unusedVariables false
set_option linter.unusedSimpArgs false
set_option maxHeartbeats 4000000 in
set_option maxRecDepth 100000 in
theorem l4Same_at (p q : Addr) (x y : S25) (A B : Option Addr) (c d : Nat) (w : World) (hx0 : w.cell? p = some (.int .i64 x.f0)) (hx1 : w.cell? ⟨p.block, p.off + 1, none⟩ = some (.slice A x.f1.length c)) (hy0 : w.cell? q = some (.int .i64 y.f0)) (hy1 : w.cell? ⟨q.block, q.off + 1, none⟩ = some (.slice B y.f1.length d)) (hrx : Kd.C (Kd.int .u8) w A x.f1.length x.f1) (hry : Kd.C (Kd.int .u8) w B y.f1.length y.f1) :
  Calls Try.prog 71 #[.pointer (some p), .pointer (some q)] w fun e w' => e = .returned (.bool (sameK x y)) ∧ ∃ m, w' = w.drewN m := by
 have HX := Aside0.mk (fun m => Kd.C_string (P := Try.prog) (c := c) Try.underlying22 Try.underlying5 Try.underlying9 (Kd.C_drewN hrx m))
 have HY := Aside0.mk (fun m => Kd.C_string (P := Try.prog) (c := d) Try.underlying22 Try.underlying5 Try.underlying9 (Kd.C_drewN hry m))
 clear hrx hry
 by_cases h : x.f0 = y.f0
 ·have HV : Aside0 (sameK x y = ((strOfNums x.f1).toList == (strOfNums y.f1).toList)) := ⟨by unfold sameK; rw [decide_eq_true h, Bool.true_and]⟩
  have hd : (x.f0 == y.f0) = true := beq_iff_eq.mpr h
  have hcx := HX.out
  have hcy := HY.out
  have hcx1 : Sem.run _ _ w.drew = .ok _ w.drew := HX.out 1
  have hcy1 : Sem.run _ _ w.drew = .ok _ w.drew := HY.out 1
  have hcx0 : Sem.run _ _ w = .ok _ w := HX.out 0
  have hcy0 : Sem.run _ _ w = .ok _ w := HY.out 0
  clear h HX HY
  go_enter Try.func71, Try.ntmps71
  go_wp2_with fail
  go_quiet (fail)
  go_wp2
  go_ret
  exact ⟨by rw [HV.out]; rfl, _, rfl⟩
 ·have HV : Aside0 (sameK x y = false) := ⟨by unfold sameK; rw [decide_eq_false h, Bool.false_and]⟩
  have hd : (x.f0 == y.f0) = false := beq_eq_false_iff_ne.mpr h
  clear h HX HY
  go_enter Try.func71, Try.ntmps71
  go_wp2_with fail
  go_quiet (fail)
  go_wp2
  go_ret
  exact ⟨by rw [HV.out]; rfl, _, rfl⟩
theorem l4Same_as (p q : Addr) (x y : S25) (r : Bool) (hr : sameK x y = r) (A B : Option Addr) (c d : Nat) (w : World) (hx0 : w.cell? p = some (.int .i64 x.f0)) (hx1 : w.cell? ⟨p.block, p.off + 1, none⟩ = some (.slice A x.f1.length c)) (hy0 : w.cell? q = some (.int .i64 y.f0)) (hy1 : w.cell? ⟨q.block, q.off + 1, none⟩ = some (.slice B y.f1.length d)) (hrx : Kd.C (Kd.int .u8) w A x.f1.length x.f1) (hry : Kd.C (Kd.int .u8) w B y.f1.length y.f1) :
  Calls Try.prog 71 #[.pointer (some p), .pointer (some q)] w fun e w' => e = .returned (.bool r) ∧ ∃ m, w' = w.drewN m := by
 subst hr
 exact l4Same_at p q x y A B c d w hx0 hx1 hy0 hy1 hrx hry
def spec_SameRings.f (a0_0 : Int) (l0_1 : List S25) (a1_0 : Int) (l1_1 : List S25) : Option Bool := if l0_1.length < 140737488355328 then (if a0_0 = a1_0 then some (sameKs l0_1 l1_1) else some false) else none
set_option maxHeartbeats 4000000 in
set_option maxRecDepth 100000 in
theorem spec_SameRings.calls (a0_0 : Int) (A0_1 : Option Addr) (c0_1 : Nat) (l0_1 : List S25) (a1_0 : Int) (A1_1 : Option Addr) (c1_1 : Nat) (l1_1 : List S25) (r : Bool) (w : World) (hr0_1 : Kd.C k25 w A0_1 l0_1.length l0_1) (hc0_1 : l0_1.length ≤ c0_1) (hr1_1 : Kd.C k25 w A1_1 l1_1.length l1_1) (hc1_1 : l1_1.length ≤ c1_1) (h : spec_SameRings.f a0_0 l0_1 a1_0 l1_1 = some r) :
  Calls Try.prog 24 #[.agg #[.int .i64 a0_0, .slice A0_1 l0_1.length c0_1], .agg #[.int .i64 a1_0, .slice A1_1 l1_1.length c1_1]] w fun e w' => e = .returned (.bool r) ∧ Below w.heap.size w w' := by
 unfold spec_SameRings.f at h
 by_cases hm : l0_1.length < 140737488355328
 ·rw [if_pos hm] at h
  have HM := Aside0.mk hm
  clear hm
  have HR := Aside0.mk hr0_1
  have HQ := Aside0.mk hr1_1
  clear hr0_1 hc0_1 hr1_1 hc1_1
  by_cases hp : a0_0 = a1_0
  ·rw [if_pos hp, Option.some.injEq] at h
   subst h
   have hd : (a0_0 == a1_0) = true := beq_iff_eq.mpr hp
   have hdn : (a0_0 != a1_0) = false := bne_eq_false_iff_eq.mpr hp
   clear hp
   by_cases hlen : l0_1.length = l1_1.length
   ·have HN := Aside0.mk hlen
    have hd0 : (l0_1.length == l1_1.length) = true := beq_iff_eq.mpr hlen
    have hd1 : ((l0_1.length : Int) == (l1_1.length : Int)) = true := beq_iff_eq.mpr (by omega)
    have hd2 : ((l0_1.length : Int) != (l1_1.length : Int)) = false := bne_eq_false_iff_eq.mpr (by omega)
    clear hlen
    go_enter Try.func24, Try.ntmps24
    go_wp2
    go_loopw [5] (fun v5 W => ∃ kk : Nat, kk ≤ l0_1.length ∧ v5 = .int .i64 kk ∧ Aside0 (sameKs l0_1 l1_1 = sameKs (l0_1.drop kk) (l1_1.drop kk)) ∧ Aside0 (W.heap[w.heap.size]? = some (.cells #[.int .i64 a0_0, .slice A0_1 l0_1.length c0_1] 29 (0, 0))) ∧ Aside0 (W.heap[w.heap.size + 1]? = some (.cells #[.int .i64 a1_0, .slice A1_1 l1_1.length c1_1] 29 (0, 0))) ∧ Aside0 (Below w.heap.size w W)) (fun v5 _ => l0_1.length - (intOf v5).toNat)
    case atStart => exact ⟨0, Nat.zero_le _, rfl, ⟨rfl⟩, ⟨blk_alloc (heap_alloc_new w _) _⟩, ⟨by have h9 := heap_alloc_new (w.alloc (.cells #[.int .i64 a0_0, .slice A0_1 l0_1.length c0_1] 29)) (.cells #[.int .i64 a1_0, .slice A1_1 l1_1.length c1_1] 29); simpa using h9⟩, ⟨(((Below.refl _ _).alloc (Nat.le_refl _) _).alloc (by simp) _)⟩⟩
    case round =>
     clear hd0 hd1 hd2 hd hdn
     obtain ⟨kk, hk, rfl, HP, BK, BL, HB⟩ := hrel
     obtain ⟨ha0, ha1⟩ := ringFault_box _ _ _ _ _ _ BK.out
     obtain ⟨hb0, hb1⟩ := ringFault_box _ _ _ _ _ _ BL.out
     by_cases hl : kk < l0_1.length
     ·have hd : decide (kk < l0_1.length) = true := decide_eq_true hl
      have hl2 : kk < l1_1.length := by have := HN.out; omega
      have HD := Aside0.mk (sameKs_drop l0_1 l1_1 kk hl hl2)
      have hlt := Aside0.mk hl
      obtain ⟨ad, A1, c1, rfl, hx0, hx1, hxl, hxi⟩ := at_T25 HR.out (kk : Int) (by omega) (by omega)
      obtain ⟨ad2, A2, c2, rfl, hy0, hy1, hyl, hyi⟩ := at_T25 HQ.out (kk : Int) (by omega) (by omega)
      generalize rd_T25 l0_1 (kk : Int) = x at HD hx0 hx1 hxl hxi
      generalize rd_T25 l1_1 (kk : Int) = y at HD hy0 hy1 hyl hyi
      rw [Int.toNat_natCast] at hx0 hx1 hy0 hy1
      have HX := Aside0.mk (And.intro ((HB.out.cell (World.block_lt_of_cell? w _ hx0)).trans hx0) ((HB.out.cell (World.block_lt_of_cell? w _ hx1)).trans hx1))
      have HY := Aside0.mk (And.intro ((HB.out.cell (World.block_lt_of_cell? w _ hy0)).trans hy0) ((HB.out.cell (World.block_lt_of_cell? w _ hy1)).trans hy1))
      have HRX := Aside0.mk hxi
      have HRY := Aside0.mk hyi
      clear hx0 hx1 hxl hxi hy0 hy1 hyl hyi
      by_cases hs : sameK x y = true
      ·have HS := Aside0.mk hs
       have HP2 : Aside0 (sameKs l0_1 l1_1 = sameKs (l0_1.drop (kk + 1)) (l1_1.drop (kk + 1))) := ⟨by rw [HP.out, HD.out, if_pos hs]⟩
       clear HP HD hs
       go_wp2_with fail
       go_quiet ((go_at_call 71; exact Calls.quiet_of (l4Same_as (ad.add (kk * 2)) (ad2.add (kk * 2)) x y true HS.out A1 A2 c1 c2 _ HX.out.1 HX.out.2 HY.out.1 HY.out.2 (Kd.C_drewN (Kd.C_below HRX.out HB.out) _) (Kd.C_drewN (Kd.C_below HRY.out HB.out) _))))
       go_wp2
       go_roundw
       case rel => exact ⟨kk + 1, hlt.out, congrArg _ (wrap_next kk _ hlt.out HM.out), HP2, ⟨by (with_reducible repeat (first | refine blk_drewN ?_ _ | refine blk_drew ?_ | refine blk_alloc ?_ _)); exact BK.out⟩, ⟨by (with_reducible repeat (first | refine blk_drewN ?_ _ | refine blk_drew ?_ | refine blk_alloc ?_ _)); exact BL.out⟩, ⟨by repeat (first | (with_reducible first | exact HB.out | apply below_alloc | apply pw_below_drewN | apply below_drew1) | exact HB.out)⟩⟩
       case measure => exact next_less kk _ hlt.out HM.out
      ·have HS := Aside0.mk (Bool.eq_false_iff.mpr hs)
       have HP2 : Aside0 (sameKs l0_1 l1_1 = false) := ⟨by rw [HP.out, HD.out, if_neg hs]⟩
       clear HP HD hs
       go_wp2_with fail
       go_quiet ((go_at_call 71; exact Calls.quiet_of (l4Same_as (ad.add (kk * 2)) (ad2.add (kk * 2)) x y false HS.out A1 A2 c1 c2 _ HX.out.1 HX.out.2 HY.out.1 HY.out.2 (Kd.C_drewN (Kd.C_below HRX.out HB.out) _) (Kd.C_drewN (Kd.C_below HRY.out HB.out) _))))
       go_wp2
       go_ret
       exact ⟨by rw [HP2.out]; rfl, by repeat (first | (with_reducible first | exact HB.out | apply below_alloc | apply pw_below_drewN | apply below_drew1) | exact HB.out)⟩
     ·obtain rfl : kk = l0_1.length := by omega
      have HP2 : Aside0 (sameKs l0_1 l1_1 = true) := ⟨by rw [HP.out, List.drop_length, HN.out, List.drop_length]; rfl⟩
      clear HP
      go_wp2
      go_ret
      exact ⟨by rw [HP2.out]; rfl, HB.out⟩
   ·have HN : Aside0 (sameKs l0_1 l1_1 = false) := ⟨sameKs_len _ _ hlen⟩
    have hd0 : (l0_1.length == l1_1.length) = false := beq_eq_false_iff_ne.mpr hlen
    have hd1 : ((l0_1.length : Int) == (l1_1.length : Int)) = false := beq_eq_false_iff_ne.mpr (by omega)
    have hd2 : ((l0_1.length : Int) != (l1_1.length : Int)) = true := bne_iff_ne.mpr (by omega)
    clear hlen
    go_enter Try.func24, Try.ntmps24
    go_wp2
    go_ret
    exact ⟨by rw [HN.out]; rfl, (((Below.refl _ _).alloc (Nat.le_refl _) _).alloc (by simp) _)⟩
  ·rw [if_neg hp, Option.some.injEq] at h
   subst h
   have hd : (a0_0 == a1_0) = false := beq_eq_false_iff_ne.mpr hp
   have hdn : (a0_0 != a1_0) = true := bne_iff_ne.mpr hp
   clear hp
   go_enter Try.func24, Try.ntmps24
   go_wp2
   go_ret
   exact ⟨rfl, (((Below.refl _ _).alloc (Nat.le_refl _) _).alloc (by simp) _)⟩
 ·rw [if_neg hm] at h
  cases h
end Go.Proofs.Ytmnhddedcbkpoaa.All
end
section
namespace Go.Proofs.Ytmnhddedcbkpoaa.All
open Go.RowKit Go.Proofs.YtmnhddedcbkpoaaW.PrintWords Go.Proofs.YtmnhddedcbkpoaaW.PrintLast Go.Proofs.YtmnhddedcbkpoaaW.PrintMore
attribute [local go_sem] max2_int min2_int max_two min_two max_three min_three max_four min_four
set_option linter.unusedVariables false
set_option linter.unusedSimpArgs false
def laws_szByteS.f (l0 : List Int) (a1 : Int) : Option (Int) := if (wrap64 (a1 - (l0.length : Int))) < 0 then (some (-1)) else (some (wrap64 (a1 - (l0.length : Int))))
set_option maxHeartbeats 8000000 in
set_option maxRecDepth 100000 in
theorem laws_szByteS.calls (A0 : Option Addr) (c0 : Nat) (l0 : List Int) (a1 : Int) (r : Int) (w : World) (hr0 : Kd.C (Kd.int .u8) w A0 l0.length l0) (hc0 : l0.length ≤ c0) (h : laws_szByteS.f l0 a1 = some r) :
  Calls Try.prog 75 #[.slice A0 l0.length c0, .int .i64 a1] w fun e w' => e = .returned (.int .i64 r) ∧ Drawn0 w w' := by
 have HR0 := Aside0.mk hr0
 have HC0 := Aside0.mk hc0
 clear hr0 hc0
 have H : (if (wrap64 (a1 - (l0.length : Int))) < 0 then (some (-1)) else (some (wrap64 (a1 - (l0.length : Int))))) = some r := h
 clear h
 by_cases c3 : (wrap64 (a1 - (l0.length : Int))) < 0
 ·rw [if_pos c3] at H
  have c3b0 : decide ((wrap64 (a1 - (l0.length : Int))) < 0) = true := decide_eq_true c3
  clear c3
  obtain rfl := Option.some.inj H
  go_enter Try.func75, Try.ntmps75
  go_wp2
  go_ret
  exact ⟨by first | rfl | (simp; done) | (simp [*]; done), by repeat (first | exact Drawn0.refl _ | apply Drawn0.step)⟩
 ·rw [if_neg c3] at H
  have c3b0 : decide ((wrap64 (a1 - (l0.length : Int))) < 0) = false := decide_eq_false c3
  clear c3
  obtain rfl := Option.some.inj H
  go_enter Try.func75, Try.ntmps75
  go_wp2
  go_ret
  exact ⟨by first | rfl | (simp; done) | (simp [*]; done), by repeat (first | exact Drawn0.refl _ | apply Drawn0.step)⟩
def laws_szKey.f (a0_0 : Int) (l0_1 : List Int) (a1 : Int) : Option (Int) := (laws_szByteS.f l0_1 a1).bind fun t402 => (if t402 < 0 then (some (-1)) else (some t402))
set_option maxHeartbeats 8000000 in
set_option maxRecDepth 100000 in
theorem laws_szKey.calls (a0_0 : Int) (A0_1 : Option Addr) (c0_1 : Nat) (l0_1 : List Int) (a1 : Int) (r : Int) (w : World) (hr0_1 : Kd.C (Kd.int .u8) w A0_1 l0_1.length l0_1) (hc0_1 : l0_1.length ≤ c0_1) (h : laws_szKey.f a0_0 l0_1 a1 = some r) :
  Calls Try.prog 27 #[.agg #[.int .i64 a0_0, .slice A0_1 l0_1.length c0_1], .int .i64 a1] w fun e w' => e = .returned (.int .i64 r) ∧ Below w.heap.size w w' := by
 have hu43 := Try.underlying43
 have HR0_1 := Aside0.mk hr0_1
 have HC0_1 := Aside0.mk hc0_1
 clear hr0_1 hc0_1
 have HB := Aside0.mk (Below.refl w.heap.size w)
 have H : ((laws_szByteS.f l0_1 a1).bind fun t402 => (if t402 < 0 then (some (-1)) else (some t402))) = some r := h
 clear h
 replace H := Option.bind_eq_some_iff.mp H
 obtain ⟨t402, A30, H⟩ := H
 replace H : (if t402 < 0 then (some (-1)) else (some t402)) = some r := H
 have A3 := Aside0.mk A30
 clear A30
 by_cases c4 : t402 < 0
 ·rw [if_pos c4] at H
  have c4b0 : decide (t402 < 0) = true := decide_eq_true c4
  clear c4
  obtain rfl := Option.some.inj H
  go_enter Try.func27, Try.ntmps27
  go_wp2_with (first | ((with_reducible refine gate_dst (N := 2) rfl ?_); refine box_event ?hg (N := 2) ?hd (cs := #[.int .i64 a0_0, .slice A0_1 l0_1.length c0_1]) (t := 43) ?hr ?_; (case hd => rfl); (case hg => rfl); (case hr => first | (go_simp; done) | (go_simp; rfl)); intro gb401 hg w5 hbox hb; have n0_ := Aside0.mk (below_step (by repeat (first | (with_reducible first | exact HB.out | apply below_alloc | apply pw_below_drewN | apply below_drew1) | exact HB.out)) hb); have n1_ := Aside0.mk (hbox); have n2_ := Aside0.mk ((by rw [hg]; exact (below_size (by repeat (first | (with_reducible first | exact HB.out | apply below_alloc | apply pw_below_drewN | apply below_drew1) | exact HB.out))) : w.heap.size ≤ gb401)); have n3_ := Aside0.mk ((by rw [hg]; exact (below_size (by repeat (first | (with_reducible first | exact HB.out | apply below_alloc | apply pw_below_drewN | apply below_drew1) | exact HB.out))) : w.heap.size ≤ gb401)); clear HB; have HB := n0_; have BK401 := n1_; have GW401 := n2_; have GE401 := n3_; clear n0_ n1_ n2_ n3_; clear hb hbox hg; have hcz6_0 : w5.cell? ⟨gb401, 0, none⟩ = some (.int .i64 a0_0) := (blk_cell BK401.out 0).trans rfl; have hcz6_1 : w5.cell? ⟨gb401, 1, none⟩ = some (.slice A0_1 l0_1.length c0_1) := (blk_cell BK401.out 1).trans rfl; have hfz6_0 := blk_frozen BK401.out 0; have hfz6_1 := blk_frozen BK401.out 1) | ((with_reducible refine gate_callee (f := 75) rfl ?_); refine goesL_ (some 8) rfl rfl Try.func75 (by kernel_rfl) rfl #[.slice A0_1 l0_1.length c0_1, .int .i64 a1] rfl (by (try simp only [List.map_toArray, List.map_cons, List.map_nil]); first | done | rfl | (simp only [List.length_drop, List.length_take]; rfl)) ?_; (with_reducible refine (laws_szByteS.calls _ _ l0_1 a1 t402 _ ?side1 ?side2 A3.out).mono ?_); (case side1 => repeat (first | exact (Kd.C_below HR0_1.out HB.out) | (with_reducible refine Kd.C_alloc ?_ _) | (with_reducible refine Kd.C_drewN ?_ _) | (with_reducible refine Kd.C_drew ?_))); (case side2 => exact HC0_1.out); rintro e w' ⟨rfl, ⟨nd, rfl⟩⟩; refine ⟨_, rfl, ?_⟩))
  go_ret
  exact ⟨by first | rfl | (simp [errW_none, errW_some] <;> rfl) | (simp [*, errW_none, errW_some] <;> rfl), by repeat (first | (with_reducible first | exact HB.out | apply below_alloc | apply pw_below_drewN | apply below_drew1 | refine below_set ?_ GE401.out) | exact HB.out)⟩
 ·rw [if_neg c4] at H
  have c4b0 : decide (t402 < 0) = false := decide_eq_false c4
  clear c4
  obtain rfl := Option.some.inj H
  go_enter Try.func27, Try.ntmps27
  go_wp2_with (first | ((with_reducible refine gate_dst (N := 2) rfl ?_); refine box_event ?hg (N := 2) ?hd (cs := #[.int .i64 a0_0, .slice A0_1 l0_1.length c0_1]) (t := 43) ?hr ?_; (case hd => rfl); (case hg => rfl); (case hr => first | (go_simp; done) | (go_simp; rfl)); intro gb401 hg w7 hbox hb; have n0_ := Aside0.mk (below_step (by repeat (first | (with_reducible first | exact HB.out | apply below_alloc | apply pw_below_drewN | apply below_drew1) | exact HB.out)) hb); have n1_ := Aside0.mk (hbox); have n2_ := Aside0.mk ((by rw [hg]; exact (below_size (by repeat (first | (with_reducible first | exact HB.out | apply below_alloc | apply pw_below_drewN | apply below_drew1) | exact HB.out))) : w.heap.size ≤ gb401)); have n3_ := Aside0.mk ((by rw [hg]; exact (below_size (by repeat (first | (with_reducible first | exact HB.out | apply below_alloc | apply pw_below_drewN | apply below_drew1) | exact HB.out))) : w.heap.size ≤ gb401)); clear HB; have HB := n0_; have BK401 := n1_; have GW401 := n2_; have GE401 := n3_; clear n0_ n1_ n2_ n3_; clear hb hbox hg; have hcz8_0 : w7.cell? ⟨gb401, 0, none⟩ = some (.int .i64 a0_0) := (blk_cell BK401.out 0).trans rfl; have hcz8_1 : w7.cell? ⟨gb401, 1, none⟩ = some (.slice A0_1 l0_1.length c0_1) := (blk_cell BK401.out 1).trans rfl; have hfz8_0 := blk_frozen BK401.out 0; have hfz8_1 := blk_frozen BK401.out 1) | ((with_reducible refine gate_callee (f := 75) rfl ?_); refine goesL_ (some 8) rfl rfl Try.func75 (by kernel_rfl) rfl #[.slice A0_1 l0_1.length c0_1, .int .i64 a1] rfl (by (try simp only [List.map_toArray, List.map_cons, List.map_nil]); first | done | rfl | (simp only [List.length_drop, List.length_take]; rfl)) ?_; (with_reducible refine (laws_szByteS.calls _ _ l0_1 a1 t402 _ ?side1 ?side2 A3.out).mono ?_); (case side1 => repeat (first | exact (Kd.C_below HR0_1.out HB.out) | (with_reducible refine Kd.C_alloc ?_ _) | (with_reducible refine Kd.C_drewN ?_ _) | (with_reducible refine Kd.C_drew ?_))); (case side2 => exact HC0_1.out); rintro e w' ⟨rfl, ⟨nd, rfl⟩⟩; refine ⟨_, rfl, ?_⟩))
  go_ret
  exact ⟨by first | rfl | (simp [errW_none, errW_some] <;> rfl) | (simp [*, errW_none, errW_some] <;> rfl), by repeat (first | (with_reducible first | exact HB.out | apply below_alloc | apply pw_below_drewN | apply below_drew1 | refine below_set ?_ GE401.out) | exact HB.out)⟩
end Go.Proofs.Ytmnhddedcbkpoaa.All
end
section
namespace Go.Proofs.Ytmnhddedcbkpoaa.All
open Go.RowKit Go.Proofs.YtmnhddedcbkpoaaW.PrintWords Go.Proofs.YtmnhddedcbkpoaaW.PrintLast Go.Proofs.YtmnhddedcbkpoaaW.PrintMore
attribute [local go_sem] max2_int min2_int max_two min_two max_three min_three max_four min_four
set_option linter.unusedVariables false
set_option linter.unusedSimpArgs false
def laws_szKeyS.l0 : Nat → List (S43) → Int → Int → Option (Int)
 | 0, _, _, _ => none
 | k + 1, x0, x1, x5 => if x5 < (x0.length : Int) then (if 0 ≤ x5 then ((laws_szKey.f ((rd_T43 x0 x5).f0) ((rd_T43 x0 x5).f1) x1).bind fun t404 => (if t404 < 0 then (some (-1)) else (laws_szKeyS.l0 k x0 t404 (wrap64 (x5 + 1))))) else (none)) else (some x1)
def laws_szKeyS.f (k : Nat) (l0 : List (S43)) (a1 : Int) : Option (Int) := if (wrap64 (a1 - (l0.length : Int))) < 0 then (some (-1)) else (laws_szKeyS.l0 k l0 (wrap64 (a1 - (l0.length : Int))) 0)
theorem laws_szKeyS.mono_l : ∀ k, (∀ y0 y1 y2, LeO (laws_szKeyS.l0 k y0 y1 y2) (laws_szKeyS.l0 (k + 1) y0 y1 y2))
 | 0 => fun _ _ _ r h => by simp [laws_szKeyS.l0] at h
 | k + 1 => by
  have ih0 := laws_szKeyS.mono_l k
  ·intro y0 y1 y2
   unfold laws_szKeyS.l0
   repeat' first
   | (with_reducible exact ih0 _ _ _)
   | (with_reducible exact LeO.refl _)
   | (with_reducible exact LeO.none _)
   | (with_reducible refine LeO.ite ?_ ?_)
   | (with_reducible refine LeO.bind ?_ (fun _ => ?_))
   | exact ih0 _ _ _
   | exact LeO.none _
   | refine LeO.ite ?_ ?_
   | refine LeO.bind ?_ (fun _ => ?_)
theorem laws_szKeyS.mono : ∀ a0 a1 k, LeO (laws_szKeyS.f k a0 a1) (laws_szKeyS.f (k + 1) a0 a1) := by
 intro a0 a1 k
 have ih0 := laws_szKeyS.mono_l k
 unfold laws_szKeyS.f
 repeat' first
   | (with_reducible exact ih0 _ _ _)
   | (with_reducible exact LeO.refl _)
   | (with_reducible exact LeO.none _)
   | (with_reducible refine LeO.ite ?_ ?_)
   | (with_reducible refine LeO.bind ?_ (fun _ => ?_))
   | exact ih0 _ _ _
   | exact LeO.none _
   | refine LeO.ite ?_ ?_
   | refine LeO.bind ?_ (fun _ => ?_)
set_option maxHeartbeats 8000000 in
set_option maxRecDepth 100000 in
theorem laws_szKeyS.calls (k : Nat) (A0 : Option Addr) (c0 : Nat) (l0 : List (S43)) (a1 : Int) (r : Int) (w : World) (hr0 : Kd.C k43 w A0 l0.length l0) (hc0 : l0.length ≤ c0) (h : laws_szKeyS.f k l0 a1 = some r) :
  Calls Try.prog 74 #[.slice A0 l0.length c0, .int .i64 a1] w fun e w' => e = .returned (.int .i64 r) ∧ Below w.heap.size w w' := by
 have hu43 := Try.underlying43
 have HR0 := Aside0.mk hr0
 have HC0 := Aside0.mk hc0
 clear hr0 hc0
 have HB := Aside0.mk (Below.refl w.heap.size w)
 have H : (if (wrap64 (a1 - (l0.length : Int))) < 0 then (some (-1)) else (laws_szKeyS.l0 k l0 (wrap64 (a1 - (l0.length : Int))) 0)) = some r := h
 clear h
 by_cases c3 : (wrap64 (a1 - (l0.length : Int))) < 0
 ·rw [if_pos c3] at H
  have c3b0 : decide ((wrap64 (a1 - (l0.length : Int))) < 0) = true := decide_eq_true c3
  clear c3
  obtain rfl := Option.some.inj H
  go_enter Try.func74, Try.ntmps74
  go_wp2
  go_ret
  exact ⟨by first | rfl | (simp [errW_none, errW_some] <;> rfl) | (simp [*, errW_none, errW_some] <;> rfl), by repeat (first | (with_reducible first | exact HB.out | apply below_alloc | apply pw_below_drewN | apply below_drew1) | exact HB.out)⟩
 ·rw [if_neg c3] at H
  have c3b0 : decide ((wrap64 (a1 - (l0.length : Int))) < 0) = false := decide_eq_false c3
  clear c3
  have H' := Aside0.mk H
  clear H
  go_enter Try.func74, Try.ntmps74
  go_wp2
  go_loopg [1, 5] k (fun kq v1 v5 w' => ∃ (x1_1 : Int) (x5_1 : Int), v1 = .int .i64 x1_1 ∧ v5 = .int .i64 x5_1 ∧ Aside0 (laws_szKeyS.l0 kq l0 x1_1 x5_1 = some r) ∧ Aside0 (kq ≤ k) ∧ Aside0 (Below w.heap.size w w'))
  case atStart => exact ⟨(wrap64 (a1 - (l0.length : Int))), (0), (by first | rfl | (simp; done) | (simp [*]; done)), (by first | rfl | (simp; done) | (simp [*]; done)), H', ⟨Nat.le_refl _⟩, ⟨by repeat (first | (with_reducible first | exact HB.out | apply below_alloc | apply pw_below_drewN | apply below_drew1) | exact HB.out)⟩⟩
  case round =>
   clear H'
   try clear p2
   try clear c3
   try clear c3b0
   obtain ⟨x1_1, x5_1, rfl, rfl, HA, HK1, HB⟩ := hrel
   cases gk with
   | zero => exact absurd HA.out (by simp [laws_szKeyS.l0])
   | succ k1 =>
    have H := HA.out
    clear HA
    simp only [laws_szKeyS.l0] at H
    by_cases c4 : x5_1 < (l0.length : Int)
    ·rw [if_pos c4] at H
     have c4b0 : decide (x5_1 < (l0.length : Int)) = true := decide_eq_true c4
     clear c4
     by_cases c5 : 0 ≤ x5_1
     ·rw [if_pos c5] at H
      have c5b0 : decide (0 ≤ x5_1) = true := decide_eq_true c5
      clear c5
      replace H := Option.bind_eq_some_iff.mp H
      obtain ⟨t404, A60, H⟩ := H
      replace H : (if t404 < 0 then (some (-1)) else (laws_szKeyS.l0 k1 l0 t404 (wrap64 (x5_1 + 1)))) = some r := H
      have A6 := Aside0.mk A60
      clear A60
      by_cases c7 : t404 < 0
      ·rw [if_pos c7] at H
       have c7b0 : decide (t404 < 0) = true := decide_eq_true c7
       clear c7
       obtain rfl := Option.some.inj H
       have p403 : 0 ≤ (x5_1 : Int) := of_decide_eq_true (by first | (with_reducible assumption) | assumption)
       have q403 : x5_1 < (l0.length : Int) := of_decide_eq_true (by first | (with_reducible assumption) | assumption)
       obtain ⟨ad403, A403_1, c403_1, e403, hx403_0, hx403_1, hl403_1, hi403_1⟩ := at_T43 HR0.out x5_1 p403 q403
       cases e403
       replace hx403_0 := (HB.out.cell (World.block_lt_of_cell? w _ hx403_0)).trans hx403_0
       replace hx403_1 := (HB.out.cell (World.block_lt_of_cell? w _ hx403_1)).trans hx403_1
       have HR403_1 := Aside0.mk hi403_1
       have HC403_1 := Aside0.mk hl403_1
       clear hi403_1 hl403_1
       replace p403 := eq_true p403
       replace q403 := eq_true q403
       go_wp2_with (first | ((with_reducible refine gate_callee (f := 27) rfl ?_); refine goesL_ (some 23) rfl rfl Try.func27 (by kernel_rfl) rfl #[.agg #[.int .i64 ((rd_T43 l0 x5_1).f0), .slice A403_1 ((rd_T43 l0 x5_1).f1).length c403_1], .int .i64 x1_1] rfl (by (try simp only [List.map_toArray, List.map_cons, List.map_nil]); first | done | rfl | (simp only [List.length_drop, List.length_take]; rfl)) ?_; (with_reducible refine (laws_szKey.calls ((rd_T43 l0 x5_1).f0) _ _ ((rd_T43 l0 x5_1).f1) x1_1 t404 _ ?side1 ?side2 A6.out).mono ?_); (case side1 => repeat (first | exact (Kd.C_below HR403_1.out HB.out) | (with_reducible refine Kd.C_alloc ?_ _) | (with_reducible refine Kd.C_drewN ?_ _) | (with_reducible refine Kd.C_drew ?_))); (case side2 => exact HC403_1.out); rintro e w8 ⟨rfl, hb⟩; refine ⟨_, rfl, ?_⟩; have n0_ := Aside0.mk (below_step (by repeat (first | (with_reducible first | exact HB.out | apply below_alloc | apply pw_below_drewN | apply below_drew1) | exact HB.out)) hb); clear HB; have HB := n0_; clear n0_; (try clear hb); (try clear hb2); (try clear hk); (try clear hi)))
       go_ret
       exact ⟨by first | rfl | (simp [errW_none, errW_some] <;> rfl) | (simp [*, errW_none, errW_some] <;> rfl), by repeat (first | (with_reducible first | exact HB.out | apply below_alloc | apply pw_below_drewN | apply below_drew1) | exact HB.out)⟩
      ·rw [if_neg c7] at H
       have c7b0 : decide (t404 < 0) = false := decide_eq_false c7
       clear c7
       have H' := Aside0.mk H
       clear H
       have p403 : 0 ≤ (x5_1 : Int) := of_decide_eq_true (by first | (with_reducible assumption) | assumption)
       have q403 : x5_1 < (l0.length : Int) := of_decide_eq_true (by first | (with_reducible assumption) | assumption)
       obtain ⟨ad403, A403_1, c403_1, e403, hx403_0, hx403_1, hl403_1, hi403_1⟩ := at_T43 HR0.out x5_1 p403 q403
       cases e403
       replace hx403_0 := (HB.out.cell (World.block_lt_of_cell? w _ hx403_0)).trans hx403_0
       replace hx403_1 := (HB.out.cell (World.block_lt_of_cell? w _ hx403_1)).trans hx403_1
       have HR403_1 := Aside0.mk hi403_1
       have HC403_1 := Aside0.mk hl403_1
       clear hi403_1 hl403_1
       replace p403 := eq_true p403
       replace q403 := eq_true q403
       go_wp2_with (first | ((with_reducible refine gate_callee (f := 27) rfl ?_); refine goesL_ (some 23) rfl rfl Try.func27 (by kernel_rfl) rfl #[.agg #[.int .i64 ((rd_T43 l0 x5_1).f0), .slice A403_1 ((rd_T43 l0 x5_1).f1).length c403_1], .int .i64 x1_1] rfl (by (try simp only [List.map_toArray, List.map_cons, List.map_nil]); first | done | rfl | (simp only [List.length_drop, List.length_take]; rfl)) ?_; (with_reducible refine (laws_szKey.calls ((rd_T43 l0 x5_1).f0) _ _ ((rd_T43 l0 x5_1).f1) x1_1 t404 _ ?side1 ?side2 A6.out).mono ?_); (case side1 => repeat (first | exact (Kd.C_below HR403_1.out HB.out) | (with_reducible refine Kd.C_alloc ?_ _) | (with_reducible refine Kd.C_drewN ?_ _) | (with_reducible refine Kd.C_drew ?_))); (case side2 => exact HC403_1.out); rintro e w9 ⟨rfl, hb⟩; refine ⟨_, rfl, ?_⟩; have n0_ := Aside0.mk (below_step (by repeat (first | (with_reducible first | exact HB.out | apply below_alloc | apply pw_below_drewN | apply below_drew1) | exact HB.out)) hb); clear HB; have HB := n0_; clear n0_; (try clear hb); (try clear hb2); (try clear hk); (try clear hi)))
       go_roundg k1
       case measure => have := HK1.out; omega
       case rel => exact ⟨(t404), (wrap64 (x5_1 + 1)), (by first | rfl | (simp; done) | (simp [*]; done)), (by first | rfl | (simp; done) | (simp [*]; done)), H', ⟨by have := HK1.out; omega⟩, ⟨by repeat (first | (with_reducible first | exact HB.out | apply below_alloc | apply pw_below_drewN | apply below_drew1) | exact HB.out)⟩⟩
     ·rw [if_neg c5] at H
      exact absurd H (by simp)
    ·rw [if_neg c4] at H
     have c4b0 : decide (x5_1 < (l0.length : Int)) = false := decide_eq_false c4
     clear c4
     obtain rfl := Option.some.inj H
     go_wp2
     go_ret
     exact ⟨by first | rfl | (simp [errW_none, errW_some] <;> rfl) | (simp [*, errW_none, errW_some] <;> rfl), by repeat (first | (with_reducible first | exact HB.out | apply below_alloc | apply pw_below_drewN | apply below_drew1) | exact HB.out)⟩
end Go.Proofs.Ytmnhddedcbkpoaa.All
end
