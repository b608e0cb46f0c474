-- Laid by wip/shake.py of this repo out of this claim's texts. Not trusted: Lean checks it.
import Derived.Test.YtmnhddedcbkpoaaHands
import Derived.Test.YtmnhddedcbkpoaaAllx204s
import Derived.Test.YtmnhddedcbkpoaaAllx550s
import Derived.Test.YtmnhddedcbkpoaaAllx564s
import Derived.Test.YtmnhddedcbkpoaaAllx565s
import Derived.Test.YtmnhddedcbkpoaaAllx566s
import Derived.Test.YtmnhddedcbkpoaaAllx62s
import Derived.Test.YtmnhddedcbkpoaaLemKeyss
set_option linter.unusedVariables false
set_option linter.unusedSimpArgs false
namespace Go.Proofs.Ytmnhddedcbkpoaa.Pure
open Go.RowKit Go.Proofs.Ytmnhddedcbkpoaa.All Go.Proofs.YtmnhddedcbkpoaaW.PrintWords Go.Proofs.YtmnhddedcbkpoaaW.PrintLast Go.Proofs.YtmnhddedcbkpoaaW.PrintMore
theorem order_tail (x : S25) (xs : List S25) (h : orderL (x :: xs) = true) : orderL xs = true := by
 cases xs with
 | nil => rfl
 | cons y ys =>
  simp only [orderL] at h
  by_cases hy : y.f0 ≤ x.f0
  ·rw [if_pos hy] at h; cases h
  ·rw [if_neg hy] at h; exact h
theorem order_gt : ∀ (xs : List S25) (x : S25), orderL (x :: xs) = true → ∀ y ∈ xs, x.f0 < y.f0
 | [], _, _, y, hy => by cases hy
 | z :: zs, x, h, y, hy => by
  have ht := order_tail x (z :: zs) h
  simp only [orderL] at h
  by_cases hz : z.f0 ≤ x.f0
  ·rw [if_pos hz] at h; cases h
  ·rcases List.mem_cons.1 hy with rfl | hy
   ·omega
   ·have := order_gt zs z ht y hy
    omega
theorem keep_none (id : Int) : ∀ (l : List S25), (∀ y ∈ l, id < y.f0) → keepL id l = l := fun l h => by
 unfold keepL
 rw [List.filter_eq_self]
 intro y hy
 have := h y hy
 rw [bne_iff_ne]
 omega
theorem keep_erase (id : Int) : ∀ (l : List S25) (i : Nat), orderL l = true → ¬ placeL id l (i : Int) < 0 → keepL id l = l.eraseIdx (placeL id l (i : Int) - (i : Int)).toNat
 | [], i, _, h => absurd (by simp [placeL]) h
 | x :: xs, i, ho, h => by
  simp only [placeL] at h ⊢
  by_cases hx : x.f0 = id
  ·rw [if_pos hx, Int.sub_self]
   have h1 := keep_none id xs (fun y hy => by have := order_gt xs x ho y hy; omega)
   unfold keepL at h1 ⊢
   simp [List.filter_cons, hx, h1]
  ·rw [if_neg hx] at h ⊢
   rw [show (i : Int) + 1 = ((i + 1 : Nat) : Int) by omega] at h ⊢
   have h1 := keep_erase id xs (i + 1) (order_tail x xs ho) h
   have hb := placeL_bd id xs (i + 1)
   obtain ⟨q, hq⟩ : ∃ q : Nat, placeL id xs ((i + 1 : Nat) : Int) = ((i + 1 + q : Nat) : Int) := ⟨(placeL id xs ((i + 1 : Nat) : Int)).toNat - (i + 1), by omega⟩
   rw [hq] at h1 ⊢
   rw [show (((i + 1 + q : Nat) : Int) - ((i + 1 : Nat) : Int)).toNat = q by omega] at h1
   rw [show (((i + 1 + q : Nat) : Int) - (i : Int)).toNat = q + 1 by omega]
   unfold keepL at h1 ⊢
   simp [List.filter_cons, hx, h1]
theorem order_of (p : Int) (l : List S25) (h : ringFaultL p l = 0) : orderL l = true := by
 unfold ringFaultL at h
 by_cases h1 : l.length < 1 ∨ 3 < l.length
 ·rw [if_pos h1] at h; cases h
 ·rw [if_neg h1] at h
  by_cases h2 : faultsL l = 0
  ·rw [if_pos h2] at h
   by_cases h3 : orderL l = true
   ·exact h3
   ·rw [if_neg h3] at h; cases h
  ·rw [if_neg h2] at h
   exact absurd h h2
theorem removeKey_both (k : Nat) (p : Int) (m : List S25) (id : Int) (hm : m.length ≤ 1048576) (hb : ∀ x ∈ m, x.f1.length ≤ 1048576) (hk : 1048577 ≤ k) : ∃ r1 r2 r3, spec_RemoveKey.f p m id = some (r1, r2, r3) ∧ impl_RemoveKey.f k p m id = some (r1, r2, r3) ∧ r3.length ≤ 1048576 ∧ ∀ x ∈ r3, x.f1.length ≤ 1048576 := by
 unfold spec_RemoveKey.f impl_RemoveKey.f impl_FindKey.f
 rw [if_pos (okL_of m hm hb), ring_fault k p m hm (by omega), place_f p m id hm, ownRing_eq k p m hm hb hk]
 simp only [Option.bind_some]
 by_cases h : ringFaultL p m = 0
 ·rw [if_pos h, if_pos h]
  by_cases hq : placeL id m 0 < 0
  ·rw [if_pos hq, if_pos hq]
   exact ⟨_, _, _, rfl, rfl, by simp, fun x hx => by cases hx⟩
  ·have hb2 := placeL_bd id m 0
   have hke := keep_erase id m 0 (order_of p m h) hq
   rw [show ((0 : Nat) : Int) = 0 from rfl] at hb2 hke
   rw [Int.sub_zero] at hke
   have hp0 := place_f p m id hm
   obtain ⟨q, hqe⟩ : ∃ q : Nat, placeL id m 0 = (q : Int) := ⟨(placeL id m 0).toNat, by omega⟩
   rw [hqe] at hq hb2 hke hp0 ⊢
   have hql : q < m.length := by omega
   have hk1 : impl_ownKey.f (rd_T25 m (q : Int)).f0 (rd_T25 m (q : Int)).f1 = some ((rd_T25 m (q : Int)).f0, (rd_T25 m (q : Int)).f1) := ownKey_eq _ _ (by rw [rd_get m q hql]; exact hb _ (List.getElem_mem hql))
   have hql2 : (q : Int) < (m.length : Int) := by omega
   have hq0 : (0 : Int) ≤ (q : Int) := by omega
   have hml : m.length < 140737488355328 := by omega
   by_cases he : p = id
   ·refine ⟨8, 0, [], ?_, ?_, by simp, fun x hx => by cases hx⟩ <;> simp [hq, hql2, hq0, hk1, he]
   ·simp only [hq, hql2, hq0, hk1, he, hp0, if_false, if_true, Option.bind_some, hml, and_self, Int.toNat_natCast]
    exact ⟨_, _, _, rfl, by rw [hke]; rfl, Nat.le_trans (keep_len id m) hm, fun x hx => hb x ((List.mem_filter.1 hx).1)⟩
 ·rw [if_neg h, if_neg h]
  simp only [Option.bind_some]
  rw [if_neg h]
  exact ⟨_, _, _, rfl, rfl, by simp, fun x hx => by cases hx⟩
theorem FnExactRemoveKey : ∀ (a0_0 : Int) (l0_1 : List S43) (a1 : Int), (Lit.int .i64 a0_0).wf = true → l0_1.length ≤ maxLen → (∀ p ∈ l0_1, (Lit.int .i64 p.f0).wf = true ∧ p.f1.length ≤ maxLen ∧ ∀ y ∈ p.f1, (Lit.int .u8 y).wf = true) → (Lit.int .i64 a1).wf = true → ∃ k, laws_FnExactRemoveKey.f k a0_0 l0_1 a1 true := by
 intro p l id _ hl hb _
 unfold maxLen at hl
 have hb' : ∀ x ∈ l, x.f1.length ≤ 9223372036854775807 := fun x hx => by have := (hb x hx).2.1; unfold maxLen at this; omega
 obtain ⟨K, hK⟩ : ∃ K, K > 3000000 := ⟨_, Nat.lt_succ_self _⟩
 refine ⟨K, rfl, ?_⟩
 obtain ⟨v, hv, v1, v2⟩ := szRing K p l 1048576 (by omega) (by omega) (by omega) hb' (by omega)
 refine ⟨v, hv, ?_⟩
 by_cases h : v < 0
 ·exact .inl h
 right
 have ok := v2 (by omega)
 have ou := okUp l ok
 obtain ⟨r1, r2, r3, hs, hi, h3, h4⟩ := removeKey_both K p (ups l) id ou.1 ou.2 (by omega)
 have hmk := markKs_eq K (by omega) (ups l) 1 ou.2 (by have := ou.1; omega)
 have hmr := markKs_eq K (by omega) r3 1 h4 (by omega)
 rw [show ((1 : Nat) : Int) = 1 from rfl] at hmk hmr
 refine ⟨h, ups l, _, r1, r2, _, _, r3, _, toRing K p l ok (by omega), hs, hi, ?_, eqRingR K p (ups l) ou.1 ou.2 (by omega), by have := ou.1; omega, by omega, (mkKs_length 1 r3).symm, hmk, by omega, hmr, heldRes K r1 r2 r3 h3 h4 (by omega), by omega⟩
 unfold laws_eqRingResult.f
 rw [if_pos rfl, eqRingR K r2 r3 h3 h4 (by omega)]
 rfl
end Go.Proofs.Ytmnhddedcbkpoaa.Pure
