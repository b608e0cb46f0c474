-- Laid by wip/shake.py of this repo out of this claim's texts. Not trusted: Lean checks it.
import Derived.Test.YtkjgdndaepobiaaAllx0s
import Derived.Test.YtkjgdndaepobiaaAllx9s
import Derived.Test.YtkjgdndaepobiaaAllx63s
import Derived.Test.YtkjgdndaepobiaaAllx100s
import Derived.Test.YtkjgdndaepobiaaAllx101s
import Derived.Test.YtkjgdndaepobiaaAllx576s
import Derived.Test.YtkjgdndaepobiaaAllx547s
import Derived.Test.YtkjgdndaepobiaaAllx32s
import Derived.Test.YtkjgdndaepobiaaAllx156s
section
set_option linter.unusedVariables false
set_option linter.unusedSimpArgs false
namespace Go.Proofs.Ytkjgdndaepobiaa.All
open Go.RowKit Go.Proofs.Ytkjgdndaepobiaa.All Go.Proofs.YtkjgdndaepobiaaW.PrintWords Go.Proofs.YtkjgdndaepobiaaW.PrintLast Go.Proofs.YtkjgdndaepobiaaW.PrintMore
theorem toB_loop (xs : List Int) (hn : xs.length ≤ 1048576) (d : Nat) : ∀ (k i : Nat) (ys : List Int), i + d = xs.length → d < k → ys.length = xs.length → ys.take i = xs.take i →
  laws_toByteS.l0 k xs ys (i : Int) = some xs := by
 induction d with
 | zero =>
  intro k i ys hi hk hl ht
  obtain ⟨k, rfl⟩ : ∃ m, k = m + 1 := ⟨k - 1, by omega⟩
  simp only [laws_toByteS.l0]
  rw [if_neg (by omega)]
  rw [List.take_of_length_le (by omega), List.take_of_length_le (by omega)] at ht
  rw [ht]
 | succ d ih =>
  intro k i ys hi hk hl ht
  obtain ⟨k, rfl⟩ : ∃ m, k = m + 1 := ⟨k - 1, by omega⟩
  have hw : wrap64 ((i : Int) + 1) = ((i + 1 : Nat) : Int) := by unfold wrap64; omega
  simp only [laws_toByteS.l0]
  rw [if_pos (by omega), if_pos (by omega), if_pos (by omega), hw]
  refine ih k (i + 1) _ (by omega) (by omega) (by rw [List.length_set]; exact hl) ?_
  rw [Int.toNat_natCast, List.take_succ_eq_append_getElem (by rw [List.length_set]; omega), List.take_succ_eq_append_getElem (show i < xs.length by omega), List.take_set_of_le (Nat.le_refl i), ht]
  congr 1
  rw [List.getElem_set_self]
  unfold rd
  rw [Int.toNat_natCast, List.getD_eq_getElem?_getD, List.getElem?_eq_getElem (by omega)]
  rfl
theorem toB (k : Nat) (xs : List Int) (hn : xs.length ≤ 1048576) (hk : xs.length < k) : laws_toByteS.f k xs = some xs := by
 unfold laws_toByteS.f
 rw [if_pos (by omega), if_pos (by omega)]
 exact toB_loop xs hn xs.length k 0 _ (by omega) hk (by simp) (by simp)
theorem eqB_loop (xs : List Int) (hn : xs.length ≤ 1048576) (d : Nat) : ∀ (k i : Nat), i + d = xs.length → d < k → laws_eqByteS.l0 k xs xs (i : Int) = some true := by
 induction d with
 | zero =>
  intro k i hi hk
  obtain ⟨k, rfl⟩ : ∃ m, k = m + 1 := ⟨k - 1, by omega⟩
  simp only [laws_eqByteS.l0]
  rw [if_neg (by omega)]
 | succ d ih =>
  intro k i hi hk
  obtain ⟨k, rfl⟩ : ∃ m, k = m + 1 := ⟨k - 1, by omega⟩
  have hw : wrap64 ((i : Int) + 1) = ((i + 1 : Nat) : Int) := by unfold wrap64; omega
  simp only [laws_eqByteS.l0]
  rw [if_pos (by omega), if_pos (by omega), if_pos (by omega), if_pos trivial, hw]
  exact ih k (i + 1) (by omega) (by omega)
theorem eqB (k : Nat) (xs : List Int) (hn : xs.length ≤ 1048576) (hk : xs.length < k) : laws_eqByteS.f k xs xs = some true := by
 unfold laws_eqByteS.f
 rw [if_pos rfl]
 exact eqB_loop xs hn xs.length k 0 (by omega) hk
end Go.Proofs.Ytkjgdndaepobiaa.All
end
section
set_option linter.unusedVariables false
set_option linter.unusedSimpArgs false
namespace Go.Proofs.Ytkjgdndaepobiaa.All
open Go.RowKit Go.Proofs.Ytkjgdndaepobiaa.All Go.Proofs.YtkjgdndaepobiaaW.PrintWords Go.Proofs.YtkjgdndaepobiaaW.PrintLast Go.Proofs.YtkjgdndaepobiaaW.PrintMore
def mkL : Nat → Nat → List Int
 | _, 0 => []
 | c, n + 1 => ((c % 256 : Nat) : Int) :: mkL (c + 1) n
theorem mkL_length : ∀ c n, (mkL c n).length = n
 | _, 0 => rfl
 | c, n + 1 => by simp [mkL, mkL_length (c + 1) n]
theorem markB_loop (d : Nat) : ∀ (k i c : Nat) (ys : List Int), i + d = ys.length → d < k → c + d < 2 ^ 60 → ys.length < 2 ^ 60 → laws_markByteS.l0 k ys (c : Int) (i : Int) = some (((c + d : Nat) : Int), ys.take i ++ mkL c d) := by
 induction d with
 | zero =>
  intro k i c ys hi hk hc hl
  obtain ⟨k, rfl⟩ : ∃ m, k = m + 1 := ⟨k - 1, by omega⟩
  simp only [laws_markByteS.l0, mkL]
  rw [if_neg (by omega), List.take_of_length_le (by omega), List.append_nil]
  rfl
 | succ d ih =>
  intro k i c ys hi hk hc hl
  obtain ⟨k, rfl⟩ : ∃ m, k = m + 1 := ⟨k - 1, by omega⟩
  have hw : wrap64 ((i : Int) + 1) = ((i + 1 : Nat) : Int) := by unfold wrap64; omega
  have hv0 : wrap64 ((c : Int) + 1) = ((c + 1 : Nat) : Int) := by unfold wrap64; omega
  have hm : ((c : Int) % 256) = ((c % 256 : Nat) : Int) := by omega
  simp only [laws_markByteS.l0]
  rw [if_pos (by omega), if_pos (by omega), hw, hv0, hm, ih k (i + 1) (c + 1) _ (by rw [List.length_set]; omega) (by omega) (by omega) (by rw [List.length_set]; omega)]
  rw [Int.toNat_natCast, List.take_succ_eq_append_getElem (by rw [List.length_set]; omega), List.take_set_of_le (Nat.le_refl i), List.getElem_set_self, List.append_assoc]
  simp only [mkL, List.singleton_append, show c + 1 + d = c + (d + 1) by omega]
theorem heldB_loop (d : Nat) : ∀ (k c : Nat) (pre : List Int), d < k → c + d < 2 ^ 60 → pre.length + d < 2 ^ 60 → laws_heldByteS.l0 k (pre ++ mkL c d) (c : Int) (pre.length : Int) = some ((c + d : Nat) : Int) := by
 induction d with
 | zero =>
  intro k c pre hk hc hl
  obtain ⟨k, rfl⟩ : ∃ m, k = m + 1 := ⟨k - 1, by omega⟩
  simp only [laws_heldByteS.l0, mkL, List.append_nil]
  rw [if_neg (by omega)]
  rfl
 | succ d ih =>
  intro k c pre hk hc hl
  obtain ⟨k, rfl⟩ : ∃ m, k = m + 1 := ⟨k - 1, by omega⟩
  have hw : wrap64 ((pre.length : Int) + 1) = (((pre ++ [((c % 256 : Nat) : Int)]).length : Nat) : Int) := by simp; unfold wrap64; omega
  have hv0 : wrap64 ((c : Int) + 1) = ((c + 1 : Nat) : Int) := by unfold wrap64; omega
  have hr : rd (pre ++ mkL c (d + 1)) (pre.length : Int) = (c : Int) % 256 := by
   unfold rd
   rw [Int.toNat_natCast, List.getD_eq_getElem?_getD, List.getElem?_append_right (Nat.le_refl _)]
   simp [mkL]
  have hs : pre ++ mkL c (d + 1) = (pre ++ [((c % 256 : Nat) : Int)]) ++ mkL (c + 1) d := by simp [mkL]
  simp only [laws_heldByteS.l0]
  rw [if_pos (by rw [List.length_append, mkL_length]; omega), if_pos (by omega), if_pos hr, hw, hv0, hs, ih k (c + 1) _ (by omega) (by omega) (by simp; omega)]
  rw [show c + 1 + d = c + (d + 1) by omega]
theorem markB (k : Nat) (xs : List Int) (hn : xs.length ≤ 1048576) (hk : xs.length < k) : laws_markByteS.f k xs 1 = some (((1 + xs.length : Nat) : Int), mkL 1 xs.length) := by
 unfold laws_markByteS.f
 have h := markB_loop xs.length k 0 1 xs (by omega) hk (by omega) (by omega)
 simpa using h
end Go.Proofs.Ytkjgdndaepobiaa.All
end
section
set_option linter.unusedVariables false
set_option linter.unusedSimpArgs false
namespace Go.Proofs.Ytkjgdndaepobiaa.All
open Go.RowKit Go.Proofs.Ytkjgdndaepobiaa.All Go.Proofs.YtkjgdndaepobiaaW.PrintWords Go.Proofs.YtkjgdndaepobiaaW.PrintLast Go.Proofs.YtkjgdndaepobiaaW.PrintMore
def mkBs : Nat → List (List Int) → List (List Int)
 | _, [] => []
 | c, x :: xs => mkL c x.length :: mkBs (c + x.length) xs
def totBs : Nat → List (List Int) → Nat
 | c, [] => c
 | c, x :: xs => totBs (c + x.length) xs
theorem mkBs_length : ∀ (c : Nat) (xs : List (List Int)), (mkBs c xs).length = xs.length
 | _, [] => rfl
 | c, x :: xs => by simp only [mkBs, List.length_cons, mkBs_length]
theorem totBs_le : ∀ (c : Nat) (xs : List (List Int)), (∀ x ∈ xs, x.length ≤ 4) → totBs c xs ≤ c + xs.length * 4
 | c, [], _ => by simp [totBs]
 | c, x :: xs, h => by
  have h1 := totBs_le (c + x.length) xs (fun y hy => h y (List.mem_cons_of_mem _ hy))
  have h2 := h x List.mem_cons_self
  simp only [totBs, List.length_cons]
  omega
theorem totBs_ge : ∀ (c : Nat) (xs : List (List Int)), c ≤ totBs c xs
 | c, [] => Nat.le_refl _
 | c, x :: xs => by
  have h1 := totBs_ge (c + x.length) xs
  simp only [totBs]
  omega
theorem markBw (k c : Nat) (xs : List Int) (hc : c + xs.length < 2 ^ 60) (hk : xs.length < k) : laws_markByteS.f k xs (c : Int) = some (((c + xs.length : Nat) : Int), mkL c xs.length) := by
 have h := markB_loop xs.length k 0 c xs (by omega) hk hc (by omega)
 unfold laws_markByteS.f
 rw [show ((0 : Nat) : Int) = 0 from rfl] at h
 rw [h]
 simp
theorem heldBw (k c n : Nat) (hc : c + n < 2 ^ 60) (hk : n < k) : laws_heldByteS.f k (mkL c n) (c : Int) = some ((c + n : Nat) : Int) := by
 have h := heldB_loop n k c [] hk hc (by simp; omega)
 unfold laws_heldByteS.f
 simpa using h
theorem markBs_eq (k : Nat) (hk : 10 ≤ k) : ∀ (xs : List (List Int)) (c : Nat), (∀ x ∈ xs, x.length ≤ 4) → c + xs.length * 4 < 2 ^ 59 → markBs k xs (c : Int) = some (((totBs c xs : Nat) : Int), mkBs c xs)
 | [], c, _, _ => rfl
 | x :: xs, c, h, hc => by
  have h2 := h x List.mem_cons_self
  rw [List.length_cons] at hc
  simp only [markBs, mkBs, totBs]
  rw [markBw k c x (by omega) (by omega)]
  simp only [Option.bind_some]
  rw [markBs_eq k hk xs (c + x.length) (fun y hy => h y (List.mem_cons_of_mem _ hy)) (by omega)]
  rfl
theorem heldBs_loop : ∀ (xs : List (List Int)) (k c : Nat) (pre : List (List Int)), (∀ x ∈ xs, x.length ≤ 4) → totBs c xs < 2 ^ 59 → pre.length + xs.length < 2 ^ 59 → xs.length + 10 < k → laws_heldByteSS.l0 k (pre ++ mkBs c xs) (c : Int) (pre.length : Int) = some ((totBs c xs : Nat) : Int)
 | [], k, c, pre, _, _, _, hk => by
  obtain ⟨k, rfl⟩ : ∃ m, k = m + 1 := ⟨k - 1, by omega⟩
  simp only [laws_heldByteSS.l0, mkBs, List.append_nil]
  rw [if_neg (by omega)]
  rfl
 | x :: xs, k, c, pre, h, hc, hp, hk => by
  obtain ⟨k, rfl⟩ : ∃ m, k = m + 1 := ⟨k - 1, by omega⟩
  have h2 := h x List.mem_cons_self
  have h3 := totBs_ge (c + x.length) xs
  rw [List.length_cons] at hp hk
  simp only [totBs] at hc ⊢
  have hv9_ : wrap64 ((pre.length : Int) + 1) = ((pre.length + 1 : Nat) : Int) := by unfold wrap64; omega
  have hl : (pre ++ mkBs c (x :: xs)).length = pre.length + (xs.length + 1) := by rw [List.length_append, mkBs_length, List.length_cons]
  have hr : rd_L2 (pre ++ mkBs c (x :: xs)) (pre.length : Int) = mkL c x.length := by
   unfold rd_L2
   rw [Int.toNat_natCast, List.getD_eq_getElem?_getD, List.getElem?_append_right (Nat.le_refl _), Nat.sub_self]
   rfl
  have hz : (pre ++ [mkL c x.length]).length = pre.length + 1 := by rw [List.length_append]; rfl
  have ha : (pre ++ [mkL c x.length]) ++ mkBs (c + x.length) xs = pre ++ mkBs c (x :: xs) := by rw [List.append_assoc]; rfl
  have h9 := heldBs_loop xs k (c + x.length) (pre ++ [mkL c x.length]) (fun y hy => h y (List.mem_cons_of_mem _ hy)) hc (by rw [hz]; omega) (by omega)
  rw [ha, hz] at h9
  simp only [laws_heldByteSS.l0]
  rw [hl, if_pos (by omega), if_pos (by omega), hr, heldBw k c x.length (by omega) (by omega)]
  simp only [Option.bind_some]
  rw [if_neg (by omega), hv9_]
  exact h9
theorem heldWords (k : Nat) (a : Int) (xs : List (List Int)) (hl : xs.length ≤ 100) (h : ∀ x ∈ xs, x.length ≤ 4) (hk : 1000 ≤ k) : laws_heldWordsResult.f k a (mkBs 1 xs) 1 = some ((totBs 1 xs : Nat) : Int) := by
 have h5 := totBs_le 1 xs h
 have h1 := heldBs_loop xs k 1 [] h (by omega) (by simp only [List.length_nil]; omega) (by omega)
 have h2 : laws_heldByteSS.f k (mkBs 1 xs) 1 = some ((totBs 1 xs : Nat) : Int) := by
  unfold laws_heldByteSS.f
  simpa using h1
 unfold laws_heldWordsResult.f
 rw [h2]
 simp only [Option.bind_some]
 rw [if_neg (by omega)]
theorem eqBs_loop (xs : List (List Int)) (hl : xs.length ≤ 100) (h : ∀ x ∈ xs, x.length ≤ 4) : ∀ (d k i : Nat), i + d = xs.length → d + 10 < k → laws_eqByteSS.l0 k xs xs (i : Int) = some true
 | 0, k, i, hi, hk => by
  obtain ⟨k, rfl⟩ : ∃ m, k = m + 1 := ⟨k - 1, by omega⟩
  simp only [laws_eqByteSS.l0]
  rw [if_neg (by omega)]
 | d + 1, k, i, hi, hk => by
  obtain ⟨k, rfl⟩ : ∃ m, k = m + 1 := ⟨k - 1, by omega⟩
  have ih := eqBs_loop xs hl h d k (i + 1) (by omega) (by omega)
  have hx : (rd_L2 xs (i : Int)).length ≤ 4 := by
   unfold rd_L2
   rw [Int.toNat_natCast, List.getD_eq_getElem?_getD, List.getElem?_eq_getElem (show i < xs.length by omega)]
   exact h _ (List.getElem_mem _)
  have w : wrap64 ((i : Int) + 1) = ((i + 1 : Nat) : Int) := by unfold wrap64; omega
  simp only [laws_eqByteSS.l0]
  rw [if_pos (by omega), if_pos (by omega), if_pos (by omega), eqB k _ (by omega) (by omega)]
  simp only [Option.bind_some, if_true]
  rw [w]
  exact ih
theorem eqWords (k : Nat) (a : Int) (xs : List (List Int)) (hl : xs.length ≤ 100) (h : ∀ x ∈ xs, x.length ≤ 4) (hk : 1000 ≤ k) : laws_eqWordsResult.f k a xs a xs = some true := by
 unfold laws_eqWordsResult.f laws_eqByteSS.f
 rw [if_pos rfl, if_pos rfl, show (0 : Int) = ((0 : Nat) : Int) from rfl, eqBs_loop xs hl h xs.length k 0 (by omega) (by omega)]
 rfl
end Go.Proofs.Ytkjgdndaepobiaa.All
end
section
set_option linter.unusedVariables false
set_option linter.unusedSimpArgs false
namespace Go.Proofs.Ytkjgdndaepobiaa.All
open Go.RowKit Go.Proofs.Ytkjgdndaepobiaa.All Go.Proofs.YtkjgdndaepobiaaW.PrintWords Go.Proofs.YtkjgdndaepobiaaW.PrintLast Go.Proofs.YtkjgdndaepobiaaW.PrintMore
theorem l1Copy_self (l : List Int) (h : l.length < 1000000000000) : spec_l1Copy.f l = some l := by
 unfold spec_l1Copy.f
 simp only [Option.bind_some]
 rw [if_pos (by simp only [List.length_nil]; omega)]
 rfl
theorem words_loop (t : List (BitVec 8)) (ht : t.length = 176) (c : Int) : ∀ (d k i : Nat), i + d = 44 → d < k → spec_KeyWords.l0 k (bL t) (i : Int) c (wordsTo t i) = some (c, wordsTo t 44)
 | 0, k, i, hi, hk => by
  obtain ⟨k, rfl⟩ : ∃ m, k = m + 1 := ⟨k - 1, by omega⟩
  obtain rfl : i = 44 := by omega
  simp only [spec_KeyWords.l0]
  rw [if_neg (by omega)]
 | d + 1, k, i, hi, hk => by
  obtain ⟨k, rfl⟩ : ∃ m, k = m + 1 := ⟨k - 1, by omega⟩
  have ih := words_loop t ht c d k (i + 1) (by omega) (by omega)
  have w1 : wrap64 (4 * (i : Int)) = ((4 * i : Nat) : Int) := by unfold wrap64; omega
  have w2 : wrap64 (((4 * i : Nat) : Int) + 4) = ((4 * i + 4 : Nat) : Int) := by unfold wrap64; omega
  have w3 : wrap64 ((i : Int) + 1) = ((i + 1 : Nat) : Int) := by unfold wrap64; omega
  have hl : (bL t).length = 176 := by rw [bL_length]; exact ht
  have hw : (((bL t).take (4 * i + 4)).drop (4 * i)) = wordAt t i := rfl
  have hn : (wordAt t i).length = 4 := word_len t ht i (by omega)
  simp only [spec_KeyWords.l0]
  rw [if_pos (by omega), w1, w2, if_pos (by omega), if_pos (by omega), if_pos (by rw [hl]; omega), Int.toNat_natCast, Int.toNat_natCast, hw, l1Copy_self _ (by omega)]
  simp only [Option.bind_some]
  rw [if_pos (by rw [wordsTo_length]; omega), w3, wordsTo_next]
  exact ih
theorem keyWords_at (K : Nat) (hK : 100 ≤ K) (m : List (BitVec 8)) : ∃ (c : Int) (ws : List (List Int)), spec_KeyWords.f K (bL m) = some (c, ws) ∧ impl_KeyWords.f (bL m) = some (c, ws) ∧ (m.length = 16 ∧ c = 0 ∧ ws = wordsTo (schedL m) 44 ∨ c = 2 ∧ ws = []) := by
 unfold spec_KeyWords.f impl_KeyWords.f spec_l2Keys.f
 rw [if_pos (bL_isBs m), unB_bL]
 by_cases h : m.length = 16
 ·have hl : (bL m).length = 16 := by rw [bL_length]; exact h
  rw [if_pos (by rw [hl]; rfl), if_pos hl, if_pos ⟨bL_isBs m, hl⟩]
  simp only [Option.bind_some]
  refine ⟨0, wordsTo (schedL m) 44, ?_, rfl, .inl ⟨h, rfl, rfl⟩⟩
  exact words_loop (schedL m) (schedL_length m h) 0 44 K 0 rfl (by omega)
 ·have hl : ¬ (bL m).length = 16 := by rw [bL_length]; exact h
  rw [if_neg (by omega), if_neg hl]
  exact ⟨2, [], rfl, rfl, .inr ⟨rfl, rfl⟩⟩
theorem words_len (m : List (BitVec 8)) (hm : m.length = 176) : ∀ x ∈ wordsTo m 44, x.length = 4 := fun x hx => by
 unfold wordsTo at hx
 rw [List.mem_map] at hx
 obtain ⟨i, hi, rfl⟩ := hx
 exact word_len m hm i (List.mem_range.mp hi)
end Go.Proofs.Ytkjgdndaepobiaa.All
end
