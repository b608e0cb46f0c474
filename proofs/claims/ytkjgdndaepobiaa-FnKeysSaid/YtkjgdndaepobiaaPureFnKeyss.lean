-- Laid by wip/shake.py of this repo out of this claim's texts. Not trusted: Lean checks it.
import Derived.Test.YtkjgdndaepobiaaAllx172s
import Derived.Test.YtkjgdndaepobiaaAllx173s
import Derived.Test.YtkjgdndaepobiaaAllx20s
import Derived.Test.YtkjgdndaepobiaaAllx226s
import Derived.Test.YtkjgdndaepobiaaAllx33s
import Derived.Test.YtkjgdndaepobiaaAllx4s
import Derived.Test.YtkjgdndaepobiaaAllx576s
import Derived.Test.YtkjgdndaepobiaaLemDraws
set_option linter.unusedVariables false
set_option linter.unusedSimpArgs false
namespace Go.Proofs.Ytkjgdndaepobiaa.Pure
open Go.RowKit Go.Proofs.Ytkjgdndaepobiaa.All Go.Proofs.YtkjgdndaepobiaaW.PrintWords Go.Proofs.YtkjgdndaepobiaaW.PrintLast Go.Proofs.YtkjgdndaepobiaaW.PrintMore
theorem drawKW (l : List Int) (hb : ∀ x ∈ l, 0 ≤ x ∧ x < 256) (hl : l.length ≤ 1099511627776) (K : Nat) (hk : 1000 < K) : ∃ ys : List (BitVec 8), spec_DrawKeyWords.f K l = some (bL ys) := by
 unfold spec_DrawKeyWords.f spec_l1Source.f
 simp only [Option.bind_some]
 obtain ⟨a, ys, _, _, _, _, e1, e2⟩ := pick_some l hb hl K hk 0 (by omega) (by omega) [16, 16, 16, 15, 17] (by simp) (by decide)
 rw [e1]
 simp only [Option.bind_some]
 rw [e2]
 exact ⟨ys, rfl⟩
theorem drawRC (l : List Int) (hb : ∀ x ∈ l, 0 ≤ x ∧ x < 256) (hl : l.length ≤ 1099511627776) : ∃ i : Int, spec_DrawRoundConstant.f l = some i := by
 unfold spec_DrawRoundConstant.f spec_l1Source.f
 simp only [Option.bind_some]
 obtain ⟨i, hi, _⟩ := pick_at2 l hb hl 0 (by omega) (by omega) [1, 2, 8, 9, 10, 0, 11] (by simp)
 rw [hi]
 exact ⟨_, rfl⟩
theorem rc_both (k : Nat) (hk : 30 ≤ k) (i : Int) : ∃ c v, impl_RoundConstant.f k i = some (c, v) ∧ spec_RoundConstant.f k i = some (c, v) := by
 by_cases h : 1 ≤ i ∧ i ≤ 10
 ·obtain ⟨n, rfl⟩ : ∃ n : Nat, i = n := ⟨i.toNat, by omega⟩
  exact ⟨_, _, impl_rc k hk n (by omega) (by omega), spec_rc k hk n (by omega) (by omega)⟩
 ·exact ⟨_, _, impl_rc_no k i h, spec_rc_no k i h⟩
def wd (m : List (BitVec 8)) (i : Nat) : List (BitVec 8) := (m.take (4 * i + 4)).drop (4 * i)
theorem wd_at (m : List (BitVec 8)) (i : Nat) : wordAt m i = bL (wd m i) := by
 unfold wordAt wd bL
 rw [← List.map_take, ← List.map_drop]
theorem wd_length (m : List (BitVec 8)) (hm : m.length = 176) (i : Nat) (h : i < 44) : (wd m i).length = 4 := by
 unfold wd
 rw [List.length_drop, List.length_take]
 omega
theorem by_wd (m : List (BitVec 8)) (i j : Nat) (hj : j < 4) : by_ (wd m i) j = by_ m (4 * i + j) := by
 unfold wd by_
 rw [List.getD_eq_getElem?_getD, List.getD_eq_getElem?_getD, List.getElem?_drop, List.getElem?_take, if_pos (by omega)]
theorem by_left (xs ys : List (BitVec 8)) (j : Nat) (h : j < xs.length) : by_ (xs ++ ys) j = by_ xs j := by
 unfold by_
 rw [List.getD_eq_getElem?_getD, List.getD_eq_getElem?_getD, List.getElem?_append_left h]
theorem keyTo_left (key : List (BitVec 8)) (hk : key.length = 16) : ∀ (d n j : Nat), j < 16 + 4 * n → by_ (keyTo key (n + d)) j = by_ (keyTo key n) j
 | 0, n, j, _ => rfl
 | d + 1, n, j, h => by
  rw [show n + (d + 1) = (n + d) + 1 from rfl]
  show by_ (keyStep (keyTo key (n + d)) (16 + 4 * (n + d))) j = _
  unfold keyStep
  rw [by_left _ _ _ (by rw [keyTo_length key hk]; omega)]
  exact keyTo_left key hk d n j h
theorem sched_left (key : List (BitVec 8)) (hk : key.length = 16) (n j : Nat) (hn : n ≤ 40) (h : j < 16 + 4 * n) : by_ (schedL key) j = by_ (keyTo key n) j := by
 have := keyTo_left key hk (40 - n) n j h
 rw [show n + (40 - n) = 40 by omega] at this
 exact this
def SchedOf (m : List (BitVec 8)) : Prop := m.length = 176 ∧ ∀ n j, n < 40 → j < 4 → by_ m (16 + 4 * n + j) = by_ m (16 + 4 * n + j - 16) ^^^ keyT m (16 + 4 * n) j
theorem keyT_left (key : List (BitVec 8)) (hk : key.length = 16) (n j : Nat) (hn : n < 40) (hj : j < 4) : keyT (keyTo key n) (16 + 4 * n) j = keyT (schedL key) (16 + 4 * n) j := by
 unfold keyT
 by_cases h : (16 + 4 * n) % 16 = 0
 ·rw [if_pos h, if_pos h, sched_left key hk n _ (by omega) (by omega)]
 ·rw [if_neg h, if_neg h, sched_left key hk n _ (by omega) (by omega)]
theorem step_at (xs : List (BitVec 8)) (i j : Nat) (h : xs.length = i) (hj : j < 4) : by_ (keyStep xs i) (i + j) = by_ xs (i + j - 16) ^^^ keyT xs i j := by
 unfold keyStep
 generalize hf : (fun k => by_ xs (i + k - 16) ^^^ keyT xs i k) = f
 rw [show by_ xs (i + j - 16) ^^^ keyT xs i j = f j by rw [← hf]]
 unfold by_
 rw [List.getD_eq_getElem?_getD, List.getElem?_append_right (by omega), h, show i + j - i = j by omega, List.getElem?_map, List.getElem?_range hj]
 rfl
theorem sched_step (key : List (BitVec 8)) (hk : key.length = 16) : SchedOf (schedL key) := by
 refine ⟨schedL_length key hk, fun n j hn hj => ?_⟩
 have e1 := step_at (keyTo key n) (16 + 4 * n) j (keyTo_length key hk n) hj
 have e2 := sched_left key hk (n + 1) (16 + 4 * n + j) (by omega) (by omega)
 have e3 := sched_left key hk n (16 + 4 * n + j - 16) (by omega) (by omega)
 have e4 := keyT_left key hk n j hn hj
 rw [← e3, e4] at e1
 exact e2.trans e1
theorem eq4 (a b : List (BitVec 8)) (ha : a.length = 4) (hb : b.length = 4) (h : ∀ j < 4, by_ a j = by_ b j) : a = b := by
 refine List.ext_getElem (by omega) (fun i h1 h2 => ?_)
 have h3 := h i (by omega)
 unfold by_ at h3
 rw [List.getD_eq_getElem?_getD, List.getD_eq_getElem?_getD, List.getElem?_eq_getElem h1, List.getElem?_eq_getElem h2] at h3
 exact h3
theorem word_xor (m : List (BitVec 8)) (hk : SchedOf m) (i : Nat) (h4 : 4 ≤ i) (h44 : i < 44) (hm : i % 4 ≠ 0) : xorN (wd m (i - 4)) (wd m (i - 1)) = wd m i := by
 have hl := hk.1
 have l1 := wd_length _ hl (i - 4) (by omega)
 have l2 := wd_length _ hl (i - 1) (by omega)
 have l3 := wd_length _ hl i h44
 refine eq4 _ _ (by rw [xorN_length]; omega) l3 (fun j hj => ?_)
 have e : by_ (xorN (wd m (i - 4)) (wd m (i - 1))) j = by_ (wd m (i - 4)) j ^^^ by_ (wd m (i - 1)) j := tab_get _ _ _ (by omega)
 rw [e, by_wd _ _ _ hj, by_wd _ _ _ hj, by_wd _ _ _ hj]
 have s := hk.2 (i - 4) j (by omega) hj
 have n0 : ¬ (16 + 4 * (i - 4)) % 16 = 0 := by omega
 unfold keyT at s
 rw [if_neg n0] at s
 rw [show 4 * i + j = 16 + 4 * (i - 4) + j by omega, s]
 rw [show 16 + 4 * (i - 4) + j - 16 = 4 * (i - 4) + j by omega, show 16 + 4 * (i - 4) - 4 + j = 4 * (i - 1) + j by omega]
theorem word_last (m : List (BitVec 8)) (hk : SchedOf m) : xorN (wd m 40) (wd m 36) = [SB (by_ (wd m 39) 1) ^^^ rcon 9, SB (by_ (wd m 39) 2), SB (by_ (wd m 39) 3), SB (by_ (wd m 39) 0)] := by
 have hl := hk.1
 have l1 := wd_length _ hl 40 (by omega)
 have l2 := wd_length _ hl 36 (by omega)
 refine eq4 _ _ (by rw [xorN_length]; omega) rfl (fun j hj => ?_)
 have e : by_ (xorN (wd m 40) (wd m 36)) j = by_ (wd m 40) j ^^^ by_ (wd m 36) j := tab_get _ _ _ (by omega)
 have s := hk.2 36 j (by omega) hj
 unfold keyT at s
 rw [if_pos (by decide)] at s
 have q0 := by_wd m 39 0 (by omega)
 have q1 := by_wd m 39 1 (by omega)
 have q2 := by_wd m 39 2 (by omega)
 have q3 := by_wd m 39 3 (by omega)
 rw [q0, q1, q2, q3, e, by_wd _ _ _ hj, by_wd _ _ _ hj, show 4 * 40 + j = 16 + 4 * 36 + j by omega, s, show 16 + 4 * 36 + j - 16 = 4 * 36 + j by omega, BitVec.xor_comm, ← BitVec.xor_assoc, BitVec.xor_self, BitVec.zero_xor]
 clear s e q0 q1 q2 q3 l1 l2
 obtain rfl | rfl | rfl | rfl : j = 0 ∨ j = 1 ∨ j = 2 ∨ j = 3 := by omega
 ·rfl
 ·exact BitVec.xor_zero
 ·exact BitVec.xor_zero
 ·exact BitVec.xor_zero
theorem take_word (m : List (BitVec 8)) (i : Nat) : bL (m.take (4 * i)) ++ wordAt m i = bL (m.take (4 * (i + 1))) := by
 rw [wd_at, ← bL_append]
 unfold wd
 congr 1
 rw [show 4 * (i + 1) = 4 * i + 4 by omega]
 conv => rhs; rw [← List.take_append_drop (4 * i) (m.take (4 * i + 4)), List.take_take]
 rw [Nat.min_eq_left (by omega)]
theorem sched_take (key : List (BitVec 8)) (hk : key.length = 16) : (schedL key).take 16 = key := by
 have hl := schedL_length key hk
 refine List.ext_getElem (by rw [List.length_take]; omega) (fun i h1 h2 => ?_)
 have s := sched_left key hk 0 i (by omega) (by omega)
 unfold by_ at s
 rw [List.getD_eq_getElem?_getD, List.getD_eq_getElem?_getD, List.getElem?_eq_getElem (show i < (schedL key).length by omega), List.getElem?_eq_getElem (show i < (keyTo key 0).length from h2)] at s
 rw [List.getElem_take]
 exact s
theorem keys_last (key : List (BitVec 8)) (hk : key.length = 16) (k : Nat) (hK : 2000 < k) : laws_FnKeys.l1 (k + 1) (bL key) (bL ((schedL key).take (4 * 44))) ((44 : Nat) : Int) 0 (wordsTo (schedL key) 44) = some true := by
 have hl := schedL_length key hk
 have e36 := rd_words (schedL key) 36 (by omega)
 have e39 := rd_words (schedL key) 39 (by omega)
 have e40 := rd_words (schedL key) 40 (by omega)
 rw [wd_at] at e36 e39 e40
 have l39 := wd_length _ hl 39 (by omega)
 have hx := lwXorN k (wd (schedL key) 40) (wd (schedL key) 36) (by rw [wd_length _ hl 40 (by omega)]; omega) (by rw [wd_length _ hl 36 (by omega)]; omega) (by omega)
 simp only [laws_FnKeys.l1]
 rw [if_neg (by omega), if_pos (by rw [wordsTo_length]; omega), if_pos (by rw [wordsTo_length]; omega), show (40 : Int) = ((40 : Nat) : Int) from rfl, show (36 : Int) = ((36 : Nat) : Int) from rfl, show (39 : Int) = ((39 : Nat) : Int) from rfl, e40, e36, e39, hx]
 simp only [Option.bind_some]
 rw [bL_length, l39, if_pos (by rw [wordsTo_length]; omega), if_pos (by omega), show (1 : Int) = ((1 : Nat) : Int) from rfl, show (2 : Int) = ((2 : Nat) : Int) from rfl, show (3 : Int) = ((3 : Nat) : Int) from rfl, show (0 : Int) = ((0 : Nat) : Int) from rfl, rd_bL, rd_bL, rd_bL, rd_bL, spec_SubByte_at, spec_SubByte_at, spec_SubByte_at, spec_SubByte_at]
 simp only [Option.bind_some]
 rw [if_pos (by omega), if_pos (by omega), if_pos (by omega), if_pos (by rw [bL_length, List.length_take]; omega)]
 have ht : (bL ((schedL key).take (4 * 44))).take 16 = bL key := by
  have h0 : (bL ((schedL key).take (4 * 44))).take 16 = bL (((schedL key).take (4 * 44)).take 16) := by unfold bL; rw [← List.map_take]
  rw [h0, List.take_take, show min 16 (4 * 44) = 16 by omega, sched_take key hk]
 rw [ht, sameB]
 simp only [Option.bind_some, decide_true, if_true]
 rw [show (54 : Int) = bI (rcon 9) from by decide, bI_xor]
 have hw := word_last _ (sched_step key hk)
 unfold by_ at hw
 simp only [Int.toNat_natCast]
 generalize wd (schedL key) 39 = v at hw ⊢
 generalize xorN (wd (schedL key) 40) (wd (schedL key) 36) = u at hw ⊢
 rw [show ([bI (SB (v.getD 1 0#8) ^^^ rcon 9), bI (SB (v.getD 2 0#8)), bI (SB (v.getD 3 0#8)), bI (SB (v.getD 0 0#8))] : List Int) = bL u by rw [hw]; rfl, sameB]
 simp
theorem keys_l1 (key : List (BitVec 8)) (hk : key.length = 16) : ∀ (d k i : Nat), i + d = 44 → 4 ≤ i → d + 3000 < k → laws_FnKeys.l1 k (bL key) (bL ((schedL key).take (4 * 44))) (i : Int) 0 (wordsTo (schedL key) 44) = some true
 | 0, k, i, hi, h4, hkk => by
  obtain ⟨k, rfl⟩ : ∃ m, k = m + 1 := ⟨k - 1, by omega⟩
  obtain rfl : i = 44 := by omega
  exact keys_last key hk k (by omega)
 | d + 1, k, i, hi, h4, hkk => by
  obtain ⟨k, rfl⟩ : ∃ m, k = m + 1 := ⟨k - 1, by omega⟩
  have ih := keys_l1 key hk d k (i + 1) (by omega) (by omega) (by omega)
  have hl := schedL_length key hk
  have w1 : wrap64 ((i : Int) + 1) = ((i + 1 : Nat) : Int) := by unfold wrap64; omega
  have w4 : wrap64 ((i : Int) - 4) = ((i - 4 : Nat) : Int) := by unfold wrap64; omega
  have w0 : wrap64 ((i : Int) - 1) = ((i - 1 : Nat) : Int) := by unfold wrap64; omega
  have tm : Int.tmod (i : Int) 4 = ((i % 4 : Nat) : Int) := by
   rw [Int.tmod_eq_emod_of_nonneg (by omega)]
   omega
  simp only [laws_FnKeys.l1]
  rw [if_pos (by omega), tm, w1]
  by_cases h : i % 4 = 0
  ·rw [if_pos (by omega)]
   exact ih
  ·have hx := lwXorN k (wd (schedL key) (i - 4)) (wd (schedL key) (i - 1)) (by rw [wd_length _ hl _ (by omega)]; omega) (by rw [wd_length _ hl _ (by omega)]; omega) (by omega)
   rw [if_neg (by omega), w4, w0, if_pos (by omega), if_pos (by rw [wordsTo_length]; omega), if_pos (by omega), if_pos (by rw [wordsTo_length]; omega), rd_words _ _ (by omega), rd_words _ _ (by omega), rd_words _ i (by omega), wd_at, wd_at, wd_at, hx]
   simp only [Option.bind_some]
   rw [if_pos (by omega), if_pos (by rw [wordsTo_length]; omega), sameB, word_xor _ (sched_step key hk) i h4 (by omega) h]
   simp only [Option.bind_some, decide_true, if_true]
   exact ih
theorem keys_l0 (key : List (BitVec 8)) (hk : key.length = 16) : ∀ (d k i : Nat), i + d = 44 → d + 4000 < k → laws_FnKeys.l0 k (bL key) (bL ((schedL key).take (4 * i))) (i : Int) 0 (wordsTo (schedL key) 44) = some true
 | 0, k, i, hi, hkk => by
  obtain ⟨k, rfl⟩ : ∃ m, k = m + 1 := ⟨k - 1, by omega⟩
  obtain rfl : i = 44 := by omega
  simp only [laws_FnKeys.l0]
  rw [if_neg (by omega)]
  exact keys_l1 key hk 40 k 4 rfl (by omega) (by omega)
 | d + 1, k, i, hi, hkk => by
  obtain ⟨k, rfl⟩ : ∃ m, k = m + 1 := ⟨k - 1, by omega⟩
  have ih := keys_l0 key hk d k (i + 1) (by omega) (by omega)
  have hl := schedL_length key hk
  have w1 : wrap64 ((i : Int) + 1) = ((i + 1 : Nat) : Int) := by unfold wrap64; omega
  have hn : (wordAt (schedL key) i).length = 4 := word_len _ hl i (by omega)
  simp only [laws_FnKeys.l0]
  rw [if_pos (by omega), if_pos (by omega), if_pos (by rw [wordsTo_length]; omega), rd_words _ i (by omega), hn, if_pos (by rfl), if_pos (by rw [bL_length, List.length_take]; omega), w1, take_word]
  exact ih
theorem FnKeys : laws_FnKeys.Pure := by
 intro l0 _ _ hw
 obtain ⟨c, rfl⟩ := bL_of l0 hw
 refine ⟨10002, ?_⟩
 unfold laws_FnKeys.f laws_lwBig.f
 by_cases h : ((bL c).length : Int) > 1048576
 ·simp [h]
 have hb := bL_wf c
 have hl : (bL c).length ≤ 1099511627776 := by omega
 obtain ⟨key, hd⟩ := drawKW (bL c) hb hl 10002 (by omega)
 obtain ⟨i, hi⟩ := drawRC (bL c) hb hl
 obtain ⟨code, ws, hs, him, hf⟩ := keyWords_at 10002 (by omega) key
 obtain ⟨rc, rv, ri, rs⟩ := rc_both 10002 (by omega) i
 simp only [Option.bind_some]
 rw [if_neg (by simpa using h), hd]
 simp only [Option.bind_some]
 rw [him]
 simp only [Option.bind_some]
 rw [hi]
 simp only [Option.bind_some]
 rw [hs]
 simp only [Option.bind_some, if_true]
 rw [ri]
 simp only [Option.bind_some]
 rw [rs]
 simp only [Option.bind_some, beq_self_eq_true, Bool.not_true, Bool.or_false]
 show laws_FnKeys.j0 (10001 + 1) _ _ _ _ = _
 simp only [laws_FnKeys.j0]
 rw [if_neg (show ¬ (false = true) by decide)]
 rcases hf with ⟨hm, rfl, rfl⟩ | ⟨rfl, rfl⟩
 ·rw [if_pos rfl, if_pos (by rw [wordsTo_length]; rfl)]
  exact keys_l0 key hm 44 10001 0 rfl (by omega)
 ·rw [if_neg (by omega)]
  simp
end Go.Proofs.Ytkjgdndaepobiaa.Pure
