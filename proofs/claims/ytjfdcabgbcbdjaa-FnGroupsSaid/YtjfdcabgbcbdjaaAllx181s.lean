-- Laid by wip/shake.py of this repo out of this claim's texts. Not trusted: Lean checks it.
import Derived.Test.YtjfdcabgbcbdjaaAlgs
import Derived.Test.YtjfdcabgbcbdjaaAllx179s
import Derived.Test.YtjfdcabgbcbdjaaAllx180s
import Derived.Test.YtjfdcabgbcbdjaaAllx20s
import Derived.Test.YtjfdcabgbcbdjaaAllx31s
import Derived.Test.YtjfdcabgbcbdjaaAllx177s
import Derived.Test.YtjfdcabgbcbdjaaAllx178s
import Derived.Test.YtjfdcabgbcbdjaaAllx80s
import Derived.Test.YtjfdcabgbcbdjaaAllx523s
import Derived.Test.YtjfdcabgbcbdjaaAllx104s
import Derived.Test.YtjfdcabgbcbdjaaLemGroups
import Derived.Test.YtjfdcabgbcbdjaaAllx174s
import Derived.Test.YtjfdcabgbcbdjaaAllx99s
import Derived.Test.YtjfdcabgbcbdjaaAllx522s
import Derived.Test.YtjfdcabgbcbdjaaAllx97s
import Derived.Test.YtjfdcabgbcbdjaaAllx524s
import Derived.Test.YtjfdcabgbcbdjaaAllx105s
import Derived.Lib.Bytes
section
namespace Go.Proofs.Ytjfdcabgbcbdjaa.All
open Go.RowKit Go.Proofs.YtjfdcabgbcbdjaaW.PrintWords Go.Proofs.YtjfdcabgbcbdjaaW.PrintLast Go.Proofs.YtjfdcabgbcbdjaaW.PrintMore
attribute [local go_sem] max2_int min2_int max_two min_two max_three min_three max_four min_four
set_option linter.unusedVariables false
set_option linter.unusedSimpArgs false
attribute [local go_sem] fldGroups26_0 fldGroups26_1
def laws_FnGroups.Pure : Prop := ∀ (l0 : List Int), l0.length ≤ maxLen → l0.length * 1 ≤ 140737488351232 → (∀ x ∈ l0, (Lit.int .u8 x).wf = true) → ∃ k, laws_FnGroups.f k l0 = some true
theorem laws_FnGroups.walk (P : laws_FnGroups.Pure) (a0 : Option Addr) (len0 cap0 : Nat) (z0 : List Int) (w : World) (w0 : (a0 = none ∧ len0 = 0 ∧ cap0 = 0 ∧ z0 = []) ∨ ∃ x, a0 = some x ∧ len0 ≤ cap0 ∧ cap0 ≤ maxLen ∧ z0.length = cap0 ∧ (∀ i, i < z0.length → w.cell? (x.add i) = some (.int .u8 (z0.getD i 0))) ∧ ∀ n ∈ z0, (Lit.int .u8 n).wf = true) (y0 : len0 * 1 ≤ 140737488351232) :
  Calls Try.prog 7 #[.slice a0 len0 cap0] w fun e w' => e = .returned (.bool true) ∧ Below w.heap.size w w' := by
 obtain ⟨l0, rfl, hr0, hm0, hw0, hc0⟩ := ReadsInt.ofRowC w0
 obtain ⟨k, h⟩ := P l0 hm0 y0 hw0
 refine (laws_FnGroups.calls k _ _ l0 true w (Kd.C_of_reads (d := (0 : Int)) (h1 := fun _ => rfl) hr0) hc0 h rfl).mono ?_
 rintro e w' ⟨rfl, hd⟩
 exact ⟨rfl, hd⟩
end Go.Proofs.Ytjfdcabgbcbdjaa.All
end
section
set_option linter.unusedVariables false
set_option linter.unusedSimpArgs false
namespace Go.Proofs.Ytjfdcabgbcbdjaa.All
open Go.RowKit Go.Proofs.Ytjfdcabgbcbdjaa.All Go.Proofs.YtjfdcabgbcbdjaaW.PrintWords Go.Proofs.YtjfdcabgbcbdjaaW.PrintLast Go.Proofs.YtjfdcabgbcbdjaaW.PrintMore
theorem wr0 (x : Int) (h0 : 0 ≤ x) (h1 : x < 9223372036854775808) : wrap64 x = x := by unfold wrap64; omega
theorem rd_byte (l : List Int) (hb : ∀ x ∈ l, 0 ≤ x ∧ x < 256) (i : Int) : 0 ≤ rd l i ∧ rd l i < 256 := by
 unfold rd
 rw [List.getD_eq_getElem?_getD]
 rcases Nat.lt_or_ge i.toNat l.length with h | h
 ·rw [List.getElem?_eq_getElem h]
  exact hb _ (List.getElem_mem h)
 ·rw [List.getElem?_eq_none h]
  simp
theorem tm (x m : Int) (hx : 0 ≤ x) (hm : 0 < m) : 0 ≤ Int.tmod x m ∧ Int.tmod x m < m := ⟨Int.tmod_nonneg m hx, Int.tmod_lt_of_pos x hm⟩
theorem next_at (l : List Int) (hb : ∀ x ∈ l, 0 ≤ x ∧ x < 256) (hl : l.length ≤ 1099511627776) (n m : Int) (h0 : 0 ≤ n) (h1 : n ≤ 1048576) (hm : 1 ≤ m) : ∃ v, spec_l1Next.f l n m = some (v, n + 1) ∧ 0 ≤ v ∧ v < m := by
 have e1 : wrap64 (n + 1) = n + 1 := wr0 _ (by omega) (by omega)
 have e2 : wrap64 (n + 1 - 1) = n := by rw [wr0 _ (by omega) (by omega)]; omega
 have e3 : wrap64 (n * 7) = n * 7 := wr0 _ (by omega) (by omega)
 have e4 : wrap64 (n + 2) = n + 2 := wr0 _ (by omega) (by omega)
 unfold spec_l1Next.f
 rw [e1, e2, e1, e4, e3]
 rw [if_neg (by omega)]
 by_cases hz : (l.length : Int) = 0
 ·rw [if_pos hz, if_neg (by omega)]
  exact ⟨_, rfl, tm _ _ (by omega) (by omega)⟩
 rw [if_neg hz]
 have t0 := tm n (l.length : Int) h0 (by omega)
 have t1 := tm (n + 1) (l.length : Int) (by omega) (by omega)
 have t2 := tm (n + 2) (l.length : Int) (by omega) (by omega)
 have b0 := rd_byte l hb (Int.tmod n (l.length : Int))
 have b1 := rd_byte l hb (Int.tmod (n + 1) (l.length : Int))
 have b2 := rd_byte l hb (Int.tmod (n + 2) (l.length : Int))
 have q0 : 0 ≤ Int.tdiv n (l.length : Int) ∧ Int.tdiv n (l.length : Int) ≤ 1048576 := by
  refine ⟨Int.tdiv_nonneg h0 (by omega), ?_⟩
  rw [Int.tdiv_eq_ediv_of_nonneg h0]
  have := Int.ediv_le_self (l.length : Int) h0
  omega
 rw [if_pos t0.1, if_pos t0.2]
 generalize rd l (Int.tmod n (l.length : Int)) = a at *
 generalize rd l (Int.tmod (n + 1) (l.length : Int)) = b at *
 generalize rd l (Int.tmod (n + 2) (l.length : Int)) = c at *
 generalize Int.tdiv n (l.length : Int) = q at *
 have w1 : wrap64 a = a := wr0 _ (by omega) (by omega)
 have w2 : wrap64 b = b := wr0 _ (by omega) (by omega)
 have w3 : wrap64 c = c := wr0 _ (by omega) (by omega)
 have w4 : wrap64 q = q := wr0 _ (by omega) (by omega)
 have w5 : wrap64 (q * 37) = q * 37 := wr0 _ (by omega) (by omega)
 have w6 : wrap64 (a + q * 37) = a + q * 37 := wr0 _ (by omega) (by omega)
 have w7 : wrap64 ((a + q * 37) * 251) = (a + q * 37) * 251 := wr0 _ (by omega) (by omega)
 have w8 : wrap64 (b * 13) = b * 13 := wr0 _ (by omega) (by omega)
 have w9 : wrap64 ((a + q * 37) * 251 + b * 13) = (a + q * 37) * 251 + b * 13 := wr0 _ (by omega) (by omega)
 have w10 : wrap64 ((a + q * 37) * 251 + b * 13 + n) = (a + q * 37) * 251 + b * 13 + n := wr0 _ (by omega) (by omega)
 have w11 : wrap64 (((a + q * 37) * 251 + b * 13 + n) * 257) = ((a + q * 37) * 251 + b * 13 + n) * 257 := wr0 _ (by omega) (by omega)
 have w12 : wrap64 (((a + q * 37) * 251 + b * 13 + n) * 257 + c) = ((a + q * 37) * 251 + b * 13 + n) * 257 + c := wr0 _ (by omega) (by omega)
 simp only [w1, w2, w3, w4, w5, w6, w7, w8, w9, w10, w11, w12]
 by_cases h2 : m > 200
 ·rw [if_pos h2, if_pos t1.1, if_pos t1.2]
  by_cases h6 : m > 60000
  ·rw [if_pos h6, if_pos t2.1, if_pos t2.2, if_neg (by omega)]
   exact ⟨_, rfl, tm _ _ (by omega) (by omega)⟩
  ·rw [if_neg h6, if_neg (by omega)]
   exact ⟨_, rfl, tm _ _ (by omega) (by omega)⟩
 ·rw [if_neg h2, if_neg (by omega), if_neg (by omega)]
  exact ⟨_, rfl, tm _ _ (by omega) (by omega)⟩
end Go.Proofs.Ytjfdcabgbcbdjaa.All
end
section
set_option linter.unusedVariables false
set_option linter.unusedSimpArgs false
namespace Go.Proofs.Ytjfdcabgbcbdjaa.All
open Go.RowKit Go.Proofs.Ytjfdcabgbcbdjaa.All Go.Proofs.YtjfdcabgbcbdjaaW.PrintWords Go.Proofs.YtjfdcabgbcbdjaaW.PrintLast Go.Proofs.YtjfdcabgbcbdjaaW.PrintMore
theorem mod_bI2 (v : Int) : ∃ b : BitVec 8, v % 256 = bI b := ⟨BitVec.ofNat 8 (v % 256).toNat, by rw [bI_ofNat _ (by omega)]; omega⟩
theorem pick_at2 (l : List Int) (hb : ∀ x ∈ l, 0 ≤ x ∧ x < 256) (hl : l.length ≤ 1099511627776) (n : Int) (h0 : 0 ≤ n) (h1 : n ≤ 1048576) (xs : List Int) (hx : 1 ≤ xs.length) : ∃ i : Int, spec_l1Pick.f l n xs = some (rd xs i, n + 1) ∧ 0 ≤ i ∧ i < xs.length := by
 unfold spec_l1Pick.f
 obtain ⟨v, hv9_, v0, v1⟩ := next_at l hb hl n (xs.length : Int) h0 h1 (by omega)
 rw [hv9_]
 refine ⟨v, ?_, v0, v1⟩
 simp only [Option.bind_some]
 rw [if_pos v0, if_pos v1]
theorem some_loop (l : List Int) (hb : ∀ x ∈ l, 0 ≤ x ∧ x < 256) (hl : l.length ≤ 1099511627776) : ∀ (d K : Nat) (n : Int) (acc : List (BitVec 8)), 0 ≤ n → n + d ≤ 1048576 → acc.length + d ≤ 1099511627776 → d < K → ∃ ys : List (BitVec 8), ys.length = acc.length + d ∧ spec_l1Some.l0 K (d : Int) (bL acc) l n = some (bL ys, n + d)
 | 0, K, n, acc, h0, h1, h2, hk => by
  obtain ⟨K, rfl⟩ : ∃ m, K = m + 1 := ⟨K - 1, by omega⟩
  refine ⟨acc, rfl, ?_⟩
  simp only [spec_l1Some.l0]
  rw [if_neg (by omega)]
  simp
 | d + 1, K, n, acc, h0, h1, h2, hk => by
  obtain ⟨K, rfl⟩ : ∃ m, K = m + 1 := ⟨K - 1, by omega⟩
  obtain ⟨v, hv9_, _, _⟩ := next_at l hb hl n 256 h0 (by omega) (by omega)
  obtain ⟨b, eb⟩ := mod_bI2 v
  obtain ⟨ys, hy, he⟩ := some_loop l hb hl d K (n + 1) (acc ++ [b]) (by omega) (by omega) (by rw [List.length_append, List.length_singleton]; omega) (by omega)
  refine ⟨ys, by rw [hy, List.length_append, List.length_singleton]; omega, ?_⟩
  have hw : wrap64 (((d + 1 : Nat) : Int) - 1) = (d : Int) := by unfold wrap64; omega
  simp only [spec_l1Some.l0]
  rw [if_pos (by omega), hv9_]
  simp only [Option.bind_some]
  rw [if_pos (by rw [bL_length]; omega), hw, eb, show bL acc ++ [bI b] = bL (acc ++ [b]) by rw [bL_append]; rfl, he]
  congr 2
  omega
theorem some_at (l : List Int) (hb : ∀ x ∈ l, 0 ≤ x ∧ x < 256) (hl : l.length ≤ 1099511627776) (K : Nat) (n a : Int) (h0 : 0 ≤ n) (h1 : n ≤ 1000) (ha : 0 ≤ a) (ha2 : a ≤ 1000) (hk : 1000 < K) : ∃ ys : List (BitVec 8), (ys.length : Int) = a ∧ spec_l1Some.f K l n a = some (bL ys, n + a) := by
 obtain ⟨d, rfl⟩ : ∃ d : Nat, a = d := ⟨a.toNat, by omega⟩
 obtain ⟨ys, hy, he⟩ := some_loop l hb hl d K n [] h0 (by omega) (by simp; omega) (by omega)
 exact ⟨ys, by rw [hy]; simp, he⟩
theorem pick_bnd (xs : List Int) (lo hi : Int) (hx : ∀ x ∈ xs, lo ≤ x ∧ x ≤ hi) (i : Int) (h0 : 0 ≤ i) (h1 : i < xs.length) : lo ≤ rd xs i ∧ rd xs i ≤ hi := by
 unfold rd
 rw [List.getD_eq_getElem?_getD, List.getElem?_eq_getElem (by omega)]
 exact hx _ (List.getElem_mem _)
theorem pick_some (l : List Int) (hb : ∀ x ∈ l, 0 ≤ x ∧ x < 256) (hl : l.length ≤ 1099511627776) (K : Nat) (hk : 1000 < K) (n : Int) (h0 : 0 ≤ n) (h1 : n ≤ 900) (xs : List Int) (hx0 : 1 ≤ xs.length) (hx : ∀ x ∈ xs, (0 : Int) ≤ x ∧ x ≤ 900) :
  ∃ (a : Int) (ys : List (BitVec 8)), 0 ≤ a ∧ a ≤ 900 ∧ (∃ i : Int, 0 ≤ i ∧ i < xs.length ∧ a = rd xs i) ∧ (ys.length : Int) = a ∧ spec_l1Pick.f l n xs = some (a, n + 1) ∧ spec_l1Some.f K l (n + 1) a = some (bL ys, n + 1 + a) := by
 obtain ⟨i, hi, i0, i1⟩ := pick_at2 l hb hl n h0 (by omega) xs hx0
 have hr := pick_bnd xs 0 900 hx i i0 i1
 obtain ⟨ys, hy, he⟩ := some_at l hb hl K (n + 1) (rd xs i) (by omega) (by omega) (by omega) (by omega) hk
 exact ⟨_, ys, hr.1, hr.2, ⟨i, i0, i1, rfl⟩, hy, hi, he⟩
end Go.Proofs.Ytjfdcabgbcbdjaa.All
end
section
set_option linter.unusedVariables false
set_option linter.unusedSimpArgs false
namespace Go.Proofs.Ytjfdcabgbcbdjaa.All
open Go.RowKit Go.Proofs.Ytjfdcabgbcbdjaa.All Go.Proofs.YtjfdcabgbcbdjaaW.PrintWords Go.Proofs.YtjfdcabgbcbdjaaW.PrintLast Go.Proofs.YtjfdcabgbcbdjaaW.PrintMore
theorem l2Block_at (l : List Int) (hb : ∀ x ∈ l, 0 ≤ x ∧ x < 256) (hl : l.length ≤ 1099511627776) (K : Nat) (hk : 1000 < K) : ∃ ys : List (BitVec 8), ys.length ≤ 17 ∧ spec_l2Block.f K l = some (bL ys) := by
 unfold spec_l2Block.f spec_l1Source.f
 simp only [Option.bind_some]
 obtain ⟨i, hi, i0, i1⟩ := pick_at2 l hb hl 0 (by omega) (by omega) [16, 16, 16, 16, 15, 17, 0] (by simp)
 rw [hi]
 have hr : 0 ≤ rd [16, 16, 16, 16, 15, 17, 0] i ∧ rd [16, 16, 16, 16, 15, 17, 0] i ≤ 17 := by
  simp only [List.length_cons, List.length_nil] at i1
  have : i = 0 ∨ i = 1 ∨ i = 2 ∨ i = 3 ∨ i = 4 ∨ i = 5 ∨ i = 6 := by omega
  rcases this with rfl | rfl | rfl | rfl | rfl | rfl | rfl <;> exact ⟨by decide, by decide⟩
 simp only [Option.bind_some]
 obtain ⟨ys, hy, he⟩ := some_at l hb hl K (0 + 1) (rd [16, 16, 16, 16, 15, 17, 0] i) (by omega) (by omega) (by omega) (by omega) hk
 rw [he]
 exact ⟨ys, by omega, rfl⟩
end Go.Proofs.Ytjfdcabgbcbdjaa.All
end
section
set_option linter.unusedVariables false
set_option linter.unusedSimpArgs false
namespace Go.Proofs.Ytjfdcabgbcbdjaa.All
open Go.RowKit Go.Proofs.Ytjfdcabgbcbdjaa.All Go.Proofs.YtjfdcabgbcbdjaaW.PrintWords Go.Proofs.YtjfdcabgbcbdjaaW.PrintLast Go.Proofs.YtjfdcabgbcbdjaaW.PrintMore
theorem later_at (l : List Int) : spec_l1Later.f l 1 = some (l, 12) := by
 unfold spec_l1Later.f
 rw [show wrap64 (5 + wrap64 (7 * 1)) = 12 by decide +kernel]
end Go.Proofs.Ytjfdcabgbcbdjaa.All
end
section
set_option linter.unusedVariables false
set_option linter.unusedSimpArgs false
namespace Go.Proofs.Ytjfdcabgbcbdjaa.All
open Go.RowKit Go.Proofs.Ytjfdcabgbcbdjaa.All Go.Proofs.YtjfdcabgbcbdjaaW.PrintWords Go.Proofs.YtjfdcabgbcbdjaaW.PrintLast Go.Proofs.YtjfdcabgbcbdjaaW.PrintMore
theorem chance_at2 (l : List Int) (hb : ∀ x ∈ l, 0 ≤ x ∧ x < 256) (hl : l.length ≤ 1099511627776) (n m : Int) (h0 : 0 ≤ n) (h1 : n ≤ 1048576) (hm : 1 ≤ m) : ∃ b, spec_l1Chance.f l n m = some (b, n + 1) := by
 unfold spec_l1Chance.f
 obtain ⟨v, hv9_, _, _⟩ := next_at l hb hl n m h0 h1 hm
 rw [hv9_]
 exact ⟨_, rfl⟩
end Go.Proofs.Ytjfdcabgbcbdjaa.All
end
section
set_option linter.unusedVariables false
set_option linter.unusedSimpArgs false
namespace Go.Proofs.Ytjfdcabgbcbdjaa.All
open Go.RowKit Go.Proofs.Ytjfdcabgbcbdjaa.All Go.Proofs.YtjfdcabgbcbdjaaW.PrintWords Go.Proofs.YtjfdcabgbcbdjaaW.PrintLast Go.Proofs.YtjfdcabgbcbdjaaW.PrintMore
theorem drawGT (l : List Int) (hb : ∀ x ∈ l, 0 ≤ x ∧ x < 256) (hl : l.length ≤ 1099511627776) (K : Nat) (hk : 1000 < K) : ∃ a b : List (BitVec 8), a.length ≤ 900 ∧ b.length ≤ 17 ∧ spec_DrawGroupTimes.f K l = some (bL a, bL b) := by
 unfold spec_DrawGroupTimes.f
 rw [later_at]
 simp only [Option.bind_some]
 obtain ⟨a, ys, _, _, _, hy, e1, e2⟩ := pick_some l hb hl K hk 12 (by omega) (by omega) [16, 16, 16, 16, 15] (by simp) (by decide)
 rw [e1]
 simp only [Option.bind_some]
 rw [e2]
 simp only [Option.bind_some]
 obtain ⟨zs, hz, e3⟩ := l2Block_at l hb hl K hk
 rw [e3]
 exact ⟨ys, zs, by omega, hz, rfl⟩
theorem drawHA (l : List Int) (hb : ∀ x ∈ l, 0 ≤ x ∧ x < 256) (hl : l.length ≤ 1099511627776) (K : Nat) (hk : 1000 < K) : ∃ a b : List (BitVec 8), a.length ≤ 900 ∧ b.length ≤ 900 ∧ spec_DrawHashAll.f K l = some (bL a, bL b) := by
 unfold spec_DrawHashAll.f spec_l1Source.f
 simp only [Option.bind_some]
 obtain ⟨i, hi, i0, i1⟩ := pick_at2 l hb hl 0 (by omega) (by omega) [0, 16, 32, 48, 17] (by simp)
 have hr := pick_bnd [0, 16, 32, 48, 17] 0 48 (by decide) i i0 i1
 rw [hi]
 simp only [Option.bind_some]
 obtain ⟨c, hc⟩ := chance_at2 l hb hl (0 + 1) 30 (by omega) (by omega) (by omega)
 rw [hc]
 simp only [Option.bind_some]
 cases c
 ·rw [if_neg (by decide)]
  obtain ⟨a, ys, a0, a1, _, hy, e1, e2⟩ := pick_some l hb hl K hk (0 + 1 + 1) (by omega) (by omega) [16, 16, 16, 16, 17] (by simp) (by decide)
  rw [e1]
  simp only [Option.bind_some]
  rw [e2]
  simp only [Option.bind_some]
  obtain ⟨zs, hz, e3⟩ := some_at l hb hl K (0 + 1 + 1 + 1 + a) (rd [0, 16, 32, 48, 17] i) (by omega) (by omega) (by omega) (by omega) hk
  rw [e3]
  exact ⟨ys, zs, by omega, by omega, rfl⟩
 ·rw [if_pos rfl]
  obtain ⟨j, hj, j0, j1⟩ := pick_at2 l hb hl (0 + 1 + 1) (by omega) (by omega) [800, 816] (by simp)
  have hr2 := pick_bnd [800, 816] 0 816 (by decide) j j0 j1
  rw [hj]
  simp only [Option.bind_some]
  obtain ⟨i2, hi2, k0, k1⟩ := pick_at2 l hb hl (0 + 1 + 1 + 1) (by omega) (by omega) [16, 16, 16, 16, 17] (by simp)
  have hr3 := pick_bnd [16, 16, 16, 16, 17] 0 17 (by decide) i2 k0 k1
  rw [hi2]
  simp only [Option.bind_some]
  obtain ⟨ys, hy, e2⟩ := some_at l hb hl K (0 + 1 + 1 + 1 + 1) (rd [16, 16, 16, 16, 17] i2) (by omega) (by omega) (by omega) (by omega) hk
  rw [e2]
  simp only [Option.bind_some]
  obtain ⟨zs, hz, e3⟩ := some_at l hb hl K (0 + 1 + 1 + 1 + 1 + rd [16, 16, 16, 16, 17] i2) (rd [800, 816] j) (by omega) (by omega) (by omega) (by omega) hk
  rw [e3]
  exact ⟨ys, zs, by omega, by omega, rfl⟩
end Go.Proofs.Ytjfdcabgbcbdjaa.All
end
section
set_option linter.unusedVariables false
set_option linter.unusedSimpArgs false
namespace Go.Proofs.Ytjfdcabgbcbdjaa.All
open Go.RowKit Go.Proofs.Ytjfdcabgbcbdjaa.All Go.Proofs.YtjfdcabgbcbdjaaW.PrintWords Go.Proofs.YtjfdcabgbcbdjaaW.PrintLast Go.Proofs.YtjfdcabgbcbdjaaW.PrintMore
def xr (a b : List Int) (i : Nat) : Int := Go.bits .xor .u8 (rd a (i : Int)) (rd b (i : Int))
def xrL (a b : List Int) (n : Nat) : List Int := (List.range n).map (xr a b)
theorem xrL_length (a b : List Int) (n : Nat) : (xrL a b n).length = n := by simp [xrL]
theorem xrL_succ (a b : List Int) (n : Nat) : xrL a b (n + 1) = xrL a b n ++ [xr a b n] := by simp [xrL, List.range_succ]
theorem xorSpec_loop (a b : List Int) (hl : b.length = a.length) (hn : a.length < 1099511627776) (d : Nat) : ∀ (k i : Nat), i + d = a.length → d < k → spec_l1Xor.l0 k a b (xrL a b i) (i : Int) = some (xrL a b a.length) := by
 induction d with
 | zero =>
  intro k i hi hk
  obtain ⟨k, rfl⟩ : ∃ m, k = m + 1 := ⟨k - 1, by omega⟩
  obtain rfl : i = a.length := by omega
  simp only [spec_l1Xor.l0]
  rw [if_neg (by omega)]
 | succ d ih =>
  intro k i hi hk
  obtain ⟨k, rfl⟩ : ∃ m, k = m + 1 := ⟨k - 1, by omega⟩
  have hw : wrap64 ((i : Int) + 1) = ((i + 1 : Nat) : Int) := by unfold wrap64; omega
  simp only [spec_l1Xor.l0]
  rw [if_pos (by omega), if_pos (by omega), if_pos (by omega), if_pos (by rw [xrL_length]; omega), hw]
  have h := ih k (i + 1) (by omega) (by omega)
  rw [xrL_succ] at h
  exact h
end Go.Proofs.Ytjfdcabgbcbdjaa.All
end
section
set_option linter.unusedVariables false
set_option linter.unusedSimpArgs false
namespace Go.Proofs.Ytjfdcabgbcbdjaa.All
open Go.RowKit Go.Proofs.Ytjfdcabgbcbdjaa.All Go.Proofs.YtjfdcabgbcbdjaaW.PrintWords Go.Proofs.YtjfdcabgbcbdjaaW.PrintLast Go.Proofs.YtjfdcabgbcbdjaaW.PrintMore
def xorB (a b : List (BitVec 8)) : List (BitVec 8) := tab 16 fun i => by_ a i ^^^ by_ b i
theorem xorB_length (a b : List (BitVec 8)) : (xorB a b).length = 16 := tab_length _ _
theorem by_outL (h l j : Nat) (hj : j < 16) : by_ (outL h l 8) j = outAt h l j := by
 unfold outL
 rw [tab_get _ _ _ hj, if_pos (by omega)]
theorem vB_bV (v : BitVec 128) : vB (bV v) = v := by
 apply BitVec.eq_of_getLsbD_eq
 intro i hi
 have h := vB_bit (bV v) (bV_length v) (127 - i) (by omega)
 rw [show 127 - (127 - i) = i by omega] at h
 rw [h]
 unfold bV
 rw [by_outL _ _ _ (by omega)]
 unfold outAt
 have p : ∀ n : Nat, 256 ^ n = 2 ^ (8 * n) := fun n => by rw [Nat.pow_mul]
 by_cases hq : (127 - i) / 8 < 8
 ·rw [if_pos hq, BitVec.getLsbD_ofNat, decide_eq_true (show 7 - (127 - i) % 8 < 8 by omega), Bool.true_and, p, Nat.testBit_div_two_pow]
  show (hiW v).getLsbD _ = _
  unfold hiW
  rw [BitVec.getLsbD_extractLsb', decide_eq_true (by omega), Bool.true_and]
  congr 1
  omega
 ·rw [if_neg hq, BitVec.getLsbD_ofNat, decide_eq_true (show 7 - (127 - i) % 8 < 8 by omega), Bool.true_and, p, Nat.testBit_div_two_pow]
  show (loW v).getLsbD _ = _
  unfold loW
  rw [BitVec.getLsbD_extractLsb', decide_eq_true (by omega), Bool.true_and]
  congr 1
  omega
theorem vB_xor (a b : List (BitVec 8)) (ha : a.length = 16) (hb : b.length = 16) : vB (xorB a b) = vB a ^^^ vB b := by
 apply BitVec.eq_of_getLsbD_eq
 intro i hi
 have h := vB_bit (xorB a b) (xorB_length a b) (127 - i) (by omega)
 have h1 := vB_bit a ha (127 - i) (by omega)
 have h2 := vB_bit b hb (127 - i) (by omega)
 rw [show 127 - (127 - i) = i by omega] at h h1 h2
 rw [BitVec.getLsbD_xor, h, h1, h2]
 unfold xorB
 rw [tab_get _ _ _ (by omega), BitVec.getLsbD_xor]
theorem l1Xor16 (k : Nat) (hk : 16 < k) (a b : List (BitVec 8)) (ha : a.length = 16) (hb : b.length = 16) : spec_l1Xor.f k (bL a) (bL b) = some (bL (xorB a b)) := by
 have h := xorSpec_loop (bL a) (bL b) (by rw [bL_length, bL_length, ha, hb]) (by rw [bL_length]; omega) 16 k 0 (by rw [bL_length]; omega) hk
 rw [show xrL (bL a) (bL b) 0 = [] from rfl, show ((0 : Nat) : Int) = 0 from rfl, bL_length, ha] at h
 unfold spec_l1Xor.f
 rw [h]
 congr 1
 unfold xrL xorB tab bL
 rw [List.map_map]
 refine List.map_congr_left fun i _ => ?_
 show xr (bL a) (bL b) i = bI (by_ a i ^^^ by_ b i)
 unfold xr
 rw [rd_bL, rd_bL, bI_xor, Int.toNat_natCast]
 rfl
theorem hash_step (hm : List (BitVec 8)) (hh : hm.length = 16) (d L : List (BitVec 8)) (hL : L.length = 16) (K i : Nat) (hi : 16 * (i + 1) ≤ d.length) (hl : d.length < 1099511627776) (hK : 200 ≤ K) :
  spec_l3Hash.l0 (K + 1) (bL hm) (bL d) (bL L) ((16 * i : Nat) : Int) = spec_l3Hash.l0 K (bL hm) (bL d) (bL (bV (gM (vB L ^^^ vB ((d.drop (16 * i)).take 16)) (vB hm)))) ((16 * (i + 1) : Nat) : Int) := by
 have w1 : wrap64 (((16 * i : Nat) : Int) + 16) = ((16 * (i + 1) : Nat) : Int) := by unfold wrap64; omega
 have hc : ((bL d).take (16 * (i + 1))).drop (16 * i) = bL ((d.drop (16 * i)).take 16) := by
  rw [bL_take, bL_drop, List.drop_take, show 16 * (i + 1) - 16 * i = 16 by omega]
 have hcl : ((d.drop (16 * i)).take 16).length = 16 := by rw [List.length_take, List.length_drop]; omega
 generalize (d.drop (16 * i)).take 16 = C at hc hcl
 have hx := l1Xor16 K (by omega) L C hL hcl
 have ht := l3Times_at K (by omega) (xorB L C) hm (xorB_length _ _) hh
 rw [vB_xor L C hL hcl, gM_comm] at ht
 have h1 : ((16 * (i + 1) : Nat) : Int) ≤ ((bL d).length : Int) := by rw [bL_length]; omega
 have h2 : (0 : Int) ≤ ((16 * i : Nat) : Int) := by omega
 have h3 : ((16 * i : Nat) : Int) ≤ ((16 * (i + 1) : Nat) : Int) := by omega
 generalize bL (bV (gM (vB L ^^^ vB C) (vB hm))) = T at ht
 generalize bL (xorB L C) = X at hx ht
 generalize bL C = Y at hc hx
 generalize bL L = Z at hx
 simp only [spec_l3Hash.l0]
 rw [w1, if_pos h1, if_pos h2, if_pos h3, Int.toNat_natCast, Int.toNat_natCast, hc, hx]
 simp only [Option.bind_some]
 rw [ht]
 simp only [Option.bind_some]
theorem hash_end (K i : Nat) (hm d : List (BitVec 8)) (Z : List Int) (hi : d.length = 16 * i) (hl : d.length < 1099511627776) : spec_l3Hash.l0 (K + 1) (bL hm) (bL d) Z ((16 * i : Nat) : Int) = some Z := by
 have w1 : wrap64 (((16 * i : Nat) : Int) + 16) = ((16 * (i + 1) : Nat) : Int) := by unfold wrap64; omega
 simp only [spec_l3Hash.l0]
 rw [w1, if_neg (by rw [bL_length]; omega)]
theorem hv_succ (h : BitVec 128) (n : Nat) (d : List (BitVec 8)) (s : BitVec 128) : hv h (n + 1) d s = hv h n (d.drop 16) (gM (s ^^^ vB (d.take 16)) h) := by rw [hv]
theorem hv_zero (h : BitVec 128) (d : List (BitVec 8)) (s : BitVec 128) : hv h 0 d s = s := by rw [hv]
theorem hash_loop (hm : List (BitVec 8)) (hh : hm.length = 16) (d : List (BitVec 8)) (hl : d.length < 1099511627776) (n : Nat) : ∀ (K i : Nat) (s : BitVec 128), d.length = 16 * (i + n) → 200 ≤ K → spec_l3Hash.l0 (K + (n + 1)) (bL hm) (bL d) (bL (bV s)) ((16 * i : Nat) : Int) = some (bL (bV (hv (vB hm) n (d.drop (16 * i)) s))) := by
 induction n with
 | zero =>
  intro K i s hd hK
  rw [hv_zero]
  exact hash_end K i hm d _ (by omega) hl
 | succ n ih =>
  intro K i s hd hK
  have hs := hash_step hm hh d (bV s) (bV_length s) (K + (n + 1)) i (by omega) hl (by omega)
  rw [vB_bV] at hs
  have e : (d.drop (16 * i)).drop 16 = d.drop (16 * (i + 1)) := by rw [List.drop_drop]; congr 1
  rw [hv_succ, e]
  generalize gM (s ^^^ vB ((d.drop (16 * i)).take 16)) (vB hm) = s2 at hs ⊢
  rw [show K + (n + 1 + 1) = K + (n + 1) + 1 from rfl, hs]
  exact ih K (i + 1) s2 (by omega) hK
theorem bV_zero : bL (bV 0#128) = List.replicate 16 0 := by decide +kernel
end Go.Proofs.Ytjfdcabgbcbdjaa.All
end
section
set_option linter.unusedVariables false
set_option linter.unusedSimpArgs false
namespace Go.Proofs.Ytjfdcabgbcbdjaa.All
open Go.RowKit Go.Proofs.Ytjfdcabgbcbdjaa.All Go.Proofs.YtjfdcabgbcbdjaaW.PrintWords Go.Proofs.YtjfdcabgbcbdjaaW.PrintLast Go.Proofs.YtjfdcabgbcbdjaaW.PrintMore
theorem byte_ext (x y : BitVec 8) (h : ∀ t, t < 8 → x.getLsbD t = y.getLsbD t) : x = y := BitVec.eq_of_getLsbD_eq fun i hi => h i hi
theorem vB_inj (x y : List (BitVec 8)) (hx : x.length = 16) (hy : y.length = 16) (h : vB x = vB y) : x = y := by
 rw [tab_eq hx (fun i _ => rfl), tab_eq hy (fun i _ => rfl)]
 refine tab_congr fun j hj => byte_ext _ _ fun t ht => ?_
 have ex := vB_bit x hx (8 * j + (7 - t)) (by omega)
 have ey := vB_bit y hy (8 * j + (7 - t)) (by omega)
 rw [h, ey, show (8 * j + (7 - t)) / 8 = j by omega, show 7 - (8 * j + (7 - t)) % 8 = t by omega] at ex
 exact ex.symm
theorem bV_vB (x : List (BitVec 8)) (hx : x.length = 16) : bV (vB x) = x := vB_inj _ _ (bV_length _) hx (vB_bV _)
theorem bV_xor (u v : BitVec 128) : bV (u ^^^ v) = xorB (bV u) (bV v) := vB_inj _ _ (bV_length _) (xorB_length _ _) (by rw [vB_bV, vB_xor _ _ (bV_length _) (bV_length _), vB_bV, vB_bV])
def oneB : List (BitVec 8) := [128#8, 0#8, 0#8, 0#8, 0#8, 0#8, 0#8, 0#8, 0#8, 0#8, 0#8, 0#8, 0#8, 0#8, 0#8, 0#8]
theorem vB_one : vB oneB = BitVec.twoPow 128 127 := by decide +kernel
theorem gM_one (a : BitVec 128) : gM a (BitVec.twoPow 128 127) = a := mulX_one gX_add gB _ gB_rep a
theorem gM_addR (a b c : BitVec 128) : gM a (b ^^^ c) = gM a b ^^^ gM a c := mulX_add_right gX_add gB _ gB_rep a b c
theorem gM_addL (a b c : BitVec 128) : gM (a ^^^ b) c = gM a c ^^^ gM b c := mulX_add_left gX_add gB a b c
def xorM (a b : List (BitVec 8)) : List (BitVec 8) := tab (min a.length b.length) fun i => by_ a i ^^^ by_ b i
theorem xorM_length (a b : List (BitVec 8)) : (xorM a b).length = min a.length b.length := tab_length _ _
theorem xorM_16 (a b : List (BitVec 8)) (ha : a.length = 16) (hb : b.length = 16) : xorM a b = xorB a b := by unfold xorM xorB; rw [ha, hb]; rfl
theorem byDrop (m : List (BitVec 8)) (k i : Nat) : by_ (m.drop k) i = by_ m (k + i) := by
 unfold by_
 rw [List.getD_eq_getElem?_getD, List.getD_eq_getElem?_getD, List.getElem?_drop]
theorem byTake (m : List (BitVec 8)) (k i : Nat) (h : i < k) : by_ (m.take k) i = by_ m i := by
 unfold by_
 rw [List.getD_eq_getElem?_getD, List.getD_eq_getElem?_getD, List.getElem?_take, if_pos h]
theorem xorM_drop (a b : List (BitVec 8)) (h : a.length = b.length) (k : Nat) : (xorM a b).drop k = xorM (a.drop k) (b.drop k) := by
 have hl : ((xorM a b).drop k).length = min (a.drop k).length (b.drop k).length := by rw [List.length_drop, xorM_length, List.length_drop, List.length_drop]; omega
 rw [tab_eq hl (fun i _ => rfl)]
 unfold xorM
 refine tab_congr fun i hi => ?_
 rw [List.length_drop, List.length_drop] at hi
 rw [byDrop, tab_get _ _ _ (by omega), byDrop, byDrop]
theorem xorM_take (a b : List (BitVec 8)) (h : a.length = b.length) (k : Nat) : (xorM a b).take k = xorM (a.take k) (b.take k) := by
 have hl : ((xorM a b).take k).length = min (a.take k).length (b.take k).length := by rw [List.length_take, xorM_length, List.length_take, List.length_take]; omega
 rw [tab_eq hl (fun i _ => rfl)]
 unfold xorM
 refine tab_congr fun i hi => ?_
 rw [List.length_take, List.length_take] at hi
 rw [byTake _ _ _ (by omega), tab_get _ _ _ (by omega), byTake _ _ _ (by omega), byTake _ _ _ (by omega)]
theorem hv_lin (H : BitVec 128) : ∀ (n : Nat) (a b : List (BitVec 8)) (s t : BitVec 128), a.length = 16 * n → b.length = 16 * n → hv H n (xorM a b) (s ^^^ t) = hv H n a s ^^^ hv H n b t
 | 0, a, b, s, t, _, _ => by rw [hv_zero, hv_zero, hv_zero]
 | n + 1, a, b, s, t, ha, hb => by
  rw [hv_succ, hv_succ, hv_succ, xorM_drop a b (by omega), xorM_take a b (by omega), xorM_16 (a.take 16) (b.take 16) (by rw [List.length_take]; omega) (by rw [List.length_take]; omega), vB_xor (a.take 16) (b.take 16) (by rw [List.length_take]; omega) (by rw [List.length_take]; omega),
   xor4, gM_addL, hv_lin H n _ _ _ _ (by rw [List.length_drop]; omega) (by rw [List.length_drop]; omega)]
theorem lwXor_loop (a b : List (BitVec 8)) (ha : a.length < 1099511627776) (hb : b.length < 1099511627776) : ∀ (d K i : Nat), i + d = min a.length b.length → d < K → laws_lwXor.l0 K (bL a) (bL b) (bL ((xorM a b).take i)) (i : Int) = some (bL (xorM a b))
 | 0, K, i, hi, hk => by
  obtain ⟨K, rfl⟩ : ∃ m, K = m + 1 := ⟨K - 1, by omega⟩
  have e : (xorM a b).take i = xorM a b := List.take_of_length_le (by rw [xorM_length]; omega)
  simp only [laws_lwXor.l0]
  rw [e]
  by_cases h : (i : Int) < ((bL a).length : Int)
  ·rw [if_pos h, if_neg (by rw [bL_length] at h ⊢; omega)]
  ·rw [if_neg h]
 | d + 1, K, i, hi, hk => by
  obtain ⟨K, rfl⟩ : ∃ m, K = m + 1 := ⟨K - 1, by omega⟩
  have ih := lwXor_loop a b ha hb d K (i + 1) (by omega) (by omega)
  have hl : i < (xorM a b).length := by rw [xorM_length]; omega
  have e : by_ (xorM a b) i = by_ a i ^^^ by_ b i := tab_get _ _ _ (by omega)
  have es : (xorM a b).take (i + 1) = (xorM a b).take i ++ [by_ a i ^^^ by_ b i] := by
   rw [List.take_succ_eq_append_getElem hl, ← e]
   unfold by_
   rw [List.getD_eq_getElem?_getD, List.getElem?_eq_getElem hl]
   rfl
  have w1 : wrap64 ((i : Int) + 1) = ((i + 1 : Nat) : Int) := by unfold wrap64; omega
  rw [es, bL_append] at ih
  simp only [laws_lwXor.l0]
  rw [if_pos (by rw [bL_length]; omega), if_pos (by rw [bL_length]; omega), if_pos (by omega), if_pos (by rw [bL_length, List.length_take]; omega), w1, rd_bL, rd_bL, bI_xor, Int.toNat_natCast]
  exact ih
theorem lwXor_at (K : Nat) (a b : List (BitVec 8)) (ha : a.length ≤ 1000) (hb : b.length ≤ 1000) (hK : 1001 < K) : laws_lwXor.f K (bL a) (bL b) = some (bL (xorM a b)) := by
 unfold laws_lwXor.f
 exact lwXor_loop a b (by omega) (by omega) (min a.length b.length) K 0 (by omega) (by omega)
end Go.Proofs.Ytjfdcabgbcbdjaa.All
end
section
set_option linter.unusedVariables false
set_option linter.unusedSimpArgs false
namespace Go.Proofs.Ytjfdcabgbcbdjaa.All
open Go.RowKit Go.Proofs.Ytjfdcabgbcbdjaa.All Go.Proofs.YtjfdcabgbcbdjaaW.PrintWords Go.Proofs.YtjfdcabgbcbdjaaW.PrintLast Go.Proofs.YtjfdcabgbcbdjaaW.PrintMore
theorem bV_out (v : BitVec 128) : outL (wH v).toNat (wL v).toNat 8 = bV v := by
 unfold wH wL bV
 rw [Int.toNat_natCast, Int.toNat_natCast]
theorem group_g (k : Nat) (m n : List (BitVec 8)) (hm : m.length = 16) (hn : n.length = 16) (p q : Int) (hT : impl_element_times.f k (hiN m : Nat) (loN m : Nat) (hiN n : Nat) (loN n : Nat) = some (p, q)) (h1 : 0 ≤ p) (h2 : p < 18446744073709551616) (h3 : 0 ≤ q) (h4 : q < 18446744073709551616) : impl_GroupTimes.f k (bL m) (bL n) = some (0, bL (outL p.toNat q.toNat 8)) := by
 unfold impl_GroupTimes.f
 rw [if_pos ⟨bL_isBs _, bL_isBs _⟩, unB_bL, unB_bL]
 unfold impl_GroupTimes.g
 rw [if_pos ⟨hm, hn⟩, hT]
 simp only [Option.bind_some]
 rw [if_pos ⟨h1, h2, h3, h4⟩]
theorem impl_group_at (k : Nat) (hk : 150 ≤ k) (m n : List (BitVec 8)) (hm : m.length = 16) (hn : n.length = 16) : impl_GroupTimes.f k (bL m) (bL n) = some (0, bL (bV (gM (vB m) (vB n)))) := by
 have h := times_at k (by omega) (vB m) (vB n)
 rw [wH_vB, wL_vB, wH_vB, wL_vB] at h
 have h2 := group_g k m n hm hn _ _ h (wH_lo _) (wH_hi _) (wL_lo _) (wL_hi _)
 rw [bV_out] at h2
 exact h2
theorem impl_group_no (k : Nat) (m n : List (BitVec 8)) (h : ¬ (m.length = 16 ∧ n.length = 16)) : impl_GroupTimes.f k (bL m) (bL n) = some (2, []) := by
 unfold impl_GroupTimes.f
 rw [if_pos ⟨bL_isBs _, bL_isBs _⟩, unB_bL, unB_bL]
 unfold impl_GroupTimes.g
 rw [if_neg h]
theorem spec_group_at (k : Nat) (hk : 150 ≤ k) (m n : List (BitVec 8)) (hm : m.length = 16) (hn : n.length = 16) : spec_GroupTimes.f k (bL m) (bL n) = some (0, bL (bV (gM (vB m) (vB n)))) := by
 unfold spec_GroupTimes.f
 rw [if_pos (by rw [bL_length]; omega), if_pos (by rw [bL_length]; omega), l3Times_at k hk m n hm hn, gM_comm]
 rfl
theorem spec_group_no (k : Nat) (m n : List (BitVec 8)) (h : ¬ (m.length = 16 ∧ n.length = 16)) : spec_GroupTimes.f k (bL m) (bL n) = some (2, []) := by
 unfold spec_GroupTimes.f
 by_cases h1 : m.length = 16
 ·rw [if_pos (by rw [bL_length]; omega), if_neg (by rw [bL_length]; omega)]
 ·rw [if_neg (by rw [bL_length]; omega)]
end Go.Proofs.Ytjfdcabgbcbdjaa.All
end
section
set_option linter.unusedVariables false
set_option linter.unusedSimpArgs false
namespace Go.Proofs.Ytjfdcabgbcbdjaa.All
open Go.RowKit Go.Proofs.Ytjfdcabgbcbdjaa.All Go.Proofs.YtjfdcabgbcbdjaaW.PrintWords Go.Proofs.YtjfdcabgbcbdjaaW.PrintLast Go.Proofs.YtjfdcabgbcbdjaaW.PrintMore
theorem hashSpec (k : Nat) (hk : 1000 ≤ k) (h d : List (BitVec 8)) : spec_HashAll.f k (bL h) (bL d) = some (impl_HashAll.g h d) := by
 obtain ⟨K, rfl⟩ : ∃ K, k = K + 1 := ⟨k - 1, by omega⟩
 unfold spec_HashAll.f impl_HashAll.g
 rw [bL_length, bL_length]
 by_cases h0 : h.length = 16
 ·rw [if_pos (by omega), if_pos h0]
  simp only [spec_HashAll.j0]
  by_cases h1 : d.length > 800
  ·rw [if_pos (decide_eq_true (by omega)), if_pos h1]
  ·rw [if_neg (by simp; omega), if_neg h1, bL_length]
   by_cases h2 : d.length % 16 = 0
   ·rw [if_pos (by omega), if_pos h2]
    unfold spec_l3Hash.f
    rw [if_pos (by omega)]
    have e := hash_loop h h0 d (by omega) (d.length / 16) (K - (d.length / 16 + 1)) 0 0#128 (by omega) (by omega)
    rw [show K - (d.length / 16 + 1) + (d.length / 16 + 1) = K by omega, bV_zero, Nat.mul_zero, List.drop_zero, show ((0 : Nat) : Int) = 0 from rfl] at e
    rw [e]
    simp only [Option.bind_some]
   ·rw [if_neg (by omega), if_neg h2]
 ·rw [if_neg (by omega), if_neg h0]
  simp only [spec_HashAll.j0]
  rfl
end Go.Proofs.Ytjfdcabgbcbdjaa.All
end
section
set_option linter.unusedVariables false
set_option linter.unusedSimpArgs false
namespace Go.Proofs.Ytjfdcabgbcbdjaa.All
open Go.RowKit Go.Proofs.Ytjfdcabgbcbdjaa.All Go.Proofs.YtjfdcabgbcbdjaaW.PrintWords Go.Proofs.YtjfdcabgbcbdjaaW.PrintLast Go.Proofs.YtjfdcabgbcbdjaaW.PrintMore
theorem lwAt_at (l : List Int) (hb : ∀ x ∈ l, 0 ≤ x ∧ x < 256) (hl : l.length ≤ 1099511627776) (i n : Int) (h0 : 0 ≤ i) (h1 : i ≤ 1000) (hn : 1 ≤ n) : ∃ v, laws_lwAt.f l i n = some v ∧ 0 ≤ v ∧ v < n := by
 unfold laws_lwAt.f
 by_cases h : n ≤ 1
 ·rw [if_pos h]
  exact ⟨0, rfl, by omega, by omega⟩
 rw [if_neg h]
 have e7 : wrap64 (i * 7) = i * 7 := wr0 _ (by omega) (by omega)
 have e1 : wrap64 (i + 1) = i + 1 := wr0 _ (by omega) (by omega)
 rw [e7, e1]
 by_cases hz : (l.length : Int) = 0
 ·rw [if_pos hz, if_neg (by omega)]
  exact ⟨_, rfl, tm _ _ (by omega) (by omega)⟩
 rw [if_neg hz]
 have t0 := tm i (l.length : Int) h0 (by omega)
 have t1 := tm (i + 1) (l.length : Int) (by omega) (by omega)
 have b0 := rd_byte l hb (Int.tmod i (l.length : Int))
 have b1 := rd_byte l hb (Int.tmod (i + 1) (l.length : Int))
 have q0 : 0 ≤ Int.tdiv i (l.length : Int) ∧ Int.tdiv i (l.length : Int) ≤ 1000 := by
  refine ⟨Int.tdiv_nonneg h0 (by omega), ?_⟩
  rw [Int.tdiv_eq_ediv_of_nonneg h0]
  have := Int.ediv_le_self (l.length : Int) h0
  omega
 rw [if_pos t0.1, if_pos t0.2]
 generalize rd l (Int.tmod i (l.length : Int)) = a at *
 generalize rd l (Int.tmod (i + 1) (l.length : Int)) = b at *
 generalize Int.tdiv i (l.length : Int) = q at *
 have w1 : wrap64 a = a := wr0 _ (by omega) (by omega)
 have w2 : wrap64 b = b := wr0 _ (by omega) (by omega)
 have w4 : wrap64 q = q := wr0 _ (by omega) (by omega)
 have w5 : wrap64 (q * 3) = q * 3 := wr0 _ (by omega) (by omega)
 have w6 : wrap64 (a + q * 3) = a + q * 3 := wr0 _ (by omega) (by omega)
 have w7 : wrap64 ((a + q * 3) * 251) = (a + q * 3) * 251 := wr0 _ (by omega) (by omega)
 have w8 : wrap64 ((a + q * 3) * 251 + b) = (a + q * 3) * 251 + b := wr0 _ (by omega) (by omega)
 simp only [w1, w2, w4, w5, w6, w7, w8]
 by_cases h2 : n > 200
 ·rw [if_pos h2, if_pos t1.1, if_pos t1.2, if_neg (by omega)]
  exact ⟨_, rfl, tm _ _ (by omega) (by omega)⟩
 ·rw [if_neg h2, if_neg (by omega)]
  exact ⟨_, rfl, tm _ _ (by omega) (by omega)⟩
end Go.Proofs.Ytjfdcabgbcbdjaa.All
end
section
set_option linter.unusedVariables false
set_option linter.unusedSimpArgs false
namespace Go.Proofs.Ytjfdcabgbcbdjaa.All
open Go.RowKit Go.Proofs.Ytjfdcabgbcbdjaa.All Go.Proofs.YtjfdcabgbcbdjaaW.PrintWords Go.Proofs.YtjfdcabgbcbdjaaW.PrintLast Go.Proofs.YtjfdcabgbcbdjaaW.PrintMore
theorem bytesB_inj : ∀ (x y : List (BitVec 8)), ((bL x).map fun n => UInt8.ofNat n.toNat) = ((bL y).map fun n => UInt8.ofNat n.toNat) → x = y
 | [], [], _ => rfl
 | [], _ :: _, h => by simp [bL] at h
 | _ :: _, [], h => by simp [bL] at h
 | a :: x, b :: y, h => by
  simp only [bL_cons, List.map_cons, List.cons.injEq] at h
  have e := congrArg UInt8.toNat h.1
  have ha := a.isLt
  have hb := b.isLt
  have e2 : a.toNat = b.toNat := by
   unfold bI at e
   simp only [Int.toNat_natCast, UInt8.toNat_ofNat'] at e
   omega
  rw [BitVec.eq_of_toNat_eq e2, bytesB_inj x y h.2]
theorem strB (x y : List (BitVec 8)) : ((strOfNums (bL x)).toList = (strOfNums (bL y)).toList) ↔ x = y := by
 rw [Go.Lib.strOfNums_toList, Go.Lib.strOfNums_toList]
 exact ⟨bytesB_inj x y, fun e => by rw [e]⟩
end Go.Proofs.Ytjfdcabgbcbdjaa.All
end
section
set_option linter.unusedVariables false
set_option linter.unusedSimpArgs false
namespace Go.Proofs.Ytjfdcabgbcbdjaa.All
open Go.RowKit Go.Proofs.Ytjfdcabgbcbdjaa.All Go.Proofs.YtjfdcabgbcbdjaaW.PrintWords Go.Proofs.YtjfdcabgbcbdjaaW.PrintLast Go.Proofs.YtjfdcabgbcbdjaaW.PrintMore
theorem sameB (x y : List (BitVec 8)) : laws_lwSame.f (bL x) (bL y) = some (decide (x = y)) := by
 unfold laws_lwSame.f
 congr 1
 rw [Bool.eq_iff_iff, beq_iff_eq, decide_eq_true_iff]
 exact strB x y
end Go.Proofs.Ytjfdcabgbcbdjaa.All
end
