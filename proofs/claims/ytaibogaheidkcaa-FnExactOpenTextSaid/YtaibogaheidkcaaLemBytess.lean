-- Laid by wip/shake.py of this repo out of this claim's texts. Not trusted: Lean checks it.
import Derived.Test.YtaibogaheidkcaaAllx0s
import Derived.Test.YtaibogaheidkcaaAllx12s
import Derived.Test.YtaibogaheidkcaaAllx72s
import Derived.Test.YtaibogaheidkcaaAllx80s
import Derived.Test.YtaibogaheidkcaaAllx104s
import Derived.Test.YtaibogaheidkcaaAllx523s
import Derived.Test.YtaibogaheidkcaaLemGroups
import Derived.Test.YtaibogaheidkcaaAllx531s
import Derived.Test.YtaibogaheidkcaaAllx532s
import Derived.Test.YtaibogaheidkcaaAllx161s
import Derived.Test.YtaibogaheidkcaaAllx533s
import Derived.Test.YtaibogaheidkcaaAllx535s
import Derived.Test.YtaibogaheidkcaaAllx537s
import Derived.Test.YtaibogaheidkcaaDrawns
import Derived.Test.YtaibogaheidkcaaRowK
import Derived.Test.YtaibogaheidkcaaAllx107s
import Derived.Test.YtaibogaheidkcaaAllx109s
import Derived.Test.YtaibogaheidkcaaAllx163s
import Derived.Test.YtaibogaheidkcaaAllx539s
import Derived.Test.YtaibogaheidkcaaAllx540s
import Derived.Test.YtaibogaheidkcaaAllx543s
section
set_option linter.unusedVariables false
set_option linter.unusedSimpArgs false
namespace Go.Proofs.Ytaibogaheidkcaa.All
open Go.RowKit Go.Proofs.Ytaibogaheidkcaa.All Go.Proofs.YtaibogaheidkcaaW.PrintWords Go.Proofs.YtaibogaheidkcaaW.PrintLast Go.Proofs.YtaibogaheidkcaaW.PrintMore
theorem toB_loop (xs : List Int) (hn : xs.length ≤ 1048576) (d : Nat) : ∀ (k i : Nat) (ys : List Int), i + d = xs.length → d < k → ys.length = xs.length → ys.take i = xs.take i →
  laws_toByteS.l0 k xs ys (i : Int) = some xs := by
 induction d with
 | zero =>
  intro k i ys hi hk hl ht
  obtain ⟨k, rfl⟩ : ∃ m, k = m + 1 := ⟨k - 1, by omega⟩
  simp only [laws_toByteS.l0]
  rw [if_neg (by omega)]
  rw [List.take_of_length_le (by omega), List.take_of_length_le (by omega)] at ht
  rw [ht]
 | succ d ih =>
  intro k i ys hi hk hl ht
  obtain ⟨k, rfl⟩ : ∃ m, k = m + 1 := ⟨k - 1, by omega⟩
  have hw : wrap64 ((i : Int) + 1) = ((i + 1 : Nat) : Int) := by unfold wrap64; omega
  simp only [laws_toByteS.l0]
  rw [if_pos (by omega), if_pos (by omega), if_pos (by omega), hw]
  refine ih k (i + 1) _ (by omega) (by omega) (by rw [List.length_set]; exact hl) ?_
  rw [Int.toNat_natCast, List.take_succ_eq_append_getElem (by rw [List.length_set]; omega), List.take_succ_eq_append_getElem (show i < xs.length by omega), List.take_set_of_le (Nat.le_refl i), ht]
  congr 1
  rw [List.getElem_set_self]
  unfold rd
  rw [Int.toNat_natCast, List.getD_eq_getElem?_getD, List.getElem?_eq_getElem (by omega)]
  rfl
theorem toB (k : Nat) (xs : List Int) (hn : xs.length ≤ 1048576) (hk : xs.length < k) : laws_toByteS.f k xs = some xs := by
 unfold laws_toByteS.f
 rw [if_pos (by omega), if_pos (by omega)]
 exact toB_loop xs hn xs.length k 0 _ (by omega) hk (by simp) (by simp)
theorem eqB_loop (xs : List Int) (hn : xs.length ≤ 1048576) (d : Nat) : ∀ (k i : Nat), i + d = xs.length → d < k → laws_eqByteS.l0 k xs xs (i : Int) = some true := by
 induction d with
 | zero =>
  intro k i hi hk
  obtain ⟨k, rfl⟩ : ∃ m, k = m + 1 := ⟨k - 1, by omega⟩
  simp only [laws_eqByteS.l0]
  rw [if_neg (by omega)]
 | succ d ih =>
  intro k i hi hk
  obtain ⟨k, rfl⟩ : ∃ m, k = m + 1 := ⟨k - 1, by omega⟩
  have hw : wrap64 ((i : Int) + 1) = ((i + 1 : Nat) : Int) := by unfold wrap64; omega
  simp only [laws_eqByteS.l0]
  rw [if_pos (by omega), if_pos (by omega), if_pos (by omega), if_pos trivial, hw]
  exact ih k (i + 1) (by omega) (by omega)
theorem eqB (k : Nat) (xs : List Int) (hn : xs.length ≤ 1048576) (hk : xs.length < k) : laws_eqByteS.f k xs xs = some true := by
 unfold laws_eqByteS.f
 rw [if_pos rfl]
 exact eqB_loop xs hn xs.length k 0 (by omega) hk
end Go.Proofs.Ytaibogaheidkcaa.All
end
section
set_option linter.unusedVariables false
set_option linter.unusedSimpArgs false
namespace Go.Proofs.Ytaibogaheidkcaa.All
open Go.RowKit Go.Proofs.Ytaibogaheidkcaa.All Go.Proofs.YtaibogaheidkcaaW.PrintWords Go.Proofs.YtaibogaheidkcaaW.PrintLast Go.Proofs.YtaibogaheidkcaaW.PrintMore
def mkL : Nat → Nat → List Int
 | _, 0 => []
 | c, n + 1 => ((c % 256 : Nat) : Int) :: mkL (c + 1) n
theorem mkL_length : ∀ c n, (mkL c n).length = n
 | _, 0 => rfl
 | c, n + 1 => by simp [mkL, mkL_length (c + 1) n]
theorem markB_loop (d : Nat) : ∀ (k i c : Nat) (ys : List Int), i + d = ys.length → d < k → c + d < 2 ^ 60 → ys.length < 2 ^ 60 → laws_markByteS.l0 k ys (c : Int) (i : Int) = some (((c + d : Nat) : Int), ys.take i ++ mkL c d) := by
 induction d with
 | zero =>
  intro k i c ys hi hk hc hl
  obtain ⟨k, rfl⟩ : ∃ m, k = m + 1 := ⟨k - 1, by omega⟩
  simp only [laws_markByteS.l0, mkL]
  rw [if_neg (by omega), List.take_of_length_le (by omega), List.append_nil]
  rfl
 | succ d ih =>
  intro k i c ys hi hk hc hl
  obtain ⟨k, rfl⟩ : ∃ m, k = m + 1 := ⟨k - 1, by omega⟩
  have hw : wrap64 ((i : Int) + 1) = ((i + 1 : Nat) : Int) := by unfold wrap64; omega
  have hv0 : wrap64 ((c : Int) + 1) = ((c + 1 : Nat) : Int) := by unfold wrap64; omega
  have hm : ((c : Int) % 256) = ((c % 256 : Nat) : Int) := by omega
  simp only [laws_markByteS.l0]
  rw [if_pos (by omega), if_pos (by omega), hw, hv0, hm, ih k (i + 1) (c + 1) _ (by rw [List.length_set]; omega) (by omega) (by omega) (by rw [List.length_set]; omega)]
  rw [Int.toNat_natCast, List.take_succ_eq_append_getElem (by rw [List.length_set]; omega), List.take_set_of_le (Nat.le_refl i), List.getElem_set_self, List.append_assoc]
  simp only [mkL, List.singleton_append, show c + 1 + d = c + (d + 1) by omega]
theorem heldB_loop (d : Nat) : ∀ (k c : Nat) (pre : List Int), d < k → c + d < 2 ^ 60 → pre.length + d < 2 ^ 60 → laws_heldByteS.l0 k (pre ++ mkL c d) (c : Int) (pre.length : Int) = some ((c + d : Nat) : Int) := by
 induction d with
 | zero =>
  intro k c pre hk hc hl
  obtain ⟨k, rfl⟩ : ∃ m, k = m + 1 := ⟨k - 1, by omega⟩
  simp only [laws_heldByteS.l0, mkL, List.append_nil]
  rw [if_neg (by omega)]
  rfl
 | succ d ih =>
  intro k c pre hk hc hl
  obtain ⟨k, rfl⟩ : ∃ m, k = m + 1 := ⟨k - 1, by omega⟩
  have hw : wrap64 ((pre.length : Int) + 1) = (((pre ++ [((c % 256 : Nat) : Int)]).length : Nat) : Int) := by simp; unfold wrap64; omega
  have hv0 : wrap64 ((c : Int) + 1) = ((c + 1 : Nat) : Int) := by unfold wrap64; omega
  have hr : rd (pre ++ mkL c (d + 1)) (pre.length : Int) = (c : Int) % 256 := by
   unfold rd
   rw [Int.toNat_natCast, List.getD_eq_getElem?_getD, List.getElem?_append_right (Nat.le_refl _)]
   simp [mkL]
  have hs : pre ++ mkL c (d + 1) = (pre ++ [((c % 256 : Nat) : Int)]) ++ mkL (c + 1) d := by simp [mkL]
  simp only [laws_heldByteS.l0]
  rw [if_pos (by rw [List.length_append, mkL_length]; omega), if_pos (by omega), if_pos hr, hw, hv0, hs, ih k (c + 1) _ (by omega) (by omega) (by simp; omega)]
  rw [show c + 1 + d = c + (d + 1) by omega]
theorem markB (k : Nat) (xs : List Int) (hn : xs.length ≤ 1048576) (hk : xs.length < k) : laws_markByteS.f k xs 1 = some (((1 + xs.length : Nat) : Int), mkL 1 xs.length) := by
 unfold laws_markByteS.f
 have h := markB_loop xs.length k 0 1 xs (by omega) hk (by omega) (by omega)
 simpa using h
theorem heldB (k n : Nat) (hn : n ≤ 1048576) (hk : n < k) : laws_heldByteS.f k (mkL 1 n) 1 = some ((1 + n : Nat) : Int) := by
 unfold laws_heldByteS.f
 have h := heldB_loop n k 1 [] hk (by omega) (by simp; omega)
 simpa using h
theorem markBd (k c : Nat) (xs : List Int) (hc : c ≤ 1099511627776) (hn : xs.length ≤ 1048576) (hk : xs.length < k) : laws_markByteS.f k xs (c : Int) = some (((c + xs.length : Nat) : Int), mkL c xs.length) := by
 have h := markB_loop xs.length k 0 c xs (by omega) hk (by omega) (by omega)
 unfold laws_markByteS.f
 rw [show ((0 : Nat) : Int) = 0 from rfl] at h
 rw [h]
 simp
end Go.Proofs.Ytaibogaheidkcaa.All
end
section
set_option linter.unusedVariables false
set_option linter.unusedSimpArgs false
namespace Go.Proofs.Ytaibogaheidkcaa.All
open Go.RowKit Go.Proofs.Ytaibogaheidkcaa.All Go.Proofs.YtaibogaheidkcaaW.PrintWords Go.Proofs.YtaibogaheidkcaaW.PrintLast Go.Proofs.YtaibogaheidkcaaW.PrintMore
def rdW (a : Int) (b : BitVec 8) : Int := wrap64 (wrap64 (a * 256) + wrap64 (bI b))
theorem rdW_nat (n : Nat) (b : BitVec 8) (h : n < 1099511627776) : rdW (n : Int) b = ((n * 256 + b.toNat : Nat) : Int) := by
 have := b.isLt
 unfold rdW bI wrap64
 omega
theorem read_loop (xs : List (BitVec 8)) (s n : Nat) (hs : s + n ≤ xs.length) (hl : xs.length < 1099511627776) (d : Nat) : ∀ (k j : Nat) (acc : Int), j + d = n → d < k → spec_l1Read.l0 k (bL xs) (s : Int) (n : Int) acc (j : Int) = some (((xs.drop (s + j)).take d).foldl rdW acc) := by
 induction d with
 | zero =>
  intro k j acc hi hk
  obtain ⟨k, rfl⟩ : ∃ m, k = m + 1 := ⟨k - 1, by omega⟩
  simp only [spec_l1Read.l0]
  rw [if_neg (by omega)]
  simp
 | succ d ih =>
  intro k j acc hi hk
  obtain ⟨k, rfl⟩ : ∃ m, k = m + 1 := ⟨k - 1, by omega⟩
  have hw : wrap64 ((j : Int) + 1) = ((j + 1 : Nat) : Int) := by unfold wrap64; omega
  have hv9_ : wrap64 ((s : Int) + (j : Int)) = ((s + j : Nat) : Int) := by unfold wrap64; omega
  have hx : xs.drop (s + j) = xs.getD (s + j) 0#8 :: xs.drop (s + j + 1) := by
   rw [List.drop_eq_getElem_cons (by omega), List.getD_eq_getElem?_getD, List.getElem?_eq_getElem (by omega)]
   rfl
  simp only [spec_l1Read.l0, bL_length, hv9_]
  rw [if_pos (by omega), if_pos (by omega), if_pos (by omega), rd_bL, Int.toNat_natCast, hw, ih k (j + 1) _ (by omega) (by omega), hx]
  rfl
theorem read_at (k : Nat) (xs : List (BitVec 8)) (s n : Nat) (hs : s + n ≤ xs.length) (hl : xs.length < 1099511627776) (hk : n < k) : spec_l1Read.f k (bL xs) (s : Int) (n : Int) = some (((xs.drop s).take n).foldl rdW 0) := by
 unfold spec_l1Read.f
 exact read_loop xs s n hs hl n k 0 0 (by omega) hk
end Go.Proofs.Ytaibogaheidkcaa.All
end
section
set_option linter.unusedVariables false
set_option linter.unusedSimpArgs false
namespace Go.Proofs.Ytaibogaheidkcaa.All
open Go.RowKit Go.Proofs.Ytaibogaheidkcaa.All Go.Proofs.YtaibogaheidkcaaW.PrintWords Go.Proofs.YtaibogaheidkcaaW.PrintLast Go.Proofs.YtaibogaheidkcaaW.PrintMore
theorem fold4 {α : Type} (f : α → BitVec 8 → α) (z : α) (p0 p1 p2 p3 p4 p5 p6 p7 p8 p9 p10 p11 a b c d : BitVec 8) : (([p0, p1, p2, p3, p4, p5, p6, p7, p8, p9, p10, p11, a, b, c, d].drop 12).take 4).foldl f z = f (f (f (f z a) b) c) d := rfl
theorem read4 (k : Nat) (hk : 4 < k) (p0 p1 p2 p3 p4 p5 p6 p7 p8 p9 p10 p11 a b c d : BitVec 8) : spec_l1Read.f k (bL [p0, p1, p2, p3, p4, p5, p6, p7, p8, p9, p10, p11, a, b, c, d]) ((12 : Nat) : Int) ((4 : Nat) : Int) = some ((a.toNat * 16777216 + b.toNat * 65536 + c.toNat * 256 + d.toNat : Nat) : Int) := by
 have ha := a.isLt
 have hb := b.isLt
 have hc := c.isLt
 have hd := d.isLt
 rw [read_at k _ 12 4 (by simp) (by simp) hk]
 rw [fold4]
 rw [show (0 : Int) = ((0 : Nat) : Int) from rfl, rdW_nat 0 a (by omega), rdW_nat _ b (by omega), rdW_nat _ c (by omega), rdW_nat _ d (by omega)]
 have e : ∀ y z : Nat, y = z → some (y : Int) = some (z : Int) := fun y z h => by rw [h]
 apply e
 omega
theorem pack4 (k : Nat) (hk : 4 < k) (n : Nat) (hn : n < 2 ^ 32) : spec_l1Pack.f k (n : Int) ((4 : Nat) : Int) = some (bL [BitVec.ofNat 8 (n / 16777216), BitVec.ofNat 8 (n / 65536), BitVec.ofNat 8 (n / 256), BitVec.ofNat 8 n]) := by
 obtain ⟨k, rfl⟩ : ∃ m, k = m + 5 := ⟨k - 5, by omega⟩
 have q : ∀ m : Nat, m < 2 ^ 40 → wrap64 (Int.tdiv (m : Int) 256) = ((m / 256 : Nat) : Int) := fun m hm => by
  rw [Int.tdiv_eq_ediv_of_nonneg (by omega)]; unfold wrap64; omega
 have r : ∀ m : Nat, Int.tmod (m : Int) 256 % 256 = ((m % 256 : Nat) : Int) := fun m => by
  rw [Int.tmod_eq_emod_of_nonneg (by omega)]; omega
 rw [show ((4 : Nat) : Int) = 4 from rfl]
 unfold spec_l1Pack.f
 rw [if_pos (by omega), if_pos (by decide)]
 simp only [spec_l1Pack.l0, show wrap64 ((4 : Int) - 1) = 3 by decide +kernel, show wrap64 ((3 : Int) - 1) = 2 by decide +kernel, show wrap64 ((2 : Int) - 1) = 1 by decide +kernel, show wrap64 ((1 : Int) - 1) = 0 by decide +kernel, show wrap64 ((0 : Int) - 1) = -1 by decide +kernel, r]
 rw [q n (by omega)]
 simp only [r]
 rw [q _ (by omega)]
 simp only [r]
 rw [q _ (by omega)]
 simp only [r]
 simp [bL, bI]
 omega
theorem list16 (m : List (BitVec 8)) (h : m.length = 16) : ∃ p0 p1 p2 p3 p4 p5 p6 p7 p8 p9 p10 p11 a b c d, m = [p0, p1, p2, p3, p4, p5, p6, p7, p8, p9, p10, p11, a, b, c, d] := by
 refine ⟨by_ m 0, by_ m 1, by_ m 2, by_ m 3, by_ m 4, by_ m 5, by_ m 6, by_ m 7, by_ m 8, by_ m 9, by_ m 10, by_ m 11, by_ m 12, by_ m 13, by_ m 14, by_ m 15, ?_⟩
 have := (tab_self m).symm
 rw [h] at this
 exact this
theorem succ_ne (d : BitVec 8) : d + 1#8 ≠ 0#8 ↔ d.toNat ≠ 255 := by
 rw [Ne, ← BitVec.toNat_inj, BitVec.toNat_add]
 have := d.isLt
 simp
 omega
theorem upTo_stop (xs : List (BitVec 8)) (n i : Nat) (h : by_ xs i + 1#8 ≠ 0#8) : upTo xs (n + 1) i = xs.set i (by_ xs i + 1#8) := by
 rw [upTo, if_pos h]
theorem upTo_go (xs : List (BitVec 8)) (n i : Nat) (h : ¬ (by_ xs i + 1#8 ≠ 0#8)) : upTo xs (n + 1) i = upTo (xs.set i (by_ xs i + 1#8)) n (i - 1) := by
 rw [upTo, if_neg h]
theorem ofN (n : Nat) (x : BitVec 8) (hx : n % 256 = x.toNat) : BitVec.ofNat 8 n = x := BitVec.eq_of_toNat_eq (by simpa using hx)
theorem succ1 (x : BitVec 8) (hx : x + 1#8 ≠ 0#8) : (x + 1#8).toNat = x.toNat + 1 ∧ x.toNat ≠ 255 := by
 rw [succ_ne] at hx; rw [BitVec.toNat_add]; have := x.isLt; simp; omega
theorem succ0 (x : BitVec 8) (hx : ¬ (x + 1#8 ≠ 0#8)) : (x + 1#8).toNat = 0 ∧ x.toNat = 255 := by
 rw [succ_ne] at hx; rw [BitVec.toNat_add]; have := x.isLt; simp; omega
theorem up_list (p0 p1 p2 p3 p4 p5 p6 p7 p8 p9 p10 p11 a b c d : BitVec 8) (n : Nat) (hn : n = (a.toNat * 16777216 + b.toNat * 65536 + c.toNat * 256 + d.toNat + 1) % 4294967296) :
  [p0, p1, p2, p3, p4, p5, p6, p7, p8, p9, p10, p11, BitVec.ofNat 8 (n / 16777216), BitVec.ofNat 8 (n / 65536), BitVec.ofNat 8 (n / 256), BitVec.ofNat 8 n] = upL [p0, p1, p2, p3, p4, p5, p6, p7, p8, p9, p10, p11, a, b, c, d] := by
 have ha := a.isLt
 have hb := b.isLt
 have hc := c.isLt
 have hd := d.isLt
 by_cases h3 : d + 1#8 ≠ 0#8
 ·obtain ⟨s3, t3⟩ := succ1 d h3
  refine Eq.trans ?_ (upTo_stop [p0, p1, p2, p3, p4, p5, p6, p7, p8, p9, p10, p11, a, b, c, d] 3 15 h3).symm
  rw [ofN (n / 16777216) a (by omega), ofN (n / 65536) b (by omega), ofN (n / 256) c (by omega), ofN n (d + 1#8) (by omega)]
  rfl
 obtain ⟨s3, t3⟩ := succ0 d h3
 refine Eq.trans ?_ (upTo_go [p0, p1, p2, p3, p4, p5, p6, p7, p8, p9, p10, p11, a, b, c, d] 3 15 h3).symm
 by_cases h2 : c + 1#8 ≠ 0#8
 ·obtain ⟨s2, t2⟩ := succ1 c h2
  refine Eq.trans ?_ (upTo_stop [p0, p1, p2, p3, p4, p5, p6, p7, p8, p9, p10, p11, a, b, c, d + 1#8] 2 14 h2).symm
  rw [ofN (n / 16777216) a (by omega), ofN (n / 65536) b (by omega), ofN (n / 256) (c + 1#8) (by omega), ofN n (d + 1#8) (by omega)]
  rfl
 obtain ⟨s2, t2⟩ := succ0 c h2
 refine Eq.trans ?_ (upTo_go [p0, p1, p2, p3, p4, p5, p6, p7, p8, p9, p10, p11, a, b, c, d + 1#8] 2 14 h2).symm
 by_cases h1 : b + 1#8 ≠ 0#8
 ·obtain ⟨s1, t1⟩ := succ1 b h1
  refine Eq.trans ?_ (upTo_stop [p0, p1, p2, p3, p4, p5, p6, p7, p8, p9, p10, p11, a, b, c + 1#8, d + 1#8] 1 13 h1).symm
  rw [ofN (n / 16777216) a (by omega), ofN (n / 65536) (b + 1#8) (by omega), ofN (n / 256) (c + 1#8) (by omega), ofN n (d + 1#8) (by omega)]
  rfl
 obtain ⟨s1, t1⟩ := succ0 b h1
 refine Eq.trans ?_ (upTo_go [p0, p1, p2, p3, p4, p5, p6, p7, p8, p9, p10, p11, a, b, c + 1#8, d + 1#8] 1 13 h1).symm
 by_cases h0 : a + 1#8 ≠ 0#8
 ·obtain ⟨s0, t0⟩ := succ1 a h0
  refine Eq.trans ?_ (upTo_stop [p0, p1, p2, p3, p4, p5, p6, p7, p8, p9, p10, p11, a, b + 1#8, c + 1#8, d + 1#8] 0 12 h0).symm
  rw [ofN (n / 16777216) (a + 1#8) (by omega), ofN (n / 65536) (b + 1#8) (by omega), ofN (n / 256) (c + 1#8) (by omega), ofN n (d + 1#8) (by omega)]
  rfl
 obtain ⟨s0, t0⟩ := succ0 a h0
 refine Eq.trans ?_ (upTo_go [p0, p1, p2, p3, p4, p5, p6, p7, p8, p9, p10, p11, a, b + 1#8, c + 1#8, d + 1#8] 0 12 h0).symm
 rw [ofN (n / 16777216) (a + 1#8) (by omega), ofN (n / 65536) (b + 1#8) (by omega), ofN (n / 256) (c + 1#8) (by omega), ofN n (d + 1#8) (by omega)]
 rfl
theorem l3Count_at (k : Nat) (m : List (BitVec 8)) (h : m.length = 16) (hk : 4 < k) : spec_l3Count.f k (bL m) = some (bL (upL m)) := by
 obtain ⟨p0, p1, p2, p3, p4, p5, p6, p7, p8, p9, p10, p11, a, b, c, d, rfl⟩ := list16 m h
 have ha := a.isLt
 have hb := b.isLt
 have hc := c.isLt
 have hd := d.isLt
 unfold spec_l3Count.f
 rw [show (12 : Int) = ((12 : Nat) : Int) from rfl, show (4 : Int) = ((4 : Nat) : Int) from rfl, read4 k hk]
 simp only [Option.bind_some]
 rw [if_pos (by simp [bL]), show Int.tmod (wrap64 (((a.toNat * 16777216 + b.toNat * 65536 + c.toNat * 256 + d.toNat : Nat) : Int) + 1)) 4294967296 = (((a.toNat * 16777216 + b.toNat * 65536 + c.toNat * 256 + d.toNat + 1) % 4294967296 : Nat) : Int) from by
  rw [show wrap64 (((a.toNat * 16777216 + b.toNat * 65536 + c.toNat * 256 + d.toNat : Nat) : Int) + 1) = ((a.toNat * 16777216 + b.toNat * 65536 + c.toNat * 256 + d.toNat + 1 : Nat) : Int) by unfold wrap64; omega]
  rw [Int.tmod_eq_emod_of_nonneg (by omega)]
  omega]
 rw [pack4 k hk _ (by omega)]
 unfold spec_l1Copy.f
 simp only [Option.bind_some, bL_take]
 rw [if_pos (by simp [bL])]
 simp only [Option.bind_some]
 rw [if_pos (by simp [bL])]
 rw [← bL_nil, ← bL_append, ← bL_append, ← up_list _ _ _ _ _ _ _ _ _ _ _ _ _ _ _ _ _ rfl]
 rfl
end Go.Proofs.Ytaibogaheidkcaa.All
end
section
set_option linter.unusedVariables false
set_option linter.unusedSimpArgs false
namespace Go.Proofs.Ytaibogaheidkcaa.All
open Go.RowKit Go.Proofs.Ytaibogaheidkcaa.All Go.Proofs.YtaibogaheidkcaaW.PrintWords Go.Proofs.YtaibogaheidkcaaW.PrintLast Go.Proofs.YtaibogaheidkcaaW.PrintMore
def xr (a b : List Int) (i : Nat) : Int := Go.bits .xor .u8 (rd a (i : Int)) (rd b (i : Int))
def xrL (a b : List Int) (n : Nat) : List Int := (List.range n).map (xr a b)
theorem xrL_length (a b : List Int) (n : Nat) : (xrL a b n).length = n := by simp [xrL]
theorem xrL_succ (a b : List Int) (n : Nat) : xrL a b (n + 1) = xrL a b n ++ [xr a b n] := by simp [xrL, List.range_succ]
theorem xorSpec_loop (a b : List Int) (hl : b.length = a.length) (hn : a.length < 1099511627776) (d : Nat) : ∀ (k i : Nat), i + d = a.length → d < k → spec_l1Xor.l0 k a b (xrL a b i) (i : Int) = some (xrL a b a.length) := by
 induction d with
 | zero =>
  intro k i hi hk
  obtain ⟨k, rfl⟩ : ∃ m, k = m + 1 := ⟨k - 1, by omega⟩
  obtain rfl : i = a.length := by omega
  simp only [spec_l1Xor.l0]
  rw [if_neg (by omega)]
 | succ d ih =>
  intro k i hi hk
  obtain ⟨k, rfl⟩ : ∃ m, k = m + 1 := ⟨k - 1, by omega⟩
  have hw : wrap64 ((i : Int) + 1) = ((i + 1 : Nat) : Int) := by unfold wrap64; omega
  simp only [spec_l1Xor.l0]
  rw [if_pos (by omega), if_pos (by omega), if_pos (by omega), if_pos (by rw [xrL_length]; omega), hw]
  have h := ih k (i + 1) (by omega) (by omega)
  rw [xrL_succ] at h
  exact h
end Go.Proofs.Ytaibogaheidkcaa.All
end
section
set_option linter.unusedVariables false
set_option linter.unusedSimpArgs false
namespace Go.Proofs.Ytaibogaheidkcaa.All
open Go.RowKit Go.Proofs.Ytaibogaheidkcaa.All Go.Proofs.YtaibogaheidkcaaW.PrintWords Go.Proofs.YtaibogaheidkcaaW.PrintLast Go.Proofs.YtaibogaheidkcaaW.PrintMore
def xorB (a b : List (BitVec 8)) : List (BitVec 8) := tab 16 fun i => by_ a i ^^^ by_ b i
theorem xorB_length (a b : List (BitVec 8)) : (xorB a b).length = 16 := tab_length _ _
theorem by_outL (h l j : Nat) (hj : j < 16) : by_ (outL h l 8) j = outAt h l j := by
 unfold outL
 rw [tab_get _ _ _ hj, if_pos (by omega)]
theorem vB_bV (v : BitVec 128) : vB (bV v) = v := by
 apply BitVec.eq_of_getLsbD_eq
 intro i hi
 have h := vB_bit (bV v) (bV_length v) (127 - i) (by omega)
 rw [show 127 - (127 - i) = i by omega] at h
 rw [h]
 unfold bV
 rw [by_outL _ _ _ (by omega)]
 unfold outAt
 have p : ∀ n : Nat, 256 ^ n = 2 ^ (8 * n) := fun n => by rw [Nat.pow_mul]
 by_cases hq : (127 - i) / 8 < 8
 ·rw [if_pos hq, BitVec.getLsbD_ofNat, decide_eq_true (show 7 - (127 - i) % 8 < 8 by omega), Bool.true_and, p, Nat.testBit_div_two_pow]
  show (hiW v).getLsbD _ = _
  unfold hiW
  rw [BitVec.getLsbD_extractLsb', decide_eq_true (by omega), Bool.true_and]
  congr 1
  omega
 ·rw [if_neg hq, BitVec.getLsbD_ofNat, decide_eq_true (show 7 - (127 - i) % 8 < 8 by omega), Bool.true_and, p, Nat.testBit_div_two_pow]
  show (loW v).getLsbD _ = _
  unfold loW
  rw [BitVec.getLsbD_extractLsb', decide_eq_true (by omega), Bool.true_and]
  congr 1
  omega
theorem vB_xor (a b : List (BitVec 8)) (ha : a.length = 16) (hb : b.length = 16) : vB (xorB a b) = vB a ^^^ vB b := by
 apply BitVec.eq_of_getLsbD_eq
 intro i hi
 have h := vB_bit (xorB a b) (xorB_length a b) (127 - i) (by omega)
 have h1 := vB_bit a ha (127 - i) (by omega)
 have h2 := vB_bit b hb (127 - i) (by omega)
 rw [show 127 - (127 - i) = i by omega] at h h1 h2
 rw [BitVec.getLsbD_xor, h, h1, h2]
 unfold xorB
 rw [tab_get _ _ _ (by omega), BitVec.getLsbD_xor]
theorem l1Xor16 (k : Nat) (hk : 16 < k) (a b : List (BitVec 8)) (ha : a.length = 16) (hb : b.length = 16) : spec_l1Xor.f k (bL a) (bL b) = some (bL (xorB a b)) := by
 have h := xorSpec_loop (bL a) (bL b) (by rw [bL_length, bL_length, ha, hb]) (by rw [bL_length]; omega) 16 k 0 (by rw [bL_length]; omega) hk
 rw [show xrL (bL a) (bL b) 0 = [] from rfl, show ((0 : Nat) : Int) = 0 from rfl, bL_length, ha] at h
 unfold spec_l1Xor.f
 rw [h]
 congr 1
 unfold xrL xorB tab bL
 rw [List.map_map]
 refine List.map_congr_left fun i _ => ?_
 show xr (bL a) (bL b) i = bI (by_ a i ^^^ by_ b i)
 unfold xr
 rw [rd_bL, rd_bL, bI_xor, Int.toNat_natCast]
 rfl
theorem hash_step (hm : List (BitVec 8)) (hh : hm.length = 16) (d L : List (BitVec 8)) (hL : L.length = 16) (K i : Nat) (hi : 16 * (i + 1) ≤ d.length) (hl : d.length < 1099511627776) (hK : 200 ≤ K) :
  spec_l3Hash.l0 (K + 1) (bL hm) (bL d) (bL L) ((16 * i : Nat) : Int) = spec_l3Hash.l0 K (bL hm) (bL d) (bL (bV (gM (vB L ^^^ vB ((d.drop (16 * i)).take 16)) (vB hm)))) ((16 * (i + 1) : Nat) : Int) := by
 have w1 : wrap64 (((16 * i : Nat) : Int) + 16) = ((16 * (i + 1) : Nat) : Int) := by unfold wrap64; omega
 have hc : ((bL d).take (16 * (i + 1))).drop (16 * i) = bL ((d.drop (16 * i)).take 16) := by
  rw [bL_take, bL_drop, List.drop_take, show 16 * (i + 1) - 16 * i = 16 by omega]
 have hcl : ((d.drop (16 * i)).take 16).length = 16 := by rw [List.length_take, List.length_drop]; omega
 generalize (d.drop (16 * i)).take 16 = C at hc hcl
 have hx := l1Xor16 K (by omega) L C hL hcl
 have ht := l3Times_at K (by omega) (xorB L C) hm (xorB_length _ _) hh
 rw [vB_xor L C hL hcl, gM_comm] at ht
 have h1 : ((16 * (i + 1) : Nat) : Int) ≤ ((bL d).length : Int) := by rw [bL_length]; omega
 have h2 : (0 : Int) ≤ ((16 * i : Nat) : Int) := by omega
 have h3 : ((16 * i : Nat) : Int) ≤ ((16 * (i + 1) : Nat) : Int) := by omega
 generalize bL (bV (gM (vB L ^^^ vB C) (vB hm))) = T at ht
 generalize bL (xorB L C) = X at hx ht
 generalize bL C = Y at hc hx
 generalize bL L = Z at hx
 simp only [spec_l3Hash.l0]
 rw [w1, if_pos h1, if_pos h2, if_pos h3, Int.toNat_natCast, Int.toNat_natCast, hc, hx]
 simp only [Option.bind_some]
 rw [ht]
 simp only [Option.bind_some]
theorem hash_end (K i : Nat) (hm d : List (BitVec 8)) (Z : List Int) (hi : d.length = 16 * i) (hl : d.length < 1099511627776) : spec_l3Hash.l0 (K + 1) (bL hm) (bL d) Z ((16 * i : Nat) : Int) = some Z := by
 have w1 : wrap64 (((16 * i : Nat) : Int) + 16) = ((16 * (i + 1) : Nat) : Int) := by unfold wrap64; omega
 simp only [spec_l3Hash.l0]
 rw [w1, if_neg (by rw [bL_length]; omega)]
theorem hv_succ (h : BitVec 128) (n : Nat) (d : List (BitVec 8)) (s : BitVec 128) : hv h (n + 1) d s = hv h n (d.drop 16) (gM (s ^^^ vB (d.take 16)) h) := by rw [hv]
theorem hv_zero (h : BitVec 128) (d : List (BitVec 8)) (s : BitVec 128) : hv h 0 d s = s := by rw [hv]
theorem hash_loop (hm : List (BitVec 8)) (hh : hm.length = 16) (d : List (BitVec 8)) (hl : d.length < 1099511627776) (n : Nat) : ∀ (K i : Nat) (s : BitVec 128), d.length = 16 * (i + n) → 200 ≤ K → spec_l3Hash.l0 (K + (n + 1)) (bL hm) (bL d) (bL (bV s)) ((16 * i : Nat) : Int) = some (bL (bV (hv (vB hm) n (d.drop (16 * i)) s))) := by
 induction n with
 | zero =>
  intro K i s hd hK
  rw [hv_zero]
  exact hash_end K i hm d _ (by omega) hl
 | succ n ih =>
  intro K i s hd hK
  have hs := hash_step hm hh d (bV s) (bV_length s) (K + (n + 1)) i (by omega) hl (by omega)
  rw [vB_bV] at hs
  have e : (d.drop (16 * i)).drop 16 = d.drop (16 * (i + 1)) := by rw [List.drop_drop]; congr 1
  rw [hv_succ, e]
  generalize gM (s ^^^ vB ((d.drop (16 * i)).take 16)) (vB hm) = s2 at hs ⊢
  rw [show K + (n + 1 + 1) = K + (n + 1) + 1 from rfl, hs]
  exact ih K (i + 1) s2 (by omega) hK
theorem bV_zero : bL (bV 0#128) = List.replicate 16 0 := by decide +kernel
end Go.Proofs.Ytaibogaheidkcaa.All
end
section
set_option linter.unusedVariables false
set_option linter.unusedSimpArgs false
namespace Go.Proofs.Ytaibogaheidkcaa.All
open Go.RowKit Go.Proofs.Ytaibogaheidkcaa.All Go.Proofs.YtaibogaheidkcaaW.PrintWords Go.Proofs.YtaibogaheidkcaaW.PrintLast Go.Proofs.YtaibogaheidkcaaW.PrintMore
theorem take_snoc_str (ks m d : List (BitVec 8)) (t : Nat) (h : t < d.length) : (streamL ks m d).take (t + 1) = (streamL ks m d).take t ++ [by_ d t ^^^ padL ks m t] := by
 have hl : t < (streamL ks m d).length := by rw [streamL_length]; exact h
 rw [List.take_succ_eq_append_getElem hl]
 congr 2
 have e : by_ (streamL ks m d) t = by_ d t ^^^ padL ks m t := tab_get _ _ _ h
 rw [← e]
 unfold by_
 rw [List.getD_eq_getElem?_getD, List.getElem?_eq_getElem hl]
 rfl
theorem str_pad (ks m d : List (BitVec 8)) (q i : Nat) (hi : i < 16) (h : 16 * q + i < d.length) (hl : d.length < 1099511627776) :
  Go.bits .xor .u8 (rd (bL d) (wrap64 (((16 * q : Nat) : Int) + (i : Int)))) (rd (bL (encL ks (upN m q))) (i : Int)) = bI (by_ d (16 * q + i) ^^^ padL ks m (16 * q + i)) := by
 have w1 : wrap64 (((16 * q : Nat) : Int) + (i : Int)) = ((16 * q + i : Nat) : Int) := by unfold wrap64; omega
 have hp : padL ks m (16 * q + i) = by_ (encL ks (upN m q)) i := by
  have := pad_at ks m q (16 * q) (16 * q + i) rfl (by omega) (by omega)
  rw [← this, show 16 * q + i - 16 * q = i by omega]
 rw [w1, rd_bL, rd_bL, bI_xor, hp, Int.toNat_natCast, Int.toNat_natCast]
 rfl
theorem str_end (K q : Nat) (ks m d : List (BitVec 8)) (X : List Int) (h : d.length ≤ 16 * q) : spec_l3Stream.l0 (K + 1) (bL ks) X (bL d) (bL ((streamL ks m d).take (16 * q))) ((16 * q : Nat) : Int) = some (bL (streamL ks m d)) := by
 simp only [spec_l3Stream.l0]
 rw [if_neg (by rw [bL_length]; omega), List.take_of_length_le (by rw [streamL_length]; omega)]
theorem str_inner (ks m d : List (BitVec 8)) (hm : m.length = 16) (hl : d.length < 1099511627776) (q K0 : Nat)
  (ih : ∀ K, K0 ≤ K → spec_l3Stream.l0 K (bL ks) (bL (upN m (q + 1))) (bL d) (bL ((streamL ks m d).take (16 * (q + 1)))) ((16 * (q + 1) : Nat) : Int) = some (bL (streamL ks m d))) :
  ∀ j i K, i + j = 16 → 16 * q + i ≤ d.length → K0 + j + 6 ≤ K → spec_l3Stream.l1 K (bL ks) (bL (upN m q)) (bL d) (bL ((streamL ks m d).take (16 * q + i))) ((16 * q : Nat) : Int) (bL (encL ks (upN m q))) (i : Int) = some (bL (streamL ks m d)) := by
 have w2 : wrap64 (((16 * q : Nat) : Int) + 16) = ((16 * (q + 1) : Nat) : Int) ∨ 1099511627776 ≤ 16 * q := by
  by_cases h : 16 * q < 1099511627776
  ·left; unfold wrap64; omega
  ·right; omega
 have hup : bL (upL (upN m q)) = bL (upN m (q + 1)) := rfl
 intro j
 induction j with
 | zero =>
  intro i K hij hle hK
  obtain ⟨k, rfl⟩ : ∃ k, K = k + 1 := ⟨K - 1, by omega⟩
  rcases w2 with w2 | w2
  ·simp only [spec_l3Stream.l1]
   rw [if_neg (by omega), l3Count_at k _ (upN_length m q hm) (by omega)]
   simp only [Option.bind_some]
   rw [hup, w2, show 16 * q + i = 16 * (q + 1) by omega]
   exact ih k (by omega)
  ·omega
 | succ j jh =>
  intro i K hij hle hK
  obtain ⟨k, rfl⟩ : ∃ k, K = k + 1 := ⟨K - 1, by omega⟩
  have w1 : wrap64 (((16 * q : Nat) : Int) + (i : Int)) = ((16 * q + i : Nat) : Int) := by unfold wrap64; omega
  have w3 : wrap64 ((i : Int) + 1) = ((i + 1 : Nat) : Int) := by unfold wrap64; omega
  by_cases h : 16 * q + i < d.length
  ·have hp := str_pad ks m d q i (by omega) h hl
   have h2 := jh (i + 1) k (by omega) (by omega) (by omega)
   rw [show 16 * q + (i + 1) = 16 * q + i + 1 by omega, take_snoc_str ks m d _ h, bL_append] at h2
   simp only [spec_l3Stream.l1]
   rw [if_pos (by omega), hp, w1, if_pos (by rw [bL_length]; omega), if_pos (by omega), if_pos (by omega), if_pos (by rw [bL_length, encL_length]; omega), if_pos (by rw [bL_length, List.length_take]; omega), w3]
   exact h2
  ·rcases w2 with w2 | w2
   ·have e : 16 * q + i = d.length := by omega
    have e2 : (streamL ks m d).take (16 * q + i) = (streamL ks m d).take (16 * (q + 1)) := by
     rw [List.take_of_length_le (by rw [streamL_length]; omega), List.take_of_length_le (by rw [streamL_length]; omega)]
    simp only [spec_l3Stream.l1]
    rw [if_pos (by omega), w1, if_neg (by rw [bL_length]; omega), l3Count_at k _ (upN_length m q hm) (by omega)]
    simp only [Option.bind_some]
    rw [hup, w2, e2]
    exact ih k (by omega)
   ·omega
theorem str_outer (ks m d : List (BitVec 8)) (hk : ks.length = 176) (hm : m.length = 16) (hl : d.length < 1099511627776) : ∀ p q K, d.length ≤ 16 * (q + p) → 40 * p + 1 ≤ K →
  spec_l3Stream.l0 K (bL ks) (bL (upN m q)) (bL d) (bL ((streamL ks m d).take (16 * q))) ((16 * q : Nat) : Int) = some (bL (streamL ks m d)) := by
 intro p
 induction p with
 | zero =>
  intro q K h hK
  obtain ⟨k, rfl⟩ : ∃ k, K = k + 1 := ⟨K - 1, by omega⟩
  exact str_end k q ks m d _ (by omega)
 | succ p ih =>
  intro q K h hK
  obtain ⟨k, rfl⟩ : ∃ k, K = k + 1 := ⟨K - 1, by omega⟩
  by_cases hle : d.length ≤ 16 * q
  ·exact str_end k q ks m d _ hle
  ·have hin := str_inner ks m d hm hl q (40 * p + 1) (fun K' hK' => ih (q + 1) K' (by omega) hK') 16 0 k (by omega) (by omega) (by omega)
   simp only [spec_l3Stream.l0]
   rw [if_pos (by rw [bL_length]; omega)]
   unfold spec_l2Encrypt.f
   rw [if_pos ⟨bL_isBs _, bL_isBs _, by rw [bL_length]; exact hk, by rw [bL_length]; exact upN_length m q hm⟩, unB_bL, unB_bL]
   simp only [Option.bind_some]
   exact hin
theorem stream_at (K : Nat) (ks m d : List (BitVec 8)) (hk : ks.length = 176) (hm : m.length = 16) (hd : d.length ≤ 700) (hK : 3000 ≤ K) : spec_l3Stream.f K (bL ks) (bL m) (bL d) = some (bL (streamL ks m d)) :=
 str_outer ks m d hk hm (by omega) 50 0 K (by omega) (by omega)
theorem keys_at (m : List (BitVec 8)) (h : m.length = 16) : spec_l2Keys.f (bL m) = some (bL (schedL m)) := by
 unfold spec_l2Keys.f
 rw [if_pos ⟨bL_isBs _, by rw [bL_length]; exact h⟩, unB_bL]
end Go.Proofs.Ytaibogaheidkcaa.All
end
section
set_option linter.unusedVariables false
set_option linter.unusedSimpArgs false
namespace Go.Proofs.Ytaibogaheidkcaa.All
open Go.RowKit Go.Proofs.Ytaibogaheidkcaa.All Go.Proofs.YtaibogaheidkcaaW.PrintWords Go.Proofs.YtaibogaheidkcaaW.PrintLast Go.Proofs.YtaibogaheidkcaaW.PrintMore
theorem wordS_loop : ∀ (d K : Nat) (v : Nat) (ys : List Int), d ≤ ys.length → ys.length < 1099511627776 → v < 9223372036854775808 → d < K → spec_l1Pack.l0 K (v : Int) ys ((d : Int) - 1) = some (bL (packB v d) ++ ys.drop d)
 | 0, K, v, ys, h0, h1, hv9_, hk => by
  obtain ⟨K, rfl⟩ : ∃ m, K = m + 1 := ⟨K - 1, by omega⟩
  simp only [spec_l1Pack.l0]
  rw [if_neg (by omega)]
  rfl
 | d + 1, K, v, ys, h0, h1, hv9_, hk => by
  obtain ⟨K, rfl⟩ : ∃ m, K = m + 1 := ⟨K - 1, by omega⟩
  have hw : wrap64 (((d + 1 : Nat) : Int) - 1 - 1) = (d : Int) - 1 := by unfold wrap64; omega
  have hv2 : wrap64 (Int.tdiv (v : Int) 256) = ((v / 256 : Nat) : Int) := by
   rw [Int.tdiv_eq_ediv_of_nonneg (by omega)]; unfold wrap64; omega
  have hb : Int.tmod (v : Int) 256 % 256 = bI (BitVec.ofNat 8 v) := by
   rw [Int.tmod_eq_emod_of_nonneg (by omega), ← byte_of]
   omega
  have hd : (((d + 1 : Nat) : Int) - 1).toNat = d := by omega
  simp only [spec_l1Pack.l0]
  rw [if_pos (by omega), if_pos (by omega), if_pos (by omega), hw, hv2, hb, hd, wordS_loop d K (v / 256) _ (by rw [List.length_set]; omega) (by rw [List.length_set]; omega) (by omega) (by omega)]
  rw [List.drop_set, if_neg (by omega), Nat.sub_self, List.drop_eq_getElem_cons (show d < ys.length by omega), List.set_cons_zero, packB, bL_append, List.append_assoc]
  rfl
theorem wordS (K v m : Nat) (hm : m ≤ 8) (hv9_ : v < 9223372036854775808) (hk : 8 < K) : spec_l1Pack.f K (v : Int) (m : Int) = some (bL (packB v m)) := by
 have hw : wrap64 ((m : Int) - 1) = (m : Int) - 1 := by unfold wrap64; omega
 unfold spec_l1Pack.f
 rw [if_pos (by omega), if_pos (by omega), hw, Int.toNat_natCast, wordS_loop m K v _ (by simp) (by simp; omega) hv9_ (by omega)]
 rw [List.drop_of_length_le (by simp), List.append_nil]
theorem l1Copy_at (m : List (BitVec 8)) (h : m.length ≤ 100000) : spec_l1Copy.f (bL m) = some (bL m) := by
 unfold spec_l1Copy.f
 simp only [Option.bind_some, List.nil_append]
 rw [if_pos (by rw [bL_length]; simp; omega)]
theorem wholeS_loop : ∀ (r k : Nat) (m : List (BitVec 8)), r = (16 - m.length % 16) % 16 → m.length ≤ 100000 → r < k → spec_l3Whole.l0 k (bL m) = some (bL (m ++ List.replicate r 0#8))
 | 0, k, m, hr, hl, hk => by
  obtain ⟨k, rfl⟩ : ∃ q, k = q + 1 := ⟨k - 1, by omega⟩
  simp only [spec_l3Whole.l0]
  rw [if_pos (by rw [bL_length]; omega)]
  simp
 | r + 1, k, m, hr, hl, hk => by
  obtain ⟨k, rfl⟩ : ∃ q, k = q + 1 := ⟨k - 1, by omega⟩
  have ih := wholeS_loop r k (m ++ [0#8]) (by rw [List.length_append, List.length_singleton]; omega) (by rw [List.length_append, List.length_singleton]; omega) (by omega)
  rw [bL_append, List.append_assoc, List.singleton_append, ← List.replicate_succ] at ih
  simp only [spec_l3Whole.l0]
  rw [if_neg (by rw [bL_length]; omega), if_pos (by rw [bL_length]; omega)]
  exact ih
theorem wholeS_at (k : Nat) (hk : 100 < k) (m : List (BitVec 8)) (h : m.length ≤ 5000) : spec_l3Whole.f k (bL m) = some (bL (wholeL m)) := by
 unfold spec_l3Whole.f
 rw [l1Copy_at m (by omega)]
 simp only [Option.bind_some]
 exact wholeS_loop _ k m rfl (by omega) (by omega)
theorem list12 (m : List (BitVec 8)) (h : m.length = 12) : ∃ a b c d e f g i j k l n, m = [a, b, c, d, e, f, g, i, j, k, l, n] := by
 refine ⟨by_ m 0, by_ m 1, by_ m 2, by_ m 3, by_ m 4, by_ m 5, by_ m 6, by_ m 7, by_ m 8, by_ m 9, by_ m 10, by_ m 11, ?_⟩
 have := (tab_self m).symm
 rw [h] at this
 exact this
theorem startL_12 (m : List (BitVec 8)) (h : m.length = 12) : startL m = m ++ [0#8, 0#8, 0#8, 1#8] := by
 obtain ⟨a, b, c, d, e, f, g, i, j, k, l, n, rfl⟩ := list12 m h
 rfl
theorem first_at (m : List (BitVec 8)) (h : m.length = 12) : spec_l3First.f (bL m) = some (bL (startL m)) := by
 unfold spec_l3First.f
 rw [l1Copy_at m (by omega)]
 simp only [Option.bind_some]
 rw [if_pos (by rw [bL_length]; simp; omega), startL_12 m h, bL_append]
 rfl
theorem hash3_at (K : Nat) (hK : 1000 ≤ K) (h d : List (BitVec 8)) (hh : h.length = 16) (n0 : Nat) (hd : d.length = 16 * n0) (hn : n0 ≤ 100) : spec_l3Hash.f K (bL h) (bL d) = some (bL (bV (hv (vB h) n0 d 0#128))) := by
 unfold spec_l3Hash.f
 rw [if_pos (by omega)]
 have e := hash_loop h hh d (by omega) n0 (K - (n0 + 1)) 0 0#128 (by omega) (by omega)
 rw [show K - (n0 + 1) + (n0 + 1) = K by omega, bV_zero, Nat.mul_zero, List.drop_zero, show ((0 : Nat) : Int) = 0 from rfl] at e
 exact e
theorem enc2_at (ks m : List (BitVec 8)) (hk : ks.length = 176) (hm : m.length = 16) : spec_l2Encrypt.f (bL ks) (bL m) = some (bL (encL ks m)) := by
 unfold spec_l2Encrypt.f
 rw [if_pos ⟨bL_isBs _, bL_isBs _, by rw [bL_length]; exact hk, by rw [bL_length]; exact hm⟩, unB_bL, unB_bL]
theorem len_at (K n : Nat) (hK : 100 < K) (hn : n ≤ 700) : spec_l1Pack.f K (wrap64 (8 * (n : Int))) 8 = some (bL (lenL n)) := by
 have w : wrap64 (8 * (n : Int)) = ((8 * n : Nat) : Int) := by unfold wrap64; omega
 rw [w]
 exact wordS K (8 * n) 8 (by omega) (by omega) (by omega)
theorem tagS_at (K : Nat) (hK : 2000 ≤ K) (ks n e c : List (BitVec 8)) (hk : ks.length = 176) (hn : n.length = 12) (he : e.length ≤ 700) (hc : c.length ≤ 700) : spec_l3Tag.f K (bL ks) (bL n) (bL e) (bL c) = some (bL (tagL ks n e c)) := by
 have hl := dataL_length e c
 have h2 := wholeL_length e
 have h3 := wholeL_length c
 unfold spec_l3Tag.f
 rw [if_pos (by omega), show List.replicate 16 (0 : Int) = bL (tab 16 fun _ => 0#8) from by decide +kernel, enc2_at ks _ hk (tab_length _ _)]
 simp only [Option.bind_some]
 rw [wholeS_at K (by omega) e (by omega)]
 simp only [Option.bind_some]
 rw [wholeS_at K (by omega) c (by omega)]
 simp only [Option.bind_some]
 rw [if_pos (by rw [bL_length, bL_length]; omega), bL_length e, bL_length c, len_at K _ (by omega) he]
 simp only [Option.bind_some]
 rw [← bL_append, if_pos (by rw [bL_length, bL_length, List.length_append, lenL_length]; omega), len_at K _ (by omega) hc]
 simp only [Option.bind_some]
 rw [← bL_append, if_pos (by rw [bL_length, bL_length, List.length_append, List.length_append, lenL_length, lenL_length]; omega), first_at n hn]
 simp only [Option.bind_some]
 rw [enc2_at ks _ hk (startL_length _)]
 simp only [Option.bind_some]
 rw [← bL_append, show wholeL e ++ wholeL c ++ lenL e.length ++ lenL c.length = dataL e c from by unfold dataL; rw [List.append_assoc (wholeL e ++ wholeL c)], hash3_at K (by omega) _ _ (encL_length _ _) ((dataL e c).length / 16) (by omega) (by omega)]
 simp only [Option.bind_some]
 rw [l1Xor16 K (by omega) _ _ (encL_length _ _) (bV_length _)]
 simp only [Option.bind_some]
 rfl
theorem up_start (n : List (BitVec 8)) : (upL (startL n)).length = 16 := by rw [upL_length', startL_length]
theorem asked_at (a n e : List (BitVec 8)) : spec_l3Asked.f (bL a) (bL n) (bL e) = some (decide (a.length = 16 ∧ n.length = 12 ∧ e.length ≤ 100)) := by
 unfold spec_l3Asked.f
 rw [bL_length, bL_length, bL_length]
 by_cases h0 : a.length = 16
 ·rw [if_pos (by omega)]
  by_cases h1 : n.length = 12
  ·rw [if_pos (by omega)]
   congr 1
   rw [Bool.eq_iff_iff, decide_eq_true_iff, decide_eq_true_iff]
   omega
  ·rw [if_neg (by omega), decide_eq_false (fun q => h1 q.2.1)]
 ·rw [if_neg (by omega), decide_eq_false (fun q => h0 q.1)]
end Go.Proofs.Ytaibogaheidkcaa.All
end
