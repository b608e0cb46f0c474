import Derived.Test.YtjfdcabgbcbdjaaAllx0
import Derived.Test.YtjfdcabgbcbdjaaAllx32
import Derived.Test.YtjfdcabgbcbdjaaLemReadL
set_option linter.unusedVariables false
set_option linter.unusedSimpArgs false
namespace Go.Proofs.Ytjfdcabgbcbdjaa.All
open Go.RowKit Go.Proofs.Ytjfdcabgbcbdjaa.All Go.Proofs.YtjfdcabgbcbdjaaW.PrintWords Go.Proofs.YtjfdcabgbcbdjaaW.PrintLast Go.Proofs.YtjfdcabgbcbdjaaW.PrintMore
/-! ### the reference's count of a block -/
theorem fold4 {α : Type} (f : α → BitVec 8 → α) (z : α) (p0 p1 p2 p3 p4 p5 p6 p7 p8 p9 p10 p11 a b c d : BitVec 8) : (([p0, p1, p2, p3, p4, p5, p6, p7, p8, p9, p10, p11, a, b, c, d].drop 12).take 4).foldl f z = f (f (f (f z a) b) c) d := rfl
theorem read4 (k : Nat) (hk : 4 < k) (p0 p1 p2 p3 p4 p5 p6 p7 p8 p9 p10 p11 a b c d : BitVec 8) : spec_l1Read.f k (bL [p0, p1, p2, p3, p4, p5, p6, p7, p8, p9, p10, p11, a, b, c, d]) ((12 : Nat) : Int) ((4 : Nat) : Int) = some ((a.toNat * 16777216 + b.toNat * 65536 + c.toNat * 256 + d.toNat : Nat) : Int) := by
  have ha := a.isLt
  have hb := b.isLt
  have hc := c.isLt
  have hd := d.isLt
  rw [read_at k _ 12 4 (by simp) (by simp) hk]
  rw [fold4]
  rw [show (0 : Int) = ((0 : Nat) : Int) from rfl, rdW_nat 0 a (by omega), rdW_nat _ b (by omega), rdW_nat _ c (by omega), rdW_nat _ d (by omega)]
  have e : ∀ y z : Nat, y = z → some (y : Int) = some (z : Int) := fun y z h => by rw [h]
  apply e
  omega
theorem pack4 (k : Nat) (hk : 4 < k) (n : Nat) (hn : n < 2 ^ 32) : spec_l1Pack.f k (n : Int) ((4 : Nat) : Int) = some (bL [BitVec.ofNat 8 (n / 16777216), BitVec.ofNat 8 (n / 65536), BitVec.ofNat 8 (n / 256), BitVec.ofNat 8 n]) := by
  obtain ⟨k, rfl⟩ : ∃ m, k = m + 5 := ⟨k - 5, by omega⟩
  have q : ∀ m : Nat, m < 2 ^ 40 → wrap64 (Int.tdiv (m : Int) 256) = ((m / 256 : Nat) : Int) := fun m hm => by
    rw [Int.tdiv_eq_ediv_of_nonneg (by omega)]; unfold wrap64; omega
  have r : ∀ m : Nat, Int.tmod (m : Int) 256 % 256 = ((m % 256 : Nat) : Int) := fun m => by
    rw [Int.tmod_eq_emod_of_nonneg (by omega)]; omega
  rw [show ((4 : Nat) : Int) = 4 from rfl]
  unfold spec_l1Pack.f
  rw [if_pos (by omega), if_pos (by decide)]
  simp only [spec_l1Pack.l0, show wrap64 ((4 : Int) - 1) = 3 by decide +kernel, show wrap64 ((3 : Int) - 1) = 2 by decide +kernel, show wrap64 ((2 : Int) - 1) = 1 by decide +kernel, show wrap64 ((1 : Int) - 1) = 0 by decide +kernel, show wrap64 ((0 : Int) - 1) = -1 by decide +kernel, r]
  rw [q n (by omega)]
  simp only [r]
  rw [q _ (by omega)]
  simp only [r]
  rw [q _ (by omega)]
  simp only [r]
  simp [bL, bI]
  omega
theorem list16 (m : List (BitVec 8)) (h : m.length = 16) : ∃ p0 p1 p2 p3 p4 p5 p6 p7 p8 p9 p10 p11 a b c d, m = [p0, p1, p2, p3, p4, p5, p6, p7, p8, p9, p10, p11, a, b, c, d] := by
  refine ⟨by_ m 0, by_ m 1, by_ m 2, by_ m 3, by_ m 4, by_ m 5, by_ m 6, by_ m 7, by_ m 8, by_ m 9, by_ m 10, by_ m 11, by_ m 12, by_ m 13, by_ m 14, by_ m 15, ?_⟩
  have := (tab_self m).symm
  rw [h] at this
  exact this
theorem succ_ne (d : BitVec 8) : d + 1#8 ≠ 0#8 ↔ d.toNat ≠ 255 := by
  rw [Ne, ← BitVec.toNat_inj, BitVec.toNat_add]
  have := d.isLt
  simp
  omega
theorem upTo_stop (xs : List (BitVec 8)) (n i : Nat) (h : by_ xs i + 1#8 ≠ 0#8) : upTo xs (n + 1) i = xs.set i (by_ xs i + 1#8) := by
  rw [upTo, if_pos h]
theorem upTo_go (xs : List (BitVec 8)) (n i : Nat) (h : ¬ (by_ xs i + 1#8 ≠ 0#8)) : upTo xs (n + 1) i = upTo (xs.set i (by_ xs i + 1#8)) n (i - 1) := by
  rw [upTo, if_neg h]
theorem ofN (n : Nat) (x : BitVec 8) (hx : n % 256 = x.toNat) : BitVec.ofNat 8 n = x := BitVec.eq_of_toNat_eq (by simpa using hx)
theorem succ1 (x : BitVec 8) (hx : x + 1#8 ≠ 0#8) : (x + 1#8).toNat = x.toNat + 1 ∧ x.toNat ≠ 255 := by
  rw [succ_ne] at hx; rw [BitVec.toNat_add]; have := x.isLt; simp; omega
theorem succ0 (x : BitVec 8) (hx : ¬ (x + 1#8 ≠ 0#8)) : (x + 1#8).toNat = 0 ∧ x.toNat = 255 := by
  rw [succ_ne] at hx; rw [BitVec.toNat_add]; have := x.isLt; simp; omega
theorem up_list (p0 p1 p2 p3 p4 p5 p6 p7 p8 p9 p10 p11 a b c d : BitVec 8) (n : Nat) (hn : n = (a.toNat * 16777216 + b.toNat * 65536 + c.toNat * 256 + d.toNat + 1) % 4294967296) :
    [p0, p1, p2, p3, p4, p5, p6, p7, p8, p9, p10, p11, BitVec.ofNat 8 (n / 16777216), BitVec.ofNat 8 (n / 65536), BitVec.ofNat 8 (n / 256), BitVec.ofNat 8 n] = upL [p0, p1, p2, p3, p4, p5, p6, p7, p8, p9, p10, p11, a, b, c, d] := by
  have ha := a.isLt
  have hb := b.isLt
  have hc := c.isLt
  have hd := d.isLt
  by_cases h3 : d + 1#8 ≠ 0#8
  · obtain ⟨s3, t3⟩ := succ1 d h3
    refine Eq.trans ?_ (upTo_stop [p0, p1, p2, p3, p4, p5, p6, p7, p8, p9, p10, p11, a, b, c, d] 3 15 h3).symm
    rw [ofN (n / 16777216) a (by omega), ofN (n / 65536) b (by omega), ofN (n / 256) c (by omega), ofN n (d + 1#8) (by omega)]
    rfl
  obtain ⟨s3, t3⟩ := succ0 d h3
  refine Eq.trans ?_ (upTo_go [p0, p1, p2, p3, p4, p5, p6, p7, p8, p9, p10, p11, a, b, c, d] 3 15 h3).symm
  by_cases h2 : c + 1#8 ≠ 0#8
  · obtain ⟨s2, t2⟩ := succ1 c h2
    refine Eq.trans ?_ (upTo_stop [p0, p1, p2, p3, p4, p5, p6, p7, p8, p9, p10, p11, a, b, c, d + 1#8] 2 14 h2).symm
    rw [ofN (n / 16777216) a (by omega), ofN (n / 65536) b (by omega), ofN (n / 256) (c + 1#8) (by omega), ofN n (d + 1#8) (by omega)]
    rfl
  obtain ⟨s2, t2⟩ := succ0 c h2
  refine Eq.trans ?_ (upTo_go [p0, p1, p2, p3, p4, p5, p6, p7, p8, p9, p10, p11, a, b, c, d + 1#8] 2 14 h2).symm
  by_cases h1 : b + 1#8 ≠ 0#8
  · obtain ⟨s1, t1⟩ := succ1 b h1
    refine Eq.trans ?_ (upTo_stop [p0, p1, p2, p3, p4, p5, p6, p7, p8, p9, p10, p11, a, b, c + 1#8, d + 1#8] 1 13 h1).symm
    rw [ofN (n / 16777216) a (by omega), ofN (n / 65536) (b + 1#8) (by omega), ofN (n / 256) (c + 1#8) (by omega), ofN n (d + 1#8) (by omega)]
    rfl
  obtain ⟨s1, t1⟩ := succ0 b h1
  refine Eq.trans ?_ (upTo_go [p0, p1, p2, p3, p4, p5, p6, p7, p8, p9, p10, p11, a, b, c + 1#8, d + 1#8] 1 13 h1).symm
  by_cases h0 : a + 1#8 ≠ 0#8
  · obtain ⟨s0, t0⟩ := succ1 a h0
    refine Eq.trans ?_ (upTo_stop [p0, p1, p2, p3, p4, p5, p6, p7, p8, p9, p10, p11, a, b + 1#8, c + 1#8, d + 1#8] 0 12 h0).symm
    rw [ofN (n / 16777216) (a + 1#8) (by omega), ofN (n / 65536) (b + 1#8) (by omega), ofN (n / 256) (c + 1#8) (by omega), ofN n (d + 1#8) (by omega)]
    rfl
  obtain ⟨s0, t0⟩ := succ0 a h0
  refine Eq.trans ?_ (upTo_go [p0, p1, p2, p3, p4, p5, p6, p7, p8, p9, p10, p11, a, b + 1#8, c + 1#8, d + 1#8] 0 12 h0).symm
  rw [ofN (n / 16777216) (a + 1#8) (by omega), ofN (n / 65536) (b + 1#8) (by omega), ofN (n / 256) (c + 1#8) (by omega), ofN n (d + 1#8) (by omega)]
  rfl
theorem l3Count_at (k : Nat) (m : List (BitVec 8)) (h : m.length = 16) (hk : 4 < k) : spec_l3Count.f k (bL m) = some (bL (upL m)) := by
  obtain ⟨p0, p1, p2, p3, p4, p5, p6, p7, p8, p9, p10, p11, a, b, c, d, rfl⟩ := list16 m h
  have ha := a.isLt
  have hb := b.isLt
  have hc := c.isLt
  have hd := d.isLt
  unfold spec_l3Count.f
  rw [show (12 : Int) = ((12 : Nat) : Int) from rfl, show (4 : Int) = ((4 : Nat) : Int) from rfl, read4 k hk]
  simp only [Option.bind_some]
  rw [if_pos (by simp [bL]), show Int.tmod (wrap64 (((a.toNat * 16777216 + b.toNat * 65536 + c.toNat * 256 + d.toNat : Nat) : Int) + 1)) 4294967296 = (((a.toNat * 16777216 + b.toNat * 65536 + c.toNat * 256 + d.toNat + 1) % 4294967296 : Nat) : Int) from by
    rw [show wrap64 (((a.toNat * 16777216 + b.toNat * 65536 + c.toNat * 256 + d.toNat : Nat) : Int) + 1) = ((a.toNat * 16777216 + b.toNat * 65536 + c.toNat * 256 + d.toNat + 1 : Nat) : Int) by unfold wrap64; omega]
    rw [Int.tmod_eq_emod_of_nonneg (by omega)]
    omega]
  rw [pack4 k hk _ (by omega)]
  unfold spec_l1Copy.f
  simp only [Option.bind_some, bL_take]
  rw [if_pos (by simp [bL])]
  simp only [Option.bind_some]
  rw [if_pos (by simp [bL])]
  rw [← bL_nil, ← bL_append, ← bL_append, ← up_list _ _ _ _ _ _ _ _ _ _ _ _ _ _ _ _ _ rfl]
  rfl

end Go.Proofs.Ytjfdcabgbcbdjaa.All
