import Derived.Test.YtaibogaheidkcaaAllx0
import Derived.Test.YtaibogaheidkcaaAllx97
import Derived.Test.YtaibogaheidkcaaAllx99
import Derived.Test.YtaibogaheidkcaaAllx522
import Derived.Test.YtaibogaheidkcaaLemGroup
set_option linter.unusedVariables false
set_option linter.unusedSimpArgs false
namespace Go.Proofs.Ytaibogaheidkcaa.All
open Go.RowKit Go.Proofs.Ytaibogaheidkcaa.All Go.Proofs.YtaibogaheidkcaaW.PrintWords Go.Proofs.YtaibogaheidkcaaW.PrintLast Go.Proofs.YtaibogaheidkcaaW.PrintMore
theorem bV_out (v : BitVec 128) : outL (wH v).toNat (wL v).toNat 8 = bV v := by
  unfold wH wL bV
  rw [Int.toNat_natCast, Int.toNat_natCast]
theorem group_g (k : Nat) (m n : List (BitVec 8)) (hm : m.length = 16) (hn : n.length = 16) (p q : Int) (hT : impl_element_times.f k (hiN m : Nat) (loN m : Nat) (hiN n : Nat) (loN n : Nat) = some (p, q)) (h1 : 0 ≤ p) (h2 : p < 18446744073709551616) (h3 : 0 ≤ q) (h4 : q < 18446744073709551616) : impl_GroupTimes.f k (bL m) (bL n) = some (0, bL (outL p.toNat q.toNat 8)) := by
  unfold impl_GroupTimes.f
  rw [if_pos ⟨bL_isBs _, bL_isBs _⟩, unB_bL, unB_bL]
  unfold impl_GroupTimes.g
  rw [if_pos ⟨hm, hn⟩, hT]
  simp only [Option.bind_some]
  rw [if_pos ⟨h1, h2, h3, h4⟩]
theorem impl_group_at (k : Nat) (hk : 150 ≤ k) (m n : List (BitVec 8)) (hm : m.length = 16) (hn : n.length = 16) : impl_GroupTimes.f k (bL m) (bL n) = some (0, bL (bV (gM (vB m) (vB n)))) := by
  have h := times_at k (by omega) (vB m) (vB n)
  rw [wH_vB, wL_vB, wH_vB, wL_vB] at h
  have h2 := group_g k m n hm hn _ _ h (wH_lo _) (wH_hi _) (wL_lo _) (wL_hi _)
  rw [bV_out] at h2
  exact h2
theorem impl_group_no (k : Nat) (m n : List (BitVec 8)) (h : ¬ (m.length = 16 ∧ n.length = 16)) : impl_GroupTimes.f k (bL m) (bL n) = some (2, []) := by
  unfold impl_GroupTimes.f
  rw [if_pos ⟨bL_isBs _, bL_isBs _⟩, unB_bL, unB_bL]
  unfold impl_GroupTimes.g
  rw [if_neg h]
theorem spec_group_at (k : Nat) (hk : 150 ≤ k) (m n : List (BitVec 8)) (hm : m.length = 16) (hn : n.length = 16) : spec_GroupTimes.f k (bL m) (bL n) = some (0, bL (bV (gM (vB m) (vB n)))) := by
  unfold spec_GroupTimes.f
  rw [if_pos (by rw [bL_length]; omega), if_pos (by rw [bL_length]; omega), l3Times_at k hk m n hm hn, gM_comm]
  rfl
theorem spec_group_no (k : Nat) (m n : List (BitVec 8)) (h : ¬ (m.length = 16 ∧ n.length = 16)) : spec_GroupTimes.f k (bL m) (bL n) = some (2, []) := by
  unfold spec_GroupTimes.f
  by_cases h1 : m.length = 16
  · rw [if_pos (by rw [bL_length]; omega), if_neg (by rw [bL_length]; omega)]
  · rw [if_neg (by rw [bL_length]; omega)]
theorem group_at (m n : List (BitVec 8)) : ∃ c ys, ys.length ≤ 1048576 ∧ (∀ k, 150 ≤ k → spec_GroupTimes.f k (bL m) (bL n) = some (c, ys)) ∧ (∀ k, 150 ≤ k → impl_GroupTimes.f k (bL m) (bL n) = some (c, ys)) := by
  by_cases h : m.length = 16 ∧ n.length = 16
  · exact ⟨0, bL (bV (gM (vB m) (vB n))), by rw [bL_length, bV_length]; omega, fun k hk => spec_group_at k hk m n h.1 h.2, fun k hk => impl_group_at k hk m n h.1 h.2⟩
  · exact ⟨2, [], by simp, fun k _ => spec_group_no k m n h, fun k _ => impl_group_no k m n h⟩

end Go.Proofs.Ytaibogaheidkcaa.All
