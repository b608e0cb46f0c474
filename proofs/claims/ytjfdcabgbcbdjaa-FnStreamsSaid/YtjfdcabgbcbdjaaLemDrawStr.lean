import Derived.Test.YtjfdcabgbcbdjaaAllx0
import Derived.Test.YtjfdcabgbcbdjaaAllx20
import Derived.Test.YtjfdcabgbcbdjaaAllx31
import Derived.Test.YtjfdcabgbcbdjaaLemDraw
import Derived.Test.YtjfdcabgbcbdjaaLemDrawBlock
import Derived.Test.YtjfdcabgbcbdjaaLemDrawSome
import Derived.Test.YtjfdcabgbcbdjaaLemLater
set_option linter.unusedVariables false
set_option linter.unusedSimpArgs false
namespace Go.Proofs.Ytjfdcabgbcbdjaa.All
open Go.RowKit Go.Proofs.Ytjfdcabgbcbdjaa.All Go.Proofs.YtjfdcabgbcbdjaaW.PrintWords Go.Proofs.YtjfdcabgbcbdjaaW.PrintLast Go.Proofs.YtjfdcabgbcbdjaaW.PrintMore
/-! ### draws of what is hidden -/
theorem chance_at2 (l : List Int) (hb : ∀ x ∈ l, 0 ≤ x ∧ x < 256) (hl : l.length ≤ 1099511627776) (n m : Int) (h0 : 0 ≤ n) (h1 : n ≤ 1048576) (hm : 1 ≤ m) : ∃ b, spec_l1Chance.f l n m = some (b, n + 1) := by
  unfold spec_l1Chance.f
  obtain ⟨v, hv9_, _, _⟩ := next_at l hb hl n m h0 h1 hm
  rw [hv9_]
  exact ⟨_, rfl⟩
theorem cu_step (K i : Nat) (b : List (BitVec 8)) (hi : i < 16) (h : b.length = 16) : spec_DrawCountUp.l0 (K + 1) (bL b) (i : Int) = spec_DrawCountUp.l0 K (bL (b.set i 255#8)) ((i + 1 : Nat) : Int) := by
  have w1 : wrap64 ((i : Int) + 1) = ((i + 1 : Nat) : Int) := by unfold wrap64; omega
  simp only [spec_DrawCountUp.l0]
  rw [if_pos (by omega), if_pos (by omega), if_pos (by rw [bL_length]; omega), w1, Int.toNat_natCast, show (255 : Int) = bI 255#8 from rfl, bL_set]
theorem cu_loop (K : Nat) (b : List (BitVec 8)) (h : b.length = 16) : ∃ c : List (BitVec 8), c.length = 16 ∧ spec_DrawCountUp.l0 (K + 5) (bL b) 12 = some (bL c) := by
  have e1 := cu_step (K + 4) 12 b (by omega) h
  have e2 := cu_step (K + 3) 13 (b.set 12 255#8) (by omega) (by simp [h])
  have e3 := cu_step (K + 2) 14 ((b.set 12 255#8).set 13 255#8) (by omega) (by simp [h])
  have e4 := cu_step (K + 1) 15 (((b.set 12 255#8).set 13 255#8).set 14 255#8) (by omega) (by simp [h])
  refine ⟨(((b.set 12 255#8).set 13 255#8).set 14 255#8).set 15 255#8, by simp [h], ?_⟩
  have e0 : spec_DrawCountUp.l0 (K + 5) (bL b) 12 = spec_DrawCountUp.l0 (K + 4 + 1) (bL b) ((12 : Nat) : Int) := rfl
  rw [e0, e1]
  rw [show K + 4 = K + 3 + 1 from rfl, e2, show K + 3 = K + 2 + 1 from rfl, e3, show K + 2 = K + 1 + 1 from rfl, e4]
  simp only [spec_DrawCountUp.l0]
  rw [if_neg (by omega)]
theorem drawCU (l : List Int) (hb : ∀ x ∈ l, 0 ≤ x ∧ x < 256) (hl : l.length ≤ 1099511627776) (K : Nat) (hk : 1010 < K) : ∃ b : List (BitVec 8), spec_DrawCountUp.f K l = some (bL b) := by
  unfold spec_DrawCountUp.f spec_l1Source.f
  simp only [Option.bind_some]
  obtain ⟨b, hb17, e⟩ := l2Block_at l hb hl K (by omega)
  rw [e]
  simp only [Option.bind_some]
  obtain ⟨K, rfl⟩ : ∃ m, K = m + 1 := ⟨K - 1, by omega⟩
  by_cases h : b.length = 16
  · rw [if_pos (by rw [bL_length]; omega)]
    obtain ⟨c, hc⟩ := chance_at2 l hb hl 0 3 (by omega) (by omega) (by omega)
    rw [hc]
    simp only [Option.bind_some]
    cases c
    · exact ⟨b, by simp [spec_DrawCountUp.j0]⟩
    · obtain ⟨d, _, hd⟩ := cu_loop (K - 5) b h
      rw [show K - 5 + 5 = K by omega] at hd
      exact ⟨d, by simp only [spec_DrawCountUp.j0, if_true]; exact hd⟩
  · rw [if_neg (by rw [bL_length]; omega)]
    exact ⟨b, by simp [spec_DrawCountUp.j0]⟩
theorem drawSXj (l : List Int) (hb : ∀ x ∈ l, 0 ≤ x ∧ x < 256) (hl : l.length ≤ 1099511627776) (K : Nat) (hk : 2000 < K) (n at_ : Int) (hn : 0 ≤ n) (hn1 : n ≤ 900) (h0 : 0 ≤ at_) (h1 : at_ ≤ 50) :
    ∃ a b d : List (BitVec 8), d.length ≤ 900 ∧ spec_DrawStreamXor.j0 K l n l at_ = some (bL a, bL b, bL d) := by
  obtain ⟨K, rfl⟩ : ∃ m, K = m + 1 := ⟨K - 1, by omega⟩
  simp only [spec_DrawStreamXor.j0]
  obtain ⟨i, hi, i0, i1⟩ := pick_at2 l hb hl at_ h0 (by omega) [16, 16, 16, 16, 15] (by simp)
  have hr := pick_bnd [16, 16, 16, 16, 15] 0 16 (by decide) i i0 i1
  rw [hi]
  simp only [Option.bind_some]
  obtain ⟨ys, hy, he⟩ := some_at l hb hl K (at_ + 1) (rd [16, 16, 16, 16, 15] i) (by omega) (by omega) (by omega) (by omega) (by omega)
  rw [he]
  simp only [Option.bind_some]
  obtain ⟨b, hb2⟩ := drawCU l hb hl K (by omega)
  rw [hb2]
  simp only [Option.bind_some]
  obtain ⟨zs, hz, he2⟩ := some_at l hb hl K (at_ + 1 + rd [16, 16, 16, 16, 15] i) n (by omega) (by omega) (by omega) (by omega) (by omega)
  rw [he2]
  exact ⟨ys, b, zs, by omega, rfl⟩
theorem drawSX (l : List Int) (hb : ∀ x ∈ l, 0 ≤ x ∧ x < 256) (hl : l.length ≤ 1099511627776) (K : Nat) (hk : 2000 < K) : ∃ a b d : List (BitVec 8), d.length ≤ 900 ∧ spec_DrawStreamXor.f K l = some (bL a, bL b, bL d) := by
  unfold spec_DrawStreamXor.f
  rw [later_at]
  simp only [Option.bind_some]
  obtain ⟨i, hi, i0, i1⟩ := pick_at2 l hb hl 12 (by omega) (by omega) [0, 1, 16, 17, 40] (by simp)
  have hr := pick_bnd [0, 1, 16, 17, 40] 0 40 (by decide) i i0 i1
  rw [hi]
  simp only [Option.bind_some]
  obtain ⟨c, hc⟩ := chance_at2 l hb hl (12 + 1) 40 (by omega) (by omega) (by omega)
  rw [hc]
  simp only [Option.bind_some]
  cases c
  · rw [if_neg (by decide)]
    exact drawSXj l hb hl K hk _ _ (by omega) (by omega) (by omega) (by omega)
  · rw [if_pos rfl]
    obtain ⟨j, hj, j0, j1⟩ := pick_at2 l hb hl (12 + 1 + 1) (by omega) (by omega) [600, 601] (by simp)
    have hr2 := pick_bnd [600, 601] 0 601 (by decide) j j0 j1
    rw [hj]
    simp only [Option.bind_some]
    exact drawSXj l hb hl K hk _ _ (by omega) (by omega) (by omega) (by omega)

end Go.Proofs.Ytjfdcabgbcbdjaa.All
