import Derived.Test.YtndahpbmjjodpaaAllx0
import Derived.Test.YtndahpbmjjodpaaAllx6
import Derived.Test.YtndahpbmjjodpaaAllx23
import Derived.Test.YtndahpbmjjodpaaAllx69
import Derived.Test.YtndahpbmjjodpaaLemDraw
import Derived.Test.YtndahpbmjjodpaaLemFields
set_option linter.unusedVariables false
set_option linter.unusedSimpArgs false
namespace Go.Proofs.Ytndahpbmjjodpaa.All
open Go.RowKit Go.Proofs.Ytndahpbmjjodpaa.All Go.Proofs.YtndahpbmjjodpaaW.PrintWords Go.Proofs.YtndahpbmjjodpaaW.PrintLast Go.Proofs.YtndahpbmjjodpaaW.PrintMore
/-! ### the draws of the field's law, and its box -/
theorem drawFI (l : List Int) (hb : ∀ x ∈ l, 0 ≤ x ∧ x < 256) (hl : l.length ≤ 1099511627776) : ∃ b, spec_DrawFieldInverse.f l = some (bI b) := by
  unfold spec_DrawFieldInverse.f spec_l1Source.f
  simp only [Option.bind_some]
  obtain ⟨v, hv, _⟩ := next_at l hb hl 0 256 (by omega) (by omega) (by omega)
  rw [hv]
  obtain ⟨b, e⟩ := mod_bI v
  exact ⟨b, by simp only [Option.bind_some, e]⟩
theorem drawSB (l : List Int) (hb : ∀ x ∈ l, 0 ≤ x ∧ x < 256) (hl : l.length ≤ 1099511627776) : ∃ b, spec_DrawSubByte.f l = some (bI b) := by
  unfold spec_DrawSubByte.f spec_l1Source.f
  simp only [Option.bind_some]
  obtain ⟨v, hv, _⟩ := next_at l hb hl 0 256 (by omega) (by omega) (by omega)
  rw [hv]
  obtain ⟨b, e⟩ := mod_bI v
  exact ⟨b, by simp only [Option.bind_some, e]⟩
theorem pick_at (l : List Int) (hb : ∀ x ∈ l, 0 ≤ x ∧ x < 256) (hl : l.length ≤ 1099511627776) (n : Int) (h0 : 0 ≤ n) (h1 : n ≤ 1048576) (xs : List Int) (hx : 1 ≤ xs.length) : ∃ i : Int, spec_l1Pick.f l n xs = some (rd xs i, n + 1) ∧ 0 ≤ i ∧ i < xs.length := by
  unfold spec_l1Pick.f
  obtain ⟨v, hv, v0, v1⟩ := next_at l hb hl n (xs.length : Int) h0 h1 (by omega)
  rw [hv]
  refine ⟨v, ?_, v0, v1⟩
  simp only [Option.bind_some]
  rw [if_pos v0, if_pos v1]
theorem drawFT (l : List Int) (hb : ∀ x ∈ l, 0 ≤ x ∧ x < 256) (hl : l.length ≤ 1099511627776) : ∃ a b, spec_DrawFieldTimes.f l = some (bI a, bI b) := by
  unfold spec_DrawFieldTimes.f spec_l1Source.f
  simp only [Option.bind_some]
  obtain ⟨v, hv, _⟩ := next_at l hb hl 0 256 (by omega) (by omega) (by omega)
  rw [hv]
  simp only [Option.bind_some]
  obtain ⟨v2, hv2, _⟩ := next_at l hb hl (0 + 1) 256 (by omega) (by omega) (by omega)
  rw [hv2]
  simp only [Option.bind_some]
  obtain ⟨v3, hv3, _⟩ := next_at l hb hl (0 + 1 + 1) 256 (by omega) (by omega) (by omega)
  rw [hv3]
  simp only [Option.bind_some]
  obtain ⟨i, hi, _⟩ := pick_at l hb hl (0 + 1 + 1 + 1) (by omega) (by omega) [0, 1, 2, 3, 128, v2, v3] (by simp)
  rw [hi]
  obtain ⟨a, ea⟩ := mod_bI v
  obtain ⟨b, eb⟩ := mod_bI (rd [0, 1, 2, 3, 128, v2, v3] i)
  exact ⟨a, b, by simp only [Option.bind_some, ea, eb]⟩
theorem boxStep0 (k : Nat) (x3 x4 x5 x6 : Int) (s t : BitVec 8) : laws_FnFields.l0 (k + 1) x3 x4 x5 x6 (bI s) (bI t) 0 = laws_FnFields.l0 k x3 x4 x5 x6 (bI s) (bI (t ^^^ s)) 1 := by
  simp only [laws_FnFields.l0]
  rw [if_pos (by decide), if_pos trivial, bI_xor, show IntKind.u64.wrap (0 + 1) = 1 by decide +kernel]
theorem boxStep1 (k : Nat) (x3 x4 x5 x6 : Int) (s t : BitVec 8) : laws_FnFields.l0 (k + 1) x3 x4 x5 x6 (bI s) (bI t) 1 = laws_FnFields.l0 k x3 x4 x5 x6 (bI s) (bI (t ^^^ ((s <<< 1) ||| (s >>> 7)))) 2 := by
  simp only [laws_FnFields.l0]
  rw [if_pos (by decide), if_neg (by decide), if_pos (by decide), if_pos (by decide +kernel), rot1, bI_xor, show IntKind.u64.wrap (1 + 1) = 2 by decide +kernel]
theorem boxStep2 (k : Nat) (x3 x4 x5 x6 : Int) (s t : BitVec 8) : laws_FnFields.l0 (k + 1) x3 x4 x5 x6 (bI s) (bI t) 2 = laws_FnFields.l0 k x3 x4 x5 x6 (bI s) (bI (t ^^^ ((s <<< 2) ||| (s >>> 6)))) 3 := by
  simp only [laws_FnFields.l0]
  rw [if_pos (by decide), if_neg (by decide), if_pos (by decide), if_pos (by decide +kernel), rot2, bI_xor, show IntKind.u64.wrap (2 + 1) = 3 by decide +kernel]
theorem boxStep3 (k : Nat) (x3 x4 x5 x6 : Int) (s t : BitVec 8) : laws_FnFields.l0 (k + 1) x3 x4 x5 x6 (bI s) (bI t) 3 = laws_FnFields.l0 k x3 x4 x5 x6 (bI s) (bI (t ^^^ ((s <<< 3) ||| (s >>> 5)))) 4 := by
  simp only [laws_FnFields.l0]
  rw [if_pos (by decide), if_neg (by decide), if_pos (by decide), if_pos (by decide +kernel), rot3, bI_xor, show IntKind.u64.wrap (3 + 1) = 4 by decide +kernel]
theorem boxStep4 (k : Nat) (x3 x4 x5 x6 : Int) (s t : BitVec 8) : laws_FnFields.l0 (k + 1) x3 x4 x5 x6 (bI s) (bI t) 4 = laws_FnFields.l0 k x3 x4 x5 x6 (bI s) (bI (t ^^^ ((s <<< 4) ||| (s >>> 4)))) 5 := by
  simp only [laws_FnFields.l0]
  rw [if_pos (by decide), if_neg (by decide), if_pos (by decide), if_pos (by decide +kernel), rot4, bI_xor, show IntKind.u64.wrap (4 + 1) = 5 by decide +kernel]
theorem box_loop (k : Nat) (x3 x4 x5 x6 : Int) (s : BitVec 8) : laws_FnFields.l0 (k + 5) x3 x4 x5 x6 (bI s) 99 0 = laws_FnFields.l0 k x3 x4 x5 x6 (bI s) (bI (boxOf s)) 5 := by
  rw [show (99 : Int) = bI 99#8 from rfl, boxStep0, boxStep1, boxStep2, boxStep3, boxStep4]
  rfl

end Go.Proofs.Ytndahpbmjjodpaa.All
