import Derived.Test.YtjfdcabgbcbdjaaAllx0
import Derived.Test.YtjfdcabgbcbdjaaAllx20
import Derived.Test.YtjfdcabgbcbdjaaLemDrawSome
set_option linter.unusedVariables false
set_option linter.unusedSimpArgs false
namespace Go.Proofs.Ytjfdcabgbcbdjaa.All
open Go.RowKit Go.Proofs.Ytjfdcabgbcbdjaa.All Go.Proofs.YtjfdcabgbcbdjaaW.PrintWords Go.Proofs.YtjfdcabgbcbdjaaW.PrintLast Go.Proofs.YtjfdcabgbcbdjaaW.PrintMore
theorem l2Block_at (l : List Int) (hb : ∀ x ∈ l, 0 ≤ x ∧ x < 256) (hl : l.length ≤ 1099511627776) (K : Nat) (hk : 1000 < K) : ∃ ys : List (BitVec 8), ys.length ≤ 17 ∧ spec_l2Block.f K l = some (bL ys) := by
  unfold spec_l2Block.f spec_l1Source.f
  simp only [Option.bind_some]
  obtain ⟨i, hi, i0, i1⟩ := pick_at2 l hb hl 0 (by omega) (by omega) [16, 16, 16, 16, 15, 17, 0] (by simp)
  rw [hi]
  have hr : 0 ≤ rd [16, 16, 16, 16, 15, 17, 0] i ∧ rd [16, 16, 16, 16, 15, 17, 0] i ≤ 17 := by
    simp only [List.length_cons, List.length_nil] at i1
    have : i = 0 ∨ i = 1 ∨ i = 2 ∨ i = 3 ∨ i = 4 ∨ i = 5 ∨ i = 6 := by omega
    rcases this with rfl | rfl | rfl | rfl | rfl | rfl | rfl <;> exact ⟨by decide, by decide⟩
  simp only [Option.bind_some]
  obtain ⟨ys, hy, he⟩ := some_at l hb hl K (0 + 1) (rd [16, 16, 16, 16, 15, 17, 0] i) (by omega) (by omega) (by omega) (by omega) hk
  rw [he]
  exact ⟨ys, by omega, rfl⟩

end Go.Proofs.Ytjfdcabgbcbdjaa.All
