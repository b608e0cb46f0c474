import Derived.Test.YtjfdcabgbcbdjaaAllx0
import Derived.Test.YtjfdcabgbcbdjaaAllx20
import Derived.Test.YtjfdcabgbcbdjaaLemDrawBlock
import Derived.Test.YtjfdcabgbcbdjaaLemLater
set_option linter.unusedVariables false
set_option linter.unusedSimpArgs false
namespace Go.Proofs.Ytjfdcabgbcbdjaa.All
open Go.RowKit Go.Proofs.Ytjfdcabgbcbdjaa.All Go.Proofs.YtjfdcabgbcbdjaaW.PrintWords Go.Proofs.YtjfdcabgbcbdjaaW.PrintLast Go.Proofs.YtjfdcabgbcbdjaaW.PrintMore
theorem drawEB (l : List Int) (hb : ∀ x ∈ l, 0 ≤ x ∧ x < 256) (hl : l.length ≤ 1099511627776) (K : Nat) (hk : 1000 < K) : ∃ a b : List (BitVec 8), b.length ≤ 17 ∧ spec_DrawEncryptBlock.f K l = some (bL a, bL b) := by
  unfold spec_DrawEncryptBlock.f
  rw [later_at]
  simp only [Option.bind_some]
  obtain ⟨a, ys, _, _, _, _, e1, e2⟩ := pick_some l hb hl K hk 12 (by omega) (by omega) [16, 16, 16, 16, 15] (by simp) (by decide)
  rw [e1]
  simp only [Option.bind_some]
  rw [e2]
  simp only [Option.bind_some]
  obtain ⟨zs, hz, e3⟩ := l2Block_at l hb hl K hk
  rw [e3]
  exact ⟨ys, zs, hz, rfl⟩

end Go.Proofs.Ytjfdcabgbcbdjaa.All
