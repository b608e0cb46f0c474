-- Laid by wip/shake.py of this repo out of this claim's texts. Not trusted: Lean checks it.
import Derived.Test.YtaibogaheidkcaaAllx0s
import Derived.Test.YtaibogaheidkcaaAllx165s
import Derived.Test.YtaibogaheidkcaaAllx541s
import Derived.Test.YtaibogaheidkcaaLemBytess
set_option linter.unusedVariables false
set_option linter.unusedSimpArgs false
namespace Go.Proofs.Ytaibogaheidkcaa.All
open Go.RowKit Go.Proofs.Ytaibogaheidkcaa.All Go.Proofs.YtaibogaheidkcaaW.PrintWords Go.Proofs.YtaibogaheidkcaaW.PrintLast Go.Proofs.YtaibogaheidkcaaW.PrintMore
theorem sealSpec (k : Nat) (hk : 4000 ≤ k) (a n e p : List (BitVec 8)) : spec_SealText.f k (bL a) (bL n) (bL e) (bL p) = some (impl_SealText.g a n e p) := by
  unfold spec_SealText.f impl_SealText.g
  rw [asked_at, bL_length]
  simp only [Option.bind_some]
  by_cases h : a.length = 16 ∧ n.length = 12 ∧ e.length ≤ 100
  · rw [decide_eq_true h, if_pos rfl]
    by_cases h3 : p.length ≤ 600
    · rw [if_neg (by omega), if_pos ⟨h.1, h.2.1, h.2.2, h3⟩, sealS_at k hk a n e p h.1 h.2.1 (by omega) h3]
      simp only [Option.bind_some]
    · rw [if_pos (by omega), if_neg (fun q => h3 q.2.2.2)]
  · rw [decide_eq_false h, if_neg (by decide), if_neg (fun q => h ⟨q.1, q.2.1, q.2.2.1⟩)]
theorem seal_at (a b c d : List (BitVec 8)) : ∃ t ys, ys.length ≤ 1048576 ∧ (∀ k, 4000 ≤ k → spec_SealText.f k (bL a) (bL b) (bL c) (bL d) = some (t, ys)) ∧ impl_SealText.f (bL a) (bL b) (bL c) (bL d) = some (t, ys) := by
  refine ⟨(impl_SealText.g a b c d).1, (impl_SealText.g a b c d).2, ?_, fun k hk => sealSpec k hk a b c d, ?_⟩
  · unfold impl_SealText.g
    split
    · rename_i h
      show (bL (sealL _ _ _ _)).length ≤ _
      rw [bL_length, sealL_length]
      omega
    · simp
  · unfold impl_SealText.f
    rw [if_pos ⟨bL_isBs _, bL_isBs _, bL_isBs _, bL_isBs _⟩, unB_bL, unB_bL, unB_bL, unB_bL]
end Go.Proofs.Ytaibogaheidkcaa.All
