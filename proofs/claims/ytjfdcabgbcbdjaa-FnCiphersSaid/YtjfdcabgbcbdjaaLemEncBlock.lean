import Derived.Test.YtjfdcabgbcbdjaaAllx0
import Derived.Test.YtjfdcabgbcbdjaaAllx531
import Derived.Test.YtjfdcabgbcbdjaaAllx530
import Derived.Test.YtjfdcabgbcbdjaaAllx532
import Derived.Test.YtjfdcabgbcbdjaaAllx157
set_option linter.unusedVariables false
set_option linter.unusedSimpArgs false
namespace Go.Proofs.Ytjfdcabgbcbdjaa.All
open Go.RowKit Go.Proofs.Ytjfdcabgbcbdjaa.All Go.Proofs.YtjfdcabgbcbdjaaW.PrintWords Go.Proofs.YtjfdcabgbcbdjaaW.PrintLast Go.Proofs.YtjfdcabgbcbdjaaW.PrintMore
theorem encSpec (k : Nat) (hk : 1000 ≤ k) (m n : List (BitVec 8)) : spec_EncryptBlock.f k (bL m) (bL n) = some (impl_EncryptBlock.g m n) := by
  obtain ⟨K, rfl⟩ : ∃ K, k = K + 1 := ⟨k - 1, by omega⟩
  unfold spec_EncryptBlock.f impl_EncryptBlock.g
  rw [bL_length, bL_length]
  by_cases h0 : m.length = 16
  · rw [if_pos (by omega)]
    simp only [spec_EncryptBlock.j0]
    by_cases h1 : n.length = 16
    · rw [if_neg (by rw [bne_iff_ne]; omega), if_pos ⟨h0, h1⟩]
      unfold spec_l2Keys.f
      rw [if_pos ⟨bL_isBs _, by rw [bL_length]; exact h0⟩, unB_bL]
      simp only [Option.bind_some]
      unfold spec_l2Encrypt.f
      rw [if_pos ⟨bL_isBs _, bL_isBs _, by rw [bL_length]; exact schedL_length m h0, by rw [bL_length]; exact h1⟩, unB_bL, unB_bL]
      simp only [Option.bind_some]
    · rw [if_pos (by rw [bne_iff_ne]; omega), if_neg (fun q => h1 q.2)]
  · rw [if_neg (by omega), if_neg (fun q => h0 q.1)]
    simp only [spec_EncryptBlock.j0]
    rfl
theorem enc_at (m n : List (BitVec 8)) : ∃ c ys, ys.length ≤ 1048576 ∧ (∀ k, 1000 ≤ k → spec_EncryptBlock.f k (bL m) (bL n) = some (c, ys)) ∧ impl_EncryptBlock.f (bL m) (bL n) = some (c, ys) := by
  refine ⟨(impl_EncryptBlock.g m n).1, (impl_EncryptBlock.g m n).2, ?_, fun k hk => encSpec k hk m n, ?_⟩
  · unfold impl_EncryptBlock.g
    split
    · show (bL (encL _ _)).length ≤ _
      rw [bL_length, encL_length]
      omega
    · simp
  · unfold impl_EncryptBlock.f
    rw [if_pos ⟨bL_isBs _, bL_isBs _⟩, unB_bL, unB_bL]

end Go.Proofs.Ytjfdcabgbcbdjaa.All
