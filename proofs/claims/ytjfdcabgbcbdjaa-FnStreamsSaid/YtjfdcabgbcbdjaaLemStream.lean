import Derived.Test.YtjfdcabgbcbdjaaAllx0
import Derived.Test.YtjfdcabgbcbdjaaAllx547
import Derived.Test.YtjfdcabgbcbdjaaAllx548
import Derived.Test.YtjfdcabgbcbdjaaAllx161
import Derived.Test.YtjfdcabgbcbdjaaLemBlockUp
set_option linter.unusedVariables false
set_option linter.unusedSimpArgs false
namespace Go.Proofs.Ytjfdcabgbcbdjaa.All
open Go.RowKit Go.Proofs.Ytjfdcabgbcbdjaa.All Go.Proofs.YtjfdcabgbcbdjaaW.PrintWords Go.Proofs.YtjfdcabgbcbdjaaW.PrintLast Go.Proofs.YtjfdcabgbcbdjaaW.PrintMore
theorem take_snoc_str (ks m d : List (BitVec 8)) (t : Nat) (h : t < d.length) : (streamL ks m d).take (t + 1) = (streamL ks m d).take t ++ [by_ d t ^^^ padL ks m t] := by
  have hl : t < (streamL ks m d).length := by rw [streamL_length]; exact h
  rw [List.take_succ_eq_append_getElem hl]
  congr 2
  have e : by_ (streamL ks m d) t = by_ d t ^^^ padL ks m t := tab_get _ _ _ h
  rw [← e]
  unfold by_
  rw [List.getD_eq_getElem?_getD, List.getElem?_eq_getElem hl]
  rfl
theorem str_pad (ks m d : List (BitVec 8)) (q i : Nat) (hi : i < 16) (h : 16 * q + i < d.length) (hl : d.length < 1099511627776) :
    Go.bits .xor .u8 (rd (bL d) (wrap64 (((16 * q : Nat) : Int) + (i : Int)))) (rd (bL (encL ks (upN m q))) (i : Int)) = bI (by_ d (16 * q + i) ^^^ padL ks m (16 * q + i)) := by
  have w1 : wrap64 (((16 * q : Nat) : Int) + (i : Int)) = ((16 * q + i : Nat) : Int) := by unfold wrap64; omega
  have hp : padL ks m (16 * q + i) = by_ (encL ks (upN m q)) i := by
    have := pad_at ks m q (16 * q) (16 * q + i) rfl (by omega) (by omega)
    rw [← this, show 16 * q + i - 16 * q = i by omega]
  rw [w1, rd_bL, rd_bL, bI_xor, hp, Int.toNat_natCast, Int.toNat_natCast]
  rfl
theorem str_end (K q : Nat) (ks m d : List (BitVec 8)) (X : List Int) (h : d.length ≤ 16 * q) : spec_l3Stream.l0 (K + 1) (bL ks) X (bL d) (bL ((streamL ks m d).take (16 * q))) ((16 * q : Nat) : Int) = some (bL (streamL ks m d)) := by
  simp only [spec_l3Stream.l0]
  rw [if_neg (by rw [bL_length]; omega), List.take_of_length_le (by rw [streamL_length]; omega)]
theorem str_inner (ks m d : List (BitVec 8)) (hm : m.length = 16) (hl : d.length < 1099511627776) (q K0 : Nat)
    (ih : ∀ K, K0 ≤ K → spec_l3Stream.l0 K (bL ks) (bL (upN m (q + 1))) (bL d) (bL ((streamL ks m d).take (16 * (q + 1)))) ((16 * (q + 1) : Nat) : Int) = some (bL (streamL ks m d))) :
    ∀ j i K, i + j = 16 → 16 * q + i ≤ d.length → K0 + j + 6 ≤ K → spec_l3Stream.l1 K (bL ks) (bL (upN m q)) (bL d) (bL ((streamL ks m d).take (16 * q + i))) ((16 * q : Nat) : Int) (bL (encL ks (upN m q))) (i : Int) = some (bL (streamL ks m d)) := by
  have w2 : wrap64 (((16 * q : Nat) : Int) + 16) = ((16 * (q + 1) : Nat) : Int) ∨ 1099511627776 ≤ 16 * q := by
    by_cases h : 16 * q < 1099511627776
    · left; unfold wrap64; omega
    · right; omega
  have hup : bL (upL (upN m q)) = bL (upN m (q + 1)) := rfl
  intro j
  induction j with
  | zero =>
    intro i K hij hle hK
    obtain ⟨k, rfl⟩ : ∃ k, K = k + 1 := ⟨K - 1, by omega⟩
    rcases w2 with w2 | w2
    · simp only [spec_l3Stream.l1]
      rw [if_neg (by omega), l3Count_at k _ (upN_length m q hm) (by omega)]
      simp only [Option.bind_some]
      rw [hup, w2, show 16 * q + i = 16 * (q + 1) by omega]
      exact ih k (by omega)
    · omega
  | succ j jh =>
    intro i K hij hle hK
    obtain ⟨k, rfl⟩ : ∃ k, K = k + 1 := ⟨K - 1, by omega⟩
    have w1 : wrap64 (((16 * q : Nat) : Int) + (i : Int)) = ((16 * q + i : Nat) : Int) := by unfold wrap64; omega
    have w3 : wrap64 ((i : Int) + 1) = ((i + 1 : Nat) : Int) := by unfold wrap64; omega
    by_cases h : 16 * q + i < d.length
    · have hp := str_pad ks m d q i (by omega) h hl
      have h2 := jh (i + 1) k (by omega) (by omega) (by omega)
      rw [show 16 * q + (i + 1) = 16 * q + i + 1 by omega, take_snoc_str ks m d _ h, bL_append] at h2
      simp only [spec_l3Stream.l1]
      rw [if_pos (by omega), hp, w1, if_pos (by rw [bL_length]; omega), if_pos (by omega), if_pos (by omega), if_pos (by rw [bL_length, encL_length]; omega), if_pos (by rw [bL_length, List.length_take]; omega), w3]
      exact h2
    · rcases w2 with w2 | w2
      · have e : 16 * q + i = d.length := by omega
        have e2 : (streamL ks m d).take (16 * q + i) = (streamL ks m d).take (16 * (q + 1)) := by
          rw [List.take_of_length_le (by rw [streamL_length]; omega), List.take_of_length_le (by rw [streamL_length]; omega)]
        simp only [spec_l3Stream.l1]
        rw [if_pos (by omega), w1, if_neg (by rw [bL_length]; omega), l3Count_at k _ (upN_length m q hm) (by omega)]
        simp only [Option.bind_some]
        rw [hup, w2, e2]
        exact ih k (by omega)
      · omega
theorem str_outer (ks m d : List (BitVec 8)) (hk : ks.length = 176) (hm : m.length = 16) (hl : d.length < 1099511627776) : ∀ p q K, d.length ≤ 16 * (q + p) → 40 * p + 1 ≤ K →
    spec_l3Stream.l0 K (bL ks) (bL (upN m q)) (bL d) (bL ((streamL ks m d).take (16 * q))) ((16 * q : Nat) : Int) = some (bL (streamL ks m d)) := by
  intro p
  induction p with
  | zero =>
    intro q K h hK
    obtain ⟨k, rfl⟩ : ∃ k, K = k + 1 := ⟨K - 1, by omega⟩
    exact str_end k q ks m d _ (by omega)
  | succ p ih =>
    intro q K h hK
    obtain ⟨k, rfl⟩ : ∃ k, K = k + 1 := ⟨K - 1, by omega⟩
    by_cases hle : d.length ≤ 16 * q
    · exact str_end k q ks m d _ hle
    · have hin := str_inner ks m d hm hl q (40 * p + 1) (fun K' hK' => ih (q + 1) K' (by omega) hK') 16 0 k (by omega) (by omega) (by omega)
      simp only [spec_l3Stream.l0]
      rw [if_pos (by rw [bL_length]; omega)]
      unfold spec_l2Encrypt.f
      rw [if_pos ⟨bL_isBs _, bL_isBs _, by rw [bL_length]; exact hk, by rw [bL_length]; exact upN_length m q hm⟩, unB_bL, unB_bL]
      simp only [Option.bind_some]
      exact hin
theorem stream_at (K : Nat) (ks m d : List (BitVec 8)) (hk : ks.length = 176) (hm : m.length = 16) (hd : d.length ≤ 700) (hK : 3000 ≤ K) : spec_l3Stream.f K (bL ks) (bL m) (bL d) = some (bL (streamL ks m d)) :=
  str_outer ks m d hk hm (by omega) 50 0 K (by omega) (by omega)
theorem keys_at (m : List (BitVec 8)) (h : m.length = 16) : spec_l2Keys.f (bL m) = some (bL (schedL m)) := by
  unfold spec_l2Keys.f
  rw [if_pos ⟨bL_isBs _, by rw [bL_length]; exact h⟩, unB_bL]
theorem strSpec (k : Nat) (hk : 4000 ≤ k) (a b d : List (BitVec 8)) : spec_StreamXor.f k (bL a) (bL b) (bL d) = some (impl_StreamXor.g a b d) := by
  obtain ⟨K, rfl⟩ : ∃ K, k = K + 1 := ⟨k - 1, by omega⟩
  unfold spec_StreamXor.f impl_StreamXor.g
  rw [bL_length, bL_length, bL_length]
  by_cases h0 : a.length = 16
  · rw [if_pos (by omega)]
    by_cases h1 : b.length = 16
    · rw [if_pos (by omega)]
      by_cases h2 : d.length ≤ 600
      · rw [if_pos ⟨h0, h1, h2⟩]
        simp only [spec_StreamXor.j0]
        rw [if_neg (by simp; omega), keys_at a h0]
        simp only [Option.bind_some]
        rw [stream_at K (schedL a) b d (schedL_length a h0) h1 (by omega) (by omega)]
        simp only [Option.bind_some]
      · rw [if_neg (fun q => h2 q.2.2)]
        simp only [spec_StreamXor.j0]
        rw [if_pos (by simp; omega)]
    · rw [if_neg (by omega), if_neg (fun q => h1 q.2.1)]
      simp only [spec_StreamXor.j0]
      rfl
  · rw [if_neg (by omega), if_neg (fun q => h0 q.1)]
    simp only [spec_StreamXor.j0]
    rfl
theorem str_at (a b d : List (BitVec 8)) : ∃ c ys, ys.length ≤ 1048576 ∧ (∀ k, 4000 ≤ k → spec_StreamXor.f k (bL a) (bL b) (bL d) = some (c, ys)) ∧ impl_StreamXor.f (bL a) (bL b) (bL d) = some (c, ys) := by
  refine ⟨(impl_StreamXor.g a b d).1, (impl_StreamXor.g a b d).2, ?_, fun k hk => strSpec k hk a b d, ?_⟩
  · unfold impl_StreamXor.g
    split
    · rename_i h
      show (bL (streamL _ _ _)).length ≤ _
      rw [bL_length, streamL_length]
      omega
    · simp
  · unfold impl_StreamXor.f
    rw [if_pos ⟨bL_isBs _, bL_isBs _, bL_isBs _⟩, unB_bL, unB_bL, unB_bL]

end Go.Proofs.Ytjfdcabgbcbdjaa.All
