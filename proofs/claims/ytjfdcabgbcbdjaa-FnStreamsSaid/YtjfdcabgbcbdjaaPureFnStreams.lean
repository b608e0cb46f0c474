/- The law FnStreams in numbers and lists: whatever comes in, it answers true.-/
import Derived.Test.YtjfdcabgbcbdjaaAllx161
import Derived.Test.YtjfdcabgbcbdjaaAllx191
import Derived.Test.YtjfdcabgbcbdjaaAllx20
import Derived.Test.YtjfdcabgbcbdjaaAllx31
import Derived.Test.YtjfdcabgbcbdjaaAllx546
import Derived.Test.YtjfdcabgbcbdjaaAllx548
import Derived.Test.YtjfdcabgbcbdjaaLemBlockUp
import Derived.Test.YtjfdcabgbcbdjaaLemDrawStr
import Derived.Test.YtjfdcabgbcbdjaaLemLwAt
import Derived.Test.YtjfdcabgbcbdjaaLemSame
import Derived.Test.YtjfdcabgbcbdjaaLemStream
set_option linter.unusedVariables false
set_option linter.unusedSimpArgs false
namespace Go.Proofs.Ytjfdcabgbcbdjaa.Pure
open Go.RowKit Go.Proofs.Ytjfdcabgbcbdjaa.All Go.Proofs.YtjfdcabgbcbdjaaW.PrintWords Go.Proofs.YtjfdcabgbcbdjaaW.PrintLast Go.Proofs.YtjfdcabgbcbdjaaW.PrintMore
theorem str_twice (ks m d : List (BitVec 8)) : streamL ks m (streamL ks m d) = d := by
  unfold streamL
  rw [tab_length]
  conv => rhs; rw [← tab_self d]
  refine tab_congr fun i hi => ?_
  rw [tab_get _ _ _ hi, BitVec.xor_assoc, BitVec.xor_self, BitVec.xor_zero]
theorem str_part (ks m d : List (BitVec 8)) (t : Nat) (ht : t ≤ d.length) : streamL ks m (d.take t) = (streamL ks m d).take t := by
  apply List.ext_getElem?
  intro i
  rw [List.getElem?_take]
  unfold streamL tab
  rw [List.getElem?_map, List.getElem?_map, List.length_take]
  by_cases h : i < t
  · rw [if_pos h, List.getElem?_range (by omega), List.getElem?_range (by omega)]
    simp only [Option.map_some]
    congr 2
    unfold by_
    rw [List.getD_eq_getElem?_getD, List.getD_eq_getElem?_getD, List.getElem?_take, if_pos h]
  · rw [if_neg h, List.getElem?_eq_none (by simp; omega)]
    rfl
theorem FnStreams : laws_FnStreams.Pure := by
  intro l0 _ _ hw
  obtain ⟨n, rfl⟩ := bL_of l0 hw
  obtain ⟨K, hK⟩ : ∃ K, K > 6000 := ⟨_, Nat.lt_succ_self _⟩
  refine ⟨K + 1, ?_⟩
  unfold laws_FnStreams.f laws_lwBig.f
  by_cases h : ((bL n).length : Int) > 1048576
  · simp [h]
  have hb := bL_wf n
  have hl : (bL n).length ≤ 1099511627776 := by omega
  simp only [Option.bind_some]
  rw [if_neg (by simpa using h)]
  obtain ⟨a, b, d, hd9, hd⟩ := drawSX (bL n) hb hl (K + 1) (by omega)
  obtain ⟨u, hu⟩ := drawCU (bL n) hb hl (K + 1) (by omega)
  have hI : ∀ x y z : List (BitVec 8), impl_StreamXor.f (bL x) (bL y) (bL z) = some (impl_StreamXor.g x y z) := fun x y z => by
    unfold impl_StreamXor.f
    rw [if_pos ⟨bL_isBs _, bL_isBs _, bL_isBs _⟩, unB_bL, unB_bL, unB_bL]
  have hS : ∀ k, 4000 ≤ k → spec_StreamXor.f k (bL a) (bL b) (bL d) = some (impl_StreamXor.g a b d) := fun k hk => strSpec k hk a b d
  obtain ⟨c2, ys2, hc, hcS⟩ : ∃ c2 ys2, impl_CountUp.f (bL u) = some (c2, bL ys2) ∧ spec_CountUp.f (K + 1) (bL u) = some (c2, bL ys2) := by
    unfold impl_CountUp.f spec_CountUp.f
    rw [if_pos (bL_isBs _), bL_length, unB_bL]
    by_cases h16 : u.length = 16
    · refine ⟨0, upL u, by rw [if_pos h16], ?_⟩
      rw [if_pos (by omega), l3Count_at _ u h16 (by omega)]
      rfl
    · exact ⟨2, [], by rw [if_neg h16]; rfl, by rw [if_neg (by omega)]; rfl⟩
  rw [hd]
  simp only [Option.bind_some]
  rw [hI]
  simp only [Option.bind_some]
  rw [hu]
  simp only [Option.bind_some]
  rw [hc]
  simp only [Option.bind_some]
  rw [hS (K + 1) (by omega)]
  simp only [Option.bind_some, if_true]
  rw [hcS]
  simp only [Option.bind_some, if_true]
  rw [sameB, decide_eq_true rfl]
  simp only [Option.bind_some, Bool.not_true]
  by_cases hg0 : a.length = 16 ∧ b.length = 16 ∧ d.length ≤ 600
  · have hg : ∀ z : List (BitVec 8), z.length ≤ 600 → impl_StreamXor.g a b z = (0, bL (streamL (schedL a) b z)) := fun z hz => by
      unfold impl_StreamXor.g
      rw [if_pos ⟨hg0.1, hg0.2.1, hz⟩]
    rw [hg d hg0.2.2]
    simp only [laws_FnStreams.j0]
    rw [if_neg (by decide), if_pos trivial]
    have w1 : wrap64 (((bL d).length : Int) + 1) = ((bL d).length : Int) + 1 := by rw [bL_length]; unfold wrap64; omega
    obtain ⟨t, ht, t0, t1⟩ := lwAt_at (bL n) hb hl 2 (((bL d).length : Int) + 1) (by omega) (by omega) (by omega)
    obtain ⟨T, rfl⟩ : ∃ T : Nat, t = T := ⟨t.toNat, by omega⟩
    have hTd : T ≤ d.length := by rw [bL_length] at t1; omega
    rw [w1, ht]
    simp only [Option.bind_some]
    rw [if_pos t0, if_pos (by omega), Int.toNat_natCast, bL_take, hI, hg _ (by rw [List.length_take]; omega)]
    simp only [Option.bind_some]
    rw [if_pos (by rw [bL_length, bL_length, streamL_length]), hI, hg _ (by rw [streamL_length]; exact hg0.2.2), str_twice]
    simp only [Option.bind_some]
    rw [sameB, decide_eq_true rfl]
    simp only [Option.bind_some, if_true]
    rw [if_pos (by rw [bL_length, streamL_length]; omega), bL_take, str_part _ _ _ _ hTd, sameB, decide_eq_true rfl]
    simp only [Option.bind_some, if_true]
    rw [hS K (by omega), hg d hg0.2.2]
    simp only [Option.bind_some]
    rw [sameB, decide_eq_true rfl]
    simp only [Option.bind_some]
  · have hg : impl_StreamXor.g a b d = (2, []) := by
      unfold impl_StreamXor.g
      rw [if_neg hg0]
    rw [hg]
    simp only [laws_FnStreams.j0]
    rw [if_neg (by decide), if_neg (by decide)]

end Go.Proofs.Ytjfdcabgbcbdjaa.Pure
