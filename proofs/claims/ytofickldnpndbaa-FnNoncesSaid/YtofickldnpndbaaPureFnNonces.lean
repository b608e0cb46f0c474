/- The law FnNonces in numbers and lists: whatever comes in, it answers true.-/
import Derived.Test.YtofickldnpndbaaAllx111
import Derived.Test.YtofickldnpndbaaAllx113
import Derived.Test.YtofickldnpndbaaAllx150
import Derived.Test.YtofickldnpndbaaAllx152
import Derived.Test.YtofickldnpndbaaAllx20
import Derived.Test.YtofickldnpndbaaAllx519
import Derived.Test.YtofickldnpndbaaAllx6
import Derived.Test.YtofickldnpndbaaLemDrawSome
import Derived.Test.YtofickldnpndbaaLemNonces
import Derived.Test.YtofickldnpndbaaLemNumbers
set_option linter.unusedVariables false
set_option linter.unusedSimpArgs false
namespace Go.Proofs.Ytofickldnpndbaa.Pure
open Go.RowKit Go.Proofs.Ytofickldnpndbaa.All Go.Proofs.YtofickldnpndbaaW.PrintWords Go.Proofs.YtofickldnpndbaaW.PrintLast Go.Proofs.YtofickldnpndbaaW.PrintMore
theorem drawNo (l : List Int) (hb : ∀ x ∈ l, 0 ≤ x ∧ x < 256) (hl : l.length ≤ 1099511627776) : ∃ a b : Int, spec_DrawNonceOf.f l = some (a, b) ∧ (-1000 ≤ a ∧ a ≤ 1000) ∧ (-2000000000 ≤ b ∧ b ≤ 2000000000) := by
  unfold spec_DrawNonceOf.f spec_l1Source.f
  simp only [Option.bind_some]
  obtain ⟨i, hi, _⟩ := pick_at2 l hb hl 0 (by omega) (by omega) [0, 1, 15, 16, -1] (by simp)
  rw [hi]
  simp only [Option.bind_some]
  obtain ⟨j, hj, _⟩ := pick_at2 l hb hl (0 + 1) (by omega) (by omega) [0, 1, 256, 1000000000, 1000000001, -1] (by simp)
  rw [hj]
  exact ⟨_, _, rfl, rd_le _ _ _ (by decide) (by decide) _, rd_le _ _ _ (by decide) (by decide) _⟩
theorem drawHd (l : List Int) (hb : ∀ x ∈ l, 0 ≤ x ∧ x < 256) (hl : l.length ≤ 1099511627776) : ∃ a b c : Int, spec_DrawHeadOf.f l = some (a, b, c) := by
  unfold spec_DrawHeadOf.f
  obtain ⟨b, c, h, _⟩ := drawNo l hb hl
  rw [h]
  unfold spec_l1Later.f
  simp only [Option.bind_some]
  rw [show wrap64 (5 + wrap64 (7 * 1)) = 12 by decide +kernel]
  obtain ⟨i, hi, _⟩ := pick_at2 l hb hl 12 (by omega) (by omega) [1, 2, 255, 256, 0] (by simp)
  rw [hi]
  exact ⟨_, _, _, rfl⟩
theorem j1_bad (K : Nat) (a b c : Int) (ys : List Int) (h : ¬ c = 0) : laws_FnNonces.j1 (K + 1) a b false c ys = some true := by
  simp only [laws_FnNonces.j1]
  rw [if_neg (by decide), if_neg h]
theorem j1_good (K : Nat) (a b a2 b2 : Int) (ys z1 z2 : List Int) (c1 c2 : Int) (ha : Int.tmod (wrap64 (a + 1)) 16 = a2) (hb : wrap64 ((wrap64 (Int.tdiv b 2)) + 1) = b2) (h1 : impl_NonceOf.f K a2 b = some (c1, z1)) (h2 : impl_NonceOf.f K a b2 = some (c2, z2)) (h3 : spec_NonceOf.f K a b = some (0, ys)) (hl : (ys.length : Int) = 12) (e1 : laws_lwSame.f z1 ys = some false) (e2 : b2 ≠ b → laws_lwSame.f z2 ys = some false) : laws_FnNonces.j1 (K + 1) a b false 0 ys = some true := by
  simp only [laws_FnNonces.j1]
  rw [if_neg (by decide), if_pos trivial, ha, hb, h1]
  simp only [Option.bind_some]
  rw [h2]
  simp only [Option.bind_some]
  rw [if_pos hl, e1]
  simp only [Option.bind_some]
  rw [if_neg (by decide)]
  by_cases hq : b2 = b
  · rw [if_pos hq, h3]
    simp only [Option.bind_some, lwSame_id]
  · rw [if_neg hq, e2 hq]
    simp only [Option.bind_some]
    rw [if_neg (by decide), h3]
    simp only [Option.bind_some, lwSame_id]
theorem nonces_j1 (K : Nat) (hK : K > 100) (a b : Int) (ha : -1000 ≤ a ∧ a ≤ 1000) (hb : -2000000000 ≤ b ∧ b ≤ 2000000000) : laws_FnNonces.j1 (K + 1) a b false (nV a b).1 (nV a b).2 = some true := by
  by_cases ok : 0 ≤ a ∧ a ≤ 15 ∧ 0 ≤ b ∧ b ≤ 1000000000
  · have hv := nV_ok a b ok
    have w1 : Int.tmod (wrap64 (a + 1)) 16 = (a + 1) % 16 := by
      rw [show wrap64 (a + 1) = a + 1 by unfold wrap64; omega, Int.tmod_eq_emod_of_nonneg (by omega)]
    have w2 : wrap64 ((wrap64 (Int.tdiv b 2)) + 1) = b / 2 + 1 := by
      rw [Int.tdiv_eq_ediv_of_nonneg (by omega), show wrap64 (b / 2) = b / 2 by unfold wrap64; omega]
      unfold wrap64
      omega
    have n1 := nV_ok ((a + 1) % 16) b ⟨by omega, by omega, by omega, by omega⟩
    have n2 := nV_ok a (b / 2 + 1) ⟨by omega, by omega, by omega, by omega⟩
    rw [hv]
    refine j1_good K a b _ _ _ _ _ _ _ w1 w2 ((nonceI K hK _ _).trans (by rw [n1])) ((nonceI K hK _ _).trans (by rw [n2])) ((nonceS K hK _ _).trans (by rw [hv])) ?_ ?_ ?_
    · rw [bL_length, List.length_append, packB_length, packB_length]
      rfl
    · exact lwSame_ne _ _ (pack_ne _ _ _ _ (by omega) (by omega) (by omega) (by omega) (.inl (by omega)))
    · exact fun h => lwSame_ne _ _ (pack_ne _ _ _ _ (by omega) (by omega) (by omega) (by omega) (.inr (by omega)))
  · rw [nV_no a b ok]
    exact j1_bad K a b 3 [] (by decide)
theorem j0_step (K : Nat) (a b c d : Int) (ys L : List Int) (v : Int × Int × Int × List Int) (hl : (L.length : Int) = 11) (hr : impl_ReadHead.f K L = some (0, v)) : laws_FnNonces.j0 (K + 1) a b false c ys 0 L = laws_FnNonces.j1 K a b false c ys := by
  simp only [laws_FnNonces.j0]
  rw [if_neg (by decide), if_pos trivial, if_pos hl, hr]
  simp only [Option.bind_some]
  rfl
theorem j0_no (K : Nat) (a b c d : Int) (ys L : List Int) (h : ¬ d = 0) : laws_FnNonces.j0 (K + 1) a b false c ys d L = laws_FnNonces.j1 K a b false c ys := by
  simp only [laws_FnNonces.j0]
  rw [if_neg (by decide), if_neg h]
theorem FnNonces : laws_FnNonces.Pure := by
  intro l0 _ _ hw
  obtain ⟨n, rfl⟩ := bL_of l0 hw
  obtain ⟨K, hK⟩ : ∃ K, K > 4000 := ⟨_, Nat.lt_succ_self _⟩
  refine ⟨K + 3, ?_⟩
  unfold laws_FnNonces.f laws_lwBig.f
  by_cases h : ((bL n).length : Int) > 1048576
  · simp [h]
  have hb := bL_wf n
  have hl : (bL n).length ≤ 1099511627776 := by omega
  obtain ⟨a, b, hN, ha, hb2⟩ := drawNo (bL n) hb hl
  obtain ⟨p, q, c, hH⟩ := drawHd (bL n) hb hl
  obtain ⟨t, ht, hok, hI, hS⟩ := headI (K + 2) (by omega) p q c
  simp only [Option.bind_some]
  rw [if_neg (by simpa using h), hN]
  simp only [Option.bind_some]
  rw [nonceI (K + 3) (by omega) a b]
  simp only [Option.bind_some]
  rw [hH]
  simp only [Option.bind_some]
  rw [hI]
  simp only [Option.bind_some]
  rw [nonceS (K + 3) (by omega) a b]
  simp only [Option.bind_some, if_true]
  rw [hS]
  simp only [Option.bind_some, if_true]
  rw [lwSame_id]
  simp only [Option.bind_some, Bool.not_true]
  have hj := nonces_j1 (K + 1) (by omega) a b ha hb2
  cases t with
  | true =>
    obtain ⟨v, hv⟩ := headRead (K + 1) (by omega) p q c ht (hok rfl)
    have hz : hV p q c true = (0, [1, p % 256, q % 256] ++ bL (packB c.toNat 8)) := rfl
    rw [hz]
    rw [j0_step (K + 2) a b (nV a b).1 0 (nV a b).2 _ v (by rw [List.length_append, bL_length, packB_length]; rfl) hv]
    exact hj
  | false =>
    have hz : hV p q c false = (3, []) := rfl
    rw [hz]
    rw [j0_no (K + 2) a b (nV a b).1 3 (nV a b).2 [] (by decide)]
    exact hj

end Go.Proofs.Ytofickldnpndbaa.Pure
