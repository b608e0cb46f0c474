/- The law FnNumbers in numbers and lists: whatever comes in, it answers true.-/
import Derived.Test.YtofickldnpndbaaAllx121
import Derived.Test.YtofickldnpndbaaAllx142
import Derived.Test.YtofickldnpndbaaAllx143
import Derived.Test.YtofickldnpndbaaAllx145
import Derived.Test.YtofickldnpndbaaAllx20
import Derived.Test.YtofickldnpndbaaAllx21
import Derived.Test.YtofickldnpndbaaAllx43
import Derived.Test.YtofickldnpndbaaAllx5
import Derived.Test.YtofickldnpndbaaAllx75
import Derived.Test.YtofickldnpndbaaAllx81
import Derived.Test.YtofickldnpndbaaLemNumbers
import Derived.Test.YtofickldnpndbaaLemPack
import Derived.Test.YtofickldnpndbaaLemRead
import Derived.Test.YtofickldnpndbaaLemRows
import Derived.Test.YtofickldnpndbaaLemXor
set_option linter.unusedVariables false
set_option linter.unusedSimpArgs false
namespace Go.Proofs.Ytofickldnpndbaa.Pure
open Go.RowKit Go.Proofs.Ytofickldnpndbaa.All Go.Proofs.YtofickldnpndbaaW.PrintWords Go.Proofs.YtofickldnpndbaaW.PrintLast Go.Proofs.YtofickldnpndbaaW.PrintMore
theorem readWord_at2 (K : Nat) (hK : K > 100) (xs : List (BitVec 8)) (hx : xs.length ≤ 1048576) (s n : Int) (hs : (Lit.int .i64 s).wf = true) (hn : (Lit.int .i64 n).wf = true) : ∃ c v, spec_ReadWord.f K (bL xs) s n = some (c, v) ∧ impl_ReadWord.f K (bL xs) s n = some (c, v) := by
  have hs2 : -9223372036854775808 ≤ s ∧ s ≤ 9223372036854775807 := by
    simp [Lit.wf, IntKind.min, IntKind.max, IntKind.bits, IntKind.signed] at hs
    exact ⟨by omega, by omega⟩
  obtain ⟨K, rfl⟩ : ∃ m, K = m + 1 := ⟨K - 1, by omega⟩
  have bad : ∀ b, b = true → spec_ReadWord.j0 (K + 1) (bL xs) s n b = some (3, 0) := by
    intro b hb
    simp only [spec_ReadWord.j0]
    rw [if_pos hb]
  have bad2 : ∀ b, b = true → impl_ReadWord.j0 (K + 1) (bL xs) s n b = some (3, 0) := by
    intro b hb
    simp only [impl_ReadWord.j0]
    rw [if_pos hb]
    rfl
  unfold spec_ReadWord.f impl_ReadWord.f spec_l1In.f impl_in.f
  rw [bL_length]
  by_cases h1 : n ≥ 1
  · rw [if_pos h1]
    simp only [Option.bind_some]
    by_cases h8 : n ≤ 8
    · rw [if_pos (decide_eq_true h8), if_pos (decide_eq_true h8)]
      by_cases hneg : s < 0
      · rw [if_pos hneg, if_pos hneg, bad _ rfl, bad2 _ rfl]
        exact ⟨3, 0, rfl, rfl⟩
      · rw [if_neg hneg, if_neg hneg]
        have w1 : wrap64 ((xs.length : Int) - n) = (xs.length : Int) - n := by unfold wrap64; omega
        rw [w1]
        by_cases hgt : s > (xs.length : Int)
        · rw [if_pos hgt, bad _ (decide_eq_true (by omega)), bad2 _ rfl]
          exact ⟨3, 0, rfl, rfl⟩
        · rw [if_neg hgt]
          have w2 : wrap64 ((xs.length : Int) - s) = (xs.length : Int) - s := by unfold wrap64; omega
          rw [w2]
          by_cases hin : s > (xs.length : Int) - n
          · rw [bad _ (decide_eq_true hin), bad2 _ (decide_eq_true (by omega))]
            exact ⟨3, 0, rfl, rfl⟩
          · rw [decide_eq_false hin, decide_eq_false (show ¬ ((xs.length : Int) - s < n) by omega)]
            obtain ⟨a, rfl⟩ : ∃ a : Nat, s = (a : Int) := ⟨s.toNat, by omega⟩
            obtain ⟨m, rfl⟩ : ∃ m : Nat, n = (m : Int) := ⟨n.toNat, by omega⟩
            have w3 : wrap64 ((a : Int) + (m : Int)) = ((a + m : Nat) : Int) := by unfold wrap64; omega
            have ys : ((bL xs).take (a + m)).drop a = bL ((xs.drop a).take m) := by
              rw [bL_take, bL_drop, List.drop_take, show a + m - a = m by omega]
            have hl : ((xs.drop a).take m).length = m := by rw [List.length_take, List.length_drop]; omega
            have hi : impl_ReadWord.j0 (K + 1) (bL xs) (a : Int) (m : Int) false = wordEnd (numN 0 ((xs.drop a).take m)) := by
              simp only [impl_ReadWord.j0, bL_length, w3]
              rw [if_neg (by simp), if_pos (by omega), if_pos (by omega), if_pos (by omega), Int.toNat_natCast, Int.toNat_natCast, ys, bL_length]
              have h := word_loop ((xs.drop a).take m) (by omega) m K 0 0 (by omega) (by omega) (by simp)
              rw [List.drop_zero] at h
              exact h
            rw [hi]
            have hread := read_at K xs a m (by omega) (by omega) (by omega)
            simp only [spec_ReadWord.j0, bL_length, hread, Option.bind_some, rd_bL, Int.toNat_natCast]
            rw [if_neg (by simp)]
            unfold wordEnd
            have hx2 : 1 ≤ m → xs.drop a = xs.getD a 0#8 :: xs.drop (a + 1) := fun _ => by
              rw [List.drop_eq_getElem_cons (by omega), List.getD_eq_getElem?_getD, List.getElem?_eq_getElem (by omega)]
              rfl
            by_cases hm8 : m = 8
            · subst hm8
              rw [if_pos (by omega), if_pos (by omega), if_pos (by omega)]
              have hy : (xs.drop a).take 8 = xs.getD a 0#8 :: (xs.drop (a + 1)).take 7 := by rw [hx2 (by omega)]; rfl
              have hl7 : ((xs.drop (a + 1)).take 7).length = 7 := by rw [List.length_take, List.length_drop]; omega
              have hlo := numN_ge ((xs.drop (a + 1)).take 7) (0 * 256 + (xs.getD a 0#8).toNat)
              have hhi := numN_lt ((xs.drop (a + 1)).take 7) (0 * 256 + (xs.getD a 0#8).toNat) ((xs.getD a 0#8).toNat + 1) (by omega)
              rw [hl7] at hlo hhi
              by_cases hb : bI (xs.getD a 0#8) > 127
              · rw [if_pos hb]
                have hb2 : (xs.getD a 0#8).toNat > 127 := by unfold bI at hb; omega
                refine ⟨1, 0, rfl, ?_⟩
                rw [hy, numN_cons, if_pos (by omega)]
              · rw [if_neg hb]
                have hb2 : (xs.getD a 0#8).toNat ≤ 127 := by unfold bI at hb; omega
                refine ⟨0, _, rfl, ?_⟩
                have hf := rd_fold ((xs.drop (a + 1)).take 7) (0 * 256 + (xs.getD a 0#8).toNat) 128 (by omega) (by rw [hl7]; decide)
                rw [hy, numN_cons, if_neg (by omega), List.foldl_cons, show rdW 0 (xs.getD a 0#8) = ((0 * 256 + (xs.getD a 0#8).toNat : Nat) : Int) from rdW_nat 0 _ (by omega), hf]
            · rw [if_neg (by omega)]
              have hp : 256 ^ m ≤ 256 ^ 7 := Nat.pow_le_pow_right (by omega) (by omega)
              have hf := rd_fold ((xs.drop a).take m) 0 1 (by omega) (by rw [hl]; omega)
              have hlt := numN_lt ((xs.drop a).take m) 0 1 (by omega)
              rw [hl] at hlt
              refine ⟨0, _, rfl, ?_⟩
              rw [if_neg (by omega)]
              rw [← hf]
              rfl
    · have d8 : ¬ (decide (n ≤ 8) = true) := by simpa using h8
      rw [if_neg d8, if_neg d8, bad _ rfl, bad2 _ rfl]
      exact ⟨3, 0, rfl, rfl⟩
  · rw [if_neg h1]
    simp only [Option.bind_some]
    rw [if_neg (by simp), if_neg (by simp), bad _ rfl, bad2 _ rfl]
    exact ⟨3, 0, rfl, rfl⟩
theorem numbers_j2 (K : Nat) (hK : 2000 < K) (a b : List (BitVec 8)) (c : Int) (ys : List Int) (h : impl_XorBytes.f K (bL a) (bL b) = some (c, ys)) : laws_FnNumbers.j2 (K + 1) (bL a) (bL b) false c ys = some true := by
  simp only [laws_FnNumbers.j2]
  rw [if_neg (by decide)]
  by_cases hc : c = 0
  · subst hc
    rw [if_pos rfl]
    by_cases ha : a.length ≤ 800
    · rw [xorW K (by omega) a b ha] at h
      by_cases he : a.length = b.length
      · rw [if_pos he, Option.some.injEq, Prod.mk.injEq] at h
        obtain ⟨_, rfl⟩ := h
        rw [xrL_bL, xorW K (by omega) _ b (by rw [tab_length]; omega), if_pos (by rw [tab_length]; omega), tab_length, xrL_bL, xor_twice]
        simp only [Option.bind_some]
        rw [lwSame_self]
        simp [bL_length, tab_length]
      · rw [if_neg he] at h
        cases h
    · unfold impl_XorBytes.f impl_noBytes.f at h
      rw [if_pos (by rw [bL_length]; omega)] at h
      cases h
  · rw [if_neg hc]
theorem j1_step (K : Nat) (X : List Int) (x7 x8 : Int) (a b : List Int) (rv c : Int) (ys B : List Int) (e : Int) (hp : impl_PackWord.f (K + 1) rv x8 = some (0, B)) (h0 : 0 ≤ x7) (hw : wrap64 (x7 + x8) = e) (h1 : x7 ≤ e) (h2 : e ≤ (X.length : Int)) (hs : (X.take e.toNat).drop x7.toNat = B) :
    laws_FnNumbers.j1 (K + 2) X x7 x8 a b false 0 rv c ys = laws_FnNumbers.j2 (K + 1) a b false c ys := by
  simp only [laws_FnNumbers.j1]
  rw [if_neg (by decide), if_pos trivial, hp]
  simp only [Option.bind_some]
  rw [hw, if_pos h0, if_pos h1, if_pos h2, hs, lwSame_self]
  simp only [Option.bind_some, Bool.not_true]
theorem j1_no (K : Nat) (X : List Int) (x7 x8 : Int) (a b : List Int) (rc rv c : Int) (ys : List Int) (h : ¬ rc = 0) : laws_FnNumbers.j1 (K + 2) X x7 x8 a b false rc rv c ys = laws_FnNumbers.j2 (K + 1) a b false c ys := by
  simp only [laws_FnNumbers.j1]
  rw [if_neg (by decide), if_neg h]
theorem numbers_j1 (K : Nat) (hK : 2000 < K) (xs : List (BitVec 8)) (hx : xs.length ≤ 100) (s n : Int) (hs : -9223372036854775808 ≤ s ∧ s ≤ 9223372036854775807) (rc rv : Int) (hr : impl_ReadWord.f K (bL xs) s n = some (rc, rv)) (a b : List (BitVec 8)) (c : Int) (ys : List Int) (h : ∀ k, 2000 < k → impl_XorBytes.f k (bL a) (bL b) = some (c, ys)) (hb : Bool) (hf : hb = false) : laws_FnNumbers.j1 (K + 2) (bL xs) s n (bL a) (bL b) hb rc rv c ys = some true := by
  subst hf
  by_cases hc : rc = 0
  · subst hc
    rcases readW K (by omega) xs (by omega) s n hs with ⟨p, m, rfl, rfl, hm1, hm8, hpm, he⟩ | he
    · rw [he] at hr
      unfold wordEnd at hr
      have hl : ((xs.drop p).take m).length = m := by rw [List.length_take, List.length_drop]; omega
      have hlt := numN_lt ((xs.drop p).take m) 0 1 (by omega)
      rw [hl] at hlt
      by_cases hg : numN 0 ((xs.drop p).take m) > 9223372036854775807
      · rw [if_pos hg] at hr
        cases hr
      · rw [if_neg hg, Option.some.injEq, Prod.mk.injEq] at hr
        obtain ⟨_, rfl⟩ := hr
        rcases packW (K + 1) (by omega) ((numN 0 ((xs.drop p).take m) : Nat) : Int) (m : Int) (by omega) with ⟨v, m', e1, e2, _, _, _, hp⟩ | ⟨_, hno⟩
        · have e1' : numN 0 ((xs.drop p).take m) = v := by omega
          have e2' : m = m' := by omega
          subst e1' e2'
          have w3 : wrap64 ((p : Int) + (m : Int)) = ((p + m : Nat) : Int) := by unfold wrap64; omega
          have sl : ((bL xs).take (p + m)).drop p = bL ((xs.drop p).take m) := by
            rw [bL_take, bL_drop, List.drop_take, show p + m - p = m by omega]
          have sl2 : ((bL xs).take (((p + m : Nat) : Int)).toNat).drop ((p : Int)).toNat = bL (packB (numN 0 ((xs.drop p).take m)) m) := by rw [Int.toNat_natCast, Int.toNat_natCast, sl, num_packB m _ hl]
          generalize bL (packB (numN 0 ((xs.drop p).take m)) m) = B at hp sl2
          rw [j1_step K (bL xs) p m (bL a) (bL b) _ c ys B _ hp (by omega) w3 (by omega) (by rw [bL_length]; omega) sl2]
          exact numbers_j2 K hK a b c ys (h K hK)
        · exact absurd ⟨by omega, by omega, by omega, by simpa using hlt⟩ hno
    · rw [he] at hr
      cases hr
  · rw [j1_no _ _ _ _ _ _ _ _ _ _ hc]
    exact numbers_j2 K hK a b c ys (h K hK)
theorem FnNumbers : laws_FnNumbers.Pure := by
  intro l0 _ _ hw
  obtain ⟨n, rfl⟩ := bL_of l0 hw
  obtain ⟨K, hK⟩ : ∃ K, K > 4000 := ⟨_, Nat.lt_succ_self _⟩
  refine ⟨K + 3, ?_⟩
  unfold laws_FnNumbers.f laws_lwBig.f
  by_cases h : ((bL n).length : Int) > 1048576
  · simp [h]
  have hb := bL_wf n
  have hl : (bL n).length ≤ 1099511627776 := by omega
  obtain ⟨x, sz, hP, hx, hsz⟩ := drawPW (bL n) hb hl
  obtain ⟨xs, s, m, hR, hxs, hs, hm⟩ := drawRW (bL n) hb hl (K + 3) (by omega)
  obtain ⟨a, b, ha, hb2, hX⟩ := drawXB (bL n) hb hl (K + 3) (by omega)
  obtain ⟨u, v, hS⟩ := drawSameB (bL n) hb hl (K + 3) (by omega)
  have wf : ∀ z : Int, -9223372036854775808 ≤ z → z ≤ 9223372036854775807 → (Lit.int .i64 z).wf = true := fun z h1 h2 => by
    simp [Lit.wf, IntKind.min, IntKind.max, IntKind.bits, IntKind.signed]
    omega
  obtain ⟨pc, ps, _, hp1, hp2⟩ := packWord_at (K + 3) (by omega) x sz (wf _ hx.1 hx.2) (wf _ (by omega) (by omega))
  obtain ⟨rc, rv, hr1, hr2⟩ := readWord_at2 (K + 3) (by omega) xs (by omega) s m (wf _ hs.1 hs.2) (wf _ (by omega) (by omega))
  obtain ⟨xc, ys, _, hx1, hx2⟩ := xor_at (K + 3) (by omega) (bL a) (bL b) (by rw [bL_length]; omega)
  have hxk : ∀ k, 2000 < k → impl_XorBytes.f k (bL a) (bL b) = some (xc, ys) := fun k hk => by
    by_cases h8 : a.length ≤ 800
    · rw [xorW _ (by omega) a b h8] at hx2 ⊢
      exact hx2
    · unfold impl_XorBytes.f at hx2 ⊢
      rw [if_pos (by rw [bL_length]; omega)] at hx2 ⊢
      exact hx2
  simp only [Option.bind_some]
  rw [if_neg (by simpa using h), hP]
  simp only [Option.bind_some]
  rw [hp2]
  simp only [Option.bind_some]
  rw [hR]
  simp only [Option.bind_some]
  rw [hr2]
  simp only [Option.bind_some]
  rw [hX]
  simp only [Option.bind_some]
  rw [hx2]
  simp only [Option.bind_some]
  rw [hS]
  simp only [Option.bind_some]
  rw [hp1]
  simp only [Option.bind_some, if_true]
  rw [hr1]
  simp only [Option.bind_some]
  rw [if_neg (by simp), hx1]
  simp only [Option.bind_some, if_true]
  have hsame : ∃ t, impl_SameBytes.f u v = some t ∧ laws_lwSame.f u v = some t := ⟨_, rfl, rfl⟩
  obtain ⟨t, ht1, ht2⟩ := hsame
  rw [ht1, ht2]
  simp only [Option.bind_some, bne_self_eq_false]
  have hrk : impl_ReadWord.f K (bL xs) s m = some (rc, rv) := by
    rcases readW K (by omega) xs (by omega) s m hs with ⟨p, q, rfl, rfl, _, _, _, he⟩ | he
    · rcases readW (K + 3) (by omega) xs (by omega) (p : Int) (q : Int) hs with ⟨p', q', e1, e2, _, _, _, he2⟩ | he2
      · have e1' : p = p' := by omega
        have e2' : q = q' := by omega
        subst e1' e2'
        rw [he2] at hr2
        rw [he]
        exact hr2
      · have up : ∀ d, impl_ReadWord.f (K + d) (bL xs) (p : Int) (q : Int) = wordEnd (numN 0 ((xs.drop p).take q)) := by
          intro d
          induction d with
          | zero => exact he
          | succ d ih =>
            unfold wordEnd at ih ⊢
            by_cases hg : numN 0 ((xs.drop p).take q) > 9223372036854775807
            · rw [if_pos hg] at ih ⊢
              exact impl_ReadWord.mono _ _ _ _ _ ih
            · rw [if_neg hg] at ih ⊢
              exact impl_ReadWord.mono _ _ _ _ _ ih
        rw [he, ← up 3]
        exact hr2
    · have := impl_ReadWord.mono _ _ _ _ _ (impl_ReadWord.mono _ _ _ _ _ (impl_ReadWord.mono _ _ _ _ _ he))
      rw [he]
      rw [hr2] at this
      exact this.symm
  simp only [laws_FnNumbers.j0]
  rw [if_neg (by decide)]
  by_cases hc : pc = 0
  · subst hc
    rw [if_pos rfl]
    rcases packW (K + 3) (by omega) x sz hx with ⟨w, q, rfl, rfl, h1, h8, hlt, hp⟩ | ⟨hp, _⟩
    · rw [hp, Option.some.injEq, Prod.mk.injEq] at hp2
      obtain ⟨_, rfl⟩ := hp2
      rw [if_pos (by rw [bL_length, packB_length])]
      have hrd : impl_ReadWord.f (K + 2) (bL (packB w q)) 0 (q : Int) = some (0, (w : Int)) := by
        rcases readW (K + 2) (by omega) (packB w q) (by rw [packB_length]; omega) 0 (q : Int) (by omega) with ⟨p', q', e1, e2, _, _, _, he⟩ | he
        · have e1' : p' = 0 := by omega
          have e2' : q = q' := by omega
          subst e1' e2'
          rw [he, List.drop_zero, List.take_of_length_le (by rw [packB_length]; omega), packB_num, Nat.mod_eq_of_lt hlt]
          unfold wordEnd
          rw [if_neg (by omega)]
        · exfalso
          unfold impl_ReadWord.f impl_in.f at he
          rw [if_pos (by omega)] at he
          simp only [Option.bind_some] at he
          rw [if_pos (decide_eq_true (by omega)), if_neg (by omega), if_neg (by omega), bL_length, packB_length, show wrap64 ((q : Int) - 0) = (q : Int) by unfold wrap64; omega, decide_eq_false (by omega)] at he
          simp only [impl_ReadWord.j0] at he
          rw [if_neg (by decide), if_pos (by omega), show wrap64 (0 + (q : Int)) = (q : Int) by unfold wrap64; omega, if_pos (by omega), if_pos (by rw [bL_length, packB_length]; omega)] at he
          have hz : ((bL (packB w q)).take ((q : Int)).toNat).drop (0 : Int).toNat = bL (packB w q) := by
            rw [Int.toNat_natCast, show (0 : Int).toNat = 0 from rfl, List.drop_zero, List.take_of_length_le (by rw [bL_length, packB_length]; omega)]
          rw [hz, bL_length] at he
          have hwl := word_loop (packB w q) (by rw [packB_length]; omega) q (K + 1) 0 0 (by rw [packB_length]; omega) (by omega) (by simp)
          rw [show ((0 : Nat) : Int) = 0 from rfl] at hwl
          rw [hwl] at he
          unfold wordEnd at he
          split at he <;> cases he
      rw [hrd]
      simp only [Option.bind_some]
      exact numbers_j1 K (by omega) xs hxs s m hs rc rv hrk a b xc ys hxk _ (by simp)
    · rw [hp] at hp2
      cases hp2
  · rw [if_neg hc]
    exact numbers_j1 K (by omega) xs hxs s m hs rc rv hrk a b xc ys hxk _ rfl

end Go.Proofs.Ytofickldnpndbaa.Pure
