import Derived.Test.YtofickldnpndbaaAllx0
import Derived.Lib.Bytes
import Derived.Test.YtofickldnpndbaaAllx20
import Derived.Test.YtofickldnpndbaaAllx5
import Derived.Test.YtofickldnpndbaaAllx111
import Derived.Test.YtofickldnpndbaaAllx51
import Derived.Test.YtofickldnpndbaaAllx519
import Derived.Test.YtofickldnpndbaaAllx113
import Derived.Test.YtofickldnpndbaaLemFault
import Derived.Test.YtofickldnpndbaaLemNonce
import Derived.Test.YtofickldnpndbaaLemNumbers
import Derived.Test.YtofickldnpndbaaLemPack
import Derived.Test.YtofickldnpndbaaLemRead
set_option linter.unusedVariables false
set_option linter.unusedSimpArgs false
namespace Go.Proofs.Ytofickldnpndbaa.All
open Go.RowKit Go.Proofs.Ytofickldnpndbaa.All Go.Proofs.YtofickldnpndbaaW.PrintWords Go.Proofs.YtofickldnpndbaaW.PrintLast Go.Proofs.YtofickldnpndbaaW.PrintMore

theorem implWord8n (K : Nat) (hK : K > 100) (xs : List (BitVec 8)) (hx : xs.length ≤ 1048576) (h11 : 11 ≤ xs.length) : impl_ReadWord.f K (bL xs) ((3 : Nat) : Int) ((8 : Nat) : Int) = wordEnd (numN 0 ((xs.drop 3).take 8)) := by
  obtain ⟨K, rfl⟩ : ∃ m, K = m + 1 := ⟨K - 1, by omega⟩
  have ys : ((bL xs).take (3 + 8)).drop 3 = bL ((xs.drop 3).take 8) := by rw [bL_take, bL_drop, List.drop_take]
  have hl : ((xs.drop 3).take 8).length = 8 := by rw [List.length_take, List.length_drop]; omega
  have w3 : wrap64 (((3 : Nat) : Int) + ((8 : Nat) : Int)) = ((3 + 8 : Nat) : Int) := by decide +kernel
  have w2 : wrap64 ((xs.length : Int) - ((3 : Nat) : Int)) = (xs.length : Int) - ((3 : Nat) : Int) := by unfold wrap64; omega
  unfold impl_ReadWord.f impl_in.f
  rw [bL_length, if_pos (by omega), w2]
  simp only [Option.bind_some]
  rw [if_pos (decide_eq_true (by omega)), if_neg (by omega), if_neg (by omega), decide_eq_false (by omega)]
  simp only [impl_ReadWord.j0, bL_length, w3]
  rw [if_neg (by simp), if_pos (by omega), if_pos (by omega), if_pos (by omega), Int.toNat_natCast, Int.toNat_natCast, ys, bL_length]
  have h := word_loop ((xs.drop 3).take 8) (by omega) 8 K 0 0 (by omega) (by omega) (by simp)
  rw [List.drop_zero] at h
  exact h
/-! ### nonces and heads, as they are -/
theorem bytes_inj : ∀ (x y : List (BitVec 8)), ((bL x).map fun n => UInt8.ofNat n.toNat) = ((bL y).map fun n => UInt8.ofNat n.toNat) → x = y
  | [], [], _ => rfl
  | [], _ :: _, h => by simp [bL] at h
  | _ :: _, [], h => by simp [bL] at h
  | a :: x, b :: y, h => by
    simp only [bL_cons, List.map_cons, List.cons.injEq] at h
    have e := congrArg UInt8.toNat h.1
    have ha := a.isLt
    have hb := b.isLt
    have e2 : a.toNat = b.toNat := by
      unfold bI at e
      simp only [Int.toNat_natCast, UInt8.toNat_ofNat'] at e
      omega
    rw [BitVec.eq_of_toNat_eq e2, bytes_inj x y h.2]
theorem lwSame_ne (x y : List (BitVec 8)) (h : x ≠ y) : laws_lwSame.f (bL x) (bL y) = some false := by
  unfold laws_lwSame.f
  rw [Go.Lib.strOfNums_toList, Go.Lib.strOfNums_toList]
  congr 1
  rw [beq_eq_false_iff_ne]
  exact fun e => h (bytes_inj x y e)
theorem lwSame_id (l : List Int) : laws_lwSame.f l l = some true := by
  unfold laws_lwSame.f
  simp
def nV (a b : Int) : Int × List Int := if 0 ≤ a ∧ a ≤ 15 ∧ 0 ≤ b ∧ b ≤ 1000000000 then (0, bL (packB a.toNat 4 ++ packB b.toNat 8)) else (3, [])
theorem nV_no (a b : Int) (h : ¬ (0 ≤ a ∧ a ≤ 15 ∧ 0 ≤ b ∧ b ≤ 1000000000)) : nV a b = (3, []) := by unfold nV; rw [if_neg h]
theorem nV_ok (a b : Int) (h : 0 ≤ a ∧ a ≤ 15 ∧ 0 ≤ b ∧ b ≤ 1000000000) : nV a b = (0, bL (packB a.toNat 4 ++ packB b.toNat 8)) := by unfold nV; rw [if_pos h]
theorem nonceI (K : Nat) (hK : K > 100) (a b : Int) : impl_NonceOf.f K a b = some (nV a b) := by
  obtain ⟨K, rfl⟩ : ∃ m, K = m + 1 := ⟨K - 1, by omega⟩
  have bad : ∀ z, z = true → impl_NonceOf.j0 (K + 1) a b z = some (3, []) := by
    intro z hz
    simp only [impl_NonceOf.j0]
    rw [if_pos hz]
    rfl
  unfold impl_NonceOf.f impl_in.f
  by_cases h1 : a ≥ 0
  · rw [if_pos h1]
    simp only [Option.bind_some]
    by_cases h2 : a ≤ 15
    · rw [if_pos (decide_eq_true h2)]
      by_cases h3 : b ≥ 0
      · rw [if_pos h3]
        simp only [Option.bind_some]
        by_cases h4 : b ≤ 1000000000
        · rw [decide_eq_true h4, nV_ok a b ⟨h1, h2, h3, h4⟩]
          obtain ⟨p, rfl⟩ : ∃ p : Nat, a = p := ⟨a.toNat, by omega⟩
          obtain ⟨q, rfl⟩ : ∃ q : Nat, b = q := ⟨b.toNat, by omega⟩
          have w1 := wordB K p 4 (by omega) (by omega) (by omega)
          have w2 := wordB K q 8 (by omega) (by omega) (by omega)
          rw [show ((4 : Nat) : Int) = 4 from rfl] at w1
          rw [show ((8 : Nat) : Int) = 8 from rfl] at w2
          simp only [impl_NonceOf.j0]
          rw [if_neg (by decide), w1, w2]
          simp only [Option.bind_some]
          rw [if_pos (by rw [bL_length, bL_length, packB_length, packB_length]; omega), Int.toNat_natCast, Int.toNat_natCast, bL_append]
        · rw [bad _ (by simpa using h4), nV_no a b (fun q => h4 q.2.2.2)]
      · rw [if_neg h3, nV_no a b (fun q => h3 q.2.2.1)]
        simp only [Option.bind_some]
        exact bad _ rfl
    · rw [if_neg (show ¬ (decide (a ≤ 15) = true) by simpa using h2), bad _ rfl, nV_no a b (fun q => h2 q.2.1)]
  · rw [if_neg h1, nV_no a b (fun q => h1 q.1)]
    simp only [Option.bind_some]
    rw [if_neg (by simp), bad _ rfl]
theorem nonceS (K : Nat) (hK : K > 100) (a b : Int) : spec_NonceOf.f K a b = some (nV a b) := by
  obtain ⟨c, ys, _, h1, h2⟩ := nonce_at K hK a b
  rw [nonceI K hK a b] at h2
  rw [h1, h2]
def hV (a b c : Int) (t : Bool) : Int × List Int := if t = true then (0, [1, a % 256, b % 256] ++ bL (packB c.toNat 8)) else (3, [])
theorem headI (K : Nat) (hK : K > 100) (a b c : Int) : ∃ t, spec_l5Head.f a b c [] = some (t, a, b, c) ∧ (t = true → 1 ≤ a ∧ a ≤ 255 ∧ 0 ≤ b ∧ b ≤ 15 ∧ 0 ≤ c ∧ c ≤ 1000000000) ∧ impl_HeadOf.f (K + 1) a b c = some (hV a b c t) ∧ spec_HeadOf.f (K + 1) a b c = some (hV a b c t) := by
  obtain ⟨t, ht, hs⟩ := fault_at K a b c
  have hok : t = true → 1 ≤ a ∧ a ≤ 255 ∧ 0 ≤ b ∧ b ≤ 15 ∧ 0 ≤ c ∧ c ≤ 1000000000 := by
    intro h
    subst h
    have h2 := hs
    unfold spec_l5Head.f spec_l1In.f at h2
    by_cases h1 : a ≥ 1
    · rw [if_pos h1] at h2
      simp only [Option.bind_some] at h2
      by_cases h3 : a ≤ 255
      · rw [if_pos (decide_eq_true h3)] at h2
        by_cases h4 : b ≥ 0
        · rw [if_pos h4] at h2
          simp only [Option.bind_some] at h2
          by_cases h5 : b ≤ 15
          · rw [if_pos (decide_eq_true h5)] at h2
            by_cases h6 : c ≥ 0
            · rw [if_pos h6] at h2
              simp only [Option.bind_some, Option.some.injEq, Prod.mk.injEq] at h2
              exact ⟨h1, h3, h4, h5, h6, of_decide_eq_true h2.1⟩
            · rw [if_neg h6] at h2
              simp at h2
          · rw [if_neg (show ¬ (decide (b ≤ 15) = true) by simpa using h5)] at h2
            simp at h2
        · rw [if_neg h4] at h2
          simp at h2
      · rw [if_neg (show ¬ (decide (a ≤ 255) = true) by simpa using h3)] at h2
        simp at h2
    · rw [if_neg h1] at h2
      simp at h2
  refine ⟨t, hs, hok, ?_⟩
  unfold spec_HeadOf.f impl_HeadOf.f hV
  simp only [ht, hs, Option.bind_some]
  cases t with
  | true =>
    have o := hok rfl
    obtain ⟨q, hq⟩ : ∃ q : Nat, c = q := ⟨c.toNat, by omega⟩
    subst hq
    obtain ⟨y, hy, sy, iy⟩ := pack_at (K + 1) (q : Int) 8 (by omega) (by omega)
    have w2 := wordB (K + 1) q 8 (by omega) (by omega) (by omega)
    rw [iy, Option.some.injEq] at w2
    subst w2
    rw [show ((8 : Nat) : Int) = 8 from rfl] at sy iy
    rw [Int.toNat_natCast]
    constructor
    · rw [if_pos (by simp), if_pos rfl, iy]
      simp only [Option.bind_some]
      rw [if_pos (by simp; omega)]
    · rw [if_pos rfl, if_pos rfl, sy]
      simp only [Option.bind_some]
      rw [if_pos (by omega)]
  | false => exact ⟨by simp [impl_noBytes.f], by simp⟩
theorem readHead_step (k : Nat) (L : List Int) (x y q : Int) (h11 : (L.length : Int) = 11) (r0 : rd L 0 = 1) (r1 : rd L 1 = x) (r2 : rd L 2 = y) (hw : impl_ReadWord.f k L 3 8 = some (0, q)) (wx : wrap64 x = x) (wy : wrap64 y = y) (ht : impl_LetterFault.f k x y q [] = some 0) : impl_ReadHead.f k L = some (0, x, y, q, []) := by
  unfold impl_ReadHead.f
  rw [h11, if_neg (by omega), if_pos (by omega), r0, if_pos rfl, hw]
  simp only [Option.bind_some]
  rw [if_pos (by omega), if_pos (by omega), if_pos trivial, r1, r2, wx, wy, ht]
  simp only [Option.bind_some]
  rw [if_pos trivial]
theorem headRead (K : Nat) (hK : K > 100) (a b c : Int) (h : spec_l5Head.f a b c [] = some (true, a, b, c)) (o : 1 ≤ a ∧ a ≤ 255 ∧ 0 ≤ b ∧ b ≤ 15 ∧ 0 ≤ c ∧ c ≤ 1000000000) : ∃ v, impl_ReadHead.f (K + 1) ([1, a % 256, b % 256] ++ bL (packB c.toNat 8)) = some (0, v) := by
  obtain ⟨t, ht, hs⟩ := fault_at K a b c
  rw [h, Option.some.injEq, Prod.mk.injEq] at hs
  obtain ⟨rfl, _⟩ := hs
  obtain ⟨q, rfl⟩ : ∃ q : Nat, c = q := ⟨c.toNat, by omega⟩
  obtain ⟨x, rfl⟩ : ∃ x : Nat, a = x := ⟨a.toNat, by omega⟩
  obtain ⟨y, rfl⟩ : ∃ y : Nat, b = y := ⟨b.toNat, by omega⟩
  have e1 : (x : Int) % 256 = bI (BitVec.ofNat 8 x) := by rw [← byte_of]
  have e2 : (y : Int) % 256 = bI (BitVec.ofNat 8 y) := by rw [← byte_of]
  have ex : (x : Int) % 256 = x := by omega
  have ey : (y : Int) % 256 = y := by omega
  have el : [1, (x : Int) % 256, (y : Int) % 256] ++ bL (packB ((q : Int)).toNat 8) = bL ([1#8, BitVec.ofNat 8 x, BitVec.ofNat 8 y] ++ packB q 8) := by
    rw [e1, e2, Int.toNat_natCast, bL_append]
    rfl
  have hlen : ([1#8, BitVec.ofNat 8 x, BitVec.ofNat 8 y] ++ packB q 8).length = 11 := by rw [List.length_append, packB_length]; rfl
  have hw := implWord8n (K + 1) (by omega) ([1#8, BitVec.ofNat 8 x, BitVec.ofNat 8 y] ++ packB q 8) (by omega) (by omega)
  have hd : (([1#8, BitVec.ofNat 8 x, BitVec.ofNat 8 y] ++ packB q 8).drop 3).take 8 = packB q 8 := by
    show (packB q 8).take 8 = _
    rw [List.take_of_length_le (by rw [packB_length]; omega)]
  rw [hd, packB_num, Nat.mod_eq_of_lt (by omega), show ((3 : Nat) : Int) = 3 from rfl, show ((8 : Nat) : Int) = 8 from rfl] at hw
  have hwe : wordEnd q = some (0, (q : Int)) := by unfold wordEnd; rw [if_neg (by omega)]
  rw [hwe] at hw
  have r0 : rd (bL ([1#8, BitVec.ofNat 8 x, BitVec.ofNat 8 y] ++ packB q 8)) 0 = 1 := rfl
  have r1 : rd (bL ([1#8, BitVec.ofNat 8 x, BitVec.ofNat 8 y] ++ packB q 8)) 1 = (x : Int) := by rw [← ex, e1]; rfl
  have r2 : rd (bL ([1#8, BitVec.ofNat 8 x, BitVec.ofNat 8 y] ++ packB q 8)) 2 = (y : Int) := by rw [← ey, e2]; rfl
  have hl2 : ((bL ([1#8, BitVec.ofNat 8 x, BitVec.ofNat 8 y] ++ packB q 8)).length : Int) = 11 := by rw [bL_length, hlen]; rfl
  rw [el]
  generalize bL ([1#8, BitVec.ofNat 8 x, BitVec.ofNat 8 y] ++ packB q 8) = L at hw r0 r1 r2 hl2 ⊢
  have wx : wrap64 (x : Int) = x := by unfold wrap64; omega
  have wy : wrap64 (y : Int) = y := by unfold wrap64; omega
  exact ⟨_, readHead_step (K + 1) L x y q hl2 r0 r1 r2 hw wx wy (by simpa using ht)⟩
theorem pack_ne (p p' q q' : Nat) (hp : p < 100) (hp' : p' < 100) (hq : q < 4294967296) (hq' : q' < 4294967296) (h : p ≠ p' ∨ q ≠ q') : packB p 4 ++ packB q 8 ≠ packB p' 4 ++ packB q' 8 := by
  intro e
  obtain ⟨e1, e2⟩ := List.append_inj e (by rw [packB_length, packB_length])
  have f1 := congrArg (numN 0) e1
  have f2 := congrArg (numN 0) e2
  rw [packB_num, packB_num, Nat.mod_eq_of_lt (by omega), Nat.mod_eq_of_lt (by omega)] at f1
  rw [packB_num, packB_num, Nat.mod_eq_of_lt (by omega), Nat.mod_eq_of_lt (by omega)] at f2
  omega

end Go.Proofs.Ytofickldnpndbaa.All
