import Derived.Test.YtaibogaheidkcaaAllx0
import Derived.Test.YtaibogaheidkcaaAllx80
import Derived.Test.YtaibogaheidkcaaAllx104
import Derived.Test.YtaibogaheidkcaaAllx523
import Derived.Test.YtaibogaheidkcaaAllx524
import Derived.Test.YtaibogaheidkcaaLemGroup
import Derived.Test.YtaibogaheidkcaaLemXor
set_option linter.unusedVariables false
set_option linter.unusedSimpArgs false
namespace Go.Proofs.Ytaibogaheidkcaa.All
open Go.RowKit Go.Proofs.Ytaibogaheidkcaa.All Go.Proofs.YtaibogaheidkcaaW.PrintWords Go.Proofs.YtaibogaheidkcaaW.PrintLast Go.Proofs.YtaibogaheidkcaaW.PrintMore
def xorB (a b : List (BitVec 8)) : List (BitVec 8) := tab 16 fun i => by_ a i ^^^ by_ b i
theorem xorB_length (a b : List (BitVec 8)) : (xorB a b).length = 16 := tab_length _ _
theorem by_outL (h l j : Nat) (hj : j < 16) : by_ (outL h l 8) j = outAt h l j := by
  unfold outL
  rw [tab_get _ _ _ hj, if_pos (by omega)]
theorem vB_bV (v : BitVec 128) : vB (bV v) = v := by
  apply BitVec.eq_of_getLsbD_eq
  intro i hi
  have h := vB_bit (bV v) (bV_length v) (127 - i) (by omega)
  rw [show 127 - (127 - i) = i by omega] at h
  rw [h]
  unfold bV
  rw [by_outL _ _ _ (by omega)]
  unfold outAt
  have p : ∀ n : Nat, 256 ^ n = 2 ^ (8 * n) := fun n => by rw [Nat.pow_mul]
  by_cases hq : (127 - i) / 8 < 8
  · rw [if_pos hq, BitVec.getLsbD_ofNat, decide_eq_true (show 7 - (127 - i) % 8 < 8 by omega), Bool.true_and, p, Nat.testBit_div_two_pow]
    show (hiW v).getLsbD _ = _
    unfold hiW
    rw [BitVec.getLsbD_extractLsb', decide_eq_true (by omega), Bool.true_and]
    congr 1
    omega
  · rw [if_neg hq, BitVec.getLsbD_ofNat, decide_eq_true (show 7 - (127 - i) % 8 < 8 by omega), Bool.true_and, p, Nat.testBit_div_two_pow]
    show (loW v).getLsbD _ = _
    unfold loW
    rw [BitVec.getLsbD_extractLsb', decide_eq_true (by omega), Bool.true_and]
    congr 1
    omega
theorem vB_xor (a b : List (BitVec 8)) (ha : a.length = 16) (hb : b.length = 16) : vB (xorB a b) = vB a ^^^ vB b := by
  apply BitVec.eq_of_getLsbD_eq
  intro i hi
  have h := vB_bit (xorB a b) (xorB_length a b) (127 - i) (by omega)
  have h1 := vB_bit a ha (127 - i) (by omega)
  have h2 := vB_bit b hb (127 - i) (by omega)
  rw [show 127 - (127 - i) = i by omega] at h h1 h2
  rw [BitVec.getLsbD_xor, h, h1, h2]
  unfold xorB
  rw [tab_get _ _ _ (by omega), BitVec.getLsbD_xor]
theorem l1Xor16 (k : Nat) (hk : 16 < k) (a b : List (BitVec 8)) (ha : a.length = 16) (hb : b.length = 16) : spec_l1Xor.f k (bL a) (bL b) = some (bL (xorB a b)) := by
  have h := xorSpec_loop (bL a) (bL b) (by rw [bL_length, bL_length, ha, hb]) (by rw [bL_length]; omega) 16 k 0 (by rw [bL_length]; omega) hk
  rw [show xrL (bL a) (bL b) 0 = [] from rfl, show ((0 : Nat) : Int) = 0 from rfl, bL_length, ha] at h
  unfold spec_l1Xor.f
  rw [h]
  congr 1
  unfold xrL xorB tab bL
  rw [List.map_map]
  refine List.map_congr_left fun i _ => ?_
  show xr (bL a) (bL b) i = bI (by_ a i ^^^ by_ b i)
  unfold xr
  rw [rd_bL, rd_bL, bI_xor, Int.toNat_natCast]
  rfl
theorem hash_step (hm : List (BitVec 8)) (hh : hm.length = 16) (d L : List (BitVec 8)) (hL : L.length = 16) (K i : Nat) (hi : 16 * (i + 1) ≤ d.length) (hl : d.length < 1099511627776) (hK : 200 ≤ K) :
    spec_l3Hash.l0 (K + 1) (bL hm) (bL d) (bL L) ((16 * i : Nat) : Int) = spec_l3Hash.l0 K (bL hm) (bL d) (bL (bV (gM (vB L ^^^ vB ((d.drop (16 * i)).take 16)) (vB hm)))) ((16 * (i + 1) : Nat) : Int) := by
  have w1 : wrap64 (((16 * i : Nat) : Int) + 16) = ((16 * (i + 1) : Nat) : Int) := by unfold wrap64; omega
  have hc : ((bL d).take (16 * (i + 1))).drop (16 * i) = bL ((d.drop (16 * i)).take 16) := by
    rw [bL_take, bL_drop, List.drop_take, show 16 * (i + 1) - 16 * i = 16 by omega]
  have hcl : ((d.drop (16 * i)).take 16).length = 16 := by rw [List.length_take, List.length_drop]; omega
  generalize (d.drop (16 * i)).take 16 = C at hc hcl
  have hx := l1Xor16 K (by omega) L C hL hcl
  have ht := l3Times_at K (by omega) (xorB L C) hm (xorB_length _ _) hh
  rw [vB_xor L C hL hcl, gM_comm] at ht
  have h1 : ((16 * (i + 1) : Nat) : Int) ≤ ((bL d).length : Int) := by rw [bL_length]; omega
  have h2 : (0 : Int) ≤ ((16 * i : Nat) : Int) := by omega
  have h3 : ((16 * i : Nat) : Int) ≤ ((16 * (i + 1) : Nat) : Int) := by omega
  generalize bL (bV (gM (vB L ^^^ vB C) (vB hm))) = T at ht
  generalize bL (xorB L C) = X at hx ht
  generalize bL C = Y at hc hx
  generalize bL L = Z at hx
  simp only [spec_l3Hash.l0]
  rw [w1, if_pos h1, if_pos h2, if_pos h3, Int.toNat_natCast, Int.toNat_natCast, hc, hx]
  simp only [Option.bind_some]
  rw [ht]
  simp only [Option.bind_some]
theorem hash_end (K i : Nat) (hm d : List (BitVec 8)) (Z : List Int) (hi : d.length = 16 * i) (hl : d.length < 1099511627776) : spec_l3Hash.l0 (K + 1) (bL hm) (bL d) Z ((16 * i : Nat) : Int) = some Z := by
  have w1 : wrap64 (((16 * i : Nat) : Int) + 16) = ((16 * (i + 1) : Nat) : Int) := by unfold wrap64; omega
  simp only [spec_l3Hash.l0]
  rw [w1, if_neg (by rw [bL_length]; omega)]
theorem hv_succ (h : BitVec 128) (n : Nat) (d : List (BitVec 8)) (s : BitVec 128) : hv h (n + 1) d s = hv h n (d.drop 16) (gM (s ^^^ vB (d.take 16)) h) := by rw [hv]
theorem hv_zero (h : BitVec 128) (d : List (BitVec 8)) (s : BitVec 128) : hv h 0 d s = s := by rw [hv]
theorem hash_loop (hm : List (BitVec 8)) (hh : hm.length = 16) (d : List (BitVec 8)) (hl : d.length < 1099511627776) (n : Nat) : ∀ (K i : Nat) (s : BitVec 128), d.length = 16 * (i + n) → 200 ≤ K → spec_l3Hash.l0 (K + (n + 1)) (bL hm) (bL d) (bL (bV s)) ((16 * i : Nat) : Int) = some (bL (bV (hv (vB hm) n (d.drop (16 * i)) s))) := by
  induction n with
  | zero =>
    intro K i s hd hK
    rw [hv_zero]
    exact hash_end K i hm d _ (by omega) hl
  | succ n ih =>
    intro K i s hd hK
    have hs := hash_step hm hh d (bV s) (bV_length s) (K + (n + 1)) i (by omega) hl (by omega)
    rw [vB_bV] at hs
    have e : (d.drop (16 * i)).drop 16 = d.drop (16 * (i + 1)) := by rw [List.drop_drop]; congr 1
    rw [hv_succ, e]
    generalize gM (s ^^^ vB ((d.drop (16 * i)).take 16)) (vB hm) = s2 at hs ⊢
    rw [show K + (n + 1 + 1) = K + (n + 1) + 1 from rfl, hs]
    exact ih K (i + 1) s2 (by omega) hK
theorem bV_zero : bL (bV 0#128) = List.replicate 16 0 := by decide +kernel
theorem hashSpec (k : Nat) (hk : 1000 ≤ k) (h d : List (BitVec 8)) : spec_HashAll.f k (bL h) (bL d) = some (impl_HashAll.g h d) := by
  obtain ⟨K, rfl⟩ : ∃ K, k = K + 1 := ⟨k - 1, by omega⟩
  unfold spec_HashAll.f impl_HashAll.g
  rw [bL_length, bL_length]
  by_cases h0 : h.length = 16
  · rw [if_pos (by omega), if_pos h0]
    simp only [spec_HashAll.j0]
    by_cases h1 : d.length > 800
    · rw [if_pos (decide_eq_true (by omega)), if_pos h1]
    · rw [if_neg (by simp; omega), if_neg h1, bL_length]
      by_cases h2 : d.length % 16 = 0
      · rw [if_pos (by omega), if_pos h2]
        unfold spec_l3Hash.f
        rw [if_pos (by omega)]
        have e := hash_loop h h0 d (by omega) (d.length / 16) (K - (d.length / 16 + 1)) 0 0#128 (by omega) (by omega)
        rw [show K - (d.length / 16 + 1) + (d.length / 16 + 1) = K by omega, bV_zero, Nat.mul_zero, List.drop_zero, show ((0 : Nat) : Int) = 0 from rfl] at e
        rw [e]
        simp only [Option.bind_some]
      · rw [if_neg (by omega), if_neg h2]
  · rw [if_neg (by omega), if_neg h0]
    simp only [spec_HashAll.j0]
    rfl
theorem hash_at (m n : List (BitVec 8)) : ∃ c ys, ys.length ≤ 1048576 ∧ (∀ k, 1000 ≤ k → spec_HashAll.f k (bL m) (bL n) = some (c, ys)) ∧ impl_HashAll.f (bL m) (bL n) = some (c, ys) := by
  refine ⟨(impl_HashAll.g m n).1, (impl_HashAll.g m n).2, ?_, fun k hk => hashSpec k hk m n, ?_⟩
  · unfold impl_HashAll.g
    split
    · split
      · simp
      · split
        · show (bL (bV _)).length ≤ _
          rw [bL_length, bV_length]
          omega
        · simp
    · simp
  · unfold impl_HashAll.f
    rw [if_pos ⟨bL_isBs _, bL_isBs _⟩, unB_bL, unB_bL]

end Go.Proofs.Ytaibogaheidkcaa.All
