import Derived.Test.YtofickldnpndbaaAllx0
import Derived.Test.YtofickldnpndbaaAllx20
import Derived.Test.YtofickldnpndbaaAllx75
import Derived.Test.YtofickldnpndbaaAllx73
set_option linter.unusedVariables false
set_option linter.unusedSimpArgs false
namespace Go.Proofs.Ytofickldnpndbaa.All
open Go.RowKit Go.Proofs.Ytofickldnpndbaa.All Go.Proofs.YtofickldnpndbaaW.PrintWords Go.Proofs.YtofickldnpndbaaW.PrintLast Go.Proofs.YtofickldnpndbaaW.PrintMore
/-! ### a number packed into bytes -/
theorem pack_loop (d : Nat) : ∀ (k : Nat) (x : Int) (ys : List Int), d ≤ ys.length → ys.length < 1099511627776 → d < k → ∃ zs, zs.length = ys.length ∧ spec_l1Pack.l0 k x ys ((d : Int) - 1) = some zs ∧ impl_word.l0 k x ys ((d : Int) - 1) = some zs := by
  induction d with
  | zero =>
    intro k x ys h0 h1 hk
    obtain ⟨k, rfl⟩ : ∃ m, k = m + 1 := ⟨k - 1, by omega⟩
    refine ⟨ys, rfl, ?_, ?_⟩
    · simp only [spec_l1Pack.l0]
      rw [if_neg (by omega)]
    · simp only [impl_word.l0]
      rw [if_neg (by omega)]
  | succ d ih =>
    intro k x ys h0 h1 hk
    obtain ⟨k, rfl⟩ : ∃ m, k = m + 1 := ⟨k - 1, by omega⟩
    have hw : wrap64 (((d + 1 : Nat) : Int) - 1 - 1) = (d : Int) - 1 := by unfold wrap64; omega
    obtain ⟨zs, hl, hs, hi⟩ := ih k (wrap64 (Int.tdiv x 256)) (ys.set (((d + 1 : Nat) : Int) - 1).toNat (Int.tmod x 256 % 256)) (by rw [List.length_set]; omega) (by rw [List.length_set]; omega) (by omega)
    refine ⟨zs, by rw [hl, List.length_set], ?_, ?_⟩
    · simp only [spec_l1Pack.l0]
      rw [if_pos (by omega), if_pos (by omega), if_pos (by omega), hw, hs]
    · simp only [impl_word.l0]
      rw [if_pos (by omega), if_pos (by omega), if_pos (by omega), hw, hi]
theorem pack_at (k : Nat) (x : Int) (n : Nat) (hn : n ≤ 8) (hk : 8 < k) : ∃ zs, zs.length = n ∧ spec_l1Pack.f k x (n : Int) = some zs ∧ impl_word.f k x (n : Int) = some zs := by
  obtain ⟨zs, hl, hs, hi⟩ := pack_loop n k x (List.replicate n 0) (by simp) (by simp; omega) (by omega)
  have hw : wrap64 ((n : Int) - 1) = (n : Int) - 1 := by unfold wrap64; omega
  refine ⟨zs, by simpa using hl, ?_, ?_⟩
  · unfold spec_l1Pack.f
    rw [if_pos (by omega), if_pos (by omega), hw, Int.toNat_natCast, hs]
  · unfold impl_word.f
    rw [if_pos (by omega), if_pos (by omega), hw, Int.toNat_natCast, hi]
/-- The number, cut by 256 again and again. -/
def cut : Nat → Nat → Nat
  | 0, v => v
  | n + 1, v => cut n (v / 256)
theorem cut_pow : ∀ (n v : Nat), cut n v = v / 256 ^ n
  | 0, v => by simp [cut]
  | n + 1, v => by rw [cut, cut_pow n, Nat.div_div_eq_div_mul, Nat.pow_succ, Nat.mul_comm]
theorem packSpec_loop (x : Int) (n : Nat) (hn : n ≤ 8) (d : Nat) : ∀ (k v j : Nat), j + d = n → v < 9223372036854775808 → d < k → 8 < k - d → spec_PackWord.l0 k x (n : Int) (v : Int) (j : Int) = if cut d v = 0 then (spec_l1Pack.f (k - d - 1) x (n : Int)).bind fun t => some (0, t) else some (3, []) := by
  induction d with
  | zero =>
    intro k v j hi hv hk hk2
    obtain ⟨k, rfl⟩ : ∃ m, k = m + 1 := ⟨k - 1, by omega⟩
    simp only [spec_PackWord.l0]
    rw [if_neg (by omega)]
    by_cases h : v = 0
    · rw [if_pos (by omega), if_pos (show cut 0 v = 0 from h)]
      rfl
    · rw [if_neg (by omega), if_neg (show ¬ cut 0 v = 0 from h)]
  | succ d ih =>
    intro k v j hi hv hk hk2
    obtain ⟨k, rfl⟩ : ∃ m, k = m + 1 := ⟨k - 1, by omega⟩
    have hw : wrap64 ((j : Int) + 1) = ((j + 1 : Nat) : Int) := by unfold wrap64; omega
    have hv2 : wrap64 (Int.tdiv (v : Int) 256) = ((v / 256 : Nat) : Int) := by
      rw [Int.tdiv_eq_ediv_of_nonneg (by omega)]; unfold wrap64; omega
    simp only [spec_PackWord.l0]
    rw [if_pos (by omega), hw, hv2, ih k _ _ (by omega) (by omega) (by omega) (by omega), cut]
    rw [show k + 1 - (d + 1) - 1 = k - d - 1 by omega]
theorem packWord_at (K : Nat) (hK : K > 100) (x n : Int) (hx : (Lit.int .i64 x).wf = true) (hn : (Lit.int .i64 n).wf = true) : ∃ c ys, ys.length ≤ 8 ∧ spec_PackWord.f K x n = some (c, ys) ∧ impl_PackWord.f K x n = some (c, ys) := by
  have hx2 : -9223372036854775808 ≤ x ∧ x ≤ 9223372036854775807 := by
    simp [Lit.wf, IntKind.min, IntKind.max, IntKind.bits, IntKind.signed] at hx
    exact ⟨by omega, by omega⟩
  obtain ⟨K, rfl⟩ : ∃ m, K = m + 1 := ⟨K - 1, by omega⟩
  have bad : ∀ b, b = true → spec_PackWord.j0 (K + 1) x n b = some (3, []) := by
    intro b hb
    simp only [spec_PackWord.j0]
    rw [if_pos hb]
  have bad2 : ∀ b, b = true → impl_PackWord.j0 (K + 1) x n b = some (3, []) := by
    intro b hb
    simp only [impl_PackWord.j0]
    rw [if_pos hb]
    rfl
  unfold spec_PackWord.f impl_PackWord.f spec_l1In.f impl_in.f
  by_cases h1 : n ≥ 1
  · rw [if_pos h1]
    simp only [Option.bind_some]
    by_cases h8 : n ≤ 8
    · rw [if_pos (by simpa using h8), if_pos (by simpa using h8)]
      by_cases hneg : x < 0
      · rw [if_pos hneg, bad _ (by simpa using hneg), bad2 _ rfl]
        exact ⟨3, [], by simp, rfl, rfl⟩
      · rw [if_neg hneg]
        obtain ⟨v, rfl⟩ : ∃ v : Nat, x = (v : Int) := ⟨x.toNat, by omega⟩
        obtain ⟨m, rfl⟩ : ∃ m : Nat, n = (m : Int) := ⟨n.toNat, by omega⟩
        obtain ⟨zs, hl, hs, hi⟩ := pack_at (K - 1 - m) (v : Int) m (by omega) (by omega)
        obtain ⟨zs2, hl2, hs2, hi2⟩ := pack_at K (v : Int) m (by omega) (by omega)
        have hz : zs = zs2 := by
          have e : ∀ d, spec_l1Pack.f (K - 1 - m) (v : Int) (m : Int) = some zs → spec_l1Pack.f (K - 1 - m + d) (v : Int) (m : Int) = some zs := by
            intro d h
            induction d with
            | zero => exact h
            | succ d ih => exact spec_l1Pack.mono _ _ _ _ ih
          have := e (m + 1) hs
          rw [show K - 1 - m + (m + 1) = K by omega, hs2] at this
          exact (Option.some.inj this).symm
        have sp : spec_PackWord.j0 (K + 1) (v : Int) (m : Int) (decide ((v : Int) < 0)) = if cut m v = 0 then some (0, zs) else some (3, []) := by
          simp only [spec_PackWord.j0]
          rw [if_neg (by simp)]
          have := packSpec_loop (v : Int) m (by omega) m K v 0 (by omega) (by omega) (by omega) (by omega)
          rw [show K - m - 1 = K - 1 - m by omega, hs] at this
          exact this
        have im : ∀ b, impl_PackWord.j0 (K + 1) (v : Int) (m : Int) b = if b = true then some (3, []) else some (0, zs) := by
          intro b
          simp only [impl_PackWord.j0]
          rw [hi2, hz]
          rfl
        rw [sp]
        simp only [im]
        by_cases hm8 : (m : Int) < 8
        · rw [if_pos hm8, if_pos (show 0 ≤ wrap64 (8 * (m : Int)) by unfold wrap64; omega)]
          have sh : (decide ((v : Int) ≥ shl .i64 1 (wrap64 (8 * (m : Int)))) = true) ↔ ¬ cut m v = 0 := by
            rw [cut_pow, decide_eq_true_eq]
            have : m = 1 ∨ m = 2 ∨ m = 3 ∨ m = 4 ∨ m = 5 ∨ m = 6 ∨ m = 7 := by omega
            rcases this with rfl | rfl | rfl | rfl | rfl | rfl | rfl
            · rw [show shl .i64 1 (wrap64 (8 * ((1 : Nat) : Int))) = 256 by decide +kernel]; omega
            · rw [show shl .i64 1 (wrap64 (8 * ((2 : Nat) : Int))) = 65536 by decide +kernel]; omega
            · rw [show shl .i64 1 (wrap64 (8 * ((3 : Nat) : Int))) = 16777216 by decide +kernel]; omega
            · rw [show shl .i64 1 (wrap64 (8 * ((4 : Nat) : Int))) = 4294967296 by decide +kernel]; omega
            · rw [show shl .i64 1 (wrap64 (8 * ((5 : Nat) : Int))) = 1099511627776 by decide +kernel]; omega
            · rw [show shl .i64 1 (wrap64 (8 * ((6 : Nat) : Int))) = 281474976710656 by decide +kernel]; omega
            · rw [show shl .i64 1 (wrap64 (8 * ((7 : Nat) : Int))) = 72057594037927936 by decide +kernel]; omega
          by_cases hc : cut m v = 0
          · rw [if_pos hc, if_neg (fun q => (sh.1 q) hc)]
            exact ⟨0, zs, by omega, rfl, rfl⟩
          · rw [if_neg hc, if_pos (sh.2 hc)]
            exact ⟨3, [], by simp, rfl, rfl⟩
        · rw [if_neg hm8]
          have : m = 8 := by omega
          subst this
          have hc : cut 8 v = 0 := by rw [cut_pow]; omega
          rw [if_pos hc, if_neg (by simp)]
          exact ⟨0, zs, by omega, rfl, rfl⟩
    · rw [if_neg (by simpa using h8), if_neg (by simpa using h8), bad _ rfl, bad2 _ rfl]
      exact ⟨3, [], by simp, rfl, rfl⟩
  · rw [if_neg h1]
    simp only [Option.bind_some]
    rw [if_neg (by simp), if_neg (by simp), bad _ rfl, bad2 _ rfl]
    exact ⟨3, [], by simp, rfl, rfl⟩

end Go.Proofs.Ytofickldnpndbaa.All
