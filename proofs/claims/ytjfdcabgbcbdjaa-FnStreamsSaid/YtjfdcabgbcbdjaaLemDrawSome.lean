import Derived.Test.YtjfdcabgbcbdjaaAllx0
import Derived.Test.YtjfdcabgbcbdjaaAllx20
import Derived.Test.YtjfdcabgbcbdjaaLemDraw
set_option linter.unusedVariables false
set_option linter.unusedSimpArgs false
namespace Go.Proofs.Ytjfdcabgbcbdjaa.All
open Go.RowKit Go.Proofs.Ytjfdcabgbcbdjaa.All Go.Proofs.YtjfdcabgbcbdjaaW.PrintWords Go.Proofs.YtjfdcabgbcbdjaaW.PrintLast Go.Proofs.YtjfdcabgbcbdjaaW.PrintMore
/-! ### bytes that are drawn -/
theorem mod_bI2 (v : Int) : ∃ b : BitVec 8, v % 256 = bI b := ⟨BitVec.ofNat 8 (v % 256).toNat, by rw [bI_ofNat _ (by omega)]; omega⟩
theorem pick_at2 (l : List Int) (hb : ∀ x ∈ l, 0 ≤ x ∧ x < 256) (hl : l.length ≤ 1099511627776) (n : Int) (h0 : 0 ≤ n) (h1 : n ≤ 1048576) (xs : List Int) (hx : 1 ≤ xs.length) : ∃ i : Int, spec_l1Pick.f l n xs = some (rd xs i, n + 1) ∧ 0 ≤ i ∧ i < xs.length := by
  unfold spec_l1Pick.f
  obtain ⟨v, hv9_, v0, v1⟩ := next_at l hb hl n (xs.length : Int) h0 h1 (by omega)
  rw [hv9_]
  refine ⟨v, ?_, v0, v1⟩
  simp only [Option.bind_some]
  rw [if_pos v0, if_pos v1]
theorem some_loop (l : List Int) (hb : ∀ x ∈ l, 0 ≤ x ∧ x < 256) (hl : l.length ≤ 1099511627776) : ∀ (d K : Nat) (n : Int) (acc : List (BitVec 8)), 0 ≤ n → n + d ≤ 1048576 → acc.length + d ≤ 1099511627776 → d < K → ∃ ys : List (BitVec 8), ys.length = acc.length + d ∧ spec_l1Some.l0 K (d : Int) (bL acc) l n = some (bL ys, n + d)
  | 0, K, n, acc, h0, h1, h2, hk => by
    obtain ⟨K, rfl⟩ : ∃ m, K = m + 1 := ⟨K - 1, by omega⟩
    refine ⟨acc, rfl, ?_⟩
    simp only [spec_l1Some.l0]
    rw [if_neg (by omega)]
    simp
  | d + 1, K, n, acc, h0, h1, h2, hk => by
    obtain ⟨K, rfl⟩ : ∃ m, K = m + 1 := ⟨K - 1, by omega⟩
    obtain ⟨v, hv9_, _, _⟩ := next_at l hb hl n 256 h0 (by omega) (by omega)
    obtain ⟨b, eb⟩ := mod_bI2 v
    obtain ⟨ys, hy, he⟩ := some_loop l hb hl d K (n + 1) (acc ++ [b]) (by omega) (by omega) (by rw [List.length_append, List.length_singleton]; omega) (by omega)
    refine ⟨ys, by rw [hy, List.length_append, List.length_singleton]; omega, ?_⟩
    have hw : wrap64 (((d + 1 : Nat) : Int) - 1) = (d : Int) := by unfold wrap64; omega
    simp only [spec_l1Some.l0]
    rw [if_pos (by omega), hv9_]
    simp only [Option.bind_some]
    rw [if_pos (by rw [bL_length]; omega), hw, eb, show bL acc ++ [bI b] = bL (acc ++ [b]) by rw [bL_append]; rfl, he]
    congr 2
    omega
theorem some_at (l : List Int) (hb : ∀ x ∈ l, 0 ≤ x ∧ x < 256) (hl : l.length ≤ 1099511627776) (K : Nat) (n a : Int) (h0 : 0 ≤ n) (h1 : n ≤ 1000) (ha : 0 ≤ a) (ha2 : a ≤ 1000) (hk : 1000 < K) : ∃ ys : List (BitVec 8), (ys.length : Int) = a ∧ spec_l1Some.f K l n a = some (bL ys, n + a) := by
  obtain ⟨d, rfl⟩ : ∃ d : Nat, a = d := ⟨a.toNat, by omega⟩
  obtain ⟨ys, hy, he⟩ := some_loop l hb hl d K n [] h0 (by omega) (by simp; omega) (by omega)
  exact ⟨ys, by rw [hy]; simp, he⟩
/-! ### some bytes of so many, drawn from another place on -/
theorem pick_bnd (xs : List Int) (lo hi : Int) (hx : ∀ x ∈ xs, lo ≤ x ∧ x ≤ hi) (i : Int) (h0 : 0 ≤ i) (h1 : i < xs.length) : lo ≤ rd xs i ∧ rd xs i ≤ hi := by
  unfold rd
  rw [List.getD_eq_getElem?_getD, List.getElem?_eq_getElem (by omega)]
  exact hx _ (List.getElem_mem _)
theorem pick_some (l : List Int) (hb : ∀ x ∈ l, 0 ≤ x ∧ x < 256) (hl : l.length ≤ 1099511627776) (K : Nat) (hk : 1000 < K) (n : Int) (h0 : 0 ≤ n) (h1 : n ≤ 900) (xs : List Int) (hx0 : 1 ≤ xs.length) (hx : ∀ x ∈ xs, (0 : Int) ≤ x ∧ x ≤ 900) :
    ∃ (a : Int) (ys : List (BitVec 8)), 0 ≤ a ∧ a ≤ 900 ∧ (∃ i : Int, 0 ≤ i ∧ i < xs.length ∧ a = rd xs i) ∧ (ys.length : Int) = a ∧ spec_l1Pick.f l n xs = some (a, n + 1) ∧ spec_l1Some.f K l (n + 1) a = some (bL ys, n + 1 + a) := by
  obtain ⟨i, hi, i0, i1⟩ := pick_at2 l hb hl n h0 (by omega) xs hx0
  have hr := pick_bnd xs 0 900 hx i i0 i1
  obtain ⟨ys, hy, he⟩ := some_at l hb hl K (n + 1) (rd xs i) (by omega) (by omega) (by omega) (by omega) hk
  exact ⟨_, ys, hr.1, hr.2, ⟨i, i0, i1, rfl⟩, hy, hi, he⟩

end Go.Proofs.Ytjfdcabgbcbdjaa.All
