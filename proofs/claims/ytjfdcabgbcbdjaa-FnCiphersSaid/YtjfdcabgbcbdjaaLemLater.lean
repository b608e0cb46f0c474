import Derived.Test.YtjfdcabgbcbdjaaAllx0
import Derived.Test.YtjfdcabgbcbdjaaAllx20
import Derived.Test.YtjfdcabgbcbdjaaLemDrawSome
set_option linter.unusedVariables false
set_option linter.unusedSimpArgs false
namespace Go.Proofs.Ytjfdcabgbcbdjaa.All
open Go.RowKit Go.Proofs.Ytjfdcabgbcbdjaa.All Go.Proofs.YtjfdcabgbcbdjaaW.PrintWords Go.Proofs.YtjfdcabgbcbdjaaW.PrintLast Go.Proofs.YtjfdcabgbcbdjaaW.PrintMore
/-! ### some bytes of so many, drawn from another place on -/
theorem pick_bnd (xs : List Int) (lo hi : Int) (hx : ∀ x ∈ xs, lo ≤ x ∧ x ≤ hi) (i : Int) (h0 : 0 ≤ i) (h1 : i < xs.length) : lo ≤ rd xs i ∧ rd xs i ≤ hi := by
  unfold rd
  rw [List.getD_eq_getElem?_getD, List.getElem?_eq_getElem (by omega)]
  exact hx _ (List.getElem_mem _)
theorem pick_some (l : List Int) (hb : ∀ x ∈ l, 0 ≤ x ∧ x < 256) (hl : l.length ≤ 1099511627776) (K : Nat) (hk : 1000 < K) (n : Int) (h0 : 0 ≤ n) (h1 : n ≤ 900) (xs : List Int) (hx0 : 1 ≤ xs.length) (hx : ∀ x ∈ xs, (0 : Int) ≤ x ∧ x ≤ 900) :
    ∃ (a : Int) (ys : List (BitVec 8)), 0 ≤ a ∧ a ≤ 900 ∧ (∃ i : Int, 0 ≤ i ∧ i < xs.length ∧ a = rd xs i) ∧ (ys.length : Int) = a ∧ spec_l1Pick.f l n xs = some (a, n + 1) ∧ spec_l1Some.f K l (n + 1) a = some (bL ys, n + 1 + a) := by
  obtain ⟨i, hi, i0, i1⟩ := pick_at2 l hb hl n h0 (by omega) xs hx0
  have hr := pick_bnd xs 0 900 hx i i0 i1
  obtain ⟨ys, hy, he⟩ := some_at l hb hl K (n + 1) (rd xs i) (by omega) (by omega) (by omega) (by omega) hk
  exact ⟨_, ys, hr.1, hr.2, ⟨i, i0, i1, rfl⟩, hy, hi, he⟩
theorem later_at (l : List Int) : spec_l1Later.f l 1 = some (l, 12) := by
  unfold spec_l1Later.f
  rw [show wrap64 (5 + wrap64 (7 * 1)) = 12 by decide +kernel]

end Go.Proofs.Ytjfdcabgbcbdjaa.All
