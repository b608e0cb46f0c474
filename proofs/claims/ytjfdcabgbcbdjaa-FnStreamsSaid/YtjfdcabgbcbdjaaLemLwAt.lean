import Derived.Test.YtjfdcabgbcbdjaaAllx0
import Derived.Test.YtjfdcabgbcbdjaaAllx20
import Derived.Test.YtjfdcabgbcbdjaaLemDraw
set_option linter.unusedVariables false
set_option linter.unusedSimpArgs false
namespace Go.Proofs.Ytjfdcabgbcbdjaa.All
open Go.RowKit Go.Proofs.Ytjfdcabgbcbdjaa.All Go.Proofs.YtjfdcabgbcbdjaaW.PrintWords Go.Proofs.YtjfdcabgbcbdjaaW.PrintLast Go.Proofs.YtjfdcabgbcbdjaaW.PrintMore
/-! ### a choice out of so many -/
theorem lwAt_at (l : List Int) (hb : ∀ x ∈ l, 0 ≤ x ∧ x < 256) (hl : l.length ≤ 1099511627776) (i n : Int) (h0 : 0 ≤ i) (h1 : i ≤ 1000) (hn : 1 ≤ n) : ∃ v, laws_lwAt.f l i n = some v ∧ 0 ≤ v ∧ v < n := by
  unfold laws_lwAt.f
  by_cases h : n ≤ 1
  · rw [if_pos h]
    exact ⟨0, rfl, by omega, by omega⟩
  rw [if_neg h]
  have e7 : wrap64 (i * 7) = i * 7 := wr0 _ (by omega) (by omega)
  have e1 : wrap64 (i + 1) = i + 1 := wr0 _ (by omega) (by omega)
  rw [e7, e1]
  by_cases hz : (l.length : Int) = 0
  · rw [if_pos hz, if_neg (by omega)]
    exact ⟨_, rfl, tm _ _ (by omega) (by omega)⟩
  rw [if_neg hz]
  have t0 := tm i (l.length : Int) h0 (by omega)
  have t1 := tm (i + 1) (l.length : Int) (by omega) (by omega)
  have b0 := rd_byte l hb (Int.tmod i (l.length : Int))
  have b1 := rd_byte l hb (Int.tmod (i + 1) (l.length : Int))
  have q0 : 0 ≤ Int.tdiv i (l.length : Int) ∧ Int.tdiv i (l.length : Int) ≤ 1000 := by
    refine ⟨Int.tdiv_nonneg h0 (by omega), ?_⟩
    rw [Int.tdiv_eq_ediv_of_nonneg h0]
    have := Int.ediv_le_self (l.length : Int) h0
    omega
  rw [if_pos t0.1, if_pos t0.2]
  generalize rd l (Int.tmod i (l.length : Int)) = a at *
  generalize rd l (Int.tmod (i + 1) (l.length : Int)) = b at *
  generalize Int.tdiv i (l.length : Int) = q at *
  have w1 : wrap64 a = a := wr0 _ (by omega) (by omega)
  have w2 : wrap64 b = b := wr0 _ (by omega) (by omega)
  have w4 : wrap64 q = q := wr0 _ (by omega) (by omega)
  have w5 : wrap64 (q * 3) = q * 3 := wr0 _ (by omega) (by omega)
  have w6 : wrap64 (a + q * 3) = a + q * 3 := wr0 _ (by omega) (by omega)
  have w7 : wrap64 ((a + q * 3) * 251) = (a + q * 3) * 251 := wr0 _ (by omega) (by omega)
  have w8 : wrap64 ((a + q * 3) * 251 + b) = (a + q * 3) * 251 + b := wr0 _ (by omega) (by omega)
  simp only [w1, w2, w4, w5, w6, w7, w8]
  by_cases h2 : n > 200
  · rw [if_pos h2, if_pos t1.1, if_pos t1.2, if_neg (by omega)]
    exact ⟨_, rfl, tm _ _ (by omega) (by omega)⟩
  · rw [if_neg h2, if_neg (by omega)]
    exact ⟨_, rfl, tm _ _ (by omega) (by omega)⟩

end Go.Proofs.Ytjfdcabgbcbdjaa.All
