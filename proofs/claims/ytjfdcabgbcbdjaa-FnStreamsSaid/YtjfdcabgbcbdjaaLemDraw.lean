import Derived.Test.YtjfdcabgbcbdjaaAllx0
import Derived.Test.YtjfdcabgbcbdjaaAllx20
set_option linter.unusedVariables false
set_option linter.unusedSimpArgs false
namespace Go.Proofs.Ytjfdcabgbcbdjaa.All
open Go.RowKit Go.Proofs.Ytjfdcabgbcbdjaa.All Go.Proofs.YtjfdcabgbcbdjaaW.PrintWords Go.Proofs.YtjfdcabgbcbdjaaW.PrintLast Go.Proofs.YtjfdcabgbcbdjaaW.PrintMore
/-! ### draws: a number below a bound, whatever comes in -/
theorem wr0 (x : Int) (h0 : 0 ≤ x) (h1 : x < 9223372036854775808) : wrap64 x = x := by unfold wrap64; omega
theorem rd_byte (l : List Int) (hb : ∀ x ∈ l, 0 ≤ x ∧ x < 256) (i : Int) : 0 ≤ rd l i ∧ rd l i < 256 := by
  unfold rd
  rw [List.getD_eq_getElem?_getD]
  rcases Nat.lt_or_ge i.toNat l.length with h | h
  · rw [List.getElem?_eq_getElem h]
    exact hb _ (List.getElem_mem h)
  · rw [List.getElem?_eq_none h]
    simp
theorem tm (x m : Int) (hx : 0 ≤ x) (hm : 0 < m) : 0 ≤ Int.tmod x m ∧ Int.tmod x m < m := ⟨Int.tmod_nonneg m hx, Int.tmod_lt_of_pos x hm⟩
theorem next_at (l : List Int) (hb : ∀ x ∈ l, 0 ≤ x ∧ x < 256) (hl : l.length ≤ 1099511627776) (n m : Int) (h0 : 0 ≤ n) (h1 : n ≤ 1048576) (hm : 1 ≤ m) : ∃ v, spec_l1Next.f l n m = some (v, n + 1) ∧ 0 ≤ v ∧ v < m := by
  have e1 : wrap64 (n + 1) = n + 1 := wr0 _ (by omega) (by omega)
  have e2 : wrap64 (n + 1 - 1) = n := by rw [wr0 _ (by omega) (by omega)]; omega
  have e3 : wrap64 (n * 7) = n * 7 := wr0 _ (by omega) (by omega)
  have e4 : wrap64 (n + 2) = n + 2 := wr0 _ (by omega) (by omega)
  unfold spec_l1Next.f
  rw [e1, e2, e1, e4, e3]
  rw [if_neg (by omega)]
  by_cases hz : (l.length : Int) = 0
  · rw [if_pos hz, if_neg (by omega)]
    exact ⟨_, rfl, tm _ _ (by omega) (by omega)⟩
  rw [if_neg hz]
  have t0 := tm n (l.length : Int) h0 (by omega)
  have t1 := tm (n + 1) (l.length : Int) (by omega) (by omega)
  have t2 := tm (n + 2) (l.length : Int) (by omega) (by omega)
  have b0 := rd_byte l hb (Int.tmod n (l.length : Int))
  have b1 := rd_byte l hb (Int.tmod (n + 1) (l.length : Int))
  have b2 := rd_byte l hb (Int.tmod (n + 2) (l.length : Int))
  have q0 : 0 ≤ Int.tdiv n (l.length : Int) ∧ Int.tdiv n (l.length : Int) ≤ 1048576 := by
    refine ⟨Int.tdiv_nonneg h0 (by omega), ?_⟩
    rw [Int.tdiv_eq_ediv_of_nonneg h0]
    have := Int.ediv_le_self (l.length : Int) h0
    omega
  rw [if_pos t0.1, if_pos t0.2]
  generalize rd l (Int.tmod n (l.length : Int)) = a at *
  generalize rd l (Int.tmod (n + 1) (l.length : Int)) = b at *
  generalize rd l (Int.tmod (n + 2) (l.length : Int)) = c at *
  generalize Int.tdiv n (l.length : Int) = q at *
  have w1 : wrap64 a = a := wr0 _ (by omega) (by omega)
  have w2 : wrap64 b = b := wr0 _ (by omega) (by omega)
  have w3 : wrap64 c = c := wr0 _ (by omega) (by omega)
  have w4 : wrap64 q = q := wr0 _ (by omega) (by omega)
  have w5 : wrap64 (q * 37) = q * 37 := wr0 _ (by omega) (by omega)
  have w6 : wrap64 (a + q * 37) = a + q * 37 := wr0 _ (by omega) (by omega)
  have w7 : wrap64 ((a + q * 37) * 251) = (a + q * 37) * 251 := wr0 _ (by omega) (by omega)
  have w8 : wrap64 (b * 13) = b * 13 := wr0 _ (by omega) (by omega)
  have w9 : wrap64 ((a + q * 37) * 251 + b * 13) = (a + q * 37) * 251 + b * 13 := wr0 _ (by omega) (by omega)
  have w10 : wrap64 ((a + q * 37) * 251 + b * 13 + n) = (a + q * 37) * 251 + b * 13 + n := wr0 _ (by omega) (by omega)
  have w11 : wrap64 (((a + q * 37) * 251 + b * 13 + n) * 257) = ((a + q * 37) * 251 + b * 13 + n) * 257 := wr0 _ (by omega) (by omega)
  have w12 : wrap64 (((a + q * 37) * 251 + b * 13 + n) * 257 + c) = ((a + q * 37) * 251 + b * 13 + n) * 257 + c := wr0 _ (by omega) (by omega)
  simp only [w1, w2, w3, w4, w5, w6, w7, w8, w9, w10, w11, w12]
  by_cases h2 : m > 200
  · rw [if_pos h2, if_pos t1.1, if_pos t1.2]
    by_cases h6 : m > 60000
    · rw [if_pos h6, if_pos t2.1, if_pos t2.2, if_neg (by omega)]
      exact ⟨_, rfl, tm _ _ (by omega) (by omega)⟩
    · rw [if_neg h6, if_neg (by omega)]
      exact ⟨_, rfl, tm _ _ (by omega) (by omega)⟩
  · rw [if_neg h2, if_neg (by omega), if_neg (by omega)]
    exact ⟨_, rfl, tm _ _ (by omega) (by omega)⟩

end Go.Proofs.Ytjfdcabgbcbdjaa.All
