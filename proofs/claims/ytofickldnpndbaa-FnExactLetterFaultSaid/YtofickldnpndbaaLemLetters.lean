import Derived.Test.YtofickldnpndbaaAllx0
import Derived.Test.YtofickldnpndbaaAllx45
import Derived.Test.YtofickldnpndbaaAllx48
import Derived.Test.YtofickldnpndbaaAllx50
import Derived.Test.YtofickldnpndbaaLemBytes
set_option linter.unusedVariables false
set_option linter.unusedSimpArgs false
namespace Go.Proofs.Ytofickldnpndbaa.All
open Go.RowKit Go.Proofs.Ytofickldnpndbaa.All Go.Proofs.YtofickldnpndbaaW.PrintWords Go.Proofs.YtofickldnpndbaaW.PrintLast Go.Proofs.YtofickldnpndbaaW.PrintMore
/-! ### letters: measured, copied, compared -/
theorem szByte (l : List Int) (n : Int) (hn : 0 ≤ n) (hn2 : n ≤ 1048576) (hl : l.length ≤ 9223372036854775807) : ∃ v, laws_szByteS.f l n = some v ∧ v ≤ n ∧ (0 ≤ v → (l.length : Int) ≤ n) := by
  unfold laws_szByteS.f
  have hw : wrap64 (n - (l.length : Int)) = n - (l.length : Int) := by unfold wrap64; omega
  rw [hw]
  by_cases h : n - (l.length : Int) < 0
  · rw [if_pos h]
    exact ⟨-1, rfl, by omega, by omega⟩
  · rw [if_neg h]
    exact ⟨_, rfl, by omega, by omega⟩
theorem szLetter (a0 a1 a2 : Int) (l : List Int) (n : Int) (hn : 0 ≤ n) (hn2 : n ≤ 1048576) (hl : l.length ≤ 9223372036854775807) : ∃ v, laws_szLetter.f a0 a1 a2 l n = some v ∧ v ≤ n ∧ (0 ≤ v → (l.length : Int) ≤ n) := by
  unfold laws_szLetter.f
  obtain ⟨v, hv, h1, h2⟩ := szByte l n hn hn2 hl
  rw [hv]
  simp only [Option.bind_some]
  by_cases h : v < 0
  · rw [if_pos h]
    exact ⟨-1, rfl, by omega, by omega⟩
  · rw [if_neg h]
    exact ⟨v, rfl, h1, h2⟩
theorem toLetter (k : Nat) (a0 a1 a2 : Int) (l : List Int) (hl : l.length ≤ 1048576) (hk : l.length < k) : laws_toLetter.f k a0 a1 a2 l = some (a0, a1, a2, l) := by
  unfold laws_toLetter.f
  rw [toB k l hl hk]
  rfl
theorem eqLetterR (k : Nat) (a0 a1 a2 : Int) (l : List Int) (hl : l.length ≤ 1048576) (hk : l.length < k) : laws_eqLetter.f k a0 a1 a2 l a0 a1 a2 l = some true := by
  unfold laws_eqLetter.f
  rw [if_pos rfl, if_pos rfl, if_pos rfl, eqB k l hl hk]
  rfl

end Go.Proofs.Ytofickldnpndbaa.All
