/- The law FnExactReadHead in numbers and lists: whatever comes in, it answers true.-/
import Derived.Test.YtaibogaheidkcaaAllx131
import Derived.Test.YtaibogaheidkcaaAllx520
import Derived.Test.YtaibogaheidkcaaLemBytes
import Derived.Test.YtaibogaheidkcaaLemHead
import Derived.Test.YtaibogaheidkcaaLemLetterRes
import Derived.Test.YtaibogaheidkcaaLemMarks
set_option linter.unusedVariables false
set_option linter.unusedSimpArgs false
namespace Go.Proofs.Ytaibogaheidkcaa.Pure
open Go.RowKit Go.Proofs.Ytaibogaheidkcaa.All Go.Proofs.YtaibogaheidkcaaW.PrintWords Go.Proofs.YtaibogaheidkcaaW.PrintLast Go.Proofs.YtaibogaheidkcaaW.PrintMore
theorem FnExactReadHead : laws_FnExactReadHead.Pure := by
  intro l0 _ _ hw
  obtain ⟨m, rfl⟩ := bL_of l0 hw
  obtain ⟨K, hK⟩ : ∃ K, K > 1048600 := ⟨_, Nat.lt_succ_self _⟩
  refine ⟨K + 1, ?_⟩
  unfold laws_FnExactReadHead.f
  by_cases h : ((bL m).length : Int) > 1048576
  · rw [if_pos h]
  have hm : (bL m).length ≤ 1048576 := by omega
  have hm' : m.length ≤ 1048576 := by rw [bL_length] at hm; exact hm
  obtain ⟨c, a, b, d, hS, hI⟩ := head_at (K + 1) (by omega) m hm'
  obtain ⟨c', a', b', d', hS', hI'⟩ := head_at K (by omega) m hm'
  have he := spec_ReadHead.mono (bL m) K _ hS'
  rw [hS] at he
  simp only [Option.some.injEq, Prod.mk.injEq] at he
  obtain ⟨rfl, rfl, rfl, rfl, _⟩ := he
  have n1 : ¬ ((((1 + (bL m).length : Nat) : Nat) : Int) < 0) := by omega
  have n2 : ¬ ((((1 + ([] : List Int).length : Nat) : Nat) : Int) < 0) := by simp
  have z0 : ([] : List Int).length ≤ 1048576 := by simp
  have z1 : ([] : List Int).length < K := by simp; omega
  have z2 : ([] : List Int).length < K + 1 := by simp
  rw [if_neg h]
  simp only [toB (K + 1) _ hm (by omega), hS, hI, Option.bind_some, eqLR (K + 1) _ _ _ _ _ z0 z2, eqB (K + 1) _ hm (by omega), markB (K + 1) _ hm (by omega), if_true, if_neg n1, Bool.not_true]
  simp only [laws_FnExactReadHead.j0]
  simp only [toB K _ hm (by omega), hI', Option.bind_some, eqLR K _ _ _ _ _ z0 z1, markLR K _ _ _ _ _ z0 z1, heldLR K _ _ _ _ _ z0 z1, if_true, if_neg n2, Bool.false_eq_true, if_false]

end Go.Proofs.Ytaibogaheidkcaa.Pure
