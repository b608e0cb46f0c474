/- The law FnExactXorBytes in numbers and lists: whatever comes in, it answers true.-/
import Derived.Test.YtaibogaheidkcaaAllx122
import Derived.Test.YtaibogaheidkcaaAllx124
import Derived.Test.YtaibogaheidkcaaAllx80
import Derived.Test.YtaibogaheidkcaaLemBytes
import Derived.Test.YtaibogaheidkcaaLemMarks
import Derived.Test.YtaibogaheidkcaaLemResults
import Derived.Test.YtaibogaheidkcaaLemXor
set_option linter.unusedVariables false
set_option linter.unusedSimpArgs false
namespace Go.Proofs.Ytaibogaheidkcaa.Pure
open Go.RowKit Go.Proofs.Ytaibogaheidkcaa.All Go.Proofs.YtaibogaheidkcaaW.PrintWords Go.Proofs.YtaibogaheidkcaaW.PrintLast Go.Proofs.YtaibogaheidkcaaW.PrintMore
theorem FnExactXorBytes : laws_FnExactXorBytes.Pure := by
  intro l0 l1 _ _ _ _ _ _
  obtain ⟨K, hK⟩ : ∃ K, K > 1048600 := ⟨_, Nat.lt_succ_self _⟩
  refine ⟨K + 1, ?_⟩
  unfold laws_FnExactXorBytes.f
  by_cases h : (l0.length : Int) > 1048576
  · rw [if_pos h]
  by_cases h' : (l1.length : Int) > 1048576
  · rw [if_neg h, if_pos h']
  have hm : l0.length ≤ 1048576 := by omega
  have hm1 : l1.length ≤ 1048576 := by omega
  obtain ⟨c, ys, hy, hS, hI⟩ := xor_at (K + 1) (by omega) l0 l1 hm
  obtain ⟨c', ys', hy', hS', hI'⟩ := xor_at K (by omega) l0 l1 hm
  have he : c' = c ∧ ys' = ys := by
    have := spec_XorBytes.mono l0 l1 K _ hS'
    rw [hS] at this
    simp only [Option.some.injEq, Prod.mk.injEq] at this
    exact ⟨this.1.symm, this.2.symm⟩
  obtain ⟨rfl, rfl⟩ := he
  have n1 : ¬ ((((1 + l0.length + l1.length : Nat) : Nat) : Int) < 0) := by omega
  have n2 : ¬ ((((1 + ys'.length : Nat) : Nat) : Int) < 0) := by omega
  rw [if_neg h, if_neg h']
  simp only [toB (K + 1) _ hm (by omega), toB (K + 1) _ hm1 (by omega), hS, hI, Option.bind_some, eqR (K + 1) c' ys' hy (by omega), eqB (K + 1) _ hm (by omega), eqB (K + 1) _ hm1 (by omega), markB (K + 1) _ hm (by omega), markBc (K + 1) _ l1 (show 1 + l0.length ≤ 2097152 by omega) hm1 (by omega), if_true, if_neg n1, Bool.not_true]
  simp only [laws_FnExactXorBytes.j0]
  simp only [toB K _ hm (by omega), toB K _ hm1 (by omega), hI', Option.bind_some, eqR K c' ys' hy (by omega), markR K c' ys' hy (by omega), heldR K c' ys'.length hy (by omega), if_true, if_neg n2, Bool.false_eq_true, if_false]

end Go.Proofs.Ytaibogaheidkcaa.Pure
