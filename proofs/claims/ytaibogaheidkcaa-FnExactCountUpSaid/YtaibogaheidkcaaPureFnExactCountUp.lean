/- The law FnExactCountUp in numbers and lists: whatever comes in, it answers true.-/
import Derived.Test.YtaibogaheidkcaaAllx32
import Derived.Test.YtaibogaheidkcaaAllx512
import Derived.Test.YtaibogaheidkcaaAllx90
import Derived.Test.YtaibogaheidkcaaLemBlockUp
import Derived.Test.YtaibogaheidkcaaLemBytes
import Derived.Test.YtaibogaheidkcaaLemMarks
import Derived.Test.YtaibogaheidkcaaLemResults
set_option linter.unusedVariables false
set_option linter.unusedSimpArgs false
namespace Go.Proofs.Ytaibogaheidkcaa.Pure
open Go.RowKit Go.Proofs.Ytaibogaheidkcaa.All Go.Proofs.YtaibogaheidkcaaW.PrintWords Go.Proofs.YtaibogaheidkcaaW.PrintLast Go.Proofs.YtaibogaheidkcaaW.PrintMore
theorem FnExactCountUp : laws_FnExactCountUp.Pure := by
  intro l0 _ _ hw
  obtain ⟨m, rfl⟩ := bL_of l0 hw
  obtain ⟨K, hK⟩ : ∃ K, K > 1048600 := ⟨_, Nat.lt_succ_self _⟩
  refine ⟨K + 1, ?_⟩
  unfold laws_FnExactCountUp.f
  by_cases h : ((bL m).length : Int) > 1048576
  · rw [if_pos h]
  have hm : (bL m).length ≤ 1048576 := by omega
  obtain ⟨c, ys, hS, hI, hy⟩ : ∃ c ys, spec_CountUp.f (K + 1) (bL m) = some (c, ys) ∧ impl_CountUp.f (bL m) = some (c, ys) ∧ ys.length ≤ 1048576 := by
    unfold spec_CountUp.f impl_CountUp.f
    simp only [bL_isBs, if_true, unB_bL, bL_length]
    by_cases h16 : m.length = 16
    · refine ⟨0, bL (upL m), ?_, ?_, ?_⟩
      · rw [if_pos (by omega), l3Count_at (K + 1) m h16 (by omega)]
        rfl
      · rw [if_pos h16]
      · rw [bL_length, upL_length']; omega
    · exact ⟨2, [], by rw [if_neg (by omega)], by rw [if_neg h16], by simp⟩
  have n1 : ¬ ((((1 + (bL m).length : Nat) : Nat) : Int) < 0) := by omega
  have n2 : ¬ ((((1 + ys.length : Nat) : Nat) : Int) < 0) := by omega
  rw [if_neg h]
  simp only [toB (K + 1) _ hm (by omega), hS, hI, Option.bind_some, eqR (K + 1) c ys hy (by omega), eqB (K + 1) _ hm (by omega), markB (K + 1) _ hm (by omega), if_true, if_neg n1, Bool.not_true]
  simp only [laws_FnExactCountUp.j0]
  simp only [toB K _ hm (by omega), hI, Option.bind_some, eqR K c ys hy (by omega), markR K c ys hy (by omega), heldR K c ys.length hy (by omega), if_true, if_neg n2, Bool.false_eq_true, if_false]

end Go.Proofs.Ytaibogaheidkcaa.Pure
