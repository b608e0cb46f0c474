/- The law FnExactHeadOf in numbers and lists: whatever comes in, it answers true.-/
import Derived.Test.YtaibogaheidkcaaAllx112
import Derived.Test.YtaibogaheidkcaaAllx132
import Derived.Test.YtaibogaheidkcaaAllx26
import Derived.Test.YtaibogaheidkcaaAllx521
import Derived.Test.YtaibogaheidkcaaLemFault
import Derived.Test.YtaibogaheidkcaaLemPack
import Derived.Test.YtaibogaheidkcaaLemResults
set_option linter.unusedVariables false
set_option linter.unusedSimpArgs false
namespace Go.Proofs.Ytaibogaheidkcaa.Pure
open Go.RowKit Go.Proofs.Ytaibogaheidkcaa.All Go.Proofs.YtaibogaheidkcaaW.PrintWords Go.Proofs.YtaibogaheidkcaaW.PrintLast Go.Proofs.YtaibogaheidkcaaW.PrintMore
theorem headOf_at (K : Nat) (hK : K > 100) (a b c : Int) : ∃ e ys, ys.length ≤ 1048576 ∧ spec_HeadOf.f K a b c = some (e, ys) ∧ impl_HeadOf.f K a b c = some (e, ys) := by
  obtain ⟨K, rfl⟩ : ∃ m, K = m + 1 := ⟨K - 1, by omega⟩
  obtain ⟨t, ht, hs⟩ := fault_at K a b c
  obtain ⟨y, hy, sy, iy⟩ := pack_at (K + 1) c 8 (by omega) (by omega)
  rw [show ((8 : Nat) : Int) = 8 from rfl] at sy iy
  unfold spec_HeadOf.f impl_HeadOf.f
  simp only [ht, hs, Option.bind_some]
  cases t with
  | true =>
    refine ⟨0, [1, a % 256, b % 256] ++ y, by simp; omega, ?_, ?_⟩
    · rw [if_pos rfl, sy]
      simp only [Option.bind_some]
      rw [if_pos (by omega)]
    · rw [if_pos (by simp), iy]
      simp only [Option.bind_some]
      rw [if_pos (by simp; omega)]
  | false => exact ⟨3, [], by simp, by simp, by simp [impl_noBytes.f]⟩
theorem FnExactHeadOf : laws_FnExactHeadOf.Pure := by
  intro x y z _ _ _
  obtain ⟨K, hK⟩ : ∃ K, K > 1048600 := ⟨_, Nat.lt_succ_self _⟩
  refine ⟨K, ?_⟩
  obtain ⟨c, ys, hy, hS, hI⟩ := headOf_at K (by omega) x y z
  have n2 : ¬ ((((1 + ys.length : Nat) : Nat) : Int) < 0) := by omega
  unfold laws_FnExactHeadOf.f
  simp only [hS, hI, Option.bind_some, eqR K c ys hy (by omega), markR K c ys hy (by omega), heldR K c ys.length hy (by omega), if_true, if_neg n2]

end Go.Proofs.Ytaibogaheidkcaa.Pure
