-- Laid by wip/shake.py of this repo out of this claim's texts. Not trusted: Lean checks it.
import Derived.Test.YtaibogaheidkcaaAllx193s
import Derived.Test.YtaibogaheidkcaaLemBytess
import Derived.Test.YtaibogaheidkcaaLemOpenXs
set_option linter.unusedVariables false
set_option linter.unusedSimpArgs false
namespace Go.Proofs.Ytaibogaheidkcaa.Pure
open Go.RowKit Go.Proofs.Ytaibogaheidkcaa.All Go.Proofs.YtaibogaheidkcaaW.PrintWords Go.Proofs.YtaibogaheidkcaaW.PrintLast Go.Proofs.YtaibogaheidkcaaW.PrintMore
theorem FnExactOpenText : laws_FnExactOpenText.Pure := by
 intro l0 l1 l2 l3 _ _ hw0 _ _ hw1 _ _ hw2 _ _ hw3
 obtain ⟨m0, rfl⟩ := bL_of l0 hw0
 obtain ⟨m1, rfl⟩ := bL_of l1 hw1
 obtain ⟨m2, rfl⟩ := bL_of l2 hw2
 obtain ⟨m3, rfl⟩ := bL_of l3 hw3
 clear hw0 hw1 hw2 hw3
 obtain ⟨K, hK⟩ : ∃ K, K > 1048600 := ⟨_, Nat.lt_succ_self _⟩
 refine ⟨K + 1, ?_⟩
 unfold laws_FnExactOpenText.f
 by_cases h : ((bL m0).length : Int) > 1048576
 ·rw [if_pos h]
 by_cases h' : ((bL m1).length : Int) > 1048576
 ·rw [if_neg h, if_pos h']
 by_cases h'' : ((bL m2).length : Int) > 1048576
 ·rw [if_neg h, if_neg h', if_pos h'']
 by_cases h''' : ((bL m3).length : Int) > 1048576
 ·rw [if_neg h, if_neg h', if_neg h'', if_pos h''']
 have hm3 : (bL m3).length ≤ 1048576 := by omega
 have hm : (bL m0).length ≤ 1048576 := by omega
 have hm1 : (bL m1).length ≤ 1048576 := by omega
 have hm2 : (bL m2).length ≤ 1048576 := by omega
 obtain ⟨c, ys, hy, hS, hI⟩ := open_at m0 m1 m2 m3
 have n1 : ¬ ((((1 + (bL m0).length + (bL m1).length + (bL m2).length + (bL m3).length : Nat) : Nat) : Int) < 0) := by omega
 have n2 : ¬ ((((1 + ys.length : Nat) : Nat) : Int) < 0) := by omega
 rw [if_neg h, if_neg h', if_neg h'', if_neg h''']
 simp only [toB (K + 1) _ hm (by omega), toB (K + 1) _ hm1 (by omega), toB (K + 1) _ hm2 (by omega), toB (K + 1) _ hm3 (by omega), hS (K + 1) (by omega), hI, Option.bind_some, eqR (K + 1) c ys hy (by omega), eqB (K + 1) _ hm (by omega), eqB (K + 1) _ hm1 (by omega), eqB (K + 1) _ hm2 (by omega), eqB (K + 1) _ hm3 (by omega), markB (K + 1) _ hm (by omega), markBd (K + 1) _ (bL m1) (show 1 + (bL m0).length ≤ 1099511627776 by omega) hm1 (by omega), markBd (K + 1) _ (bL m2) (show 1 + (bL m0).length + (bL m1).length ≤ 1099511627776 by omega) hm2 (by omega), markBd (K + 1) _ (bL m3) (show 1 + (bL m0).length + (bL m1).length + (bL m2).length ≤ 1099511627776 by omega) hm3 (by omega), if_true, if_neg n1, Bool.not_true]
 simp only [laws_FnExactOpenText.j0]
 simp only [toB K _ hm (by omega), toB K _ hm1 (by omega), toB K _ hm2 (by omega), toB K _ hm3 (by omega), hI, Option.bind_some, eqR K c ys hy (by omega), markR K c ys hy (by omega), heldR K c ys.length hy (by omega), if_true, if_neg n2, Bool.false_eq_true, if_false]
end Go.Proofs.Ytaibogaheidkcaa.Pure
