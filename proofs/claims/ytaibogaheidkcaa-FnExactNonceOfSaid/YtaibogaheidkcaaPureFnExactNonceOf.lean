/- The law FnExactNonceOf in numbers and lists: whatever comes in, it answers true.-/
import Derived.Test.YtaibogaheidkcaaAllx129
import Derived.Test.YtaibogaheidkcaaLemNonce
import Derived.Test.YtaibogaheidkcaaLemResults
set_option linter.unusedVariables false
set_option linter.unusedSimpArgs false
namespace Go.Proofs.Ytaibogaheidkcaa.Pure
open Go.RowKit Go.Proofs.Ytaibogaheidkcaa.All Go.Proofs.YtaibogaheidkcaaW.PrintWords Go.Proofs.YtaibogaheidkcaaW.PrintLast Go.Proofs.YtaibogaheidkcaaW.PrintMore
theorem FnExactNonceOf : laws_FnExactNonceOf.Pure := by
  intro x n hx hn
  obtain ⟨K, hK⟩ : ∃ K, K > 1048600 := ⟨_, Nat.lt_succ_self _⟩
  refine ⟨K, ?_⟩
  obtain ⟨c, ys, hy, hS, hI⟩ := nonce_at K (by omega) x n
  have n2 : ¬ ((((1 + ys.length : Nat) : Nat) : Int) < 0) := by omega
  unfold laws_FnExactNonceOf.f
  simp only [hS, hI, Option.bind_some, eqR K c ys hy (by omega), markR K c ys hy (by omega), heldR K c ys.length hy (by omega), if_true, if_neg n2]

end Go.Proofs.Ytaibogaheidkcaa.Pure
