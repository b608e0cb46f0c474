import Derived.Test.YtaibogaheidkcaaAllx0
import Derived.Test.YtaibogaheidkcaaAllx12
import Derived.Test.YtaibogaheidkcaaLemBytes
import Derived.Test.YtaibogaheidkcaaLemMarks
set_option linter.unusedVariables false
set_option linter.unusedSimpArgs false
namespace Go.Proofs.Ytaibogaheidkcaa.All
open Go.RowKit Go.Proofs.Ytaibogaheidkcaa.All Go.Proofs.YtaibogaheidkcaaW.PrintWords Go.Proofs.YtaibogaheidkcaaW.PrintLast Go.Proofs.YtaibogaheidkcaaW.PrintMore
/-! ### results of a code and a slice of bytes -/
theorem markR (k : Nat) (c : Int) (xs : List Int) (hn : xs.length ≤ 1048576) (hk : xs.length < k) : laws_markBytesResult.f k c xs 1 = some (((1 + xs.length : Nat) : Int), mkL 1 xs.length) := by
  unfold laws_markBytesResult.f
  rw [markB k xs hn hk]
  rfl
theorem heldR (k : Nat) (c : Int) (n : Nat) (hn : n ≤ 1048576) (hk : n < k) : laws_heldBytesResult.f k c (mkL 1 n) 1 = some ((1 + n : Nat) : Int) := by
  unfold laws_heldBytesResult.f
  rw [heldB k n hn hk]
  simp only [Option.bind_some]
  rw [if_neg (by omega)]
theorem eqR (k : Nat) (c : Int) (xs : List Int) (hn : xs.length ≤ 1048576) (hk : xs.length < k) : laws_eqBytesResult.f k c xs c xs = some true := by
  unfold laws_eqBytesResult.f
  rw [if_pos rfl, eqB k xs hn hk]
  rfl

end Go.Proofs.Ytaibogaheidkcaa.All
