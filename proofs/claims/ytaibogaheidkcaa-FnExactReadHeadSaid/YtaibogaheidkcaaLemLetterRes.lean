import Derived.Test.YtaibogaheidkcaaAllx0
import Derived.Test.YtaibogaheidkcaaAllx50
import Derived.Test.YtaibogaheidkcaaAllx114
import Derived.Test.YtaibogaheidkcaaAllx115
import Derived.Test.YtaibogaheidkcaaAllx116
import Derived.Test.YtaibogaheidkcaaAllx117
import Derived.Test.YtaibogaheidkcaaAllx118
import Derived.Test.YtaibogaheidkcaaLemBytes
import Derived.Test.YtaibogaheidkcaaLemMarks
set_option linter.unusedVariables false
set_option linter.unusedSimpArgs false
namespace Go.Proofs.Ytaibogaheidkcaa.All
open Go.RowKit Go.Proofs.Ytaibogaheidkcaa.All Go.Proofs.YtaibogaheidkcaaW.PrintWords Go.Proofs.YtaibogaheidkcaaW.PrintLast Go.Proofs.YtaibogaheidkcaaW.PrintMore
/-! ### results of a code and a letter -/
theorem eqLR (k : Nat) (c a b d : Int) (xs : List Int) (hn : xs.length ≤ 1048576) (hk : xs.length < k) : laws_eqLetterResult.f k c a b d xs c a b d xs = some true := by
  unfold laws_eqLetterResult.f laws_eqLetter.f
  rw [if_pos rfl, if_pos rfl, if_pos rfl, if_pos rfl, eqB k xs hn hk]
  rfl
theorem markLR (k : Nat) (c a b d : Int) (xs : List Int) (hn : xs.length ≤ 1048576) (hk : xs.length < k) : laws_markLetterResult.f k c a b d xs 1 = some (((1 + xs.length : Nat) : Int), mkL 1 xs.length) := by
  unfold laws_markLetterResult.f laws_markLetter.f
  rw [markB k xs hn hk]
  rfl
theorem heldLR (k : Nat) (c a b d : Int) (n : Nat) (hn : n ≤ 1048576) (hk : n < k) : laws_heldLetterResult.f k c a b d (mkL 1 n) 1 = some ((1 + n : Nat) : Int) := by
  unfold laws_heldLetterResult.f laws_heldLetter.f
  rw [heldB k n hn hk]
  simp only [Option.bind_some]
  rw [if_neg (by omega)]
  simp only [Option.bind_some]
  rw [if_neg (by omega)]

end Go.Proofs.Ytaibogaheidkcaa.All
