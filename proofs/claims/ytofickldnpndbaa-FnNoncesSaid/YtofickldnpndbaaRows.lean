/-
  No cell of these rows narrows 'for every input' (looked for: loops, veiled, ifaces, maps, wideKeys, modest, calm, conditions, laid).
  DERIVED. THE GIVEN ROWS OF THIS SEAT. 4 by the template 'for every input the law returns true; each argument reads behind the call as it read before'; 0 by the template 'total and deterministic' (their statements: YtofickldnpndbaaTotals.lean).
  GIVEN WITH THE SEED: the statements are not yours to turn. If you find one false, say at which input.
  Laid BY PROGRAM, IN A SANDBOX (cutbox-rows.mjs): the forced cells as the released guide's own fill.sh prints them over the translation 82876da4823a8b65… (all of the seat's roots in one cut). By AI agents, Wed Nov 11 2026. No macro, syntax, notation, axiom, sorry.
-/
import Derived.Test.YtofickldnpndbaaChecked
import GoSem.Claim
import GoSem.ClaimJoined
import GoSem.ClaimMapViews
import Derived.JoinedTies
import Derived.KernelRfl
namespace Go.Proofs.Ytofickldnpndbaa
/- THE CELL 'sum', in the pinned program and in every row, IS THE sha256 OF THE DUMP (.gsa) THAT YtofickldnpndbaaProg.lean LOADS. Nothing in Lean hashes anything: it is a label: what it is worth is what the hold of that sum in a sandbox is worth. -/
noncomputable def Try.pinned : Pinned := { name := "ytofickldnpndbaa", sum := "82876da4823a8b65a51057bdf8863a81920cc9c5e23eb355f9a356bd30756da9", checked := Try.checked }
namespace Rows
def none {H : Type} : Left H := { results := [], args := [] }

/-- 'laws.FnNumbers': WHATEVER THE INPUT: true; the input reads as it did. -/
def fnNumbersSpec : ChangeSpec := { name := "fnNumbers", fn := fun _ => fun
  | [d] => { results := [.lit (.bool true)], args := [d] }
  | _ => none }
def fnNumbersRow : OpenClaim := { program := "ytofickldnpndbaa", sum := "82876da4823a8b65a51057bdf8863a81920cc9c5e23eb355f9a356bd30756da9", func := "loop.example/g00725/laws.FnNumbers", spec := "fnNumbers", apart := false }
def FnNumbersSaid : Prop := fnNumbersRow.holds Try.pinned (OpenSpec.ofChange fnNumbersSpec)

/-- ITS FALSE NEIGHBOUR: 'it returns false'. Refute it at one input. -/
def fnNumbersWrong : ChangeSpec := { name := "fnNumbers", fn := fun _ => fun
  | [d] => { results := [.lit (.bool false)], args := [d] }
  | _ => none }
def FnNumbersWrongFalsely : Prop := fnNumbersRow.holds Try.pinned (OpenSpec.ofChange fnNumbersWrong)

/-- 'laws.FnRows': WHATEVER THE INPUT: true; the input reads as it did. -/
def fnRowsSpec : ChangeSpec := { name := "fnRows", fn := fun _ => fun
  | [d] => { results := [.lit (.bool true)], args := [d] }
  | _ => none }
def fnRowsRow : OpenClaim := { program := "ytofickldnpndbaa", sum := "82876da4823a8b65a51057bdf8863a81920cc9c5e23eb355f9a356bd30756da9", func := "loop.example/g00725/laws.FnRows", spec := "fnRows", unfollowed := true, recurses := true, apart := false }
def FnRowsSaid : Prop := fnRowsRow.holds Try.pinned (OpenSpec.ofChange fnRowsSpec)

/-- ITS FALSE NEIGHBOUR: 'it returns false'. Refute it at one input. -/
def fnRowsWrong : ChangeSpec := { name := "fnRows", fn := fun _ => fun
  | [d] => { results := [.lit (.bool false)], args := [d] }
  | _ => none }
def FnRowsWrongFalsely : Prop := fnRowsRow.holds Try.pinned (OpenSpec.ofChange fnRowsWrong)

/-- 'laws.FnNonces': WHATEVER THE INPUT: true; the input reads as it did. -/
def fnNoncesSpec : ChangeSpec := { name := "fnNonces", fn := fun _ => fun
  | [d] => { results := [.lit (.bool true)], args := [d] }
  | _ => none }
def fnNoncesRow : OpenClaim := { program := "ytofickldnpndbaa", sum := "82876da4823a8b65a51057bdf8863a81920cc9c5e23eb355f9a356bd30756da9", func := "loop.example/g00725/laws.FnNonces", spec := "fnNonces", apart := false }
def FnNoncesSaid : Prop := fnNoncesRow.holds Try.pinned (OpenSpec.ofChange fnNoncesSpec)

/-- ITS FALSE NEIGHBOUR: 'it returns false'. Refute it at one input. -/
def fnNoncesWrong : ChangeSpec := { name := "fnNonces", fn := fun _ => fun
  | [d] => { results := [.lit (.bool false)], args := [d] }
  | _ => none }
def FnNoncesWrongFalsely : Prop := fnNoncesRow.holds Try.pinned (OpenSpec.ofChange fnNoncesWrong)

/-- 'laws.FnExactLetterFault': WHATEVER THE INPUT: true; the input reads as it did. -/
def fnExactLetterFaultSpec : ChangeSpec := { name := "fnExactLetterFault", fn := fun _ => fun
  | [d] => { results := [.lit (.bool true)], args := [d] }
  | _ => none }
def fnExactLetterFaultRow : OpenClaim := { program := "ytofickldnpndbaa", sum := "82876da4823a8b65a51057bdf8863a81920cc9c5e23eb355f9a356bd30756da9", func := "loop.example/g00725/laws.FnExactLetterFault", spec := "fnExactLetterFault", apart := false }
def FnExactLetterFaultSaid : Prop := fnExactLetterFaultRow.holds Try.pinned (OpenSpec.ofChange fnExactLetterFaultSpec)

/-- ITS FALSE NEIGHBOUR: 'it returns false'. Refute it at one input. -/
def fnExactLetterFaultWrong : ChangeSpec := { name := "fnExactLetterFault", fn := fun _ => fun
  | [d] => { results := [.lit (.bool false)], args := [d] }
  | _ => none }
def FnExactLetterFaultWrongFalsely : Prop := fnExactLetterFaultRow.holds Try.pinned (OpenSpec.ofChange fnExactLetterFaultWrong)

/- THE SECOND FORM. 'bulk': how many values and letters a reading holds, each counted each time it is reached (what is shared counts as often as it is met; a slice's spare places count too). A statement '..UptoSaid' is the law's where the arguments, and the package variables that the reading takes, are together of bulk at most 1048576: NARROWER than '..Said'. Prove '..Said' where nothing that the law and all that it calls make is longer than what came in: it says more and counts as full. Else prove '..UptoSaid'. A law counts once. -/
mutual
def uptoBulk {H : Type} : DataW H → Nat
  | .lit (.string bytes) => bytes.length + 1
  | .lit _ => 1
  | .nil => 1
  | .ptr d => uptoBulk d + 1
  | .slice elems spare => uptoBulkAll elems + uptoBulkAll spare + 1
  | .agg parts => uptoBulkAll parts + 1
  | .iface _ d => uptoBulk d + 1
  | .map entries => uptoBulkEntries entries + 1
  | .held _ => 1
def uptoBulkAll {H : Type} : List (DataW H) → Nat
  | [] => 0
  | d :: r => uptoBulk d + uptoBulkAll r
def uptoBulkEntries {H : Type} : List (Lit × DataW H) → Nat
  | [] => 0
  | x :: r => uptoBulkEntry x + uptoBulkEntries r
def uptoBulkEntry {H : Type} : Lit × DataW H → Nat
  | (.string bytes, d) => bytes.length + uptoBulk d + 1
  | (_, d) => uptoBulk d + 1
 end
def uptoSmall : (H : Type) → List (DataW H) → Bool := fun _ ds => decide (uptoBulkAll ds ≤ 1048576)
def OpenSpec.upto (s : _root_.Go.ChangeSpec) : _root_.Go.OpenSpec := { _root_.Go.OpenSpec.ofChange s with cond := some uptoSmall }

/-- 'laws.FnNumbers', WHERE WHAT IT READS IS OF BULK AT MOST 1048576: true; the input reads as it did. -/
def fnNumbersUptoRow : OpenClaim := { program := "ytofickldnpndbaa", sum := "82876da4823a8b65a51057bdf8863a81920cc9c5e23eb355f9a356bd30756da9", func := "loop.example/g00725/laws.FnNumbers", spec := "fnNumbers", apart := false, narrowed := true }
def FnNumbersUptoSaid : Prop := fnNumbersUptoRow.holds Try.pinned (OpenSpec.upto fnNumbersSpec)

/-- 'laws.FnRows', WHERE WHAT IT READS IS OF BULK AT MOST 1048576: true; the input reads as it did. -/
def fnRowsUptoRow : OpenClaim := { program := "ytofickldnpndbaa", sum := "82876da4823a8b65a51057bdf8863a81920cc9c5e23eb355f9a356bd30756da9", func := "loop.example/g00725/laws.FnRows", spec := "fnRows", unfollowed := true, recurses := true, apart := false, narrowed := true }
def FnRowsUptoSaid : Prop := fnRowsUptoRow.holds Try.pinned (OpenSpec.upto fnRowsSpec)

/-- 'laws.FnNonces', WHERE WHAT IT READS IS OF BULK AT MOST 1048576: true; the input reads as it did. -/
def fnNoncesUptoRow : OpenClaim := { program := "ytofickldnpndbaa", sum := "82876da4823a8b65a51057bdf8863a81920cc9c5e23eb355f9a356bd30756da9", func := "loop.example/g00725/laws.FnNonces", spec := "fnNonces", apart := false, narrowed := true }
def FnNoncesUptoSaid : Prop := fnNoncesUptoRow.holds Try.pinned (OpenSpec.upto fnNoncesSpec)

/-- 'laws.FnExactLetterFault', WHERE WHAT IT READS IS OF BULK AT MOST 1048576: true; the input reads as it did. -/
def fnExactLetterFaultUptoRow : OpenClaim := { program := "ytofickldnpndbaa", sum := "82876da4823a8b65a51057bdf8863a81920cc9c5e23eb355f9a356bd30756da9", func := "loop.example/g00725/laws.FnExactLetterFault", spec := "fnExactLetterFault", apart := false, narrowed := true }
def FnExactLetterFaultUptoSaid : Prop := fnExactLetterFaultUptoRow.holds Try.pinned (OpenSpec.upto fnExactLetterFaultSpec)

end Rows
end Go.Proofs.Ytofickldnpndbaa
