/-
  No cell of these rows narrows 'for every input' (looked for: loops, veiled, ifaces, maps, wideKeys, modest, calm, conditions, laid).
  DERIVED. THE GIVEN ROWS OF THIS SEAT. 12 by the template 'for every input the law returns true; each argument reads behind the call as it read before'; 0 by the template 'total and deterministic' (their statements: YtmnhddedcbkpoaaTotals.lean).
  GIVEN WITH THE SEED: the statements are not yours to turn. If you find one false, say at which input.
  Laid BY PROGRAM, IN A SANDBOX (cutbox-rows.mjs): the forced cells as the released guide's own fill.sh prints them over the translation d68d2c21bbc2abca… (all of the seat's roots in one cut). By AI agents, Wed Nov 11 2026. No macro, syntax, notation, axiom, sorry.
-/
import Derived.Test.YtmnhddedcbkpoaaChecked
import GoSem.Claim
import GoSem.ClaimJoined
import GoSem.ClaimMapViews
import Derived.JoinedTies
import Derived.KernelRfl
namespace Go.Proofs.Ytmnhddedcbkpoaa
/- THE CELL 'sum', in the pinned program and in every row, IS THE sha256 OF THE DUMP (.gsa) THAT YtmnhddedcbkpoaaProg.lean LOADS. Nothing in Lean hashes anything: it is a label: what it is worth is what the hold of that sum in a sandbox is worth. -/
noncomputable def Try.pinned : Pinned := { name := "ytmnhddedcbkpoaa", sum := "d68d2c21bbc2abca7295452c21a71b2594034bf7d33cf06ee49df5461c1ec4e9", checked := Try.checked }
namespace Rows
def none {H : Type} : Left H := { results := [], args := [] }

/-- 'laws.FnTurns': WHATEVER THE INPUT: true; the input reads as it did. -/
def fnTurnsSpec : ChangeSpec := { name := "fnTurns", fn := fun _ => fun
  | [d] => { results := [.lit (.bool true)], args := [d] }
  | _ => none }
def fnTurnsRow : OpenClaim := { program := "ytmnhddedcbkpoaa", sum := "d68d2c21bbc2abca7295452c21a71b2594034bf7d33cf06ee49df5461c1ec4e9", func := "loop.example/g00725/laws.FnTurns", spec := "fnTurns", inPlace := ["slices.overlaps[loop.example/g00725/impl.Key]"], unfollowed := true, recurses := true, apart := false }
def FnTurnsSaid : Prop := fnTurnsRow.holds Try.pinned (OpenSpec.ofChange fnTurnsSpec)

/-- ITS FALSE NEIGHBOUR: 'it returns false'. Refute it at one input. -/
def fnTurnsWrong : ChangeSpec := { name := "fnTurns", fn := fun _ => fun
  | [d] => { results := [.lit (.bool false)], args := [d] }
  | _ => none }
def FnTurnsWrongFalsely : Prop := fnTurnsRow.holds Try.pinned (OpenSpec.ofChange fnTurnsWrong)

/-- 'laws.FnExactTurnRing': WHATEVER THE INPUT: true; the input reads as it did. -/
def fnExactTurnRingSpec : ChangeSpec := { name := "fnExactTurnRing", fn := fun _ => fun
  | [d1, d2, d3] => { results := [.lit (.bool true)], args := [d1, d2, d3] }
  | _ => none }
def fnExactTurnRingRow : OpenClaim := { program := "ytmnhddedcbkpoaa", sum := "d68d2c21bbc2abca7295452c21a71b2594034bf7d33cf06ee49df5461c1ec4e9", func := "loop.example/g00725/laws.FnExactTurnRing", spec := "fnExactTurnRing", inPlace := ["slices.overlaps[loop.example/g00725/impl.Key]"], unfollowed := true, recurses := true, apart := false }
def FnExactTurnRingSaid : Prop := fnExactTurnRingRow.holds Try.pinned (OpenSpec.ofChange fnExactTurnRingSpec)

/-- ITS FALSE NEIGHBOUR: 'it returns false'. Refute it at one input. -/
def fnExactTurnRingWrong : ChangeSpec := { name := "fnExactTurnRing", fn := fun _ => fun
  | [d1, d2, d3] => { results := [.lit (.bool false)], args := [d1, d2, d3] }
  | _ => none }
def FnExactTurnRingWrongFalsely : Prop := fnExactTurnRingRow.holds Try.pinned (OpenSpec.ofChange fnExactTurnRingWrong)

/-- 'laws.FnExactSameRings': WHATEVER THE INPUT: true; the input reads as it did. -/
def fnExactSameRingsSpec : ChangeSpec := { name := "fnExactSameRings", fn := fun _ => fun
  | [d1, d2] => { results := [.lit (.bool true)], args := [d1, d2] }
  | _ => none }
def fnExactSameRingsRow : OpenClaim := { program := "ytmnhddedcbkpoaa", sum := "d68d2c21bbc2abca7295452c21a71b2594034bf7d33cf06ee49df5461c1ec4e9", func := "loop.example/g00725/laws.FnExactSameRings", spec := "fnExactSameRings", unfollowed := true, recurses := true, apart := false }
def FnExactSameRingsSaid : Prop := fnExactSameRingsRow.holds Try.pinned (OpenSpec.ofChange fnExactSameRingsSpec)

/-- ITS FALSE NEIGHBOUR: 'it returns false'. Refute it at one input. -/
def fnExactSameRingsWrong : ChangeSpec := { name := "fnExactSameRings", fn := fun _ => fun
  | [d1, d2] => { results := [.lit (.bool false)], args := [d1, d2] }
  | _ => none }
def FnExactSameRingsWrongFalsely : Prop := fnExactSameRingsRow.holds Try.pinned (OpenSpec.ofChange fnExactSameRingsWrong)

/-- 'laws.FnExactRingFault': WHATEVER THE INPUT: true; the input reads as it did. -/
def fnExactRingFaultSpec : ChangeSpec := { name := "fnExactRingFault", fn := fun _ => fun
  | [d] => { results := [.lit (.bool true)], args := [d] }
  | _ => none }
def fnExactRingFaultRow : OpenClaim := { program := "ytmnhddedcbkpoaa", sum := "d68d2c21bbc2abca7295452c21a71b2594034bf7d33cf06ee49df5461c1ec4e9", func := "loop.example/g00725/laws.FnExactRingFault", spec := "fnExactRingFault", unfollowed := true, recurses := true, apart := false }
def FnExactRingFaultSaid : Prop := fnExactRingFaultRow.holds Try.pinned (OpenSpec.ofChange fnExactRingFaultSpec)

/-- ITS FALSE NEIGHBOUR: 'it returns false'. Refute it at one input. -/
def fnExactRingFaultWrong : ChangeSpec := { name := "fnExactRingFault", fn := fun _ => fun
  | [d] => { results := [.lit (.bool false)], args := [d] }
  | _ => none }
def FnExactRingFaultWrongFalsely : Prop := fnExactRingFaultRow.holds Try.pinned (OpenSpec.ofChange fnExactRingFaultWrong)

/-- 'laws.FnExactNewRing': WHATEVER THE INPUT: true; the input reads as it did. -/
def fnExactNewRingSpec : ChangeSpec := { name := "fnExactNewRing", fn := fun _ => fun
  | [d] => { results := [.lit (.bool true)], args := [d] }
  | _ => none }
def fnExactNewRingRow : OpenClaim := { program := "ytmnhddedcbkpoaa", sum := "d68d2c21bbc2abca7295452c21a71b2594034bf7d33cf06ee49df5461c1ec4e9", func := "loop.example/g00725/laws.FnExactNewRing", spec := "fnExactNewRing", unfollowed := true, recurses := true, apart := false }
def FnExactNewRingSaid : Prop := fnExactNewRingRow.holds Try.pinned (OpenSpec.ofChange fnExactNewRingSpec)

/-- ITS FALSE NEIGHBOUR: 'it returns false'. Refute it at one input. -/
def fnExactNewRingWrong : ChangeSpec := { name := "fnExactNewRing", fn := fun _ => fun
  | [d] => { results := [.lit (.bool false)], args := [d] }
  | _ => none }
def FnExactNewRingWrongFalsely : Prop := fnExactNewRingRow.holds Try.pinned (OpenSpec.ofChange fnExactNewRingWrong)

/-- 'laws.FnExactFindKey': WHATEVER THE INPUT: true; the input reads as it did. -/
def fnExactFindKeySpec : ChangeSpec := { name := "fnExactFindKey", fn := fun _ => fun
  | [d1, d2] => { results := [.lit (.bool true)], args := [d1, d2] }
  | _ => none }
def fnExactFindKeyRow : OpenClaim := { program := "ytmnhddedcbkpoaa", sum := "d68d2c21bbc2abca7295452c21a71b2594034bf7d33cf06ee49df5461c1ec4e9", func := "loop.example/g00725/laws.FnExactFindKey", spec := "fnExactFindKey", unfollowed := true, recurses := true, apart := false }
def FnExactFindKeySaid : Prop := fnExactFindKeyRow.holds Try.pinned (OpenSpec.ofChange fnExactFindKeySpec)

/-- ITS FALSE NEIGHBOUR: 'it returns false'. Refute it at one input. -/
def fnExactFindKeyWrong : ChangeSpec := { name := "fnExactFindKey", fn := fun _ => fun
  | [d1, d2] => { results := [.lit (.bool false)], args := [d1, d2] }
  | _ => none }
def FnExactFindKeyWrongFalsely : Prop := fnExactFindKeyRow.holds Try.pinned (OpenSpec.ofChange fnExactFindKeyWrong)

/-- 'laws.FnExactUseKey': WHATEVER THE INPUT: true; the input reads as it did. -/
def fnExactUseKeySpec : ChangeSpec := { name := "fnExactUseKey", fn := fun _ => fun
  | [d1, d2] => { results := [.lit (.bool true)], args := [d1, d2] }
  | _ => none }
def fnExactUseKeyRow : OpenClaim := { program := "ytmnhddedcbkpoaa", sum := "d68d2c21bbc2abca7295452c21a71b2594034bf7d33cf06ee49df5461c1ec4e9", func := "loop.example/g00725/laws.FnExactUseKey", spec := "fnExactUseKey", unfollowed := true, recurses := true, apart := false }
def FnExactUseKeySaid : Prop := fnExactUseKeyRow.holds Try.pinned (OpenSpec.ofChange fnExactUseKeySpec)

/-- ITS FALSE NEIGHBOUR: 'it returns false'. Refute it at one input. -/
def fnExactUseKeyWrong : ChangeSpec := { name := "fnExactUseKey", fn := fun _ => fun
  | [d1, d2] => { results := [.lit (.bool false)], args := [d1, d2] }
  | _ => none }
def FnExactUseKeyWrongFalsely : Prop := fnExactUseKeyRow.holds Try.pinned (OpenSpec.ofChange fnExactUseKeyWrong)

/-- 'laws.FnExactRemoveKey': WHATEVER THE INPUT: true; the input reads as it did. -/
def fnExactRemoveKeySpec : ChangeSpec := { name := "fnExactRemoveKey", fn := fun _ => fun
  | [d1, d2] => { results := [.lit (.bool true)], args := [d1, d2] }
  | _ => none }
def fnExactRemoveKeyRow : OpenClaim := { program := "ytmnhddedcbkpoaa", sum := "d68d2c21bbc2abca7295452c21a71b2594034bf7d33cf06ee49df5461c1ec4e9", func := "loop.example/g00725/laws.FnExactRemoveKey", spec := "fnExactRemoveKey", unfollowed := true, recurses := true, apart := false }
def FnExactRemoveKeySaid : Prop := fnExactRemoveKeyRow.holds Try.pinned (OpenSpec.ofChange fnExactRemoveKeySpec)

/-- ITS FALSE NEIGHBOUR: 'it returns false'. Refute it at one input. -/
def fnExactRemoveKeyWrong : ChangeSpec := { name := "fnExactRemoveKey", fn := fun _ => fun
  | [d1, d2] => { results := [.lit (.bool false)], args := [d1, d2] }
  | _ => none }
def FnExactRemoveKeyWrongFalsely : Prop := fnExactRemoveKeyRow.holds Try.pinned (OpenSpec.ofChange fnExactRemoveKeyWrong)

/-- 'laws.FnExactInstallKey': WHATEVER THE INPUT: true; the input reads as it did. -/
def fnExactInstallKeySpec : ChangeSpec := { name := "fnExactInstallKey", fn := fun _ => fun
  | [d1, d2] => { results := [.lit (.bool true)], args := [d1, d2] }
  | _ => none }
def fnExactInstallKeyRow : OpenClaim := { program := "ytmnhddedcbkpoaa", sum := "d68d2c21bbc2abca7295452c21a71b2594034bf7d33cf06ee49df5461c1ec4e9", func := "loop.example/g00725/laws.FnExactInstallKey", spec := "fnExactInstallKey", inPlace := ["slices.overlaps[loop.example/g00725/impl.Key]"], unfollowed := true, recurses := true, apart := false }
def FnExactInstallKeySaid : Prop := fnExactInstallKeyRow.holds Try.pinned (OpenSpec.ofChange fnExactInstallKeySpec)

/-- ITS FALSE NEIGHBOUR: 'it returns false'. Refute it at one input. -/
def fnExactInstallKeyWrong : ChangeSpec := { name := "fnExactInstallKey", fn := fun _ => fun
  | [d1, d2] => { results := [.lit (.bool false)], args := [d1, d2] }
  | _ => none }
def FnExactInstallKeyWrongFalsely : Prop := fnExactInstallKeyRow.holds Try.pinned (OpenSpec.ofChange fnExactInstallKeyWrong)

/-- 'laws.FnRings': WHATEVER THE INPUT: true; the input reads as it did. -/
def fnRingsSpec : ChangeSpec := { name := "fnRings", fn := fun _ => fun
  | [d] => { results := [.lit (.bool true)], args := [d] }
  | _ => none }
def fnRingsRow : OpenClaim := { program := "ytmnhddedcbkpoaa", sum := "d68d2c21bbc2abca7295452c21a71b2594034bf7d33cf06ee49df5461c1ec4e9", func := "loop.example/g00725/laws.FnRings", spec := "fnRings", inPlace := ["slices.overlaps[loop.example/g00725/impl.Key]"], unfollowed := true, recurses := true, apart := false }
def FnRingsSaid : Prop := fnRingsRow.holds Try.pinned (OpenSpec.ofChange fnRingsSpec)

/-- ITS FALSE NEIGHBOUR: 'it returns false'. Refute it at one input. -/
def fnRingsWrong : ChangeSpec := { name := "fnRings", fn := fun _ => fun
  | [d] => { results := [.lit (.bool false)], args := [d] }
  | _ => none }
def FnRingsWrongFalsely : Prop := fnRingsRow.holds Try.pinned (OpenSpec.ofChange fnRingsWrong)

/-- 'laws.FnExactSameLetters': WHATEVER THE INPUT: true; the input reads as it did. -/
def fnExactSameLettersSpec : ChangeSpec := { name := "fnExactSameLetters", fn := fun _ => fun
  | [d1, d2] => { results := [.lit (.bool true)], args := [d1, d2] }
  | _ => none }
def fnExactSameLettersRow : OpenClaim := { program := "ytmnhddedcbkpoaa", sum := "d68d2c21bbc2abca7295452c21a71b2594034bf7d33cf06ee49df5461c1ec4e9", func := "loop.example/g00725/laws.FnExactSameLetters", spec := "fnExactSameLetters", apart := false }
def FnExactSameLettersSaid : Prop := fnExactSameLettersRow.holds Try.pinned (OpenSpec.ofChange fnExactSameLettersSpec)

/-- ITS FALSE NEIGHBOUR: 'it returns false'. Refute it at one input. -/
def fnExactSameLettersWrong : ChangeSpec := { name := "fnExactSameLetters", fn := fun _ => fun
  | [d1, d2] => { results := [.lit (.bool false)], args := [d1, d2] }
  | _ => none }
def FnExactSameLettersWrongFalsely : Prop := fnExactSameLettersRow.holds Try.pinned (OpenSpec.ofChange fnExactSameLettersWrong)

/-- 'laws.FnExactLetterFault': WHATEVER THE INPUT: true; the input reads as it did. -/
def fnExactLetterFaultSpec : ChangeSpec := { name := "fnExactLetterFault", fn := fun _ => fun
  | [d] => { results := [.lit (.bool true)], args := [d] }
  | _ => none }
def fnExactLetterFaultRow : OpenClaim := { program := "ytmnhddedcbkpoaa", sum := "d68d2c21bbc2abca7295452c21a71b2594034bf7d33cf06ee49df5461c1ec4e9", func := "loop.example/g00725/laws.FnExactLetterFault", spec := "fnExactLetterFault", apart := false }
def FnExactLetterFaultSaid : Prop := fnExactLetterFaultRow.holds Try.pinned (OpenSpec.ofChange fnExactLetterFaultSpec)

/-- ITS FALSE NEIGHBOUR: 'it returns false'. Refute it at one input. -/
def fnExactLetterFaultWrong : ChangeSpec := { name := "fnExactLetterFault", fn := fun _ => fun
  | [d] => { results := [.lit (.bool false)], args := [d] }
  | _ => none }
def FnExactLetterFaultWrongFalsely : Prop := fnExactLetterFaultRow.holds Try.pinned (OpenSpec.ofChange fnExactLetterFaultWrong)

/- THE SECOND FORM. 'bulk': how many values and letters a reading holds, each counted each time it is reached (what is shared counts as often as it is met; a slice's spare places count too). A statement '..UptoSaid' is the law's where the arguments, and the package variables that the reading takes, are together of bulk at most 1048576: NARROWER than '..Said'. Prove '..Said' where nothing that the law and all that it calls make is longer than what came in: it says more and counts as full. Else prove '..UptoSaid'. A law counts once. -/
mutual
def uptoBulk {H : Type} : DataW H → Nat
  | .lit (.string bytes) => bytes.length + 1
  | .lit _ => 1
  | .nil => 1
  | .ptr d => uptoBulk d + 1
  | .slice elems spare => uptoBulkAll elems + uptoBulkAll spare + 1
  | .agg parts => uptoBulkAll parts + 1
  | .iface _ d => uptoBulk d + 1
  | .map entries => uptoBulkEntries entries + 1
  | .held _ => 1
def uptoBulkAll {H : Type} : List (DataW H) → Nat
  | [] => 0
  | d :: r => uptoBulk d + uptoBulkAll r
def uptoBulkEntries {H : Type} : List (Lit × DataW H) → Nat
  | [] => 0
  | x :: r => uptoBulkEntry x + uptoBulkEntries r
def uptoBulkEntry {H : Type} : Lit × DataW H → Nat
  | (.string bytes, d) => bytes.length + uptoBulk d + 1
  | (_, d) => uptoBulk d + 1
 end
def uptoSmall : (H : Type) → List (DataW H) → Bool := fun _ ds => decide (uptoBulkAll ds ≤ 1048576)
def OpenSpec.upto (s : _root_.Go.ChangeSpec) : _root_.Go.OpenSpec := { _root_.Go.OpenSpec.ofChange s with cond := some uptoSmall }

/-- 'laws.FnTurns', WHERE WHAT IT READS IS OF BULK AT MOST 1048576: true; the input reads as it did. -/
def fnTurnsUptoRow : OpenClaim := { program := "ytmnhddedcbkpoaa", sum := "d68d2c21bbc2abca7295452c21a71b2594034bf7d33cf06ee49df5461c1ec4e9", func := "loop.example/g00725/laws.FnTurns", spec := "fnTurns", inPlace := ["slices.overlaps[loop.example/g00725/impl.Key]"], unfollowed := true, recurses := true, apart := false, narrowed := true }
def FnTurnsUptoSaid : Prop := fnTurnsUptoRow.holds Try.pinned (OpenSpec.upto fnTurnsSpec)

/-- 'laws.FnExactTurnRing', WHERE WHAT IT READS IS OF BULK AT MOST 1048576: true; the input reads as it did. -/
def fnExactTurnRingUptoRow : OpenClaim := { program := "ytmnhddedcbkpoaa", sum := "d68d2c21bbc2abca7295452c21a71b2594034bf7d33cf06ee49df5461c1ec4e9", func := "loop.example/g00725/laws.FnExactTurnRing", spec := "fnExactTurnRing", inPlace := ["slices.overlaps[loop.example/g00725/impl.Key]"], unfollowed := true, recurses := true, apart := false, narrowed := true }
def FnExactTurnRingUptoSaid : Prop := fnExactTurnRingUptoRow.holds Try.pinned (OpenSpec.upto fnExactTurnRingSpec)

/-- 'laws.FnExactSameRings', WHERE WHAT IT READS IS OF BULK AT MOST 1048576: true; the input reads as it did. -/
def fnExactSameRingsUptoRow : OpenClaim := { program := "ytmnhddedcbkpoaa", sum := "d68d2c21bbc2abca7295452c21a71b2594034bf7d33cf06ee49df5461c1ec4e9", func := "loop.example/g00725/laws.FnExactSameRings", spec := "fnExactSameRings", unfollowed := true, recurses := true, apart := false, narrowed := true }
def FnExactSameRingsUptoSaid : Prop := fnExactSameRingsUptoRow.holds Try.pinned (OpenSpec.upto fnExactSameRingsSpec)

/-- 'laws.FnExactRingFault', WHERE WHAT IT READS IS OF BULK AT MOST 1048576: true; the input reads as it did. -/
def fnExactRingFaultUptoRow : OpenClaim := { program := "ytmnhddedcbkpoaa", sum := "d68d2c21bbc2abca7295452c21a71b2594034bf7d33cf06ee49df5461c1ec4e9", func := "loop.example/g00725/laws.FnExactRingFault", spec := "fnExactRingFault", unfollowed := true, recurses := true, apart := false, narrowed := true }
def FnExactRingFaultUptoSaid : Prop := fnExactRingFaultUptoRow.holds Try.pinned (OpenSpec.upto fnExactRingFaultSpec)

/-- 'laws.FnExactNewRing', WHERE WHAT IT READS IS OF BULK AT MOST 1048576: true; the input reads as it did. -/
def fnExactNewRingUptoRow : OpenClaim := { program := "ytmnhddedcbkpoaa", sum := "d68d2c21bbc2abca7295452c21a71b2594034bf7d33cf06ee49df5461c1ec4e9", func := "loop.example/g00725/laws.FnExactNewRing", spec := "fnExactNewRing", unfollowed := true, recurses := true, apart := false, narrowed := true }
def FnExactNewRingUptoSaid : Prop := fnExactNewRingUptoRow.holds Try.pinned (OpenSpec.upto fnExactNewRingSpec)

/-- 'laws.FnExactFindKey', WHERE WHAT IT READS IS OF BULK AT MOST 1048576: true; the input reads as it did. -/
def fnExactFindKeyUptoRow : OpenClaim := { program := "ytmnhddedcbkpoaa", sum := "d68d2c21bbc2abca7295452c21a71b2594034bf7d33cf06ee49df5461c1ec4e9", func := "loop.example/g00725/laws.FnExactFindKey", spec := "fnExactFindKey", unfollowed := true, recurses := true, apart := false, narrowed := true }
def FnExactFindKeyUptoSaid : Prop := fnExactFindKeyUptoRow.holds Try.pinned (OpenSpec.upto fnExactFindKeySpec)

/-- 'laws.FnExactUseKey', WHERE WHAT IT READS IS OF BULK AT MOST 1048576: true; the input reads as it did. -/
def fnExactUseKeyUptoRow : OpenClaim := { program := "ytmnhddedcbkpoaa", sum := "d68d2c21bbc2abca7295452c21a71b2594034bf7d33cf06ee49df5461c1ec4e9", func := "loop.example/g00725/laws.FnExactUseKey", spec := "fnExactUseKey", unfollowed := true, recurses := true, apart := false, narrowed := true }
def FnExactUseKeyUptoSaid : Prop := fnExactUseKeyUptoRow.holds Try.pinned (OpenSpec.upto fnExactUseKeySpec)

/-- 'laws.FnExactRemoveKey', WHERE WHAT IT READS IS OF BULK AT MOST 1048576: true; the input reads as it did. -/
def fnExactRemoveKeyUptoRow : OpenClaim := { program := "ytmnhddedcbkpoaa", sum := "d68d2c21bbc2abca7295452c21a71b2594034bf7d33cf06ee49df5461c1ec4e9", func := "loop.example/g00725/laws.FnExactRemoveKey", spec := "fnExactRemoveKey", unfollowed := true, recurses := true, apart := false, narrowed := true }
def FnExactRemoveKeyUptoSaid : Prop := fnExactRemoveKeyUptoRow.holds Try.pinned (OpenSpec.upto fnExactRemoveKeySpec)

/-- 'laws.FnExactInstallKey', WHERE WHAT IT READS IS OF BULK AT MOST 1048576: true; the input reads as it did. -/
def fnExactInstallKeyUptoRow : OpenClaim := { program := "ytmnhddedcbkpoaa", sum := "d68d2c21bbc2abca7295452c21a71b2594034bf7d33cf06ee49df5461c1ec4e9", func := "loop.example/g00725/laws.FnExactInstallKey", spec := "fnExactInstallKey", inPlace := ["slices.overlaps[loop.example/g00725/impl.Key]"], unfollowed := true, recurses := true, apart := false, narrowed := true }
def FnExactInstallKeyUptoSaid : Prop := fnExactInstallKeyUptoRow.holds Try.pinned (OpenSpec.upto fnExactInstallKeySpec)

/-- 'laws.FnRings', WHERE WHAT IT READS IS OF BULK AT MOST 1048576: true; the input reads as it did. -/
def fnRingsUptoRow : OpenClaim := { program := "ytmnhddedcbkpoaa", sum := "d68d2c21bbc2abca7295452c21a71b2594034bf7d33cf06ee49df5461c1ec4e9", func := "loop.example/g00725/laws.FnRings", spec := "fnRings", inPlace := ["slices.overlaps[loop.example/g00725/impl.Key]"], unfollowed := true, recurses := true, apart := false, narrowed := true }
def FnRingsUptoSaid : Prop := fnRingsUptoRow.holds Try.pinned (OpenSpec.upto fnRingsSpec)

/-- 'laws.FnExactSameLetters', WHERE WHAT IT READS IS OF BULK AT MOST 1048576: true; the input reads as it did. -/
def fnExactSameLettersUptoRow : OpenClaim := { program := "ytmnhddedcbkpoaa", sum := "d68d2c21bbc2abca7295452c21a71b2594034bf7d33cf06ee49df5461c1ec4e9", func := "loop.example/g00725/laws.FnExactSameLetters", spec := "fnExactSameLetters", apart := false, narrowed := true }
def FnExactSameLettersUptoSaid : Prop := fnExactSameLettersUptoRow.holds Try.pinned (OpenSpec.upto fnExactSameLettersSpec)

/-- 'laws.FnExactLetterFault', WHERE WHAT IT READS IS OF BULK AT MOST 1048576: true; the input reads as it did. -/
def fnExactLetterFaultUptoRow : OpenClaim := { program := "ytmnhddedcbkpoaa", sum := "d68d2c21bbc2abca7295452c21a71b2594034bf7d33cf06ee49df5461c1ec4e9", func := "loop.example/g00725/laws.FnExactLetterFault", spec := "fnExactLetterFault", apart := false, narrowed := true }
def FnExactLetterFaultUptoSaid : Prop := fnExactLetterFaultUptoRow.holds Try.pinned (OpenSpec.upto fnExactLetterFaultSpec)

end Rows
end Go.Proofs.Ytmnhddedcbkpoaa
