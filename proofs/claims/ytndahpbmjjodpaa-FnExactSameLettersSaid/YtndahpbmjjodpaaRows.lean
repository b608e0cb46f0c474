/-
  No cell of these rows narrows 'for every input' (looked for: loops, veiled, ifaces, maps, wideKeys, modest, calm, conditions, laid).
  DERIVED. THE GIVEN ROWS OF THIS SEAT. 12 by the template 'for every input the law returns true; each argument reads behind the call as it read before'; 0 by the template 'total and deterministic' (their statements: YtndahpbmjjodpaaTotals.lean).
  GIVEN WITH THE SEED: the statements are not yours to turn. If you find one false, say at which input.
  Laid BY PROGRAM, IN A SANDBOX (cutbox-rows.mjs): the forced cells as the released guide's own fill.sh prints them over the translation 94ba1fe06332a205… (all of the seat's roots in one cut). By AI agents, Wed Nov 11 2026. No macro, syntax, notation, axiom, sorry.
-/
import Derived.Test.YtndahpbmjjodpaaChecked
import GoSem.Claim
import GoSem.ClaimJoined
import GoSem.ClaimMapViews
import Derived.JoinedTies
import Derived.KernelRfl
namespace Go.Proofs.Ytndahpbmjjodpaa
/- THE CELL 'sum', in the pinned program and in every row, IS THE sha256 OF THE DUMP (.gsa) THAT YtndahpbmjjodpaaProg.lean LOADS. Nothing in Lean hashes anything: it is a label: what it is worth is what the hold of that sum in a sandbox is worth. -/
noncomputable def Try.pinned : Pinned := { name := "ytndahpbmjjodpaa", sum := "94ba1fe06332a20509ceda64c57012cbbf741b73babee40462c26e2f95907448", checked := Try.checked }
namespace Rows
def none {H : Type} : Left H := { results := [], args := [] }

/-- 'laws.FnExactConstants': WHATEVER THE INPUT: true; the input reads as it did. -/
def fnExactConstantsSpec : ChangeSpec := { name := "fnExactConstants", fn := fun _ => fun
  | [] => { results := [.lit (.bool true)], args := [] }
  | _ => none }
def fnExactConstantsRow : OpenClaim := { program := "ytndahpbmjjodpaa", sum := "94ba1fe06332a20509ceda64c57012cbbf741b73babee40462c26e2f95907448", func := "loop.example/g00725/laws.FnExactConstants", spec := "fnExactConstants", apart := false }
def FnExactConstantsSaid : Prop := fnExactConstantsRow.holds Try.pinned (OpenSpec.ofChange fnExactConstantsSpec)

/-- ITS FALSE NEIGHBOUR: 'it returns false'. Refute it at one input. -/
def fnExactConstantsWrong : ChangeSpec := { name := "fnExactConstants", fn := fun _ => fun
  | [] => { results := [.lit (.bool false)], args := [] }
  | _ => none }
def FnExactConstantsWrongFalsely : Prop := fnExactConstantsRow.holds Try.pinned (OpenSpec.ofChange fnExactConstantsWrong)

/-- 'laws.FnExactSubByte': WHATEVER THE INPUT: true; the input reads as it did. -/
def fnExactSubByteSpec : ChangeSpec := { name := "fnExactSubByte", fn := fun _ => fun
  | [d] => { results := [.lit (.bool true)], args := [d] }
  | _ => none }
def fnExactSubByteRow : OpenClaim := { program := "ytndahpbmjjodpaa", sum := "94ba1fe06332a20509ceda64c57012cbbf741b73babee40462c26e2f95907448", func := "loop.example/g00725/laws.FnExactSubByte", spec := "fnExactSubByte", apart := false }
def FnExactSubByteSaid : Prop := fnExactSubByteRow.holds Try.pinned (OpenSpec.ofChange fnExactSubByteSpec)

/-- ITS FALSE NEIGHBOUR: 'it returns false'. Refute it at one input. -/
def fnExactSubByteWrong : ChangeSpec := { name := "fnExactSubByte", fn := fun _ => fun
  | [d] => { results := [.lit (.bool false)], args := [d] }
  | _ => none }
def FnExactSubByteWrongFalsely : Prop := fnExactSubByteRow.holds Try.pinned (OpenSpec.ofChange fnExactSubByteWrong)

/-- 'laws.FnExactSameBytes': WHATEVER THE INPUT: true; the input reads as it did. -/
def fnExactSameBytesSpec : ChangeSpec := { name := "fnExactSameBytes", fn := fun _ => fun
  | [d1, d2] => { results := [.lit (.bool true)], args := [d1, d2] }
  | _ => none }
def fnExactSameBytesRow : OpenClaim := { program := "ytndahpbmjjodpaa", sum := "94ba1fe06332a20509ceda64c57012cbbf741b73babee40462c26e2f95907448", func := "loop.example/g00725/laws.FnExactSameBytes", spec := "fnExactSameBytes", apart := false }
def FnExactSameBytesSaid : Prop := fnExactSameBytesRow.holds Try.pinned (OpenSpec.ofChange fnExactSameBytesSpec)

/-- ITS FALSE NEIGHBOUR: 'it returns false'. Refute it at one input. -/
def fnExactSameBytesWrong : ChangeSpec := { name := "fnExactSameBytes", fn := fun _ => fun
  | [d1, d2] => { results := [.lit (.bool false)], args := [d1, d2] }
  | _ => none }
def FnExactSameBytesWrongFalsely : Prop := fnExactSameBytesRow.holds Try.pinned (OpenSpec.ofChange fnExactSameBytesWrong)

/-- 'laws.FnExactFieldTimes': WHATEVER THE INPUT: true; the input reads as it did. -/
def fnExactFieldTimesSpec : ChangeSpec := { name := "fnExactFieldTimes", fn := fun _ => fun
  | [d1, d2] => { results := [.lit (.bool true)], args := [d1, d2] }
  | _ => none }
def fnExactFieldTimesRow : OpenClaim := { program := "ytndahpbmjjodpaa", sum := "94ba1fe06332a20509ceda64c57012cbbf741b73babee40462c26e2f95907448", func := "loop.example/g00725/laws.FnExactFieldTimes", spec := "fnExactFieldTimes", apart := false }
def FnExactFieldTimesSaid : Prop := fnExactFieldTimesRow.holds Try.pinned (OpenSpec.ofChange fnExactFieldTimesSpec)

/-- ITS FALSE NEIGHBOUR: 'it returns false'. Refute it at one input. -/
def fnExactFieldTimesWrong : ChangeSpec := { name := "fnExactFieldTimes", fn := fun _ => fun
  | [d1, d2] => { results := [.lit (.bool false)], args := [d1, d2] }
  | _ => none }
def FnExactFieldTimesWrongFalsely : Prop := fnExactFieldTimesRow.holds Try.pinned (OpenSpec.ofChange fnExactFieldTimesWrong)

/-- 'laws.FnExactFieldInverse': WHATEVER THE INPUT: true; the input reads as it did. -/
def fnExactFieldInverseSpec : ChangeSpec := { name := "fnExactFieldInverse", fn := fun _ => fun
  | [d] => { results := [.lit (.bool true)], args := [d] }
  | _ => none }
def fnExactFieldInverseRow : OpenClaim := { program := "ytndahpbmjjodpaa", sum := "94ba1fe06332a20509ceda64c57012cbbf741b73babee40462c26e2f95907448", func := "loop.example/g00725/laws.FnExactFieldInverse", spec := "fnExactFieldInverse", apart := false }
def FnExactFieldInverseSaid : Prop := fnExactFieldInverseRow.holds Try.pinned (OpenSpec.ofChange fnExactFieldInverseSpec)

/-- ITS FALSE NEIGHBOUR: 'it returns false'. Refute it at one input. -/
def fnExactFieldInverseWrong : ChangeSpec := { name := "fnExactFieldInverse", fn := fun _ => fun
  | [d] => { results := [.lit (.bool false)], args := [d] }
  | _ => none }
def FnExactFieldInverseWrongFalsely : Prop := fnExactFieldInverseRow.holds Try.pinned (OpenSpec.ofChange fnExactFieldInverseWrong)

/-- 'laws.FnTurns': WHATEVER THE INPUT: true; the input reads as it did. -/
def fnTurnsSpec : ChangeSpec := { name := "fnTurns", fn := fun _ => fun
  | [d] => { results := [.lit (.bool true)], args := [d] }
  | _ => none }
def fnTurnsRow : OpenClaim := { program := "ytndahpbmjjodpaa", sum := "94ba1fe06332a20509ceda64c57012cbbf741b73babee40462c26e2f95907448", func := "loop.example/g00725/laws.FnTurns", spec := "fnTurns", inPlace := ["slices.overlaps[loop.example/g00725/impl.Key]"], unfollowed := true, recurses := true, apart := false }
def FnTurnsSaid : Prop := fnTurnsRow.holds Try.pinned (OpenSpec.ofChange fnTurnsSpec)

/-- ITS FALSE NEIGHBOUR: 'it returns false'. Refute it at one input. -/
def fnTurnsWrong : ChangeSpec := { name := "fnTurns", fn := fun _ => fun
  | [d] => { results := [.lit (.bool false)], args := [d] }
  | _ => none }
def FnTurnsWrongFalsely : Prop := fnTurnsRow.holds Try.pinned (OpenSpec.ofChange fnTurnsWrong)

/-- 'laws.FnExactRoundConstant': WHATEVER THE INPUT: true; the input reads as it did. -/
def fnExactRoundConstantSpec : ChangeSpec := { name := "fnExactRoundConstant", fn := fun _ => fun
  | [d] => { results := [.lit (.bool true)], args := [d] }
  | _ => none }
def fnExactRoundConstantRow : OpenClaim := { program := "ytndahpbmjjodpaa", sum := "94ba1fe06332a20509ceda64c57012cbbf741b73babee40462c26e2f95907448", func := "loop.example/g00725/laws.FnExactRoundConstant", spec := "fnExactRoundConstant", apart := false }
def FnExactRoundConstantSaid : Prop := fnExactRoundConstantRow.holds Try.pinned (OpenSpec.ofChange fnExactRoundConstantSpec)

/-- ITS FALSE NEIGHBOUR: 'it returns false'. Refute it at one input. -/
def fnExactRoundConstantWrong : ChangeSpec := { name := "fnExactRoundConstant", fn := fun _ => fun
  | [d] => { results := [.lit (.bool false)], args := [d] }
  | _ => none }
def FnExactRoundConstantWrongFalsely : Prop := fnExactRoundConstantRow.holds Try.pinned (OpenSpec.ofChange fnExactRoundConstantWrong)

/-- 'laws.FnExactReadWord': WHATEVER THE INPUT: true; the input reads as it did. -/
def fnExactReadWordSpec : ChangeSpec := { name := "fnExactReadWord", fn := fun _ => fun
  | [d1, d2, d3] => { results := [.lit (.bool true)], args := [d1, d2, d3] }
  | _ => none }
def fnExactReadWordRow : OpenClaim := { program := "ytndahpbmjjodpaa", sum := "94ba1fe06332a20509ceda64c57012cbbf741b73babee40462c26e2f95907448", func := "loop.example/g00725/laws.FnExactReadWord", spec := "fnExactReadWord", apart := false }
def FnExactReadWordSaid : Prop := fnExactReadWordRow.holds Try.pinned (OpenSpec.ofChange fnExactReadWordSpec)

/-- ITS FALSE NEIGHBOUR: 'it returns false'. Refute it at one input. -/
def fnExactReadWordWrong : ChangeSpec := { name := "fnExactReadWord", fn := fun _ => fun
  | [d1, d2, d3] => { results := [.lit (.bool false)], args := [d1, d2, d3] }
  | _ => none }
def FnExactReadWordWrongFalsely : Prop := fnExactReadWordRow.holds Try.pinned (OpenSpec.ofChange fnExactReadWordWrong)

/-- 'laws.FnExactSameLetters': WHATEVER THE INPUT: true; the input reads as it did. -/
def fnExactSameLettersSpec : ChangeSpec := { name := "fnExactSameLetters", fn := fun _ => fun
  | [d1, d2] => { results := [.lit (.bool true)], args := [d1, d2] }
  | _ => none }
def fnExactSameLettersRow : OpenClaim := { program := "ytndahpbmjjodpaa", sum := "94ba1fe06332a20509ceda64c57012cbbf741b73babee40462c26e2f95907448", func := "loop.example/g00725/laws.FnExactSameLetters", spec := "fnExactSameLetters", apart := false }
def FnExactSameLettersSaid : Prop := fnExactSameLettersRow.holds Try.pinned (OpenSpec.ofChange fnExactSameLettersSpec)

/-- ITS FALSE NEIGHBOUR: 'it returns false'. Refute it at one input. -/
def fnExactSameLettersWrong : ChangeSpec := { name := "fnExactSameLetters", fn := fun _ => fun
  | [d1, d2] => { results := [.lit (.bool false)], args := [d1, d2] }
  | _ => none }
def FnExactSameLettersWrongFalsely : Prop := fnExactSameLettersRow.holds Try.pinned (OpenSpec.ofChange fnExactSameLettersWrong)

/-- 'laws.FnExactLetterFault': WHATEVER THE INPUT: true; the input reads as it did. -/
def fnExactLetterFaultSpec : ChangeSpec := { name := "fnExactLetterFault", fn := fun _ => fun
  | [d] => { results := [.lit (.bool true)], args := [d] }
  | _ => none }
def fnExactLetterFaultRow : OpenClaim := { program := "ytndahpbmjjodpaa", sum := "94ba1fe06332a20509ceda64c57012cbbf741b73babee40462c26e2f95907448", func := "loop.example/g00725/laws.FnExactLetterFault", spec := "fnExactLetterFault", apart := false }
def FnExactLetterFaultSaid : Prop := fnExactLetterFaultRow.holds Try.pinned (OpenSpec.ofChange fnExactLetterFaultSpec)

/-- ITS FALSE NEIGHBOUR: 'it returns false'. Refute it at one input. -/
def fnExactLetterFaultWrong : ChangeSpec := { name := "fnExactLetterFault", fn := fun _ => fun
  | [d] => { results := [.lit (.bool false)], args := [d] }
  | _ => none }
def FnExactLetterFaultWrongFalsely : Prop := fnExactLetterFaultRow.holds Try.pinned (OpenSpec.ofChange fnExactLetterFaultWrong)

/-- 'laws.FnExactTurnRing': WHATEVER THE INPUT: true; the input reads as it did. -/
def fnExactTurnRingSpec : ChangeSpec := { name := "fnExactTurnRing", fn := fun _ => fun
  | [d1, d2, d3] => { results := [.lit (.bool true)], args := [d1, d2, d3] }
  | _ => none }
def fnExactTurnRingRow : OpenClaim := { program := "ytndahpbmjjodpaa", sum := "94ba1fe06332a20509ceda64c57012cbbf741b73babee40462c26e2f95907448", func := "loop.example/g00725/laws.FnExactTurnRing", spec := "fnExactTurnRing", inPlace := ["slices.overlaps[loop.example/g00725/impl.Key]"], unfollowed := true, recurses := true, apart := false }
def FnExactTurnRingSaid : Prop := fnExactTurnRingRow.holds Try.pinned (OpenSpec.ofChange fnExactTurnRingSpec)

/-- ITS FALSE NEIGHBOUR: 'it returns false'. Refute it at one input. -/
def fnExactTurnRingWrong : ChangeSpec := { name := "fnExactTurnRing", fn := fun _ => fun
  | [d1, d2, d3] => { results := [.lit (.bool false)], args := [d1, d2, d3] }
  | _ => none }
def FnExactTurnRingWrongFalsely : Prop := fnExactTurnRingRow.holds Try.pinned (OpenSpec.ofChange fnExactTurnRingWrong)

/-- 'laws.FnFields': WHATEVER THE INPUT: true; the input reads as it did. -/
def fnFieldsSpec : ChangeSpec := { name := "fnFields", fn := fun _ => fun
  | [d] => { results := [.lit (.bool true)], args := [d] }
  | _ => none }
def fnFieldsRow : OpenClaim := { program := "ytndahpbmjjodpaa", sum := "94ba1fe06332a20509ceda64c57012cbbf741b73babee40462c26e2f95907448", func := "loop.example/g00725/laws.FnFields", spec := "fnFields", apart := false }
def FnFieldsSaid : Prop := fnFieldsRow.holds Try.pinned (OpenSpec.ofChange fnFieldsSpec)

/-- ITS FALSE NEIGHBOUR: 'it returns false'. Refute it at one input. -/
def fnFieldsWrong : ChangeSpec := { name := "fnFields", fn := fun _ => fun
  | [d] => { results := [.lit (.bool false)], args := [d] }
  | _ => none }
def FnFieldsWrongFalsely : Prop := fnFieldsRow.holds Try.pinned (OpenSpec.ofChange fnFieldsWrong)

/- THE SECOND FORM. 'bulk': how many values and letters a reading holds, each counted each time it is reached (what is shared counts as often as it is met; a slice's spare places count too). A statement '..UptoSaid' is the law's where the arguments, and the package variables that the reading takes, are together of bulk at most 1048576: NARROWER than '..Said'. Prove '..Said' where nothing that the law and all that it calls make is longer than what came in: it says more and counts as full. Else prove '..UptoSaid'. A law counts once. -/
mutual
def uptoBulk {H : Type} : DataW H → Nat
  | .lit (.string bytes) => bytes.length + 1
  | .lit _ => 1
  | .nil => 1
  | .ptr d => uptoBulk d + 1
  | .slice elems spare => uptoBulkAll elems + uptoBulkAll spare + 1
  | .agg parts => uptoBulkAll parts + 1
  | .iface _ d => uptoBulk d + 1
  | .map entries => uptoBulkEntries entries + 1
  | .held _ => 1
def uptoBulkAll {H : Type} : List (DataW H) → Nat
  | [] => 0
  | d :: r => uptoBulk d + uptoBulkAll r
def uptoBulkEntries {H : Type} : List (Lit × DataW H) → Nat
  | [] => 0
  | x :: r => uptoBulkEntry x + uptoBulkEntries r
def uptoBulkEntry {H : Type} : Lit × DataW H → Nat
  | (.string bytes, d) => bytes.length + uptoBulk d + 1
  | (_, d) => uptoBulk d + 1
 end
def uptoSmall : (H : Type) → List (DataW H) → Bool := fun _ ds => decide (uptoBulkAll ds ≤ 1048576)
def OpenSpec.upto (s : _root_.Go.ChangeSpec) : _root_.Go.OpenSpec := { _root_.Go.OpenSpec.ofChange s with cond := some uptoSmall }

/-- 'laws.FnExactConstants', WHERE WHAT IT READS IS OF BULK AT MOST 1048576: true; the input reads as it did. -/
def fnExactConstantsUptoRow : OpenClaim := { program := "ytndahpbmjjodpaa", sum := "94ba1fe06332a20509ceda64c57012cbbf741b73babee40462c26e2f95907448", func := "loop.example/g00725/laws.FnExactConstants", spec := "fnExactConstants", apart := false, narrowed := true }
def FnExactConstantsUptoSaid : Prop := fnExactConstantsUptoRow.holds Try.pinned (OpenSpec.upto fnExactConstantsSpec)

/-- 'laws.FnExactSubByte', WHERE WHAT IT READS IS OF BULK AT MOST 1048576: true; the input reads as it did. -/
def fnExactSubByteUptoRow : OpenClaim := { program := "ytndahpbmjjodpaa", sum := "94ba1fe06332a20509ceda64c57012cbbf741b73babee40462c26e2f95907448", func := "loop.example/g00725/laws.FnExactSubByte", spec := "fnExactSubByte", apart := false, narrowed := true }
def FnExactSubByteUptoSaid : Prop := fnExactSubByteUptoRow.holds Try.pinned (OpenSpec.upto fnExactSubByteSpec)

/-- 'laws.FnExactSameBytes', WHERE WHAT IT READS IS OF BULK AT MOST 1048576: true; the input reads as it did. -/
def fnExactSameBytesUptoRow : OpenClaim := { program := "ytndahpbmjjodpaa", sum := "94ba1fe06332a20509ceda64c57012cbbf741b73babee40462c26e2f95907448", func := "loop.example/g00725/laws.FnExactSameBytes", spec := "fnExactSameBytes", apart := false, narrowed := true }
def FnExactSameBytesUptoSaid : Prop := fnExactSameBytesUptoRow.holds Try.pinned (OpenSpec.upto fnExactSameBytesSpec)

/-- 'laws.FnExactFieldTimes', WHERE WHAT IT READS IS OF BULK AT MOST 1048576: true; the input reads as it did. -/
def fnExactFieldTimesUptoRow : OpenClaim := { program := "ytndahpbmjjodpaa", sum := "94ba1fe06332a20509ceda64c57012cbbf741b73babee40462c26e2f95907448", func := "loop.example/g00725/laws.FnExactFieldTimes", spec := "fnExactFieldTimes", apart := false, narrowed := true }
def FnExactFieldTimesUptoSaid : Prop := fnExactFieldTimesUptoRow.holds Try.pinned (OpenSpec.upto fnExactFieldTimesSpec)

/-- 'laws.FnExactFieldInverse', WHERE WHAT IT READS IS OF BULK AT MOST 1048576: true; the input reads as it did. -/
def fnExactFieldInverseUptoRow : OpenClaim := { program := "ytndahpbmjjodpaa", sum := "94ba1fe06332a20509ceda64c57012cbbf741b73babee40462c26e2f95907448", func := "loop.example/g00725/laws.FnExactFieldInverse", spec := "fnExactFieldInverse", apart := false, narrowed := true }
def FnExactFieldInverseUptoSaid : Prop := fnExactFieldInverseUptoRow.holds Try.pinned (OpenSpec.upto fnExactFieldInverseSpec)

/-- 'laws.FnTurns', WHERE WHAT IT READS IS OF BULK AT MOST 1048576: true; the input reads as it did. -/
def fnTurnsUptoRow : OpenClaim := { program := "ytndahpbmjjodpaa", sum := "94ba1fe06332a20509ceda64c57012cbbf741b73babee40462c26e2f95907448", func := "loop.example/g00725/laws.FnTurns", spec := "fnTurns", inPlace := ["slices.overlaps[loop.example/g00725/impl.Key]"], unfollowed := true, recurses := true, apart := false, narrowed := true }
def FnTurnsUptoSaid : Prop := fnTurnsUptoRow.holds Try.pinned (OpenSpec.upto fnTurnsSpec)

/-- 'laws.FnExactRoundConstant', WHERE WHAT IT READS IS OF BULK AT MOST 1048576: true; the input reads as it did. -/
def fnExactRoundConstantUptoRow : OpenClaim := { program := "ytndahpbmjjodpaa", sum := "94ba1fe06332a20509ceda64c57012cbbf741b73babee40462c26e2f95907448", func := "loop.example/g00725/laws.FnExactRoundConstant", spec := "fnExactRoundConstant", apart := false, narrowed := true }
def FnExactRoundConstantUptoSaid : Prop := fnExactRoundConstantUptoRow.holds Try.pinned (OpenSpec.upto fnExactRoundConstantSpec)

/-- 'laws.FnExactReadWord', WHERE WHAT IT READS IS OF BULK AT MOST 1048576: true; the input reads as it did. -/
def fnExactReadWordUptoRow : OpenClaim := { program := "ytndahpbmjjodpaa", sum := "94ba1fe06332a20509ceda64c57012cbbf741b73babee40462c26e2f95907448", func := "loop.example/g00725/laws.FnExactReadWord", spec := "fnExactReadWord", apart := false, narrowed := true }
def FnExactReadWordUptoSaid : Prop := fnExactReadWordUptoRow.holds Try.pinned (OpenSpec.upto fnExactReadWordSpec)

/-- 'laws.FnExactSameLetters', WHERE WHAT IT READS IS OF BULK AT MOST 1048576: true; the input reads as it did. -/
def fnExactSameLettersUptoRow : OpenClaim := { program := "ytndahpbmjjodpaa", sum := "94ba1fe06332a20509ceda64c57012cbbf741b73babee40462c26e2f95907448", func := "loop.example/g00725/laws.FnExactSameLetters", spec := "fnExactSameLetters", apart := false, narrowed := true }
def FnExactSameLettersUptoSaid : Prop := fnExactSameLettersUptoRow.holds Try.pinned (OpenSpec.upto fnExactSameLettersSpec)

/-- 'laws.FnExactLetterFault', WHERE WHAT IT READS IS OF BULK AT MOST 1048576: true; the input reads as it did. -/
def fnExactLetterFaultUptoRow : OpenClaim := { program := "ytndahpbmjjodpaa", sum := "94ba1fe06332a20509ceda64c57012cbbf741b73babee40462c26e2f95907448", func := "loop.example/g00725/laws.FnExactLetterFault", spec := "fnExactLetterFault", apart := false, narrowed := true }
def FnExactLetterFaultUptoSaid : Prop := fnExactLetterFaultUptoRow.holds Try.pinned (OpenSpec.upto fnExactLetterFaultSpec)

/-- 'laws.FnExactTurnRing', WHERE WHAT IT READS IS OF BULK AT MOST 1048576: true; the input reads as it did. -/
def fnExactTurnRingUptoRow : OpenClaim := { program := "ytndahpbmjjodpaa", sum := "94ba1fe06332a20509ceda64c57012cbbf741b73babee40462c26e2f95907448", func := "loop.example/g00725/laws.FnExactTurnRing", spec := "fnExactTurnRing", inPlace := ["slices.overlaps[loop.example/g00725/impl.Key]"], unfollowed := true, recurses := true, apart := false, narrowed := true }
def FnExactTurnRingUptoSaid : Prop := fnExactTurnRingUptoRow.holds Try.pinned (OpenSpec.upto fnExactTurnRingSpec)

/-- 'laws.FnFields', WHERE WHAT IT READS IS OF BULK AT MOST 1048576: true; the input reads as it did. -/
def fnFieldsUptoRow : OpenClaim := { program := "ytndahpbmjjodpaa", sum := "94ba1fe06332a20509ceda64c57012cbbf741b73babee40462c26e2f95907448", func := "loop.example/g00725/laws.FnFields", spec := "fnFields", apart := false, narrowed := true }
def FnFieldsUptoSaid : Prop := fnFieldsUptoRow.holds Try.pinned (OpenSpec.upto fnFieldsSpec)

end Rows
end Go.Proofs.Ytndahpbmjjodpaa
