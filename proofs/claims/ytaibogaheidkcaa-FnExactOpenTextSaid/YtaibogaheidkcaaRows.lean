/-
  No cell of these rows narrows 'for every input' (looked for: loops, veiled, ifaces, maps, wideKeys, modest, calm, conditions, laid).
  DERIVED. THE GIVEN ROWS OF THIS SEAT. 16 by the template 'for every input the law returns true; each argument reads behind the call as it read before'; 0 by the template 'total and deterministic' (their statements: YtaibogaheidkcaaTotals.lean).
  GIVEN WITH THE SEED: the statements are not yours to turn. If you find one false, say at which input.
  Laid BY PROGRAM, IN A SANDBOX (cutbox-rows.mjs): the forced cells as the released guide's own fill.sh prints them over the translation 466d71c1c8391e63… (all of the seat's roots in one cut). By AI agents, Wed Nov 11 2026. No macro, syntax, notation, axiom, sorry.
-/
import Derived.Test.YtaibogaheidkcaaChecked
import GoSem.Claim
import GoSem.ClaimJoined
import GoSem.ClaimMapViews
import Derived.JoinedTies
import Derived.KernelRfl
namespace Go.Proofs.Ytaibogaheidkcaa
/- THE CELL 'sum', in the pinned program and in every row, IS THE sha256 OF THE DUMP (.gsa) THAT YtaibogaheidkcaaProg.lean LOADS. Nothing in Lean hashes anything: it is a label: what it is worth is what the hold of that sum in a sandbox is worth. -/
noncomputable def Try.pinned : Pinned := { name := "ytaibogaheidkcaa", sum := "466d71c1c8391e63264b3ed176309b5d7a2eda9d9bddff44c5eca557bfa42458", checked := Try.checked }
namespace Rows
def none {H : Type} : Left H := { results := [], args := [] }

/-- 'laws.FnExactPackWord': WHATEVER THE INPUT: true; the input reads as it did. -/
def fnExactPackWordSpec : ChangeSpec := { name := "fnExactPackWord", fn := fun _ => fun
  | [d1, d2] => { results := [.lit (.bool true)], args := [d1, d2] }
  | _ => none }
def fnExactPackWordRow : OpenClaim := { program := "ytaibogaheidkcaa", sum := "466d71c1c8391e63264b3ed176309b5d7a2eda9d9bddff44c5eca557bfa42458", func := "loop.example/g00725/laws.FnExactPackWord", spec := "fnExactPackWord", apart := false }
def FnExactPackWordSaid : Prop := fnExactPackWordRow.holds Try.pinned (OpenSpec.ofChange fnExactPackWordSpec)

/-- ITS FALSE NEIGHBOUR: 'it returns false'. Refute it at one input. -/
def fnExactPackWordWrong : ChangeSpec := { name := "fnExactPackWord", fn := fun _ => fun
  | [d1, d2] => { results := [.lit (.bool false)], args := [d1, d2] }
  | _ => none }
def FnExactPackWordWrongFalsely : Prop := fnExactPackWordRow.holds Try.pinned (OpenSpec.ofChange fnExactPackWordWrong)

/-- 'laws.FnExactXorBytes': WHATEVER THE INPUT: true; the input reads as it did. -/
def fnExactXorBytesSpec : ChangeSpec := { name := "fnExactXorBytes", fn := fun _ => fun
  | [d1, d2] => { results := [.lit (.bool true)], args := [d1, d2] }
  | _ => none }
def fnExactXorBytesRow : OpenClaim := { program := "ytaibogaheidkcaa", sum := "466d71c1c8391e63264b3ed176309b5d7a2eda9d9bddff44c5eca557bfa42458", func := "loop.example/g00725/laws.FnExactXorBytes", spec := "fnExactXorBytes", apart := false }
def FnExactXorBytesSaid : Prop := fnExactXorBytesRow.holds Try.pinned (OpenSpec.ofChange fnExactXorBytesSpec)

/-- ITS FALSE NEIGHBOUR: 'it returns false'. Refute it at one input. -/
def fnExactXorBytesWrong : ChangeSpec := { name := "fnExactXorBytes", fn := fun _ => fun
  | [d1, d2] => { results := [.lit (.bool false)], args := [d1, d2] }
  | _ => none }
def FnExactXorBytesWrongFalsely : Prop := fnExactXorBytesRow.holds Try.pinned (OpenSpec.ofChange fnExactXorBytesWrong)

/-- 'laws.FnExactSubBytes': WHATEVER THE INPUT: true; the input reads as it did. -/
def fnExactSubBytesSpec : ChangeSpec := { name := "fnExactSubBytes", fn := fun _ => fun
  | [d] => { results := [.lit (.bool true)], args := [d] }
  | _ => none }
def fnExactSubBytesRow : OpenClaim := { program := "ytaibogaheidkcaa", sum := "466d71c1c8391e63264b3ed176309b5d7a2eda9d9bddff44c5eca557bfa42458", func := "loop.example/g00725/laws.FnExactSubBytes", spec := "fnExactSubBytes", unfollowed := true, recurses := true, apart := false }
def FnExactSubBytesSaid : Prop := fnExactSubBytesRow.holds Try.pinned (OpenSpec.ofChange fnExactSubBytesSpec)

/-- ITS FALSE NEIGHBOUR: 'it returns false'. Refute it at one input. -/
def fnExactSubBytesWrong : ChangeSpec := { name := "fnExactSubBytes", fn := fun _ => fun
  | [d] => { results := [.lit (.bool false)], args := [d] }
  | _ => none }
def FnExactSubBytesWrongFalsely : Prop := fnExactSubBytesRow.holds Try.pinned (OpenSpec.ofChange fnExactSubBytesWrong)

/-- 'laws.FnExactShiftRows': WHATEVER THE INPUT: true; the input reads as it did. -/
def fnExactShiftRowsSpec : ChangeSpec := { name := "fnExactShiftRows", fn := fun _ => fun
  | [d] => { results := [.lit (.bool true)], args := [d] }
  | _ => none }
def fnExactShiftRowsRow : OpenClaim := { program := "ytaibogaheidkcaa", sum := "466d71c1c8391e63264b3ed176309b5d7a2eda9d9bddff44c5eca557bfa42458", func := "loop.example/g00725/laws.FnExactShiftRows", spec := "fnExactShiftRows", unfollowed := true, recurses := true, apart := false }
def FnExactShiftRowsSaid : Prop := fnExactShiftRowsRow.holds Try.pinned (OpenSpec.ofChange fnExactShiftRowsSpec)

/-- ITS FALSE NEIGHBOUR: 'it returns false'. Refute it at one input. -/
def fnExactShiftRowsWrong : ChangeSpec := { name := "fnExactShiftRows", fn := fun _ => fun
  | [d] => { results := [.lit (.bool false)], args := [d] }
  | _ => none }
def FnExactShiftRowsWrongFalsely : Prop := fnExactShiftRowsRow.holds Try.pinned (OpenSpec.ofChange fnExactShiftRowsWrong)

/-- 'laws.FnExactCountUp': WHATEVER THE INPUT: true; the input reads as it did. -/
def fnExactCountUpSpec : ChangeSpec := { name := "fnExactCountUp", fn := fun _ => fun
  | [d] => { results := [.lit (.bool true)], args := [d] }
  | _ => none }
def fnExactCountUpRow : OpenClaim := { program := "ytaibogaheidkcaa", sum := "466d71c1c8391e63264b3ed176309b5d7a2eda9d9bddff44c5eca557bfa42458", func := "loop.example/g00725/laws.FnExactCountUp", spec := "fnExactCountUp", unfollowed := true, recurses := true, apart := false }
def FnExactCountUpSaid : Prop := fnExactCountUpRow.holds Try.pinned (OpenSpec.ofChange fnExactCountUpSpec)

/-- ITS FALSE NEIGHBOUR: 'it returns false'. Refute it at one input. -/
def fnExactCountUpWrong : ChangeSpec := { name := "fnExactCountUp", fn := fun _ => fun
  | [d] => { results := [.lit (.bool false)], args := [d] }
  | _ => none }
def FnExactCountUpWrongFalsely : Prop := fnExactCountUpRow.holds Try.pinned (OpenSpec.ofChange fnExactCountUpWrong)

/-- 'laws.FnExactMixColumns': WHATEVER THE INPUT: true; the input reads as it did. -/
def fnExactMixColumnsSpec : ChangeSpec := { name := "fnExactMixColumns", fn := fun _ => fun
  | [d] => { results := [.lit (.bool true)], args := [d] }
  | _ => none }
def fnExactMixColumnsRow : OpenClaim := { program := "ytaibogaheidkcaa", sum := "466d71c1c8391e63264b3ed176309b5d7a2eda9d9bddff44c5eca557bfa42458", func := "loop.example/g00725/laws.FnExactMixColumns", spec := "fnExactMixColumns", unfollowed := true, recurses := true, apart := false }
def FnExactMixColumnsSaid : Prop := fnExactMixColumnsRow.holds Try.pinned (OpenSpec.ofChange fnExactMixColumnsSpec)

/-- ITS FALSE NEIGHBOUR: 'it returns false'. Refute it at one input. -/
def fnExactMixColumnsWrong : ChangeSpec := { name := "fnExactMixColumns", fn := fun _ => fun
  | [d] => { results := [.lit (.bool false)], args := [d] }
  | _ => none }
def FnExactMixColumnsWrongFalsely : Prop := fnExactMixColumnsRow.holds Try.pinned (OpenSpec.ofChange fnExactMixColumnsWrong)

/-- 'laws.FnExactGroupTimes': WHATEVER THE INPUT: true; the input reads as it did. -/
def fnExactGroupTimesSpec : ChangeSpec := { name := "fnExactGroupTimes", fn := fun _ => fun
  | [d1, d2] => { results := [.lit (.bool true)], args := [d1, d2] }
  | _ => none }
def fnExactGroupTimesRow : OpenClaim := { program := "ytaibogaheidkcaa", sum := "466d71c1c8391e63264b3ed176309b5d7a2eda9d9bddff44c5eca557bfa42458", func := "loop.example/g00725/laws.FnExactGroupTimes", spec := "fnExactGroupTimes", apart := false }
def FnExactGroupTimesSaid : Prop := fnExactGroupTimesRow.holds Try.pinned (OpenSpec.ofChange fnExactGroupTimesSpec)

/-- ITS FALSE NEIGHBOUR: 'it returns false'. Refute it at one input. -/
def fnExactGroupTimesWrong : ChangeSpec := { name := "fnExactGroupTimes", fn := fun _ => fun
  | [d1, d2] => { results := [.lit (.bool false)], args := [d1, d2] }
  | _ => none }
def FnExactGroupTimesWrongFalsely : Prop := fnExactGroupTimesRow.holds Try.pinned (OpenSpec.ofChange fnExactGroupTimesWrong)

/-- 'laws.FnExactKeyWords': WHATEVER THE INPUT: true; the input reads as it did. -/
def fnExactKeyWordsSpec : ChangeSpec := { name := "fnExactKeyWords", fn := fun _ => fun
  | [d] => { results := [.lit (.bool true)], args := [d] }
  | _ => none }
def fnExactKeyWordsRow : OpenClaim := { program := "ytaibogaheidkcaa", sum := "466d71c1c8391e63264b3ed176309b5d7a2eda9d9bddff44c5eca557bfa42458", func := "loop.example/g00725/laws.FnExactKeyWords", spec := "fnExactKeyWords", apart := false }
def FnExactKeyWordsSaid : Prop := fnExactKeyWordsRow.holds Try.pinned (OpenSpec.ofChange fnExactKeyWordsSpec)

/-- ITS FALSE NEIGHBOUR: 'it returns false'. Refute it at one input. -/
def fnExactKeyWordsWrong : ChangeSpec := { name := "fnExactKeyWords", fn := fun _ => fun
  | [d] => { results := [.lit (.bool false)], args := [d] }
  | _ => none }
def FnExactKeyWordsWrongFalsely : Prop := fnExactKeyWordsRow.holds Try.pinned (OpenSpec.ofChange fnExactKeyWordsWrong)

/-- 'laws.FnExactHashAll': WHATEVER THE INPUT: true; the input reads as it did. -/
def fnExactHashAllSpec : ChangeSpec := { name := "fnExactHashAll", fn := fun _ => fun
  | [d1, d2] => { results := [.lit (.bool true)], args := [d1, d2] }
  | _ => none }
def fnExactHashAllRow : OpenClaim := { program := "ytaibogaheidkcaa", sum := "466d71c1c8391e63264b3ed176309b5d7a2eda9d9bddff44c5eca557bfa42458", func := "loop.example/g00725/laws.FnExactHashAll", spec := "fnExactHashAll", apart := false }
def FnExactHashAllSaid : Prop := fnExactHashAllRow.holds Try.pinned (OpenSpec.ofChange fnExactHashAllSpec)

/-- ITS FALSE NEIGHBOUR: 'it returns false'. Refute it at one input. -/
def fnExactHashAllWrong : ChangeSpec := { name := "fnExactHashAll", fn := fun _ => fun
  | [d1, d2] => { results := [.lit (.bool false)], args := [d1, d2] }
  | _ => none }
def FnExactHashAllWrongFalsely : Prop := fnExactHashAllRow.holds Try.pinned (OpenSpec.ofChange fnExactHashAllWrong)

/-- 'laws.FnExactEncryptBlock': WHATEVER THE INPUT: true; the input reads as it did. -/
def fnExactEncryptBlockSpec : ChangeSpec := { name := "fnExactEncryptBlock", fn := fun _ => fun
  | [d1, d2] => { results := [.lit (.bool true)], args := [d1, d2] }
  | _ => none }
def fnExactEncryptBlockRow : OpenClaim := { program := "ytaibogaheidkcaa", sum := "466d71c1c8391e63264b3ed176309b5d7a2eda9d9bddff44c5eca557bfa42458", func := "loop.example/g00725/laws.FnExactEncryptBlock", spec := "fnExactEncryptBlock", apart := false }
def FnExactEncryptBlockSaid : Prop := fnExactEncryptBlockRow.holds Try.pinned (OpenSpec.ofChange fnExactEncryptBlockSpec)

/-- ITS FALSE NEIGHBOUR: 'it returns false'. Refute it at one input. -/
def fnExactEncryptBlockWrong : ChangeSpec := { name := "fnExactEncryptBlock", fn := fun _ => fun
  | [d1, d2] => { results := [.lit (.bool false)], args := [d1, d2] }
  | _ => none }
def FnExactEncryptBlockWrongFalsely : Prop := fnExactEncryptBlockRow.holds Try.pinned (OpenSpec.ofChange fnExactEncryptBlockWrong)

/-- 'laws.FnExactStreamXor': WHATEVER THE INPUT: true; the input reads as it did. -/
def fnExactStreamXorSpec : ChangeSpec := { name := "fnExactStreamXor", fn := fun _ => fun
  | [d1, d2, d3] => { results := [.lit (.bool true)], args := [d1, d2, d3] }
  | _ => none }
def fnExactStreamXorRow : OpenClaim := { program := "ytaibogaheidkcaa", sum := "466d71c1c8391e63264b3ed176309b5d7a2eda9d9bddff44c5eca557bfa42458", func := "loop.example/g00725/laws.FnExactStreamXor", spec := "fnExactStreamXor", apart := false }
def FnExactStreamXorSaid : Prop := fnExactStreamXorRow.holds Try.pinned (OpenSpec.ofChange fnExactStreamXorSpec)

/-- ITS FALSE NEIGHBOUR: 'it returns false'. Refute it at one input. -/
def fnExactStreamXorWrong : ChangeSpec := { name := "fnExactStreamXor", fn := fun _ => fun
  | [d1, d2, d3] => { results := [.lit (.bool false)], args := [d1, d2, d3] }
  | _ => none }
def FnExactStreamXorWrongFalsely : Prop := fnExactStreamXorRow.holds Try.pinned (OpenSpec.ofChange fnExactStreamXorWrong)

/-- 'laws.FnExactSealText': WHATEVER THE INPUT: true; the input reads as it did. -/
def fnExactSealTextSpec : ChangeSpec := { name := "fnExactSealText", fn := fun _ => fun
  | [d1, d2, d3, d4] => { results := [.lit (.bool true)], args := [d1, d2, d3, d4] }
  | _ => none }
def fnExactSealTextRow : OpenClaim := { program := "ytaibogaheidkcaa", sum := "466d71c1c8391e63264b3ed176309b5d7a2eda9d9bddff44c5eca557bfa42458", func := "loop.example/g00725/laws.FnExactSealText", spec := "fnExactSealText", apart := false }
def FnExactSealTextSaid : Prop := fnExactSealTextRow.holds Try.pinned (OpenSpec.ofChange fnExactSealTextSpec)

/-- ITS FALSE NEIGHBOUR: 'it returns false'. Refute it at one input. -/
def fnExactSealTextWrong : ChangeSpec := { name := "fnExactSealText", fn := fun _ => fun
  | [d1, d2, d3, d4] => { results := [.lit (.bool false)], args := [d1, d2, d3, d4] }
  | _ => none }
def FnExactSealTextWrongFalsely : Prop := fnExactSealTextRow.holds Try.pinned (OpenSpec.ofChange fnExactSealTextWrong)

/-- 'laws.FnExactOpenText': WHATEVER THE INPUT: true; the input reads as it did. -/
def fnExactOpenTextSpec : ChangeSpec := { name := "fnExactOpenText", fn := fun _ => fun
  | [d1, d2, d3, d4] => { results := [.lit (.bool true)], args := [d1, d2, d3, d4] }
  | _ => none }
def fnExactOpenTextRow : OpenClaim := { program := "ytaibogaheidkcaa", sum := "466d71c1c8391e63264b3ed176309b5d7a2eda9d9bddff44c5eca557bfa42458", func := "loop.example/g00725/laws.FnExactOpenText", spec := "fnExactOpenText", apart := false }
def FnExactOpenTextSaid : Prop := fnExactOpenTextRow.holds Try.pinned (OpenSpec.ofChange fnExactOpenTextSpec)

/-- ITS FALSE NEIGHBOUR: 'it returns false'. Refute it at one input. -/
def fnExactOpenTextWrong : ChangeSpec := { name := "fnExactOpenText", fn := fun _ => fun
  | [d1, d2, d3, d4] => { results := [.lit (.bool false)], args := [d1, d2, d3, d4] }
  | _ => none }
def FnExactOpenTextWrongFalsely : Prop := fnExactOpenTextRow.holds Try.pinned (OpenSpec.ofChange fnExactOpenTextWrong)

/-- 'laws.FnExactNonceOf': WHATEVER THE INPUT: true; the input reads as it did. -/
def fnExactNonceOfSpec : ChangeSpec := { name := "fnExactNonceOf", fn := fun _ => fun
  | [d1, d2] => { results := [.lit (.bool true)], args := [d1, d2] }
  | _ => none }
def fnExactNonceOfRow : OpenClaim := { program := "ytaibogaheidkcaa", sum := "466d71c1c8391e63264b3ed176309b5d7a2eda9d9bddff44c5eca557bfa42458", func := "loop.example/g00725/laws.FnExactNonceOf", spec := "fnExactNonceOf", apart := false }
def FnExactNonceOfSaid : Prop := fnExactNonceOfRow.holds Try.pinned (OpenSpec.ofChange fnExactNonceOfSpec)

/-- ITS FALSE NEIGHBOUR: 'it returns false'. Refute it at one input. -/
def fnExactNonceOfWrong : ChangeSpec := { name := "fnExactNonceOf", fn := fun _ => fun
  | [d1, d2] => { results := [.lit (.bool false)], args := [d1, d2] }
  | _ => none }
def FnExactNonceOfWrongFalsely : Prop := fnExactNonceOfRow.holds Try.pinned (OpenSpec.ofChange fnExactNonceOfWrong)

/-- 'laws.FnExactHeadOf': WHATEVER THE INPUT: true; the input reads as it did. -/
def fnExactHeadOfSpec : ChangeSpec := { name := "fnExactHeadOf", fn := fun _ => fun
  | [d1, d2, d3] => { results := [.lit (.bool true)], args := [d1, d2, d3] }
  | _ => none }
def fnExactHeadOfRow : OpenClaim := { program := "ytaibogaheidkcaa", sum := "466d71c1c8391e63264b3ed176309b5d7a2eda9d9bddff44c5eca557bfa42458", func := "loop.example/g00725/laws.FnExactHeadOf", spec := "fnExactHeadOf", apart := false }
def FnExactHeadOfSaid : Prop := fnExactHeadOfRow.holds Try.pinned (OpenSpec.ofChange fnExactHeadOfSpec)

/-- ITS FALSE NEIGHBOUR: 'it returns false'. Refute it at one input. -/
def fnExactHeadOfWrong : ChangeSpec := { name := "fnExactHeadOf", fn := fun _ => fun
  | [d1, d2, d3] => { results := [.lit (.bool false)], args := [d1, d2, d3] }
  | _ => none }
def FnExactHeadOfWrongFalsely : Prop := fnExactHeadOfRow.holds Try.pinned (OpenSpec.ofChange fnExactHeadOfWrong)

/-- 'laws.FnExactReadHead': WHATEVER THE INPUT: true; the input reads as it did. -/
def fnExactReadHeadSpec : ChangeSpec := { name := "fnExactReadHead", fn := fun _ => fun
  | [d] => { results := [.lit (.bool true)], args := [d] }
  | _ => none }
def fnExactReadHeadRow : OpenClaim := { program := "ytaibogaheidkcaa", sum := "466d71c1c8391e63264b3ed176309b5d7a2eda9d9bddff44c5eca557bfa42458", func := "loop.example/g00725/laws.FnExactReadHead", spec := "fnExactReadHead", apart := false }
def FnExactReadHeadSaid : Prop := fnExactReadHeadRow.holds Try.pinned (OpenSpec.ofChange fnExactReadHeadSpec)

/-- ITS FALSE NEIGHBOUR: 'it returns false'. Refute it at one input. -/
def fnExactReadHeadWrong : ChangeSpec := { name := "fnExactReadHead", fn := fun _ => fun
  | [d] => { results := [.lit (.bool false)], args := [d] }
  | _ => none }
def FnExactReadHeadWrongFalsely : Prop := fnExactReadHeadRow.holds Try.pinned (OpenSpec.ofChange fnExactReadHeadWrong)

/- THE SECOND FORM. 'bulk': how many values and letters a reading holds, each counted each time it is reached (what is shared counts as often as it is met; a slice's spare places count too). A statement '..UptoSaid' is the law's where the arguments, and the package variables that the reading takes, are together of bulk at most 1048576: NARROWER than '..Said'. Prove '..Said' where nothing that the law and all that it calls make is longer than what came in: it says more and counts as full. Else prove '..UptoSaid'. A law counts once. -/
mutual
def uptoBulk {H : Type} : DataW H → Nat
  | .lit (.string bytes) => bytes.length + 1
  | .lit _ => 1
  | .nil => 1
  | .ptr d => uptoBulk d + 1
  | .slice elems spare => uptoBulkAll elems + uptoBulkAll spare + 1
  | .agg parts => uptoBulkAll parts + 1
  | .iface _ d => uptoBulk d + 1
  | .map entries => uptoBulkEntries entries + 1
  | .held _ => 1
def uptoBulkAll {H : Type} : List (DataW H) → Nat
  | [] => 0
  | d :: r => uptoBulk d + uptoBulkAll r
def uptoBulkEntries {H : Type} : List (Lit × DataW H) → Nat
  | [] => 0
  | x :: r => uptoBulkEntry x + uptoBulkEntries r
def uptoBulkEntry {H : Type} : Lit × DataW H → Nat
  | (.string bytes, d) => bytes.length + uptoBulk d + 1
  | (_, d) => uptoBulk d + 1
 end
def uptoSmall : (H : Type) → List (DataW H) → Bool := fun _ ds => decide (uptoBulkAll ds ≤ 1048576)
def OpenSpec.upto (s : _root_.Go.ChangeSpec) : _root_.Go.OpenSpec := { _root_.Go.OpenSpec.ofChange s with cond := some uptoSmall }

/-- 'laws.FnExactPackWord', WHERE WHAT IT READS IS OF BULK AT MOST 1048576: true; the input reads as it did. -/
def fnExactPackWordUptoRow : OpenClaim := { program := "ytaibogaheidkcaa", sum := "466d71c1c8391e63264b3ed176309b5d7a2eda9d9bddff44c5eca557bfa42458", func := "loop.example/g00725/laws.FnExactPackWord", spec := "fnExactPackWord", apart := false, narrowed := true }
def FnExactPackWordUptoSaid : Prop := fnExactPackWordUptoRow.holds Try.pinned (OpenSpec.upto fnExactPackWordSpec)

/-- 'laws.FnExactXorBytes', WHERE WHAT IT READS IS OF BULK AT MOST 1048576: true; the input reads as it did. -/
def fnExactXorBytesUptoRow : OpenClaim := { program := "ytaibogaheidkcaa", sum := "466d71c1c8391e63264b3ed176309b5d7a2eda9d9bddff44c5eca557bfa42458", func := "loop.example/g00725/laws.FnExactXorBytes", spec := "fnExactXorBytes", apart := false, narrowed := true }
def FnExactXorBytesUptoSaid : Prop := fnExactXorBytesUptoRow.holds Try.pinned (OpenSpec.upto fnExactXorBytesSpec)

/-- 'laws.FnExactSubBytes', WHERE WHAT IT READS IS OF BULK AT MOST 1048576: true; the input reads as it did. -/
def fnExactSubBytesUptoRow : OpenClaim := { program := "ytaibogaheidkcaa", sum := "466d71c1c8391e63264b3ed176309b5d7a2eda9d9bddff44c5eca557bfa42458", func := "loop.example/g00725/laws.FnExactSubBytes", spec := "fnExactSubBytes", unfollowed := true, recurses := true, apart := false, narrowed := true }
def FnExactSubBytesUptoSaid : Prop := fnExactSubBytesUptoRow.holds Try.pinned (OpenSpec.upto fnExactSubBytesSpec)

/-- 'laws.FnExactShiftRows', WHERE WHAT IT READS IS OF BULK AT MOST 1048576: true; the input reads as it did. -/
def fnExactShiftRowsUptoRow : OpenClaim := { program := "ytaibogaheidkcaa", sum := "466d71c1c8391e63264b3ed176309b5d7a2eda9d9bddff44c5eca557bfa42458", func := "loop.example/g00725/laws.FnExactShiftRows", spec := "fnExactShiftRows", unfollowed := true, recurses := true, apart := false, narrowed := true }
def FnExactShiftRowsUptoSaid : Prop := fnExactShiftRowsUptoRow.holds Try.pinned (OpenSpec.upto fnExactShiftRowsSpec)

/-- 'laws.FnExactCountUp', WHERE WHAT IT READS IS OF BULK AT MOST 1048576: true; the input reads as it did. -/
def fnExactCountUpUptoRow : OpenClaim := { program := "ytaibogaheidkcaa", sum := "466d71c1c8391e63264b3ed176309b5d7a2eda9d9bddff44c5eca557bfa42458", func := "loop.example/g00725/laws.FnExactCountUp", spec := "fnExactCountUp", unfollowed := true, recurses := true, apart := false, narrowed := true }
def FnExactCountUpUptoSaid : Prop := fnExactCountUpUptoRow.holds Try.pinned (OpenSpec.upto fnExactCountUpSpec)

/-- 'laws.FnExactMixColumns', WHERE WHAT IT READS IS OF BULK AT MOST 1048576: true; the input reads as it did. -/
def fnExactMixColumnsUptoRow : OpenClaim := { program := "ytaibogaheidkcaa", sum := "466d71c1c8391e63264b3ed176309b5d7a2eda9d9bddff44c5eca557bfa42458", func := "loop.example/g00725/laws.FnExactMixColumns", spec := "fnExactMixColumns", unfollowed := true, recurses := true, apart := false, narrowed := true }
def FnExactMixColumnsUptoSaid : Prop := fnExactMixColumnsUptoRow.holds Try.pinned (OpenSpec.upto fnExactMixColumnsSpec)

/-- 'laws.FnExactGroupTimes', WHERE WHAT IT READS IS OF BULK AT MOST 1048576: true; the input reads as it did. -/
def fnExactGroupTimesUptoRow : OpenClaim := { program := "ytaibogaheidkcaa", sum := "466d71c1c8391e63264b3ed176309b5d7a2eda9d9bddff44c5eca557bfa42458", func := "loop.example/g00725/laws.FnExactGroupTimes", spec := "fnExactGroupTimes", apart := false, narrowed := true }
def FnExactGroupTimesUptoSaid : Prop := fnExactGroupTimesUptoRow.holds Try.pinned (OpenSpec.upto fnExactGroupTimesSpec)

/-- 'laws.FnExactKeyWords', WHERE WHAT IT READS IS OF BULK AT MOST 1048576: true; the input reads as it did. -/
def fnExactKeyWordsUptoRow : OpenClaim := { program := "ytaibogaheidkcaa", sum := "466d71c1c8391e63264b3ed176309b5d7a2eda9d9bddff44c5eca557bfa42458", func := "loop.example/g00725/laws.FnExactKeyWords", spec := "fnExactKeyWords", apart := false, narrowed := true }
def FnExactKeyWordsUptoSaid : Prop := fnExactKeyWordsUptoRow.holds Try.pinned (OpenSpec.upto fnExactKeyWordsSpec)

/-- 'laws.FnExactHashAll', WHERE WHAT IT READS IS OF BULK AT MOST 1048576: true; the input reads as it did. -/
def fnExactHashAllUptoRow : OpenClaim := { program := "ytaibogaheidkcaa", sum := "466d71c1c8391e63264b3ed176309b5d7a2eda9d9bddff44c5eca557bfa42458", func := "loop.example/g00725/laws.FnExactHashAll", spec := "fnExactHashAll", apart := false, narrowed := true }
def FnExactHashAllUptoSaid : Prop := fnExactHashAllUptoRow.holds Try.pinned (OpenSpec.upto fnExactHashAllSpec)

/-- 'laws.FnExactEncryptBlock', WHERE WHAT IT READS IS OF BULK AT MOST 1048576: true; the input reads as it did. -/
def fnExactEncryptBlockUptoRow : OpenClaim := { program := "ytaibogaheidkcaa", sum := "466d71c1c8391e63264b3ed176309b5d7a2eda9d9bddff44c5eca557bfa42458", func := "loop.example/g00725/laws.FnExactEncryptBlock", spec := "fnExactEncryptBlock", apart := false, narrowed := true }
def FnExactEncryptBlockUptoSaid : Prop := fnExactEncryptBlockUptoRow.holds Try.pinned (OpenSpec.upto fnExactEncryptBlockSpec)

/-- 'laws.FnExactStreamXor', WHERE WHAT IT READS IS OF BULK AT MOST 1048576: true; the input reads as it did. -/
def fnExactStreamXorUptoRow : OpenClaim := { program := "ytaibogaheidkcaa", sum := "466d71c1c8391e63264b3ed176309b5d7a2eda9d9bddff44c5eca557bfa42458", func := "loop.example/g00725/laws.FnExactStreamXor", spec := "fnExactStreamXor", apart := false, narrowed := true }
def FnExactStreamXorUptoSaid : Prop := fnExactStreamXorUptoRow.holds Try.pinned (OpenSpec.upto fnExactStreamXorSpec)

/-- 'laws.FnExactSealText', WHERE WHAT IT READS IS OF BULK AT MOST 1048576: true; the input reads as it did. -/
def fnExactSealTextUptoRow : OpenClaim := { program := "ytaibogaheidkcaa", sum := "466d71c1c8391e63264b3ed176309b5d7a2eda9d9bddff44c5eca557bfa42458", func := "loop.example/g00725/laws.FnExactSealText", spec := "fnExactSealText", apart := false, narrowed := true }
def FnExactSealTextUptoSaid : Prop := fnExactSealTextUptoRow.holds Try.pinned (OpenSpec.upto fnExactSealTextSpec)

/-- 'laws.FnExactOpenText', WHERE WHAT IT READS IS OF BULK AT MOST 1048576: true; the input reads as it did. -/
def fnExactOpenTextUptoRow : OpenClaim := { program := "ytaibogaheidkcaa", sum := "466d71c1c8391e63264b3ed176309b5d7a2eda9d9bddff44c5eca557bfa42458", func := "loop.example/g00725/laws.FnExactOpenText", spec := "fnExactOpenText", apart := false, narrowed := true }
def FnExactOpenTextUptoSaid : Prop := fnExactOpenTextUptoRow.holds Try.pinned (OpenSpec.upto fnExactOpenTextSpec)

/-- 'laws.FnExactNonceOf', WHERE WHAT IT READS IS OF BULK AT MOST 1048576: true; the input reads as it did. -/
def fnExactNonceOfUptoRow : OpenClaim := { program := "ytaibogaheidkcaa", sum := "466d71c1c8391e63264b3ed176309b5d7a2eda9d9bddff44c5eca557bfa42458", func := "loop.example/g00725/laws.FnExactNonceOf", spec := "fnExactNonceOf", apart := false, narrowed := true }
def FnExactNonceOfUptoSaid : Prop := fnExactNonceOfUptoRow.holds Try.pinned (OpenSpec.upto fnExactNonceOfSpec)

/-- 'laws.FnExactHeadOf', WHERE WHAT IT READS IS OF BULK AT MOST 1048576: true; the input reads as it did. -/
def fnExactHeadOfUptoRow : OpenClaim := { program := "ytaibogaheidkcaa", sum := "466d71c1c8391e63264b3ed176309b5d7a2eda9d9bddff44c5eca557bfa42458", func := "loop.example/g00725/laws.FnExactHeadOf", spec := "fnExactHeadOf", apart := false, narrowed := true }
def FnExactHeadOfUptoSaid : Prop := fnExactHeadOfUptoRow.holds Try.pinned (OpenSpec.upto fnExactHeadOfSpec)

/-- 'laws.FnExactReadHead', WHERE WHAT IT READS IS OF BULK AT MOST 1048576: true; the input reads as it did. -/
def fnExactReadHeadUptoRow : OpenClaim := { program := "ytaibogaheidkcaa", sum := "466d71c1c8391e63264b3ed176309b5d7a2eda9d9bddff44c5eca557bfa42458", func := "loop.example/g00725/laws.FnExactReadHead", spec := "fnExactReadHead", apart := false, narrowed := true }
def FnExactReadHeadUptoSaid : Prop := fnExactReadHeadUptoRow.holds Try.pinned (OpenSpec.upto fnExactReadHeadSpec)

end Rows
end Go.Proofs.Ytaibogaheidkcaa
