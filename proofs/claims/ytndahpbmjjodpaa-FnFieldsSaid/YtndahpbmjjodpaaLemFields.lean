import Derived.Test.YtndahpbmjjodpaaAllx0
set_option linter.unusedVariables false
set_option linter.unusedSimpArgs false
namespace Go.Proofs.Ytndahpbmjjodpaa.All
open Go.RowKit Go.Proofs.Ytndahpbmjjodpaa.All Go.Proofs.YtndahpbmjjodpaaW.PrintWords Go.Proofs.YtndahpbmjjodpaaW.PrintLast Go.Proofs.YtndahpbmjjodpaaW.PrintMore
/-! ### the box, as the inverse's bits turned and added -/
def boxOf (s : BitVec 8) : BitVec 8 :=
  99#8 ^^^ s ^^^ ((s <<< 1) ||| (s >>> 7)) ^^^ ((s <<< 2) ||| (s >>> 6)) ^^^ ((s <<< 3) ||| (s >>> 5)) ^^^ ((s <<< 4) ||| (s >>> 4))
theorem box_inv (a : BitVec 8) : SB a = boxOf (finv a) := by
  have h := of_all8 (p := fun a => SB a == boxOf (finv a)) (by decide +kernel) a
  simpa using h
theorem rot1 (s : BitVec 8) : Go.bits .or .u8 (shl .u8 (bI s) 1) (shr .u8 (bI s) (IntKind.u64.wrap (8 - 1))) = bI ((s <<< 1) ||| (s >>> 7)) := by
  have h1 : shl .u8 (bI s) 1 = bI (s <<< 1) := by
    have h := of_all8 (p := fun s => decide (shl .u8 (bI s) 1 = bI (s <<< 1))) (by decide +kernel) s
    simpa using h
  have h2 : shr .u8 (bI s) (IntKind.u64.wrap (8 - 1)) = bI (s >>> 7) := by
    have h := of_all8 (p := fun s => decide (shr .u8 (bI s) (IntKind.u64.wrap (8 - 1)) = bI (s >>> 7))) (by decide +kernel) s
    simpa using h
  rw [h1, h2, bI_or]
theorem rot2 (s : BitVec 8) : Go.bits .or .u8 (shl .u8 (bI s) 2) (shr .u8 (bI s) (IntKind.u64.wrap (8 - 2))) = bI ((s <<< 2) ||| (s >>> 6)) := by
  have h1 : shl .u8 (bI s) 2 = bI (s <<< 2) := by
    have h := of_all8 (p := fun s => decide (shl .u8 (bI s) 2 = bI (s <<< 2))) (by decide +kernel) s
    simpa using h
  have h2 : shr .u8 (bI s) (IntKind.u64.wrap (8 - 2)) = bI (s >>> 6) := by
    have h := of_all8 (p := fun s => decide (shr .u8 (bI s) (IntKind.u64.wrap (8 - 2)) = bI (s >>> 6))) (by decide +kernel) s
    simpa using h
  rw [h1, h2, bI_or]
theorem rot3 (s : BitVec 8) : Go.bits .or .u8 (shl .u8 (bI s) 3) (shr .u8 (bI s) (IntKind.u64.wrap (8 - 3))) = bI ((s <<< 3) ||| (s >>> 5)) := by
  have h1 : shl .u8 (bI s) 3 = bI (s <<< 3) := by
    have h := of_all8 (p := fun s => decide (shl .u8 (bI s) 3 = bI (s <<< 3))) (by decide +kernel) s
    simpa using h
  have h2 : shr .u8 (bI s) (IntKind.u64.wrap (8 - 3)) = bI (s >>> 5) := by
    have h := of_all8 (p := fun s => decide (shr .u8 (bI s) (IntKind.u64.wrap (8 - 3)) = bI (s >>> 5))) (by decide +kernel) s
    simpa using h
  rw [h1, h2, bI_or]
theorem rot4 (s : BitVec 8) : Go.bits .or .u8 (shl .u8 (bI s) 4) (shr .u8 (bI s) (IntKind.u64.wrap (8 - 4))) = bI ((s <<< 4) ||| (s >>> 4)) := by
  have h1 : shl .u8 (bI s) 4 = bI (s <<< 4) := by
    have h := of_all8 (p := fun s => decide (shl .u8 (bI s) 4 = bI (s <<< 4))) (by decide +kernel) s
    simpa using h
  have h2 : shr .u8 (bI s) (IntKind.u64.wrap (8 - 4)) = bI (s >>> 4) := by
    have h := of_all8 (p := fun s => decide (shr .u8 (bI s) (IntKind.u64.wrap (8 - 4)) = bI (s >>> 4))) (by decide +kernel) s
    simpa using h
  rw [h1, h2, bI_or]
theorem mod_bI (v : Int) : ∃ b : BitVec 8, v % 256 = bI b := ⟨BitVec.ofNat 8 (v % 256).toNat, by rw [bI_ofNat _ (by omega)]; omega⟩

end Go.Proofs.Ytndahpbmjjodpaa.All
