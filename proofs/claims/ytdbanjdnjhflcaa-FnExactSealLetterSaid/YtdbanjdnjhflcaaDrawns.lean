-- Laid by wip/shake.py of this repo out of this claim's texts. Not trusted: Lean checks it.
import Derived.Test.YtdbanjdnjhflcaaAlgs
import Derived.Deep.RegionHeld3
import Derived.Deep.MidRow
set_option linter.unusedVariables false
namespace Go.Proofs.Ytdbanjdnjhflcaa
open Go.RowKit Go.Proofs.YtdbanjdnjhflcaaW.PrintWords Go.Proofs.YtdbanjdnjhflcaaW.PrintLast Go.Proofs.YtdbanjdnjhflcaaW.PrintMore
theorem leaf_cut0 {A:World→Prop} {G:Prop} (P:World→Prop) (main:(∀ w,A w→P w)→G) (leaf:∀ w,A w→P w):G:=main leaf
theorem rangeB {w:World} {g:Nat} {cs:Array Value} {t:TypeId} (h:w.heap[g]?=some (.cells cs t (0,0))):w.rangeAt g 0 cs.toList:=by
 intro j u hu
 rw[Nat.zero_add,blk_cell h]
 simpa using hu
theorem rangeW {w w':World} {g:Nat} {cs:Array Value} {t:TypeId} (h:w.heap[g]?=some (.cells cs t (0,0))) (hb:Below w.heap.size w w'):w'.rangeAt g 0 cs.toList:=rangeB ((hb.block g (blk_lt h)).trans h)
end Go.Proofs.Ytdbanjdnjhflcaa
