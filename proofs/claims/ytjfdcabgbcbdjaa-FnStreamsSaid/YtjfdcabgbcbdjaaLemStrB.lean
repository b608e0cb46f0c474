import Derived.Test.YtjfdcabgbcbdjaaAllx0
import Derived.Lib.Bytes
set_option linter.unusedVariables false
set_option linter.unusedSimpArgs false
namespace Go.Proofs.Ytjfdcabgbcbdjaa.All
open Go.RowKit Go.Proofs.Ytjfdcabgbcbdjaa.All Go.Proofs.YtjfdcabgbcbdjaaW.PrintWords Go.Proofs.YtjfdcabgbcbdjaaW.PrintLast Go.Proofs.YtjfdcabgbcbdjaaW.PrintMore

theorem bytesB_inj : ∀ (x y : List (BitVec 8)), ((bL x).map fun n => UInt8.ofNat n.toNat) = ((bL y).map fun n => UInt8.ofNat n.toNat) → x = y
  | [], [], _ => rfl
  | [], _ :: _, h => by simp [bL] at h
  | _ :: _, [], h => by simp [bL] at h
  | a :: x, b :: y, h => by
    simp only [bL_cons, List.map_cons, List.cons.injEq] at h
    have e := congrArg UInt8.toNat h.1
    have ha := a.isLt
    have hb := b.isLt
    have e2 : a.toNat = b.toNat := by
      unfold bI at e
      simp only [Int.toNat_natCast, UInt8.toNat_ofNat'] at e
      omega
    rw [BitVec.eq_of_toNat_eq e2, bytesB_inj x y h.2]
theorem strB (x y : List (BitVec 8)) : ((strOfNums (bL x)).toList = (strOfNums (bL y)).toList) ↔ x = y := by
  rw [Go.Lib.strOfNums_toList, Go.Lib.strOfNums_toList]
  exact ⟨bytesB_inj x y, fun e => by rw [e]⟩

end Go.Proofs.Ytjfdcabgbcbdjaa.All
