-- Laid by wip/shake.py of this repo out of this claim's texts. Not trusted: Lean checks it.
import Derived.Test.YtkjgdndaepobiaaAb0s
import Derived.Test.YtkjgdndaepobiaaAllx0s
import Derived.Lib.Bytes
section
namespace Go.Proofs.Ytkjgdndaepobiaa.All
open Go.RowKit Go.Proofs.YtkjgdndaepobiaaW.PrintWords Go.Proofs.YtkjgdndaepobiaaW.PrintLast Go.Proofs.YtkjgdndaepobiaaW.PrintMore
attribute [local go_sem] max2_int min2_int max_two min_two max_three min_three max_four min_four
set_option linter.unusedVariables false
set_option linter.unusedSimpArgs false
def bytes_Equal.f (l0:List Int) (l1:List Int):Option (Bool):=some ((strOfNums l0).toList == (strOfNums l1).toList)
set_option maxHeartbeats 8000000 in
set_option maxRecDepth 100000 in
theorem bytes_Equal.calls (A0:Option Addr) (c0:Nat) (l0:List Int) (A1:Option Addr) (c1:Nat) (l1:List Int) (r:Bool) (w:World) (hr0:Kd.C (Kd.int .u8) w A0 l0.length l0) (hc0:l0.length≤c0) (hr1:Kd.C (Kd.int .u8) w A1 l1.length l1) (hc1:l1.length≤c1) (h:bytes_Equal.f l0 l1=some r) :
  Calls Try.prog 55 #[.slice A0 l0.length c0,.slice A1 l1.length c1] w fun e w'=>e=.returned (.bool r)∧Drawn0 w w':=by
 have HR0:=Aside0.mk hr0
 have HC0:=Aside0.mk hc0
 clear hr0 hc0
 have HR1:=Aside0.mk hr1
 have HC1:=Aside0.mk hc1
 clear hr1 hc1
 have H:(some ((strOfNums l0).toList == (strOfNums l1).toList))=some r:=h
 clear h
 obtain rfl:=Option.some.inj H
 have hcv3:=Kd.C_string (P:=Try.prog) (A:=A0) (c:=c0) Try.underlying22 Try.underlying5 Try.underlying9 HR0.out
 have hcv4:=Kd.C_string (P:=Try.prog) (A:=A1) (c:=c1) Try.underlying22 Try.underlying5 Try.underlying9 HR1.out
 go_enter Try.func55,Try.ntmps55
 go_wp2
 go_ret
 exact⟨zq8,zq47⟩
end Go.Proofs.Ytkjgdndaepobiaa.All
end
section
set_option linter.unusedVariables false
set_option linter.unusedSimpArgs false
namespace Go.Proofs.Ytkjgdndaepobiaa.All
open Go.RowKit Go.Proofs.Ytkjgdndaepobiaa.All Go.Proofs.YtkjgdndaepobiaaW.PrintWords Go.Proofs.YtkjgdndaepobiaaW.PrintLast Go.Proofs.YtkjgdndaepobiaaW.PrintMore
theorem bytesB_inj:∀ (x y:List (BitVec 8)),((bL x).map fun n=>UInt8.ofNat n.toNat)=((bL y).map fun n=>UInt8.ofNat n.toNat)→x=y
 | [],[],_=>rfl
 | [],_ :: _,h=>by simp[bL] at h
 | _ :: _,[],h=>by simp[bL] at h
 | a :: x,b :: y,h=>by
  simp only[bL_cons,List.map_cons,List.cons.injEq] at h
  have e:=congrArg UInt8.toNat h.1
  have ha:=a.isLt
  have hb:=b.isLt
  have e2:a.toNat=b.toNat:=by
   unfold bI at e
   simp only[Int.toNat_natCast,UInt8.toNat_ofNat'] at e
   omega
  rw[BitVec.eq_of_toNat_eq e2,bytesB_inj x y h.2]
theorem strB (x y:List (BitVec 8)):((strOfNums (bL x)).toList=(strOfNums (bL y)).toList) ↔ x=y:=by
 rw[Go.Lib.strOfNums_toList,Go.Lib.strOfNums_toList]
 exact⟨bytesB_inj x y,fun e=>by rw[e]⟩
end Go.Proofs.Ytkjgdndaepobiaa.All
end
