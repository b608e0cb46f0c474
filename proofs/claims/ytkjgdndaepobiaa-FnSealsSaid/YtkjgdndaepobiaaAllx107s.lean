-- Laid by wip/shake.py of this repo out of this claim's texts. Not trusted: Lean checks it.
import Derived.Test.YtkjgdndaepobiaaAb0s
import Derived.Test.YtkjgdndaepobiaaAllx0s
namespace Go.Proofs.Ytkjgdndaepobiaa.All
open Go.RowKit Go.Proofs.YtkjgdndaepobiaaW.PrintWords Go.Proofs.YtkjgdndaepobiaaW.PrintLast Go.Proofs.YtkjgdndaepobiaaW.PrintMore
attribute [local go_sem] max2_int min2_int max_two min_two max_three min_three max_four min_four
set_option linter.unusedVariables false
set_option linter.unusedSimpArgs false
def spec_l3Asked.f (l0:List Int) (l1:List Int) (l2:List Int):Option (Bool):=if (l0.length:Int)=16 then (if (l1.length:Int)=12 then (some (decide ((l2.length:Int)≤100))) else (some false)) else (some false)
set_option maxHeartbeats 8000000 in
set_option maxRecDepth 100000 in
theorem spec_l3Asked.calls (A0:Option Addr) (c0:Nat) (l0:List Int) (A1:Option Addr) (c1:Nat) (l1:List Int) (A2:Option Addr) (c2:Nat) (l2:List Int) (r:Bool) (w:World) (hr0:Kd.C (Kd.int .u8) w A0 l0.length l0) (hc0:l0.length≤c0) (hr1:Kd.C (Kd.int .u8) w A1 l1.length l1) (hc1:l1.length≤c1) (hr2:Kd.C (Kd.int .u8) w A2 l2.length l2) (hc2:l2.length≤c2) (h:spec_l3Asked.f l0 l1 l2=some r) :
  Calls Try.prog 56 #[.slice A0 l0.length c0,.slice A1 l1.length c1,.slice A2 l2.length c2] w fun e w'=>e=.returned (.bool r)∧Drawn0 w w':=by
 have HR0:=Aside0.mk hr0
 have HC0:=Aside0.mk hc0
 clear hr0 hc0
 have HR1:=Aside0.mk hr1
 have HC1:=Aside0.mk hc1
 clear hr1 hc1
 have HR2:=Aside0.mk hr2
 have HC2:=Aside0.mk hc2
 clear hr2 hc2
 have H:(if (l0.length:Int)=16 then (if (l1.length:Int)=12 then (some (decide ((l2.length:Int)≤100))) else (some false)) else (some false))=some r:=h
 clear h
 by_cases c4:(l0.length:Int)=16
 ·rw[if_pos c4] at H
  have c4b0:((l0.length:Int) == 16)=true:=beq_iff_eq.mpr c4
  have c4b1:((l0.length:Int) != 16)=false:=bne_eq_false_iff_eq.mpr c4
  clear c4
  by_cases c5:(l1.length:Int)=12
  ·rw[if_pos c5] at H
   have c5b0:((l1.length:Int) == 12)=true:=beq_iff_eq.mpr c5
   have c5b1:((l1.length:Int) != 12)=false:=bne_eq_false_iff_eq.mpr c5
   clear c5
   obtain rfl:=Option.some.inj H
   go_enter Try.func56,Try.ntmps56
   go_wp2
   go_ret
   exact⟨zq8,zq47⟩
  ·rw[if_neg c5] at H
   have c5b0:((l1.length:Int) == 12)=false:=beq_eq_false_iff_ne.mpr c5
   have c5b1:((l1.length:Int) != 12)=true:=bne_iff_ne.mpr c5
   obtain rfl:=Option.some.inj H
   go_enter Try.func56,Try.ntmps56
   go_wp2
   go_ret
   exact⟨zq8,zq47⟩
 ·rw[if_neg c4] at H
  have c4b0:((l0.length:Int) == 16)=false:=beq_eq_false_iff_ne.mpr c4
  have c4b1:((l0.length:Int) != 16)=true:=bne_iff_ne.mpr c4
  obtain rfl:=Option.some.inj H
  go_enter Try.func56,Try.ntmps56
  go_wp2
  go_ret
  exact⟨zq8,zq47⟩
end Go.Proofs.Ytkjgdndaepobiaa.All
