-- Laid by wip/shake.py of this repo out of this claim's texts. Not trusted: Lean checks it.
import Derived.Test.YtkjgdndaepobiaaAb0s
import Derived.Test.YtkjgdndaepobiaaAllx0s
import Derived.Test.YtkjgdndaepobiaaAllx20s
namespace Go.Proofs.Ytkjgdndaepobiaa.All
open Go.Proofs.YtkjgdndaepobiaaW.PrintWords.Aside0 renaming mk→zM
open Go.RowKit Go.Proofs.YtkjgdndaepobiaaW.PrintWords Go.Proofs.YtkjgdndaepobiaaW.PrintLast Go.Proofs.YtkjgdndaepobiaaW.PrintMore
attribute [local go_sem] max2_int min2_int max_two min_two max_three min_three max_four min_four
set_option linter.unusedVariables false
set_option linter.unusedSimpArgs false
def spec_l1Chance.f (s0_0:List Int) (s0_1:Int) (a1:Int):Option (Bool × Int):=(spec_l1Next.f s0_0 s0_1 a1).bind fun bt254=>(some ((bt254.1 == 0),bt254.2))
set_option maxHeartbeats 8000000 in
set_option maxRecDepth 100000 in
theorem spec_l1Chance.calls (g:Nat) (s0_0:List Int) (s0_1:Int) (a1:Int) (r1:Bool) (r2:Int) (w0 w:World) (hI:IsS73 w0 w g s0_0 s0_1) (hB:Below w0.heap.size w0 w) (h:spec_l1Chance.f s0_0 s0_1 a1=some (r1,r2)) :
  Calls Try.prog 44 #[.pointer (some ⟨g,0,none⟩),.int .i64 a1] w fun e w'=>e=.returned (.bool r1)∧IsS73 w0 w' g s0_0 r2∧Below w0.heap.size w0 w'∧KeepBut w w' g none:=by
 have HI0:=zM hI
 have HK:=zM (KeepBut.refl w g none)
 have HL:=zM hB.size
 clear hI
 have HW0:=zM hB.size
 have HB:=zM hB
 clear hB
 have H:((spec_l1Next.f s0_0 s0_1 a1).bind fun bt254=>(some ((bt254.1 == 0),bt254.2)))=some (r1,r2):=h
 clear h
 replace H:=Option.bind_eq_some_iff.mp H
 obtain⟨⟨t254,t255⟩,A30,H⟩:=H
 replace H:(some ((t254 == 0),t255))=some (r1,r2):=H
 have A3:=zM A30
 clear A30
 simp only[Option.some.injEq,Prod.mk.injEq] at H
 obtain⟨rfl,rfl⟩:=H
 go_enter Try.func44,Try.ntmps44
 go_wp2_with (first|((with_reducible refine gate_callee (f:=54) rfl ?_);refine goesL_ (some 7) rfl rfl Try.func54 (by kernel_rfl) rfl #[.pointer (some ⟨g,0,none⟩),.int .i64 a1] rfl zq1 ?_;(with_reducible refine(spec_l1Next.calls g s0_0 s0_1 a1 t254 t255 w0 _ ?side1 ?side2 A3.out).mono ?_);(case side1=>exact zq30);(case side2=>exact zq27);rintro e w4 ⟨rfl,hi,hb,hk⟩;refine⟨_,rfl,?_⟩;have n0_:=zM (KeepBut.trans zq32 hk (.inl rfl));have n1_:=zM (hb);have n2_:=zM (hi);clear HK;clear HB;clear HI0;have HK:=n0_;have HB:=n1_;have HI0:=n2_;clear n0_ n1_ n2_;(try clear hb);(try clear hb2);(try clear hk);(try clear hi)))
 go_ret
 exact⟨zq14,zq30,zq27,zq32⟩
end Go.Proofs.Ytkjgdndaepobiaa.All
