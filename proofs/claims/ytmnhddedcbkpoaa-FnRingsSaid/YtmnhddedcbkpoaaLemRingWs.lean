-- Laid by wip/shake.py of this repo out of this claim's texts. Not trusted: Lean checks it.
import Derived.Test.YtmnhddedcbkpoaaAb0s
import Derived.Test.YtmnhddedcbkpoaaBytes
import Derived.Test.YtmnhddedcbkpoaaAllx24s
import Derived.Test.YtmnhddedcbkpoaaAllx553s
import Derived.Test.YtmnhddedcbkpoaaAllx550s
import Derived.Test.YtmnhddedcbkpoaaAllx556s
import Derived.Test.YtmnhddedcbkpoaaAllx565s
import Derived.Test.YtmnhddedcbkpoaaAllx568s
import Derived.Test.YtmnhddedcbkpoaaAllx33s
import Derived.Test.YtmnhddedcbkpoaaAllx551s
import Derived.Test.YtmnhddedcbkpoaaAllx202s
import Derived.Test.YtmnhddedcbkpoaaAllx205s
import Derived.Test.YtmnhddedcbkpoaaAllx564s
import Derived.Test.YtmnhddedcbkpoaaAllx567s
import Derived.Test.YtmnhddedcbkpoaaLemDraws
set_option linter.unusedVariables false
set_option linter.unusedSimpArgs false
namespace Go.Proofs.Ytmnhddedcbkpoaa.All
open Go.RowKit Go.Proofs.Ytmnhddedcbkpoaa.All Go.Proofs.YtmnhddedcbkpoaaW.PrintWords Go.Proofs.YtmnhddedcbkpoaaW.PrintLast Go.Proofs.YtmnhddedcbkpoaaW.PrintMore
theorem install_ok (p:Int) (m:List S25) (id:Int) (b:List Int) (r2:Int) (r3:List S25) (h:spec_InstallKey.f p m id b=some (0,r2,r3)):ringFaultL r2 r3=0:=by
 unfold spec_InstallKey.f at h
 by_cases h0:okL m∧b.length < 1000000000000
 case neg=>rw[if_neg h0] at h;cases h
 rw[if_pos h0] at h
 by_cases h1:ringFaultL p m=0
 case neg=>
  rw[if_neg h1] at h
  simp only[Option.some.injEq,Prod.mk.injEq] at h
  exact absurd h.1 h1
 rw[if_pos h1] at h
 by_cases h2:keyC id b.length=0
 case neg=>
  rw[if_neg h2] at h
  simp only[Option.some.injEq,Prod.mk.injEq] at h
  exact absurd h.1 h2
 rw[if_pos h2] at h
 by_cases h3:0≤placeL id m 0
 ·rw[if_pos h3] at h;simp at h
 rw[if_neg h3] at h
 by_cases h4:3≤m.length
 ·rw[if_pos h4] at h;simp at h
 rw[if_neg h4] at h
 by_cases h5:0 < m.length
 case neg=>rw[if_neg h5] at h;cases h
 rw[if_pos h5] at h
 simp only[Option.some.injEq,Prod.mk.injEq,true_and] at h
 obtain⟨rfl,rfl⟩:=h
 exact fault_ins p m id b h1 h2 zq21 zq21
theorem use_ok (p:Int) (m:List S25) (id:Int) (r2:Int) (r3:List S25) (h:spec_UseKey.f p m id=some (0,r2,r3)):ringFaultL r2 r3=0:=by
 unfold spec_UseKey.f at h
 by_cases h0:okL m
 case neg=>rw[if_neg h0] at h;cases h
 rw[if_pos h0] at h
 by_cases h1:ringFaultL p m=0
 case neg=>
  rw[if_neg h1] at h
  simp only[Option.some.injEq,Prod.mk.injEq] at h
  exact absurd h.1 h1
 rw[if_pos h1] at h
 by_cases h2:placeL id m 0 < 0
 ·rw[if_pos h2] at h;simp at h
 rw[if_neg h2] at h
 simp only[Option.some.injEq,Prod.mk.injEq,true_and] at h
 obtain⟨rfl,rfl⟩:=h
 exact fault_use p m id h1 h2
theorem remove_ok (p:Int) (m:List S25) (id:Int) (r2:Int) (r3:List S25) (h:spec_RemoveKey.f p m id=some (0,r2,r3)):ringFaultL r2 r3=0:=by
 unfold spec_RemoveKey.f at h
 by_cases h0:okL m
 case neg=>rw[if_neg h0] at h;cases h
 rw[if_pos h0] at h
 by_cases h1:ringFaultL p m=0
 case neg=>
  rw[if_neg h1] at h
  simp only[Option.some.injEq,Prod.mk.injEq] at h
  exact absurd h.1 h1
 rw[if_pos h1] at h
 by_cases h2:placeL id m 0 < 0
 ·rw[if_pos h2] at h;simp at h
 rw[if_neg h2] at h
 by_cases h3:p=id
 ·rw[if_pos h3] at h;simp at h
 rw[if_neg h3] at h
 simp only[Option.some.injEq,Prod.mk.injEq,true_and] at h
 obtain⟨rfl,rfl⟩:=h
 exact fault_keep p m id h1 h3
theorem sameKs_refl:∀ l:List S25,sameKs l l=true
 | []=>rfl
 | x :: xs=>by
  have h:sameK x x=true:=by simp[sameK]
  simp only[sameKs]
  rw[if_pos h]
  exact sameKs_refl xs
end Go.Proofs.Ytmnhddedcbkpoaa.All
