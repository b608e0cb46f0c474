-- Laid by wip/shake.py of this repo out of this claim's texts. Not trusted: Lean checks it.
import Derived.Test.YtdbanjdnjhflcaaAb0s
import Derived.Test.YtdbanjdnjhflcaaAllx63s
import Derived.Test.YtdbanjdnjhflcaaAllx584s
import Derived.Test.YtdbanjdnjhflcaaLemKeyss
set_option linter.unusedSimpArgs false
set_option linter.unusedVariables false
namespace Go.Proofs.Ytdbanjdnjhflcaa.Pure
open Go.RowKit Go.Proofs.Ytdbanjdnjhflcaa.All Go.Proofs.YtdbanjdnjhflcaaW.PrintWords Go.Proofs.YtdbanjdnjhflcaaW.PrintLast Go.Proofs.YtdbanjdnjhflcaaW.PrintMore
theorem FnExactSealLetter:∀ (a0_0:Int) (l0_1:List S70) (a1_0:Int) (a1_1:Int) (a1_2:Int) (l1_3:List Int),(Lit.int .i64 a0_0).wf=true→l0_1.length≤maxLen→(∀ p ∈ l0_1,(Lit.int .i64 p.f0).wf=true∧p.f1.length≤maxLen∧∀ y ∈ p.f1,(Lit.int .u8 y).wf=true)→(Lit.int .i64 a1_0).wf=true→(Lit.int .i64 a1_1).wf=true→(Lit.int .i64 a1_2).wf=true→l1_3.length≤maxLen→(∀ x ∈ l1_3,(Lit.int .u8 x).wf=true)→∃ k,laws_FnExactSealLetter.f k a0_0 l0_1 a1_0 a1_1 a1_2 l1_3 true:=by
 intro p l a b c tx _ hl hb _ _ _ htl htw
 obtain⟨t,rfl⟩:=bL_of tx htw
 unfold maxLen at hl htl
 have hb':∀ x ∈ l,x.f1.length≤9223372036854775807:=fun x hx=>by have:=(hb x hx).2.1;unfold maxLen at this;omega
 obtain⟨K,hK⟩:∃ K,K > 3000000:=⟨_,Nat.lt_succ_self _⟩
 refine⟨K,rfl,?_⟩
 obtain⟨v,hvz,v1,v2⟩:=szRing K p l 1048576 zq8 zq8 zq8 hb' zq8
 refine⟨v,hvz,?_⟩
 by_cases h:v < 0
 ·exact .inl h
 refine .inr ⟨h,?_⟩
 obtain⟨u,hu,u1,u2⟩:=szLetter a b c (bL t) v zq8 zq8 zq8
 refine⟨u,hu,?_⟩
 by_cases h2:u < 0
 ·exact .inl h2
 right
 have ok:=v2 zq8
 have ok2:(bL t).length≤1048576:=by have:=u2 zq8;omega
 have ou:=okUp l ok
 have hbs:∀ x ∈ ups l,x.f1.length≤1048576∧isBs x.f1=true:=by
  intro x hx
  refine⟨ou.2 x hx,?_⟩
  obtain⟨y,hy,rfl⟩:=List.mem_map.1 hx
  obtain⟨z,hz⟩:=bL_of y.f1 (hb y hy).2.2
  show isBs y.f1=true
  rw[hz]
  exact bL_isBs z
 obtain⟨r1,r3,hs,hi,h3⟩:=sealLetter_both K zq8 p (ups l) a b c t ou.1 hbs
 have hmk:=markKs_eq K zq8 (ups l) 1 ou.2 (by have:=ou.1;omega)
 have htk:=totKs_le 1 (ups l) ou.2
 have hm1:=markBe K (totKs 1 (ups l)) (bL t) (by have:=ou.1;omega) zq8
 rw[show ((1:Nat):Int)=1 from rfl] at hmk
 refine⟨h2,ups l,_,bL t,mkL (totKs 1 (ups l)) (bL t).length,r1,_,((totKs 1 (ups l)+(bL t).length:Nat):Int),_,r3,_,toRing K p l ok zq8,toLetter K a b c _ ok2 zq8,hs,hi,eqR K r1 r3 h3 zq8,eqRingR K p (ups l) ou.1 ou.2 zq8,eqLetterR K a b c _ ok2 zq8,by have:=ou.1;omega,(mkL_length 1 r3.length).symm,hmk,?_,?_,markR K r1 r3 h3 zq8,heldR K r1 r3.length h3 zq8,zq8,zq8⟩
 ·unfold laws_markLetter.f
  rw[hm1]
  rfl
 ·rw[mkL_length]
end Go.Proofs.Ytdbanjdnjhflcaa.Pure
