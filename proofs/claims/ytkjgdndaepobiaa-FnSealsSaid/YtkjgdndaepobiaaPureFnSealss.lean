-- Laid by wip/shake.py of this repo out of this claim's texts. Not trusted: Lean checks it.
import Derived.Test.YtkjgdndaepobiaaAb0s
import Derived.Test.YtkjgdndaepobiaaAllx196s
import Derived.Test.YtkjgdndaepobiaaAllx198s
import Derived.Test.YtkjgdndaepobiaaAllx20s
import Derived.Test.YtkjgdndaepobiaaAllx533s
import Derived.Test.YtkjgdndaepobiaaAllx539s
import Derived.Test.YtkjgdndaepobiaaAllx540s
import Derived.Test.YtkjgdndaepobiaaAllx541s
import Derived.Test.YtkjgdndaepobiaaAllx542s
import Derived.Test.YtkjgdndaepobiaaLemSeals
set_option linter.unusedVariables false
set_option linter.unusedSimpArgs false
namespace Go.Proofs.Ytkjgdndaepobiaa.Pure
open Go.RowKit Go.Proofs.Ytkjgdndaepobiaa.All Go.Proofs.YtkjgdndaepobiaaW.PrintWords Go.Proofs.YtkjgdndaepobiaaW.PrintLast Go.Proofs.YtkjgdndaepobiaaW.PrintMore
theorem seal_twice (ks m d:List (BitVec 8)):streamL ks m (streamL ks m d)=d:=by
 unfold streamL
 rw[tab_length]
 conv=>rhs;rw[← tab_self d]
 refine tab_congr fun i hi=>?_
 rw[tab_get _ _ _ hi,BitVec.xor_assoc,BitVec.xor_self,BitVec.xor_zero]
theorem open_seal (a b c d:List (BitVec 8)) (h:a.length=16∧b.length=12∧c.length≤100∧d.length≤600):impl_OpenText.g a b c (sealL (schedL a) b c d)=(0,bL d):=by
 unfold impl_OpenText.g openL
 rw[if_pos ⟨h.1,h.2.1,h.2.2.1,by rw[sealL_length];omega⟩,if_neg (by rw[sealL_length];omega),sealL_length,show d.length+16 - 16=d.length by omega]
 unfold sealL
 rw[List.take_left' (streamL_length _ _ _),List.drop_left' (streamL_length _ _ _),if_pos rfl,seal_twice]
theorem seal_open (a b c p:List (BitVec 8)) (ys:List Int) (h:impl_OpenText.g a b c p=(0,ys)):∃ d,ys=bL d∧impl_SealText.g a b c d=(0,bL p):=by
 unfold impl_OpenText.g openL at h
 by_cases h1:a.length=16∧b.length=12∧c.length≤100∧p.length≤616
 ·rw[if_pos h1] at h
  by_cases h2:p.length < 16
  ·rw[if_pos h2] at h
   exact absurd h zq101
  ·rw[if_neg h2] at h
   by_cases h3:tagL (schedL a) b c (p.take (p.length - 16))=p.drop (p.length - 16)
   ·rw[if_pos h3] at h
    refine⟨_,(congrArg Prod.snd h).symm,?_⟩
    unfold impl_SealText.g
    rw[if_pos ⟨h1.1,h1.2.1,h1.2.2.1,by rw[streamL_length,List.length_take];omega⟩]
    unfold sealL
    rw[seal_twice,h3,List.take_append_drop]
   ·rw[if_neg h3] at h
    exact absurd h zq101
 ·rw[if_neg h1] at h
  exact absurd h zq101
theorem open_bent (a b c d:List (BitVec 8)) (h:a.length=16∧b.length=12∧c.length≤100∧d.length≤600) (T:Nat) (hT:T < 16) (q:BitVec 8) (hq:q≠0#8) :
  impl_OpenText.g a b c ((sealL (schedL a) b c d).set (d.length+15 - T) (by_ (sealL (schedL a) b c d) (d.length+15 - T) ^^^ q))=(9,[]):=by
 generalize hz:by_ (sealL (schedL a) b c d) (d.length+15 - T) ^^^ q=z
 unfold impl_OpenText.g openL
 rw[if_pos ⟨h.1,h.2.1,h.2.2.1,by rw[List.length_set,sealL_length];omega⟩,if_neg (by rw[List.length_set,sealL_length];omega),List.length_set,sealL_length,show d.length+16 - 16=d.length by omega]
 unfold sealL at hz ⊢
 rw[List.set_append_right _ _ zq203,streamL_length,List.take_left' (streamL_length _ _ _),List.drop_left' (streamL_length _ _ _),if_neg]
 intro e
 have hl:d.length+15 - T - d.length=15 - T:=by omega
 rw[hl] at e
 have ht:(tagL (schedL a) b c (streamL (schedL a) (upL (startL b)) d)).length=16:=tagL_length _ _ _ _
 generalize tagL (schedL a) b c (streamL (schedL a) (upL (startL b)) d)=t at *
 have e1:t[15 - T]?=some z:=by
  rw[e,List.getElem?_set_self zq9]
 have e2:by_ (streamL (schedL a) (upL (startL b)) d ++ t) (d.length+15 - T)=z:=by
  unfold by_
  rw[List.getD_eq_getElem?_getD,List.getElem?_append_right zq203,streamL_length,hl,e1]
  rfl
 rw[e2] at hz
 refine hq ?_
 have:=congrArg (fun u=>z ^^^ u) hz
 simp only[← BitVec.xor_assoc,BitVec.xor_self,BitVec.zero_xor] at this
 exact this
theorem sealG (x y z u:List (BitVec 8)):impl_SealText.f (bL x) (bL y) (bL z) (bL u)=some (impl_SealText.g x y z u):=by
 unfold impl_SealText.f
 rw[if_pos ⟨bL_isBs _,bL_isBs _,bL_isBs _,bL_isBs _⟩,unB_bL,unB_bL,unB_bL,unB_bL]
theorem openG (x y z u:List (BitVec 8)):impl_OpenText.f (bL x) (bL y) (bL z) (bL u)=some (impl_OpenText.g x y z u):=by
 unfold impl_OpenText.f
 rw[if_pos ⟨bL_isBs _,bL_isBs _,bL_isBs _,bL_isBs _⟩,unB_bL,unB_bL,unB_bL,unB_bL]
theorem j1_good (K:Nat) (hK:6000 < K) (l:List Int) (hb:∀ x ∈ l,0≤x∧x < 256) (hl:l.length≤1099511627776) (a b c d:List (BitVec 8)) :
  laws_FnSeals.j1 K l (bL a) (bL b) (bL c) (bL d) false (impl_SealText.g a b c d).1 (impl_SealText.g a b c d).2=some true:=by
 obtain⟨K,rfl⟩:∃ m,K=m+1+1:=⟨K - 2,zq9⟩
 simp only[laws_FnSeals.j1]
 rw[if_neg zq22]
 by_cases h:a.length=16∧b.length=12∧c.length≤100∧d.length≤600
 ·have hg:impl_SealText.g a b c d=(0,bL (sealL (schedL a) b c d)):=by unfold impl_SealText.g;rw[if_pos h]
  rw[sealSpec (K+1) zq9 a b c d,hg]
  simp only[Option.bind_some]
  have w:wrap64 (((bL d).length:Int)+16)=((d.length+16:Nat):Int):=by rw[bL_length];unfold wrap64;omega
  rw[if_pos trivial,w,if_pos (by rw[bL_length,sealL_length]),sameB,decide_eq_true rfl]
  simp only[Option.bind_some,Bool.not_true,laws_FnSeals.j2,List.nil_append]
  have hSl:=sealL_length (schedL a) b c d
  obtain⟨t,ht,t0,t1⟩:=lwAt_at l hb hl 2 16 zq9 zq9 zq9
  obtain⟨T,rfl⟩:∃ T:Nat,t=T:=⟨t.toNat,zq9⟩
  obtain⟨u,hu,u0,u1⟩:=lwAt_at l hb hl 3 255 zq9 zq9 zq9
  obtain⟨q,eq⟩:=mod_bI2 (wrap64 (1+u))
  have hq:q≠0#8:=fun z=>by
   rw[z,show bI 0#8=0 from rfl] at eq
   unfold wrap64 at eq
   omega
  have w2:wrap64 (wrap64 (((bL (sealL (schedL a) b c d)).length:Int) - 1) - (T:Int))=((d.length+15 - T:Nat):Int):=by rw[bL_length,hSl];unfold wrap64;omega
  rw[if_neg zq22,if_pos (by rw[bL_length,List.length_nil];omega),ht]
  simp only[Option.bind_some]
  rw[w2,if_pos zq9,if_pos zq118,hu]
  simp only[Option.bind_some]
  rw[openG,open_seal a b c d h]
  simp only[Option.bind_some]
  rw[sameB,decide_eq_true rfl]
  simp only[Option.bind_some,if_true]
  have ob:=open_bent a b c d h T zq9 q hq
  unfold by_ at ob
  rw[eq,rd_bL,bI_xor,Int.toNat_natCast,bL_set,openG]
  rw[ob]
  rfl
 ·have hg:impl_SealText.g a b c d=(2,[]):=by unfold impl_SealText.g;rw[if_neg h]
  rw[hg,if_neg zq22]
theorem FnSeals:laws_FnSeals.Pure:=by
 intro l0 _ _ hw
 obtain⟨n,rfl⟩:=bL_of l0 hw
 obtain⟨K,hK⟩:∃ K,K > 8000:=⟨_,Nat.lt_succ_self _⟩
 refine⟨K+1,?_⟩
 unfold laws_FnSeals.f laws_lwBig.f
 by_cases h:((bL n).length:Int) > 1048576
 ·simp[h]
 have hb:=bL_wf n
 have hl:(bL n).length≤1099511627776:=by omega
 simp only[Option.bind_some]
 rw[if_neg (by simpa using h)]
 obtain⟨a,b,c,d,hd⟩:=drawST (bL n) hb hl (K+1) zq9
 obtain⟨a2,b2,c2,d2,hd2⟩:=drawOT (bL n) hb hl (K+1) zq9
 have hsame:laws_lwSame.f (impl_OpenText.g a2 b2 c2 d2).2 (impl_OpenText.g a2 b2 c2 d2).2=some true:=by
  unfold laws_lwSame.f
  simp
 rw[hd]
 simp only[Option.bind_some]
 rw[sealG]
 simp only[Option.bind_some]
 rw[hd2]
 simp only[Option.bind_some]
 rw[openG]
 simp only[Option.bind_some]
 rw[sealSpec (K+1) zq9 a b c d,openSpec (K+1) zq9 a2 b2 c2 d2]
 simp only[Option.bind_some,if_true]
 rw[hsame]
 simp only[Option.bind_some,Bool.not_true,laws_FnSeals.j0]
 rw[if_neg zq22]
 have hj:=j1_good K zq9 (bL n) hb hl a b c d
 by_cases h0:(impl_OpenText.g a2 b2 c2 d2).1=0
 ·obtain⟨ys,hy⟩:∃ ys,impl_OpenText.g a2 b2 c2 d2=(0,ys):=⟨(impl_OpenText.g a2 b2 c2 d2).2,by rw[← h0]⟩
  obtain⟨e,rfl,he⟩:=seal_open a2 b2 c2 d2 ys hy
  rw[if_pos h0,hy]
  rw[sealG,he]
  simp only[Option.bind_some]
  rw[sameB,decide_eq_true rfl]
  simp only[Option.bind_some,Bool.not_true]
  exact hj
 ·rw[if_neg h0]
  exact hj
end Go.Proofs.Ytkjgdndaepobiaa.Pure
