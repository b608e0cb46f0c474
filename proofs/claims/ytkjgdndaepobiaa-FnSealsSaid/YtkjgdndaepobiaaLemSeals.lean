-- Laid by wip/shake.py of this repo out of this claim's texts. Not trusted: Lean checks it.
import Derived.Test.YtkjgdndaepobiaaAb0s
import Derived.Test.YtkjgdndaepobiaaAllx0s
import Derived.Test.YtkjgdndaepobiaaAllx547s
import Derived.Test.YtkjgdndaepobiaaAllx32s
import Derived.Test.YtkjgdndaepobiaaAllx533s
import Derived.Test.YtkjgdndaepobiaaAllx539s
import Derived.Test.YtkjgdndaepobiaaAllx523s
import Derived.Test.YtkjgdndaepobiaaAllx540s
import Derived.Test.YtkjgdndaepobiaaAllx541s
import Derived.Test.YtkjgdndaepobiaaAllx108s
import Derived.Test.YtkjgdndaepobiaaAllx104s
import Derived.Test.YtkjgdndaepobiaaAllx163s
import Derived.Test.YtkjgdndaepobiaaAllx164s
import Derived.Test.YtkjgdndaepobiaaAllx107s
import Derived.Test.YtkjgdndaepobiaaAllx198s
import Derived.Test.YtkjgdndaepobiaaLemGroups
import Derived.Test.YtkjgdndaepobiaaAllx130s
import Derived.Test.YtkjgdndaepobiaaAllx20s
import Derived.Test.YtkjgdndaepobiaaAllx187s
import Derived.Test.YtkjgdndaepobiaaAllx188s
import Derived.Test.YtkjgdndaepobiaaAllx542s
import Derived.Test.YtkjgdndaepobiaaAllx166s
import Derived.Test.YtkjgdndaepobiaaAllx167s
import Derived.Test.YtkjgdndaepobiaaAllx10s
import Derived.Lib.Bytes
import Derived.Test.YtkjgdndaepobiaaAllx165s
section
set_option linter.unusedVariables false
set_option linter.unusedSimpArgs false
namespace Go.Proofs.Ytkjgdndaepobiaa.All
open Go.RowKit Go.Proofs.Ytkjgdndaepobiaa.All Go.Proofs.YtkjgdndaepobiaaW.PrintWords Go.Proofs.YtkjgdndaepobiaaW.PrintLast Go.Proofs.YtkjgdndaepobiaaW.PrintMore
theorem wordS_loop:∀ (d K:Nat) (v:Nat) (ys:List Int),d≤ys.length→ys.length < 1099511627776→v < 9223372036854775808→d < K→spec_l1Pack.l0 K (v:Int) ys ((d:Int) - 1)=some (bL (packB v d) ++ ys.drop d)
 | 0,K,v,ys,h0,h1,hv9_,hk=>by
  obtain⟨K,rfl⟩:∃ m,K=m+1:=⟨K - 1,zq9⟩
  simp only[spec_l1Pack.l0]
  rw[if_neg zq9]
  rfl
 | d+1,K,v,ys,h0,h1,hv9_,hk=>by
  obtain⟨K,rfl⟩:∃ m,K=m+1:=⟨K - 1,zq9⟩
  have hw:wrap64 (((d+1:Nat):Int) - 1 - 1)=(d:Int) - 1:=by unfold wrap64;omega
  have hv2:wrap64 (Int.tdiv (v:Int) 256)=((v / 256:Nat):Int):=by
   rw[Int.tdiv_eq_ediv_of_nonneg zq9];unfold wrap64;omega
  have hb:Int.tmod (v:Int) 256 % 256=bI (BitVec.ofNat 8 v):=by
   rw[Int.tmod_eq_emod_of_nonneg zq9,← byte_of]
   omega
  have hd:(((d+1:Nat):Int) - 1).toNat=d:=by omega
  simp only[spec_l1Pack.l0]
  rw[if_pos zq9,if_pos zq9,if_pos zq9,hw,hv2,hb,hd,wordS_loop d K (v / 256) _ (by rw[List.length_set];omega) (by rw[List.length_set];omega) zq9 zq9]
  rw[List.drop_set,if_neg zq9,Nat.sub_self,List.drop_eq_getElem_cons (show d < ys.length by omega),List.set_cons_zero,packB,bL_append,List.append_assoc]
  rfl
theorem wordS (K v m:Nat) (hm:m≤8) (hv9_:v < 9223372036854775808) (hk:8 < K):spec_l1Pack.f K (v:Int) (m:Int)=some (bL (packB v m)):=by
 have hw:wrap64 ((m:Int) - 1)=(m:Int) - 1:=by unfold wrap64;omega
 unfold spec_l1Pack.f
 rw[if_pos zq9,if_pos zq9,hw,Int.toNat_natCast,wordS_loop m K v _ zq101 (by simp;omega) hv9_ zq9]
 rw[List.drop_of_length_le zq101,List.append_nil]
theorem l1Copy_at (m:List (BitVec 8)) (h:m.length≤100000):spec_l1Copy.f (bL m)=some (bL m):=by
 unfold spec_l1Copy.f
 simp only[Option.bind_some,List.nil_append]
 rw[if_pos (by rw[bL_length];simp;omega)]
theorem wholeS_loop:∀ (r k:Nat) (m:List (BitVec 8)),r=(16 - m.length % 16) % 16→m.length≤100000→r < k→spec_l3Whole.l0 k (bL m)=some (bL (m ++ List.replicate r 0#8))
 | 0,k,m,hr,hl,hk=>by
  obtain⟨k,rfl⟩:∃ q,k=q+1:=⟨k - 1,zq9⟩
  simp only[spec_l3Whole.l0]
  rw[if_pos zq118]
  simp
 | r+1,k,m,hr,hl,hk=>by
  obtain⟨k,rfl⟩:∃ q,k=q+1:=⟨k - 1,zq9⟩
  have ih:=wholeS_loop r k (m ++ [0#8]) zq189 zq189 zq9
  rw[bL_append,List.append_assoc,List.singleton_append,← List.replicate_succ] at ih
  simp only[spec_l3Whole.l0]
  rw[if_neg zq118,if_pos zq118]
  exact ih
theorem wholeS_at (k:Nat) (hk:100 < k) (m:List (BitVec 8)) (h:m.length≤5000):spec_l3Whole.f k (bL m)=some (bL (wholeL m)):=by
 unfold spec_l3Whole.f
 rw[l1Copy_at m zq9]
 simp only[Option.bind_some]
 exact wholeS_loop _ k m rfl zq9 zq9
theorem list12 (m:List (BitVec 8)) (h:m.length=12):∃ a b c d e f g i j k l n,m=[a,b,c,d,e,f,g,i,j,k,l,n]:=by
 refine⟨by_ m 0,by_ m 1,by_ m 2,by_ m 3,by_ m 4,by_ m 5,by_ m 6,by_ m 7,by_ m 8,by_ m 9,by_ m 10,by_ m 11,?_⟩
 have:=(tab_self m).symm
 rw[h] at this
 exact this
theorem startL_12 (m:List (BitVec 8)) (h:m.length=12):startL m=m ++ [0#8,0#8,0#8,1#8]:=by
 obtain⟨a,b,c,d,e,f,g,i,j,k,l,n,rfl⟩:=list12 m h
 rfl
theorem first_at (m:List (BitVec 8)) (h:m.length=12):spec_l3First.f (bL m)=some (bL (startL m)):=by
 unfold spec_l3First.f
 rw[l1Copy_at m zq9]
 simp only[Option.bind_some]
 rw[if_pos (by rw[bL_length];simp;omega),startL_12 m h,bL_append]
 rfl
theorem hash3_at (K:Nat) (hK:1000≤K) (h d:List (BitVec 8)) (hh:h.length=16) (n0:Nat) (hd:d.length=16*n0) (hn:n0≤100):spec_l3Hash.f K (bL h) (bL d)=some (bL (bV (hv (vB h) n0 d 0#128))):=by
 unfold spec_l3Hash.f
 rw[if_pos zq9]
 have e:=hash_loop h hh d zq9 n0 (K - (n0+1)) 0 0#128 zq9 zq9
 rw[show K - (n0+1)+(n0+1)=K by omega,bV_zero,Nat.mul_zero,List.drop_zero,show ((0:Nat):Int)=0 from rfl] at e
 exact e
theorem enc2_at (ks m:List (BitVec 8)) (hk:ks.length=176) (hm:m.length=16):spec_l2Encrypt.f (bL ks) (bL m)=some (bL (encL ks m)):=by
 unfold spec_l2Encrypt.f
 rw[if_pos ⟨bL_isBs _,bL_isBs _,by rw[bL_length];exact hk,by rw[bL_length];exact hm⟩,unB_bL,unB_bL]
theorem len_at (K n:Nat) (hK:100 < K) (hn:n≤700):spec_l1Pack.f K (wrap64 (8*(n:Int))) 8=some (bL (lenL n)):=by
 have w:wrap64 (8*(n:Int))=((8*n:Nat):Int):=by unfold wrap64;omega
 rw[w]
 exact wordS K (8*n) 8 zq9 zq9 zq9
theorem tagS_at (K:Nat) (hK:2000≤K) (ks n e c:List (BitVec 8)) (hk:ks.length=176) (hn:n.length=12) (he:e.length≤700) (hc:c.length≤700):spec_l3Tag.f K (bL ks) (bL n) (bL e) (bL c)=some (bL (tagL ks n e c)):=by
 have hl:=dataL_length e c
 have h2:=wholeL_length e
 have h3:=wholeL_length c
 unfold spec_l3Tag.f
 rw[if_pos zq9,show List.replicate 16 (0:Int)=bL (tab 16 fun _=>0#8) from by decide +kernel,enc2_at ks _ hk (tab_length _ _)]
 simp only[Option.bind_some]
 rw[wholeS_at K zq9 e zq9]
 simp only[Option.bind_some]
 rw[wholeS_at K zq9 c zq9]
 simp only[Option.bind_some]
 rw[if_pos (by rw[bL_length,bL_length];omega),bL_length e,bL_length c,len_at K _ zq9 he]
 simp only[Option.bind_some]
 rw[← bL_append,if_pos (by rw[bL_length,bL_length,List.length_append,lenL_length];omega),len_at K _ zq9 hc]
 simp only[Option.bind_some]
 rw[← bL_append,if_pos (by rw[bL_length,bL_length,List.length_append,List.length_append,lenL_length,lenL_length];omega),first_at n hn]
 simp only[Option.bind_some]
 rw[enc2_at ks _ hk (startL_length _)]
 simp only[Option.bind_some]
 rw[← bL_append,show wholeL e ++ wholeL c ++ lenL e.length ++ lenL c.length=dataL e c from by unfold dataL;rw[List.append_assoc (wholeL e ++ wholeL c)],hash3_at K zq9 _ _ (encL_length _ _) ((dataL e c).length / 16) zq9 zq9]
 simp only[Option.bind_some]
 rw[l1Xor16 K zq9 _ _ (encL_length _ _) (bV_length _)]
 simp only[Option.bind_some]
 rfl
theorem up_start (n:List (BitVec 8)):(upL (startL n)).length=16:=by rw[upL_length',startL_length]
theorem sealS_at (K:Nat) (hK:4000≤K) (key n e p:List (BitVec 8)) (hk:key.length=16) (hn:n.length=12) (he:e.length≤700) (hp:p.length≤600):spec_l3Seal.f K (bL key) (bL n) (bL e) (bL p)=some (bL (sealL (schedL key) n e p)):=by
 unfold spec_l3Seal.f
 rw[keys_at key hk]
 simp only[Option.bind_some]
 rw[first_at n hn]
 simp only[Option.bind_some]
 rw[l3Count_at K _ (startL_length _) zq9]
 simp only[Option.bind_some]
 rw[stream_at K _ _ p (schedL_length key hk) (up_start n) zq9 zq9]
 simp only[Option.bind_some]
 rw[tagS_at K zq9 _ n e _ (schedL_length key hk) hn he zq203]
 simp only[Option.bind_some]
 rw[if_pos (by rw[bL_length,bL_length,streamL_length,tagL_length];omega),← bL_append]
 rfl
theorem asked_at (a n e:List (BitVec 8)):spec_l3Asked.f (bL a) (bL n) (bL e)=some (decide (a.length=16∧n.length=12∧e.length≤100)):=by
 unfold spec_l3Asked.f
 rw[bL_length,bL_length,bL_length]
 by_cases h0:a.length=16
 ·rw[if_pos zq9]
  by_cases h1:n.length=12
  ·rw[if_pos zq9]
   congr 1
   rw[Bool.eq_iff_iff,decide_eq_true_iff,decide_eq_true_iff]
   omega
  ·rw[if_neg zq9,decide_eq_false (fun q=>h1 q.2.1)]
 ·rw[if_neg zq9,decide_eq_false (fun q=>h0 q.1)]
end Go.Proofs.Ytkjgdndaepobiaa.All
end
section
set_option linter.unusedVariables false
set_option linter.unusedSimpArgs false
namespace Go.Proofs.Ytkjgdndaepobiaa.All
open Go.RowKit Go.Proofs.Ytkjgdndaepobiaa.All Go.Proofs.YtkjgdndaepobiaaW.PrintWords Go.Proofs.YtkjgdndaepobiaaW.PrintLast Go.Proofs.YtkjgdndaepobiaaW.PrintMore
theorem drawSTj (l:List Int) (hb:∀ x ∈ l,0≤x∧x < 256) (hl:l.length≤1099511627776) (K:Nat) (hk:2000 < K) (n p e:Int) (hn:0≤n) (hn1:n≤100) (p0:0≤p) (p1:p≤700) (e0:0≤e) (e1:e≤200) :
  ∃ a b c d:List (BitVec 8),spec_DrawSealText.j0 K p e l n=some (bL a,bL b,bL c,bL d):=by
 obtain⟨K,rfl⟩:∃ m,K=m+1:=⟨K - 1,zq9⟩
 simp only[spec_DrawSealText.j0]
 obtain⟨i,hi,i0,i1⟩:=pick_at2 l hb hl n hn zq9 [16,16,16,16,16,16,16,17] zq101
 have hr:=pick_bnd [16,16,16,16,16,16,16,17] 0 17 zq22 i i0 i1
 rw[hi]
 simp only[Option.bind_some]
 obtain⟨xs,_,e3⟩:=some_at l hb hl K (n+1) (rd [16,16,16,16,16,16,16,17] i) zq9 zq9 zq9 zq9 zq9
 rw[e3]
 simp only[Option.bind_some]
 obtain⟨j,hj,j0,j1⟩:=pick_at2 l hb hl (n+1+rd [16,16,16,16,16,16,16,17] i) zq9 zq9 [12,12,12,12,12,12,12,11] zq101
 have hs:=pick_bnd [12,12,12,12,12,12,12,11] 0 12 zq22 j j0 j1
 rw[hj]
 simp only[Option.bind_some]
 obtain⟨ys,_,e4⟩:=some_at l hb hl K (n+1+rd [16,16,16,16,16,16,16,17] i+1) (rd [12,12,12,12,12,12,12,11] j) zq9 zq9 zq9 zq9 zq9
 rw[e4]
 simp only[Option.bind_some]
 obtain⟨zs,_,e5⟩:=some_at l hb hl K (n+1+rd [16,16,16,16,16,16,16,17] i+1+rd [12,12,12,12,12,12,12,11] j) e zq9 zq9 zq9 zq9 zq9
 rw[e5]
 simp only[Option.bind_some]
 obtain⟨us,_,e6⟩:=some_at l hb hl K (n+1+rd [16,16,16,16,16,16,16,17] i+1+rd [12,12,12,12,12,12,12,11] j+e) p zq9 zq9 zq9 zq9 zq9
 rw[e6]
 exact⟨xs,ys,zs,us,rfl⟩
theorem drawST (l:List Int) (hb:∀ x ∈ l,0≤x∧x < 256) (hl:l.length≤1099511627776) (K:Nat) (hk:2000 < K):∃ a b c d:List (BitVec 8),spec_DrawSealText.f K l=some (bL a,bL b,bL c,bL d):=by
 unfold spec_DrawSealText.f spec_l1Source.f
 simp only[Option.bind_some]
 obtain⟨i,hi,i0,i1⟩:=pick_at2 l hb hl 0 zq9 zq9 [0,1,15,16,33,60] zq101
 have hr:=pick_bnd [0,1,15,16,33,60] 0 60 zq22 i i0 i1
 rw[hi]
 simp only[Option.bind_some]
 obtain⟨j,hj,j0,j1⟩:=pick_at2 l hb hl (0+1) zq9 zq9 [0,1,16,20] zq101
 have hs:=pick_bnd [0,1,16,20] 0 20 zq22 j j0 j1
 rw[hj]
 simp only[Option.bind_some]
 obtain⟨c,hc⟩:=chance_at2 l hb hl (0+1+1) 30 zq9 zq9 zq9
 rw[hc]
 simp only[Option.bind_some]
 cases c
 ·rw[if_neg zq22]
  exact drawSTj l hb hl K hk _ _ _ zq9 zq9 zq9 zq9 zq9 zq9
 ·rw[if_pos rfl]
  obtain⟨u,hu,u0,u1⟩:=pick_at2 l hb hl (0+1+1+1) zq9 zq9 [600,601] zq101
  have hr2:=pick_bnd [600,601] 0 601 zq22 u u0 u1
  rw[hu]
  simp only[Option.bind_some]
  obtain⟨v,hv9_,v0,v1⟩:=pick_at2 l hb hl (0+1+1+1+1) zq9 zq9 [0,100,101] zq101
  have hr3:=pick_bnd [0,100,101] 0 101 zq22 v v0 v1
  rw[hv9_]
  simp only[Option.bind_some]
  exact drawSTj l hb hl K hk _ _ _ zq9 zq9 zq9 zq9 zq9 zq9
theorem drawOTj (l:List Int) (hb:∀ x ∈ l,0≤x∧x < 256) (hl:l.length≤1099511627776) (K:Nat) (hk:5000 < K) (a b c d:List (BitVec 8)) (n:Int) (hn:0≤n) (hn1:n≤100) (x:Bool) (hx:x=false→a.length=16∧b.length=12∧c.length≤100∧d.length≤600) :
  ∃ e f g h:List (BitVec 8),spec_DrawOpenText.j0 K (bL a) (bL b) (bL c) (bL d) x l n=some (bL e,bL f,bL g,bL h):=by
 obtain⟨K,rfl⟩:∃ m,K=m+1:=⟨K - 1,zq9⟩
 simp only[spec_DrawOpenText.j0]
 cases x
 ·obtain⟨ha,hb2,hc,hd⟩:=hx rfl
  rw[if_neg zq22,sealS_at K zq9 a b c d ha hb2 zq9 hd]
  simp only[Option.bind_some]
  generalize hS:sealL (schedL a) b c d=S
  have hSl:S.length=d.length+16:=by rw[← hS,sealL_length]
  obtain⟨v,hv9_,v0,v1⟩:=next_at l hb hl n 7 hn zq9 zq9
  rw[hv9_]
  simp only[Option.bind_some]
  obtain⟨i,hi,i0,i1⟩:=next_at l hb hl (n+1) ((bL S).length:Int) zq9 zq9 zq118
  obtain⟨I,rfl⟩:∃ I:Nat,i=I:=⟨i.toNat,zq9⟩
  by_cases h0:v=0
  ·rw[if_pos h0,hi]
   simp only[Option.bind_some]
   rw[if_pos i0,if_pos i1]
   obtain⟨w,hw,w0,w1⟩:=next_at l hb hl (n+1+1) 255 zq9 zq9 zq9
   rw[hw]
   simp only[Option.bind_some]
   obtain⟨q,eq⟩:=mod_bI2 (wrap64 (1+w))
   rw[eq,rd_bL,bI_xor,Int.toNat_natCast,bL_set]
   exact⟨_,_,_,_,rfl⟩
  rw[if_neg h0]
  by_cases h1:v=1
  ·rw[if_pos h1,hi]
   simp only[Option.bind_some]
   rw[if_pos i0,if_pos zq9,Int.toNat_natCast,bL_take]
   exact⟨_,_,_,_,rfl⟩
  rw[if_neg h1]
  by_cases h2:v=2
  ·rw[if_pos h2,if_pos zq118,show rd (bL b) 0=bI (by_ b 0) from rd_bL b 0,show (1:Int)=bI 1#8 from rfl,bI_xor,show (0:Int).toNat=0 from rfl,bL_set]
   exact⟨_,_,_,_,rfl⟩
  rw[if_neg h2]
  by_cases h3:v=3
  ·rw[if_pos h3,if_pos zq118,show bL c ++ [0]=bL (c ++ [0#8]) by rw[bL_append];rfl]
   exact⟨_,_,_,_,rfl⟩
  rw[if_neg h3]
  exact⟨_,_,_,_,rfl⟩
 ·rw[if_pos rfl]
  exact⟨_,_,_,_,rfl⟩
theorem drawOT (l:List Int) (hb:∀ x ∈ l,0≤x∧x < 256) (hl:l.length≤1099511627776) (K:Nat) (hk:5000 < K):∃ a b c d:List (BitVec 8),spec_DrawOpenText.f K l=some (bL a,bL b,bL c,bL d):=by
 unfold spec_DrawOpenText.f
 rw[later_at]
 simp only[Option.bind_some]
 obtain⟨a,b,c,d,e⟩:=drawST l hb hl K zq9
 rw[e]
 simp only[Option.bind_some]
 have z:∀ x:Bool,(x=false→a.length=16∧b.length=12∧c.length≤100∧d.length≤600)→_:=drawOTj l hb hl K hk a b c d 12 zq9 zq9
 by_cases ha:a.length=16
 ·rw[if_pos zq118]
  by_cases hb2:b.length=12
  ·rw[if_pos zq118]
   by_cases hc:c.length > 100
   ·rw[if_pos zq118]
    exact z true (fun h=>absurd h zq22)
   ·rw[if_neg zq118]
    exact z _ (fun h=>⟨ha,hb2,zq9,by have h':=of_decide_eq_false h;rw[bL_length] at h';omega⟩)
  ·rw[if_neg zq118]
   exact z true (fun h=>absurd h zq22)
 ·rw[if_neg zq118]
  exact z true (fun h=>absurd h zq22)
end Go.Proofs.Ytkjgdndaepobiaa.All
end
section
set_option linter.unusedVariables false
set_option linter.unusedSimpArgs false
namespace Go.Proofs.Ytkjgdndaepobiaa.All
open Go.RowKit Go.Proofs.Ytkjgdndaepobiaa.All Go.Proofs.YtkjgdndaepobiaaW.PrintWords Go.Proofs.YtkjgdndaepobiaaW.PrintLast Go.Proofs.YtkjgdndaepobiaaW.PrintMore
theorem lwAt_at (l:List Int) (hb:∀ x ∈ l,0≤x∧x < 256) (hl:l.length≤1099511627776) (i n:Int) (h0:0≤i) (h1:i≤1000) (hn:1≤n):∃ v,laws_lwAt.f l i n=some v∧0≤v∧v < n:=by
 unfold laws_lwAt.f
 by_cases h:n≤1
 ·rw[if_pos h]
  exact⟨0,rfl,zq9,zq9⟩
 rw[if_neg h]
 have e7:wrap64 (i*7)=i*7:=wr0 _ zq9 zq9
 have e1:wrap64 (i+1)=i+1:=wr0 _ zq9 zq9
 rw[e7,e1]
 by_cases hz:(l.length:Int)=0
 ·rw[if_pos hz,if_neg zq9]
  exact⟨_,rfl,tm _ _ zq9 zq9⟩
 rw[if_neg hz]
 have t0:=tm i (l.length:Int) h0 zq9
 have t1:=tm (i+1) (l.length:Int) zq9 zq9
 have b0:=rd_byte l hb (Int.tmod i (l.length:Int))
 have b1:=rd_byte l hb (Int.tmod (i+1) (l.length:Int))
 have q0:0≤Int.tdiv i (l.length:Int)∧Int.tdiv i (l.length:Int)≤1000:=by
  refine⟨Int.tdiv_nonneg h0 zq9,?_⟩
  rw[Int.tdiv_eq_ediv_of_nonneg h0]
  have:=Int.ediv_le_self (l.length:Int) h0
  omega
 rw[if_pos t0.1,if_pos t0.2]
 generalize rd l (Int.tmod i (l.length:Int))=a at *
 generalize rd l (Int.tmod (i+1) (l.length:Int))=b at *
 generalize Int.tdiv i (l.length:Int)=q at *
 have w1:wrap64 a=a:=wr0 _ zq9 zq9
 have w2:wrap64 b=b:=wr0 _ zq9 zq9
 have w4:wrap64 q=q:=wr0 _ zq9 zq9
 have w5:wrap64 (q*3)=q*3:=wr0 _ zq9 zq9
 have w6:wrap64 (a+q*3)=a+q*3:=wr0 _ zq9 zq9
 have w7:wrap64 ((a+q*3)*251)=(a+q*3)*251:=wr0 _ zq9 zq9
 have w8:wrap64 ((a+q*3)*251+b)=(a+q*3)*251+b:=wr0 _ zq9 zq9
 simp only[w1,w2,w4,w5,w6,w7,w8]
 by_cases h2:n > 200
 ·rw[if_pos h2,if_pos t1.1,if_pos t1.2,if_neg zq9]
  exact⟨_,rfl,tm _ _ zq9 zq9⟩
 ·rw[if_neg h2,if_neg zq9]
  exact⟨_,rfl,tm _ _ zq9 zq9⟩
end Go.Proofs.Ytkjgdndaepobiaa.All
end
section
set_option linter.unusedVariables false
set_option linter.unusedSimpArgs false
namespace Go.Proofs.Ytkjgdndaepobiaa.All
open Go.RowKit Go.Proofs.Ytkjgdndaepobiaa.All Go.Proofs.YtkjgdndaepobiaaW.PrintWords Go.Proofs.YtkjgdndaepobiaaW.PrintLast Go.Proofs.YtkjgdndaepobiaaW.PrintMore
theorem openSpec (k:Nat) (hk:4001≤k) (a n e p:List (BitVec 8)):spec_OpenText.f k (bL a) (bL n) (bL e) (bL p)=some (impl_OpenText.g a n e p):=by
 obtain⟨K,rfl⟩:∃ m,k=m+1:=⟨k - 1,zq9⟩
 unfold spec_OpenText.f impl_OpenText.g
 rw[asked_at,bL_length]
 simp only[Option.bind_some]
 by_cases h:a.length=16∧n.length=12∧e.length≤100
 ·rw[decide_eq_true h,if_pos rfl]
  by_cases h3:p.length≤616
  ·rw[if_pos ⟨h.1,h.2.1,h.2.2,h3⟩]
   simp only[spec_OpenText.j0]
   rw[if_neg (by simp;omega)]
   unfold spec_l3Open.f
   have w:wrap64 (((bL p).length:Int) - 16)=(p.length:Int) - 16:=by rw[bL_length];unfold wrap64;omega
   rw[w]
   by_cases h4:p.length < 16
   ·rw[if_pos zq9,if_pos h4]
    simp only[Option.bind_some]
    rw[if_neg zq22]
   ·rw[if_neg zq9,if_neg h4,keys_at a h.1]
    simp only[Option.bind_some]
    rw[if_pos zq9,if_pos zq118,show ((p.length:Int) - 16).toNat=p.length - 16 by omega,bL_take,bL_drop,tagS_at K zq9 _ n e _ (schedL_length a h.1) h.2.1 zq9 zq197]
    simp only[Option.bind_some]
    unfold openL
    by_cases hx:tagL (schedL a) n e (p.take (p.length - 16))=p.drop (p.length - 16)
    ·rw[if_pos ((strB _ _).2 hx),if_pos hx,first_at n h.2.1]
     simp only[Option.bind_some]
     rw[l3Count_at K _ (startL_length _) zq9]
     simp only[Option.bind_some]
     rw[stream_at K _ _ _ (schedL_length a h.1) (up_start n) zq197 zq9]
     simp only[Option.bind_some,if_true]
    ·rw[if_neg (fun q=>hx ((strB _ _).1 q)),if_neg hx]
     simp only[Option.bind_some]
     rw[if_neg zq22]
  ·rw[if_neg (fun q=>h3 q.2.2.2)]
   simp only[spec_OpenText.j0]
   rw[if_pos (by simp;omega)]
 ·rw[decide_eq_false h,if_neg zq22,if_neg (fun q=>h ⟨q.1,q.2.1,q.2.2.1⟩)]
  simp only[spec_OpenText.j0]
  rfl
end Go.Proofs.Ytkjgdndaepobiaa.All
end
section
set_option linter.unusedVariables false
set_option linter.unusedSimpArgs false
namespace Go.Proofs.Ytkjgdndaepobiaa.All
open Go.RowKit Go.Proofs.Ytkjgdndaepobiaa.All Go.Proofs.YtkjgdndaepobiaaW.PrintWords Go.Proofs.YtkjgdndaepobiaaW.PrintLast Go.Proofs.YtkjgdndaepobiaaW.PrintMore
theorem sameB (x y:List (BitVec 8)):laws_lwSame.f (bL x) (bL y)=some (decide (x=y)):=by
 unfold laws_lwSame.f
 congr 1
 rw[Bool.eq_iff_iff,beq_iff_eq,decide_eq_true_iff]
 exact strB x y
end Go.Proofs.Ytkjgdndaepobiaa.All
end
section
set_option linter.unusedVariables false
set_option linter.unusedSimpArgs false
namespace Go.Proofs.Ytkjgdndaepobiaa.All
open Go.RowKit Go.Proofs.Ytkjgdndaepobiaa.All Go.Proofs.YtkjgdndaepobiaaW.PrintWords Go.Proofs.YtkjgdndaepobiaaW.PrintLast Go.Proofs.YtkjgdndaepobiaaW.PrintMore
theorem sealSpec (k:Nat) (hk:4000≤k) (a n e p:List (BitVec 8)):spec_SealText.f k (bL a) (bL n) (bL e) (bL p)=some (impl_SealText.g a n e p):=by
 unfold spec_SealText.f impl_SealText.g
 rw[asked_at,bL_length]
 simp only[Option.bind_some]
 by_cases h:a.length=16∧n.length=12∧e.length≤100
 ·rw[decide_eq_true h,if_pos rfl]
  by_cases h3:p.length≤600
  ·rw[if_neg zq9,if_pos ⟨h.1,h.2.1,h.2.2,h3⟩,sealS_at k hk a n e p h.1 h.2.1 zq9 h3]
   simp only[Option.bind_some]
  ·rw[if_pos zq9,if_neg (fun q=>h3 q.2.2.2)]
 ·rw[decide_eq_false h,if_neg zq22,if_neg (fun q=>h ⟨q.1,q.2.1,q.2.2.1⟩)]
end Go.Proofs.Ytkjgdndaepobiaa.All
end
