-- Laid by wip/shake.py of this repo out of this claim's texts. Not trusted: Lean checks it.
import Derived.Test.YtmnhddedcbkpoaaAb0s
import Derived.Test.YtmnhddedcbkpoaaBytes
import Derived.Test.YtmnhddedcbkpoaaAllx6s
import Derived.Test.YtmnhddedcbkpoaaAllx21s
import Derived.Test.YtmnhddedcbkpoaaAllx30s
import Derived.Test.YtmnhddedcbkpoaaAllx23s
import Derived.Test.YtmnhddedcbkpoaaAllx29s
import Derived.Test.YtmnhddedcbkpoaaAllx571s
import Derived.Test.YtmnhddedcbkpoaaAllx550s
import Derived.Test.YtmnhddedcbkpoaaAllx24s
import Derived.Test.YtmnhddedcbkpoaaAllx202s
import Derived.Test.YtmnhddedcbkpoaaAllx516s
import Derived.Test.YtmnhddedcbkpoaaAllx128s
import Derived.Test.YtmnhddedcbkpoaaAllx204s
import Derived.Test.YtmnhddedcbkpoaaAllx205s
import Derived.Test.YtmnhddedcbkpoaaAllx553s
import Derived.Test.YtmnhddedcbkpoaaAllx556s
import Derived.Test.YtmnhddedcbkpoaaAllx555s
import Derived.Test.YtmnhddedcbkpoaaAllx567s
import Derived.Test.YtmnhddedcbkpoaaAllx568s
import Derived.Test.YtmnhddedcbkpoaaAllx564s
import Derived.Test.YtmnhddedcbkpoaaAllx565s
section
set_option linter.unusedVariables false
set_option linter.unusedSimpArgs false
namespace Go.Proofs.Ytmnhddedcbkpoaa.All
open Go.RowKit Go.Proofs.Ytmnhddedcbkpoaa.All Go.Proofs.YtmnhddedcbkpoaaW.PrintWords Go.Proofs.YtmnhddedcbkpoaaW.PrintLast Go.Proofs.YtmnhddedcbkpoaaW.PrintMore
theorem wr0 (x:Int) (h0:0≤x) (h1:x < 9223372036854775808):wrap64 x=x:=by unfold wrap64;omega
theorem rd_byte (l:List Int) (hb:∀ x ∈ l,0≤x∧x < 256) (i:Int):0≤rd l i∧rd l i < 256:=by
 unfold rd
 rw[List.getD_eq_getElem?_getD]
 rcases Nat.lt_or_ge i.toNat l.length with h|h
 ·rw[List.getElem?_eq_getElem h]
  exact hb _ (List.getElem_mem h)
 ·rw[List.getElem?_eq_none h]
  simp
theorem tm (x m:Int) (hx:0≤x) (hm:0 < m):0≤Int.tmod x m∧Int.tmod x m < m:=⟨Int.tmod_nonneg m hx,Int.tmod_lt_of_pos x hm⟩
theorem next_at (l:List Int) (hb:∀ x ∈ l,0≤x∧x < 256) (hl:l.length≤1099511627776) (n m:Int) (h0:0≤n) (h1:n≤1048576) (hm:1≤m):∃ v,spec_l1Next.f l n m=some (v,n+1)∧0≤v∧v < m:=by
 have e1:wrap64 (n+1)=n+1:=wr0 _ zq21 zq21
 have e2:wrap64 (n+1 - 1)=n:=by rw[wr0 _ zq21 zq21];omega
 have e3:wrap64 (n*7)=n*7:=wr0 _ zq21 zq21
 have e4:wrap64 (n+2)=n+2:=wr0 _ zq21 zq21
 unfold spec_l1Next.f
 rw[e1,e2,e1,e4,e3]
 rw[if_neg zq21]
 by_cases hz:(l.length:Int)=0
 ·rw[if_pos hz,if_neg zq21]
  exact⟨_,rfl,tm _ _ zq21 zq21⟩
 rw[if_neg hz]
 have t0:=tm n (l.length:Int) h0 zq21
 have t1:=tm (n+1) (l.length:Int) zq21 zq21
 have t2:=tm (n+2) (l.length:Int) zq21 zq21
 have b0:=rd_byte l hb (Int.tmod n (l.length:Int))
 have b1:=rd_byte l hb (Int.tmod (n+1) (l.length:Int))
 have b2:=rd_byte l hb (Int.tmod (n+2) (l.length:Int))
 have q0:0≤Int.tdiv n (l.length:Int)∧Int.tdiv n (l.length:Int)≤1048576:=by
  refine⟨Int.tdiv_nonneg h0 zq21,?_⟩
  rw[Int.tdiv_eq_ediv_of_nonneg h0]
  have:=Int.ediv_le_self (l.length:Int) h0
  omega
 rw[if_pos t0.1,if_pos t0.2]
 generalize rd l (Int.tmod n (l.length:Int))=a at *
 generalize rd l (Int.tmod (n+1) (l.length:Int))=b at *
 generalize rd l (Int.tmod (n+2) (l.length:Int))=c at *
 generalize Int.tdiv n (l.length:Int)=q at *
 have w1:wrap64 a=a:=wr0 _ zq21 zq21
 have w2:wrap64 b=b:=wr0 _ zq21 zq21
 have w3:wrap64 c=c:=wr0 _ zq21 zq21
 have w4:wrap64 q=q:=wr0 _ zq21 zq21
 have w5:wrap64 (q*37)=q*37:=wr0 _ zq21 zq21
 have w6:wrap64 (a+q*37)=a+q*37:=wr0 _ zq21 zq21
 have w7:wrap64 ((a+q*37)*251)=(a+q*37)*251:=wr0 _ zq21 zq21
 have w8:wrap64 (b*13)=b*13:=wr0 _ zq21 zq21
 have w9:wrap64 ((a+q*37)*251+b*13)=(a+q*37)*251+b*13:=wr0 _ zq21 zq21
 have w10:wrap64 ((a+q*37)*251+b*13+n)=(a+q*37)*251+b*13+n:=wr0 _ zq21 zq21
 have w11:wrap64 (((a+q*37)*251+b*13+n)*257)=((a+q*37)*251+b*13+n)*257:=wr0 _ zq21 zq21
 have w12:wrap64 (((a+q*37)*251+b*13+n)*257+c)=((a+q*37)*251+b*13+n)*257+c:=wr0 _ zq21 zq21
 simp only[w1,w2,w3,w4,w5,w6,w7,w8,w9,w10,w11,w12]
 by_cases h2:m > 200
 ·rw[if_pos h2,if_pos t1.1,if_pos t1.2]
  by_cases h6:m > 60000
  ·rw[if_pos h6,if_pos t2.1,if_pos t2.2,if_neg zq21]
   exact⟨_,rfl,tm _ _ zq21 zq21⟩
  ·rw[if_neg h6,if_neg zq21]
   exact⟨_,rfl,tm _ _ zq21 zq21⟩
 ·rw[if_neg h2,if_neg zq21,if_neg zq21]
  exact⟨_,rfl,tm _ _ zq21 zq21⟩
end Go.Proofs.Ytmnhddedcbkpoaa.All
end
section
set_option linter.unusedVariables false
set_option linter.unusedSimpArgs false
namespace Go.Proofs.Ytmnhddedcbkpoaa.All
open Go.RowKit Go.Proofs.Ytmnhddedcbkpoaa.All Go.Proofs.YtmnhddedcbkpoaaW.PrintWords Go.Proofs.YtmnhddedcbkpoaaW.PrintLast Go.Proofs.YtmnhddedcbkpoaaW.PrintMore
theorem mod_bI2 (v:Int):∃ b:BitVec 8,v % 256=bI b:=⟨BitVec.ofNat 8 (v % 256).toNat,by rw[bI_ofNat _ zq21];omega⟩
theorem pick_at2 (l:List Int) (hb:∀ x ∈ l,0≤x∧x < 256) (hl:l.length≤1099511627776) (n:Int) (h0:0≤n) (h1:n≤1048576) (xs:List Int) (hx:1≤xs.length):∃ i:Int,spec_l1Pick.f l n xs=some (rd xs i,n+1)∧0≤i∧i < xs.length:=by
 unfold spec_l1Pick.f
 obtain⟨v,hv9_,v0,v1⟩:=next_at l hb hl n (xs.length:Int) h0 h1 zq21
 rw[hv9_]
 refine⟨v,?_,v0,v1⟩
 simp only[Option.bind_some]
 rw[if_pos v0,if_pos v1]
theorem some_loop (l:List Int) (hb:∀ x ∈ l,0≤x∧x < 256) (hl:l.length≤1099511627776):∀ (d K:Nat) (n:Int) (acc:List (BitVec 8)),0≤n→n+d≤1048576→acc.length+d≤1099511627776→d < K→∃ ys:List (BitVec 8),ys.length=acc.length+d∧spec_l1Some.l0 K (d:Int) (bL acc) l n=some (bL ys,n+d)
 | 0,K,n,acc,h0,h1,h2,hk=>by
  obtain⟨K,rfl⟩:∃ m,K=m+1:=⟨K - 1,zq21⟩
  refine⟨acc,rfl,?_⟩
  simp only[spec_l1Some.l0]
  rw[if_neg zq21]
  simp
 | d+1,K,n,acc,h0,h1,h2,hk=>by
  obtain⟨K,rfl⟩:∃ m,K=m+1:=⟨K - 1,zq21⟩
  obtain⟨v,hv9_,_,_⟩:=next_at l hb hl n 256 h0 zq21 zq21
  obtain⟨b,eb⟩:=mod_bI2 v
  obtain⟨ys,hy,he⟩:=some_loop l hb hl d K (n+1) (acc ++ [b]) zq21 zq21 zq98 zq21
  refine⟨ys,by rw[hy,List.length_append,List.length_singleton];omega,?_⟩
  have hw:wrap64 (((d+1:Nat):Int) - 1)=(d:Int):=by unfold wrap64;omega
  simp only[spec_l1Some.l0]
  rw[if_pos zq21,hv9_]
  simp only[Option.bind_some]
  rw[if_pos (by rw[bL_length];omega),hw,eb,show bL acc ++ [bI b]=bL (acc ++ [b]) by rw[bL_append];rfl,he]
  congr 2
  omega
theorem some_at (l:List Int) (hb:∀ x ∈ l,0≤x∧x < 256) (hl:l.length≤1099511627776) (K:Nat) (n a:Int) (h0:0≤n) (h1:n≤1000) (ha:0≤a) (ha2:a≤1000) (hk:1000 < K):∃ ys:List (BitVec 8),(ys.length:Int)=a∧spec_l1Some.f K l n a=some (bL ys,n+a):=by
 obtain⟨d,rfl⟩:∃ d:Nat,a=d:=⟨a.toNat,zq21⟩
 obtain⟨ys,hy,he⟩:=some_loop l hb hl d K n [] h0 zq21 (by simp;omega) zq21
 exact⟨ys,by rw[hy];simp,he⟩
theorem pick_bnd (xs:List Int) (lo hi:Int) (hx:∀ x ∈ xs,lo≤x∧x≤hi) (i:Int) (h0:0≤i) (h1:i < xs.length):lo≤rd xs i∧rd xs i≤hi:=by
 unfold rd
 rw[List.getD_eq_getElem?_getD,List.getElem?_eq_getElem zq21]
 exact hx _ (List.getElem_mem _)
end Go.Proofs.Ytmnhddedcbkpoaa.All
end
section
set_option linter.unusedVariables false
set_option linter.unusedSimpArgs false
namespace Go.Proofs.Ytmnhddedcbkpoaa.All
open Go.RowKit Go.Proofs.Ytmnhddedcbkpoaa.All Go.Proofs.YtmnhddedcbkpoaaW.PrintWords Go.Proofs.YtmnhddedcbkpoaaW.PrintLast Go.Proofs.YtmnhddedcbkpoaaW.PrintMore
theorem bytes_loop (id:Int):∀ (d K i:Nat) (acc:List Int),i+d=16→acc.length=i→d < K→∃ b:List Int,spec_l4Bytes.l0 K id acc (i:Int)=some b∧b.length=16
 | 0,K,i,acc,hi,ha,hK=>by
  obtain⟨K,rfl⟩:∃ j,K=j+1:=⟨K - 1,zq21⟩
  simp only[spec_l4Bytes.l0]
  rw[if_neg zq21]
  exact⟨acc,rfl,zq21⟩
 | d+1,K,i,acc,hi,ha,hK=>by
  obtain⟨K,rfl⟩:∃ j,K=j+1:=⟨K - 1,zq21⟩
  simp only[spec_l4Bytes.l0]
  rw[if_pos zq21,if_pos zq21,show wrap64 ((i:Int)+1)=((i+1:Nat):Int) by unfold wrap64;omega]
  exact bytes_loop id d K (i+1) _ zq21 zq98 zq21
theorem l4Bytes_at (K:Nat) (id:Int) (hK:17≤K):∃ b:List Int,spec_l4Bytes.f K id=some b∧b.length=16:=bytes_loop id 16 K 0 [] rfl rfl zq21
theorem l4Some_at (l:List Int) (hb:∀ x ∈ l,0≤x∧x < 256) (hl:l.length≤1099511627776) (K:Nat) (hK:1001≤K) (n:Int) (h0:0≤n) (h1:n≤900):∃ (id:Int) (b:List Int) (n':Int),spec_l4Some.f K l n=some (id,b,n')∧b.length≤16∧0≤n'∧n'≤n+3:=by
 obtain⟨i,hi,_,_⟩:=pick_at2 l hb hl n h0 zq21 [1,2,3,4,6,9,255] zq58
 unfold spec_l4Some.f
 rw[hi]
 simp only[Option.bind_some]
 obtain⟨b,hb2,hbl⟩:=l4Bytes_at K (rd [1,2,3,4,6,9,255] i) zq21
 rw[hb2]
 simp only[Option.bind_some]
 obtain⟨v,hv,_,_⟩:=next_at l hb hl (n+1) 10 zq21 zq21 zq21
 rw[hv]
 simp only[Option.bind_some]
 by_cases c0:v=0
 ·rw[if_pos c0]
  obtain⟨j,hj,_,_⟩:=pick_at2 l hb hl (n+1+1) zq21 zq21 [0,256] zq58
  rw[hj]
  exact⟨_,_,_,rfl,zq21,zq21,zq21⟩
 rw[if_neg c0]
 by_cases c1:v=1
 ·rw[if_pos c1,if_pos zq21]
  exact⟨_,_,_,rfl,by rw[List.length_drop];omega,zq21,zq21⟩
 rw[if_neg c1]
 exact⟨_,_,_,rfl,zq21,zq21,zq21⟩
theorem draw_loop (l:List Int) (hb:∀ x ∈ l,0≤x∧x < 256) (hl:l.length≤1099511627776):∀ (c K:Nat) (x4 n:Int) (acc:List S25),acc.length+c≤3→1≤acc.length+c→(∀ x ∈ acc,x.f1.length=16)→c+20≤K→0≤n→n+c≤1000→∃ (p:Int) (m:List S25) (n':Int),spec_l4Draw.l0 K x4 (c:Int) l n 0 acc=some (p,m,n')∧1≤m.length∧m.length≤3∧(∀ x ∈ m,x.f1.length=16)∧0≤n'∧n'≤n+c+1
 | 0,K,x4,n,acc,h1,h2,ha,hK,h0,hn=>by
  obtain⟨K,rfl⟩:∃ j,K=j+1:=⟨K - 1,zq21⟩
  simp only[spec_l4Draw.l0]
  rw[if_neg zq21]
  obtain⟨v,hv,v0,v1⟩:=next_at l hb hl n (acc.length:Int) h0 zq21 zq21
  rw[hv]
  simp only[Option.bind_some]
  rw[if_pos v0,if_pos v1]
  exact⟨_,_,_,rfl,zq21,zq21,ha,zq21,zq21⟩
 | c+1,K,x4,n,acc,h1,h2,ha,hK,h0,hn=>by
  obtain⟨K,rfl⟩:∃ j,K=j+1:=⟨K - 1,zq21⟩
  simp only[spec_l4Draw.l0]
  obtain⟨b,hb2,hbl⟩:=l4Bytes_at K x4 zq21
  rw[if_pos zq21,hb2]
  simp only[Option.bind_some]
  obtain⟨v,hv,_,_⟩:=next_at l hb hl n 2 h0 zq21 zq21
  rw[if_pos zq21,hv]
  simp only[Option.bind_some]
  rw[show wrap64 (((c+1:Nat):Int) - 1)=(c:Int) by unfold wrap64;omega]
  obtain⟨p,m,n',h,m1,m2,m3,n1,n2⟩:=draw_loop l hb hl c K (wrap64 (wrap64 (x4+1)+v)) (n+1) (acc ++ [(⟨x4,b⟩:S25)]) zq98 zq98 (fun x hx=>by
   rcases List.mem_append.1 hx with hx|hx
   ·exact ha x hx
   ·rw[List.mem_singleton] at hx;rw[hx];exact hbl) zq21 zq21 zq21
  exact⟨p,m,n',h,m1,m2,m3,n1,zq21⟩
theorem l4Draw_at (l:List Int) (hb:∀ x ∈ l,0≤x∧x < 256) (hl:l.length≤1099511627776) (K:Nat) (hK:100≤K) (n:Int) (h0:0≤n) (h1:n≤900):∃ (p:Int) (m:List S25) (n':Int),spec_l4Draw.f K l n=some (p,m,n')∧1≤m.length∧m.length≤3∧(∀ x ∈ m,x.f1.length=16)∧0≤n'∧n'≤n+6:=by
 obtain⟨i,hi,_,_⟩:=pick_at2 l hb hl n h0 zq21 [1,2,5] zq58
 obtain⟨j,hj,j0,j1⟩:=pick_at2 l hb hl (n+1) zq21 zq21 [1,2,2,3] zq58
 have hc:=pick_bnd [1,2,2,3] 1 3 zq17 j j0 j1
 unfold spec_l4Draw.f
 rw[hi]
 simp only[Option.bind_some]
 rw[hj]
 simp only[Option.bind_some]
 obtain⟨c,hcc⟩:∃ c:Nat,rd [1,2,2,3] j=(c:Int):=⟨(rd [1,2,2,3] j).toNat,zq21⟩
 rw[hcc] at hc ⊢
 obtain⟨p,m,n',h,m1,m2,m3,n1,n2⟩:=draw_loop l hb hl c K (rd [1,2,5] i) (n+1+1) [] (by simp only[List.length_nil];omega) (by simp only[List.length_nil];omega) (fun x hx=>by cases hx) zq21 zq21 zq21
 exact⟨p,m,n',h,m1,m2,m3,n1,zq21⟩
theorem l4Bent_at (l:List Int) (hb:∀ x ∈ l,0≤x∧x < 256) (hl:l.length≤1099511627776) (K:Nat) (hK:1001≤K) (n:Int) (h0:0≤n) (h1:n≤800):∃ (p:Int) (m:List S25) (n':Int),spec_l4Bent.f K l n=some (p,m,n')∧m.length≤6∧(∀ x ∈ m,x.f1.length≤17)∧0≤n'∧n'≤n+30:=by
 obtain⟨p,m,n1,hd,m1,m2,m3,q0,q1⟩:=l4Draw_at l hb hl K zq21 n h0 zq21
 have m4:∀ x ∈ m,x.f1.length≤17:=fun x hx=>by have:=m3 x hx;omega
 unfold spec_l4Bent.f
 rw[hd]
 simp only[Option.bind_some]
 obtain⟨v,hv,_,_⟩:=next_at l hb hl n1 14 zq21 zq21 zq21
 rw[hv]
 simp only[Option.bind_some]
 have hset:∀ (y:S25),y.f1.length≤17→∀ x ∈ m.set 0 y,x.f1.length≤17:=fun y hy x hx=>by
  rcases List.mem_or_eq_of_mem_set hx with hx|hx
  ·exact m4 x hx
  ·rw[hx];exact hy
 have h0m:(rd_T25 m 0).f1.length≤17:=by
  have:=rd_get m 0 zq21
  rw[show ((0:Nat):Int)=0 from rfl] at this
  rw[this]
  exact m4 _ (List.getElem_mem zq21)
 by_cases c0:v=0
 ·rw[if_pos c0];exact⟨_,_,_,rfl,by simp,fun x hx=>(by cases hx),zq21,zq21⟩
 rw[if_neg c0]
 by_cases c1:v=1
 ·rw[if_pos c1]
  obtain⟨j,hj,_,_⟩:=pick_at2 l hb hl (n1+1) zq21 zq21 [0,200] zq58
  rw[hj]
  exact⟨_,_,_,rfl,zq21,m4,zq21,zq21⟩
 rw[if_neg c1]
 by_cases c2:v=2
 ·rw[if_pos c2]
  obtain⟨j,hj,_,_⟩:=pick_at2 l hb hl (n1+1) zq21 zq21 [0,255,256] zq58
  rw[hj]
  simp only[Option.bind_some]
  rw[if_pos zq21]
  exact⟨_,_,_,rfl,by rw[List.length_set];omega,hset _ h0m,zq21,zq21⟩
 rw[if_neg c2]
 by_cases c3:v=3
 ·rw[if_pos c3]
  obtain⟨j,hj,j0,j1⟩:=pick_at2 l hb hl (n1+1) zq21 zq21 [15,17] zq58
  have hc:=pick_bnd [15,17] 15 17 zq17 j j0 j1
  rw[hj]
  simp only[Option.bind_some]
  obtain⟨ys,hy,hs⟩:=some_at l hb hl K (n1+1+1) (rd [15,17] j) zq21 zq21 zq21 zq21 zq21
  rw[hs]
  simp only[Option.bind_some]
  rw[if_pos zq21]
  exact⟨_,_,_,rfl,by rw[List.length_set];omega,hset _ (by simp only[bL_length];omega),zq21,zq21⟩
 rw[if_neg c3]
 by_cases c4:v=4
 ·rw[if_pos c4,if_pos zq21]
  exact⟨_,_,_,rfl,by rw[List.length_append];omega,fun x hx=>by
   rcases List.mem_append.1 hx with hx|hx
   ·exact m4 x hx
   ·exact m4 x hx,zq21,zq21⟩
 rw[if_neg c4]
 exact⟨_,_,_,rfl,zq21,m4,zq21,zq21⟩
end Go.Proofs.Ytmnhddedcbkpoaa.All
end
section
set_option linter.unusedVariables false
set_option linter.unusedSimpArgs false
namespace Go.Proofs.Ytmnhddedcbkpoaa.All
open Go.RowKit Go.Proofs.Ytmnhddedcbkpoaa.All Go.Proofs.YtmnhddedcbkpoaaW.PrintWords Go.Proofs.YtmnhddedcbkpoaaW.PrintLast Go.Proofs.YtmnhddedcbkpoaaW.PrintMore
theorem in_eq (a b c:Int):impl_in.f a b c=some (decide (b≤a∧a≤c)):=by
 unfold impl_in.f
 by_cases h:a ≥ b
 ·rw[if_pos h]
  by_cases h2:a≤c
  ·rw[decide_eq_true h2,decide_eq_true ⟨h,h2⟩]
  ·rw[decide_eq_false h2,decide_eq_false (fun h3=>h2 h3.2)]
 ·rw[if_neg h,decide_eq_false (fun h3=>h h3.1)]
theorem key_fault (a:Int) (l:List Int):impl_Key_fault.f a l=some (keyC a l.length):=by
 unfold impl_Key_fault.f impl_isKeyId.f
 rw[in_eq]
 simp only[Option.bind_some]
 unfold keyC
 by_cases h:1≤a∧a≤255
 ·rw[decide_eq_true h,if_pos rfl,if_pos h]
  by_cases h2:l.length=16
  ·rw[if_pos zq21,if_pos h2]
  ·rw[if_neg zq21,if_neg h2]
 ·rw[decide_eq_false h,if_neg zq17,if_neg h]
theorem fault_l1 (p:Int) (m:List S25) (hm:m.length≤1048576) (h1:1≤m.length) (d:Nat):∀ (k i:Nat),1≤i→i+d=m.length→d < k→impl_RingFault.l1 k (i:Int) p m=some (if orderL (m.drop (i - 1))=true then (if placeL p m 0 < 0 then 4 else 0) else 1):=by
 induction d with
 | zero=>
  intro k i hi1 hi hk
  obtain⟨k,rfl⟩:∃ m,k=m+1:=⟨k - 1,zq21⟩
  simp only[impl_RingFault.l1]
  rw[if_neg zq21,orderL_end m (i - 1) zq21,if_pos rfl]
  unfold impl_Ring_place.f
  rw[if_pos zq21]
  simp only[Option.bind_some]
  by_cases h:placeL p m 0 < 0
  ·rw[if_pos h,if_pos h]
  ·rw[if_neg h,if_neg h]
 | succ d ih=>
  intro k i hi1 hi hk
  obtain⟨k,rfl⟩:∃ m,k=m+1:=⟨k - 1,zq21⟩
  obtain⟨j,rfl⟩:∃ j,i=j+1:=⟨i - 1,zq21⟩
  have hw:wrap64 (((j+1:Nat):Int)+1)=((j+1+1:Nat):Int):=by unfold wrap64;omega
  have hv:wrap64 (((j+1:Nat):Int) - 1)=(j:Int):=by unfold wrap64;omega
  simp only[impl_RingFault.l1]
  rw[hv,hw,if_pos zq21,if_pos zq21,if_pos zq21,if_pos zq21,show j+1 - 1=j from rfl,orderL_drop m j zq21]
  by_cases h:(rd_T25 m (j:Int)).f0 ≥ (rd_T25 m ((j+1:Nat):Int)).f0
  ·rw[if_pos h,if_pos h]
   rfl
  ·rw[if_neg h,if_neg h,ih k (j+1+1) zq21 zq21 zq21]
   rfl
theorem fault_l0 (p:Int) (m:List S25) (hm:m.length≤1048576) (h1:1≤m.length) (d:Nat):∀ (k i:Nat),i+d=m.length→d+m.length+2 < k→impl_RingFault.l0 k m (m.length:Int) (i:Int) p m=some (if faultsL (m.drop i)=0 then (if orderL m=true then (if placeL p m 0 < 0 then 4 else 0) else 1) else faultsL (m.drop i)):=by
 induction d with
 | zero=>
  intro k i hi hk
  obtain⟨k,rfl⟩:∃ m,k=m+1:=⟨k - 1,zq21⟩
  simp only[impl_RingFault.l0]
  rw[if_neg zq21,List.drop_of_length_le zq21]
  have h:=fault_l1 p m hm h1 (m.length - 1) k 1 zq21 zq21 zq21
  simpa [faultsL] using h
 | succ d ih=>
  intro k i hi hk
  obtain⟨k,rfl⟩:∃ m,k=m+1:=⟨k - 1,zq21⟩
  have hw:wrap64 ((i:Int)+1)=((i+1:Nat):Int):=by unfold wrap64;omega
  simp only[impl_RingFault.l0]
  rw[hw,if_pos zq21,if_pos zq21,if_pos zq21,key_fault,faultsL_drop m i zq21]
  simp only[Option.bind_some]
  by_cases h:keyC (rd_T25 m (i:Int)).f0 (rd_T25 m (i:Int)).f1.length=0
  ·rw[if_pos h,if_pos h,ih k (i+1) zq21 zq21]
  ·rw[if_neg h,if_neg h,if_neg h]
theorem ring_fault (k:Nat) (p:Int) (m:List S25) (hm:m.length≤1048576) (hk:10≤k):impl_RingFault.f k p m=some (ringFaultL p m):=by
 unfold impl_RingFault.f ringFaultL
 rw[in_eq]
 simp only[Option.bind_some]
 by_cases h:m.length < 1 ∨ 3 < m.length
 ·rw[if_pos h,decide_eq_false zq21,if_neg zq17]
 ·rw[if_neg h,decide_eq_true zq21,if_pos rfl]
  have h2:=fault_l0 p m hm zq21 m.length k 0 zq21 zq21
  simpa using h2
end Go.Proofs.Ytmnhddedcbkpoaa.All
end
section
set_option linter.unusedVariables false
set_option linter.unusedSimpArgs false
namespace Go.Proofs.Ytmnhddedcbkpoaa.All
open Go.RowKit Go.Proofs.Ytmnhddedcbkpoaa.All Go.Proofs.YtmnhddedcbkpoaaW.PrintWords Go.Proofs.YtmnhddedcbkpoaaW.PrintLast Go.Proofs.YtmnhddedcbkpoaaW.PrintMore
theorem placeL_bd (id:Int):∀ (l:List S25) (i:Nat),placeL id l (i:Int) < 0 ∨ (i:Int)≤placeL id l (i:Int)∧placeL id l (i:Int) < (i:Int)+(l.length:Int)
 | [],i=>.inl (by simp[placeL])
 | x :: xs,i=>by
  simp only[placeL]
  by_cases h:x.f0=id
  ·rw[if_pos h,List.length_cons];right;omega
  ·rw[if_neg h,List.length_cons]
   have h1:=placeL_bd id xs (i+1)
   rw[show ((i+1:Nat):Int)=(i:Int)+1 by omega] at h1
   rcases h1 with h1|h1
   ·exact .inl h1
   ·right;omega
theorem clone_eq (l:List Int) (h:l.length≤1048576):bytes_Clone.f l=some l:=by
 unfold bytes_Clone.f
 rw[if_pos zq21]
theorem ownKey_eq (a:Int) (l:List Int) (h:l.length≤1048576):impl_ownKey.f a l=some (a,l):=by
 unfold impl_ownKey.f
 rw[clone_eq l h]
 rfl
theorem ownRing_loop (p:Int) (m:List S25) (hm:m.length≤1048576) (hb:∀ x ∈ m,x.f1.length≤1048576) (d:Nat):∀ (k i:Nat),i+d=m.length→d < k→impl_ownRing.l0 k m (m.length:Int) (i:Int) p (m.take i)=some (p,m):=by
 induction d with
 | zero=>
  intro k i hi hk
  obtain⟨k,rfl⟩:∃ m,k=m+1:=⟨k - 1,zq21⟩
  simp only[impl_ownRing.l0]
  rw[if_neg zq21,List.take_of_length_le zq21]
 | succ d ih=>
  intro k i hi hk
  obtain⟨k,rfl⟩:∃ m,k=m+1:=⟨k - 1,zq21⟩
  have hil:i < m.length:=by omega
  have hw:wrap64 ((i:Int)+1)=((i+1:Nat):Int):=by unfold wrap64;omega
  simp only[impl_ownRing.l0]
  rw[if_pos zq21,if_pos zq21,if_pos zq21,rd_get m i hil,ownKey_eq _ _ (hb _ (List.getElem_mem hil))]
  simp only[Option.bind_some]
  rw[if_pos (by rw[List.length_take];omega),hw]
  have h9:=ih k (i+1) zq21 zq21
  rw[List.take_succ_eq_append_getElem hil] at h9
  exact h9
theorem ownRing_eq (k:Nat) (p:Int) (m:List S25) (hm:m.length≤1048576) (hb:∀ x ∈ m,x.f1.length≤1048576) (hk:1048577≤k):impl_ownRing.f k p m=some (p,m):=by
 have h:=ownRing_loop p m hm hb m.length k 0 zq21 zq21
 unfold impl_ownRing.f
 simpa using h
theorem okL_of (m:List S25) (hm:m.length≤1048576) (hb:∀ x ∈ m,x.f1.length≤1048576):okL m:=⟨zq21,fun x hx=>by have:=hb x hx;omega⟩
theorem place_f (p:Int) (m:List S25) (id:Int) (hm:m.length≤1048576):impl_Ring_place.f p m id=some (placeL id m 0):=by
 unfold impl_Ring_place.f
 rw[if_pos zq21]
theorem findKey_both (k:Nat) (p:Int) (m:List S25) (id:Int) (hm:m.length≤1048576) (hb:∀ x ∈ m,x.f1.length≤1048576) (hk:1048577≤k):∃ r1 r2 r3,spec_FindKey.f p m id=some (r1,r2,r3)∧impl_FindKey.f k p m id=some (r1,r2,r3)∧r3.length≤1048576:=by
 unfold spec_FindKey.f impl_FindKey.f
 rw[if_pos (okL_of m hm hb),ring_fault k p m hm zq21,place_f p m id hm]
 simp only[Option.bind_some]
 by_cases h:ringFaultL p m=0
 ·rw[if_pos h,if_pos h]
  by_cases hq:placeL id m 0 < 0
  ·rw[if_pos hq,if_pos hq]
   exact⟨_,_,_,rfl,rfl,by simp⟩
  ·have hb2:=placeL_bd id m 0
   rw[show ((0:Nat):Int)=0 from rfl] at hb2
   obtain⟨q,hqe⟩:∃ q:Nat,placeL id m 0=(q:Int):=⟨(placeL id m 0).toNat,zq21⟩
   rw[hqe] at hq hb2 ⊢
   have hql:q < m.length:=by omega
   rw[if_neg hq,if_neg hq,if_pos zq21,if_pos zq21,if_pos zq21,rd_get m q hql,ownKey_eq _ _ (hb _ (List.getElem_mem hql))]
   exact⟨_,_,_,rfl,rfl,hb _ (List.getElem_mem hql)⟩
 ·rw[if_neg h,if_neg h]
  exact⟨_,_,_,rfl,rfl,by simp⟩
theorem useKey_both (k:Nat) (p:Int) (m:List S25) (id:Int) (hm:m.length≤1048576) (hb:∀ x ∈ m,x.f1.length≤1048576) (hk:1048577≤k):∃ r1 r2 r3,spec_UseKey.f p m id=some (r1,r2,r3)∧impl_UseKey.f k p m id=some (r1,r2,r3)∧r3.length≤1048576∧∀ x ∈ r3,x.f1.length≤1048576:=by
 unfold spec_UseKey.f impl_UseKey.f impl_FindKey.f
 rw[if_pos (okL_of m hm hb),ring_fault k p m hm zq21,place_f p m id hm,ownRing_eq k p m hm hb hk]
 simp only[Option.bind_some]
 by_cases h:ringFaultL p m=0
 ·rw[if_pos h,if_pos h]
  by_cases hq:placeL id m 0 < 0
  ·rw[if_pos hq,if_pos hq]
   exact⟨_,_,_,rfl,rfl,by simp,fun x hx=>by cases hx⟩
  ·have hb2:=placeL_bd id m 0
   rw[show ((0:Nat):Int)=0 from rfl] at hb2
   obtain⟨q,hqe⟩:∃ q:Nat,placeL id m 0=(q:Int):=⟨(placeL id m 0).toNat,zq21⟩
   rw[hqe] at hq hb2 ⊢
   have hql:q < m.length:=by omega
   rw[if_neg hq,if_neg hq,if_pos zq21,if_pos zq21,rd_get m q hql,ownKey_eq _ _ (hb _ (List.getElem_mem hql))]
   exact⟨_,_,_,rfl,rfl,hm,hb⟩
 ·rw[if_neg h,if_neg h]
  simp only[Option.bind_some]
  rw[if_neg h]
  exact⟨_,_,_,rfl,rfl,by simp,fun x hx=>by cases hx⟩
end Go.Proofs.Ytmnhddedcbkpoaa.All
end
section
set_option linter.unusedVariables false
set_option linter.unusedSimpArgs false
namespace Go.Proofs.Ytmnhddedcbkpoaa.All
open Go.RowKit Go.Proofs.Ytmnhddedcbkpoaa.All Go.Proofs.YtmnhddedcbkpoaaW.PrintWords Go.Proofs.YtmnhddedcbkpoaaW.PrintLast Go.Proofs.YtmnhddedcbkpoaaW.PrintMore
theorem len_of (p:Int) (l:List S25) (h:ringFaultL p l=0):1≤l.length∧l.length≤3:=by
 unfold ringFaultL at h
 by_cases h1:l.length < 1 ∨ 3 < l.length
 ·rw[if_pos h1] at h;cases h
 ·omega
theorem at_gt (id:Int):∀ (l:List S25) (i:Nat),placeL id l (i:Int) < 0→atL id l=gtL id l
 | [],_,_=>rfl
 | x :: xs,i,h=>by
  simp only[placeL] at h
  by_cases hx:x.f0=id
  ·rw[if_pos hx] at h;omega
  ·rw[if_neg hx] at h
   have h1:=at_gt id xs (i+1) (by rw[show ((i+1:Nat):Int)=(i:Int)+1 by omega];exact h)
   simp only[atL,gtL]
   by_cases h2:x.f0 < id
   ·rw[if_pos h2,if_neg zq21,h1]
   ·rw[if_neg h2,if_pos zq21]
theorem mem_ins {x key:S25} {l:List S25} {i:Nat} (hi:i≤l.length) (h:x ∈ l.insertIdx i key):x=key ∨ x ∈ l:=by
 rw[ins_eq key i l hi,List.mem_append,List.mem_cons] at h
 rcases h with h|h|h
 ·exact .inr (List.mem_of_mem_take h)
 ·exact .inl h
 ·exact .inr (List.mem_of_mem_drop h)
theorem installKey_both (k:Nat) (p:Int) (m:List S25) (id:Int) (b:List Int) (hm:m.length≤1048576) (hb:∀ x ∈ m,x.f1.length≤1048576) (hl:b.length≤1048576) (hk:1048577≤k):∃ r1 r2 r3,spec_InstallKey.f p m id b=some (r1,r2,r3)∧impl_InstallKey.f k p m id b=some (r1,r2,r3)∧r3.length≤1048576∧∀ x ∈ r3,x.f1.length≤1048576:=by
 have none:∀ x ∈ ([]:List S25),x.f1.length≤1048576:=fun x hx=>by cases hx
 unfold spec_InstallKey.f impl_InstallKey.f
 rw[if_pos ⟨okL_of m hm hb,zq21⟩,ring_fault k p m hm zq21,key_fault,place_f p m id hm,ownRing_eq k p m hm hb hk,ownKey_eq id b hl]
 simp only[Option.bind_some]
 by_cases h:ringFaultL p m=0
 ·have hlen:=len_of p m h
  rw[if_pos h,if_pos h]
  by_cases hu:keyC id b.length=0
  ·rw[if_pos hu,if_pos hu]
   by_cases hq:0≤placeL id m 0
   ·rw[if_pos hq,if_pos hq]
    exact⟨_,_,_,rfl,rfl,by simp,none⟩
   ·rw[if_neg hq,if_neg hq]
    by_cases h3:3≤m.length
    ·rw[if_pos h3,if_pos (show m.length=3 by omega)]
     exact⟨_,_,_,rfl,rfl,by simp,none⟩
    ·rw[if_neg h3,if_pos (show 0 < m.length by omega),if_neg (show ¬ m.length=3 by omega),if_pos (show 0 < m.length∧m.length < 1000 by omega),at_gt id m 0 (by rw[show ((0:Nat):Int)=0 from rfl];omega)]
     refine⟨_,_,_,rfl,rfl,?_,fun x hx=>?_⟩
     ·rw[List.length_insertIdx]
      split <;> omega
     ·rcases mem_ins (gtL_le id m) hx with rfl|hx
      ·exact hl
      ·exact hb x hx
  ·rw[if_neg hu,if_neg hu]
   exact⟨_,_,_,rfl,rfl,by simp,none⟩
 ·rw[if_neg h,if_neg h]
  exact⟨_,_,_,rfl,rfl,by simp,none⟩
end Go.Proofs.Ytmnhddedcbkpoaa.All
end
section
set_option linter.unusedVariables false
set_option linter.unusedSimpArgs false
namespace Go.Proofs.Ytmnhddedcbkpoaa.All
open Go.RowKit Go.Proofs.Ytmnhddedcbkpoaa.All Go.Proofs.YtmnhddedcbkpoaaW.PrintWords Go.Proofs.YtmnhddedcbkpoaaW.PrintLast Go.Proofs.YtmnhddedcbkpoaaW.PrintMore
theorem order_tail (x:S25) (xs:List S25) (h:orderL (x :: xs)=true):orderL xs=true:=by
 cases xs with
 | nil=>rfl
 | cons y ys=>
  simp only[orderL] at h
  by_cases hy:y.f0≤x.f0
  ·rw[if_pos hy] at h;cases h
  ·rw[if_neg hy] at h;exact h
theorem order_gt:∀ (xs:List S25) (x:S25),orderL (x :: xs)=true→∀ y ∈ xs,x.f0 < y.f0
 | [],_,_,y,hy=>by cases hy
 | z :: zs,x,h,y,hy=>by
  have ht:=order_tail x (z :: zs) h
  simp only[orderL] at h
  by_cases hz:z.f0≤x.f0
  ·rw[if_pos hz] at h;cases h
  ·rcases List.mem_cons.1 hy with rfl|hy
   ·omega
   ·have:=order_gt zs z ht y hy
    omega
theorem keep_none (id:Int):∀ (l:List S25),(∀ y ∈ l,id < y.f0)→keepL id l=l:=fun l h=>by
 unfold keepL
 rw[List.filter_eq_self]
 intro y hy
 have:=h y hy
 rw[bne_iff_ne]
 omega
theorem keep_erase (id:Int):∀ (l:List S25) (i:Nat),orderL l=true→¬ placeL id l (i:Int) < 0→keepL id l=l.eraseIdx (placeL id l (i:Int) - (i:Int)).toNat
 | [],i,_,h=>absurd (by simp[placeL]) h
 | x :: xs,i,ho,h=>by
  simp only[placeL] at h ⊢
  by_cases hx:x.f0=id
  ·rw[if_pos hx,Int.sub_self]
   have h1:=keep_none id xs (fun y hy=>by have:=order_gt xs x ho y hy;omega)
   unfold keepL at h1 ⊢
   simp[List.filter_cons,hx,h1]
  ·rw[if_neg hx] at h ⊢
   rw[show (i:Int)+1=((i+1:Nat):Int) by omega] at h ⊢
   have h1:=keep_erase id xs (i+1) (order_tail x xs ho) h
   have hb:=placeL_bd id xs (i+1)
   obtain⟨q,hq⟩:∃ q:Nat,placeL id xs ((i+1:Nat):Int)=((i+1+q:Nat):Int):=⟨(placeL id xs ((i+1:Nat):Int)).toNat - (i+1),zq21⟩
   rw[hq] at h1 ⊢
   rw[show (((i+1+q:Nat):Int) - ((i+1:Nat):Int)).toNat=q by omega] at h1
   rw[show (((i+1+q:Nat):Int) - (i:Int)).toNat=q+1 by omega]
   unfold keepL at h1 ⊢
   simp[List.filter_cons,hx,h1]
theorem order_of (p:Int) (l:List S25) (h:ringFaultL p l=0):orderL l=true:=by
 unfold ringFaultL at h
 by_cases h1:l.length < 1 ∨ 3 < l.length
 ·rw[if_pos h1] at h;cases h
 ·rw[if_neg h1] at h
  by_cases h2:faultsL l=0
  ·rw[if_pos h2] at h
   by_cases h3:orderL l=true
   ·exact h3
   ·rw[if_neg h3] at h;cases h
  ·rw[if_neg h2] at h
   exact absurd h h2
theorem removeKey_both (k:Nat) (p:Int) (m:List S25) (id:Int) (hm:m.length≤1048576) (hb:∀ x ∈ m,x.f1.length≤1048576) (hk:1048577≤k):∃ r1 r2 r3,spec_RemoveKey.f p m id=some (r1,r2,r3)∧impl_RemoveKey.f k p m id=some (r1,r2,r3)∧r3.length≤1048576∧∀ x ∈ r3,x.f1.length≤1048576:=by
 unfold spec_RemoveKey.f impl_RemoveKey.f impl_FindKey.f
 rw[if_pos (okL_of m hm hb),ring_fault k p m hm zq21,place_f p m id hm,ownRing_eq k p m hm hb hk]
 simp only[Option.bind_some]
 by_cases h:ringFaultL p m=0
 ·rw[if_pos h,if_pos h]
  by_cases hq:placeL id m 0 < 0
  ·rw[if_pos hq,if_pos hq]
   exact⟨_,_,_,rfl,rfl,by simp,fun x hx=>by cases hx⟩
  ·have hb2:=placeL_bd id m 0
   have hke:=keep_erase id m 0 (order_of p m h) hq
   rw[show ((0:Nat):Int)=0 from rfl] at hb2 hke
   rw[Int.sub_zero] at hke
   have hp0:=place_f p m id hm
   obtain⟨q,hqe⟩:∃ q:Nat,placeL id m 0=(q:Int):=⟨(placeL id m 0).toNat,zq21⟩
   rw[hqe] at hq hb2 hke hp0 ⊢
   have hql:q < m.length:=by omega
   have hk1:impl_ownKey.f (rd_T25 m (q:Int)).f0 (rd_T25 m (q:Int)).f1=some ((rd_T25 m (q:Int)).f0,(rd_T25 m (q:Int)).f1):=ownKey_eq _ _ (by rw[rd_get m q hql];exact hb _ (List.getElem_mem hql))
   have hql2:(q:Int) < (m.length:Int):=by omega
   have hq0:(0:Int)≤(q:Int):=by omega
   have hml:m.length < 140737488355328:=by omega
   by_cases he:p=id
   ·refine⟨8,0,[],?_,?_,by simp,fun x hx=>by cases hx⟩ <;> simp[hq,hql2,hq0,hk1,he]
   ·simp only[hq,hql2,hq0,hk1,he,hp0,if_false,if_true,Option.bind_some,hml,and_self,Int.toNat_natCast]
    exact⟨_,_,_,rfl,by rw[hke];rfl,Nat.le_trans (keep_len id m) hm,fun x hx=>hb x ((List.mem_filter.1 hx).1)⟩
 ·rw[if_neg h,if_neg h]
  simp only[Option.bind_some]
  rw[if_neg h]
  exact⟨_,_,_,rfl,rfl,by simp,fun x hx=>by cases hx⟩
end Go.Proofs.Ytmnhddedcbkpoaa.All
end
section
set_option linter.unusedVariables false
set_option linter.unusedSimpArgs false
namespace Go.Proofs.Ytmnhddedcbkpoaa.All
open Go.RowKit Go.Proofs.Ytmnhddedcbkpoaa.All Go.Proofs.YtmnhddedcbkpoaaW.PrintWords Go.Proofs.YtmnhddedcbkpoaaW.PrintLast Go.Proofs.YtmnhddedcbkpoaaW.PrintMore
theorem faults_all:∀ (l:List S25),faultsL l=0 ↔ ∀ x ∈ l,keyC x.f0 x.f1.length=0
 | []=>by simp[faultsL]
 | x :: xs=>by
  simp only[faultsL]
  by_cases h:keyC x.f0 x.f1.length=0
  ·rw[if_pos h,faults_all xs]
   simp[h]
  ·rw[if_neg h]
   exact⟨fun h2=>absurd h2 h,fun h2=>h2 x List.mem_cons_self⟩
theorem place_some (id:Int):∀ (l:List S25) (i:Nat),0≤placeL id l (i:Int) ↔ ∃ x ∈ l,x.f0=id
 | [],i=>by simp[placeL]
 | x :: xs,i=>by
  simp only[placeL]
  by_cases h:x.f0=id
  ·rw[if_pos h]
   exact⟨fun _=>⟨x,List.mem_cons_self,h⟩,fun _=>by omega⟩
  ·rw[if_neg h,show (i:Int)+1=((i+1:Nat):Int) by omega,place_some id xs (i+1)]
   constructor
   ·rintro ⟨y,hy,he⟩;exact⟨y,List.mem_cons_of_mem _ hy,he⟩
   ·rintro ⟨y,hy,he⟩
    rcases List.mem_cons.1 hy with rfl|hy
    ·exact absurd he h
    ·exact⟨y,hy,he⟩
theorem fault_iff (p:Int) (l:List S25):ringFaultL p l=0 ↔ (1≤l.length∧l.length≤3)∧(∀ x ∈ l,keyC x.f0 x.f1.length=0)∧orderL l=true∧∃ x ∈ l,x.f0=p:=by
 have hp:=place_some p l 0
 rw[show ((0:Nat):Int)=0 from rfl] at hp
 rw[← faults_all l,← hp]
 unfold ringFaultL
 by_cases h1:l.length < 1 ∨ 3 < l.length
 ·rw[if_pos h1]
  exact⟨fun h=>absurd h zq17,fun h=>by omega⟩
 ·rw[if_neg h1]
  by_cases h2:faultsL l=0
  ·rw[if_pos h2]
   by_cases h3:orderL l=true
   ·rw[if_pos h3]
    by_cases h4:placeL p l 0 < 0
    ·rw[if_pos h4];exact⟨fun h=>absurd h zq17,fun h=>by omega⟩
    ·rw[if_neg h4];exact⟨fun _=>⟨zq21,h2,h3,zq21⟩,fun _=>rfl⟩
   ·rw[if_neg h3];exact⟨fun h=>absurd h zq17,fun h=>absurd h.2.2.1 h3⟩
  ·rw[if_neg h2];exact⟨fun h=>absurd h h2,fun h=>absurd h.2.1 h2⟩
theorem order_cons (x:S25) (xs:List S25) (h:orderL xs=true) (hx:∀ y ∈ xs,x.f0 < y.f0):orderL (x :: xs)=true:=by
 cases xs with
 | nil=>rfl
 | cons y ys=>
  simp only[orderL]
  have:=hx y List.mem_cons_self
  rw[if_neg zq21]
  exact h
theorem order_keep (id:Int):∀ (l:List S25),orderL l=true→orderL (keepL id l)=true
 | [],_=>rfl
 | x :: xs,h=>by
  have h1:=order_keep id xs (order_tail x xs h)
  unfold keepL at h1 ⊢
  rw[List.filter_cons]
  split
  ·exact order_cons x _ h1 (fun y hy=>order_gt xs x h y (List.mem_filter.1 hy).1)
  ·exact h1
theorem order_ins (key:S25):∀ (l:List S25),orderL l=true→(∀ x ∈ l,x.f0≠key.f0)→orderL (l.insertIdx (gtL key.f0 l) key)=true
 | [],_,_=>rfl
 | x :: xs,h,hne=>by
  simp only[gtL]
  by_cases h1:key.f0 < x.f0
  ·rw[if_pos h1,List.insertIdx_zero]
   exact order_cons key (x :: xs) h (fun y hy=>by
    rcases List.mem_cons.1 hy with rfl|hy
    ·exact h1
    ·have:=order_gt xs x h y hy;omega)
  ·rw[if_neg h1,List.insertIdx_succ_cons]
   have hx:=hne x List.mem_cons_self
   exact order_cons x _ (order_ins key xs (order_tail x xs h) (fun y hy=>hne y (List.mem_cons_of_mem _ hy))) (fun y hy=>by
    rcases mem_ins (gtL_le key.f0 xs) hy with rfl|hy
    ·omega
    ·exact order_gt xs x h y hy)
theorem mem_of_ins {x key:S25} {l:List S25} {i:Nat} (hi:i≤l.length) (h:x=key ∨ x ∈ l):x ∈ l.insertIdx i key:=by
 rw[ins_eq key i l hi,List.mem_append,List.mem_cons]
 rcases h with h|h
 ·exact .inr (.inl h)
 ·rw[← List.take_append_drop i l,List.mem_append] at h
  rcases h with h|h
  ·exact .inl h
  ·exact .inr (.inr h)
theorem fault_ins (p:Int) (m:List S25) (id:Int) (b:List Int) (h:ringFaultL p m=0) (hk:keyC id b.length=0) (hq:placeL id m 0 < 0) (h3:m.length < 3):ringFaultL p (m.insertIdx (gtL id m) (⟨id,b⟩:S25))=0:=by
 rw[fault_iff] at h ⊢
 obtain⟨h1,h2,h4,x,hx,hp⟩:=h
 have hn:∀ x ∈ m,x.f0≠id:=fun x hx he=>by
  have:=(place_some id m 0).2 ⟨x,hx,he⟩
  rw[show ((0:Nat):Int)=0 from rfl] at this
  omega
 have hl:(m.insertIdx (gtL id m) (⟨id,b⟩:S25)).length=m.length+1:=by rw[List.length_insertIdx,if_pos (gtL_le id m)]
 refine⟨zq21,fun y hy=>?_,order_ins (⟨id,b⟩:S25) m h4 hn,x,mem_of_ins (gtL_le id m) (.inr hx),hp⟩
 rcases mem_ins (gtL_le id m) hy with rfl|hy
 ·exact hk
 ·exact h2 y hy
theorem fault_use (p:Int) (m:List S25) (id:Int) (h:ringFaultL p m=0) (hq:¬ placeL id m 0 < 0):ringFaultL id m=0:=by
 rw[fault_iff] at h ⊢
 refine⟨h.1,h.2.1,h.2.2.1,(place_some id m 0).1 ?_⟩
 rw[show ((0:Nat):Int)=0 from rfl]
 omega
theorem fault_keep (p:Int) (m:List S25) (id:Int) (h:ringFaultL p m=0) (hp:p≠id):ringFaultL p (keepL id m)=0:=by
 rw[fault_iff] at h ⊢
 obtain⟨h1,h2,h4,x,hx,he⟩:=h
 have hm:x ∈ keepL id m:=List.mem_filter.2 ⟨hx,by rw[bne_iff_ne,he];exact hp⟩
 have hl:=keep_len id m
 have hpos:0 < (keepL id m).length:=List.length_pos_of_mem hm
 exact⟨zq21,fun y hy=>h2 y (List.mem_filter.1 hy).1,order_keep id m h4,x,hm,he⟩
end Go.Proofs.Ytmnhddedcbkpoaa.All
end
