-- Laid by wip/shake.py of this repo out of this claim's texts. Not trusted: Lean checks it.
import Derived.Test.YtkjgdndaepobiaaAb0s
import Derived.Test.YtkjgdndaepobiaaAllx0s
import Derived.Test.YtkjgdndaepobiaaAllx196s
import Derived.Test.YtkjgdndaepobiaaAllx197s
import Derived.Test.YtkjgdndaepobiaaAllx20s
import Derived.Test.YtkjgdndaepobiaaAllx31s
import Derived.Test.YtkjgdndaepobiaaAllx32s
import Derived.Test.YtkjgdndaepobiaaAllx80s
import Derived.Test.YtkjgdndaepobiaaAllx523s
import Derived.Test.YtkjgdndaepobiaaAllx104s
import Derived.Test.YtkjgdndaepobiaaLemGroups
import Derived.Test.YtkjgdndaepobiaaAllx547s
import Derived.Test.YtkjgdndaepobiaaAllx533s
import Derived.Test.YtkjgdndaepobiaaAllx161s
section
namespace Go.Proofs.Ytkjgdndaepobiaa.All
open Go.RowKit Go.Proofs.YtkjgdndaepobiaaW.PrintWords Go.Proofs.YtkjgdndaepobiaaW.PrintLast Go.Proofs.YtkjgdndaepobiaaW.PrintMore
attribute [local go_sem] max2_int min2_int max_two min_two max_three min_three max_four min_four
set_option linter.unusedVariables false
set_option linter.unusedSimpArgs false
attribute [local go_sem] fldSeals42_0 fldSeals42_1
def laws_FnSeals.Pure:Prop:=∀ (l0:List Int),l0.length≤maxLen→l0.length*1≤140737488351232→(∀ x ∈ l0,(Lit.int .u8 x).wf=true)→∃ k,laws_FnSeals.f k l0=some true
theorem laws_FnSeals.walk (P:laws_FnSeals.Pure) (a0:Option Addr) (len0 cap0:Nat) (z0:List Int) (w:World) (w0:(a0=none∧len0=0∧cap0=0∧z0=[]) ∨ ∃ x,a0=some x∧len0≤cap0∧cap0≤maxLen∧z0.length=cap0∧(∀ i,i < z0.length→w.cell? (x.add i)=some (.int .u8 (z0.getD i 0)))∧∀ n ∈ z0,(Lit.int .u8 n).wf=true) (y0:len0*1≤140737488351232) :
  Calls Try.prog 5 #[.slice a0 len0 cap0] w fun e w'=>e=.returned (.bool true)∧Below w.heap.size w w':=by
 obtain⟨l0,rfl,hr0,hm0,hw0,hc0⟩:=ReadsInt.ofRowC w0
 obtain⟨k,h⟩:=P l0 hm0 y0 hw0
 refine(laws_FnSeals.calls k _ _ l0 true w (Kd.C_of_reads (d:=(0:Int)) (h1:=fun _=>rfl) hr0) hc0 h rfl).mono ?_
 rintro e w' ⟨rfl,hd⟩
 exact⟨rfl,hd⟩
end Go.Proofs.Ytkjgdndaepobiaa.All
end
section
set_option linter.unusedVariables false
set_option linter.unusedSimpArgs false
namespace Go.Proofs.Ytkjgdndaepobiaa.All
open Go.RowKit Go.Proofs.Ytkjgdndaepobiaa.All Go.Proofs.YtkjgdndaepobiaaW.PrintWords Go.Proofs.YtkjgdndaepobiaaW.PrintLast Go.Proofs.YtkjgdndaepobiaaW.PrintMore
theorem wr0 (x:Int) (h0:0≤x) (h1:x < 9223372036854775808):wrap64 x=x:=by unfold wrap64;omega
theorem rd_byte (l:List Int) (hb:∀ x ∈ l,0≤x∧x < 256) (i:Int):0≤rd l i∧rd l i < 256:=by
 unfold rd
 rw[List.getD_eq_getElem?_getD]
 rcases Nat.lt_or_ge i.toNat l.length with h|h
 ·rw[List.getElem?_eq_getElem h]
  exact hb _ (List.getElem_mem h)
 ·rw[List.getElem?_eq_none h]
  simp
theorem tm (x m:Int) (hx:0≤x) (hm:0 < m):0≤Int.tmod x m∧Int.tmod x m < m:=⟨Int.tmod_nonneg m hx,Int.tmod_lt_of_pos x hm⟩
theorem next_at (l:List Int) (hb:∀ x ∈ l,0≤x∧x < 256) (hl:l.length≤1099511627776) (n m:Int) (h0:0≤n) (h1:n≤1048576) (hm:1≤m):∃ v,spec_l1Next.f l n m=some (v,n+1)∧0≤v∧v < m:=by
 have e1:wrap64 (n+1)=n+1:=wr0 _ zq9 zq9
 have e2:wrap64 (n+1 - 1)=n:=by rw[wr0 _ zq9 zq9];omega
 have e3:wrap64 (n*7)=n*7:=wr0 _ zq9 zq9
 have e4:wrap64 (n+2)=n+2:=wr0 _ zq9 zq9
 unfold spec_l1Next.f
 rw[e1,e2,e1,e4,e3]
 rw[if_neg zq9]
 by_cases hz:(l.length:Int)=0
 ·rw[if_pos hz,if_neg zq9]
  exact⟨_,rfl,tm _ _ zq9 zq9⟩
 rw[if_neg hz]
 have t0:=tm n (l.length:Int) h0 zq9
 have t1:=tm (n+1) (l.length:Int) zq9 zq9
 have t2:=tm (n+2) (l.length:Int) zq9 zq9
 have b0:=rd_byte l hb (Int.tmod n (l.length:Int))
 have b1:=rd_byte l hb (Int.tmod (n+1) (l.length:Int))
 have b2:=rd_byte l hb (Int.tmod (n+2) (l.length:Int))
 have q0:0≤Int.tdiv n (l.length:Int)∧Int.tdiv n (l.length:Int)≤1048576:=by
  refine⟨Int.tdiv_nonneg h0 zq9,?_⟩
  rw[Int.tdiv_eq_ediv_of_nonneg h0]
  have:=Int.ediv_le_self (l.length:Int) h0
  omega
 rw[if_pos t0.1,if_pos t0.2]
 generalize rd l (Int.tmod n (l.length:Int))=a at *
 generalize rd l (Int.tmod (n+1) (l.length:Int))=b at *
 generalize rd l (Int.tmod (n+2) (l.length:Int))=c at *
 generalize Int.tdiv n (l.length:Int)=q at *
 have w1:wrap64 a=a:=wr0 _ zq9 zq9
 have w2:wrap64 b=b:=wr0 _ zq9 zq9
 have w3:wrap64 c=c:=wr0 _ zq9 zq9
 have w4:wrap64 q=q:=wr0 _ zq9 zq9
 have w5:wrap64 (q*37)=q*37:=wr0 _ zq9 zq9
 have w6:wrap64 (a+q*37)=a+q*37:=wr0 _ zq9 zq9
 have w7:wrap64 ((a+q*37)*251)=(a+q*37)*251:=wr0 _ zq9 zq9
 have w8:wrap64 (b*13)=b*13:=wr0 _ zq9 zq9
 have w9:wrap64 ((a+q*37)*251+b*13)=(a+q*37)*251+b*13:=wr0 _ zq9 zq9
 have w10:wrap64 ((a+q*37)*251+b*13+n)=(a+q*37)*251+b*13+n:=wr0 _ zq9 zq9
 have w11:wrap64 (((a+q*37)*251+b*13+n)*257)=((a+q*37)*251+b*13+n)*257:=wr0 _ zq9 zq9
 have w12:wrap64 (((a+q*37)*251+b*13+n)*257+c)=((a+q*37)*251+b*13+n)*257+c:=wr0 _ zq9 zq9
 simp only[w1,w2,w3,w4,w5,w6,w7,w8,w9,w10,w11,w12]
 by_cases h2:m > 200
 ·rw[if_pos h2,if_pos t1.1,if_pos t1.2]
  by_cases h6:m > 60000
  ·rw[if_pos h6,if_pos t2.1,if_pos t2.2,if_neg zq9]
   exact⟨_,rfl,tm _ _ zq9 zq9⟩
  ·rw[if_neg h6,if_neg zq9]
   exact⟨_,rfl,tm _ _ zq9 zq9⟩
 ·rw[if_neg h2,if_neg zq9,if_neg zq9]
  exact⟨_,rfl,tm _ _ zq9 zq9⟩
end Go.Proofs.Ytkjgdndaepobiaa.All
end
section
set_option linter.unusedVariables false
set_option linter.unusedSimpArgs false
namespace Go.Proofs.Ytkjgdndaepobiaa.All
open Go.RowKit Go.Proofs.Ytkjgdndaepobiaa.All Go.Proofs.YtkjgdndaepobiaaW.PrintWords Go.Proofs.YtkjgdndaepobiaaW.PrintLast Go.Proofs.YtkjgdndaepobiaaW.PrintMore
theorem chance_at2 (l:List Int) (hb:∀ x ∈ l,0≤x∧x < 256) (hl:l.length≤1099511627776) (n m:Int) (h0:0≤n) (h1:n≤1048576) (hm:1≤m):∃ b,spec_l1Chance.f l n m=some (b,n+1):=by
 unfold spec_l1Chance.f
 obtain⟨v,hv9_,_,_⟩:=next_at l hb hl n m h0 h1 hm
 rw[hv9_]
 exact⟨_,rfl⟩
end Go.Proofs.Ytkjgdndaepobiaa.All
end
section
set_option linter.unusedVariables false
set_option linter.unusedSimpArgs false
namespace Go.Proofs.Ytkjgdndaepobiaa.All
open Go.RowKit Go.Proofs.Ytkjgdndaepobiaa.All Go.Proofs.YtkjgdndaepobiaaW.PrintWords Go.Proofs.YtkjgdndaepobiaaW.PrintLast Go.Proofs.YtkjgdndaepobiaaW.PrintMore
theorem mod_bI2 (v:Int):∃ b:BitVec 8,v % 256=bI b:=⟨BitVec.ofNat 8 (v % 256).toNat,by rw[bI_ofNat _ zq9];omega⟩
theorem pick_at2 (l:List Int) (hb:∀ x ∈ l,0≤x∧x < 256) (hl:l.length≤1099511627776) (n:Int) (h0:0≤n) (h1:n≤1048576) (xs:List Int) (hx:1≤xs.length):∃ i:Int,spec_l1Pick.f l n xs=some (rd xs i,n+1)∧0≤i∧i < xs.length:=by
 unfold spec_l1Pick.f
 obtain⟨v,hv9_,v0,v1⟩:=next_at l hb hl n (xs.length:Int) h0 h1 zq9
 rw[hv9_]
 refine⟨v,?_,v0,v1⟩
 simp only[Option.bind_some]
 rw[if_pos v0,if_pos v1]
theorem some_loop (l:List Int) (hb:∀ x ∈ l,0≤x∧x < 256) (hl:l.length≤1099511627776):∀ (d K:Nat) (n:Int) (acc:List (BitVec 8)),0≤n→n+d≤1048576→acc.length+d≤1099511627776→d < K→∃ ys:List (BitVec 8),ys.length=acc.length+d∧spec_l1Some.l0 K (d:Int) (bL acc) l n=some (bL ys,n+d)
 | 0,K,n,acc,h0,h1,h2,hk=>by
  obtain⟨K,rfl⟩:∃ m,K=m+1:=⟨K - 1,zq9⟩
  refine⟨acc,rfl,?_⟩
  simp only[spec_l1Some.l0]
  rw[if_neg zq9]
  simp
 | d+1,K,n,acc,h0,h1,h2,hk=>by
  obtain⟨K,rfl⟩:∃ m,K=m+1:=⟨K - 1,zq9⟩
  obtain⟨v,hv9_,_,_⟩:=next_at l hb hl n 256 h0 zq9 zq9
  obtain⟨b,eb⟩:=mod_bI2 v
  obtain⟨ys,hy,he⟩:=some_loop l hb hl d K (n+1) (acc ++ [b]) zq9 zq9 zq189 zq9
  refine⟨ys,by rw[hy,List.length_append,List.length_singleton];omega,?_⟩
  have hw:wrap64 (((d+1:Nat):Int) - 1)=(d:Int):=by unfold wrap64;omega
  simp only[spec_l1Some.l0]
  rw[if_pos zq9,hv9_]
  simp only[Option.bind_some]
  rw[if_pos zq118,hw,eb,show bL acc ++ [bI b]=bL (acc ++ [b]) by rw[bL_append];rfl,he]
  congr 2
  omega
theorem some_at (l:List Int) (hb:∀ x ∈ l,0≤x∧x < 256) (hl:l.length≤1099511627776) (K:Nat) (n a:Int) (h0:0≤n) (h1:n≤1000) (ha:0≤a) (ha2:a≤1000) (hk:1000 < K):∃ ys:List (BitVec 8),(ys.length:Int)=a∧spec_l1Some.f K l n a=some (bL ys,n+a):=by
 obtain⟨d,rfl⟩:∃ d:Nat,a=d:=⟨a.toNat,zq9⟩
 obtain⟨ys,hy,he⟩:=some_loop l hb hl d K n [] h0 zq9 (by simp;omega) zq9
 exact⟨ys,by rw[hy];simp,he⟩
theorem pick_bnd (xs:List Int) (lo hi:Int) (hx:∀ x ∈ xs,lo≤x∧x≤hi) (i:Int) (h0:0≤i) (h1:i < xs.length):lo≤rd xs i∧rd xs i≤hi:=by
 unfold rd
 rw[List.getD_eq_getElem?_getD,List.getElem?_eq_getElem zq9]
 exact hx _ (List.getElem_mem _)
end Go.Proofs.Ytkjgdndaepobiaa.All
end
section
set_option linter.unusedVariables false
set_option linter.unusedSimpArgs false
namespace Go.Proofs.Ytkjgdndaepobiaa.All
open Go.RowKit Go.Proofs.Ytkjgdndaepobiaa.All Go.Proofs.YtkjgdndaepobiaaW.PrintWords Go.Proofs.YtkjgdndaepobiaaW.PrintLast Go.Proofs.YtkjgdndaepobiaaW.PrintMore
theorem later_at (l:List Int):spec_l1Later.f l 1=some (l,12):=by
 unfold spec_l1Later.f
 rw[show wrap64 (5+wrap64 (7*1))=12 by decide +kernel]
end Go.Proofs.Ytkjgdndaepobiaa.All
end
section
set_option linter.unusedVariables false
set_option linter.unusedSimpArgs false
namespace Go.Proofs.Ytkjgdndaepobiaa.All
open Go.RowKit Go.Proofs.Ytkjgdndaepobiaa.All Go.Proofs.YtkjgdndaepobiaaW.PrintWords Go.Proofs.YtkjgdndaepobiaaW.PrintLast Go.Proofs.YtkjgdndaepobiaaW.PrintMore
def rdW (a:Int) (b:BitVec 8):Int:=wrap64 (wrap64 (a*256)+wrap64 (bI b))
theorem rdW_nat (n:Nat) (b:BitVec 8) (h:n < 1099511627776):rdW (n:Int) b=((n*256+b.toNat:Nat):Int):=by
 have:=b.isLt
 unfold rdW bI wrap64
 omega
theorem read_loop (xs:List (BitVec 8)) (s n:Nat) (hs:s+n≤xs.length) (hl:xs.length < 1099511627776) (d:Nat):∀ (k j:Nat) (acc:Int),j+d=n→d < k→spec_l1Read.l0 k (bL xs) (s:Int) (n:Int) acc (j:Int)=some (((xs.drop (s+j)).take d).foldl rdW acc):=by
 induction d with
 | zero=>
  intro k j acc hi hk
  obtain⟨k,rfl⟩:∃ m,k=m+1:=⟨k - 1,zq9⟩
  simp only[spec_l1Read.l0]
  rw[if_neg zq9]
  simp
 | succ d ih=>
  intro k j acc hi hk
  obtain⟨k,rfl⟩:∃ m,k=m+1:=⟨k - 1,zq9⟩
  have hw:wrap64 ((j:Int)+1)=((j+1:Nat):Int):=by unfold wrap64;omega
  have hv9_:wrap64 ((s:Int)+(j:Int))=((s+j:Nat):Int):=by unfold wrap64;omega
  have hx:xs.drop (s+j)=xs.getD (s+j) 0#8 :: xs.drop (s+j+1):=by
   rw[List.drop_eq_getElem_cons zq9,List.getD_eq_getElem?_getD,List.getElem?_eq_getElem zq9]
   rfl
  simp only[spec_l1Read.l0,bL_length,hv9_]
  rw[if_pos zq9,if_pos zq9,if_pos zq9,rd_bL,Int.toNat_natCast,hw,ih k (j+1) _ zq9 zq9,hx]
  rfl
theorem read_at (k:Nat) (xs:List (BitVec 8)) (s n:Nat) (hs:s+n≤xs.length) (hl:xs.length < 1099511627776) (hk:n < k):spec_l1Read.f k (bL xs) (s:Int) (n:Int)=some (((xs.drop s).take n).foldl rdW 0):=by
 unfold spec_l1Read.f
 exact read_loop xs s n hs hl n k 0 0 zq9 hk
end Go.Proofs.Ytkjgdndaepobiaa.All
end
section
set_option linter.unusedVariables false
set_option linter.unusedSimpArgs false
namespace Go.Proofs.Ytkjgdndaepobiaa.All
open Go.RowKit Go.Proofs.Ytkjgdndaepobiaa.All Go.Proofs.YtkjgdndaepobiaaW.PrintWords Go.Proofs.YtkjgdndaepobiaaW.PrintLast Go.Proofs.YtkjgdndaepobiaaW.PrintMore
theorem fold4 {α:Type} (f:α→BitVec 8→α) (z:α) (p0 p1 p2 p3 p4 p5 p6 p7 p8 p9 p10 p11 a b c d:BitVec 8):(([p0,p1,p2,p3,p4,p5,p6,p7,p8,p9,p10,p11,a,b,c,d].drop 12).take 4).foldl f z=f (f (f (f z a) b) c) d:=rfl
theorem read4 (k:Nat) (hk:4 < k) (p0 p1 p2 p3 p4 p5 p6 p7 p8 p9 p10 p11 a b c d:BitVec 8):spec_l1Read.f k (bL [p0,p1,p2,p3,p4,p5,p6,p7,p8,p9,p10,p11,a,b,c,d]) ((12:Nat):Int) ((4:Nat):Int)=some ((a.toNat*16777216+b.toNat*65536+c.toNat*256+d.toNat:Nat):Int):=by
 have ha:=a.isLt
 have hb:=b.isLt
 have hc:=c.isLt
 have hd:=d.isLt
 rw[read_at k _ 12 4 zq101 zq101 hk]
 rw[fold4]
 rw[show (0:Int)=((0:Nat):Int) from rfl,rdW_nat 0 a zq9,rdW_nat _ b zq9,rdW_nat _ c zq9,rdW_nat _ d zq9]
 have e:∀ y z:Nat,y=z→some (y:Int)=some (z:Int):=fun y z h=>by rw[h]
 apply e
 omega
theorem pack4 (k:Nat) (hk:4 < k) (n:Nat) (hn:n < 2 ^ 32):spec_l1Pack.f k (n:Int) ((4:Nat):Int)=some (bL [BitVec.ofNat 8 (n / 16777216),BitVec.ofNat 8 (n / 65536),BitVec.ofNat 8 (n / 256),BitVec.ofNat 8 n]):=by
 obtain⟨k,rfl⟩:∃ m,k=m+5:=⟨k - 5,zq9⟩
 have q:∀ m:Nat,m < 2 ^ 40→wrap64 (Int.tdiv (m:Int) 256)=((m / 256:Nat):Int):=fun m hm=>by
  rw[Int.tdiv_eq_ediv_of_nonneg zq9];unfold wrap64;omega
 have r:∀ m:Nat,Int.tmod (m:Int) 256 % 256=((m % 256:Nat):Int):=fun m=>by
  rw[Int.tmod_eq_emod_of_nonneg zq9];omega
 rw[show ((4:Nat):Int)=4 from rfl]
 unfold spec_l1Pack.f
 rw[if_pos zq9,if_pos zq22]
 simp only[spec_l1Pack.l0,show wrap64 ((4:Int) - 1)=3 by decide +kernel,show wrap64 ((3:Int) - 1)=2 by decide +kernel,show wrap64 ((2:Int) - 1)=1 by decide +kernel,show wrap64 ((1:Int) - 1)=0 by decide +kernel,show wrap64 ((0:Int) - 1)=-1 by decide +kernel,r]
 rw[q n zq9]
 simp only[r]
 rw[q _ zq9]
 simp only[r]
 rw[q _ zq9]
 simp only[r]
 simp[bL,bI]
 omega
theorem list16 (m:List (BitVec 8)) (h:m.length=16):∃ p0 p1 p2 p3 p4 p5 p6 p7 p8 p9 p10 p11 a b c d,m=[p0,p1,p2,p3,p4,p5,p6,p7,p8,p9,p10,p11,a,b,c,d]:=by
 refine⟨by_ m 0,by_ m 1,by_ m 2,by_ m 3,by_ m 4,by_ m 5,by_ m 6,by_ m 7,by_ m 8,by_ m 9,by_ m 10,by_ m 11,by_ m 12,by_ m 13,by_ m 14,by_ m 15,?_⟩
 have:=(tab_self m).symm
 rw[h] at this
 exact this
theorem succ_ne (d:BitVec 8):d+1#8≠0#8 ↔ d.toNat≠255:=by
 rw[Ne,← BitVec.toNat_inj,BitVec.toNat_add]
 have:=d.isLt
 simp
 omega
theorem upTo_stop (xs:List (BitVec 8)) (n i:Nat) (h:by_ xs i+1#8≠0#8):upTo xs (n+1) i=xs.set i (by_ xs i+1#8):=by
 rw[upTo,if_pos h]
theorem upTo_go (xs:List (BitVec 8)) (n i:Nat) (h:¬ (by_ xs i+1#8≠0#8)):upTo xs (n+1) i=upTo (xs.set i (by_ xs i+1#8)) n (i - 1):=by
 rw[upTo,if_neg h]
theorem ofN (n:Nat) (x:BitVec 8) (hx:n % 256=x.toNat):BitVec.ofNat 8 n=x:=BitVec.eq_of_toNat_eq (by simpa using hx)
theorem succ1 (x:BitVec 8) (hx:x+1#8≠0#8):(x+1#8).toNat=x.toNat+1∧x.toNat≠255:=by
 rw[succ_ne] at hx;rw[BitVec.toNat_add];have:=x.isLt;simp;omega
theorem succ0 (x:BitVec 8) (hx:¬ (x+1#8≠0#8)):(x+1#8).toNat=0∧x.toNat=255:=by
 rw[succ_ne] at hx;rw[BitVec.toNat_add];have:=x.isLt;simp;omega
theorem up_list (p0 p1 p2 p3 p4 p5 p6 p7 p8 p9 p10 p11 a b c d:BitVec 8) (n:Nat) (hn:n=(a.toNat*16777216+b.toNat*65536+c.toNat*256+d.toNat+1) % 4294967296) :
  [p0,p1,p2,p3,p4,p5,p6,p7,p8,p9,p10,p11,BitVec.ofNat 8 (n / 16777216),BitVec.ofNat 8 (n / 65536),BitVec.ofNat 8 (n / 256),BitVec.ofNat 8 n]=upL [p0,p1,p2,p3,p4,p5,p6,p7,p8,p9,p10,p11,a,b,c,d]:=by
 have ha:=a.isLt
 have hb:=b.isLt
 have hc:=c.isLt
 have hd:=d.isLt
 by_cases h3:d+1#8≠0#8
 ·obtain⟨s3,t3⟩:=succ1 d h3
  refine Eq.trans ?_ (upTo_stop [p0,p1,p2,p3,p4,p5,p6,p7,p8,p9,p10,p11,a,b,c,d] 3 15 h3).symm
  rw[ofN (n / 16777216) a zq9,ofN (n / 65536) b zq9,ofN (n / 256) c zq9,ofN n (d+1#8) zq9]
  rfl
 obtain⟨s3,t3⟩:=succ0 d h3
 refine Eq.trans ?_ (upTo_go [p0,p1,p2,p3,p4,p5,p6,p7,p8,p9,p10,p11,a,b,c,d] 3 15 h3).symm
 by_cases h2:c+1#8≠0#8
 ·obtain⟨s2,t2⟩:=succ1 c h2
  refine Eq.trans ?_ (upTo_stop [p0,p1,p2,p3,p4,p5,p6,p7,p8,p9,p10,p11,a,b,c,d+1#8] 2 14 h2).symm
  rw[ofN (n / 16777216) a zq9,ofN (n / 65536) b zq9,ofN (n / 256) (c+1#8) zq9,ofN n (d+1#8) zq9]
  rfl
 obtain⟨s2,t2⟩:=succ0 c h2
 refine Eq.trans ?_ (upTo_go [p0,p1,p2,p3,p4,p5,p6,p7,p8,p9,p10,p11,a,b,c,d+1#8] 2 14 h2).symm
 by_cases h1:b+1#8≠0#8
 ·obtain⟨s1,t1⟩:=succ1 b h1
  refine Eq.trans ?_ (upTo_stop [p0,p1,p2,p3,p4,p5,p6,p7,p8,p9,p10,p11,a,b,c+1#8,d+1#8] 1 13 h1).symm
  rw[ofN (n / 16777216) a zq9,ofN (n / 65536) (b+1#8) zq9,ofN (n / 256) (c+1#8) zq9,ofN n (d+1#8) zq9]
  rfl
 obtain⟨s1,t1⟩:=succ0 b h1
 refine Eq.trans ?_ (upTo_go [p0,p1,p2,p3,p4,p5,p6,p7,p8,p9,p10,p11,a,b,c+1#8,d+1#8] 1 13 h1).symm
 by_cases h0:a+1#8≠0#8
 ·obtain⟨s0,t0⟩:=succ1 a h0
  refine Eq.trans ?_ (upTo_stop [p0,p1,p2,p3,p4,p5,p6,p7,p8,p9,p10,p11,a,b+1#8,c+1#8,d+1#8] 0 12 h0).symm
  rw[ofN (n / 16777216) (a+1#8) zq9,ofN (n / 65536) (b+1#8) zq9,ofN (n / 256) (c+1#8) zq9,ofN n (d+1#8) zq9]
  rfl
 obtain⟨s0,t0⟩:=succ0 a h0
 refine Eq.trans ?_ (upTo_go [p0,p1,p2,p3,p4,p5,p6,p7,p8,p9,p10,p11,a,b+1#8,c+1#8,d+1#8] 0 12 h0).symm
 rw[ofN (n / 16777216) (a+1#8) zq9,ofN (n / 65536) (b+1#8) zq9,ofN (n / 256) (c+1#8) zq9,ofN n (d+1#8) zq9]
 rfl
theorem l3Count_at (k:Nat) (m:List (BitVec 8)) (h:m.length=16) (hk:4 < k):spec_l3Count.f k (bL m)=some (bL (upL m)):=by
 obtain⟨p0,p1,p2,p3,p4,p5,p6,p7,p8,p9,p10,p11,a,b,c,d,rfl⟩:=list16 m h
 have ha:=a.isLt
 have hb:=b.isLt
 have hc:=c.isLt
 have hd:=d.isLt
 unfold spec_l3Count.f
 rw[show (12:Int)=((12:Nat):Int) from rfl,show (4:Int)=((4:Nat):Int) from rfl,read4 k hk]
 simp only[Option.bind_some]
 rw[if_pos (by simp[bL]),show Int.tmod (wrap64 (((a.toNat*16777216+b.toNat*65536+c.toNat*256+d.toNat:Nat):Int)+1)) 4294967296=(((a.toNat*16777216+b.toNat*65536+c.toNat*256+d.toNat+1) % 4294967296:Nat):Int) from by
  rw[show wrap64 (((a.toNat*16777216+b.toNat*65536+c.toNat*256+d.toNat:Nat):Int)+1)=((a.toNat*16777216+b.toNat*65536+c.toNat*256+d.toNat+1:Nat):Int) by unfold wrap64;omega]
  rw[Int.tmod_eq_emod_of_nonneg zq9]
  omega]
 rw[pack4 k hk _ zq9]
 unfold spec_l1Copy.f
 simp only[Option.bind_some,bL_take]
 rw[if_pos (by simp[bL])]
 simp only[Option.bind_some]
 rw[if_pos (by simp[bL])]
 rw[← bL_nil,← bL_append,← bL_append,← up_list _ _ _ _ _ _ _ _ _ _ _ _ _ _ _ _ _ rfl]
 rfl
end Go.Proofs.Ytkjgdndaepobiaa.All
end
section
set_option linter.unusedVariables false
set_option linter.unusedSimpArgs false
namespace Go.Proofs.Ytkjgdndaepobiaa.All
open Go.RowKit Go.Proofs.Ytkjgdndaepobiaa.All Go.Proofs.YtkjgdndaepobiaaW.PrintWords Go.Proofs.YtkjgdndaepobiaaW.PrintLast Go.Proofs.YtkjgdndaepobiaaW.PrintMore
def xr (a b:List Int) (i:Nat):Int:=Go.bits .xor .u8 (rd a (i:Int)) (rd b (i:Int))
def xrL (a b:List Int) (n:Nat):List Int:=(List.range n).map (xr a b)
theorem xrL_length (a b:List Int) (n:Nat):(xrL a b n).length=n:=by simp[xrL]
theorem xrL_succ (a b:List Int) (n:Nat):xrL a b (n+1)=xrL a b n ++ [xr a b n]:=by simp[xrL,List.range_succ]
theorem xorSpec_loop (a b:List Int) (hl:b.length=a.length) (hn:a.length < 1099511627776) (d:Nat):∀ (k i:Nat),i+d=a.length→d < k→spec_l1Xor.l0 k a b (xrL a b i) (i:Int)=some (xrL a b a.length):=by
 induction d with
 | zero=>
  intro k i hi hk
  obtain⟨k,rfl⟩:∃ m,k=m+1:=⟨k - 1,zq9⟩
  obtain rfl:i=a.length:=by omega
  simp only[spec_l1Xor.l0]
  rw[if_neg zq9]
 | succ d ih=>
  intro k i hi hk
  obtain⟨k,rfl⟩:∃ m,k=m+1:=⟨k - 1,zq9⟩
  have hw:wrap64 ((i:Int)+1)=((i+1:Nat):Int):=by unfold wrap64;omega
  simp only[spec_l1Xor.l0]
  rw[if_pos zq9,if_pos zq9,if_pos zq9,if_pos (by rw[xrL_length];omega),hw]
  have h:=ih k (i+1) zq9 zq9
  rw[xrL_succ] at h
  exact h
end Go.Proofs.Ytkjgdndaepobiaa.All
end
section
set_option linter.unusedVariables false
set_option linter.unusedSimpArgs false
namespace Go.Proofs.Ytkjgdndaepobiaa.All
open Go.RowKit Go.Proofs.Ytkjgdndaepobiaa.All Go.Proofs.YtkjgdndaepobiaaW.PrintWords Go.Proofs.YtkjgdndaepobiaaW.PrintLast Go.Proofs.YtkjgdndaepobiaaW.PrintMore
def xorB (a b:List (BitVec 8)):List (BitVec 8):=tab 16 fun i=>by_ a i ^^^ by_ b i
theorem xorB_length (a b:List (BitVec 8)):(xorB a b).length=16:=tab_length _ _
theorem by_outL (h l j:Nat) (hj:j < 16):by_ (outL h l 8) j=outAt h l j:=by
 unfold outL
 rw[tab_get _ _ _ hj,if_pos zq9]
theorem vB_bV (v:BitVec 128):vB (bV v)=v:=by
 apply BitVec.eq_of_getLsbD_eq
 intro i hi
 have h:=vB_bit (bV v) (bV_length v) (127 - i) zq9
 rw[show 127 - (127 - i)=i by omega] at h
 rw[h]
 unfold bV
 rw[by_outL _ _ _ zq9]
 unfold outAt
 have p:∀ n:Nat,256 ^ n=2 ^ (8*n):=fun n=>by rw[Nat.pow_mul]
 by_cases hq:(127 - i) / 8 < 8
 ·rw[if_pos hq,BitVec.getLsbD_ofNat,decide_eq_true (show 7 - (127 - i) % 8 < 8 by omega),Bool.true_and,p,Nat.testBit_div_two_pow]
  show (hiW v).getLsbD _=_
  unfold hiW
  rw[BitVec.getLsbD_extractLsb',decide_eq_true zq9,Bool.true_and]
  congr 1
  omega
 ·rw[if_neg hq,BitVec.getLsbD_ofNat,decide_eq_true (show 7 - (127 - i) % 8 < 8 by omega),Bool.true_and,p,Nat.testBit_div_two_pow]
  show (loW v).getLsbD _=_
  unfold loW
  rw[BitVec.getLsbD_extractLsb',decide_eq_true zq9,Bool.true_and]
  congr 1
  omega
theorem vB_xor (a b:List (BitVec 8)) (ha:a.length=16) (hb:b.length=16):vB (xorB a b)=vB a ^^^ vB b:=by
 apply BitVec.eq_of_getLsbD_eq
 intro i hi
 have h:=vB_bit (xorB a b) (xorB_length a b) (127 - i) zq9
 have h1:=vB_bit a ha (127 - i) zq9
 have h2:=vB_bit b hb (127 - i) zq9
 rw[show 127 - (127 - i)=i by omega] at h h1 h2
 rw[BitVec.getLsbD_xor,h,h1,h2]
 unfold xorB
 rw[tab_get _ _ _ zq9,BitVec.getLsbD_xor]
theorem l1Xor16 (k:Nat) (hk:16 < k) (a b:List (BitVec 8)) (ha:a.length=16) (hb:b.length=16):spec_l1Xor.f k (bL a) (bL b)=some (bL (xorB a b)):=by
 have h:=xorSpec_loop (bL a) (bL b) (by rw[bL_length,bL_length,ha,hb]) zq118 16 k 0 zq118 hk
 rw[show xrL (bL a) (bL b) 0=[] from rfl,show ((0:Nat):Int)=0 from rfl,bL_length,ha] at h
 unfold spec_l1Xor.f
 rw[h]
 congr 1
 unfold xrL xorB tab bL
 rw[List.map_map]
 refine List.map_congr_left fun i _=>?_
 show xr (bL a) (bL b) i=bI (by_ a i ^^^ by_ b i)
 unfold xr
 rw[rd_bL,rd_bL,bI_xor,Int.toNat_natCast]
 rfl
theorem hash_step (hm:List (BitVec 8)) (hh:hm.length=16) (d L:List (BitVec 8)) (hL:L.length=16) (K i:Nat) (hi:16*(i+1)≤d.length) (hl:d.length < 1099511627776) (hK:200≤K) :
  spec_l3Hash.l0 (K+1) (bL hm) (bL d) (bL L) ((16*i:Nat):Int)=spec_l3Hash.l0 K (bL hm) (bL d) (bL (bV (gM (vB L ^^^ vB ((d.drop (16*i)).take 16)) (vB hm)))) ((16*(i+1):Nat):Int):=by
 have w1:wrap64 (((16*i:Nat):Int)+16)=((16*(i+1):Nat):Int):=by unfold wrap64;omega
 have hc:((bL d).take (16*(i+1))).drop (16*i)=bL ((d.drop (16*i)).take 16):=by
  rw[bL_take,bL_drop,List.drop_take,show 16*(i+1) - 16*i=16 by omega]
 have hcl:((d.drop (16*i)).take 16).length=16:=by rw[List.length_take,List.length_drop];omega
 generalize (d.drop (16*i)).take 16=C at hc hcl
 have hx:=l1Xor16 K zq9 L C hL hcl
 have ht:=l3Times_at K zq9 (xorB L C) hm (xorB_length _ _) hh
 rw[vB_xor L C hL hcl,gM_comm] at ht
 have h1:((16*(i+1):Nat):Int)≤((bL d).length:Int):=by rw[bL_length];omega
 have h2:(0:Int)≤((16*i:Nat):Int):=by omega
 have h3:((16*i:Nat):Int)≤((16*(i+1):Nat):Int):=by omega
 generalize bL (bV (gM (vB L ^^^ vB C) (vB hm)))=T at ht
 generalize bL (xorB L C)=X at hx ht
 generalize bL C=Y at hc hx
 generalize bL L=Z at hx
 simp only[spec_l3Hash.l0]
 rw[w1,if_pos h1,if_pos h2,if_pos h3,Int.toNat_natCast,Int.toNat_natCast,hc,hx]
 simp only[Option.bind_some]
 rw[ht]
 simp only[Option.bind_some]
theorem hash_end (K i:Nat) (hm d:List (BitVec 8)) (Z:List Int) (hi:d.length=16*i) (hl:d.length < 1099511627776):spec_l3Hash.l0 (K+1) (bL hm) (bL d) Z ((16*i:Nat):Int)=some Z:=by
 have w1:wrap64 (((16*i:Nat):Int)+16)=((16*(i+1):Nat):Int):=by unfold wrap64;omega
 simp only[spec_l3Hash.l0]
 rw[w1,if_neg zq118]
theorem hv_succ (h:BitVec 128) (n:Nat) (d:List (BitVec 8)) (s:BitVec 128):hv h (n+1) d s=hv h n (d.drop 16) (gM (s ^^^ vB (d.take 16)) h):=by rw[hv]
theorem hv_zero (h:BitVec 128) (d:List (BitVec 8)) (s:BitVec 128):hv h 0 d s=s:=by rw[hv]
theorem hash_loop (hm:List (BitVec 8)) (hh:hm.length=16) (d:List (BitVec 8)) (hl:d.length < 1099511627776) (n:Nat):∀ (K i:Nat) (s:BitVec 128),d.length=16*(i+n)→200≤K→spec_l3Hash.l0 (K+(n+1)) (bL hm) (bL d) (bL (bV s)) ((16*i:Nat):Int)=some (bL (bV (hv (vB hm) n (d.drop (16*i)) s))):=by
 induction n with
 | zero=>
  intro K i s hd hK
  rw[hv_zero]
  exact hash_end K i hm d _ zq9 hl
 | succ n ih=>
  intro K i s hd hK
  have hs:=hash_step hm hh d (bV s) (bV_length s) (K+(n+1)) i zq9 hl zq9
  rw[vB_bV] at hs
  have e:(d.drop (16*i)).drop 16=d.drop (16*(i+1)):=by rw[List.drop_drop];congr 1
  rw[hv_succ,e]
  generalize gM (s ^^^ vB ((d.drop (16*i)).take 16)) (vB hm)=s2 at hs ⊢
  rw[show K+(n+1+1)=K+(n+1)+1 from rfl,hs]
  exact ih K (i+1) s2 zq9 hK
theorem bV_zero:bL (bV 0#128)=List.replicate 16 0:=by decide +kernel
end Go.Proofs.Ytkjgdndaepobiaa.All
end
section
set_option linter.unusedVariables false
set_option linter.unusedSimpArgs false
namespace Go.Proofs.Ytkjgdndaepobiaa.All
open Go.RowKit Go.Proofs.Ytkjgdndaepobiaa.All Go.Proofs.YtkjgdndaepobiaaW.PrintWords Go.Proofs.YtkjgdndaepobiaaW.PrintLast Go.Proofs.YtkjgdndaepobiaaW.PrintMore
theorem take_snoc_str (ks m d:List (BitVec 8)) (t:Nat) (h:t < d.length):(streamL ks m d).take (t+1)=(streamL ks m d).take t ++ [by_ d t ^^^ padL ks m t]:=by
 have hl:t < (streamL ks m d).length:=by rw[streamL_length];exact h
 rw[List.take_succ_eq_append_getElem hl]
 congr 2
 have e:by_ (streamL ks m d) t=by_ d t ^^^ padL ks m t:=tab_get _ _ _ h
 rw[← e]
 unfold by_
 rw[List.getD_eq_getElem?_getD,List.getElem?_eq_getElem hl]
 rfl
theorem str_pad (ks m d:List (BitVec 8)) (q i:Nat) (hi:i < 16) (h:16*q+i < d.length) (hl:d.length < 1099511627776) :
  Go.bits .xor .u8 (rd (bL d) (wrap64 (((16*q:Nat):Int)+(i:Int)))) (rd (bL (encL ks (upN m q))) (i:Int))=bI (by_ d (16*q+i) ^^^ padL ks m (16*q+i)):=by
 have w1:wrap64 (((16*q:Nat):Int)+(i:Int))=((16*q+i:Nat):Int):=by unfold wrap64;omega
 have hp:padL ks m (16*q+i)=by_ (encL ks (upN m q)) i:=by
  have:=pad_at ks m q (16*q) (16*q+i) rfl zq9 zq9
  rw[← this,show 16*q+i - 16*q=i by omega]
 rw[w1,rd_bL,rd_bL,bI_xor,hp,Int.toNat_natCast,Int.toNat_natCast]
 rfl
theorem str_end (K q:Nat) (ks m d:List (BitVec 8)) (X:List Int) (h:d.length≤16*q):spec_l3Stream.l0 (K+1) (bL ks) X (bL d) (bL ((streamL ks m d).take (16*q))) ((16*q:Nat):Int)=some (bL (streamL ks m d)):=by
 simp only[spec_l3Stream.l0]
 rw[if_neg zq118,List.take_of_length_le zq203]
theorem str_inner (ks m d:List (BitVec 8)) (hm:m.length=16) (hl:d.length < 1099511627776) (q K0:Nat)
  (ih:∀ K,K0≤K→spec_l3Stream.l0 K (bL ks) (bL (upN m (q+1))) (bL d) (bL ((streamL ks m d).take (16*(q+1)))) ((16*(q+1):Nat):Int)=some (bL (streamL ks m d))) :
  ∀ j i K,i+j=16→16*q+i≤d.length→K0+j+6≤K→spec_l3Stream.l1 K (bL ks) (bL (upN m q)) (bL d) (bL ((streamL ks m d).take (16*q+i))) ((16*q:Nat):Int) (bL (encL ks (upN m q))) (i:Int)=some (bL (streamL ks m d)):=by
 have w2:wrap64 (((16*q:Nat):Int)+16)=((16*(q+1):Nat):Int) ∨ 1099511627776≤16*q:=by
  by_cases h:16*q < 1099511627776
  ·left;unfold wrap64;omega
  ·right;omega
 have hup:bL (upL (upN m q))=bL (upN m (q+1)):=rfl
 intro j
 induction j with
 | zero=>
  intro i K hij hle hK
  obtain⟨k,rfl⟩:∃ k,K=k+1:=⟨K - 1,zq9⟩
  rcases w2 with w2|w2
  ·simp only[spec_l3Stream.l1]
   rw[if_neg zq9,l3Count_at k _ (upN_length m q hm) zq9]
   simp only[Option.bind_some]
   rw[hup,w2,show 16*q+i=16*(q+1) by omega]
   exact ih k zq9
  ·omega
 | succ j jh=>
  intro i K hij hle hK
  obtain⟨k,rfl⟩:∃ k,K=k+1:=⟨K - 1,zq9⟩
  have w1:wrap64 (((16*q:Nat):Int)+(i:Int))=((16*q+i:Nat):Int):=by unfold wrap64;omega
  have w3:wrap64 ((i:Int)+1)=((i+1:Nat):Int):=by unfold wrap64;omega
  by_cases h:16*q+i < d.length
  ·have hp:=str_pad ks m d q i zq9 h hl
   have h2:=jh (i+1) k zq9 zq9 zq9
   rw[show 16*q+(i+1)=16*q+i+1 by omega,take_snoc_str ks m d _ h,bL_append] at h2
   simp only[spec_l3Stream.l1]
   rw[if_pos zq9,hp,w1,if_pos zq118,if_pos zq9,if_pos zq9,if_pos (by rw[bL_length,encL_length];omega),if_pos (by rw[bL_length,List.length_take];omega),w3]
   exact h2
  ·rcases w2 with w2|w2
   ·have e:16*q+i=d.length:=by omega
    have e2:(streamL ks m d).take (16*q+i)=(streamL ks m d).take (16*(q+1)):=by
     rw[List.take_of_length_le zq203,List.take_of_length_le zq203]
    simp only[spec_l3Stream.l1]
    rw[if_pos zq9,w1,if_neg zq118,l3Count_at k _ (upN_length m q hm) zq9]
    simp only[Option.bind_some]
    rw[hup,w2,e2]
    exact ih k zq9
   ·omega
theorem str_outer (ks m d:List (BitVec 8)) (hk:ks.length=176) (hm:m.length=16) (hl:d.length < 1099511627776):∀ p q K,d.length≤16*(q+p)→40*p+1≤K →
  spec_l3Stream.l0 K (bL ks) (bL (upN m q)) (bL d) (bL ((streamL ks m d).take (16*q))) ((16*q:Nat):Int)=some (bL (streamL ks m d)):=by
 intro p
 induction p with
 | zero=>
  intro q K h hK
  obtain⟨k,rfl⟩:∃ k,K=k+1:=⟨K - 1,zq9⟩
  exact str_end k q ks m d _ zq9
 | succ p ih=>
  intro q K h hK
  obtain⟨k,rfl⟩:∃ k,K=k+1:=⟨K - 1,zq9⟩
  by_cases hle:d.length≤16*q
  ·exact str_end k q ks m d _ hle
  ·have hin:=str_inner ks m d hm hl q (40*p+1) (fun K' hK'=>ih (q+1) K' zq9 hK') 16 0 k zq9 zq9 zq9
   simp only[spec_l3Stream.l0]
   rw[if_pos zq118]
   unfold spec_l2Encrypt.f
   rw[if_pos ⟨bL_isBs _,bL_isBs _,by rw[bL_length];exact hk,by rw[bL_length];exact upN_length m q hm⟩,unB_bL,unB_bL]
   simp only[Option.bind_some]
   exact hin
theorem stream_at (K:Nat) (ks m d:List (BitVec 8)) (hk:ks.length=176) (hm:m.length=16) (hd:d.length≤700) (hK:3000≤K):spec_l3Stream.f K (bL ks) (bL m) (bL d)=some (bL (streamL ks m d)):=
 str_outer ks m d hk hm zq9 50 0 K zq9 zq9
theorem keys_at (m:List (BitVec 8)) (h:m.length=16):spec_l2Keys.f (bL m)=some (bL (schedL m)):=by
 unfold spec_l2Keys.f
 rw[if_pos ⟨bL_isBs _,by rw[bL_length];exact h⟩,unB_bL]
end Go.Proofs.Ytkjgdndaepobiaa.All
end
