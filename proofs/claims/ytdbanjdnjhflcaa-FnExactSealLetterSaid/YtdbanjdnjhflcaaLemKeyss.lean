-- Laid by wip/shake.py of this repo out of this claim's texts. Not trusted: Lean checks it.
import Derived.Test.YtdbanjdnjhflcaaAb0s
import Derived.Test.YtdbanjdnjhflcaaAlgs
import Derived.Deep.SlicePairs
import Derived.ChangeSlices
import Derived.ChangeSame
import Derived.Test.YtdbanjdnjhflcaaAllx523s
import Derived.Test.YtdbanjdnjhflcaaAllx9s
import Derived.Test.YtdbanjdnjhflcaaAllx12s
import Derived.Test.YtdbanjdnjhflcaaAllx58s
import Derived.Test.YtdbanjdnjhflcaaAllx50s
import Derived.Test.YtdbanjdnjhflcaaAllx63s
import Derived.Test.YtdbanjdnjhflcaaAllx35s
import Derived.Test.YtdbanjdnjhflcaaAllx60s
import Derived.Test.YtdbanjdnjhflcaaAllx61s
import Derived.Test.YtdbanjdnjhflcaaAllx26s
import Derived.Test.YtdbanjdnjhflcaaAllx52s
import Derived.Test.YtdbanjdnjhflcaaAllx202s
import Derived.Test.YtdbanjdnjhflcaaAllx42s
import Derived.Test.YtdbanjdnjhflcaaAllx32s
import Derived.Test.YtdbanjdnjhflcaaAllx108s
import Derived.Test.YtdbanjdnjhflcaaAllx104s
import Derived.Test.YtdbanjdnjhflcaaLemGroups
import Derived.Test.YtdbanjdnjhflcaaAllx531s
import Derived.Test.YtdbanjdnjhflcaaAllx532s
import Derived.Test.YtdbanjdnjhflcaaAllx161s
import Derived.Test.YtdbanjdnjhflcaaAllx533s
import Derived.Test.YtdbanjdnjhflcaaAllx163s
import Derived.Test.YtdbanjdnjhflcaaAllx164s
import Derived.Test.YtdbanjdnjhflcaaAllx513s
import Derived.Test.YtdbanjdnjhflcaaAllx540s
import Derived.Test.YtdbanjdnjhflcaaAllx541s
import Derived.Test.YtdbanjdnjhflcaaAllx130s
import Derived.Test.YtdbanjdnjhflcaaAllx582s
import Derived.Test.YtdbanjdnjhflcaaAllx204s
import Derived.Test.YtdbanjdnjhflcaaAllx119s
import Derived.Test.YtdbanjdnjhflcaaAllx111s
import Derived.Test.YtdbanjdnjhflcaaAllx583s
set_option linter.unusedSimpArgs false
set_option linter.unusedVariables false
namespace Go.Proofs.Ytdbanjdnjhflcaa.All
open Go.RowKit Go.Proofs.Ytdbanjdnjhflcaa.All Go.Proofs.YtdbanjdnjhflcaaW.PrintWords Go.Proofs.YtdbanjdnjhflcaaW.PrintLast Go.Proofs.YtdbanjdnjhflcaaW.PrintMore
section
section
open Go.ChangeShapes Go.WideShapes Go.Deep
theorem reads_keys {w:World} {A:Option Addr} {n:Nat} {l:List S70} (hn:n≤9223372036854775807) (hl:l.length=n) (h:0 < n→∃ ad,A=some ad∧∀ j p,l[j]?=some p→∃ B c,w.cell? (ad.add (j*2))=some (.int .i64 p.f0)∧w.cell? (ad.add (j*2+1))=some (.slice B p.f1.length c)∧p.f1.length≤c∧(Kd.int .u8).C w B p.f1.length p.f1):Kd.C k70 w A n l:=by
 refine⟨hl,hn,fun h0=>?_⟩
 obtain⟨ad,ha,hj⟩:=h h0
 refine⟨ad,ha,fun j p hp=>?_⟩
 obtain⟨B,c,h1,h2,h3,h4⟩:=hj j p hp
 refine⟨[.int .i64 p.f0,.slice B p.f1.length c],rfl,k70_mk w p h3 h4,fun i u hu=>?_⟩
 match i,hu with
 | 0,hu=>obtain rfl:=Option.some.inj hu;exact h1
 | 1,hu=>obtain rfl:=Option.some.inj hu;exact h2
 | i+2,hu=>simp at hu
instance :Inhabited S70:=⟨z70⟩
theorem open_keys {H:Type} {enc:TypeId × Value→H} {w:World} {base:Nat} {spare:Nat→Bool} {held:Bool} {fuel:Nat} {cs:List Value} {x:DataW H × List MemPlace} {t:TypeId} {f0 f1:Field} (ht:Try.prog.underlying t=some (.slice 70)) (he:Try.prog.underlying 70=some (.struct #[f0,f1])) (ce:Try.prog.cellsOf 70=2) (o0:f0.offset=0) (o1:f1.offset=1) (q0:Try.prog.cellsOf f0.type=1) (q1:Try.prog.cellsOf f1.type=1)
  (u0:Try.prog.underlying f0.type=some (.int .i64)) (u1:Try.prog.underlying f1.type=some (.slice 5)) (u2:Try.prog.underlying 5=some (.int .u8)) (u3:Try.prog.cellsOf 5=1)
  (h:DataW.trod enc Try.prog w base spare held fuel t cs=some x) :
  ∃ (A:Option Addr) (c:Nat) (l:List S70),cs=[.slice A l.length c]∧Kd.C k70 w A l.length l∧l.length≤c∧l.length≤maxLen∧∀ p ∈ l,(Lit.int .i64 p.f0).wf=true∧p.f1.length≤maxLen∧∀ y ∈ p.f1,(Lit.int .u8 y).wf=true:=by
 rcases open_slice_pairs ht he ce o0 o1 q0 q1 h with ⟨hcs,_⟩|⟨a,len,cap,m,n,V0,V1,D0,D1,P0,P1,rfl,hb,hl,hm,hmm,hx,hi⟩
 ·exact⟨none,0,[],hcs,Kd.C_nil _ _,Nat.le_refl _,by simp,fun p hp=>by cases hp⟩
 ·have hlm:len≤m:=by rw[hmm];split <;> omega
  have each:∀ i,i < len→∃ s:S70,((Lit.int .i64 s.f0).wf=true∧s.f1.length≤maxLen∧∀ y ∈ s.f1,(Lit.int .u8 y).wf=true)∧∃ B c,w.cell? (a.add (i*2))=some (.int .i64 s.f0)∧w.cell? (a.add (i*2+1))=some (.slice B s.f1.length c)∧s.f1.length≤c∧(Kd.int .u8).C w B s.f1.length s.f1:=by
   intro i hil
   obtain⟨c0,c1,d0,d1⟩:=hi i zq8
   obtain⟨z,e0,_,w0⟩:=DataW.trod_int (k:=.i64) u0 d0
   have e0':V0 i=.int .i64 z:=by simpa using e0
   rw[e0'] at c0
   rcases open_ints u1 u2 u3 d1 with ⟨hv,_⟩|⟨xx,ll,cc,zs,hv,_,hll,hmx,hz,_,hcell,hwz⟩
   ·have hv':V1 i=.slice none 0 0:=by simpa using hv
    rw[hv'] at c1
    exact⟨⟨z,[]⟩,⟨w0,by simp,fun y hy=>by cases hy⟩,none,0,c0,c1,Nat.le_refl _,Kd.C_nil _ _⟩
   ·have hv':V1 i=.slice (some xx) ll cc:=by simpa using hv
    rw[hv'] at c1
    have hzz:zs.length≤cc:=by rw[hz];split <;> omega
    have hz2:ll≤zs.length:=by rw[hz];split <;> omega
    refine⟨⟨z,zs.take ll⟩,⟨w0,by simp only[List.length_take];omega,fun y hy=>hwz y (List.mem_of_mem_take hy)⟩,some xx,cc,c0,?_,?_,?_⟩
    ·simp only[List.length_take]
     rw[Nat.min_eq_left hz2]
     exact c1
    ·simp only[List.length_take]
     omega
    ·refine Kd.C_of_reads (d:=(0:Int)) (h1:=fun _=>rfl) ⟨rfl,by simp only[List.length_take,maxLen] at *;omega,fun _=>⟨xx,rfl,fun j hj=>?_⟩⟩
     simp only[List.length_take] at hj
     rw[hcell j zq8,List.getD_eq_getElem?_getD,List.getD_eq_getElem?_getD,List.getElem?_take,if_pos zq8]
  obtain⟨q,hq⟩:=choose_lt each
  have hlen:((List.range len).map q).length=len:=by simp
  refine⟨some a,cap,(List.range len).map q,by rw[hlen],?_,by rw[hlen];exact hl,by rw[hlen];omega,fun p hp=>?_⟩
  ·rw[hlen]
   refine reads_keys (by simp only[maxLen] at *;omega) hlen fun _=>⟨a,rfl,fun j p hj=>?_⟩
   obtain⟨hjl,hpe⟩:=List.getElem?_eq_some_iff.1 hj
   rw[hlen] at hjl
   have hpe':p=q j:=by rw[← hpe];simp
   rw[hpe']
   exact(hq j hjl).2
  ·obtain⟨i,hi1,rfl⟩:=List.mem_map.1 hp
   exact(hq i (List.mem_range.1 hi1)).1
end
end
theorem toB_loop (xs:List Int) (hn:xs.length≤1048576) (d:Nat):∀ (k i:Nat) (ys:List Int),i+d=xs.length→d < k→ys.length=xs.length→ys.take i=xs.take i →
  laws_toByteS.l0 k xs ys (i:Int)=some xs:=by
 induction d with
 | zero=>
  intro k i ys hi hk hl ht
  obtain⟨k,rfl⟩:∃ m,k=m+1:=⟨k - 1,zq8⟩
  simp only[laws_toByteS.l0]
  rw[if_neg zq8]
  rw[List.take_of_length_le zq8,List.take_of_length_le zq8] at ht
  rw[ht]
 | succ d ih=>
  intro k i ys hi hk hl ht
  obtain⟨k,rfl⟩:∃ m,k=m+1:=⟨k - 1,zq8⟩
  have hw:wrap64 ((i:Int)+1)=((i+1:Nat):Int):=by unfold wrap64;omega
  simp only[laws_toByteS.l0]
  rw[if_pos zq8,if_pos zq8,if_pos zq8,hw]
  refine ih k (i+1) _ zq8 zq8 (by rw[List.length_set];exact hl) ?_
  rw[Int.toNat_natCast,List.take_succ_eq_append_getElem zq134,List.take_succ_eq_append_getElem (show i < xs.length by omega),List.take_set_of_le (Nat.le_refl i),ht]
  congr 1
  rw[List.getElem_set_self]
  unfold rd
  rw[Int.toNat_natCast,List.getD_eq_getElem?_getD,List.getElem?_eq_getElem zq8]
  rfl
theorem toB (k:Nat) (xs:List Int) (hn:xs.length≤1048576) (hk:xs.length < k):laws_toByteS.f k xs=some xs:=by
 unfold laws_toByteS.f
 rw[if_pos zq8,if_pos zq8]
 exact toB_loop xs hn xs.length k 0 _ zq8 hk zq73 zq73
theorem eqB_loop (xs:List Int) (hn:xs.length≤1048576) (d:Nat):∀ (k i:Nat),i+d=xs.length→d < k→laws_eqByteS.l0 k xs xs (i:Int)=some true:=by
 induction d with
 | zero=>
  intro k i hi hk
  obtain⟨k,rfl⟩:∃ m,k=m+1:=⟨k - 1,zq8⟩
  simp only[laws_eqByteS.l0]
  rw[if_neg zq8]
 | succ d ih=>
  intro k i hi hk
  obtain⟨k,rfl⟩:∃ m,k=m+1:=⟨k - 1,zq8⟩
  have hw:wrap64 ((i:Int)+1)=((i+1:Nat):Int):=by unfold wrap64;omega
  simp only[laws_eqByteS.l0]
  rw[if_pos zq8,if_pos zq8,if_pos zq8,if_pos trivial,hw]
  exact ih k (i+1) zq8 zq8
theorem eqB (k:Nat) (xs:List Int) (hn:xs.length≤1048576) (hk:xs.length < k):laws_eqByteS.f k xs xs=some true:=by
 unfold laws_eqByteS.f
 rw[if_pos rfl]
 exact eqB_loop xs hn xs.length k 0 zq8 hk
theorem szByte (l:List Int) (n:Int) (hn:0≤n) (hn2:n≤1048576) (hl:l.length≤9223372036854775807):∃ v,laws_szByteS.f l n=some v∧v≤n∧(0≤v→(l.length:Int)≤n):=by
 unfold laws_szByteS.f
 have hw:wrap64 (n - (l.length:Int))=n - (l.length:Int):=by unfold wrap64;omega
 rw[hw]
 by_cases h:n - (l.length:Int) < 0
 ·rw[if_pos h]
  exact⟨-1,rfl,zq8,zq8⟩
 ·rw[if_neg h]
  exact⟨_,rfl,zq8,zq8⟩
theorem szLetter (a0 a1 a2:Int) (l:List Int) (n:Int) (hn:0≤n) (hn2:n≤1048576) (hl:l.length≤9223372036854775807):∃ v,laws_szLetter.f a0 a1 a2 l n=some v∧v≤n∧(0≤v→(l.length:Int)≤n):=by
 unfold laws_szLetter.f
 obtain⟨v,hv,h1,h2⟩:=szByte l n hn hn2 hl
 rw[hv]
 simp only[Option.bind_some]
 by_cases h:v < 0
 ·rw[if_pos h]
  exact⟨-1,rfl,zq8,zq8⟩
 ·rw[if_neg h]
  exact⟨v,rfl,h1,h2⟩
theorem toLetter (k:Nat) (a0 a1 a2:Int) (l:List Int) (hl:l.length≤1048576) (hk:l.length < k):laws_toLetter.f k a0 a1 a2 l=some (a0,a1,a2,l):=by
 unfold laws_toLetter.f
 rw[toB k l hl hk]
 rfl
theorem eqLetterR (k:Nat) (a0 a1 a2:Int) (l:List Int) (hl:l.length≤1048576) (hk:l.length < k):laws_eqLetter.f k a0 a1 a2 l a0 a1 a2 l=some true:=by
 unfold laws_eqLetter.f
 rw[if_pos rfl,if_pos rfl,if_pos rfl,eqB k l hl hk]
 rfl
def mkL:Nat→Nat→List Int
 | _,0=>[]
 | c,n+1=>((c % 256:Nat):Int) :: mkL (c+1) n
theorem mkL_length:∀ c n,(mkL c n).length=n
 | _,0=>rfl
 | c,n+1=>by simp[mkL,mkL_length (c+1) n]
theorem markB_loop (d:Nat):∀ (k i c:Nat) (ys:List Int),i+d=ys.length→d < k→c+d < 2 ^ 60→ys.length < 2 ^ 60→laws_markByteS.l0 k ys (c:Int) (i:Int)=some (((c+d:Nat):Int),ys.take i ++ mkL c d):=by
 induction d with
 | zero=>
  intro k i c ys hi hk hc hl
  obtain⟨k,rfl⟩:∃ m,k=m+1:=⟨k - 1,zq8⟩
  simp only[laws_markByteS.l0,mkL]
  rw[if_neg zq8,List.take_of_length_le zq8,List.append_nil]
  rfl
 | succ d ih=>
  intro k i c ys hi hk hc hl
  obtain⟨k,rfl⟩:∃ m,k=m+1:=⟨k - 1,zq8⟩
  have hw:wrap64 ((i:Int)+1)=((i+1:Nat):Int):=by unfold wrap64;omega
  have hv0:wrap64 ((c:Int)+1)=((c+1:Nat):Int):=by unfold wrap64;omega
  have hm:((c:Int) % 256)=((c % 256:Nat):Int):=by omega
  simp only[laws_markByteS.l0]
  rw[if_pos zq8,if_pos zq8,hw,hv0,hm,ih k (i+1) (c+1) _ zq134 zq8 zq8 zq134]
  rw[Int.toNat_natCast,List.take_succ_eq_append_getElem zq134,List.take_set_of_le (Nat.le_refl i),List.getElem_set_self,List.append_assoc]
  simp only[mkL,List.singleton_append,show c+1+d=c+(d+1) by omega]
theorem heldB_loop (d:Nat):∀ (k c:Nat) (pre:List Int),d < k→c+d < 2 ^ 60→pre.length+d < 2 ^ 60→laws_heldByteS.l0 k (pre ++ mkL c d) (c:Int) (pre.length:Int)=some ((c+d:Nat):Int):=by
 induction d with
 | zero=>
  intro k c pre hk hc hl
  obtain⟨k,rfl⟩:∃ m,k=m+1:=⟨k - 1,zq8⟩
  simp only[laws_heldByteS.l0,mkL,List.append_nil]
  rw[if_neg zq8]
  rfl
 | succ d ih=>
  intro k c pre hk hc hl
  obtain⟨k,rfl⟩:∃ m,k=m+1:=⟨k - 1,zq8⟩
  have hw:wrap64 ((pre.length:Int)+1)=(((pre ++ [((c % 256:Nat):Int)]).length:Nat):Int):=by simp;unfold wrap64;omega
  have hv0:wrap64 ((c:Int)+1)=((c+1:Nat):Int):=by unfold wrap64;omega
  have hr:rd (pre ++ mkL c (d+1)) (pre.length:Int)=(c:Int) % 256:=by
   unfold rd
   rw[Int.toNat_natCast,List.getD_eq_getElem?_getD,List.getElem?_append_right (Nat.le_refl _)]
   simp[mkL]
  have hs:pre ++ mkL c (d+1)=(pre ++ [((c % 256:Nat):Int)]) ++ mkL (c+1) d:=by simp[mkL]
  simp only[laws_heldByteS.l0]
  rw[if_pos (by rw[List.length_append,mkL_length];omega),if_pos zq8,if_pos hr,hw,hv0,hs,ih k (c+1) _ zq8 zq8 (by simp;omega)]
  rw[show c+1+d=c+(d+1) by omega]
theorem markB (k:Nat) (xs:List Int) (hn:xs.length≤1048576) (hk:xs.length < k):laws_markByteS.f k xs 1=some (((1+xs.length:Nat):Int),mkL 1 xs.length):=by
 unfold laws_markByteS.f
 have h:=markB_loop xs.length k 0 1 xs zq8 hk zq8 zq8
 simpa using h
theorem heldB (k n:Nat) (hn:n≤1048576) (hk:n < k):laws_heldByteS.f k (mkL 1 n) 1=some ((1+n:Nat):Int):=by
 unfold laws_heldByteS.f
 have h:=heldB_loop n k 1 [] hk zq8 (by simp;omega)
 simpa using h
theorem markR (k:Nat) (c:Int) (xs:List Int) (hn:xs.length≤1048576) (hk:xs.length < k):laws_markBytesResult.f k c xs 1=some (((1+xs.length:Nat):Int),mkL 1 xs.length):=by
 unfold laws_markBytesResult.f
 rw[markB k xs hn hk]
 rfl
theorem heldR (k:Nat) (c:Int) (n:Nat) (hn:n≤1048576) (hk:n < k):laws_heldBytesResult.f k c (mkL 1 n) 1=some ((1+n:Nat):Int):=by
 unfold laws_heldBytesResult.f
 rw[heldB k n hn hk]
 simp only[Option.bind_some]
 rw[if_neg zq8]
theorem eqR (k:Nat) (c:Int) (xs:List Int) (hn:xs.length≤1048576) (hk:xs.length < k):laws_eqBytesResult.f k c xs c xs=some true:=by
 unfold laws_eqBytesResult.f
 rw[if_pos rfl,eqB k xs hn hk]
 rfl
def mkKs:Nat→List S54→List S54
 | _,[]=>[]
 | c,x :: xs=>(⟨(c:Int),mkL (c+1) x.f1.length⟩:S54) :: mkKs (c+1+x.f1.length) xs
def totKs:Nat→List S54→Nat
 | c,[]=>c
 | c,x :: xs=>totKs (c+1+x.f1.length) xs
theorem totKs_le:∀ (c:Nat) (xs:List S54),(∀ x ∈ xs,x.f1.length≤1048576)→totKs c xs≤c+xs.length*1048577
 | c,[],_=>by simp[totKs]
 | c,x :: xs,h=>by
  have h1:=totKs_le (c+1+x.f1.length) xs (fun y hy=>h y (List.mem_cons_of_mem _ hy))
  have h2:=h x List.mem_cons_self
  simp only[totKs,List.length_cons,Nat.succ_mul]
  omega
theorem markBe (k c:Nat) (xs:List Int) (hc:c+xs.length < 2 ^ 60) (hk:xs.length < k):laws_markByteS.f k xs (c:Int)=some (((c+xs.length:Nat):Int),mkL c xs.length):=by
 have h:=markB_loop xs.length k 0 c xs zq8 hk hc zq8
 unfold laws_markByteS.f
 rw[show ((0:Nat):Int)=0 from rfl] at h
 rw[h]
 simp
theorem markKs_eq (k:Nat) (hk:1048577≤k):∀ (xs:List S54) (c:Nat),(∀ x ∈ xs,x.f1.length≤1048576)→c+xs.length*1048577 < 2 ^ 59→markKs k xs (c:Int)=some (((totKs c xs:Nat):Int),mkKs c xs)
 | [],c,_,_=>rfl
 | x :: xs,c,h,hc=>by
  have h2:=h x List.mem_cons_self
  rw[List.length_cons,Nat.succ_mul] at hc
  have hw:wrap64 ((c:Int)+1)=((c+1:Nat):Int):=by unfold wrap64;omega
  simp only[markKs,mkKs,totKs]
  rw[hw,markBe k (c+1) x.f1 zq8 zq8]
  simp only[Option.bind_some]
  rw[markKs_eq k hk xs (c+1+x.f1.length) (fun y hy=>h y (List.mem_cons_of_mem _ hy)) zq8]
  rfl
def up (x:S70):S54:=⟨x.f0,x.f1⟩
def ups (l:List S70):List S54:=l.map up
def okKs (l:List S70):Prop:=l.length≤1048576∧∀ x ∈ l,x.f1.length≤1048576
theorem ups_length (l:List S70):(ups l).length=l.length:=by simp[ups]
theorem rd_lk (l:List S70) (i:Nat) (h:i < l.length):rd_T70 l (i:Int)=l[i]:=by
 unfold rd_T70
 rw[Int.toNat_natCast,List.getD_eq_getElem?_getD,List.getElem?_eq_getElem h]
 rfl
theorem szB1 (l:List Int) (n:Int) (hn:0≤n) (hn2:n≤1048576) (hl:l.length≤9223372036854775807):∃ v,laws_szByteS.f l n=some v∧v≤n∧(0≤v→l.length≤1048576):=by
 unfold laws_szByteS.f
 have hw:wrap64 (n - (l.length:Int))=n - (l.length:Int):=by unfold wrap64;omega
 rw[hw]
 by_cases h:n - (l.length:Int) < 0
 ·rw[if_pos h]
  exact⟨-1,rfl,zq8,zq8⟩
 ·rw[if_neg h]
  exact⟨_,rfl,zq8,zq8⟩
theorem szK1 (a:Int) (l:List Int) (n:Int) (hn:0≤n) (hn2:n≤1048576) (hl:l.length≤9223372036854775807):∃ v,laws_szKey.f a l n=some v∧v≤n∧(0≤v→l.length≤1048576):=by
 unfold laws_szKey.f
 obtain⟨v,hv,h1,h2⟩:=szB1 l n hn hn2 hl
 rw[hv]
 simp only[Option.bind_some]
 by_cases h:v < 0
 ·rw[if_pos h]
  exact⟨-1,rfl,zq8,zq8⟩
 ·rw[if_neg h]
  exact⟨v,rfl,h1,h2⟩
theorem szKs_loop (l:List S70) (hl:l.length≤1048576) (hb:∀ x ∈ l,x.f1.length≤9223372036854775807) (d:Nat):∀ (k i:Nat) (n:Int),i+d=l.length→d < k→0≤n→n≤1048576→∃ v,laws_szKeyS.l0 k l n (i:Int)=some v∧v≤n∧(0≤v→∀ x ∈ l.drop i,x.f1.length≤1048576):=by
 induction d with
 | zero=>
  intro k i n hi hk hn hn2
  obtain⟨k,rfl⟩:∃ m,k=m+1:=⟨k - 1,zq8⟩
  simp only[laws_szKeyS.l0]
  rw[if_neg zq8,List.drop_of_length_le zq8]
  exact⟨n,rfl,Int.le_refl _,fun _ x hx=>by cases hx⟩
 | succ d ih=>
  intro k i n hi hk hn hn2
  obtain⟨k,rfl⟩:∃ m,k=m+1:=⟨k - 1,zq8⟩
  have hil:i < l.length:=by omega
  have hw:wrap64 ((i:Int)+1)=((i+1:Nat):Int):=by unfold wrap64;omega
  simp only[laws_szKeyS.l0]
  rw[if_pos zq8,if_pos zq8,rd_lk l i hil,hw]
  obtain⟨v,hv,h1,h2⟩:=szK1 l[i].f0 l[i].f1 n hn hn2 (hb _ (List.getElem_mem hil))
  rw[hv]
  simp only[Option.bind_some]
  by_cases h:v < 0
  ·rw[if_pos h]
   exact⟨-1,rfl,zq8,zq8⟩
  ·rw[if_neg h]
   obtain⟨u,hu,u1,u2⟩:=ih k (i+1) v zq8 zq8 zq8 zq8
   refine⟨u,hu,zq8,fun h0 x hx=>?_⟩
   rw[List.drop_eq_getElem_cons hil] at hx
   rcases List.mem_cons.1 hx with rfl|hx
   ·exact h2 zq8
   ·exact u2 h0 x hx
theorem szRing (k:Nat) (p:Int) (l:List S70) (n:Int) (hn:0≤n) (hn2:n≤1048576) (hl:l.length≤9223372036854775807) (hb:∀ x ∈ l,x.f1.length≤9223372036854775807) (hk:1048577≤k):∃ v,laws_szRing.f k p l n=some v∧v≤n∧(0≤v→okKs l):=by
 have hs:∃ v,laws_szKeyS.f k l n=some v∧v≤n∧(0≤v→okKs l):=by
  unfold laws_szKeyS.f
  have hw:wrap64 (n - (l.length:Int))=n - (l.length:Int):=by unfold wrap64;omega
  rw[hw]
  by_cases h:n - (l.length:Int) < 0
  ·rw[if_pos h]
   exact⟨-1,rfl,zq8,zq8⟩
  ·rw[if_neg h]
   obtain⟨v,hv,h1,h2⟩:=szKs_loop l zq8 hb l.length k 0 _ zq8 zq8 (show 0≤n - (l.length:Int) by omega) zq8
   exact⟨v,hv,zq8,fun h0=>⟨zq8,by simpa using h2 h0⟩⟩
 obtain⟨v,hv,h1,h2⟩:=hs
 unfold laws_szRing.f
 rw[hv]
 simp only[Option.bind_some]
 by_cases h:v < 0
 ·rw[if_pos h]
  exact⟨-1,rfl,zq8,zq8⟩
 ·rw[if_neg h]
  exact⟨v,rfl,h1,h2⟩
theorem toK1 (k:Nat) (x:S70) (hx:x.f1.length≤1048576) (hk:1048577≤k):laws_toKey.f k x.f0 x.f1=some (x.f0,x.f1):=by
 unfold laws_toKey.f
 rw[toB k x.f1 hx zq8]
 rfl
theorem toKs_loop (l:List S70) (h:okKs l) (d:Nat):∀ (k i:Nat) (ys:List S54),i+d=l.length→d+1048577 < k→ys.length=l.length→ys.take i=(ups l).take i→laws_toKeyS.l0 k l ys (i:Int)=some (ups l):=by
 have hl:=h.1
 induction d with
 | zero=>
  intro k i ys hi hk hy ht
  obtain⟨k,rfl⟩:∃ m,k=m+1:=⟨k - 1,zq8⟩
  simp only[laws_toKeyS.l0]
  rw[if_neg zq8]
  rw[List.take_of_length_le zq8,List.take_of_length_le (by rw[ups_length];omega)] at ht
  rw[ht]
 | succ d ih=>
  intro k i ys hi hk hy ht
  obtain⟨k,rfl⟩:∃ m,k=m+1:=⟨k - 1,zq8⟩
  have hil:i < l.length:=by omega
  have hw:wrap64 ((i:Int)+1)=((i+1:Nat):Int):=by unfold wrap64;omega
  simp only[laws_toKeyS.l0]
  rw[if_pos zq8,if_pos zq8,rd_lk l i hil,toK1 k l[i] (h.2 _ (List.getElem_mem hil)) zq8]
  simp only[Option.bind_some]
  rw[if_pos zq8,hw]
  refine ih k (i+1) _ zq8 zq8 (by rw[List.length_set];exact hy) ?_
  rw[Int.toNat_natCast,List.take_succ_eq_append_getElem zq134,List.take_succ_eq_append_getElem (show i < (ups l).length by rw[ups_length];exact hil),List.take_set_of_le (Nat.le_refl i),ht]
  congr 1
  rw[List.getElem_set_self]
  simp[ups,up]
theorem toRing (k:Nat) (p:Int) (l:List S70) (h:okKs l) (hk:2097160≤k):laws_toRing.f k p l=some (p,ups l):=by
 have hl:=h.1
 unfold laws_toRing.f laws_toKeyS.f
 have h9:=toKs_loop l h l.length k 0 (List.replicate ((l.length:Int):Int).toNat z54) zq8 zq8 zq73 zq73
 rw[show ((0:Nat):Int)=0 from rfl] at h9
 rw[if_pos zq8,if_pos zq8,h9]
 rfl
theorem eqK1 (k:Nat) (a:Int) (l:List Int) (hx:l.length≤1048576) (hk:1048577≤k):laws_eqKey.f k a l a l=some true:=by
 unfold laws_eqKey.f
 rw[if_pos rfl,eqB k l hx zq8]
 rfl
theorem eqKs_loop (l:List S54) (hl:l.length≤1048576) (hb:∀ x ∈ l,x.f1.length≤1048576) (d:Nat):∀ (k i:Nat),i+d=l.length→d+1048577 < k→laws_eqKeyS.l0 k l l (i:Int)=some true:=by
 induction d with
 | zero=>
  intro k i hi hk
  obtain⟨k,rfl⟩:∃ m,k=m+1:=⟨k - 1,zq8⟩
  simp only[laws_eqKeyS.l0]
  rw[if_neg zq8]
 | succ d ih=>
  intro k i hi hk
  obtain⟨k,rfl⟩:∃ m,k=m+1:=⟨k - 1,zq8⟩
  have hil:i < l.length:=by omega
  have hw:wrap64 ((i:Int)+1)=((i+1:Nat):Int):=by unfold wrap64;omega
  simp only[laws_eqKeyS.l0]
  rw[if_pos zq8,if_pos zq8,if_pos zq8,rd_get l i hil,eqK1 k _ _ (hb _ (List.getElem_mem hil)) zq8]
  simp only[Option.bind_some,if_true]
  rw[hw]
  exact ih k (i+1) zq8 zq8
theorem eqRingR (k:Nat) (p:Int) (l:List S54) (hl:l.length≤1048576) (hb:∀ x ∈ l,x.f1.length≤1048576) (hk:2097160≤k):laws_eqRing.f k p l p l=some true:=by
 unfold laws_eqRing.f laws_eqKeyS.f
 have h9:=eqKs_loop l hl hb l.length k 0 zq8 zq8
 rw[show ((0:Nat):Int)=0 from rfl] at h9
 rw[if_pos rfl,if_pos rfl,h9]
 rfl
theorem okUp (l:List S70) (h:okKs l):(ups l).length≤1048576∧∀ x ∈ ups l,x.f1.length≤1048576:=by
 refine⟨by rw[ups_length];exact h.1,fun x hx=>?_⟩
 obtain⟨y,hy,rfl⟩:=List.mem_map.1 hx
 exact h.2 y hy
theorem faultL_at (K:Nat) (a b c:Int) (l:List Int):∃ r,impl_LetterFault.f (K+1) a b c l=some r∧spec_LetterFault.f a b c l=some r:=by
 have hj:∀ z,impl_LetterFault.j0 (K+1) z a b c l=some (if z=true then 3 else if l.length > 300 then 2 else 0):=by
  intro z
  simp only[impl_LetterFault.j0]
  by_cases h:l.length > 300
  ·rw[if_pos (show (l.length:Int) > 300 by omega),if_pos h]
   cases z <;> simp
  ·rw[if_neg (show ¬ ((l.length:Int) > 300) by omega),if_neg h]
   cases z <;> simp
 unfold impl_LetterFault.f spec_LetterFault.f spec_l5Head.f impl_isKeyId.f
 have hin:∀ x y z,spec_l1In.f x y z=impl_in.f x y z:=fun _ _ _=>rfl
 have ht:∀ x y z,∃ t,impl_in.f x y z=some t:=by
  intro x y z
  unfold impl_in.f
  split <;> exact⟨_,rfl⟩
 obtain⟨t0,h0⟩:=ht a 1 255
 obtain⟨t1,h1⟩:=ht b 0 15
 obtain⟨t2,h2⟩:=ht c 0 1000000000
 simp only[hin,h0,h1,h2,Option.bind_some,hj]
 by_cases h:l.length > 300
 ·simp only[if_pos h]
  cases t0 <;> cases t1 <;> cases t2 <;> simp
 ·simp only[if_neg h]
  cases t0 <;> cases t1 <;> cases t2 <;> simp
theorem placeL_bd (id:Int):∀ (l:List S54) (i:Nat),placeL id l (i:Int) < 0 ∨ (i:Int)≤placeL id l (i:Int)∧placeL id l (i:Int) < (i:Int)+(l.length:Int)
 | [],i=>.inl (by simp[placeL])
 | x :: xs,i=>by
  simp only[placeL]
  by_cases h:x.f0=id
  ·rw[if_pos h,List.length_cons];right;omega
  ·rw[if_neg h,List.length_cons]
   have h1:=placeL_bd id xs (i+1)
   rw[show ((i+1:Nat):Int)=(i:Int)+1 by omega] at h1
   rcases h1 with h1|h1
   ·exact .inl h1
   ·right;omega
theorem clone_eq (l:List Int) (h:l.length≤1048576):bytes_Clone.f l=some l:=by
 unfold bytes_Clone.f
 rw[if_pos zq8]
theorem ownKey_eq (a:Int) (l:List Int) (h:l.length≤1048576):impl_ownKey.f a l=some (a,l):=by
 unfold impl_ownKey.f
 rw[clone_eq l h]
 rfl
theorem place_f (p:Int) (m:List S54) (id:Int) (hm:m.length≤1048576):impl_Ring_place.f p m id=some (placeL id m 0):=by
 unfold impl_Ring_place.f
 rw[if_pos zq8]
theorem in_eq (a b c:Int):impl_in.f a b c=some (decide (b≤a∧a≤c)):=by
 unfold impl_in.f
 by_cases h:a ≥ b
 ·rw[if_pos h]
  by_cases h2:a≤c
  ·rw[decide_eq_true h2,decide_eq_true ⟨h,h2⟩]
  ·rw[decide_eq_false h2,decide_eq_false (fun h3=>h2 h3.2)]
 ·rw[if_neg h,decide_eq_false (fun h3=>h h3.1)]
theorem key_fault (a:Int) (l:List Int):impl_Key_fault.f a l=some (keyC a l.length):=by
 unfold impl_Key_fault.f impl_isKeyId.f
 rw[in_eq]
 simp only[Option.bind_some]
 unfold keyC
 by_cases h:1≤a∧a≤255
 ·rw[decide_eq_true h,if_pos rfl,if_pos h]
  by_cases h2:l.length=16
  ·rw[if_pos zq8,if_pos h2]
  ·rw[if_neg zq8,if_neg h2]
 ·rw[decide_eq_false h,if_neg zq36,if_neg h]
theorem fault_l1 (p:Int) (m:List S54) (hm:m.length≤1048576) (h1:1≤m.length) (d:Nat):∀ (k i:Nat),1≤i→i+d=m.length→d < k→impl_RingFault.l1 k (i:Int) p m=some (if orderL (m.drop (i - 1))=true then (if placeL p m 0 < 0 then 4 else 0) else 1):=by
 induction d with
 | zero=>
  intro k i hi1 hi hk
  obtain⟨k,rfl⟩:∃ m,k=m+1:=⟨k - 1,zq8⟩
  simp only[impl_RingFault.l1]
  rw[if_neg zq8,orderL_end m (i - 1) zq8,if_pos rfl]
  unfold impl_Ring_place.f
  rw[if_pos zq8]
  simp only[Option.bind_some]
  by_cases h:placeL p m 0 < 0
  ·rw[if_pos h,if_pos h]
  ·rw[if_neg h,if_neg h]
 | succ d ih=>
  intro k i hi1 hi hk
  obtain⟨k,rfl⟩:∃ m,k=m+1:=⟨k - 1,zq8⟩
  obtain⟨j,rfl⟩:∃ j,i=j+1:=⟨i - 1,zq8⟩
  have hw:wrap64 (((j+1:Nat):Int)+1)=((j+1+1:Nat):Int):=by unfold wrap64;omega
  have hv:wrap64 (((j+1:Nat):Int) - 1)=(j:Int):=by unfold wrap64;omega
  simp only[impl_RingFault.l1]
  rw[hv,hw,if_pos zq8,if_pos zq8,if_pos zq8,if_pos zq8,show j+1 - 1=j from rfl,orderL_drop m j zq8]
  by_cases h:(rd_T54 m (j:Int)).f0 ≥ (rd_T54 m ((j+1:Nat):Int)).f0
  ·rw[if_pos h,if_pos h]
   rfl
  ·rw[if_neg h,if_neg h,ih k (j+1+1) zq8 zq8 zq8]
   rfl
theorem fault_l0 (p:Int) (m:List S54) (hm:m.length≤1048576) (h1:1≤m.length) (d:Nat):∀ (k i:Nat),i+d=m.length→d+m.length+2 < k→impl_RingFault.l0 k m (m.length:Int) (i:Int) p m=some (if faultsL (m.drop i)=0 then (if orderL m=true then (if placeL p m 0 < 0 then 4 else 0) else 1) else faultsL (m.drop i)):=by
 induction d with
 | zero=>
  intro k i hi hk
  obtain⟨k,rfl⟩:∃ m,k=m+1:=⟨k - 1,zq8⟩
  simp only[impl_RingFault.l0]
  rw[if_neg zq8,List.drop_of_length_le zq8]
  have h:=fault_l1 p m hm h1 (m.length - 1) k 1 zq8 zq8 zq8
  simpa [faultsL] using h
 | succ d ih=>
  intro k i hi hk
  obtain⟨k,rfl⟩:∃ m,k=m+1:=⟨k - 1,zq8⟩
  have hw:wrap64 ((i:Int)+1)=((i+1:Nat):Int):=by unfold wrap64;omega
  simp only[impl_RingFault.l0]
  rw[hw,if_pos zq8,if_pos zq8,if_pos zq8,key_fault,faultsL_drop m i zq8]
  simp only[Option.bind_some]
  by_cases h:keyC (rd_T54 m (i:Int)).f0 (rd_T54 m (i:Int)).f1.length=0
  ·rw[if_pos h,if_pos h,ih k (i+1) zq8 zq8]
  ·rw[if_neg h,if_neg h,if_neg h]
theorem ring_fault (k:Nat) (p:Int) (m:List S54) (hm:m.length≤1048576) (hk:10≤k):impl_RingFault.f k p m=some (ringFaultL p m):=by
 unfold impl_RingFault.f ringFaultL
 rw[in_eq]
 simp only[Option.bind_some]
 by_cases h:m.length < 1 ∨ 3 < m.length
 ·rw[if_pos h,decide_eq_false zq8,if_neg zq36]
 ·rw[if_neg h,decide_eq_true zq8,if_pos rfl]
  have h2:=fault_l0 p m hm zq8 m.length k 0 zq8 zq8
  simpa using h2
def rdW (a:Int) (b:BitVec 8):Int:=wrap64 (wrap64 (a*256)+wrap64 (bI b))
theorem rdW_nat (n:Nat) (b:BitVec 8) (h:n < 1099511627776):rdW (n:Int) b=((n*256+b.toNat:Nat):Int):=by
 have:=b.isLt
 unfold rdW bI wrap64
 omega
theorem read_loop (xs:List (BitVec 8)) (s n:Nat) (hs:s+n≤xs.length) (hl:xs.length < 1099511627776) (d:Nat):∀ (k j:Nat) (acc:Int),j+d=n→d < k→spec_l1Read.l0 k (bL xs) (s:Int) (n:Int) acc (j:Int)=some (((xs.drop (s+j)).take d).foldl rdW acc):=by
 induction d with
 | zero=>
  intro k j acc hi hk
  obtain⟨k,rfl⟩:∃ m,k=m+1:=⟨k - 1,zq8⟩
  simp only[spec_l1Read.l0]
  rw[if_neg zq8]
  simp
 | succ d ih=>
  intro k j acc hi hk
  obtain⟨k,rfl⟩:∃ m,k=m+1:=⟨k - 1,zq8⟩
  have hw:wrap64 ((j:Int)+1)=((j+1:Nat):Int):=by unfold wrap64;omega
  have hv9_:wrap64 ((s:Int)+(j:Int))=((s+j:Nat):Int):=by unfold wrap64;omega
  have hx:xs.drop (s+j)=xs.getD (s+j) 0#8 :: xs.drop (s+j+1):=by
   rw[List.drop_eq_getElem_cons zq8,List.getD_eq_getElem?_getD,List.getElem?_eq_getElem zq8]
   rfl
  simp only[spec_l1Read.l0,bL_length,hv9_]
  rw[if_pos zq8,if_pos zq8,if_pos zq8,rd_bL,Int.toNat_natCast,hw,ih k (j+1) _ zq8 zq8,hx]
  rfl
theorem read_at (k:Nat) (xs:List (BitVec 8)) (s n:Nat) (hs:s+n≤xs.length) (hl:xs.length < 1099511627776) (hk:n < k):spec_l1Read.f k (bL xs) (s:Int) (n:Int)=some (((xs.drop s).take n).foldl rdW 0):=by
 unfold spec_l1Read.f
 exact read_loop xs s n hs hl n k 0 0 zq8 hk
theorem fold4 {α:Type} (f:α→BitVec 8→α) (z:α) (p0 p1 p2 p3 p4 p5 p6 p7 p8 p9 p10 p11 a b c d:BitVec 8):(([p0,p1,p2,p3,p4,p5,p6,p7,p8,p9,p10,p11,a,b,c,d].drop 12).take 4).foldl f z=f (f (f (f z a) b) c) d:=rfl
theorem read4 (k:Nat) (hk:4 < k) (p0 p1 p2 p3 p4 p5 p6 p7 p8 p9 p10 p11 a b c d:BitVec 8):spec_l1Read.f k (bL [p0,p1,p2,p3,p4,p5,p6,p7,p8,p9,p10,p11,a,b,c,d]) ((12:Nat):Int) ((4:Nat):Int)=some ((a.toNat*16777216+b.toNat*65536+c.toNat*256+d.toNat:Nat):Int):=by
 have ha:=a.isLt
 have hb:=b.isLt
 have hc:=c.isLt
 have hd:=d.isLt
 rw[read_at k _ 12 4 zq73 zq73 hk]
 rw[fold4]
 rw[show (0:Int)=((0:Nat):Int) from rfl,rdW_nat 0 a zq8,rdW_nat _ b zq8,rdW_nat _ c zq8,rdW_nat _ d zq8]
 have e:∀ y z:Nat,y=z→some (y:Int)=some (z:Int):=fun y z h=>by rw[h]
 apply e
 omega
theorem pack4 (k:Nat) (hk:4 < k) (n:Nat) (hn:n < 2 ^ 32):spec_l1Pack.f k (n:Int) ((4:Nat):Int)=some (bL [BitVec.ofNat 8 (n / 16777216),BitVec.ofNat 8 (n / 65536),BitVec.ofNat 8 (n / 256),BitVec.ofNat 8 n]):=by
 obtain⟨k,rfl⟩:∃ m,k=m+5:=⟨k - 5,zq8⟩
 have q:∀ m:Nat,m < 2 ^ 40→wrap64 (Int.tdiv (m:Int) 256)=((m / 256:Nat):Int):=fun m hm=>by
  rw[Int.tdiv_eq_ediv_of_nonneg zq8];unfold wrap64;omega
 have r:∀ m:Nat,Int.tmod (m:Int) 256 % 256=((m % 256:Nat):Int):=fun m=>by
  rw[Int.tmod_eq_emod_of_nonneg zq8];omega
 rw[show ((4:Nat):Int)=4 from rfl]
 unfold spec_l1Pack.f
 rw[if_pos zq8,if_pos zq36]
 simp only[spec_l1Pack.l0,show wrap64 ((4:Int) - 1)=3 by decide +kernel,show wrap64 ((3:Int) - 1)=2 by decide +kernel,show wrap64 ((2:Int) - 1)=1 by decide +kernel,show wrap64 ((1:Int) - 1)=0 by decide +kernel,show wrap64 ((0:Int) - 1)=-1 by decide +kernel,r]
 rw[q n zq8]
 simp only[r]
 rw[q _ zq8]
 simp only[r]
 rw[q _ zq8]
 simp only[r]
 simp[bL,bI]
 omega
theorem list16 (m:List (BitVec 8)) (h:m.length=16):∃ p0 p1 p2 p3 p4 p5 p6 p7 p8 p9 p10 p11 a b c d,m=[p0,p1,p2,p3,p4,p5,p6,p7,p8,p9,p10,p11,a,b,c,d]:=by
 refine⟨by_ m 0,by_ m 1,by_ m 2,by_ m 3,by_ m 4,by_ m 5,by_ m 6,by_ m 7,by_ m 8,by_ m 9,by_ m 10,by_ m 11,by_ m 12,by_ m 13,by_ m 14,by_ m 15,?_⟩
 have:=(tab_self m).symm
 rw[h] at this
 exact this
theorem succ_ne (d:BitVec 8):d+1#8≠0#8 ↔ d.toNat≠255:=by
 rw[Ne,← BitVec.toNat_inj,BitVec.toNat_add]
 have:=d.isLt
 simp
 omega
theorem upTo_stop (xs:List (BitVec 8)) (n i:Nat) (h:by_ xs i+1#8≠0#8):upTo xs (n+1) i=xs.set i (by_ xs i+1#8):=by
 rw[upTo,if_pos h]
theorem upTo_go (xs:List (BitVec 8)) (n i:Nat) (h:¬ (by_ xs i+1#8≠0#8)):upTo xs (n+1) i=upTo (xs.set i (by_ xs i+1#8)) n (i - 1):=by
 rw[upTo,if_neg h]
theorem ofN (n:Nat) (x:BitVec 8) (hx:n % 256=x.toNat):BitVec.ofNat 8 n=x:=BitVec.eq_of_toNat_eq (by simpa using hx)
theorem succ1 (x:BitVec 8) (hx:x+1#8≠0#8):(x+1#8).toNat=x.toNat+1∧x.toNat≠255:=by
 rw[succ_ne] at hx;rw[BitVec.toNat_add];have:=x.isLt;simp;omega
theorem succ0 (x:BitVec 8) (hx:¬ (x+1#8≠0#8)):(x+1#8).toNat=0∧x.toNat=255:=by
 rw[succ_ne] at hx;rw[BitVec.toNat_add];have:=x.isLt;simp;omega
theorem up_list (p0 p1 p2 p3 p4 p5 p6 p7 p8 p9 p10 p11 a b c d:BitVec 8) (n:Nat) (hn:n=(a.toNat*16777216+b.toNat*65536+c.toNat*256+d.toNat+1) % 4294967296) :
  [p0,p1,p2,p3,p4,p5,p6,p7,p8,p9,p10,p11,BitVec.ofNat 8 (n / 16777216),BitVec.ofNat 8 (n / 65536),BitVec.ofNat 8 (n / 256),BitVec.ofNat 8 n]=upL [p0,p1,p2,p3,p4,p5,p6,p7,p8,p9,p10,p11,a,b,c,d]:=by
 have ha:=a.isLt
 have hb:=b.isLt
 have hc:=c.isLt
 have hd:=d.isLt
 by_cases h3:d+1#8≠0#8
 ·obtain⟨s3,t3⟩:=succ1 d h3
  refine Eq.trans ?_ (upTo_stop [p0,p1,p2,p3,p4,p5,p6,p7,p8,p9,p10,p11,a,b,c,d] 3 15 h3).symm
  rw[ofN (n / 16777216) a zq8,ofN (n / 65536) b zq8,ofN (n / 256) c zq8,ofN n (d+1#8) zq8]
  rfl
 obtain⟨s3,t3⟩:=succ0 d h3
 refine Eq.trans ?_ (upTo_go [p0,p1,p2,p3,p4,p5,p6,p7,p8,p9,p10,p11,a,b,c,d] 3 15 h3).symm
 by_cases h2:c+1#8≠0#8
 ·obtain⟨s2,t2⟩:=succ1 c h2
  refine Eq.trans ?_ (upTo_stop [p0,p1,p2,p3,p4,p5,p6,p7,p8,p9,p10,p11,a,b,c,d+1#8] 2 14 h2).symm
  rw[ofN (n / 16777216) a zq8,ofN (n / 65536) b zq8,ofN (n / 256) (c+1#8) zq8,ofN n (d+1#8) zq8]
  rfl
 obtain⟨s2,t2⟩:=succ0 c h2
 refine Eq.trans ?_ (upTo_go [p0,p1,p2,p3,p4,p5,p6,p7,p8,p9,p10,p11,a,b,c,d+1#8] 2 14 h2).symm
 by_cases h1:b+1#8≠0#8
 ·obtain⟨s1,t1⟩:=succ1 b h1
  refine Eq.trans ?_ (upTo_stop [p0,p1,p2,p3,p4,p5,p6,p7,p8,p9,p10,p11,a,b,c+1#8,d+1#8] 1 13 h1).symm
  rw[ofN (n / 16777216) a zq8,ofN (n / 65536) (b+1#8) zq8,ofN (n / 256) (c+1#8) zq8,ofN n (d+1#8) zq8]
  rfl
 obtain⟨s1,t1⟩:=succ0 b h1
 refine Eq.trans ?_ (upTo_go [p0,p1,p2,p3,p4,p5,p6,p7,p8,p9,p10,p11,a,b,c+1#8,d+1#8] 1 13 h1).symm
 by_cases h0:a+1#8≠0#8
 ·obtain⟨s0,t0⟩:=succ1 a h0
  refine Eq.trans ?_ (upTo_stop [p0,p1,p2,p3,p4,p5,p6,p7,p8,p9,p10,p11,a,b+1#8,c+1#8,d+1#8] 0 12 h0).symm
  rw[ofN (n / 16777216) (a+1#8) zq8,ofN (n / 65536) (b+1#8) zq8,ofN (n / 256) (c+1#8) zq8,ofN n (d+1#8) zq8]
  rfl
 obtain⟨s0,t0⟩:=succ0 a h0
 refine Eq.trans ?_ (upTo_go [p0,p1,p2,p3,p4,p5,p6,p7,p8,p9,p10,p11,a,b+1#8,c+1#8,d+1#8] 0 12 h0).symm
 rw[ofN (n / 16777216) (a+1#8) zq8,ofN (n / 65536) (b+1#8) zq8,ofN (n / 256) (c+1#8) zq8,ofN n (d+1#8) zq8]
 rfl
theorem l3Count_at (k:Nat) (m:List (BitVec 8)) (h:m.length=16) (hk:4 < k):spec_l3Count.f k (bL m)=some (bL (upL m)):=by
 obtain⟨p0,p1,p2,p3,p4,p5,p6,p7,p8,p9,p10,p11,a,b,c,d,rfl⟩:=list16 m h
 have ha:=a.isLt
 have hb:=b.isLt
 have hc:=c.isLt
 have hd:=d.isLt
 unfold spec_l3Count.f
 rw[show (12:Int)=((12:Nat):Int) from rfl,show (4:Int)=((4:Nat):Int) from rfl,read4 k hk]
 simp only[Option.bind_some]
 rw[if_pos (by simp[bL]),show Int.tmod (wrap64 (((a.toNat*16777216+b.toNat*65536+c.toNat*256+d.toNat:Nat):Int)+1)) 4294967296=(((a.toNat*16777216+b.toNat*65536+c.toNat*256+d.toNat+1) % 4294967296:Nat):Int) from by
  rw[show wrap64 (((a.toNat*16777216+b.toNat*65536+c.toNat*256+d.toNat:Nat):Int)+1)=((a.toNat*16777216+b.toNat*65536+c.toNat*256+d.toNat+1:Nat):Int) by unfold wrap64;omega]
  rw[Int.tmod_eq_emod_of_nonneg zq8]
  omega]
 rw[pack4 k hk _ zq8]
 unfold spec_l1Copy.f
 simp only[Option.bind_some,bL_take]
 rw[if_pos (by simp[bL])]
 simp only[Option.bind_some]
 rw[if_pos (by simp[bL])]
 rw[← bL_nil,← bL_append,← bL_append,← up_list _ _ _ _ _ _ _ _ _ _ _ _ _ _ _ _ _ rfl]
 rfl
def xr (a b:List Int) (i:Nat):Int:=Go.bits .xor .u8 (rd a (i:Int)) (rd b (i:Int))
def xrL (a b:List Int) (n:Nat):List Int:=(List.range n).map (xr a b)
theorem xrL_length (a b:List Int) (n:Nat):(xrL a b n).length=n:=by simp[xrL]
theorem xrL_succ (a b:List Int) (n:Nat):xrL a b (n+1)=xrL a b n ++ [xr a b n]:=by simp[xrL,List.range_succ]
theorem xorSpec_loop (a b:List Int) (hl:b.length=a.length) (hn:a.length < 1099511627776) (d:Nat):∀ (k i:Nat),i+d=a.length→d < k→spec_l1Xor.l0 k a b (xrL a b i) (i:Int)=some (xrL a b a.length):=by
 induction d with
 | zero=>
  intro k i hi hk
  obtain⟨k,rfl⟩:∃ m,k=m+1:=⟨k - 1,zq8⟩
  obtain rfl:i=a.length:=by omega
  simp only[spec_l1Xor.l0]
  rw[if_neg zq8]
 | succ d ih=>
  intro k i hi hk
  obtain⟨k,rfl⟩:∃ m,k=m+1:=⟨k - 1,zq8⟩
  have hw:wrap64 ((i:Int)+1)=((i+1:Nat):Int):=by unfold wrap64;omega
  simp only[spec_l1Xor.l0]
  rw[if_pos zq8,if_pos zq8,if_pos zq8,if_pos (by rw[xrL_length];omega),hw]
  have h:=ih k (i+1) zq8 zq8
  rw[xrL_succ] at h
  exact h
def xorB (a b:List (BitVec 8)):List (BitVec 8):=tab 16 fun i=>by_ a i ^^^ by_ b i
theorem xorB_length (a b:List (BitVec 8)):(xorB a b).length=16:=tab_length _ _
theorem by_outL (h l j:Nat) (hj:j < 16):by_ (outL h l 8) j=outAt h l j:=by
 unfold outL
 rw[tab_get _ _ _ hj,if_pos zq8]
theorem vB_bV (v:BitVec 128):vB (bV v)=v:=by
 apply BitVec.eq_of_getLsbD_eq
 intro i hi
 have h:=vB_bit (bV v) (bV_length v) (127 - i) zq8
 rw[show 127 - (127 - i)=i by omega] at h
 rw[h]
 unfold bV
 rw[by_outL _ _ _ zq8]
 unfold outAt
 have p:∀ n:Nat,256 ^ n=2 ^ (8*n):=fun n=>by rw[Nat.pow_mul]
 by_cases hq:(127 - i) / 8 < 8
 ·rw[if_pos hq,BitVec.getLsbD_ofNat,decide_eq_true (show 7 - (127 - i) % 8 < 8 by omega),Bool.true_and,p,Nat.testBit_div_two_pow]
  show (hiW v).getLsbD _=_
  unfold hiW
  rw[BitVec.getLsbD_extractLsb',decide_eq_true zq8,Bool.true_and]
  congr 1
  omega
 ·rw[if_neg hq,BitVec.getLsbD_ofNat,decide_eq_true (show 7 - (127 - i) % 8 < 8 by omega),Bool.true_and,p,Nat.testBit_div_two_pow]
  show (loW v).getLsbD _=_
  unfold loW
  rw[BitVec.getLsbD_extractLsb',decide_eq_true zq8,Bool.true_and]
  congr 1
  omega
theorem vB_xor (a b:List (BitVec 8)) (ha:a.length=16) (hb:b.length=16):vB (xorB a b)=vB a ^^^ vB b:=by
 apply BitVec.eq_of_getLsbD_eq
 intro i hi
 have h:=vB_bit (xorB a b) (xorB_length a b) (127 - i) zq8
 have h1:=vB_bit a ha (127 - i) zq8
 have h2:=vB_bit b hb (127 - i) zq8
 rw[show 127 - (127 - i)=i by omega] at h h1 h2
 rw[BitVec.getLsbD_xor,h,h1,h2]
 unfold xorB
 rw[tab_get _ _ _ zq8,BitVec.getLsbD_xor]
theorem l1Xor16 (k:Nat) (hk:16 < k) (a b:List (BitVec 8)) (ha:a.length=16) (hb:b.length=16):spec_l1Xor.f k (bL a) (bL b)=some (bL (xorB a b)):=by
 have h:=xorSpec_loop (bL a) (bL b) (by rw[bL_length,bL_length,ha,hb]) zq121 16 k 0 zq121 hk
 rw[show xrL (bL a) (bL b) 0=[] from rfl,show ((0:Nat):Int)=0 from rfl,bL_length,ha] at h
 unfold spec_l1Xor.f
 rw[h]
 congr 1
 unfold xrL xorB tab bL
 rw[List.map_map]
 refine List.map_congr_left fun i _=>?_
 show xr (bL a) (bL b) i=bI (by_ a i ^^^ by_ b i)
 unfold xr
 rw[rd_bL,rd_bL,bI_xor,Int.toNat_natCast]
 rfl
theorem hash_step (hm:List (BitVec 8)) (hh:hm.length=16) (d L:List (BitVec 8)) (hL:L.length=16) (K i:Nat) (hi:16*(i+1)≤d.length) (hl:d.length < 1099511627776) (hK:200≤K) :
  spec_l3Hash.l0 (K+1) (bL hm) (bL d) (bL L) ((16*i:Nat):Int)=spec_l3Hash.l0 K (bL hm) (bL d) (bL (bV (gM (vB L ^^^ vB ((d.drop (16*i)).take 16)) (vB hm)))) ((16*(i+1):Nat):Int):=by
 have w1:wrap64 (((16*i:Nat):Int)+16)=((16*(i+1):Nat):Int):=by unfold wrap64;omega
 have hc:((bL d).take (16*(i+1))).drop (16*i)=bL ((d.drop (16*i)).take 16):=by
  rw[bL_take,bL_drop,List.drop_take,show 16*(i+1) - 16*i=16 by omega]
 have hcl:((d.drop (16*i)).take 16).length=16:=by rw[List.length_take,List.length_drop];omega
 generalize (d.drop (16*i)).take 16=C at hc hcl
 have hx:=l1Xor16 K zq8 L C hL hcl
 have ht:=l3Times_at K zq8 (xorB L C) hm (xorB_length _ _) hh
 rw[vB_xor L C hL hcl,gM_comm] at ht
 have h1:((16*(i+1):Nat):Int)≤((bL d).length:Int):=by rw[bL_length];omega
 have h2:(0:Int)≤((16*i:Nat):Int):=by omega
 have h3:((16*i:Nat):Int)≤((16*(i+1):Nat):Int):=by omega
 generalize bL (bV (gM (vB L ^^^ vB C) (vB hm)))=T at ht
 generalize bL (xorB L C)=X at hx ht
 generalize bL C=Y at hc hx
 generalize bL L=Z at hx
 simp only[spec_l3Hash.l0]
 rw[w1,if_pos h1,if_pos h2,if_pos h3,Int.toNat_natCast,Int.toNat_natCast,hc,hx]
 simp only[Option.bind_some]
 rw[ht]
 simp only[Option.bind_some]
theorem hash_end (K i:Nat) (hm d:List (BitVec 8)) (Z:List Int) (hi:d.length=16*i) (hl:d.length < 1099511627776):spec_l3Hash.l0 (K+1) (bL hm) (bL d) Z ((16*i:Nat):Int)=some Z:=by
 have w1:wrap64 (((16*i:Nat):Int)+16)=((16*(i+1):Nat):Int):=by unfold wrap64;omega
 simp only[spec_l3Hash.l0]
 rw[w1,if_neg zq121]
theorem hv_succ (h:BitVec 128) (n:Nat) (d:List (BitVec 8)) (s:BitVec 128):hv h (n+1) d s=hv h n (d.drop 16) (gM (s ^^^ vB (d.take 16)) h):=by rw[hv]
theorem hv_zero (h:BitVec 128) (d:List (BitVec 8)) (s:BitVec 128):hv h 0 d s=s:=by rw[hv]
theorem hash_loop (hm:List (BitVec 8)) (hh:hm.length=16) (d:List (BitVec 8)) (hl:d.length < 1099511627776) (n:Nat):∀ (K i:Nat) (s:BitVec 128),d.length=16*(i+n)→200≤K→spec_l3Hash.l0 (K+(n+1)) (bL hm) (bL d) (bL (bV s)) ((16*i:Nat):Int)=some (bL (bV (hv (vB hm) n (d.drop (16*i)) s))):=by
 induction n with
 | zero=>
  intro K i s hd hK
  rw[hv_zero]
  exact hash_end K i hm d _ zq8 hl
 | succ n ih=>
  intro K i s hd hK
  have hs:=hash_step hm hh d (bV s) (bV_length s) (K+(n+1)) i zq8 hl zq8
  rw[vB_bV] at hs
  have e:(d.drop (16*i)).drop 16=d.drop (16*(i+1)):=by rw[List.drop_drop];congr 1
  rw[hv_succ,e]
  generalize gM (s ^^^ vB ((d.drop (16*i)).take 16)) (vB hm)=s2 at hs ⊢
  rw[show K+(n+1+1)=K+(n+1)+1 from rfl,hs]
  exact ih K (i+1) s2 zq8 hK
theorem bV_zero:bL (bV 0#128)=List.replicate 16 0:=by decide +kernel
theorem take_snoc_str (ks m d:List (BitVec 8)) (t:Nat) (h:t < d.length):(streamL ks m d).take (t+1)=(streamL ks m d).take t ++ [by_ d t ^^^ padL ks m t]:=by
 have hl:t < (streamL ks m d).length:=by rw[streamL_length];exact h
 rw[List.take_succ_eq_append_getElem hl]
 congr 2
 have e:by_ (streamL ks m d) t=by_ d t ^^^ padL ks m t:=tab_get _ _ _ h
 rw[← e]
 unfold by_
 rw[List.getD_eq_getElem?_getD,List.getElem?_eq_getElem hl]
 rfl
theorem str_pad (ks m d:List (BitVec 8)) (q i:Nat) (hi:i < 16) (h:16*q+i < d.length) (hl:d.length < 1099511627776) :
  Go.bits .xor .u8 (rd (bL d) (wrap64 (((16*q:Nat):Int)+(i:Int)))) (rd (bL (encL ks (upN m q))) (i:Int))=bI (by_ d (16*q+i) ^^^ padL ks m (16*q+i)):=by
 have w1:wrap64 (((16*q:Nat):Int)+(i:Int))=((16*q+i:Nat):Int):=by unfold wrap64;omega
 have hp:padL ks m (16*q+i)=by_ (encL ks (upN m q)) i:=by
  have:=pad_at ks m q (16*q) (16*q+i) rfl zq8 zq8
  rw[← this,show 16*q+i - 16*q=i by omega]
 rw[w1,rd_bL,rd_bL,bI_xor,hp,Int.toNat_natCast,Int.toNat_natCast]
 rfl
theorem str_end (K q:Nat) (ks m d:List (BitVec 8)) (X:List Int) (h:d.length≤16*q):spec_l3Stream.l0 (K+1) (bL ks) X (bL d) (bL ((streamL ks m d).take (16*q))) ((16*q:Nat):Int)=some (bL (streamL ks m d)):=by
 simp only[spec_l3Stream.l0]
 rw[if_neg zq121,List.take_of_length_le zq192]
theorem str_inner (ks m d:List (BitVec 8)) (hm:m.length=16) (hl:d.length < 1099511627776) (q K0:Nat)
  (ih:∀ K,K0≤K→spec_l3Stream.l0 K (bL ks) (bL (upN m (q+1))) (bL d) (bL ((streamL ks m d).take (16*(q+1)))) ((16*(q+1):Nat):Int)=some (bL (streamL ks m d))) :
  ∀ j i K,i+j=16→16*q+i≤d.length→K0+j+6≤K→spec_l3Stream.l1 K (bL ks) (bL (upN m q)) (bL d) (bL ((streamL ks m d).take (16*q+i))) ((16*q:Nat):Int) (bL (encL ks (upN m q))) (i:Int)=some (bL (streamL ks m d)):=by
 have w2:wrap64 (((16*q:Nat):Int)+16)=((16*(q+1):Nat):Int) ∨ 1099511627776≤16*q:=by
  by_cases h:16*q < 1099511627776
  ·left;unfold wrap64;omega
  ·right;omega
 have hup:bL (upL (upN m q))=bL (upN m (q+1)):=rfl
 intro j
 induction j with
 | zero=>
  intro i K hij hle hK
  obtain⟨k,rfl⟩:∃ k,K=k+1:=⟨K - 1,zq8⟩
  rcases w2 with w2|w2
  ·simp only[spec_l3Stream.l1]
   rw[if_neg zq8,l3Count_at k _ (upN_length m q hm) zq8]
   simp only[Option.bind_some]
   rw[hup,w2,show 16*q+i=16*(q+1) by omega]
   exact ih k zq8
  ·omega
 | succ j jh=>
  intro i K hij hle hK
  obtain⟨k,rfl⟩:∃ k,K=k+1:=⟨K - 1,zq8⟩
  have w1:wrap64 (((16*q:Nat):Int)+(i:Int))=((16*q+i:Nat):Int):=by unfold wrap64;omega
  have w3:wrap64 ((i:Int)+1)=((i+1:Nat):Int):=by unfold wrap64;omega
  by_cases h:16*q+i < d.length
  ·have hp:=str_pad ks m d q i zq8 h hl
   have h2:=jh (i+1) k zq8 zq8 zq8
   rw[show 16*q+(i+1)=16*q+i+1 by omega,take_snoc_str ks m d _ h,bL_append] at h2
   simp only[spec_l3Stream.l1]
   rw[if_pos zq8,hp,w1,if_pos zq121,if_pos zq8,if_pos zq8,if_pos (by rw[bL_length,encL_length];omega),if_pos (by rw[bL_length,List.length_take];omega),w3]
   exact h2
  ·rcases w2 with w2|w2
   ·have e:16*q+i=d.length:=by omega
    have e2:(streamL ks m d).take (16*q+i)=(streamL ks m d).take (16*(q+1)):=by
     rw[List.take_of_length_le zq192,List.take_of_length_le zq192]
    simp only[spec_l3Stream.l1]
    rw[if_pos zq8,w1,if_neg zq121,l3Count_at k _ (upN_length m q hm) zq8]
    simp only[Option.bind_some]
    rw[hup,w2,e2]
    exact ih k zq8
   ·omega
theorem str_outer (ks m d:List (BitVec 8)) (hk:ks.length=176) (hm:m.length=16) (hl:d.length < 1099511627776):∀ p q K,d.length≤16*(q+p)→40*p+1≤K →
  spec_l3Stream.l0 K (bL ks) (bL (upN m q)) (bL d) (bL ((streamL ks m d).take (16*q))) ((16*q:Nat):Int)=some (bL (streamL ks m d)):=by
 intro p
 induction p with
 | zero=>
  intro q K h hK
  obtain⟨k,rfl⟩:∃ k,K=k+1:=⟨K - 1,zq8⟩
  exact str_end k q ks m d _ zq8
 | succ p ih=>
  intro q K h hK
  obtain⟨k,rfl⟩:∃ k,K=k+1:=⟨K - 1,zq8⟩
  by_cases hle:d.length≤16*q
  ·exact str_end k q ks m d _ hle
  ·have hin:=str_inner ks m d hm hl q (40*p+1) (fun K' hK'=>ih (q+1) K' zq8 hK') 16 0 k zq8 zq8 zq8
   simp only[spec_l3Stream.l0]
   rw[if_pos zq121]
   unfold spec_l2Encrypt.f
   rw[if_pos ⟨bL_isBs _,bL_isBs _,by rw[bL_length];exact hk,by rw[bL_length];exact upN_length m q hm⟩,unB_bL,unB_bL]
   simp only[Option.bind_some]
   exact hin
theorem stream_at (K:Nat) (ks m d:List (BitVec 8)) (hk:ks.length=176) (hm:m.length=16) (hd:d.length≤700) (hK:3000≤K):spec_l3Stream.f K (bL ks) (bL m) (bL d)=some (bL (streamL ks m d)):=
 str_outer ks m d hk hm zq8 50 0 K zq8 zq8
theorem keys_at (m:List (BitVec 8)) (h:m.length=16):spec_l2Keys.f (bL m)=some (bL (schedL m)):=by
 unfold spec_l2Keys.f
 rw[if_pos ⟨bL_isBs _,by rw[bL_length];exact h⟩,unB_bL]
theorem wordS_loop:∀ (d K:Nat) (v:Nat) (ys:List Int),d≤ys.length→ys.length < 1099511627776→v < 9223372036854775808→d < K→spec_l1Pack.l0 K (v:Int) ys ((d:Int) - 1)=some (bL (packB v d) ++ ys.drop d)
 | 0,K,v,ys,h0,h1,hv9_,hk=>by
  obtain⟨K,rfl⟩:∃ m,K=m+1:=⟨K - 1,zq8⟩
  simp only[spec_l1Pack.l0]
  rw[if_neg zq8]
  rfl
 | d+1,K,v,ys,h0,h1,hv9_,hk=>by
  obtain⟨K,rfl⟩:∃ m,K=m+1:=⟨K - 1,zq8⟩
  have hw:wrap64 (((d+1:Nat):Int) - 1 - 1)=(d:Int) - 1:=by unfold wrap64;omega
  have hv2:wrap64 (Int.tdiv (v:Int) 256)=((v / 256:Nat):Int):=by
   rw[Int.tdiv_eq_ediv_of_nonneg zq8];unfold wrap64;omega
  have hb:Int.tmod (v:Int) 256 % 256=bI (BitVec.ofNat 8 v):=by
   rw[Int.tmod_eq_emod_of_nonneg zq8,← byte_of]
   omega
  have hd:(((d+1:Nat):Int) - 1).toNat=d:=by omega
  simp only[spec_l1Pack.l0]
  rw[if_pos zq8,if_pos zq8,if_pos zq8,hw,hv2,hb,hd,wordS_loop d K (v / 256) _ zq134 zq134 zq8 zq8]
  rw[List.drop_set,if_neg zq8,Nat.sub_self,List.drop_eq_getElem_cons (show d < ys.length by omega),List.set_cons_zero,packB,bL_append,List.append_assoc]
  rfl
theorem wordS (K v m:Nat) (hm:m≤8) (hv9_:v < 9223372036854775808) (hk:8 < K):spec_l1Pack.f K (v:Int) (m:Int)=some (bL (packB v m)):=by
 have hw:wrap64 ((m:Int) - 1)=(m:Int) - 1:=by unfold wrap64;omega
 unfold spec_l1Pack.f
 rw[if_pos zq8,if_pos zq8,hw,Int.toNat_natCast,wordS_loop m K v _ zq73 (by simp;omega) hv9_ zq8]
 rw[List.drop_of_length_le zq73,List.append_nil]
theorem l1Copy_at (m:List (BitVec 8)) (h:m.length≤100000):spec_l1Copy.f (bL m)=some (bL m):=by
 unfold spec_l1Copy.f
 simp only[Option.bind_some,List.nil_append]
 rw[if_pos (by rw[bL_length];simp;omega)]
theorem wholeS_loop:∀ (r k:Nat) (m:List (BitVec 8)),r=(16 - m.length % 16) % 16→m.length≤100000→r < k→spec_l3Whole.l0 k (bL m)=some (bL (m ++ List.replicate r 0#8))
 | 0,k,m,hr,hl,hk=>by
  obtain⟨k,rfl⟩:∃ q,k=q+1:=⟨k - 1,zq8⟩
  simp only[spec_l3Whole.l0]
  rw[if_pos zq121]
  simp
 | r+1,k,m,hr,hl,hk=>by
  obtain⟨k,rfl⟩:∃ q,k=q+1:=⟨k - 1,zq8⟩
  have ih:=wholeS_loop r k (m ++ [0#8]) zq164 zq164 zq8
  rw[bL_append,List.append_assoc,List.singleton_append,← List.replicate_succ] at ih
  simp only[spec_l3Whole.l0]
  rw[if_neg zq121,if_pos zq121]
  exact ih
theorem wholeS_at (k:Nat) (hk:100 < k) (m:List (BitVec 8)) (h:m.length≤5000):spec_l3Whole.f k (bL m)=some (bL (wholeL m)):=by
 unfold spec_l3Whole.f
 rw[l1Copy_at m zq8]
 simp only[Option.bind_some]
 exact wholeS_loop _ k m rfl zq8 zq8
theorem list12 (m:List (BitVec 8)) (h:m.length=12):∃ a b c d e f g i j k l n,m=[a,b,c,d,e,f,g,i,j,k,l,n]:=by
 refine⟨by_ m 0,by_ m 1,by_ m 2,by_ m 3,by_ m 4,by_ m 5,by_ m 6,by_ m 7,by_ m 8,by_ m 9,by_ m 10,by_ m 11,?_⟩
 have:=(tab_self m).symm
 rw[h] at this
 exact this
theorem startL_12 (m:List (BitVec 8)) (h:m.length=12):startL m=m ++ [0#8,0#8,0#8,1#8]:=by
 obtain⟨a,b,c,d,e,f,g,i,j,k,l,n,rfl⟩:=list12 m h
 rfl
theorem first_at (m:List (BitVec 8)) (h:m.length=12):spec_l3First.f (bL m)=some (bL (startL m)):=by
 unfold spec_l3First.f
 rw[l1Copy_at m zq8]
 simp only[Option.bind_some]
 rw[if_pos (by rw[bL_length];simp;omega),startL_12 m h,bL_append]
 rfl
theorem hash3_at (K:Nat) (hK:1000≤K) (h d:List (BitVec 8)) (hh:h.length=16) (n0:Nat) (hd:d.length=16*n0) (hn:n0≤100):spec_l3Hash.f K (bL h) (bL d)=some (bL (bV (hv (vB h) n0 d 0#128))):=by
 unfold spec_l3Hash.f
 rw[if_pos zq8]
 have e:=hash_loop h hh d zq8 n0 (K - (n0+1)) 0 0#128 zq8 zq8
 rw[show K - (n0+1)+(n0+1)=K by omega,bV_zero,Nat.mul_zero,List.drop_zero,show ((0:Nat):Int)=0 from rfl] at e
 exact e
theorem enc2_at (ks m:List (BitVec 8)) (hk:ks.length=176) (hm:m.length=16):spec_l2Encrypt.f (bL ks) (bL m)=some (bL (encL ks m)):=by
 unfold spec_l2Encrypt.f
 rw[if_pos ⟨bL_isBs _,bL_isBs _,by rw[bL_length];exact hk,by rw[bL_length];exact hm⟩,unB_bL,unB_bL]
theorem len_at (K n:Nat) (hK:100 < K) (hn:n≤700):spec_l1Pack.f K (wrap64 (8*(n:Int))) 8=some (bL (lenL n)):=by
 have w:wrap64 (8*(n:Int))=((8*n:Nat):Int):=by unfold wrap64;omega
 rw[w]
 exact wordS K (8*n) 8 zq8 zq8 zq8
theorem tagS_at (K:Nat) (hK:2000≤K) (ks n e c:List (BitVec 8)) (hk:ks.length=176) (hn:n.length=12) (he:e.length≤700) (hc:c.length≤700):spec_l3Tag.f K (bL ks) (bL n) (bL e) (bL c)=some (bL (tagL ks n e c)):=by
 have hl:=dataL_length e c
 have h2:=wholeL_length e
 have h3:=wholeL_length c
 unfold spec_l3Tag.f
 rw[if_pos zq8,show List.replicate 16 (0:Int)=bL (tab 16 fun _=>0#8) from by decide +kernel,enc2_at ks _ hk (tab_length _ _)]
 simp only[Option.bind_some]
 rw[wholeS_at K zq8 e zq8]
 simp only[Option.bind_some]
 rw[wholeS_at K zq8 c zq8]
 simp only[Option.bind_some]
 rw[if_pos (by rw[bL_length,bL_length];omega),bL_length e,bL_length c,len_at K _ zq8 he]
 simp only[Option.bind_some]
 rw[← bL_append,if_pos (by rw[bL_length,bL_length,List.length_append,lenL_length];omega),len_at K _ zq8 hc]
 simp only[Option.bind_some]
 rw[← bL_append,if_pos (by rw[bL_length,bL_length,List.length_append,List.length_append,lenL_length,lenL_length];omega),first_at n hn]
 simp only[Option.bind_some]
 rw[enc2_at ks _ hk (startL_length _)]
 simp only[Option.bind_some]
 rw[← bL_append,show wholeL e ++ wholeL c ++ lenL e.length ++ lenL c.length=dataL e c from by unfold dataL;rw[List.append_assoc (wholeL e ++ wholeL c)],hash3_at K zq8 _ _ (encL_length _ _) ((dataL e c).length / 16) zq8 zq8]
 simp only[Option.bind_some]
 rw[l1Xor16 K zq8 _ _ (encL_length _ _) (bV_length _)]
 simp only[Option.bind_some]
 rfl
theorem up_start (n:List (BitVec 8)):(upL (startL n)).length=16:=by rw[upL_length',startL_length]
theorem sealS_at (K:Nat) (hK:4000≤K) (key n e p:List (BitVec 8)) (hk:key.length=16) (hn:n.length=12) (he:e.length≤700) (hp:p.length≤600):spec_l3Seal.f K (bL key) (bL n) (bL e) (bL p)=some (bL (sealL (schedL key) n e p)):=by
 unfold spec_l3Seal.f
 rw[keys_at key hk]
 simp only[Option.bind_some]
 rw[first_at n hn]
 simp only[Option.bind_some]
 rw[l3Count_at K _ (startL_length _) zq8]
 simp only[Option.bind_some]
 rw[stream_at K _ _ p (schedL_length key hk) (up_start n) zq8 zq8]
 simp only[Option.bind_some]
 rw[tagS_at K zq8 _ n e _ (schedL_length key hk) hn he zq192]
 simp only[Option.bind_some]
 rw[if_pos (by rw[bL_length,bL_length,streamL_length,tagL_length];omega),← bL_append]
 rfl
theorem keyC_len {x:Int} {n:Nat} (h:keyC x n=0):n=16:=by
 unfold keyC at h
 by_cases h1:1≤x∧x≤255
 ·rw[if_pos h1] at h
  by_cases h2:n=16
  ·exact h2
  ·rw[if_neg h2] at h
   omega
 ·rw[if_neg h1] at h
  omega
theorem faults_len:∀ (l:List S54),faultsL l=0→∀ x ∈ l,x.f1.length=16
 | [],_,x,hx=>by cases hx
 | y :: ys,h,x,hx=>by
  simp only[faultsL] at h
  by_cases hy:keyC y.f0 y.f1.length=0
  ·rw[if_pos hy] at h
   rcases List.mem_cons.1 hx with rfl|hx
   ·exact keyC_len hy
   ·exact faults_len ys h x hx
  ·rw[if_neg hy] at h
   exact absurd h hy
theorem ring_len (p:Int) (l:List S54) (h:ringFaultL p l=0):∀ x ∈ l,x.f1.length=16:=by
 unfold ringFaultL at h
 by_cases h1:l.length < 1 ∨ 3 < l.length
 ·rw[if_pos h1] at h
  omega
 rw[if_neg h1] at h
 by_cases h2:faultsL l=0
 ·exact faults_len l h2
 ·rw[if_neg h2] at h
  exact absurd h h2
theorem find_none (k:Nat) (p:Int) (m:List S54) (id:Int) (hm:m.length≤1048576) (hk:10≤k) (h:ringFaultL p m=0) (hq:placeL id m 0 < 0):impl_FindKey.f k p m id=some (4,0,[]):=by
 unfold impl_FindKey.f
 rw[ring_fault k p m hm hk,place_f p m id hm]
 simp only[Option.bind_some]
 rw[if_pos h,if_pos hq]
theorem find_some (k:Nat) (p:Int) (m:List S54) (id:Int) (hm:m.length≤1048576) (hb:∀ x ∈ m,x.f1.length≤1048576) (hk:10≤k) (h:ringFaultL p m=0) (q:Nat) (hqe:placeL id m 0=(q:Int)) (hql:q < m.length):impl_FindKey.f k p m id=some (0,m[q].f0,m[q].f1):=by
 unfold impl_FindKey.f
 rw[ring_fault k p m hm hk,place_f p m id hm]
 simp only[Option.bind_some]
 rw[hqe,if_pos h,if_neg zq8,if_pos zq8,if_pos zq8,rd_get m q hql,ownKey_eq _ _ (hb _ (List.getElem_mem hql))]
 rfl
theorem letter_ok (a b c:Int) (t:List Int) (h:spec_LetterFault.f a b c t=some 0):(1≤a∧a≤255)∧(0≤b∧b≤15)∧(0≤c∧c≤1000000000)∧t.length≤300:=by
 unfold spec_LetterFault.f spec_l5Head.f at h
 have hin:∀ x y z,spec_l1In.f x y z=some (decide (y≤x∧x≤z)):=in_eq
 simp only[hin,Option.bind_some] at h
 by_cases ha:1≤a∧a≤255
 ·by_cases hb:0≤b∧b≤15
  ·by_cases hc:0≤c∧c≤1000000000
   ·simp only[decide_eq_true ha,decide_eq_true hb,decide_eq_true hc,Option.bind_some,if_true] at h
    by_cases ht:t.length > 300
    ·rw[if_pos ht] at h
     cases h
    ·exact⟨ha,hb,hc,zq8⟩
   ·simp[decide_eq_true ha,decide_eq_true hb,decide_eq_false hc] at h
  ·simp[decide_eq_true ha,decide_eq_false hb] at h
 ·simp[decide_eq_false ha] at h
theorem letter_bare (K:Nat) (a b c:Int) (ha:1≤a∧a≤255) (hb:0≤b∧b≤15) (hc:0≤c∧c≤1000000000):impl_LetterFault.f (K+1) a b c []=some 0:=by
 unfold impl_LetterFault.f impl_isKeyId.f
 simp only[in_eq,decide_eq_true ha,decide_eq_true hb,decide_eq_true hc,Option.bind_some,if_true,impl_LetterFault.j0,Bool.not_true,Bool.false_eq_true,if_false,List.length_nil]
 rw[if_neg zq8]
def headB (a b c:Nat):List (BitVec 8):=[1#8,BitVec.ofNat 8 a,BitVec.ofNat 8 b] ++ packB c 8
def nonceB (b c:Nat):List (BitVec 8):=packB b 4 ++ packB c 8
theorem headB_length (a b c:Nat):(headB a b c).length=11:=by simp[headB,packB_length]
theorem nonceB_length (b c:Nat):(nonceB b c).length=12:=by simp[nonceB,packB_length]
theorem headB_nums (a b c:Nat):[1,(a:Int) % 256,(b:Int) % 256] ++ bL (packB c 8)=bL (headB a b c):=by
 unfold headB
 rw[bL_append,byte_of,byte_of]
 rfl
theorem head_spec (K a b c:Nat) (hc:c≤1000000000) (hK:8 < K):spec_l5HeadOf.f K (a:Int) (b:Int) (c:Int)=some (bL (headB a b c)):=by
 have h:=wordS K c 8 zq8 zq8 hK
 rw[show ((8:Nat):Int)=8 from rfl] at h
 unfold spec_l5HeadOf.f
 rw[h]
 simp only[Option.bind_some]
 rw[if_pos (by rw[bL_length,packB_length];omega),headB_nums]
theorem head_impl (K a b c:Nat) (ha:1≤a∧a≤255) (hb:b≤15) (hc:c≤1000000000) (hK:8 < K):impl_HeadOf.f K (a:Int) (b:Int) (c:Int)=some (0,bL (headB a b c)):=by
 obtain⟨K,rfl⟩:∃ m,K=m+1:=⟨K - 1,zq8⟩
 have h:=wordB (K+1) c 8 zq8 zq8 hK
 rw[show ((8:Nat):Int)=8 from rfl] at h
 unfold impl_HeadOf.f
 rw[letter_bare K _ _ _ zq8 zq8 zq8,h]
 simp only[Option.bind_some,if_true]
 rw[if_pos (by rw[bL_length,packB_length];simp),headB_nums]
theorem nonce_spec (K b c:Nat) (hb:b≤15) (hc:c≤1000000000) (hK:8 < K):spec_l5Nonce.f K (b:Int) (c:Int)=some (bL (nonceB b c)):=by
 have h:=wordS K c 8 zq8 zq8 hK
 have h4:=wordS K b 4 zq8 zq8 hK
 rw[show ((8:Nat):Int)=8 from rfl] at h
 rw[show ((4:Nat):Int)=4 from rfl] at h4
 unfold spec_l5Nonce.f
 rw[h,h4]
 simp only[Option.bind_some]
 rw[if_pos (by rw[bL_length,bL_length,packB_length,packB_length];omega),← bL_append]
 rfl
theorem nonce_impl (K b c:Nat) (hb:b≤15) (hc:c≤1000000000) (hK:100 < K):impl_NonceOf.f K (b:Int) (c:Int)=some (0,bL (nonceB b c)):=by
 obtain⟨K,rfl⟩:∃ m,K=m+1:=⟨K - 1,zq8⟩
 have h:=wordB K c 8 zq8 zq8 zq8
 have h4:=wordB K b 4 zq8 zq8 zq8
 rw[show ((8:Nat):Int)=8 from rfl] at h
 rw[show ((4:Nat):Int)=4 from rfl] at h4
 have hb2:0≤(b:Int)∧(b:Int)≤15:=by omega
 have hc2:0≤(c:Int)∧(c:Int)≤1000000000:=by omega
 unfold impl_NonceOf.f
 simp only[in_eq,decide_eq_true hb2,decide_eq_true hc2,Option.bind_some,if_true,Bool.not_true,impl_NonceOf.j0,Bool.false_eq_true,if_false]
 rw[h4,h]
 simp only[Option.bind_some]
 rw[if_pos (by rw[bL_length,bL_length,packB_length,packB_length];omega),← bL_append]
 rfl
theorem seal_impl (k n e t:List (BitVec 8)) (hk:k.length=16) (hn:n.length=12) (he:e.length≤100) (ht:t.length≤600):impl_SealText.f (bL k) (bL n) (bL e) (bL t)=some (0,bL (sealL (schedL k) n e t)):=by
 unfold impl_SealText.f
 rw[if_pos ⟨bL_isBs _,bL_isBs _,bL_isBs _,bL_isBs _⟩,unB_bL,unB_bL,unB_bL,unB_bL]
 unfold impl_SealText.g
 rw[if_pos ⟨hk,hn,he,ht⟩]
theorem l5Seal_at (K:Nat) (hK:4000≤K) (key t:List (BitVec 8)) (a b c:Nat) (hk:key.length=16) (hb:b≤15) (hc:c≤1000000000) (ht:t.length≤600):spec_l5Seal.f K (bL key) (a:Int) (b:Int) (c:Int) (bL t)=some (bL (headB a b c) ++ bL (sealL (schedL key) (nonceB b c) (headB a b c) t)):=by
 unfold spec_l5Seal.f
 rw[head_spec K a b c hc zq8,nonce_spec K b c hb hc zq8]
 simp only[Option.bind_some]
 rw[l1Copy_at _ (by rw[headB_length];omega),sealS_at K hK key _ _ t hk (nonceB_length _ _) (by rw[headB_length];omega) ht]
 simp only[Option.bind_some]
 rw[if_pos (by rw[bL_length,bL_length,headB_length,sealL_length];omega)]
theorem sealLetter_both (K:Nat) (hK:5000≤K) (p:Int) (m:List S54) (a b c:Int) (t:List (BitVec 8)) (hm:m.length≤1048576) (hb:∀ x ∈ m,x.f1.length≤1048576∧isBs x.f1=true) :
  ∃ r1 r2,spec_SealLetter.f K p m a b c (bL t)=some (r1,r2)∧impl_SealLetter.f K p m a b c (bL t)=some (r1,r2)∧r2.length≤1048576:=by
 unfold spec_SealLetter.f impl_SealLetter.f
 rw[ring_fault K p m hm zq8,show spec_RingFault.f p m=some (ringFaultL p m) from rfl]
 simp only[Option.bind_some]
 by_cases h0:ringFaultL p m=0
 case neg=>
  rw[if_neg h0,if_neg h0]
  exact⟨_,_,rfl,rfl,by simp⟩
 rw[if_pos h0,if_pos h0]
 obtain⟨y,hi,hs⟩:=faultL_at (K - 1) a b c (bL t)
 rw[show K - 1+1=K by omega] at hi
 rw[hi,hs]
 simp only[Option.bind_some]
 by_cases hy:y=0
 case neg=>
  rw[if_neg hy,if_neg hy]
  exact⟨_,_,rfl,rfl,by simp⟩
 subst hy
 rw[if_pos rfl,if_pos rfl,if_pos (show m.length < 140737488355328 by omega)]
 obtain⟨ha,hb1,hc,ht⟩:=letter_ok a b c _ hs
 clear hi hs
 by_cases hq:placeL a m 0 < 0
 ·rw[if_pos hq,find_none K p m a hm zq8 h0 hq]
  simp only[Option.bind_some]
  rw[if_neg zq36]
  exact⟨_,_,rfl,rfl,by simp⟩
 have hb2:=placeL_bd a m 0
 rw[show ((0:Nat):Int)=0 from rfl] at hb2
 obtain⟨q,hqe⟩:∃ q:Nat,placeL a m 0=(q:Int):=⟨(placeL a m 0).toNat,zq8⟩
 rw[if_neg hq,find_some K p m a hm (fun x hx=>(hb x hx).1) zq8 h0 q hqe zq8,hqe,if_pos zq8,rd_get m q zq8]
 have hql:q < m.length:=by omega
 have hkl:=ring_len p m h0 _ (List.getElem_mem hql)
 obtain⟨key,hke⟩:∃ key,m[q].f1=bL key:=⟨_,isBs_bL (hb _ (List.getElem_mem hql)).2⟩
 rw[hke,bL_length] at hkl
 rw[bL_length] at ht
 obtain⟨a,rfl⟩:∃ v:Nat,a=(v:Int):=⟨a.toNat,zq8⟩
 obtain⟨b,rfl⟩:∃ v:Nat,b=(v:Int):=⟨b.toNat,zq8⟩
 obtain⟨c,rfl⟩:∃ v:Nat,c=(v:Int):=⟨c.toNat,zq8⟩
 simp only[Option.bind_some,if_true]
 rw[hke,l5Seal_at K zq8 key t a b c hkl zq8 zq8 zq8,head_impl K a b c zq8 zq8 zq8 zq8,nonce_impl K b c zq8 zq8 zq8]
 simp only[Option.bind_some]
 rw[seal_impl key _ _ t hkl (nonceB_length _ _) (by rw[headB_length];omega) zq8]
 simp only[Option.bind_some]
 rw[if_pos (by rw[List.length_append,bL_length,bL_length,headB_length,sealL_length];omega)]
 exact⟨_,_,rfl,rfl,by rw[List.length_append,bL_length,bL_length,headB_length,sealL_length];omega⟩
end Go.Proofs.Ytdbanjdnjhflcaa.All
