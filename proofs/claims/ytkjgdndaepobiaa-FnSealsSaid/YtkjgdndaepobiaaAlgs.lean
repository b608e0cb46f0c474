-- Laid by wip/shake.py of this repo out of this claim's texts. Not trusted: Lean checks it.
import Derived.Test.YtkjgdndaepobiaaAb0s
import Derived.Laws.BitsAllLaws
import Derived.Test.YtkjgdndaepobiaaWs0
section
namespace Go.Proofs.Ytkjgdndaepobiaa
section
variable {w:Nat} (X:BitVec w→BitVec w)
def opX:List Bool→BitVec w→BitVec w→BitVec w
 | [],_,o=>o
 | c :: cs,a,o=>opX cs (X a) (if c=true then o ^^^ a else o)
theorem xor4 (a b c d:BitVec w):(a ^^^ b) ^^^ (c ^^^ d)=(a ^^^ c) ^^^ (b ^^^ d):=by
 rw[BitVec.xor_assoc,← BitVec.xor_assoc b c d,BitVec.xor_comm b c,BitVec.xor_assoc c b d,← BitVec.xor_assoc]
variable {X}
theorem X_zero (hX:∀ a b,X (a ^^^ b)=X a ^^^ X b):X 0#w=0#w:=by
 have h:=hX 0#w 0#w
 rw[BitVec.xor_self,BitVec.xor_self] at h
 exact h
theorem opX_add (hX:∀ a b,X (a ^^^ b)=X a ^^^ X b) (bs:List Bool):∀ a b o p,opX X bs (a ^^^ b) (o ^^^ p)=opX X bs a o ^^^ opX X bs b p:=by
 induction bs with
 | nil=>intro a b o p;rfl
 | cons c cs ih=>
  intro a b o p
  simp only[opX]
  rw[hX]
  cases c
  ·simpa using ih _ _ _ _
  ·simp only[if_true]
   rw[xor4 o p a b]
   exact ih _ _ _ _
theorem opX_zero (hX:∀ a b,X (a ^^^ b)=X a ^^^ X b) (bs:List Bool):opX X bs 0#w 0#w=0#w:=by
 have h:=opX_add hX bs 0#w 0#w 0#w 0#w
 rw[BitVec.xor_self,BitVec.xor_self] at h
 exact h
theorem opX_map (F:BitVec w→BitVec w) (hF:∀ a b,F (a ^^^ b)=F a ^^^ F b) (hFX:∀ a,F (X a)=X (F a)) (bs:List Bool) :
  ∀ a o,F (opX X bs a o)=opX X bs (F a) (F o):=by
 induction bs with
 | nil=>intro a o;rfl
 | cons c cs ih=>
  intro a o
  simp only[opX]
  rw[ih,hFX]
  cases c
  ·simp
  ·simp[hF]
theorem opX_X (hX:∀ a b,X (a ^^^ b)=X a ^^^ X b) (bs:List Bool) (a o:BitVec w):X (opX X bs a o)=opX X bs (X a) (X o):=
 opX_map X hX (fun _=>rfl) bs a o
theorem opX_swap (hX:∀ a b,X (a ^^^ b)=X a ^^^ X b) (bs cs:List Bool) (a:BitVec w):opX X bs (opX X cs a 0#w) 0#w=opX X cs (opX X bs a 0#w) 0#w:=by
 have hF:∀ a b,opX X bs (a ^^^ b) 0#w=opX X bs a 0#w ^^^ opX X bs b 0#w:=fun a b=>by
  have h:=opX_add hX bs a b 0#w 0#w
  rwa [BitVec.xor_zero] at h
 have h:=opX_map (fun a=>opX X bs a 0#w) hF (fun a=>by
  have h:=opX_X hX bs a 0#w
  rw[X_zero hX] at h
  exact h.symm) cs a 0#w
 simpa [opX_zero hX] using h
section
theorem mulX_comm (hX:∀ a b,X (a ^^^ b)=X a ^^^ X b) (bits:BitVec w→List Bool) (e:BitVec w) (hrep:∀ a,opX X (bits a) e 0#w=a) (a b:BitVec w):opX X (bits b) a 0#w=opX X (bits a) b 0#w:=by
 have h:=opX_swap hX (bits b) (bits a) e
 rwa [hrep,hrep] at h
end
end
end Go.Proofs.Ytkjgdndaepobiaa
end
section
namespace Go.Proofs.Ytkjgdndaepobiaa
open Go.Proofs.YtkjgdndaepobiaaW.PrintWords
def bI (b:BitVec 8):Int:=(b.toNat:Int)
def bL (l:List (BitVec 8)):List Int:=l.map bI
theorem bI_lo (b:BitVec 8):0≤bI b:=by unfold bI;omega
theorem bI_hi (b:BitVec 8):bI b < 256:=by have:=b.isLt;unfold bI;omega
theorem bI_inj {a b:BitVec 8} (h:bI a=bI b):a=b:=by
 unfold bI at h
 exact BitVec.eq_of_toNat_eq zq9
theorem bI_ofNat (n:Nat) (h:n < 256):bI (BitVec.ofNat 8 n)=(n:Int):=by
 unfold bI
 rw[BitVec.toNat_ofNat,Nat.mod_eq_of_lt zq9]
theorem bI_of (x:Int) (h:(Lit.int .u8 x).wf=true):∃ b,x=bI b:=by
 have hx:0≤x∧x < 256:=by
  simp[Lit.wf,IntKind.min,IntKind.max,IntKind.bits,IntKind.signed] at h
  exact⟨zq9,zq9⟩
 refine⟨BitVec.ofNat 8 x.toNat,?_⟩
 rw[bI_ofNat _ zq9]
 omega
theorem bL_of:∀ l:List Int,(∀ x ∈ l,(Lit.int .u8 x).wf=true)→∃ m,l=bL m
 | [],_=>⟨[],rfl⟩
 | x :: l,h=>by
  obtain⟨b,rfl⟩:=bI_of x (h x zq101)
  obtain⟨m,rfl⟩:=bL_of l (fun y hy=>h y (by simp[hy]))
  exact⟨b :: m,rfl⟩
theorem bL_length (m:List (BitVec 8)):(bL m).length=m.length:=by simp[bL]
theorem bL_nil:bL []=[]:=rfl
theorem bL_cons (b:BitVec 8) (m:List (BitVec 8)):bL (b :: m)=bI b :: bL m:=rfl
theorem bL_append (m n:List (BitVec 8)):bL (m ++ n)=bL m ++ bL n:=by simp[bL]
theorem bL_take (m:List (BitVec 8)) (k:Nat):(bL m).take k=bL (m.take k):=by simp[bL,List.map_take]
theorem bL_drop (m:List (BitVec 8)) (k:Nat):(bL m).drop k=bL (m.drop k):=by simp[bL,List.map_drop]
theorem bL_set (m:List (BitVec 8)) (k:Nat) (b:BitVec 8):(bL m).set k (bI b)=bL (m.set k b):=by simp[bL,List.map_set]
theorem bL_replicate (n:Nat) (b:BitVec 8):List.replicate n (bI b)=bL (List.replicate n b):=by simp[bL]
theorem rd_bL (m:List (BitVec 8)) (i:Int):rd (bL m) i=bI (m.getD i.toNat 0#8):=by
 unfold rd bL
 simp only[List.getD_eq_getElem?_getD,List.getElem?_map]
 cases m[i.toNat]? <;> rfl
theorem bL_wf (m:List (BitVec 8)):∀ x ∈ bL m,0≤x∧x < 256:=by
 intro x hx
 obtain⟨b,_,rfl⟩:=List.mem_map.1 hx
 exact⟨bI_lo b,bI_hi b⟩
def isBs (l:List Int):Bool:=l.all fun x=>decide (0≤x∧x < 256)
def unB (l:List Int):List (BitVec 8):=l.map fun x=>BitVec.ofNat 8 x.toNat
theorem unB_bL (m:List (BitVec 8)):unB (bL m)=m:=by
 unfold unB bL bI
 rw[List.map_map]
 conv=>rhs;rw[← List.map_id m]
 refine List.map_congr_left fun b _=>?_
 simp
theorem isBs_bL {l:List Int} (h:isBs l=true):l=bL (unB l):=by
 unfold unB bL
 rw[List.map_map]
 conv=>lhs;rw[← List.map_id l]
 refine List.map_congr_left fun x hx=>?_
 have h1:=List.all_eq_true.1 h x hx
 simp only[decide_eq_true_eq] at h1
 simp only[Function.comp,id]
 rw[bI_ofNat _ zq9]
 omega
theorem bL_isBs (m:List (BitVec 8)):isBs (bL m)=true:=by
 unfold isBs
 rw[List.all_eq_true]
 intro x hx
 simpa using bL_wf m x hx
theorem bI_xor (a b:BitVec 8):Go.bits .xor .u8 (bI a) (bI b)=bI (a ^^^ b):=by
 unfold bI
 rw[u8_xor_nat _ _ a.isLt b.isLt,BitVec.toNat_xor]
theorem bI_succ (b:BitVec 8):(bI b+1) % (256:Int)=bI (b+1#8):=by
 unfold bI
 rw[BitVec.toNat_add]
 simp
def xt (a:BitVec 8):BitVec 8:=if a.toNat ≥ 128 then (a <<< 1) ^^^ 27#8 else a <<< 1
theorem bI_dbl (a:BitVec 8):(bI a*(2:Int)) % (256:Int)=bI (a <<< 1):=by
 unfold bI
 rw[BitVec.toNat_shiftLeft,Nat.shiftLeft_eq]
 omega
theorem bI_xt (a:BitVec 8):(if bI a ≥ 128 then (some (Go.bits .xor .u8 ((bI a*2) % 256) 27)) else (some ((bI a*2) % 256)))=some (bI (xt a)):=by
 unfold xt
 rw[bI_dbl]
 by_cases h:a.toNat ≥ 128
 ·rw[if_pos h,if_pos (by unfold bI;omega),show (27:Int)=bI 27#8 from rfl,bI_xor]
 ·rw[if_neg h,if_neg (by unfold bI;omega)]
def bitsB (b:BitVec 8):List Bool:=(List.range 8).map fun i=>b.getLsbD i
def ft (a b:BitVec 8):BitVec 8:=opX xt (bitsB b) a 0#8
def all8 (p:BitVec 8→Bool):Bool:=(List.range 256).all fun n=>p (BitVec.ofNat 8 n)
theorem of_all8 {p:BitVec 8→Bool} (h:all8 p=true) (b:BitVec 8):p b=true:=by
 have:=(List.all_eq_true.1 h) b.toNat (List.mem_range.2 b.isLt)
 simpa using this
theorem xt_bits (a:BitVec 8):xt a=(a <<< 1) ^^^ (if a.getLsbD 7=true then 27#8 else 0#8):=by
 have h:=of_all8 (p:=fun a=>xt a == (a <<< 1) ^^^ (if a.getLsbD 7=true then 27#8 else 0#8)) (by decide +kernel) a
 simpa using h
theorem xt_add (a b:BitVec 8):xt (a ^^^ b)=xt a ^^^ xt b:=by
 rw[xt_bits,xt_bits a,xt_bits b,BitVec.getLsbD_xor,BitVec.shiftLeft_xor_distrib]
 rw[xor4]
 congr 1
 cases a.getLsbD 7 <;> cases b.getLsbD 7 <;> decide
theorem ft_two (a:BitVec 8):ft a 2#8=xt a:=by
 have h:=of_all8 (p:=fun a=>ft a 2#8 == xt a) (by decide +kernel) a
 simpa using h
end Go.Proofs.Ytkjgdndaepobiaa
end
section
namespace Go.Proofs.Ytkjgdndaepobiaa
open Go.Proofs.YtkjgdndaepobiaaW.PrintWords
def boxN:List Nat:=[99,124,119,123,242,107,111,197,48,1,103,43,254,215,171,118,202,130,201,125,250,89,71,240,173,212,162,175,156,164,114,192,183,253,147,38,54,63,247,204,52,165,229,241,113,216,49,21,4,199,35,195,24,150,5,154,7,18,128,226,235,39,178,117,9,131,44,26,27,110,90,160,82,59,214,179,41,227,47,132,83,209,0,237,32,252,177,91,106,203,190,57,74,76,88,207,208,239,170,251,67,77,51,133,69,249,2,127,80,60,159,168,81,163,64,143,146,157,56,245,188,182,218,33,16,255,243,210,205,12,19,236,95,151,68,23,196,167,126,61,100,93,25,115,96,129,79,220,34,42,144,136,70,238,184,20,222,94,11,219,224,50,58,10,73,6,36,92,194,211,172,98,145,149,228,121,231,200,55,109,141,213,78,169,108,86,244,234,101,122,174,8,186,120,37,46,28,166,180,198,232,221,116,31,75,189,139,138,112,62,181,102,72,3,246,14,97,53,87,185,134,193,29,158,225,248,152,17,105,217,142,148,155,30,135,233,206,85,40,223,140,161,137,13,191,230,66,104,65,153,45,15,176,84,187,22]
def SB (b:BitVec 8):BitVec 8:=BitVec.ofNat 8 (boxN.getD b.toNat 0)
def by_ (xs:List (BitVec 8)) (i:Nat):BitVec 8:=xs.getD i 0#8
def tab (n:Nat) (f:Nat→BitVec 8):List (BitVec 8):=(List.range n).map f
theorem tab_length (n:Nat) (f:Nat→BitVec 8):(tab n f).length=n:=by simp[tab]
theorem tab_get (n:Nat) (f:Nat→BitVec 8) (i:Nat) (h:i < n):by_ (tab n f) i=f i:=by
 unfold by_ tab
 rw[List.getD_eq_getElem?_getD,List.getElem?_map,List.getElem?_range h]
 rfl
theorem tab_congr {n:Nat} {f g:Nat→BitVec 8} (h:∀ i,i < n→f i=g i):tab n f=tab n g:=
 List.map_congr_left fun i hi=>h i (List.mem_range.1 hi)
theorem tab_self (xs:List (BitVec 8)):tab xs.length (by_ xs)=xs:=by
 apply List.ext_getElem?
 intro i
 unfold tab by_
 rw[List.getElem?_map]
 rcases Nat.lt_or_ge i xs.length with h|h
 ·rw[List.getElem?_range h]
  simp[List.getElem?_eq_getElem h]
 ·rw[List.getElem?_eq_none (by simpa using h),List.getElem?_eq_none h]
  rfl
theorem tab_eq {n:Nat} {xs:List (BitVec 8)} (hl:xs.length=n) {f:Nat→BitVec 8} (h:∀ i,i < n→by_ xs i=f i):xs=tab n f:=by
 subst hl
 exact(tab_self xs).symm.trans (tab_congr h)
def pad16 (xs:List (BitVec 8)):List (BitVec 8):=tab 16 (by_ xs)
theorem pad16_length (xs:List (BitVec 8)):(pad16 xs).length=16:=tab_length _ _
theorem pad16_self (xs:List (BitVec 8)) (h:xs.length=16):pad16 xs=xs:=by unfold pad16;rw[← h,tab_self]
theorem by_out (xs:List (BitVec 8)) (i:Nat) (h:xs.length≤i):by_ xs i=0#8:=by
 unfold by_
 rw[List.getD_eq_getElem?_getD,List.getElem?_eq_none h]
 rfl
def upTo (xs:List (BitVec 8)):Nat→Nat→List (BitVec 8)
 | 0,_=>xs
 | n+1,i=>if by_ xs i+1#8≠0#8 then xs.set i (by_ xs i+1#8) else upTo (xs.set i (by_ xs i+1#8)) n (i - 1)
def upL (xs:List (BitVec 8)):List (BitVec 8):=upTo xs 4 15
theorem upTo_length:∀ (n:Nat) (xs:List (BitVec 8)) (i:Nat),(upTo xs n i).length=xs.length
 | 0,_,_=>rfl
 | n+1,xs,i=>by
  unfold upTo
  split
  ·simp
  ·rw[upTo_length n]
   simp
theorem upL_length' (xs:List (BitVec 8)):(upL xs).length=xs.length:=upTo_length _ _ _
def subL (xs:List (BitVec 8)):List (BitVec 8):=tab 16 fun i=>SB (by_ xs i)
def shiftL (xs:List (BitVec 8)):List (BitVec 8):=tab 16 fun i=>by_ xs (i % 4+4*((i / 4+i % 4) % 4))
def mixAt (xs:List (BitVec 8)) (i:Nat):BitVec 8:=
 xt (by_ xs i) ^^^ xt (by_ xs (i / 4*4+(i % 4+1) % 4)) ^^^ by_ xs (i / 4*4+(i % 4+1) % 4) ^^^ by_ xs (i / 4*4+(i % 4+2) % 4) ^^^ by_ xs (i / 4*4+(i % 4+3) % 4)
def mixL (xs:List (BitVec 8)):List (BitVec 8):=tab 16 (mixAt xs)
theorem mixAt_eq (xs:List (BitVec 8)) (c r:Nat) (hc:c % 4=0) (hr:r < 4):mixAt xs (c+r) =
  xt (by_ xs (c+r)) ^^^ xt (by_ xs (c+(r+1) % 4)) ^^^ by_ xs (c+(r+1) % 4) ^^^ by_ xs (c+(r+2) % 4) ^^^ by_ xs (c+(r+3) % 4):=by
 unfold mixAt
 rw[show (c+r) / 4*4=c by omega,show (c+r) % 4=r by omega]
def addL (ks:List (BitVec 8)) (r:Nat) (xs:List (BitVec 8)):List (BitVec 8):=tab 16 fun i=>by_ xs i ^^^ by_ ks (16*r+i)
def encTo (ks xs:List (BitVec 8)):Nat→List (BitVec 8)
 | 0=>addL ks 0 xs
 | r+1=>addL ks (r+1) (mixL (shiftL (subL (encTo ks xs r))))
def encL (ks xs:List (BitVec 8)):List (BitVec 8):=addL ks 10 (shiftL (subL (encTo ks xs 9)))
theorem subL_length (xs:List (BitVec 8)):(subL xs).length=16:=tab_length _ _
theorem shiftL_length (xs:List (BitVec 8)):(shiftL xs).length=16:=tab_length _ _
theorem mixL_length (xs:List (BitVec 8)):(mixL xs).length=16:=tab_length _ _
theorem addL_length (ks:List (BitVec 8)) (r:Nat) (xs:List (BitVec 8)):(addL ks r xs).length=16:=tab_length _ _
theorem encTo_length (ks xs:List (BitVec 8)) (r:Nat):(encTo ks xs r).length=16:=by cases r <;> exact addL_length _ _ _
theorem encL_length (ks xs:List (BitVec 8)):(encL ks xs).length=16:=addL_length _ _ _
def rcon:Nat→BitVec 8
 | 0=>1#8
 | n+1=>xt (rcon n)
def keyT (xs:List (BitVec 8)) (i:Nat) (k:Nat):BitVec 8:=
 if i % 16=0 then SB (by_ xs (i - 4+(k+1) % 4)) ^^^ (if k=0 then rcon (i / 16 - 1) else 0#8) else by_ xs (i - 4+k)
def keyStep (xs:List (BitVec 8)) (i:Nat):List (BitVec 8):=
 xs ++ (List.range 4).map fun k=>by_ xs (i+k - 16) ^^^ keyT xs i k
def keyTo (key:List (BitVec 8)):Nat→List (BitVec 8)
 | 0=>key
 | n+1=>keyStep (keyTo key n) (16+4*n)
def schedL (key:List (BitVec 8)):List (BitVec 8):=keyTo key 40
theorem keyTo_length (key:List (BitVec 8)) (h:key.length=16):∀ n,(keyTo key n).length=16+4*n
 | 0=>h
 | n+1=>by
  have:=keyTo_length key h n
  simp[keyTo,keyStep,this]
  omega
theorem schedL_length (key:List (BitVec 8)) (h:key.length=16):(schedL key).length=176:=keyTo_length key h 40
end Go.Proofs.Ytkjgdndaepobiaa
end
section
namespace Go.Proofs.Ytkjgdndaepobiaa
open Go.Proofs.YtkjgdndaepobiaaW.PrintWords
def numN (a:Nat) (m:List (BitVec 8)):Nat:=m.foldl (fun a b=>a*256+b.toNat) a
theorem numN_cons (a:Nat) (b:BitVec 8) (m:List (BitVec 8)):numN a (b :: m)=numN (a*256+b.toNat) m:=rfl
theorem numN_lt:∀ (m:List (BitVec 8)) (a n:Nat),a < n→numN a m < n*256 ^ m.length
 | [],a,n,h=>by simpa [numN] using h
 | b :: m,a,n,h=>by
  have h1:=b.isLt
  have h2:=numN_lt m (a*256+b.toNat) (n*256) zq9
  rw[numN_cons,List.length_cons,Nat.pow_succ]
  calc numN (a*256+b.toNat) m < n*256*256 ^ m.length:=h2
   _=n*(256 ^ m.length*256):=by rw[Nat.mul_assoc,Nat.mul_comm 256]
theorem or_byte (a:Nat) (b:BitVec 8):(a*256) ||| b.toNat=a*256+b.toNat:=by
 have h:=Nat.two_pow_add_eq_or_of_lt (i:=8) b.isLt a
 rw[show (2:Nat) ^ 8=256 from rfl,Nat.mul_comm 256 a] at h
 exact h.symm
theorem u64_in (n:Nat) (h:n < 18446744073709551616):IntKind.u64.wrap (n:Int)=(n:Int):=by
 simp[IntKind.wrap,IntKind.bits,IntKind.signed]
 omega
theorem word_step (a:Nat) (b:BitVec 8) (h:a < 72057594037927936):Go.bits .or .u64 (IntKind.u64.wrap ((a:Int)*256)) (IntKind.u64.wrap (bI b))=((a*256+b.toNat:Nat):Int):=by
 have hb:=b.isLt
 have e1:(a:Int)*256=((a*256:Nat):Int):=by omega
 rw[e1,u64_in _ zq9]
 unfold bI
 rw[u64_in _ zq9,u64_or_nat _ _ zq9 zq9,or_byte]
theorem numN_snoc (a:Nat) (m:List (BitVec 8)) (b:BitVec 8):numN a (m ++ [b])=numN a m*256+b.toNat:=by
 unfold numN
 rw[List.foldl_append]
 rfl
theorem numN_take (m:List (BitVec 8)) (i:Nat) (h:i < m.length):numN 0 (m.take (i+1))=numN 0 (m.take i)*256+(by_ m i).toNat:=by
 rw[List.take_succ_eq_append_getElem h,numN_snoc]
 unfold by_
 rw[List.getD_eq_getElem?_getD,List.getElem?_eq_getElem h]
 rfl
theorem numN_take_lt (m:List (BitVec 8)) (i:Nat) (h:i < 8):numN 0 (m.take i) < 72057594037927936:=by
 have h1:=numN_lt (m.take i) 0 1 zq9
 have h2:256 ^ (m.take i).length≤256 ^ 7:=Nat.pow_le_pow_right zq9 zq197
 omega
theorem by_drop (m:List (BitVec 8)) (k i:Nat):by_ (m.drop k) i=by_ m (k+i):=by
 unfold by_
 simp[List.getD_eq_getElem?_getD,List.getElem?_drop]
def hiN (m:List (BitVec 8)):Nat:=numN 0 (m.take 8)
def loN (m:List (BitVec 8)):Nat:=numN 0 ((m.drop 8).take 8)
def cE (h l:Nat):Array Value:=#[.int .u64 (h:Int),.int .u64 (l:Int)]
theorem cE_set0 (h l x:Nat):(cE h l).setIfInBounds 0 (.int .u64 (x:Int))=cE x l:=rfl
theorem cE_set1 (h l x:Nat):(cE h l).setIfInBounds 1 (.int .u64 (x:Int))=cE h x:=rfl
theorem cE_one (h l:Nat):(cE h l).all (·.oneCell')=true:=by simp[cE,Value.oneCell']
theorem cE_shift (h l n:Nat):(#[.int .u64 (((h / 256 ^ n:Nat):Int) / 256),.int .u64 (((l / 256 ^ n:Nat):Int) / 256)]:Array Value)=cE (h / 256 ^ (n+1)) (l / 256 ^ (n+1)):=by
 unfold cE
 rw[Nat.pow_succ,← Nat.div_div_eq_div_mul,← Nat.div_div_eq_div_mul]
 rfl
def outAt (h l j:Nat):BitVec 8:=if j < 8 then BitVec.ofNat 8 (h / 256 ^ (7 - j)) else BitVec.ofNat 8 (l / 256 ^ (15 - j))
def outL (h l n:Nat):List (BitVec 8):=tab 16 fun j=>if 8 - n≤j % 8 then outAt h l j else 0#8
theorem outL_length (h l n:Nat):(outL h l n).length=16:=tab_length _ _
theorem outL_zero (h l:Nat):outL h l 0=tab 16 fun _=>0#8:=tab_congr fun j _=>by rw[if_neg zq9]
theorem byte_of (x:Nat):((x:Nat):Int) % 256=bI (BitVec.ofNat 8 x):=by
 unfold bI
 rw[BitVec.toNat_ofNat]
 omega
theorem tab_set (n:Nat) (f:Nat→BitVec 8) (i:Nat) (b:BitVec 8) (h:i < n):(tab n f).set i b=tab n fun j=>if j=i then b else f j:=by
 apply List.ext_getElem?
 intro j
 unfold tab
 rw[List.getElem?_set,List.getElem?_map]
 by_cases e:i=j
 ·subst e
  simp[h]
 ·rw[if_neg e]
  rcases Nat.lt_or_ge j n with hj|hj
  ·have e2:¬ j=i:=fun q=>e q.symm
   simp[List.getElem?_range hj,e2]
  ·rw[List.getElem?_eq_none (by simpa using hj),List.getElem?_eq_none (by simpa using hj)]
   rfl
theorem outL_set (h l n:Nat) (hn:n < 8):(((outL h l n).set (7 - n) (BitVec.ofNat 8 (h / 256 ^ n))).set (7 - n+8) (BitVec.ofNat 8 (l / 256 ^ n)))=outL h l (n+1):=by
 unfold outL
 rw[tab_set _ _ _ _ zq9,tab_set _ _ _ _ zq9]
 refine tab_congr fun j hj=>?_
 by_cases h1:j=7 - n+8
 ·subst h1
  rw[if_pos rfl,if_pos zq9]
  unfold outAt
  rw[if_neg zq9,show 15 - (7 - n+8)=n by omega]
 ·rw[if_neg h1]
  by_cases h2:j=7 - n
  ·subst h2
   rw[if_pos rfl,if_pos zq9]
   unfold outAt
   rw[if_pos zq9,show 7 - (7 - n)=n by omega]
  ·rw[if_neg h2]
   by_cases h3:8 - n≤j % 8
   ·rw[if_pos h3,if_pos zq9]
   ·rw[if_neg h3,if_neg zq9]
end Go.Proofs.Ytkjgdndaepobiaa
end
