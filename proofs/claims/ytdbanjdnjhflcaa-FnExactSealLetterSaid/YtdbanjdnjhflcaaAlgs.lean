-- Laid by wip/shake.py of this repo out of this claim's texts. Not trusted: Lean checks it.
import Derived.Test.YtdbanjdnjhflcaaAb0s
import Derived.Laws.BitsAllLaws
import Derived.Test.YtdbanjdnjhflcaaWs0
import Derived.Test.YtdbanjdnjhflcaaProg
import Derived.Below
import Derived.Deep.Draws
import Derived.Deep.AppendLies
import Derived.OwnWalk
import Derived.Laws.MakeOwn
import Derived.Laws.OwnMore
import Derived.Deep.OwnRows
import Derived.Tactics
import Derived.Laws.Slices
import Derived.WalkKit
import Derived.KernelRfl
import Derived.RowKit3
import Derived.WideLaws
import Derived.Laws.Rows
import Derived.Laws.CopyRow
import Derived.Laws.BitsLemmas
import Derived.StillTailTactics
import Derived.Deep.QuietTactic
import Derived.BigQuiet
import Derived.Deep.RegionHeld3
import Derived.Deep.RegionWith
import Derived.RowKit
import Derived.Maps.AppendAt
import Derived.Laws.BytesArg
import Derived.Lib.ConvBytes
import Derived.Deep.LoopGhost
import Derived.Deep.DeepCutAuto
import Derived.Deep.CutBlock
import Derived.Lib.AppendStr
import Derived.ArgAppend
import Derived.Laws.IdiomCopy
import Derived.OrdersHeld
import Derived.Laws.StructEq
set_option linter.unusedSimpArgs false
set_option linter.unusedVariables false
namespace Go.Proofs.Ytdbanjdnjhflcaa
open Go.Proofs.YtdbanjdnjhflcaaW.PrintWords.Aside0 renaming mk→zM
section
section
variable {w:Nat} (X:BitVec w→BitVec w)
def opX:List Bool→BitVec w→BitVec w→BitVec w
 | [],_,o=>o
 | c :: cs,a,o=>opX cs (X a) (if c=true then o ^^^ a else o)
theorem xor4 (a b c d:BitVec w):(a ^^^ b) ^^^ (c ^^^ d)=(a ^^^ c) ^^^ (b ^^^ d):=by
 rw[BitVec.xor_assoc,← BitVec.xor_assoc b c d,BitVec.xor_comm b c,BitVec.xor_assoc c b d,← BitVec.xor_assoc]
variable {X}
theorem X_zero (hX:∀ a b,X (a ^^^ b)=X a ^^^ X b):X 0#w=0#w:=by
 have h:=hX 0#w 0#w
 rw[BitVec.xor_self,BitVec.xor_self] at h
 exact h
theorem opX_add (hX:∀ a b,X (a ^^^ b)=X a ^^^ X b) (bs:List Bool):∀ a b o p,opX X bs (a ^^^ b) (o ^^^ p)=opX X bs a o ^^^ opX X bs b p:=by
 induction bs with
 | nil=>intro a b o p;rfl
 | cons c cs ih=>
  intro a b o p
  simp only[opX]
  rw[hX]
  cases c
  ·simpa using ih _ _ _ _
  ·simp only[if_true]
   rw[xor4 o p a b]
   exact ih _ _ _ _
theorem opX_zero (hX:∀ a b,X (a ^^^ b)=X a ^^^ X b) (bs:List Bool):opX X bs 0#w 0#w=0#w:=by
 have h:=opX_add hX bs 0#w 0#w 0#w 0#w
 rw[BitVec.xor_self,BitVec.xor_self] at h
 exact h
theorem opX_map (F:BitVec w→BitVec w) (hF:∀ a b,F (a ^^^ b)=F a ^^^ F b) (hFX:∀ a,F (X a)=X (F a)) (bs:List Bool) :
  ∀ a o,F (opX X bs a o)=opX X bs (F a) (F o):=by
 induction bs with
 | nil=>intro a o;rfl
 | cons c cs ih=>
  intro a o
  simp only[opX]
  rw[ih,hFX]
  cases c
  ·simp
  ·simp[hF]
theorem opX_X (hX:∀ a b,X (a ^^^ b)=X a ^^^ X b) (bs:List Bool) (a o:BitVec w):X (opX X bs a o)=opX X bs (X a) (X o):=
 opX_map X hX (fun _=>rfl) bs a o
theorem opX_swap (hX:∀ a b,X (a ^^^ b)=X a ^^^ X b) (bs cs:List Bool) (a:BitVec w):opX X bs (opX X cs a 0#w) 0#w=opX X cs (opX X bs a 0#w) 0#w:=by
 have hF:∀ a b,opX X bs (a ^^^ b) 0#w=opX X bs a 0#w ^^^ opX X bs b 0#w:=fun a b=>by
  have h:=opX_add hX bs a b 0#w 0#w
  rwa [BitVec.xor_zero] at h
 have h:=opX_map (fun a=>opX X bs a 0#w) hF (fun a=>by
  have h:=opX_X hX bs a 0#w
  rw[X_zero hX] at h
  exact h.symm) cs a 0#w
 simpa [opX_zero hX] using h
section
theorem mulX_comm (hX:∀ a b,X (a ^^^ b)=X a ^^^ X b) (bits:BitVec w→List Bool) (e:BitVec w) (hrep:∀ a,opX X (bits a) e 0#w=a) (a b:BitVec w):opX X (bits b) a 0#w=opX X (bits a) b 0#w:=by
 have h:=opX_swap hX (bits b) (bits a) e
 rwa [hrep,hrep] at h
end
end
end
section
open Go.Proofs.YtdbanjdnjhflcaaW.PrintWords
def bI (b:BitVec 8):Int:=(b.toNat:Int)
def bL (l:List (BitVec 8)):List Int:=l.map bI
theorem bI_lo (b:BitVec 8):0≤bI b:=by unfold bI;omega
theorem bI_hi (b:BitVec 8):bI b < 256:=by have:=b.isLt;unfold bI;omega
theorem bI_inj {a b:BitVec 8} (h:bI a=bI b):a=b:=by
 unfold bI at h
 exact BitVec.eq_of_toNat_eq zq8
theorem bI_ofNat (n:Nat) (h:n < 256):bI (BitVec.ofNat 8 n)=(n:Int):=by
 unfold bI
 rw[BitVec.toNat_ofNat,Nat.mod_eq_of_lt zq8]
theorem bI_of (x:Int) (h:(Lit.int .u8 x).wf=true):∃ b,x=bI b:=by
 have hx:0≤x∧x < 256:=by
  simp[Lit.wf,IntKind.min,IntKind.max,IntKind.bits,IntKind.signed] at h
  exact⟨zq8,zq8⟩
 refine⟨BitVec.ofNat 8 x.toNat,?_⟩
 rw[bI_ofNat _ zq8]
 omega
theorem bL_of:∀ l:List Int,(∀ x ∈ l,(Lit.int .u8 x).wf=true)→∃ m,l=bL m
 | [],_=>⟨[],rfl⟩
 | x :: l,h=>by
  obtain⟨b,rfl⟩:=bI_of x (h x zq73)
  obtain⟨m,rfl⟩:=bL_of l (fun y hy=>h y (by simp[hy]))
  exact⟨b :: m,rfl⟩
theorem bL_length (m:List (BitVec 8)):(bL m).length=m.length:=by simp[bL]
theorem bL_nil:bL []=[]:=rfl
theorem bL_append (m n:List (BitVec 8)):bL (m ++ n)=bL m ++ bL n:=by simp[bL]
theorem bL_take (m:List (BitVec 8)) (k:Nat):(bL m).take k=bL (m.take k):=by simp[bL,List.map_take]
theorem bL_drop (m:List (BitVec 8)) (k:Nat):(bL m).drop k=bL (m.drop k):=by simp[bL,List.map_drop]
theorem bL_set (m:List (BitVec 8)) (k:Nat) (b:BitVec 8):(bL m).set k (bI b)=bL (m.set k b):=by simp[bL,List.map_set]
theorem bL_replicate (n:Nat) (b:BitVec 8):List.replicate n (bI b)=bL (List.replicate n b):=by simp[bL]
theorem rd_bL (m:List (BitVec 8)) (i:Int):rd (bL m) i=bI (m.getD i.toNat 0#8):=by
 unfold rd bL
 simp only[List.getD_eq_getElem?_getD,List.getElem?_map]
 cases m[i.toNat]? <;> rfl
theorem bL_wf (m:List (BitVec 8)):∀ x ∈ bL m,0≤x∧x < 256:=by
 intro x hx
 obtain⟨b,_,rfl⟩:=List.mem_map.1 hx
 exact⟨bI_lo b,bI_hi b⟩
def isBs (l:List Int):Bool:=l.all fun x=>decide (0≤x∧x < 256)
def unB (l:List Int):List (BitVec 8):=l.map fun x=>BitVec.ofNat 8 x.toNat
theorem unB_bL (m:List (BitVec 8)):unB (bL m)=m:=by
 unfold unB bL bI
 rw[List.map_map]
 conv=>rhs;rw[← List.map_id m]
 refine List.map_congr_left fun b _=>?_
 simp
theorem isBs_bL {l:List Int} (h:isBs l=true):l=bL (unB l):=by
 unfold unB bL
 rw[List.map_map]
 conv=>lhs;rw[← List.map_id l]
 refine List.map_congr_left fun x hx=>?_
 have h1:=List.all_eq_true.1 h x hx
 simp only[decide_eq_true_eq] at h1
 simp only[Function.comp,id]
 rw[bI_ofNat _ zq8]
 omega
theorem bL_isBs (m:List (BitVec 8)):isBs (bL m)=true:=by
 unfold isBs
 rw[List.all_eq_true]
 intro x hx
 simpa using bL_wf m x hx
theorem bI_xor (a b:BitVec 8):Go.bits .xor .u8 (bI a) (bI b)=bI (a ^^^ b):=by
 unfold bI
 rw[u8_xor_nat _ _ a.isLt b.isLt,BitVec.toNat_xor]
theorem bI_succ (b:BitVec 8):(bI b+1) % (256:Int)=bI (b+1#8):=by
 unfold bI
 rw[BitVec.toNat_add]
 simp
def xt (a:BitVec 8):BitVec 8:=if a.toNat ≥ 128 then (a <<< 1) ^^^ 27#8 else a <<< 1
theorem bI_dbl (a:BitVec 8):(bI a*(2:Int)) % (256:Int)=bI (a <<< 1):=by
 unfold bI
 rw[BitVec.toNat_shiftLeft,Nat.shiftLeft_eq]
 omega
theorem bI_xt (a:BitVec 8):(if bI a ≥ 128 then (some (Go.bits .xor .u8 ((bI a*2) % 256) 27)) else (some ((bI a*2) % 256)))=some (bI (xt a)):=by
 unfold xt
 rw[bI_dbl]
 by_cases h:a.toNat ≥ 128
 ·rw[if_pos h,if_pos (by unfold bI;omega),show (27:Int)=bI 27#8 from rfl,bI_xor]
 ·rw[if_neg h,if_neg (by unfold bI;omega)]
def bitsB (b:BitVec 8):List Bool:=(List.range 8).map fun i=>b.getLsbD i
def ft (a b:BitVec 8):BitVec 8:=opX xt (bitsB b) a 0#8
def all8 (p:BitVec 8→Bool):Bool:=(List.range 256).all fun n=>p (BitVec.ofNat 8 n)
theorem of_all8 {p:BitVec 8→Bool} (h:all8 p=true) (b:BitVec 8):p b=true:=by
 have:=(List.all_eq_true.1 h) b.toNat (List.mem_range.2 b.isLt)
 simpa using this
theorem xt_bits (a:BitVec 8):xt a=(a <<< 1) ^^^ (if a.getLsbD 7=true then 27#8 else 0#8):=by
 have h:=of_all8 (p:=fun a=>xt a == (a <<< 1) ^^^ (if a.getLsbD 7=true then 27#8 else 0#8)) zq188 a
 simpa using h
theorem xt_add (a b:BitVec 8):xt (a ^^^ b)=xt a ^^^ xt b:=by
 rw[xt_bits,xt_bits a,xt_bits b,BitVec.getLsbD_xor,BitVec.shiftLeft_xor_distrib]
 rw[xor4]
 congr 1
 cases a.getLsbD 7 <;> cases b.getLsbD 7 <;> decide
theorem ft_two (a:BitVec 8):ft a 2#8=xt a:=by
 have h:=of_all8 (p:=fun a=>ft a 2#8 == xt a) zq188 a
 simpa using h
end
section
open Go.Proofs.YtdbanjdnjhflcaaW.PrintWords
def boxN:List Nat:=[99,124,119,123,242,107,111,197,48,1,103,43,254,215,171,118,202,130,201,125,250,89,71,240,173,212,162,175,156,164,114,192,183,253,147,38,54,63,247,204,52,165,229,241,113,216,49,21,4,199,35,195,24,150,5,154,7,18,128,226,235,39,178,117,9,131,44,26,27,110,90,160,82,59,214,179,41,227,47,132,83,209,0,237,32,252,177,91,106,203,190,57,74,76,88,207,208,239,170,251,67,77,51,133,69,249,2,127,80,60,159,168,81,163,64,143,146,157,56,245,188,182,218,33,16,255,243,210,205,12,19,236,95,151,68,23,196,167,126,61,100,93,25,115,96,129,79,220,34,42,144,136,70,238,184,20,222,94,11,219,224,50,58,10,73,6,36,92,194,211,172,98,145,149,228,121,231,200,55,109,141,213,78,169,108,86,244,234,101,122,174,8,186,120,37,46,28,166,180,198,232,221,116,31,75,189,139,138,112,62,181,102,72,3,246,14,97,53,87,185,134,193,29,158,225,248,152,17,105,217,142,148,155,30,135,233,206,85,40,223,140,161,137,13,191,230,66,104,65,153,45,15,176,84,187,22]
def SB (b:BitVec 8):BitVec 8:=BitVec.ofNat 8 (boxN.getD b.toNat 0)
def by_ (xs:List (BitVec 8)) (i:Nat):BitVec 8:=xs.getD i 0#8
def tab (n:Nat) (f:Nat→BitVec 8):List (BitVec 8):=(List.range n).map f
theorem tab_length (n:Nat) (f:Nat→BitVec 8):(tab n f).length=n:=by simp[tab]
theorem tab_get (n:Nat) (f:Nat→BitVec 8) (i:Nat) (h:i < n):by_ (tab n f) i=f i:=by
 unfold by_ tab
 rw[List.getD_eq_getElem?_getD,List.getElem?_map,List.getElem?_range h]
 rfl
theorem tab_congr {n:Nat} {f g:Nat→BitVec 8} (h:∀ i,i < n→f i=g i):tab n f=tab n g:=
 List.map_congr_left fun i hi=>h i (List.mem_range.1 hi)
theorem tab_self (xs:List (BitVec 8)):tab xs.length (by_ xs)=xs:=by
 apply List.ext_getElem?
 intro i
 unfold tab by_
 rw[List.getElem?_map]
 rcases Nat.lt_or_ge i xs.length with h|h
 ·rw[List.getElem?_range h]
  simp[List.getElem?_eq_getElem h]
 ·rw[List.getElem?_eq_none (by simpa using h),List.getElem?_eq_none h]
  rfl
theorem tab_eq {n:Nat} {xs:List (BitVec 8)} (hl:xs.length=n) {f:Nat→BitVec 8} (h:∀ i,i < n→by_ xs i=f i):xs=tab n f:=by
 subst hl
 exact(tab_self xs).symm.trans (tab_congr h)
def pad16 (xs:List (BitVec 8)):List (BitVec 8):=tab 16 (by_ xs)
theorem pad16_length (xs:List (BitVec 8)):(pad16 xs).length=16:=tab_length _ _
theorem pad16_self (xs:List (BitVec 8)) (h:xs.length=16):pad16 xs=xs:=by unfold pad16;rw[← h,tab_self]
theorem by_out (xs:List (BitVec 8)) (i:Nat) (h:xs.length≤i):by_ xs i=0#8:=by
 unfold by_
 rw[List.getD_eq_getElem?_getD,List.getElem?_eq_none h]
 rfl
def upTo (xs:List (BitVec 8)):Nat→Nat→List (BitVec 8)
 | 0,_=>xs
 | n+1,i=>if by_ xs i+1#8≠0#8 then xs.set i (by_ xs i+1#8) else upTo (xs.set i (by_ xs i+1#8)) n (i - 1)
def upL (xs:List (BitVec 8)):List (BitVec 8):=upTo xs 4 15
theorem upTo_length:∀ (n:Nat) (xs:List (BitVec 8)) (i:Nat),(upTo xs n i).length=xs.length
 | 0,_,_=>rfl
 | n+1,xs,i=>by
  unfold upTo
  split
  ·simp
  ·rw[upTo_length n]
   simp
theorem upL_length' (xs:List (BitVec 8)):(upL xs).length=xs.length:=upTo_length _ _ _
def subL (xs:List (BitVec 8)):List (BitVec 8):=tab 16 fun i=>SB (by_ xs i)
def shiftL (xs:List (BitVec 8)):List (BitVec 8):=tab 16 fun i=>by_ xs (i % 4+4*((i / 4+i % 4) % 4))
def mixAt (xs:List (BitVec 8)) (i:Nat):BitVec 8:=
 xt (by_ xs i) ^^^ xt (by_ xs (i / 4*4+(i % 4+1) % 4)) ^^^ by_ xs (i / 4*4+(i % 4+1) % 4) ^^^ by_ xs (i / 4*4+(i % 4+2) % 4) ^^^ by_ xs (i / 4*4+(i % 4+3) % 4)
def mixL (xs:List (BitVec 8)):List (BitVec 8):=tab 16 (mixAt xs)
theorem mixAt_eq (xs:List (BitVec 8)) (c r:Nat) (hc:c % 4=0) (hr:r < 4):mixAt xs (c+r) =
  xt (by_ xs (c+r)) ^^^ xt (by_ xs (c+(r+1) % 4)) ^^^ by_ xs (c+(r+1) % 4) ^^^ by_ xs (c+(r+2) % 4) ^^^ by_ xs (c+(r+3) % 4):=by
 unfold mixAt
 rw[show (c+r) / 4*4=c by omega,show (c+r) % 4=r by omega]
def addL (ks:List (BitVec 8)) (r:Nat) (xs:List (BitVec 8)):List (BitVec 8):=tab 16 fun i=>by_ xs i ^^^ by_ ks (16*r+i)
def encTo (ks xs:List (BitVec 8)):Nat→List (BitVec 8)
 | 0=>addL ks 0 xs
 | r+1=>addL ks (r+1) (mixL (shiftL (subL (encTo ks xs r))))
def encL (ks xs:List (BitVec 8)):List (BitVec 8):=addL ks 10 (shiftL (subL (encTo ks xs 9)))
theorem subL_length (xs:List (BitVec 8)):(subL xs).length=16:=tab_length _ _
theorem shiftL_length (xs:List (BitVec 8)):(shiftL xs).length=16:=tab_length _ _
theorem mixL_length (xs:List (BitVec 8)):(mixL xs).length=16:=tab_length _ _
theorem addL_length (ks:List (BitVec 8)) (r:Nat) (xs:List (BitVec 8)):(addL ks r xs).length=16:=tab_length _ _
theorem encTo_length (ks xs:List (BitVec 8)) (r:Nat):(encTo ks xs r).length=16:=by cases r <;> exact addL_length _ _ _
theorem encL_length (ks xs:List (BitVec 8)):(encL ks xs).length=16:=addL_length _ _ _
def rcon:Nat→BitVec 8
 | 0=>1#8
 | n+1=>xt (rcon n)
def keyT (xs:List (BitVec 8)) (i:Nat) (k:Nat):BitVec 8:=
 if i % 16=0 then SB (by_ xs (i - 4+(k+1) % 4)) ^^^ (if k=0 then rcon (i / 16 - 1) else 0#8) else by_ xs (i - 4+k)
def keyStep (xs:List (BitVec 8)) (i:Nat):List (BitVec 8):=
 xs ++ (List.range 4).map fun k=>by_ xs (i+k - 16) ^^^ keyT xs i k
def keyTo (key:List (BitVec 8)):Nat→List (BitVec 8)
 | 0=>key
 | n+1=>keyStep (keyTo key n) (16+4*n)
def schedL (key:List (BitVec 8)):List (BitVec 8):=keyTo key 40
theorem keyTo_length (key:List (BitVec 8)) (h:key.length=16):∀ n,(keyTo key n).length=16+4*n
 | 0=>h
 | n+1=>by
  have:=keyTo_length key h n
  simp[keyTo,keyStep,this]
  omega
theorem schedL_length (key:List (BitVec 8)) (h:key.length=16):(schedL key).length=176:=keyTo_length key h 40
end
section
open Go.Proofs.YtdbanjdnjhflcaaW.PrintWords
def numN (a:Nat) (m:List (BitVec 8)):Nat:=m.foldl (fun a b=>a*256+b.toNat) a
theorem numN_cons (a:Nat) (b:BitVec 8) (m:List (BitVec 8)):numN a (b :: m)=numN (a*256+b.toNat) m:=rfl
theorem numN_lt:∀ (m:List (BitVec 8)) (a n:Nat),a < n→numN a m < n*256 ^ m.length
 | [],a,n,h=>by simpa [numN] using h
 | b :: m,a,n,h=>by
  have h1:=b.isLt
  have h2:=numN_lt m (a*256+b.toNat) (n*256) zq8
  rw[numN_cons,List.length_cons,Nat.pow_succ]
  calc numN (a*256+b.toNat) m < n*256*256 ^ m.length:=h2
   _=n*(256 ^ m.length*256):=by rw[Nat.mul_assoc,Nat.mul_comm 256]
theorem or_byte (a:Nat) (b:BitVec 8):(a*256) ||| b.toNat=a*256+b.toNat:=by
 have h:=Nat.two_pow_add_eq_or_of_lt (i:=8) b.isLt a
 rw[show (2:Nat) ^ 8=256 from rfl,Nat.mul_comm 256 a] at h
 exact h.symm
theorem u64_in (n:Nat) (h:n < 18446744073709551616):IntKind.u64.wrap (n:Int)=(n:Int):=by
 simp[IntKind.wrap,IntKind.bits,IntKind.signed]
 omega
theorem word_step (a:Nat) (b:BitVec 8) (h:a < 72057594037927936):Go.bits .or .u64 (IntKind.u64.wrap ((a:Int)*256)) (IntKind.u64.wrap (bI b))=((a*256+b.toNat:Nat):Int):=by
 have hb:=b.isLt
 have e1:(a:Int)*256=((a*256:Nat):Int):=by omega
 rw[e1,u64_in _ zq8]
 unfold bI
 rw[u64_in _ zq8,u64_or_nat _ _ zq8 zq8,or_byte]
theorem numN_snoc (a:Nat) (m:List (BitVec 8)) (b:BitVec 8):numN a (m ++ [b])=numN a m*256+b.toNat:=by
 unfold numN
 rw[List.foldl_append]
 rfl
theorem numN_take (m:List (BitVec 8)) (i:Nat) (h:i < m.length):numN 0 (m.take (i+1))=numN 0 (m.take i)*256+(by_ m i).toNat:=by
 rw[List.take_succ_eq_append_getElem h,numN_snoc]
 unfold by_
 rw[List.getD_eq_getElem?_getD,List.getElem?_eq_getElem h]
 rfl
theorem numN_take_lt (m:List (BitVec 8)) (i:Nat) (h:i < 8):numN 0 (m.take i) < 72057594037927936:=by
 have h1:=numN_lt (m.take i) 0 1 zq8
 have h2:256 ^ (m.take i).length≤256 ^ 7:=Nat.pow_le_pow_right zq8 (by rw[List.length_take];omega)
 omega
theorem by_drop (m:List (BitVec 8)) (k i:Nat):by_ (m.drop k) i=by_ m (k+i):=by
 unfold by_
 simp[List.getD_eq_getElem?_getD,List.getElem?_drop]
def hiN (m:List (BitVec 8)):Nat:=numN 0 (m.take 8)
def loN (m:List (BitVec 8)):Nat:=numN 0 ((m.drop 8).take 8)
def cE (h l:Nat):Array Value:=#[.int .u64 (h:Int),.int .u64 (l:Int)]
theorem cE_set0 (h l x:Nat):(cE h l).setIfInBounds 0 (.int .u64 (x:Int))=cE x l:=rfl
theorem cE_set1 (h l x:Nat):(cE h l).setIfInBounds 1 (.int .u64 (x:Int))=cE h x:=rfl
theorem cE_one (h l:Nat):(cE h l).all (·.oneCell')=true:=by simp[cE,Value.oneCell']
theorem cE_shift (h l n:Nat):(#[.int .u64 (((h / 256 ^ n:Nat):Int) / 256),.int .u64 (((l / 256 ^ n:Nat):Int) / 256)]:Array Value)=cE (h / 256 ^ (n+1)) (l / 256 ^ (n+1)):=by
 unfold cE
 rw[Nat.pow_succ,← Nat.div_div_eq_div_mul,← Nat.div_div_eq_div_mul]
 rfl
def outAt (h l j:Nat):BitVec 8:=if j < 8 then BitVec.ofNat 8 (h / 256 ^ (7 - j)) else BitVec.ofNat 8 (l / 256 ^ (15 - j))
def outL (h l n:Nat):List (BitVec 8):=tab 16 fun j=>if 8 - n≤j % 8 then outAt h l j else 0#8
theorem outL_length (h l n:Nat):(outL h l n).length=16:=tab_length _ _
theorem outL_zero (h l:Nat):outL h l 0=tab 16 fun _=>0#8:=tab_congr fun j _=>by rw[if_neg zq8]
theorem byte_of (x:Nat):((x:Nat):Int) % 256=bI (BitVec.ofNat 8 x):=by
 unfold bI
 rw[BitVec.toNat_ofNat]
 omega
theorem tab_set (n:Nat) (f:Nat→BitVec 8) (i:Nat) (b:BitVec 8) (h:i < n):(tab n f).set i b=tab n fun j=>if j=i then b else f j:=by
 apply List.ext_getElem?
 intro j
 unfold tab
 rw[List.getElem?_set,List.getElem?_map]
 by_cases e:i=j
 ·subst e
  simp[h]
 ·rw[if_neg e]
  rcases Nat.lt_or_ge j n with hj|hj
  ·have e2:¬ j=i:=fun q=>e q.symm
   simp[List.getElem?_range hj,e2]
  ·rw[List.getElem?_eq_none (by simpa using hj),List.getElem?_eq_none (by simpa using hj)]
   rfl
theorem outL_set (h l n:Nat) (hn:n < 8):(((outL h l n).set (7 - n) (BitVec.ofNat 8 (h / 256 ^ n))).set (7 - n+8) (BitVec.ofNat 8 (l / 256 ^ n)))=outL h l (n+1):=by
 unfold outL
 rw[tab_set _ _ _ _ zq8,tab_set _ _ _ _ zq8]
 refine tab_congr fun j hj=>?_
 by_cases h1:j=7 - n+8
 ·subst h1
  rw[if_pos rfl,if_pos zq8]
  unfold outAt
  rw[if_neg zq8,show 15 - (7 - n+8)=n by omega]
 ·rw[if_neg h1]
  by_cases h2:j=7 - n
  ·subst h2
   rw[if_pos rfl,if_pos zq8]
   unfold outAt
   rw[if_pos zq8,show 7 - (7 - n)=n by omega]
  ·rw[if_neg h2]
   by_cases h3:8 - n≤j % 8
   ·rw[if_pos h3,if_pos zq8]
   ·rw[if_neg h3,if_neg zq8]
end
section
open Go.RowKit Go.Proofs.YtdbanjdnjhflcaaW.PrintWords
def cB (m:List (BitVec 8)):Array Value:=(m.map fun b=>Value.int .u8 (bI b)).toArray
theorem cB_size (m:List (BitVec 8)):(cB m).size=m.length:=by simp[cB]
theorem cB_get (m:List (BitVec 8)) (i:Nat) (h:i < m.length):(cB m)[i]?=some (.int .u8 (bI (by_ m i))):=by
 simp[cB,by_,List.getD_eq_getElem?_getD,List.getElem?_eq_getElem h]
theorem cB_set (m:List (BitVec 8)) (i:Nat) (b:BitVec 8):(cB m).setIfInBounds i (.int .u8 (bI b))=cB (m.set i b):=by
 apply Array.ext'
 simp[cB,List.map_set]
theorem cB_one (m:List (BitVec 8)):(cB m).all (·.oneCell')=true:=by
 rw[Array.all_eq_true_iff_forall_mem]
 intro x hx
 simp only[cB,List.mem_toArray,List.mem_map] at hx
 obtain⟨b,_,rfl⟩:=hx
 rfl
theorem cB_toList (m:List (BitVec 8)):(cB m).toList=m.map fun b=>Value.int .u8 (bI b):=by simp[cB]
def fillL (n:Nat) (f g:Nat→BitVec 8) (i:Nat):List (BitVec 8):=tab n fun j=>if j < i then f j else g j
theorem fillL_length (n:Nat) (f g:Nat→BitVec 8) (i:Nat):(fillL n f g i).length=n:=tab_length _ _
theorem fillL_get (n:Nat) (f g:Nat→BitVec 8) (i j:Nat) (h:j < n):by_ (fillL n f g i) j=if j < i then f j else g j:=tab_get _ _ _ h
theorem fillL_zero (n:Nat) (f g:Nat→BitVec 8):fillL n f g 0=tab n g:=tab_congr fun i _=>by simp
theorem fillL_all (n:Nat) (f g:Nat→BitVec 8):fillL n f g n=tab n f:=tab_congr fun i hi=>by simp[hi]
theorem set_get (xs:List (BitVec 8)) (i j:Nat) (b:BitVec 8) (h:j < xs.length):by_ (xs.set i b) j=if i=j then b else by_ xs j:=by
 unfold by_
 rw[List.getD_eq_getElem?_getD,List.getD_eq_getElem?_getD,List.getElem?_set]
 by_cases e:i=j
 ·subst e
  simp[h]
 ·simp[e]
theorem fillL_set (n:Nat) (f g:Nat→BitVec 8) (i:Nat) (h:i < n):(fillL n f g i).set i (f i)=fillL n f g (i+1):=by
 refine(tab_eq (n:=n) (by simp[fillL_length]) fun j hj=>?_)
 rw[set_get _ _ _ _ (by rw[fillL_length];exact hj),fillL_get _ _ _ _ _ hj]
 by_cases e:i=j
 ·subst e
  simp
 ·rw[if_neg e]
  by_cases h1:j < i
  ·rw[if_pos h1,if_pos zq8]
  ·rw[if_neg h1,if_neg zq8]
def boxA:ByteArray:=⟨#[99,124,119,123,242,107,111,197,48,1,103,43,254,215,171,118,202,130,201,125,250,89,71,240,173,212,162,175,156,164,114,192,183,253,147,38,54,63,247,204,52,165,229,241,113,216,49,21,4,199,35,195,24,150,5,154,7,18,128,226,235,39,178,117,9,131,44,26,27,110,90,160,82,59,214,179,41,227,47,132,83,209,0,237,32,252,177,91,106,203,190,57,74,76,88,207,208,239,170,251,67,77,51,133,69,249,2,127,80,60,159,168,81,163,64,143,146,157,56,245,188,182,218,33,16,255,243,210,205,12,19,236,95,151,68,23,196,167,126,61,100,93,25,115,96,129,79,220,34,42,144,136,70,238,184,20,222,94,11,219,224,50,58,10,73,6,36,92,194,211,172,98,145,149,228,121,231,200,55,109,141,213,78,169,108,86,244,234,101,122,174,8,186,120,37,46,28,166,180,198,232,221,116,31,75,189,139,138,112,62,181,102,72,3,246,14,97,53,87,185,134,193,29,158,225,248,152,17,105,217,142,148,155,30,135,233,206,85,40,223,140,161,137,13,191,230,66,104,65,153,45,15,176,84,187,22]⟩
theorem box_at (b:BitVec 8):(boxA[b.toNat]?).map (fun x=>(x.toNat:Int))=some (bI (SB b)):=by
 have h:=of_all8 (p:=fun b=>decide ((boxA[b.toNat]?).map (fun x=>(x.toNat:Int))=some (bI (SB b)))) zq188 b
 simpa using h
section
variable {P:Program} {ops:Array Oper} {rest:List Oper} {o:Oper} {a:Act} {Q:Exit→Act→World→Prop} {W:World}
theorem run_index_box (T:TypeId) (hT:P.underlying T=some .string) (s:ByteArray) (hs:s=boxA) (b:BitVec 8) :
  (Instr.index T (.string s) (.int .u8 (bI b))).run P W=.ok (.int .u8 (bI (SB b))) W:=by
 subst hs
 have h:=box_at b
 have h0:=bI_lo b
 have e:(bI b).toNat=b.toNat:=by unfold bI;omega
 cases hx:boxA[b.toNat]? with
 | none=>rw[hx] at h;cases h
 | some x=>
  rw[hx] at h
  simp only[Option.map_some,Option.some.injEq] at h
  simp[Instr.index,asIntOf,run_underlying hT,h0,e,hx,h]
theorem wp_index_box (hgd:o.guard=none) (T:TypeId) (s:ByteArray) (i:Operand) (ho:o.op=.index T (.const (.string s)) i) (hT:P.underlying T=some .string) (hs:s=boxA) (b:BitVec 8)
  (hi:a.eval i=.int .u8 (bI b)) (h:wpList P ops Q rest (a.put o.dst (.int .u8 (bI (SB b)))) W):wpList P ops Q (o :: rest) a W:=by
 refine Kd.event_run hgd ?_ h
 unfold execOp
 simp only[ho,hi]
 rw[show a.eval (.const (.string s))=.string s from rfl,Sem.run_bind,run_index_box T hT s hs b]
 rfl
theorem run_index_arr (T e:TypeId) (n:Nat) (hT:P.underlying T=some (.array n e)) (he:(P.info? e).map (·.size)=some 1) (hk:P.underlying e=some (.int .u8)) (m:List (BitVec 8)) (hm:m.length=n) (i:Nat) (h:i < n) :
  ∀ W,(Instr.index T (.agg (cB m)) (.int .i64 (i:Int))).run P W=.ok (.int .u8 (bI (by_ m i))) W:=by
 intro W
 cases hq:P.info? e with
 | none=>simp[hq] at he
 | some inf=>
  have hs:inf.size=1:=by simpa [hq] using he
  have h1:¬ n≤i:=by omega
  have hc:=cB_get m i zq8
  simp[Instr.index,asIntOf,run_underlying hT,h1,sizeOf,typeInfo,hq,hs,part,isAgg,run_underlying hk,hc]
theorem grown_set (W:World) (g i:Nat) (v:Value):W.grownBy (W.setCell ⟨g,i,none⟩ v) (some g):=
 ⟨rfl,rfl,rfl,by simp[World.setCell],fun k hk hne=>Below.heap_setCell W ⟨g,i,none⟩ v k (fun e=>hne (by rw[e]))⟩
theorem grown_setRow (W:World) (g:Nat) (cs:Array Value):W.grownBy (W.setRow g cs) (some g):=
 ⟨rfl,rfl,rfl,by simp,fun k hk hne=>setRow_other W g k cs (fun e=>hne (by rw[e]))⟩
theorem cell_event (hgd:o.guard=none) {t:TypeId} {p:Tmp} {v:Operand} (_ho:o.op=.store t (.tmp p) v) (hN:o.dst=none) {g:Nat} {cs:Array Value} {e:TypeId} {i:Nat} {x:Value}
  (hg:W.heap[g]?=some (.cells cs e (0,0))) (hrun:(execOp a.eval o).run P W=.ok .skip (W.setCell ⟨g,i,none⟩ x)) {cs':Array Value} (hcs:cs.setIfInBounds i x=cs')
  (h:∀ w1,w1.heap[g]?=some (.cells cs' e (0,0))→W.grownBy w1 (some g)→wpList P ops Q rest a w1):wpList P ops Q (o :: rest) a W:=
 store_event hgd _ho hN hrun fun w' hw=>by
  subst hw
  exact h _ (blk_put hg i x hcs) (grown_set W g i x)
theorem row_event (hgd:o.guard=none) {ty:TypeId} {p:Tmp} {y:Operand} (ho:o.op=.store ty (.tmp p) y) (hN:o.dst=none) {g:Nat} {old cells:Array Value} {e:TypeId}
  (hx:a.eval (.tmp p)=.pointer (some ⟨g,0,none⟩)) (hy:a.eval y=.agg cells) (hg:W.heap[g]?=some (.cells old e (0,0))) (hi:(P.info? ty).map (·.size)=some cells.size)
  (hold:old.size=cells.size) (h1:cells.all (·.oneCell')=true)
  (h:∀ w1,w1.heap[g]?=some (.cells cells e (0,0))→W.grownBy w1 (some g)→wpList P ops Q rest a w1):wpList P ops Q (o :: rest) a W:=by
 refine wpList_store_row hgd ty (.tmp p) y ho g cells hx hy e old hg hi hold h1 ?_
 rw[hN]
 exact h _ (setRow_heap W g old cells e (0,0) hg) (grown_setRow W g cells)
theorem below_grown1 {w:World} {g:Nat} {w1:World} (h:Below w.heap.size w W) (hg:W.grownBy w1 (some g)) (hge:w.heap.size≤g):Below w.heap.size w w1:=
 h.grown hg h.size (fun k hk=>by injection hk with hk;omega)
theorem blk_grown1 {g g':Nat} {ob:Obj} {w1:World} (h:W.heap[g']?=some ob) (hg:W.grownBy w1 (some g)) (hne:g'≠g):w1.heap[g']?=some ob:=
 blk_grown h hg (fun e=>hne (by injection e))
def cpL (old new:List (BitVec 8)):List (BitVec 8):=tab old.length fun i=>if i < new.length then by_ new i else by_ old i
theorem cpL_nil (old:List (BitVec 8)):cpL old []=old:=by
 unfold cpL
 simp only[List.length_nil,Nat.not_lt_zero,if_false]
 exact tab_self old
theorem beq_16 (n:Nat):((n:Int) == 16)=decide (n=16):=by
 rw[Bool.eq_iff_iff,beq_iff_eq,decide_eq_true_iff]
 omega
theorem pad16_cp (m:List (BitVec 8)):cpL (tab 16 fun _=>0#8) m=pad16 m:=by
 unfold cpL pad16
 rw[tab_length]
 refine tab_congr fun i hi=>?_
 by_cases h:i < m.length
 ·rw[if_pos h]
 ·rw[if_neg h,by_out m i zq8,tab_get _ _ _ hi]
theorem copy_cells (old new:List (BitVec 8)):((cB old).toList.take 0 ++ (new.take (Nat.min new.length old.length)).map (fun b=>Value.int .u8 (bI b)) ++ (cB old).toList.drop (0+((new.take (Nat.min new.length old.length)).map (fun b=>Value.int .u8 (bI b))).length)).toArray=cB (cpL old new):=by
 apply Array.ext'
 rw[cB_toList,cB_toList]
 show _=(cpL old new).map fun b=>Value.int .u8 (bI b)
 have h:cpL old new=new.take (Nat.min new.length old.length) ++ old.drop (Nat.min new.length old.length):=by
  symm
  have hm1:Nat.min new.length old.length≤new.length:=Nat.min_le_left _ _
  have hm2:Nat.min new.length old.length≤old.length:=Nat.min_le_right _ _
  have hm3:Nat.min new.length old.length=new.length ∨ Nat.min new.length old.length=old.length:=by
   rcases Nat.le_total new.length old.length with h|h
   ·exact .inl (Nat.min_eq_left h)
   ·exact .inr (Nat.min_eq_right h)
  generalize Nat.min new.length old.length=k at *
  refine tab_eq (by simp;omega) fun i hi=>?_
  unfold by_
  rw[List.getD_eq_getElem?_getD,List.getElem?_append]
  simp only[List.length_take]
  by_cases h1:i < k
  ·rw[if_pos zq8,if_pos zq8,List.getElem?_take,if_pos h1,List.getD_eq_getElem?_getD]
  ·rw[if_neg zq8,List.getElem?_drop,if_neg zq8,List.getD_eq_getElem?_getD,show k+(i - min k new.length)=i by omega]
 rw[h,List.map_append,List.map_drop]
 simp only[List.take_zero,List.nil_append,Nat.zero_add,List.length_map,List.length_take]
 congr 2
 have hm1:Nat.min new.length old.length≤new.length:=Nat.min_le_left _ _
 generalize Nat.min new.length old.length=k at *
 omega
theorem copy_event (hgd:o.guard=none) (x y:Operand) (t e:TypeId) (ho:o.op=.call { callee:=.builtin .copy,args:=#[x,y],argTypes:=#[t,t] }) (ht:P.underlying t=some (.slice e)) (hs:(P.info? e).map (·.size)=some 1)
  {g cap c:Nat} {old new:List (BitVec 8)} {A:Option Addr} {bt:TypeId} (hx:a.eval x=.slice (some ⟨g,0,none⟩) old.length cap) (hy:a.eval y=.slice A new.length c)
  (hg:W.heap[g]?=some (.cells (cB old) bt (0,0))) (hr:Kd.C (Kd.int .u8) W A new.length (bL new))
  (h:∀ w1 v,w1.heap[g]?=some (.cells (cB (cpL old new)) bt (0,0))→W.grownBy w1 (some g)→wpList P ops Q rest (a.put o.dst v) w1):wpList P ops Q (o :: rest) a W:=by
 rcases A with _|ad
 ·have hn:new=[]:=by
   rcases Nat.eq_zero_or_pos new.length with h0|h0
   ·exact List.eq_nil_of_length_eq_zero h0
   ·obtain⟨ad,h1,_⟩:=Kd.at_int hr 0 zq8 zq8
    cases h1
  subst hn
  refine Kd.event_run (v:=goInt 0) (w1:=W) hgd ?_ (h W _ (by rw[cpL_nil];exact hg) (World.grownBy.refl W _))
  cases hq:P.info? e with
  | none=>simp[hq] at hs
  | some i=>
   unfold execOp
   simp[ho,resolve,invoke,builtin,hx,hy,Builtin.copy_,run_underlying ht,Builtin.lenOf,Builtin.firstCells,sizeOf,typeInfo,hq,storeCells]
 ·have hrun:=run_copy_row P W t t o.type e g 0 old.length cap ad new.length c (cB old) bt ((new.take (Nat.min new.length old.length)).map fun b=>Value.int .u8 (bI b)) ht hs hg
   (by rw[List.length_map,List.length_take];exact Nat.min_eq_left (Nat.min_le_left _ _))
   (fun j v hv=>by
    rw[List.getElem?_map] at hv
    cases hq:(new.take (Nat.min new.length old.length))[j]? with
    | none=>rw[hq] at hv;cases hv
    | some b=>
     rw[hq] at hv
     injection hv with hv
     subst hv
     have hj:j < new.length:=by
      have:=(List.getElem?_eq_some_iff.1 hq).1
      rw[List.length_take] at this
      omega
     obtain⟨ad',h1,h2⟩:=Kd.at_int hr (j:Int) zq8 zq8
     injection h1 with h1
     subst h1
     rw[Int.toNat_natCast] at h2
     rw[h2,rd_bL,Int.toNat_natCast]
     rw[List.getElem?_take] at hq
     split at hq
     ·rw[List.getD_eq_getElem?_getD,hq]
      rfl
     ·cases hq)
   (by rw[List.length_map,List.length_take,cB_size];have h9:Nat.min new.length old.length≤old.length:=Nat.min_le_right _ _;omega)
   (fun v hv=>by
    obtain⟨b,_,rfl⟩:=List.mem_map.1 hv
    rfl)
  rw[copy_cells] at hrun
  generalize (goInt ((List.map (fun b=>Value.int IntKind.u8 (bI b)) (new.take (Nat.min new.length old.length))).length:Int))=v at hrun
  refine Kd.event_run (v:=v) (w1:=W.setRow g (cB (cpL old new))) hgd ?_ (h _ v (setRow_heap W g _ _ bt (0,0) hg) (grown_setRow W g _))
  unfold execOp
  simp[ho,resolve,invoke,builtin,hx,hy,hrun]
theorem wp_region_tail {id:Nat} {l:List Oper} {w:World} (n:Nat) (hm:P.follows .mixedOrders=true) (hB:Region.lexTailB .any l.toArray n=true)
  (h:wpStill P l.toArray w.drew (fun a'=>wpList P l.toArray Q (l.drop n) a' w.drew) (l.take n) a):(Code.region id l.toArray true).wp P Q a w:=wp_region_still_tail n hm hB h
theorem R_block {g base:Nat} {bt:TypeId} {m:List (BitVec 8)} {n:Nat} (hg:W.heap[g]?=some (.cells (cB m) bt (0,0))) (hb:base≤g) (hn:m.length=n) (hle:n≤1000) :
  Kd.R (Kd.int .u8) bt W base (fun _=>True) (.slice (some ⟨g,0,none⟩) n n) (bL m):=by
 have e:encs (Value.int .u8) (bL m)=(cB m).toList:=by simp[encs,bL,cB]
 refine Kd.R_of_own (h1:=fun _=>rfl) ?_ (fun _ _=>trivial)
 refine⟨by rw[e];simp[cB,bL],.inr ⟨g,n,cB m,?_,hb,hg,by rw[bL_length,hn];exact Nat.le_refl _,by simp only[maxLen];omega,by rw[cB_size,hn,Nat.mul_one],?_⟩⟩
 ·rw[bL_length,hn]
 ·rw[e,bL_length,Nat.mul_one,List.take_of_length_le (by simp[cB])]
theorem R_grown_types {k:IntKind} {e bt g base:Nat} {cells:Array Value} {v:Value} {xs:List Int} {w1:World} (h:Kd.R (Kd.int k) e W base (fun _=>True) v xs) (hb:W.heap[g]?=some (.cells cells bt (0,0))) (ht:e≠bt)
  (hg:W.grownBy w1 (some g)):Kd.R (Kd.int k) e w1 base (fun _=>True) v xs:=
 Kd.R_mono (Kd.R_grown (Kd.R_types h hb (fun q hq=>by
  rcases List.mem_cons.1 hq with rfl|hq
  ·exact ht
  ·cases hq)) hg (fun j hj e1=>hj.2 (by injection e1))) (fun _ _=>trivial)
end
end
end Go.Proofs.Ytdbanjdnjhflcaa
namespace Go.Proofs.Ytdbanjdnjhflcaa.All
open Go.Proofs.YtdbanjdnjhflcaaW.PrintWords.Aside0 renaming mk→zM
open Go.RowKit Go.Proofs.YtdbanjdnjhflcaaW.PrintWords Go.Proofs.YtdbanjdnjhflcaaW.PrintLast Go.Proofs.YtdbanjdnjhflcaaW.PrintMore
attribute [local go_sem] max2_int min2_int max_two min_two max_three min_three max_four min_four
def errW:Option Int→Value
 | none=>.nilIface
 | some c=>.iface 0 (.int .i64 c)
theorem errW_none:errW none=.nilIface:=rfl
theorem errW_some (c:Int):errW (some c)=.iface 0 (.int .i64 c):=rfl
theorem info5:(Try.prog.info? 5).map (fun i=>(i.zero,i.size,i.bytes))=some (some (.int .u8 0),1,1):=by kernel_rfl
theorem info54:(Try.prog.info? 54).map (fun i=>(i.zero,i.size,i.bytes))=some (some (.agg #[(.int .i64 0),(.slice none 0 0)]),2,32):=by kernel_rfl
structure S70 where
 f0:Int
 f1:(List Int)
def z70:S70:=⟨(0:Int),([]:List Int)⟩
def k70:Kd S70:=Kd.iso (Kd.pair (Kd.int .i64) (Kd.slice 5 (Kd.int .u8))) (fun x:S70=>(x.f0,x.f1))
theorem k70_open {w:World} {x:S70} {cs:List Value} (h:k70.K w x cs):∃ A1 c1,cs=[.int .i64 x.f0,.slice A1 x.f1.length c1]∧x.f1.length≤c1∧(Kd.int .u8).C w A1 x.f1.length x.f1:=by
 obtain⟨_,_,rfl,rfl,⟨A1,c1,rfl,l1,g1⟩⟩:=h
 exact⟨A1,c1,rfl,l1,g1⟩
theorem k70_mk (w:World) (x:S70) {A1:Option Addr} {c1:Nat} (l1:x.f1.length≤c1) (g1:(Kd.int .u8).C w A1 x.f1.length x.f1):k70.K w x [.int .i64 x.f0,.slice A1 x.f1.length c1]:=⟨[.int .i64 x.f0],[.slice A1 x.f1.length c1],rfl,rfl,⟨A1,c1,rfl,l1,g1⟩⟩
def rd_T70 (xs:List S70) (i:Int):S70:=xs.getD i.toNat z70
theorem at_T70 {w:World} {A:Option Addr} {n:Nat} {xs:List S70} (h:Kd.C k70 w A n xs) (i:Int) (h0:0≤i) (h1:i < n):∃ ad A1 c1,A=some ad∧w.cell? (ad.add (i.toNat*2))=some (.int .i64 (rd_T70 xs i).f0)∧w.cell? ⟨(ad.add (i.toNat*2)).block,(ad.add (i.toNat*2)).off+1,none⟩=some (.slice A1 (rd_T70 xs i).f1.length c1)∧(rd_T70 xs i).f1.length≤c1∧(Kd.int .u8).C w A1 (rd_T70 xs i).f1.length (rd_T70 xs i).f1:=by
 obtain⟨ad,c,e,_,hK,hc0⟩:=Kd.C_get h z70 i h0 h1
 have hc:∀ j u,c[j]?=some u→w.cell? (ad.add (i.toNat*2+j))=some u:=hc0
 obtain⟨A1,c1,rfl,l1,g1⟩:=k70_open hK
 exact⟨ad,A1,c1,e,hc 0 _ rfl,by rw[← add_field _ _ 1 zq8];exact hc 1 _ rfl,l1,g1⟩
structure S54 where
 f0:Int
 f1:(List Int)
def z54:S54:=⟨(0:Int),([]:List Int)⟩
def k54:Kd S54:=Kd.iso (Kd.pair (Kd.int .i64) (Kd.slice 5 (Kd.int .u8))) (fun x:S54=>(x.f0,x.f1))
theorem k54_open {w:World} {x:S54} {cs:List Value} (h:k54.K w x cs):∃ A1 c1,cs=[.int .i64 x.f0,.slice A1 x.f1.length c1]∧x.f1.length≤c1∧(Kd.int .u8).C w A1 x.f1.length x.f1:=by
 obtain⟨_,_,rfl,rfl,⟨A1,c1,rfl,l1,g1⟩⟩:=h
 exact⟨A1,c1,rfl,l1,g1⟩
theorem k54_openM {w:World} {base:Nat} {ok:Nat→Prop} {x:S54} {cs:List Value} (h:k54.M w base ok x cs):∃ v1,cs=[.int .i64 x.f0,v1]∧(Kd.int .u8).R 5 w base ok v1 x.f1:=by
 obtain⟨_,_,rfl,rfl,⟨v1,rfl,g1⟩⟩:=h
 exact⟨v1,rfl,g1⟩
theorem k54_mkM (w:World) (base:Nat) (ok:Nat→Prop) (x:S54) {v1:Value} (g1:(Kd.int .u8).R 5 w base ok v1 x.f1):k54.M w base ok x [.int .i64 x.f0,v1]:=⟨[.int .i64 x.f0],[v1],rfl,rfl,⟨v1,rfl,g1⟩⟩
def rd_T54 (xs:List S54) (i:Int):S54:=xs.getD i.toNat z54
theorem at_T54 {w:World} {A:Option Addr} {n:Nat} {xs:List S54} (h:Kd.C k54 w A n xs) (i:Int) (h0:0≤i) (h1:i < n):∃ ad A1 c1,A=some ad∧w.cell? (ad.add (i.toNat*2))=some (.int .i64 (rd_T54 xs i).f0)∧w.cell? ⟨(ad.add (i.toNat*2)).block,(ad.add (i.toNat*2)).off+1,none⟩=some (.slice A1 (rd_T54 xs i).f1.length c1)∧(rd_T54 xs i).f1.length≤c1∧(Kd.int .u8).C w A1 (rd_T54 xs i).f1.length (rd_T54 xs i).f1:=by
 obtain⟨ad,c,e,_,hK,hc0⟩:=Kd.C_get h z54 i h0 h1
 have hc:∀ j u,c[j]?=some u→w.cell? (ad.add (i.toNat*2+j))=some u:=hc0
 obtain⟨A1,c1,rfl,l1,g1⟩:=k54_open hK
 exact⟨ad,A1,c1,e,hc 0 _ rfl,by rw[← add_field _ _ 1 zq8];exact hc 1 _ rfl,l1,g1⟩
def laws_szByteS.f (l0:List Int) (a1:Int):Option (Int):=if (wrap64 (a1 - (l0.length:Int))) < 0 then (some (-1)) else (some (wrap64 (a1 - (l0.length:Int))))
set_option maxHeartbeats 8000000 in
set_option maxRecDepth 100000 in
theorem laws_szByteS.calls (A0:Option Addr) (c0:Nat) (l0:List Int) (a1:Int) (r:Int) (w:World) (hr0:Kd.C (Kd.int .u8) w A0 l0.length l0) (hc0:l0.length≤c0) (h:laws_szByteS.f l0 a1=some r) :
  Calls Try.prog 18 #[.slice A0 l0.length c0,.int .i64 a1] w fun e w'=>e=.returned (.int .i64 r)∧Drawn0 w w':=by
 have HR0:=zM hr0
 have HC0:=zM hc0
 clear hr0 hc0
 have H:(if (wrap64 (a1 - (l0.length:Int))) < 0 then (some (-1)) else (some (wrap64 (a1 - (l0.length:Int)))))=some r:=h
 clear h
 by_cases c3:(wrap64 (a1 - (l0.length:Int))) < 0
 ·rw[if_pos c3] at H
  have c3b0:decide ((wrap64 (a1 - (l0.length:Int))) < 0)=true:=decide_eq_true c3
  clear c3
  obtain rfl:=Option.some.inj H
  go_enter Try.func18,Try.ntmps18
  go_wp2
  go_ret
  exact⟨zq7,zq25⟩
 ·rw[if_neg c3] at H
  have c3b0:decide ((wrap64 (a1 - (l0.length:Int))) < 0)=false:=decide_eq_false c3
  clear c3
  obtain rfl:=Option.some.inj H
  go_enter Try.func18,Try.ntmps18
  go_wp2
  go_ret
  exact⟨zq7,zq25⟩
def laws_szKey.f (a0_0:Int) (l0_1:List Int) (a1:Int):Option (Int):=(laws_szByteS.f l0_1 a1).bind fun t102=>(if t102 < 0 then (some (-1)) else (some t102))
set_option maxHeartbeats 8000000 in
set_option maxRecDepth 100000 in
theorem laws_szKey.calls (a0_0:Int) (A0_1:Option Addr) (c0_1:Nat) (l0_1:List Int) (a1:Int) (r:Int) (w:World) (hr0_1:Kd.C (Kd.int .u8) w A0_1 l0_1.length l0_1) (hc0_1:l0_1.length≤c0_1) (h:laws_szKey.f a0_0 l0_1 a1=some r) :
  Calls Try.prog 38 #[.agg #[.int .i64 a0_0,.slice A0_1 l0_1.length c0_1],.int .i64 a1] w fun e w'=>e=.returned (.int .i64 r)∧Below w.heap.size w w':=by
 have hu70:=Try.underlying70
 have HR0_1:=zM hr0_1
 have HC0_1:=zM hc0_1
 clear hr0_1 hc0_1
 have HB:=zM (Below.refl w.heap.size w)
 have H:((laws_szByteS.f l0_1 a1).bind fun t102=>(if t102 < 0 then (some (-1)) else (some t102)))=some r:=h
 clear h
 replace H:=Option.bind_eq_some_iff.mp H
 obtain⟨t102,A30,H⟩:=H
 replace H:(if t102 < 0 then (some (-1)) else (some t102))=some r:=H
 have A3:=zM A30
 clear A30
 by_cases c4:t102 < 0
 ·rw[if_pos c4] at H
  have c4b0:decide (t102 < 0)=true:=decide_eq_true c4
  clear c4
  obtain rfl:=Option.some.inj H
  go_enter Try.func38,Try.ntmps38
  go_wp2_with (first|((with_reducible refine gate_dst (N:=2) rfl ?_);refine box_event ?hg (N:=2) ?hd (cs:=#[.int .i64 a0_0,.slice A0_1 l0_1.length c0_1]) (t:=70) ?hr ?_;(case hd=>rfl);(case hg=>rfl);(case hr=>first|(go_simp;done)|(go_simp;rfl));intro gb101 hg w5 hbox hb;have n0_:=zM (below_step zq0 hb);have n1_:=zM (hbox);have n2_:=zM ((by rw[hg];exact(below_size zq0):w.heap.size≤gb101));have n3_:=zM ((by rw[hg];exact(below_size zq0):w.heap.size≤gb101));clear HB;have HB:=n0_;have BK101:=n1_;have GW101:=n2_;have GE101:=n3_;clear n0_ n1_ n2_ n3_;clear hb hbox hg;have hcz6_0:w5.cell? ⟨gb101,0,none⟩=some (.int .i64 a0_0):=(blk_cell BK101.out 0).trans rfl;have hcz6_1:w5.cell? ⟨gb101,1,none⟩=some (.slice A0_1 l0_1.length c0_1):=(blk_cell BK101.out 1).trans rfl;have hfz6_0:=blk_frozen BK101.out 0;have hfz6_1:=blk_frozen BK101.out 1)|((with_reducible refine gate_callee (f:=18) rfl ?_);refine goesL_ (some 8) rfl rfl Try.func18 (by kernel_rfl) rfl #[.slice A0_1 l0_1.length c0_1,.int .i64 a1] rfl zq1 ?_;(with_reducible refine(laws_szByteS.calls _ _ l0_1 a1 t102 _ ?side1 ?side2 A3.out).mono ?_);(case side1=>exact zq11);(case side2=>exact HC0_1.out);rintro e w' ⟨rfl,⟨nd,rfl⟩⟩;refine⟨_,rfl,?_⟩))
  go_ret
  exact⟨zq3,zq143⟩
 ·rw[if_neg c4] at H
  have c4b0:decide (t102 < 0)=false:=decide_eq_false c4
  clear c4
  obtain rfl:=Option.some.inj H
  go_enter Try.func38,Try.ntmps38
  go_wp2_with (first|((with_reducible refine gate_dst (N:=2) rfl ?_);refine box_event ?hg (N:=2) ?hd (cs:=#[.int .i64 a0_0,.slice A0_1 l0_1.length c0_1]) (t:=70) ?hr ?_;(case hd=>rfl);(case hg=>rfl);(case hr=>first|(go_simp;done)|(go_simp;rfl));intro gb101 hg w7 hbox hb;have n0_:=zM (below_step zq0 hb);have n1_:=zM (hbox);have n2_:=zM ((by rw[hg];exact(below_size zq0):w.heap.size≤gb101));have n3_:=zM ((by rw[hg];exact(below_size zq0):w.heap.size≤gb101));clear HB;have HB:=n0_;have BK101:=n1_;have GW101:=n2_;have GE101:=n3_;clear n0_ n1_ n2_ n3_;clear hb hbox hg;have hcz8_0:w7.cell? ⟨gb101,0,none⟩=some (.int .i64 a0_0):=(blk_cell BK101.out 0).trans rfl;have hcz8_1:w7.cell? ⟨gb101,1,none⟩=some (.slice A0_1 l0_1.length c0_1):=(blk_cell BK101.out 1).trans rfl;have hfz8_0:=blk_frozen BK101.out 0;have hfz8_1:=blk_frozen BK101.out 1)|((with_reducible refine gate_callee (f:=18) rfl ?_);refine goesL_ (some 8) rfl rfl Try.func18 (by kernel_rfl) rfl #[.slice A0_1 l0_1.length c0_1,.int .i64 a1] rfl zq1 ?_;(with_reducible refine(laws_szByteS.calls _ _ l0_1 a1 t102 _ ?side1 ?side2 A3.out).mono ?_);(case side1=>exact zq11);(case side2=>exact HC0_1.out);rintro e w' ⟨rfl,⟨nd,rfl⟩⟩;refine⟨_,rfl,?_⟩))
  go_ret
  exact⟨zq3,zq143⟩
def laws_szKeyS.l0:Nat→List (S70)→Int→Int→Option (Int)
 | 0,_,_,_=>none
 | k+1,x0,x1,x5=>if x5 < (x0.length:Int) then (if 0≤x5 then ((laws_szKey.f ((rd_T70 x0 x5).f0) ((rd_T70 x0 x5).f1) x1).bind fun t104=>(if t104 < 0 then (some (-1)) else (laws_szKeyS.l0 k x0 t104 (wrap64 (x5+1))))) else (none)) else (some x1)
def laws_szKeyS.f (k:Nat) (l0:List (S70)) (a1:Int):Option (Int):=if (wrap64 (a1 - (l0.length:Int))) < 0 then (some (-1)) else (laws_szKeyS.l0 k l0 (wrap64 (a1 - (l0.length:Int))) 0)
theorem laws_szKeyS.mono_l:∀ k,(∀ y0 y1 y2,LeO (laws_szKeyS.l0 k y0 y1 y2) (laws_szKeyS.l0 (k+1) y0 y1 y2))
 | 0=>fun _ _ _ r h=>by simp[laws_szKeyS.l0] at h
 | k+1=>by
  have ih0:=laws_szKeyS.mono_l k
  ·intro y0 y1 y2
   unfold laws_szKeyS.l0
   repeat' first
   | (with_reducible exact ih0 _ _ _)
   | (with_reducible exact LeO.refl _)
   | (with_reducible exact LeO.none _)
   | (with_reducible refine LeO.ite ?_ ?_)
   | (with_reducible refine LeO.bind ?_ (fun _=>?_))
   | exact ih0 _ _ _
   | exact LeO.none _
   | refine LeO.ite ?_ ?_
   | refine LeO.bind ?_ (fun _=>?_)
theorem laws_szKeyS.mono:∀ a0 a1 k,LeO (laws_szKeyS.f k a0 a1) (laws_szKeyS.f (k+1) a0 a1):=by
 intro a0 a1 k
 have ih0:=laws_szKeyS.mono_l k
 unfold laws_szKeyS.f
 repeat' first
   | (with_reducible exact ih0 _ _ _)
   | (with_reducible exact LeO.refl _)
   | (with_reducible exact LeO.none _)
   | (with_reducible refine LeO.ite ?_ ?_)
   | (with_reducible refine LeO.bind ?_ (fun _=>?_))
   | exact ih0 _ _ _
   | exact LeO.none _
   | refine LeO.ite ?_ ?_
   | refine LeO.bind ?_ (fun _=>?_)
set_option maxHeartbeats 8000000 in
set_option maxRecDepth 100000 in
theorem laws_szKeyS.calls (k:Nat) (A0:Option Addr) (c0:Nat) (l0:List (S70)) (a1:Int) (r:Int) (w:World) (hr0:Kd.C k70 w A0 l0.length l0) (hc0:l0.length≤c0) (h:laws_szKeyS.f k l0 a1=some r) :
  Calls Try.prog 17 #[.slice A0 l0.length c0,.int .i64 a1] w fun e w'=>e=.returned (.int .i64 r)∧Below w.heap.size w w':=by
 have hu70:=Try.underlying70
 have HR0:=zM hr0
 have HC0:=zM hc0
 clear hr0 hc0
 have HB:=zM (Below.refl w.heap.size w)
 have H:(if (wrap64 (a1 - (l0.length:Int))) < 0 then (some (-1)) else (laws_szKeyS.l0 k l0 (wrap64 (a1 - (l0.length:Int))) 0))=some r:=h
 clear h
 by_cases c3:(wrap64 (a1 - (l0.length:Int))) < 0
 ·rw[if_pos c3] at H
  have c3b0:decide ((wrap64 (a1 - (l0.length:Int))) < 0)=true:=decide_eq_true c3
  clear c3
  obtain rfl:=Option.some.inj H
  go_enter Try.func17,Try.ntmps17
  go_wp2
  go_ret
  exact⟨zq3,zq0⟩
 ·rw[if_neg c3] at H
  have c3b0:decide ((wrap64 (a1 - (l0.length:Int))) < 0)=false:=decide_eq_false c3
  clear c3
  have H':=zM H
  clear H
  go_enter Try.func17,Try.ntmps17
  go_wp2
  go_loopg [1,5] k (fun kq v1 v5 w'=>∃ (x1_1:Int) (x5_1:Int),v1=.int .i64 x1_1∧v5=.int .i64 x5_1∧Aside0 (laws_szKeyS.l0 kq l0 x1_1 x5_1=some r)∧Aside0 (kq≤k)∧Aside0 (Below w.heap.size w w'))
  case atStart=>exact⟨(wrap64 (a1 - (l0.length:Int))),(0),zq7,zq7,H',⟨Nat.le_refl _⟩,⟨zq0⟩⟩
  case round=>
   clear H'
   try clear c1
   try clear p2
   try clear c3
   try clear c3b0
   obtain⟨x1_1,x5_1,rfl,rfl,HA,HK1,HB⟩:=hrel
   cases gk with
   | zero=>exact absurd HA.out (by simp[laws_szKeyS.l0])
   | succ k1=>
    have H:=HA.out
    clear HA
    simp only[laws_szKeyS.l0] at H
    by_cases c4:x5_1 < (l0.length:Int)
    ·rw[if_pos c4] at H
     have c4b0:decide (x5_1 < (l0.length:Int))=true:=decide_eq_true c4
     clear c4
     by_cases c5:0≤x5_1
     ·rw[if_pos c5] at H
      have c5b0:decide (0≤x5_1)=true:=decide_eq_true c5
      clear c5
      replace H:=Option.bind_eq_some_iff.mp H
      obtain⟨t104,A60,H⟩:=H
      replace H:(if t104 < 0 then (some (-1)) else (laws_szKeyS.l0 k1 l0 t104 (wrap64 (x5_1+1))))=some r:=H
      have A6:=zM A60
      clear A60
      by_cases c7:t104 < 0
      ·rw[if_pos c7] at H
       have c7b0:decide (t104 < 0)=true:=decide_eq_true c7
       clear c7
       obtain rfl:=Option.some.inj H
       have p103:0≤(x5_1:Int):=of_decide_eq_true zq6
       have q103:x5_1 < (l0.length:Int):=of_decide_eq_true zq6
       obtain⟨ad103,A103_1,c103_1,e103,hx103_0,hx103_1,hl103_1,hi103_1⟩:=at_T70 HR0.out x5_1 p103 q103
       cases e103
       replace hx103_0:=(HB.out.cell (World.block_lt_of_cell? w _ hx103_0)).trans hx103_0
       replace hx103_1:=(HB.out.cell (World.block_lt_of_cell? w _ hx103_1)).trans hx103_1
       have HR103_1:=zM hi103_1
       have HC103_1:=zM hl103_1
       clear hi103_1 hl103_1
       replace p103:=eq_true p103
       replace q103:=eq_true q103
       go_wp2_with (first|((with_reducible refine gate_callee (f:=38) rfl ?_);refine goesL_ (some 23) rfl rfl Try.func38 (by kernel_rfl) rfl #[.agg #[.int .i64 ((rd_T70 l0 x5_1).f0),.slice A103_1 ((rd_T70 l0 x5_1).f1).length c103_1],.int .i64 x1_1] rfl zq1 ?_;(with_reducible refine(laws_szKey.calls ((rd_T70 l0 x5_1).f0) _ _ ((rd_T70 l0 x5_1).f1) x1_1 t104 _ ?side1 ?side2 A6.out).mono ?_);(case side1=>exact zq150);(case side2=>exact HC103_1.out);rintro e w8 ⟨rfl,hb⟩;refine⟨_,rfl,?_⟩;have n0_:=zM (below_step zq0 hb);clear HB;have HB:=n0_;clear n0_;(try clear hb);(try clear hb2);(try clear hk);(try clear hi)))
       go_ret
       exact⟨zq3,zq0⟩
      ·rw[if_neg c7] at H
       have c7b0:decide (t104 < 0)=false:=decide_eq_false c7
       clear c7
       have H':=zM H
       clear H
       have p103:0≤(x5_1:Int):=of_decide_eq_true zq6
       have q103:x5_1 < (l0.length:Int):=of_decide_eq_true zq6
       obtain⟨ad103,A103_1,c103_1,e103,hx103_0,hx103_1,hl103_1,hi103_1⟩:=at_T70 HR0.out x5_1 p103 q103
       cases e103
       replace hx103_0:=(HB.out.cell (World.block_lt_of_cell? w _ hx103_0)).trans hx103_0
       replace hx103_1:=(HB.out.cell (World.block_lt_of_cell? w _ hx103_1)).trans hx103_1
       have HR103_1:=zM hi103_1
       have HC103_1:=zM hl103_1
       clear hi103_1 hl103_1
       replace p103:=eq_true p103
       replace q103:=eq_true q103
       go_wp2_with (first|((with_reducible refine gate_callee (f:=38) rfl ?_);refine goesL_ (some 23) rfl rfl Try.func38 (by kernel_rfl) rfl #[.agg #[.int .i64 ((rd_T70 l0 x5_1).f0),.slice A103_1 ((rd_T70 l0 x5_1).f1).length c103_1],.int .i64 x1_1] rfl zq1 ?_;(with_reducible refine(laws_szKey.calls ((rd_T70 l0 x5_1).f0) _ _ ((rd_T70 l0 x5_1).f1) x1_1 t104 _ ?side1 ?side2 A6.out).mono ?_);(case side1=>exact zq150);(case side2=>exact HC103_1.out);rintro e w9 ⟨rfl,hb⟩;refine⟨_,rfl,?_⟩;have n0_:=zM (below_step zq0 hb);clear HB;have HB:=n0_;clear n0_;(try clear hb);(try clear hb2);(try clear hk);(try clear hi)))
       go_roundg k1
       case measure=>have:=HK1.out;omega
       case rel=>exact⟨(t104),(wrap64 (x5_1+1)),zq7,zq7,H',⟨zq79⟩,⟨zq0⟩⟩
     ·rw[if_neg c5] at H
      exact absurd H zq73
    ·rw[if_neg c4] at H
     have c4b0:decide (x5_1 < (l0.length:Int))=false:=decide_eq_false c4
     clear c4
     obtain rfl:=Option.some.inj H
     go_wp2
     go_ret
     exact⟨zq3,zq0⟩
def laws_szRing.f (k:Nat) (a0_0:Int) (l0_1:List (S70)) (a1:Int):Option (Int):=(laws_szKeyS.f k l0_1 a1).bind fun t106=>(if t106 < 0 then (some (-1)) else (some t106))
theorem laws_szRing.mono:∀ a0 a1 a2 k,LeO (laws_szRing.f k a0 a1 a2) (laws_szRing.f (k+1) a0 a1 a2):=by
 intro a0 a1 a2 k
 unfold laws_szRing.f
 repeat' first
   | (with_reducible exact laws_szKeyS.mono _ _ _)
   | (with_reducible exact LeO.refl _)
   | (with_reducible exact LeO.none _)
   | (with_reducible refine LeO.ite ?_ ?_)
   | (with_reducible refine LeO.bind ?_ (fun _=>?_))
   | exact laws_szKeyS.mono _ _ _
   | exact LeO.none _
   | refine LeO.ite ?_ ?_
   | refine LeO.bind ?_ (fun _=>?_)
set_option maxHeartbeats 8000000 in
set_option maxRecDepth 100000 in
theorem laws_szRing.calls (k:Nat) (a0_0:Int) (A0_1:Option Addr) (c0_1:Nat) (l0_1:List (S70)) (a1:Int) (r:Int) (w:World) (hr0_1:Kd.C k70 w A0_1 l0_1.length l0_1) (hc0_1:l0_1.length≤c0_1) (h:laws_szRing.f k a0_0 l0_1 a1=some r) :
  Calls Try.prog 4 #[.agg #[.int .i64 a0_0,.slice A0_1 l0_1.length c0_1],.int .i64 a1] w fun e w'=>e=.returned (.int .i64 r)∧Below w.heap.size w w':=by
 have hu24:=Try.underlying24
 have HR0_1:=zM hr0_1
 have HC0_1:=zM hc0_1
 clear hr0_1 hc0_1
 have HB:=zM (Below.refl w.heap.size w)
 have H:((laws_szKeyS.f k l0_1 a1).bind fun t106=>(if t106 < 0 then (some (-1)) else (some t106)))=some r:=h
 clear h
 replace H:=Option.bind_eq_some_iff.mp H
 obtain⟨t106,A30,H⟩:=H
 replace H:(if t106 < 0 then (some (-1)) else (some t106))=some r:=H
 have A3:=zM A30
 clear A30
 by_cases c4:t106 < 0
 ·rw[if_pos c4] at H
  have c4b0:decide (t106 < 0)=true:=decide_eq_true c4
  clear c4
  obtain rfl:=Option.some.inj H
  go_enter Try.func4,Try.ntmps4
  go_wp2_with (first|((with_reducible refine gate_dst (N:=2) rfl ?_);refine box_event ?hg (N:=2) ?hd (cs:=#[.int .i64 a0_0,.slice A0_1 l0_1.length c0_1]) (t:=24) ?hr ?_;(case hd=>rfl);(case hg=>rfl);(case hr=>first|(go_simp;done)|(go_simp;rfl));intro gb105 hg w5 hbox hb;have n0_:=zM (below_step zq0 hb);have n1_:=zM (hbox);have n2_:=zM ((by rw[hg];exact(below_size zq0):w.heap.size≤gb105));have n3_:=zM ((by rw[hg];exact(below_size zq0):w.heap.size≤gb105));clear HB;have HB:=n0_;have BK105:=n1_;have GW105:=n2_;have GE105:=n3_;clear n0_ n1_ n2_ n3_;clear hb hbox hg;have hcz6_0:w5.cell? ⟨gb105,0,none⟩=some (.int .i64 a0_0):=(blk_cell BK105.out 0).trans rfl;have hcz6_1:w5.cell? ⟨gb105,1,none⟩=some (.slice A0_1 l0_1.length c0_1):=(blk_cell BK105.out 1).trans rfl;have hfz6_0:=blk_frozen BK105.out 0;have hfz6_1:=blk_frozen BK105.out 1)|((with_reducible refine gate_callee (f:=17) rfl ?_);refine goesL_ (some 8) rfl rfl Try.func17 (by kernel_rfl) rfl #[.slice A0_1 l0_1.length c0_1,.int .i64 a1] rfl zq1 ?_;(with_reducible refine(laws_szKeyS.calls k _ _ l0_1 a1 t106 _ ?side1 ?side2 A3.out).mono ?_);(case side1=>exact zq11);(case side2=>exact HC0_1.out);rintro e w7 ⟨rfl,hb⟩;refine⟨_,rfl,?_⟩;have n0_:=zM (blk_below (g:=gb105) (o:=.cells #[.int .i64 a0_0,.slice A0_1 l0_1.length c0_1] 24 (0,0)) zq161 hb);have n1_:=zM (below_step zq142 hb);clear BK105;clear HB;have BK105:=n0_;have HB:=n1_;clear n0_ n1_;(try clear hb);(try clear hb2);(try clear hk);(try clear hi)))
  go_ret
  exact⟨zq3,zq142⟩
 ·rw[if_neg c4] at H
  have c4b0:decide (t106 < 0)=false:=decide_eq_false c4
  clear c4
  obtain rfl:=Option.some.inj H
  go_enter Try.func4,Try.ntmps4
  go_wp2_with (first|((with_reducible refine gate_dst (N:=2) rfl ?_);refine box_event ?hg (N:=2) ?hd (cs:=#[.int .i64 a0_0,.slice A0_1 l0_1.length c0_1]) (t:=24) ?hr ?_;(case hd=>rfl);(case hg=>rfl);(case hr=>first|(go_simp;done)|(go_simp;rfl));intro gb105 hg w8 hbox hb;have n0_:=zM (below_step zq0 hb);have n1_:=zM (hbox);have n2_:=zM ((by rw[hg];exact(below_size zq0):w.heap.size≤gb105));have n3_:=zM ((by rw[hg];exact(below_size zq0):w.heap.size≤gb105));clear HB;have HB:=n0_;have BK105:=n1_;have GW105:=n2_;have GE105:=n3_;clear n0_ n1_ n2_ n3_;clear hb hbox hg;have hcz9_0:w8.cell? ⟨gb105,0,none⟩=some (.int .i64 a0_0):=(blk_cell BK105.out 0).trans rfl;have hcz9_1:w8.cell? ⟨gb105,1,none⟩=some (.slice A0_1 l0_1.length c0_1):=(blk_cell BK105.out 1).trans rfl;have hfz9_0:=blk_frozen BK105.out 0;have hfz9_1:=blk_frozen BK105.out 1)|((with_reducible refine gate_callee (f:=17) rfl ?_);refine goesL_ (some 8) rfl rfl Try.func17 (by kernel_rfl) rfl #[.slice A0_1 l0_1.length c0_1,.int .i64 a1] rfl zq1 ?_;(with_reducible refine(laws_szKeyS.calls k _ _ l0_1 a1 t106 _ ?side1 ?side2 A3.out).mono ?_);(case side1=>exact zq11);(case side2=>exact HC0_1.out);rintro e w10 ⟨rfl,hb⟩;refine⟨_,rfl,?_⟩;have n0_:=zM (blk_below (g:=gb105) (o:=.cells #[.int .i64 a0_0,.slice A0_1 l0_1.length c0_1] 24 (0,0)) zq161 hb);have n1_:=zM (below_step zq142 hb);clear BK105;clear HB;have BK105:=n0_;have HB:=n1_;clear n0_ n1_;(try clear hb);(try clear hb2);(try clear hk);(try clear hi)))
  go_ret
  exact⟨zq3,zq142⟩
def laws_szLetter.f (a0_0:Int) (a0_1:Int) (a0_2:Int) (l0_3:List Int) (a1:Int):Option (Int):=(laws_szByteS.f l0_3 a1).bind fun t108=>(if t108 < 0 then (some (-1)) else (some t108))
set_option maxHeartbeats 8000000 in
set_option maxRecDepth 100000 in
theorem laws_szLetter.calls (a0_0:Int) (a0_1:Int) (a0_2:Int) (A0_3:Option Addr) (c0_3:Nat) (l0_3:List Int) (a1:Int) (r:Int) (w:World) (hr0_3:Kd.C (Kd.int .u8) w A0_3 l0_3.length l0_3) (hc0_3:l0_3.length≤c0_3) (h:laws_szLetter.f a0_0 a0_1 a0_2 l0_3 a1=some r) :
  Calls Try.prog 5 #[.agg #[.int .i64 a0_0,.int .i64 a0_1,.int .i64 a0_2,.slice A0_3 l0_3.length c0_3],.int .i64 a1] w fun e w'=>e=.returned (.int .i64 r)∧Below w.heap.size w w':=by
 have hu27:=Try.underlying27
 have HR0_3:=zM hr0_3
 have HC0_3:=zM hc0_3
 clear hr0_3 hc0_3
 have HB:=zM (Below.refl w.heap.size w)
 have H:((laws_szByteS.f l0_3 a1).bind fun t108=>(if t108 < 0 then (some (-1)) else (some t108)))=some r:=h
 clear h
 replace H:=Option.bind_eq_some_iff.mp H
 obtain⟨t108,A30,H⟩:=H
 replace H:(if t108 < 0 then (some (-1)) else (some t108))=some r:=H
 have A3:=zM A30
 clear A30
 by_cases c4:t108 < 0
 ·rw[if_pos c4] at H
  have c4b0:decide (t108 < 0)=true:=decide_eq_true c4
  clear c4
  obtain rfl:=Option.some.inj H
  go_enter Try.func5,Try.ntmps5
  go_wp2_with (first|((with_reducible refine gate_dst (N:=2) rfl ?_);refine box_event ?hg (N:=2) ?hd (cs:=#[.int .i64 a0_0,.int .i64 a0_1,.int .i64 a0_2,.slice A0_3 l0_3.length c0_3]) (t:=27) ?hr ?_;(case hd=>rfl);(case hg=>rfl);(case hr=>first|(go_simp;done)|(go_simp;rfl));intro gb107 hg w5 hbox hb;have n0_:=zM (below_step zq0 hb);have n1_:=zM (hbox);have n2_:=zM ((by rw[hg];exact(below_size zq0):w.heap.size≤gb107));have n3_:=zM ((by rw[hg];exact(below_size zq0):w.heap.size≤gb107));clear HB;have HB:=n0_;have BK107:=n1_;have GW107:=n2_;have GE107:=n3_;clear n0_ n1_ n2_ n3_;clear hb hbox hg;have hcz6_0:w5.cell? ⟨gb107,0,none⟩=some (.int .i64 a0_0):=(blk_cell BK107.out 0).trans rfl;have hcz6_1:w5.cell? ⟨gb107,1,none⟩=some (.int .i64 a0_1):=(blk_cell BK107.out 1).trans rfl;have hcz6_2:w5.cell? ⟨gb107,2,none⟩=some (.int .i64 a0_2):=(blk_cell BK107.out 2).trans rfl;have hcz6_3:w5.cell? ⟨gb107,3,none⟩=some (.slice A0_3 l0_3.length c0_3):=(blk_cell BK107.out 3).trans rfl;have hfz6_0:=blk_frozen BK107.out 0;have hfz6_1:=blk_frozen BK107.out 1;have hfz6_2:=blk_frozen BK107.out 2;have hfz6_3:=blk_frozen BK107.out 3)|((with_reducible refine gate_callee (f:=18) rfl ?_);refine goesL_ (some 8) rfl rfl Try.func18 (by kernel_rfl) rfl #[.slice A0_3 l0_3.length c0_3,.int .i64 a1] rfl zq1 ?_;(with_reducible refine(laws_szByteS.calls _ _ l0_3 a1 t108 _ ?side1 ?side2 A3.out).mono ?_);(case side1=>exact zq80);(case side2=>exact HC0_3.out);rintro e w' ⟨rfl,⟨nd,rfl⟩⟩;refine⟨_,rfl,?_⟩))
  go_ret
  exact⟨zq3,zq144⟩
 ·rw[if_neg c4] at H
  have c4b0:decide (t108 < 0)=false:=decide_eq_false c4
  clear c4
  obtain rfl:=Option.some.inj H
  go_enter Try.func5,Try.ntmps5
  go_wp2_with (first|((with_reducible refine gate_dst (N:=2) rfl ?_);refine box_event ?hg (N:=2) ?hd (cs:=#[.int .i64 a0_0,.int .i64 a0_1,.int .i64 a0_2,.slice A0_3 l0_3.length c0_3]) (t:=27) ?hr ?_;(case hd=>rfl);(case hg=>rfl);(case hr=>first|(go_simp;done)|(go_simp;rfl));intro gb107 hg w7 hbox hb;have n0_:=zM (below_step zq0 hb);have n1_:=zM (hbox);have n2_:=zM ((by rw[hg];exact(below_size zq0):w.heap.size≤gb107));have n3_:=zM ((by rw[hg];exact(below_size zq0):w.heap.size≤gb107));clear HB;have HB:=n0_;have BK107:=n1_;have GW107:=n2_;have GE107:=n3_;clear n0_ n1_ n2_ n3_;clear hb hbox hg;have hcz8_0:w7.cell? ⟨gb107,0,none⟩=some (.int .i64 a0_0):=(blk_cell BK107.out 0).trans rfl;have hcz8_1:w7.cell? ⟨gb107,1,none⟩=some (.int .i64 a0_1):=(blk_cell BK107.out 1).trans rfl;have hcz8_2:w7.cell? ⟨gb107,2,none⟩=some (.int .i64 a0_2):=(blk_cell BK107.out 2).trans rfl;have hcz8_3:w7.cell? ⟨gb107,3,none⟩=some (.slice A0_3 l0_3.length c0_3):=(blk_cell BK107.out 3).trans rfl;have hfz8_0:=blk_frozen BK107.out 0;have hfz8_1:=blk_frozen BK107.out 1;have hfz8_2:=blk_frozen BK107.out 2;have hfz8_3:=blk_frozen BK107.out 3)|((with_reducible refine gate_callee (f:=18) rfl ?_);refine goesL_ (some 8) rfl rfl Try.func18 (by kernel_rfl) rfl #[.slice A0_3 l0_3.length c0_3,.int .i64 a1] rfl zq1 ?_;(with_reducible refine(laws_szByteS.calls _ _ l0_3 a1 t108 _ ?side1 ?side2 A3.out).mono ?_);(case side1=>exact zq80);(case side2=>exact HC0_3.out);rintro e w' ⟨rfl,⟨nd,rfl⟩⟩;refine⟨_,rfl,?_⟩))
  go_ret
  exact⟨zq3,zq144⟩
end Go.Proofs.Ytdbanjdnjhflcaa.All
