-- Laid by wip/shake.py of this repo out of this claim's texts. Not trusted: Lean checks it.
import Derived.Test.YtkjgdndaepobiaaAb0s
import Derived.Test.YtkjgdndaepobiaaAllx0s
import Derived.Test.YtkjgdndaepobiaaAllx98s
import Derived.Test.YtkjgdndaepobiaaAllx120s
import Derived.Test.YtkjgdndaepobiaaAllx99s
import Derived.Test.YtkjgdndaepobiaaAllx94s
import Derived.Test.YtkjgdndaepobiaaAllx95s
import Derived.Test.YtkjgdndaepobiaaAllx96s
import Derived.Test.YtkjgdndaepobiaaHands
import Derived.Deep.RegionHeld3
import Derived.Deep.MidRow
section
set_option linter.unusedVariables false
set_option linter.unusedSimpArgs false
namespace Go.Proofs.Ytkjgdndaepobiaa.All
open Go.RowKit Go.Proofs.Ytkjgdndaepobiaa.All Go.Proofs.YtkjgdndaepobiaaW.PrintWords Go.Proofs.YtkjgdndaepobiaaW.PrintLast Go.Proofs.YtkjgdndaepobiaaW.PrintMore
def gX (v:BitVec 128):BitVec 128:=(v >>> 1) ^^^ (if v.getLsbD 0=true then 0xe1000000000000000000000000000000#128 else 0#128)
def gL (f:Nat→Bool):Nat→List Bool
 | 0=>[]
 | n+1=>f n :: gL f n
def gB (v:BitVec 128):List Bool:=gL v.getLsbD 128
def gM (a b:BitVec 128):BitVec 128:=opX gX (gB b) a 0#128
def gI:Nat→BitVec 128→BitVec 128
 | 0,a=>a
 | n+1,a=>gI n (gX a)
theorem gL_congr {f g:Nat→Bool}:∀ n,(∀ i,i < n→f i=g i)→gL f n=gL g n
 | 0,_=>rfl
 | n+1,h=>by rw[gL,gL,h n zq21,gL_congr n (fun i hi=>h i zq21)]
theorem opX_cut (f:Nat→Bool) (n:Nat):∀ (m:Nat) (a o:BitVec 128),opX gX (gL f (n+m)) a o=opX gX (gL f n) (gI m a) (opX gX (gL (fun i=>f (n+i)) m) a o)
 | 0,a,o=>rfl
 | m+1,a,o=>by
  rw[← Nat.add_assoc,gL,opX,opX_cut f n m]
  rfl
def hiW (v:BitVec 128):BitVec 64:=v.extractLsb' 64 64
def loW (v:BitVec 128):BitVec 64:=v.extractLsb' 0 64
def wH (v:BitVec 128):Int:=((hiW v).toNat:Int)
def wL (v:BitVec 128):Int:=((loW v).toNat:Int)
theorem gM_halves (a b:BitVec 128):gM a b=opX gX (gL (loW b).getLsbD 64) (gI 64 a) (opX gX (gL (hiW b).getLsbD 64) a 0#128):=by
 unfold gM gB
 refine(opX_cut b.getLsbD 64 64 a 0#128).trans ?_
 congr 1
 ·refine gL_congr 64 fun i hi=>?_
  simp[loW,hi]
 ·congr 1
  refine gL_congr 64 fun i hi=>?_
  simp[hiW,hi]
theorem hiW_xor (a b:BitVec 128):hiW (a ^^^ b)=hiW a ^^^ hiW b:=by
 apply BitVec.eq_of_getLsbD_eq
 intro i hi
 simp[hiW,hi]
theorem loW_xor (a b:BitVec 128):loW (a ^^^ b)=loW a ^^^ loW b:=by
 apply BitVec.eq_of_getLsbD_eq
 intro i hi
 simp[loW,hi]
theorem loW_bit (a:BitVec 128):(loW a).getLsbD 0=a.getLsbD 0:=by simp[loW]
theorem gC_hi:hiW 0xe1000000000000000000000000000000#128=16212958658533785600#64:=by decide +kernel
theorem gC_lo:loW 0xe1000000000000000000000000000000#128=0#64:=by decide +kernel
theorem hiW_X (a:BitVec 128):hiW (gX a)=(hiW a >>> 1) ^^^ (if (loW a).getLsbD 0=true then 16212958658533785600#64 else 0#64):=by
 unfold gX
 rw[hiW_xor,loW_bit]
 congr 1
 ·apply BitVec.eq_of_getLsbD_eq
  intro i hi
  simp only[hiW,BitVec.getLsbD_extractLsb',BitVec.getLsbD_ushiftRight,hi,decide_true,Bool.true_and]
  by_cases e:1+i < 64
  ·simp[e,Nat.add_left_comm]
  ·simp[e]
   apply BitVec.getLsbD_of_ge
   omega
 ·cases a.getLsbD 0
  ·rfl
  ·exact gC_hi
theorem loW_X (a:BitVec 128):loW (gX a)=(loW a >>> 1) ||| (hiW a <<< 63):=by
 unfold gX
 rw[loW_xor]
 have h:loW (if a.getLsbD 0=true then 0xe1000000000000000000000000000000#128 else 0#128)=0#64:=by
  cases a.getLsbD 0
  ·rfl
  ·exact gC_lo
 rw[h,BitVec.xor_zero]
 apply BitVec.eq_of_getLsbD_eq
 intro i hi
 simp only[loW,hiW,BitVec.getLsbD_or,BitVec.getLsbD_extractLsb',BitVec.getLsbD_ushiftRight,BitVec.getLsbD_shiftLeft,hi,decide_true,Bool.true_and]
 by_cases e:i=63
 ·subst e
  simp
 ·have e1:i < 63:=by omega
  have e2:1+i < 64:=by omega
  simp[e1,e2]
theorem half_nat (x:BitVec 64):((x.toNat:Int) / (2:Int))=((x >>> 1).toNat:Int):=by
 rw[BitVec.toNat_ushiftRight,Nat.shiftRight_eq_div_pow]
 omega
theorem top_nat (x:BitVec 64):IntKind.u64.wrap ((x.toNat:Int)*9223372036854775808)=((x <<< 63).toNat:Int):=by
 rw[BitVec.toNat_shiftLeft,Nat.shiftLeft_eq]
 simp[IntKind.wrap,IntKind.bits,IntKind.signed]
theorem plus_at (a b:BitVec 128):impl_element_plus.f (wH a) (wL a) (wH b) (wL b)=some (wH (a ^^^ b),wL (a ^^^ b)):=by
 unfold impl_element_plus.f wH wL
 rw[u64_xor_nat _ _ (hiW a).isLt (hiW b).isLt,u64_xor_nat _ _ (loW a).isLt (loW b).isLt,hiW_xor,loW_xor,BitVec.toNat_xor,BitVec.toNat_xor]
theorem bit0 (x:BitVec 64):(Int.tmod (x.toNat:Int) 2=1) ↔ x.getLsbD 0=true:=by
 rw[Int.tmod_eq_emod_of_nonneg zq21,BitVec.getLsbD,Nat.testBit_zero,decide_eq_true_iff]
 omega
theorem or_at (a:BitVec 128):Go.bits .or .u64 (wL a / 2) (IntKind.u64.wrap (wH a*9223372036854775808))=wL (gX a):=by
 unfold wH wL
 rw[half_nat,top_nat,u64_or_nat _ _ (BitVec.isLt _) (BitVec.isLt _),loW_X,BitVec.toNat_or]
theorem hi_odd (a:BitVec 128) (h:Int.tmod (wL a) 2=1):Go.bits .xor .u64 (wH a / 2) 16212958658533785600=wH (gX a):=by
 unfold wH
 rw[hiW_X,if_pos ((bit0 _).1 h),half_nat,show (16212958658533785600:Int)=((16212958658533785600#64).toNat:Int) from rfl,u64_xor_nat _ _ (BitVec.isLt _) (BitVec.isLt _),BitVec.toNat_xor]
theorem hi_even (a:BitVec 128) (h:¬ Int.tmod (wL a) 2=1):wH a / 2=wH (gX a):=by
 unfold wH
 rw[hiW_X,if_neg (fun q=>h ((bit0 _).2 q)),half_nat,BitVec.xor_zero]
theorem shifted_at (a:BitVec 128):impl_element_shifted.f (wH a) (wL a)=some (wH (gX a),wL (gX a)):=by
 unfold impl_element_shifted.f
 by_cases h:Int.tmod (wL a) 2=1
 ·rw[if_pos h,hi_odd a h,or_at]
 ·rw[if_neg h,hi_even a h,or_at]
theorem shr_bit (x:BitVec 64) (n:Nat) (h:n < 64):Int.tmod (shr .u64 (x.toNat:Int) (n:Int)) 2=1 ↔ x.getLsbD n=true:=by
 unfold shr
 rw[Int.toNat_natCast,show min n IntKind.u64.bits=n from Nat.min_eq_left (show n≤64 by omega),BitVec.getLsbD,Nat.testBit_eq_decide_div_mod_eq,decide_eq_true_iff]
 rw[show (x.toNat:Int) / 2 ^ n=((x.toNat / 2 ^ n:Nat):Int) by simp]
 generalize x.toNat / 2 ^ n=y
 rw[Int.tmod_eq_emod_of_nonneg zq21]
 omega
theorem times_l1 (hw:BitVec 64) (xs:List Int) (len i:Int):∀ (n K:Nat) (a o:BitVec 128),n≤64→impl_element_times.l1 (K+(n+1)) (hw.toNat:Int) ((n:Int) - 1) xs len i (wH a) (wL a) (wH o) (wL o)=impl_element_times.l0 K xs len (wrap64 (i+1)) (wH (gI n a)) (wL (gI n a)) (wH (opX gX (gL hw.getLsbD n) a o)) (wL (opX gX (gL hw.getLsbD n) a o))
 | 0,K,a,o,h=>by
  show impl_element_times.l1 (K+1) _ _ _ _ _ _ _ _ _=_
  simp only[impl_element_times.l1]
  rw[if_neg zq21]
  rfl
 | n+1,K,a,o,h=>by
  show impl_element_times.l1 ((K+(n+1))+1) _ _ _ _ _ _ _ _ _=_
  have hw1:wrap64 (((n+1:Nat):Int) - 1 - 1)=(n:Int) - 1:=by unfold wrap64;omega
  have e:((n+1:Nat):Int) - 1=(n:Int):=by omega
  generalize hM:K+(n+1)=M
  simp only[impl_element_times.l1]
  subst hM
  rw[if_pos zq21,if_pos zq21,hw1,e]
  by_cases hb:Int.tmod (shr .u64 (hw.toNat:Int) (n:Int)) 2=1
  ·rw[if_pos hb,plus_at,shifted_at]
   simp only[Option.bind_some]
   rw[times_l1 hw xs len i n K _ _ zq21,gL,opX,(shr_bit hw n zq21).1 hb,if_pos rfl]
   rfl
  ·rw[if_neg hb,shifted_at]
   simp only[Option.bind_some]
   rw[times_l1 hw xs len i n K _ _ zq21,gL,opX,if_neg (fun q=>hb ((shr_bit hw n zq21).2 q))]
   rfl
theorem w_zero:wH 0#128=0∧wL 0#128=0:=by decide +kernel
theorem times_at (k:Nat) (hk:133≤k) (a b:BitVec 128):impl_element_times.f k (wH a) (wL a) (wH b) (wL b)=some (wH (gM a b),wL (gM a b)):=by
 obtain⟨K,rfl⟩:∃ K,k=K+133:=⟨k - 133,zq21⟩
 unfold impl_element_times.f
 simp only[Option.bind_some]
 have h1:=times_l1 (hiW b) [wH b,wL b] 2 0 64 (K+67) a 0#128 zq21
 have h2:=times_l1 (loW b) [wH b,wL b] 2 1 64 (K+1) (gI 64 a) (opX gX (gL (hiW b).getLsbD 64) a 0#128) zq21
 rw[w_zero.1,w_zero.2] at h1
 rw[← gM_halves] at h2
 show impl_element_times.l0 ((K+132)+1) [wH b,wL b] 2 0 (wH a) (wL a) 0 0=_
 simp only[impl_element_times.l0]
 rw[if_pos zq21,if_pos zq21,if_pos zq114]
 refine(show _=_ from h1).trans ?_
 rw[show wrap64 (0+1)=1 by decide +kernel]
 show impl_element_times.l0 ((K+66)+1) [wH b,wL b] 2 1 _ _ _ _=_
 simp only[impl_element_times.l0]
 rw[if_pos zq21,if_pos zq21,if_pos zq114]
 refine(show _=_ from h2).trans ?_
 rw[show wrap64 (1+1)=2 by decide +kernel]
 show impl_element_times.l0 (K+1) [wH b,wL b] 2 2 _ _ _ _=_
 simp only[impl_element_times.l0]
 rw[if_neg zq21]
def vB (m:List (BitVec 8)):BitVec 128:=BitVec.ofNat 64 (hiN m) ++ BitVec.ofNat 64 (loN m)
theorem hiN_lt (m:List (BitVec 8)):hiN m < 18446744073709551616:=by
 have h1:=numN_lt (m.take 8) 0 1 zq21
 have h2:256 ^ (m.take 8).length≤256 ^ 8:=Nat.pow_le_pow_right zq21 (by rw[List.length_take];omega)
 unfold hiN
 omega
theorem loN_lt (m:List (BitVec 8)):loN m < 18446744073709551616:=by
 have h1:=numN_lt ((m.drop 8).take 8) 0 1 zq21
 have h2:256 ^ ((m.drop 8).take 8).length≤256 ^ 8:=Nat.pow_le_pow_right zq21 (by rw[List.length_take];omega)
 unfold loN
 omega
theorem hiW_vB (m:List (BitVec 8)):hiW (vB m)=BitVec.ofNat 64 (hiN m):=by
 apply BitVec.eq_of_getLsbD_eq
 intro i hi
 unfold hiW vB
 rw[BitVec.getLsbD_extractLsb',decide_eq_true hi,Bool.true_and,BitVec.getLsbD_append,if_neg zq21,show 64+i - 64=i by omega]
theorem loW_vB (m:List (BitVec 8)):loW (vB m)=BitVec.ofNat 64 (loN m):=by
 apply BitVec.eq_of_getLsbD_eq
 intro i hi
 unfold loW vB
 rw[BitVec.getLsbD_extractLsb',decide_eq_true hi,Bool.true_and,BitVec.getLsbD_append,if_pos zq21,show 0+i=i by omega]
theorem wH_vB (m:List (BitVec 8)):wH (vB m)=(hiN m:Int):=by
 unfold wH
 rw[hiW_vB,BitVec.toNat_ofNat,Nat.mod_eq_of_lt (hiN_lt m)]
theorem wL_vB (m:List (BitVec 8)):wL (vB m)=(loN m:Int):=by
 unfold wL
 rw[loW_vB,BitVec.toNat_ofNat,Nat.mod_eq_of_lt (loN_lt m)]
def bV (v:BitVec 128):List (BitVec 8):=outL (hiW v).toNat (loW v).toNat 8
theorem bV_length (v:BitVec 128):(bV v).length=16:=outL_length _ _ _
end Go.Proofs.Ytkjgdndaepobiaa.All
end
section
set_option linter.unusedVariables false
namespace Go.Proofs.Ytkjgdndaepobiaa
open Go.RowKit Go.Proofs.YtkjgdndaepobiaaW.PrintWords Go.Proofs.YtkjgdndaepobiaaW.PrintLast Go.Proofs.YtkjgdndaepobiaaW.PrintMore
theorem leaf_cut0 {A:World→Prop} {G:Prop} (P:World→Prop) (main:(∀ w,A w→P w)→G) (leaf:∀ w,A w→P w):G:=main leaf
theorem rangeB {w:World} {g:Nat} {cs:Array Value} {t:TypeId} (h:w.heap[g]?=some (.cells cs t (0,0))):w.rangeAt g 0 cs.toList:=by
 intro j u hu
 rw[Nat.zero_add,blk_cell h]
 simpa using hu
theorem rangeW {w w':World} {g:Nat} {cs:Array Value} {t:TypeId} (h:w.heap[g]?=some (.cells cs t (0,0))) (hb:Below w.heap.size w w'):w'.rangeAt g 0 cs.toList:=rangeB ((hb.block g (blk_lt h)).trans h)
end Go.Proofs.Ytkjgdndaepobiaa
end
