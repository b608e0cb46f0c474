-- Laid by wip/shake.py of this repo out of this claim's texts. Not trusted: Lean checks it.
import Derived.Test.YtdbanjdnjhflcaaAb0s
import Derived.Test.YtdbanjdnjhflcaaAlgs
import Derived.Test.YtdbanjdnjhflcaaAllx108s
import Derived.Test.YtdbanjdnjhflcaaAllx96s
import Derived.Test.YtdbanjdnjhflcaaAllx98s
import Derived.Test.YtdbanjdnjhflcaaAllx99s
set_option linter.unusedSimpArgs false
set_option linter.unusedVariables false
namespace Go.Proofs.Ytdbanjdnjhflcaa.All
open Go.RowKit Go.Proofs.Ytdbanjdnjhflcaa.All Go.Proofs.YtdbanjdnjhflcaaW.PrintWords Go.Proofs.YtdbanjdnjhflcaaW.PrintLast Go.Proofs.YtdbanjdnjhflcaaW.PrintMore
def gX (v:BitVec 128):BitVec 128:=(v >>> 1) ^^^ (if v.getLsbD 0=true then 0xe1000000000000000000000000000000#128 else 0#128)
theorem gX_add (a b:BitVec 128):gX (a ^^^ b)=gX a ^^^ gX b:=by
 unfold gX
 rw[BitVec.ushiftRight_xor_distrib,BitVec.getLsbD_xor]
 cases a.getLsbD 0 <;> cases b.getLsbD 0
 ·simp
 ·simp only[Bool.false_xor,if_true,Bool.false_eq_true,if_false,BitVec.xor_zero]
  ac_rfl
 ·simp only[Bool.xor_false,if_true,Bool.false_eq_true,if_false,BitVec.xor_zero]
  ac_rfl
 ·rw[xor4,BitVec.xor_self]
  simp
def gL (f:Nat→Bool):Nat→List Bool
 | 0=>[]
 | n+1=>f n :: gL f n
theorem gX_two (n:Nat) (h:n+1 < 128):gX (BitVec.twoPow 128 (n+1))=BitVec.twoPow 128 n:=by
 unfold gX
 rw[if_neg (by rw[BitVec.getLsbD_twoPow];simp),BitVec.xor_zero]
 apply BitVec.eq_of_getLsbD_eq
 intro i hi
 rw[BitVec.getLsbD_ushiftRight,BitVec.getLsbD_twoPow,BitVec.getLsbD_twoPow]
 by_cases e:n=i
 ·subst e
  simp[Nat.add_comm]
  omega
 ·have e2:¬ n+1=1+i:=by omega
  simp[e,e2]
theorem opX_bits (f:Nat→Bool):∀ (n:Nat) (o:BitVec 128),n < 128→∀ i,i < 128→(opX gX (gL f (n+1)) (BitVec.twoPow 128 n) o).getLsbD i=(o.getLsbD i ^^ (decide (i≤n) && f i))
 | 0,o,h,i,hi=>by
  simp only[gL,opX]
  cases hf:f 0
  ·by_cases e:i=0
   ·subst e;simp[hf]
   ·simp[e]
  ·by_cases e:i=0
   ·subst e;simp[hf,BitVec.getLsbD_twoPow]
   ·have e2:¬ 0=i:=fun q=>e q.symm
    simp[e,e2,BitVec.getLsbD_twoPow]
 | n+1,o,h,i,hi=>by
  have ih:=opX_bits f n (if f (n+1)=true then o ^^^ BitVec.twoPow 128 (n+1) else o) zq8 i hi
  rw[gL,opX,gX_two n h,ih]
  by_cases e:i=n+1
  ·subst e
   cases hf:f (n+1)
   ·simp
   ·have e5:¬ (n+1≤n):=by omega
    simp[BitVec.getLsbD_twoPow,h,e5]
  ·have e2:¬ n+1=i:=fun q=>e q.symm
   have e3:decide (i≤n+1)=decide (i≤n):=decide_eq_decide.2 zq8
   rw[e3]
   cases hf:f (n+1)
   ·simp
   ·simp[BitVec.getLsbD_twoPow,e2]
def gB (v:BitVec 128):List Bool:=gL v.getLsbD 128
theorem gB_rep (a:BitVec 128):opX gX (gB a) (BitVec.twoPow 128 127) 0#128=a:=by
 apply BitVec.eq_of_getLsbD_eq
 intro i hi
 have h:=opX_bits a.getLsbD 127 0#128 zq8 i hi
 rw[show gB a=gL a.getLsbD (127+1) from rfl,h]
 have e:i≤127:=by omega
 simp[e]
def gM (a b:BitVec 128):BitVec 128:=opX gX (gB b) a 0#128
theorem gM_comm (a b:BitVec 128):gM a b=gM b a:=mulX_comm gX_add gB _ gB_rep a b
def gI:Nat→BitVec 128→BitVec 128
 | 0,a=>a
 | n+1,a=>gI n (gX a)
theorem gL_congr {f g:Nat→Bool}:∀ n,(∀ i,i < n→f i=g i)→gL f n=gL g n
 | 0,_=>rfl
 | n+1,h=>by rw[gL,gL,h n zq8,gL_congr n (fun i hi=>h i zq8)]
theorem opX_cut (f:Nat→Bool) (n:Nat):∀ (m:Nat) (a o:BitVec 128),opX gX (gL f (n+m)) a o=opX gX (gL f n) (gI m a) (opX gX (gL (fun i=>f (n+i)) m) a o)
 | 0,a,o=>rfl
 | m+1,a,o=>by
  rw[← Nat.add_assoc,gL,opX,opX_cut f n m]
  rfl
def hiW (v:BitVec 128):BitVec 64:=v.extractLsb' 64 64
def loW (v:BitVec 128):BitVec 64:=v.extractLsb' 0 64
def wH (v:BitVec 128):Int:=((hiW v).toNat:Int)
def wL (v:BitVec 128):Int:=((loW v).toNat:Int)
theorem gM_halves (a b:BitVec 128):gM a b=opX gX (gL (loW b).getLsbD 64) (gI 64 a) (opX gX (gL (hiW b).getLsbD 64) a 0#128):=by
 unfold gM gB
 refine(opX_cut b.getLsbD 64 64 a 0#128).trans ?_
 congr 1
 ·refine gL_congr 64 fun i hi=>?_
  simp[loW,hi]
 ·congr 1
  refine gL_congr 64 fun i hi=>?_
  simp[hiW,hi]
theorem hiW_xor (a b:BitVec 128):hiW (a ^^^ b)=hiW a ^^^ hiW b:=by
 apply BitVec.eq_of_getLsbD_eq
 intro i hi
 simp[hiW,hi]
theorem loW_xor (a b:BitVec 128):loW (a ^^^ b)=loW a ^^^ loW b:=by
 apply BitVec.eq_of_getLsbD_eq
 intro i hi
 simp[loW,hi]
theorem loW_bit (a:BitVec 128):(loW a).getLsbD 0=a.getLsbD 0:=by simp[loW]
theorem gC_hi:hiW 0xe1000000000000000000000000000000#128=16212958658533785600#64:=by decide +kernel
theorem gC_lo:loW 0xe1000000000000000000000000000000#128=0#64:=by decide +kernel
theorem hiW_X (a:BitVec 128):hiW (gX a)=(hiW a >>> 1) ^^^ (if (loW a).getLsbD 0=true then 16212958658533785600#64 else 0#64):=by
 unfold gX
 rw[hiW_xor,loW_bit]
 congr 1
 ·apply BitVec.eq_of_getLsbD_eq
  intro i hi
  simp only[hiW,BitVec.getLsbD_extractLsb',BitVec.getLsbD_ushiftRight,hi,decide_true,Bool.true_and]
  by_cases e:1+i < 64
  ·simp[e,Nat.add_left_comm]
  ·simp[e]
   apply BitVec.getLsbD_of_ge
   omega
 ·cases a.getLsbD 0
  ·rfl
  ·exact gC_hi
theorem loW_X (a:BitVec 128):loW (gX a)=(loW a >>> 1) ||| (hiW a <<< 63):=by
 unfold gX
 rw[loW_xor]
 have h:loW (if a.getLsbD 0=true then 0xe1000000000000000000000000000000#128 else 0#128)=0#64:=by
  cases a.getLsbD 0
  ·rfl
  ·exact gC_lo
 rw[h,BitVec.xor_zero]
 apply BitVec.eq_of_getLsbD_eq
 intro i hi
 simp only[loW,hiW,BitVec.getLsbD_or,BitVec.getLsbD_extractLsb',BitVec.getLsbD_ushiftRight,BitVec.getLsbD_shiftLeft,hi,decide_true,Bool.true_and]
 by_cases e:i=63
 ·subst e
  simp
 ·have e1:i < 63:=by omega
  have e2:1+i < 64:=by omega
  simp[e1,e2]
theorem wH_lo (v:BitVec 128):0≤wH v:=by unfold wH;omega
theorem wL_lo (v:BitVec 128):0≤wL v:=by unfold wL;omega
theorem wH_hi (v:BitVec 128):wH v < 18446744073709551616:=by have:=(hiW v).isLt;unfold wH;omega
theorem wL_hi (v:BitVec 128):wL v < 18446744073709551616:=by have:=(loW v).isLt;unfold wL;omega
theorem half_nat (x:BitVec 64):((x.toNat:Int) / (2:Int))=((x >>> 1).toNat:Int):=by
 rw[BitVec.toNat_ushiftRight,Nat.shiftRight_eq_div_pow]
 omega
theorem top_nat (x:BitVec 64):IntKind.u64.wrap ((x.toNat:Int)*9223372036854775808)=((x <<< 63).toNat:Int):=by
 rw[BitVec.toNat_shiftLeft,Nat.shiftLeft_eq]
 simp[IntKind.wrap,IntKind.bits,IntKind.signed]
theorem plus_at (a b:BitVec 128):impl_element_plus.f (wH a) (wL a) (wH b) (wL b)=some (wH (a ^^^ b),wL (a ^^^ b)):=by
 unfold impl_element_plus.f wH wL
 rw[u64_xor_nat _ _ (hiW a).isLt (hiW b).isLt,u64_xor_nat _ _ (loW a).isLt (loW b).isLt,hiW_xor,loW_xor,BitVec.toNat_xor,BitVec.toNat_xor]
theorem bit0 (x:BitVec 64):(Int.tmod (x.toNat:Int) 2=1) ↔ x.getLsbD 0=true:=by
 rw[Int.tmod_eq_emod_of_nonneg zq8,BitVec.getLsbD,Nat.testBit_zero,decide_eq_true_iff]
 omega
theorem or_at (a:BitVec 128):Go.bits .or .u64 (wL a / 2) (IntKind.u64.wrap (wH a*9223372036854775808))=wL (gX a):=by
 unfold wH wL
 rw[half_nat,top_nat,u64_or_nat _ _ (BitVec.isLt _) (BitVec.isLt _),loW_X,BitVec.toNat_or]
theorem hi_odd (a:BitVec 128) (h:Int.tmod (wL a) 2=1):Go.bits .xor .u64 (wH a / 2) 16212958658533785600=wH (gX a):=by
 unfold wH
 rw[hiW_X,if_pos ((bit0 _).1 h),half_nat,show (16212958658533785600:Int)=((16212958658533785600#64).toNat:Int) from rfl,u64_xor_nat _ _ (BitVec.isLt _) (BitVec.isLt _),BitVec.toNat_xor]
theorem hi_even (a:BitVec 128) (h:¬ Int.tmod (wL a) 2=1):wH a / 2=wH (gX a):=by
 unfold wH
 rw[hiW_X,if_neg (fun q=>h ((bit0 _).2 q)),half_nat,BitVec.xor_zero]
theorem shifted_at (a:BitVec 128):impl_element_shifted.f (wH a) (wL a)=some (wH (gX a),wL (gX a)):=by
 unfold impl_element_shifted.f
 by_cases h:Int.tmod (wL a) 2=1
 ·rw[if_pos h,hi_odd a h,or_at]
 ·rw[if_neg h,hi_even a h,or_at]
theorem shr_bit (x:BitVec 64) (n:Nat) (h:n < 64):Int.tmod (shr .u64 (x.toNat:Int) (n:Int)) 2=1 ↔ x.getLsbD n=true:=by
 unfold shr
 rw[Int.toNat_natCast,show min n IntKind.u64.bits=n from Nat.min_eq_left (show n≤64 by omega),BitVec.getLsbD,Nat.testBit_eq_decide_div_mod_eq,decide_eq_true_iff]
 rw[show (x.toNat:Int) / 2 ^ n=((x.toNat / 2 ^ n:Nat):Int) by simp]
 generalize x.toNat / 2 ^ n=y
 rw[Int.tmod_eq_emod_of_nonneg zq8]
 omega
theorem times_l1 (hw:BitVec 64) (xs:List Int) (len i:Int):∀ (n K:Nat) (a o:BitVec 128),n≤64→impl_element_times.l1 (K+(n+1)) (hw.toNat:Int) ((n:Int) - 1) xs len i (wH a) (wL a) (wH o) (wL o)=impl_element_times.l0 K xs len (wrap64 (i+1)) (wH (gI n a)) (wL (gI n a)) (wH (opX gX (gL hw.getLsbD n) a o)) (wL (opX gX (gL hw.getLsbD n) a o))
 | 0,K,a,o,h=>by
  show impl_element_times.l1 (K+1) _ _ _ _ _ _ _ _ _=_
  simp only[impl_element_times.l1]
  rw[if_neg zq8]
  rfl
 | n+1,K,a,o,h=>by
  show impl_element_times.l1 ((K+(n+1))+1) _ _ _ _ _ _ _ _ _=_
  have hw1:wrap64 (((n+1:Nat):Int) - 1 - 1)=(n:Int) - 1:=by unfold wrap64;omega
  have e:((n+1:Nat):Int) - 1=(n:Int):=by omega
  generalize hM:K+(n+1)=M
  simp only[impl_element_times.l1]
  subst hM
  rw[if_pos zq8,if_pos zq8,hw1,e]
  by_cases hb:Int.tmod (shr .u64 (hw.toNat:Int) (n:Int)) 2=1
  ·rw[if_pos hb,plus_at,shifted_at]
   simp only[Option.bind_some]
   rw[times_l1 hw xs len i n K _ _ zq8,gL,opX,(shr_bit hw n zq8).1 hb,if_pos rfl]
   rfl
  ·rw[if_neg hb,shifted_at]
   simp only[Option.bind_some]
   rw[times_l1 hw xs len i n K _ _ zq8,gL,opX,if_neg (fun q=>hb ((shr_bit hw n zq8).2 q))]
   rfl
theorem w_zero:wH 0#128=0∧wL 0#128=0:=by decide +kernel
theorem times_at (k:Nat) (hk:133≤k) (a b:BitVec 128):impl_element_times.f k (wH a) (wL a) (wH b) (wL b)=some (wH (gM a b),wL (gM a b)):=by
 obtain⟨K,rfl⟩:∃ K,k=K+133:=⟨k - 133,zq8⟩
 unfold impl_element_times.f
 simp only[Option.bind_some]
 have h1:=times_l1 (hiW b) [wH b,wL b] 2 0 64 (K+67) a 0#128 zq8
 have h2:=times_l1 (loW b) [wH b,wL b] 2 1 64 (K+1) (gI 64 a) (opX gX (gL (hiW b).getLsbD 64) a 0#128) zq8
 rw[w_zero.1,w_zero.2] at h1
 rw[← gM_halves] at h2
 show impl_element_times.l0 ((K+132)+1) [wH b,wL b] 2 0 (wH a) (wL a) 0 0=_
 simp only[impl_element_times.l0]
 rw[if_pos zq8,if_pos zq8,if_pos zq73]
 refine(show _=_ from h1).trans ?_
 rw[show wrap64 (0+1)=1 by decide +kernel]
 show impl_element_times.l0 ((K+66)+1) [wH b,wL b] 2 1 _ _ _ _=_
 simp only[impl_element_times.l0]
 rw[if_pos zq8,if_pos zq8,if_pos zq73]
 refine(show _=_ from h2).trans ?_
 rw[show wrap64 (1+1)=2 by decide +kernel]
 show impl_element_times.l0 (K+1) [wH b,wL b] 2 2 _ _ _ _=_
 simp only[impl_element_times.l0]
 rw[if_neg zq8]
theorem numN_bit (m:List (BitVec 8)):∀ (i j:Nat),i≤m.length→j < 8*i→(numN 0 (m.take i)).testBit j=(by_ m (i - 1 - j / 8)).getLsbD (j % 8)
 | 0,j,_,hj=>by omega
 | i+1,j,hi,hj=>by
  rw[numN_take m i zq8,show numN 0 (m.take i)*256+(by_ m i).toNat=2 ^ 8*numN 0 (m.take i)+(by_ m i).toNat by omega,Nat.testBit_two_pow_mul_add _ (by_ m i).isLt]
  by_cases h:j < 8
  ·rw[if_pos h,show i+1 - 1 - j / 8=i by omega,show j % 8=j by omega]
   rfl
  ·rw[if_neg h,numN_bit m i (j - 8) zq8 zq8,show i - 1 - (j - 8) / 8=i+1 - 1 - j / 8 by omega,show (j - 8) % 8=j % 8 by omega]
def vB (m:List (BitVec 8)):BitVec 128:=BitVec.ofNat 64 (hiN m) ++ BitVec.ofNat 64 (loN m)
theorem hiN_lt (m:List (BitVec 8)):hiN m < 18446744073709551616:=by
 have h1:=numN_lt (m.take 8) 0 1 zq8
 have h2:256 ^ (m.take 8).length≤256 ^ 8:=Nat.pow_le_pow_right zq8 (by rw[List.length_take];omega)
 unfold hiN
 omega
theorem loN_lt (m:List (BitVec 8)):loN m < 18446744073709551616:=by
 have h1:=numN_lt ((m.drop 8).take 8) 0 1 zq8
 have h2:256 ^ ((m.drop 8).take 8).length≤256 ^ 8:=Nat.pow_le_pow_right zq8 (by rw[List.length_take];omega)
 unfold loN
 omega
theorem hiW_vB (m:List (BitVec 8)):hiW (vB m)=BitVec.ofNat 64 (hiN m):=by
 apply BitVec.eq_of_getLsbD_eq
 intro i hi
 unfold hiW vB
 rw[BitVec.getLsbD_extractLsb',decide_eq_true hi,Bool.true_and,BitVec.getLsbD_append,if_neg zq8,show 64+i - 64=i by omega]
theorem loW_vB (m:List (BitVec 8)):loW (vB m)=BitVec.ofNat 64 (loN m):=by
 apply BitVec.eq_of_getLsbD_eq
 intro i hi
 unfold loW vB
 rw[BitVec.getLsbD_extractLsb',decide_eq_true hi,Bool.true_and,BitVec.getLsbD_append,if_pos zq8,show 0+i=i by omega]
theorem wH_vB (m:List (BitVec 8)):wH (vB m)=(hiN m:Int):=by
 unfold wH
 rw[hiW_vB,BitVec.toNat_ofNat,Nat.mod_eq_of_lt (hiN_lt m)]
theorem wL_vB (m:List (BitVec 8)):wL (vB m)=(loN m:Int):=by
 unfold wL
 rw[loW_vB,BitVec.toNat_ofNat,Nat.mod_eq_of_lt (loN_lt m)]
theorem vB_bit (m:List (BitVec 8)) (hm:m.length=16) (i:Nat) (hi:i < 128):(vB m).getLsbD (127 - i)=(by_ m (i / 8)).getLsbD (7 - i % 8):=by
 unfold vB
 rw[BitVec.getLsbD_append]
 by_cases h:127 - i < 64
 ·rw[if_pos h,BitVec.getLsbD_ofNat,decide_eq_true h,Bool.true_and,loN,numN_bit _ 8 _ (by simp;omega) zq8,by_drop,show 8+(8 - 1 - (127 - i) / 8)=i / 8 by omega,show (127 - i) % 8=7 - i % 8 by omega]
 ·rw[if_neg h,BitVec.getLsbD_ofNat,decide_eq_true (show 127 - i - 64 < 64 by omega),Bool.true_and,hiN,numN_bit _ 8 _ zq8 zq8,show 8 - 1 - (127 - i - 64) / 8=i / 8 by omega,show (127 - i - 64) % 8=7 - i % 8 by omega]
theorem shr8_bit (x:BitVec 8) (n:Nat) (h:n < 8):Int.tmod (shr .u8 (bI x) (n:Int)) 2=1 ↔ x.getLsbD n=true:=by
 unfold shr bI
 rw[Int.toNat_natCast,show min n IntKind.u8.bits=n from Nat.min_eq_left (show n≤8 by omega),BitVec.getLsbD,Nat.testBit_eq_decide_div_mod_eq,decide_eq_true_iff]
 rw[show (x.toNat:Int) / 2 ^ n=((x.toNat / 2 ^ n:Nat):Int) by simp]
 generalize x.toNat / 2 ^ n=y
 rw[Int.tmod_eq_emod_of_nonneg zq8]
 omega
theorem u64w (n:Int) (h:0≤n) (h2:n < 18446744073709551616):IntKind.u64.wrap n=n:=by
 simp[IntKind.wrap,IntKind.bits,IntKind.signed]
 omega
theorem spec_hi (a:BitVec 128):IntKind.u64.wrap (Int.tdiv (wH a) 2)=wH a / 2:=by
 have:=wH_lo a
 have:=wH_hi a
 rw[Int.tdiv_eq_ediv_of_nonneg zq8,u64w _ zq8 zq8]
theorem spec_lo (a:BitVec 128):IntKind.u64.wrap ((IntKind.u64.wrap (Int.tdiv (wL a) 2))+(IntKind.u64.wrap ((Int.tmod (wH a) 2)*9223372036854775808)))=wL (gX a):=by
 have h1:=wL_lo a
 have h2:=wL_hi a
 have h3:=wH_lo a
 have h4:=wH_hi a
 rw[← or_at,Int.tdiv_eq_ediv_of_nonneg zq8,Int.tmod_eq_emod_of_nonneg zq8,u64w (wL a / 2) zq8 zq8,u64w (wH a % 2*9223372036854775808) zq8 zq8,u64w _ zq8 zq8]
 have e:IntKind.u64.wrap (wH a*9223372036854775808)=wH a % 2*9223372036854775808:=by
  simp[IntKind.wrap,IntKind.bits,IntKind.signed]
  omega
 rw[e]
 obtain⟨x,hx⟩:∃ x:Nat,(x:Int)=wL a / 2:=⟨(wL a / 2).toNat,zq8⟩
 obtain⟨y,hy⟩:∃ y:Nat,(y:Int)=wH a % 2:=⟨(wH a % 2).toNat,zq8⟩
 rw[← hx,← hy,show (y:Int)*9223372036854775808=((y*9223372036854775808:Nat):Int) by omega,u64_or_nat _ _ zq8 zq8]
 have h:=Nat.two_pow_add_eq_or_of_lt (i:=63) (show x < 2 ^ 63 by omega) y
 rw[Nat.or_comm,show y*9223372036854775808=2 ^ 63*y by omega,← h]
 omega
theorem l3Half_loop (m:List (BitVec 8)) (hm:8≤m.length) (d:Nat) (hl:m.length < 1099511627776):∀ (k i:Nat),i+d=8→d < k→spec_l3Half.l0 k (bL m) (numN 0 (m.take i):Nat) (i:Int)=some ((numN 0 (m.take 8):Nat):Int):=by
 induction d with
 | zero=>
  intro k i hi hk
  obtain⟨k,rfl⟩:∃ m,k=m+1:=⟨k - 1,zq8⟩
  obtain rfl:i=8:=by omega
  simp only[spec_l3Half.l0]
  rw[if_neg zq8]
 | succ d ih=>
  intro k i hi hk
  obtain⟨k,rfl⟩:∃ m,k=m+1:=⟨k - 1,zq8⟩
  have hw:wrap64 ((i:Int)+1)=((i+1:Nat):Int):=by unfold wrap64;omega
  have hlt:=numN_take_lt m i zq8
  have hb:=(by_ m i).isLt
  simp only[spec_l3Half.l0]
  rw[if_pos zq8,if_pos zq8,if_pos zq121,hw,rd_bL,Int.toNat_natCast]
  have e:IntKind.u64.wrap ((IntKind.u64.wrap (((numN 0 (m.take i):Nat):Int)*256))+(IntKind.u64.wrap (bI (m.getD i 0#8))))=((numN 0 (m.take (i+1)):Nat):Int):=by
   rw[numN_take m i zq8]
   change IntKind.u64.wrap ((IntKind.u64.wrap (((numN 0 (m.take i):Nat):Int)*256))+(IntKind.u64.wrap (((by_ m i).toNat:Nat):Int)))=_
   rw[u64w (((numN 0 (m.take i):Nat):Int)*256) zq8 zq8,u64w ((by_ m i).toNat:Int) zq8 zq8,u64w _ zq8 zq8]
   omega
  rw[e]
  exact ih k (i+1) zq8 zq8
theorem l3Half_at (k:Nat) (hk:8 < k) (m:List (BitVec 8)) (hm:8≤m.length) (hl:m.length < 1099511627776):spec_l3Half.f k (bL m)=some ((numN 0 (m.take 8):Nat):Int):=by
 unfold spec_l3Half.f
 exact l3Half_loop m hm 8 hl k 0 zq8 hk
theorem l3Bytes_loop (h l:Nat) (hh:h < 18446744073709551616) (hl:l < 18446744073709551616) (d:Nat):∀ (k n:Nat),n+d=8→d < k→spec_l3Bytes.l0 k ((h / 256 ^ n:Nat):Int) ((l / 256 ^ n:Nat):Int) (bL (outL h l n)) (7 - (n:Int))=some (bL (outL h l 8)):=by
 induction d with
 | zero=>
  intro k n hi hk
  obtain⟨k,rfl⟩:∃ m,k=m+1:=⟨k - 1,zq8⟩
  obtain rfl:n=8:=by omega
  simp only[spec_l3Bytes.l0]
  rw[if_neg zq8]
 | succ d ih=>
  intro k n hi hk
  obtain⟨k,rfl⟩:∃ m,k=m+1:=⟨k - 1,zq8⟩
  have hw:wrap64 (8+(7 - (n:Int)))=((7 - n+8:Nat):Int):=by unfold wrap64;omega
  have hw2:wrap64 (7 - (n:Int) - 1)=7 - ((n+1:Nat):Int):=by unfold wrap64;omega
  have e7:(7 - (n:Int)).toNat=7 - n:=by omega
  have q:∀ x:Nat,x < 18446744073709551616→IntKind.u64.wrap (Int.tdiv ((x / 256 ^ n:Nat):Int) 256)=((x / 256 ^ (n+1):Nat):Int):=fun x hx=>by
   have h9:=Nat.div_le_self x (256 ^ n)
   rw[Nat.pow_succ,← Nat.div_div_eq_div_mul]
   generalize x / 256 ^ n=y at *
   rw[Int.tdiv_eq_ediv_of_nonneg zq8,u64w _ zq8 zq8]
   omega
  have r:∀ x:Nat,Int.tmod (x:Int) 256 % 256=bI (BitVec.ofNat 8 x):=fun x=>by
   rw[Int.tmod_eq_emod_of_nonneg zq8,← byte_of]
   omega
  simp only[spec_l3Bytes.l0]
  rw[if_pos zq8,if_pos zq8,if_pos (by rw[bL_length,outL_length];omega),hw,hw2,if_pos zq8,if_pos (by rw[bL_length,outL_length];omega),q h hh,q l hl,r,r,e7,Int.toNat_natCast,bL_set,bL_set,outL_set h l n zq8]
  exact ih k (n+1) zq8 zq8
theorem l3Bytes_at (k:Nat) (hk:8 < k) (h l:Nat) (hh:h < 18446744073709551616) (hl:l < 18446744073709551616):spec_l3Bytes.f k (h:Int) (l:Int)=some (bL (outL h l 8)):=by
 unfold spec_l3Bytes.f
 rw[if_pos zq8]
 have h1:=l3Bytes_loop h l hh hl 8 k 0 zq8 hk
 rw[show h / 256 ^ 0=h from Nat.div_one h,show l / 256 ^ 0=l from Nat.div_one l,outL_zero] at h1
 exact h1
def bV (v:BitVec 128):List (BitVec 8):=outL (hiW v).toNat (loW v).toNat 8
theorem bV_length (v:BitVec 128):(bV v).length=16:=outL_length _ _ _
theorem l3Bytes_v (k:Nat) (hk:8 < k) (v:BitVec 128):spec_l3Bytes.f k (wH v) (wL v)=some (bL (bV v)):=l3Bytes_at k hk _ _ (hiW v).isLt (loW v).isLt
theorem spec_times (m:List (BitVec 8)) (hm:m.length=16):∀ (d K i:Nat) (a o:BitVec 128),i+d=128→8 < K→spec_l3Times.l0 (K+(d+1)) (bL m) (wH o) (wL o) (wH a) (wL a) (i:Int)=some (bL (bV (opX gX (gL (vB m).getLsbD d) a o)))
 | 0,K,i,a,o,hi,hK=>by
  show spec_l3Times.l0 (K+1) _ _ _ _ _ _=_
  simp only[spec_l3Times.l0]
  rw[if_neg zq8,l3Bytes_v K hK]
  rfl
 | d+1,K,i,a,o,hi,hK=>by
  show spec_l3Times.l0 ((K+(d+1))+1) _ _ _ _ _ _=_
  have w1:wrap64 (Int.tdiv (i:Int) 8)=((i / 8:Nat):Int):=by rw[Int.tdiv_eq_ediv_of_nonneg zq8];unfold wrap64;omega
  have w2:IntKind.u64.wrap (7 - (IntKind.u64.wrap (Int.tmod (i:Int) 8)))=((7 - i % 8:Nat):Int):=by
   rw[Int.tmod_eq_emod_of_nonneg zq8,u64w ((i:Int) % 8) zq8 zq8,u64w _ zq8 zq8]
   omega
  have w3:wrap64 ((i:Int)+1)=((i+1:Nat):Int):=by unfold wrap64;omega
  have ih:=spec_times m hm d K (i+1)
  have hbit:Int.tmod (shr .u8 (rd (bL m) ((i / 8:Nat):Int)) ((7 - i % 8:Nat):Int)) 2=1 ↔ (vB m).getLsbD d=true:=by
   rw[rd_bL,Int.toNat_natCast,shr8_bit _ _ zq8,show d=127 - i by omega,vB_bit m hm i zq8]
   rfl
  generalize hM:K+(d+1)=M at ih
  simp only[spec_l3Times.l0]
  rw[if_pos zq8,w1,if_pos zq8,if_pos zq121,w2,if_pos zq8,w3,spec_lo,spec_hi]
  have px:Go.bits .xor .u64 (wH o) (wH a)=wH (o ^^^ a)∧Go.bits .xor .u64 (wL o) (wL a)=wL (o ^^^ a):=by
   have h:=plus_at o a
   unfold impl_element_plus.f at h
   simpa using h
  rw[px.1,px.2]
  by_cases hb:Int.tmod (shr .u8 (rd (bL m) ((i / 8:Nat):Int)) ((7 - i % 8:Nat):Int)) 2=1
  ·rw[if_pos hb,gL,opX,hbit.1 hb,if_pos rfl]
   by_cases ho:Int.tmod (wL a) 2=1
   ·rw[if_pos ho,hi_odd a ho]
    exact ih _ _ zq8 hK
   ·rw[if_neg ho,hi_even a ho]
    exact ih _ _ zq8 hK
  ·rw[if_neg hb,gL,opX,if_neg (fun q=>hb (hbit.2 q))]
   by_cases ho:Int.tmod (wL a) 2=1
   ·rw[if_pos ho,hi_odd a ho]
    exact ih _ _ zq8 hK
   ·rw[if_neg ho,hi_even a ho]
    exact ih _ _ zq8 hK
theorem l3Times_at (k:Nat) (hk:150≤k) (m n:List (BitVec 8)) (hm:m.length=16) (hn:n.length=16):spec_l3Times.f k (bL m) (bL n)=some (bL (bV (gM (vB n) (vB m)))):=by
 obtain⟨K,rfl⟩:∃ K,k=K+(128+1):=⟨k - 129,zq8⟩
 unfold spec_l3Times.f
 rw[l3Half_at _ zq8 n zq8 zq8]
 simp only[Option.bind_some]
 rw[if_pos zq121,bL_drop,l3Half_at _ zq8 (n.drop 8) (by rw[List.length_drop];omega) (by rw[List.length_drop];omega)]
 simp only[Option.bind_some]
 have h:=spec_times m hm 128 K 0 (vB n) 0#128 zq8 zq8
 rw[w_zero.1,w_zero.2,wH_vB,wL_vB,show ((0:Nat):Int)=0 from rfl] at h
 unfold gM gB hiN loN at *
 exact h
end Go.Proofs.Ytdbanjdnjhflcaa.All
