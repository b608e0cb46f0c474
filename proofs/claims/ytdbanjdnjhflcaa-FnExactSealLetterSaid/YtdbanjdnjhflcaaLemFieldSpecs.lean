-- Laid by wip/shake.py of this repo out of this claim's texts. Not trusted: Lean checks it.
import Derived.Test.YtdbanjdnjhflcaaAb0s
import Derived.Test.YtdbanjdnjhflcaaAlgs
import Derived.Test.YtdbanjdnjhflcaaAllx32s
set_option linter.unusedSimpArgs false
set_option linter.unusedVariables false
namespace Go.Proofs.Ytdbanjdnjhflcaa.All
open Go.RowKit Go.Proofs.Ytdbanjdnjhflcaa.All Go.Proofs.YtdbanjdnjhflcaaW.PrintWords Go.Proofs.YtdbanjdnjhflcaaW.PrintLast Go.Proofs.YtdbanjdnjhflcaaW.PrintMore
def bitsN:Nat→Nat→List Bool
 | 0,_=>[]
 | k+1,n=>(n % 2 == 1) :: bitsN k (n / 2)
theorem bitsN_B (b:BitVec 8):bitsN 8 b.toNat=bitsB b:=by
 have h:=of_all8 (p:=fun b=>bitsN 8 b.toNat == bitsB b) zq188 b
 simpa using h
theorem tmod_two (n:Nat):Int.tmod (n:Int) 2=((n % 2:Nat):Int):=by
 rw[Int.tmod_eq_emod_of_nonneg zq8]
 omega
theorem tdiv_two (n:Nat) (h:n < 256):Int.tdiv (n:Int) 2 % 256=((n / 2:Nat):Int):=by
 rw[Int.tdiv_eq_ediv_of_nonneg zq8]
 omega
theorem specFT (n:Nat):∀ (k:Nat) (a o:BitVec 8) (b i:Nat),i+n=8→b < 256→n < k→spec_FieldTimes.l0 k (bI a) (b:Int) (bI o) (i:Int)=some (bI (opX xt (bitsN n b) a o)):=by
 induction n with
 | zero=>
  intro k a o b i hi _ hk
  obtain⟨k,rfl⟩:∃ m,k=m+1:=⟨k - 1,zq8⟩
  simp only[spec_FieldTimes.l0]
  rw[if_neg zq8]
  rfl
 | succ n ih=>
  intro k a o b i hi h256 hk
  obtain⟨k,rfl⟩:∃ m,k=m+1:=⟨k - 1,zq8⟩
  have hw:wrap64 ((i:Int)+1)=((i+1:Nat):Int):=by unfold wrap64;omega
  simp only[spec_FieldTimes.l0]
  rw[if_pos zq8,tmod_two,tdiv_two b h256,hw,bI_dbl,bI_xor]
  have hx:xt a=if bI a ≥ 128 then (a <<< 1) ^^^ 27#8 else a <<< 1:=by
   unfold xt bI
   by_cases h:a.toNat ≥ 128
   ·rw[if_pos h,if_pos zq8]
   ·rw[if_neg h,if_neg zq8]
  have h27:Go.bits .xor .u8 (bI (a <<< 1)) 27=bI ((a <<< 1) ^^^ 27#8):=by rw[show (27:Int)=bI 27#8 from rfl,bI_xor]
  by_cases h1:b % 2=1
  ·rw[if_pos zq8]
   by_cases h:bI a ≥ 128
   ·rw[if_pos h] at hx
    rw[if_pos h,h27,← hx,ih k _ _ _ _ zq8 zq8 zq8]
    simp[bitsN,opX,h1]
   ·rw[if_neg h] at hx
    rw[if_neg h,← hx,ih k _ _ _ _ zq8 zq8 zq8]
    simp[bitsN,opX,h1]
  ·rw[if_neg zq8]
   by_cases h:bI a ≥ 128
   ·rw[if_pos h] at hx
    rw[if_pos h,h27,← hx,ih k _ _ _ _ zq8 zq8 zq8]
    simp[bitsN,opX,h1]
   ·rw[if_neg h] at hx
    rw[if_neg h,← hx,ih k _ _ _ _ zq8 zq8 zq8]
    simp[bitsN,opX,h1]
theorem spec_ft (k:Nat) (hk:8 < k) (a b:BitVec 8):spec_FieldTimes.f k (bI a) (bI b)=some (bI (ft a b)):=by
 unfold spec_FieldTimes.f
 have h:=specFT 8 k a 0#8 b.toNat 0 zq8 b.isLt hk
 rw[bitsN_B] at h
 exact h
end Go.Proofs.Ytdbanjdnjhflcaa.All
