-- Laid by wip/shake.py of this repo out of this claim's texts. Not trusted: Lean checks it.
import Derived.Test.YtkjgdndaepobiaaAb0s
import Derived.Test.YtkjgdndaepobiaaAllx0s
section
namespace Go.Proofs.Ytkjgdndaepobiaa.All
open Go.RowKit Go.Proofs.YtkjgdndaepobiaaW.PrintWords Go.Proofs.YtkjgdndaepobiaaW.PrintLast Go.Proofs.YtkjgdndaepobiaaW.PrintMore
attribute [local go_sem] max2_int min2_int max_two min_two max_three min_three max_four min_four
set_option linter.unusedVariables false
set_option linter.unusedSimpArgs false
def spec_FieldTimes.l0:Nat→Int→Int→Int→Int→Option (Int)
 | 0,_,_,_,_=>none
 | k+1,x0,x1,x5,x6=>if x6 < 8 then (if (Int.tmod x1 2)=1 then (if x0 ≥ 128 then (spec_FieldTimes.l0 k (Go.bits .xor .u8 ((x0*2) % 256) 27) ((Int.tdiv x1 2) % 256) (Go.bits .xor .u8 x5 x0) (wrap64 (x6+1))) else (spec_FieldTimes.l0 k ((x0*2) % 256) ((Int.tdiv x1 2) % 256) (Go.bits .xor .u8 x5 x0) (wrap64 (x6+1)))) else (if x0 ≥ 128 then (spec_FieldTimes.l0 k (Go.bits .xor .u8 ((x0*2) % 256) 27) ((Int.tdiv x1 2) % 256) x5 (wrap64 (x6+1))) else (spec_FieldTimes.l0 k ((x0*2) % 256) ((Int.tdiv x1 2) % 256) x5 (wrap64 (x6+1))))) else (some x5)
def spec_FieldTimes.f (k:Nat) (a0:Int) (a1:Int):Option (Int):=spec_FieldTimes.l0 k a0 a1 0 0
theorem spec_FieldTimes.mono_l:∀ k,(∀ y0 y1 y2 y3,LeO (spec_FieldTimes.l0 k y0 y1 y2 y3) (spec_FieldTimes.l0 (k+1) y0 y1 y2 y3))
 | 0=>fun _ _ _ _ r h=>by simp[spec_FieldTimes.l0] at h
 | k+1=>by
  have ih0:=spec_FieldTimes.mono_l k
  ·intro y0 y1 y2 y3
   unfold spec_FieldTimes.l0
   repeat' first
   | (with_reducible exact ih0 _ _ _ _)
   | (with_reducible exact LeO.refl _)
   | (with_reducible exact LeO.none _)
   | (with_reducible refine LeO.ite ?_ ?_)
   | (with_reducible refine LeO.bind ?_ (fun _=>?_))
   | exact ih0 _ _ _ _
   | exact LeO.none _
   | refine LeO.ite ?_ ?_
   | refine LeO.bind ?_ (fun _=>?_)
theorem spec_FieldTimes.mono:∀ a0 a1 k,LeO (spec_FieldTimes.f k a0 a1) (spec_FieldTimes.f (k+1) a0 a1):=by
 intro a0 a1 k
 have ih0:=spec_FieldTimes.mono_l k
 unfold spec_FieldTimes.f
 repeat' first
   | (with_reducible exact ih0 _ _ _ _)
   | (with_reducible exact LeO.refl _)
   | (with_reducible exact LeO.none _)
   | (with_reducible refine LeO.ite ?_ ?_)
   | (with_reducible refine LeO.bind ?_ (fun _=>?_))
   | exact ih0 _ _ _ _
   | exact LeO.none _
   | refine LeO.ite ?_ ?_
   | refine LeO.bind ?_ (fun _=>?_)
set_option maxHeartbeats 8000000 in
set_option maxRecDepth 100000 in
theorem spec_FieldTimes.calls (k:Nat) (a0:Int) (a1:Int) (r:Int) (w:World) (h:spec_FieldTimes.f k a0 a1=some r) :
  Calls Try.prog 58 #[.int .u8 a0,.int .u8 a1] w fun e w'=>e=.returned (.int .u8 r)∧Drawn0 w w':=by
 have H:(spec_FieldTimes.l0 k a0 a1 0 0)=some r:=h
 clear h
 have H':=Aside0.mk H
 clear H
 go_enter Try.func58,Try.ntmps58
 go_wp2
 go_loopg [0,1,5,6] k (fun kq v0 v1 v5 v6 w'=>∃ (x0_1:Int) (x1_1:Int) (x5_1:Int) (x6_1:Int),v0=.int .u8 x0_1∧v1=.int .u8 x1_1∧v5=.int .u8 x5_1∧v6=.int .i64 x6_1∧Aside0 (spec_FieldTimes.l0 kq x0_1 x1_1 x5_1 x6_1=some r)∧Aside0 (kq≤k)∧Drawn0 w w')
 case atStart=>exact⟨(a0),(a1),(0),(0),zq8,zq8,zq8,zq8,H',⟨Nat.le_refl _⟩,zq47⟩
 case round=>
  clear H'
  try clear p2
  obtain⟨x0_1,x1_1,x5_1,x6_1,rfl,rfl,rfl,rfl,HA,HK1,⟨m1,rfl⟩⟩:=hrel
  cases gk with
  | zero=>exact absurd HA.out (by simp[spec_FieldTimes.l0])
  | succ k1=>
   have H:=HA.out
   clear HA
   simp only[spec_FieldTimes.l0] at H
   by_cases c3:x6_1 < 8
   ·rw[if_pos c3] at H
    have c3b0:decide (x6_1 < 8)=true:=decide_eq_true c3
    clear c3
    by_cases c4:(Int.tmod x1_1 2)=1
    ·rw[if_pos c4] at H
     have c4b0:((Int.tmod x1_1 2) == 1)=true:=beq_iff_eq.mpr c4
     have c4b1:((Int.tmod x1_1 2) != 1)=false:=bne_eq_false_iff_eq.mpr c4
     clear c4
     by_cases c5:x0_1 ≥ 128
     ·rw[if_pos c5] at H
      have c5b0:decide (128≤x0_1)=true:=decide_eq_true c5
      clear c5
      have H':=Aside0.mk H
      clear H
      go_wp2
      go_roundg k1
      case measure=>have:=HK1.out;omega
      case rel=>exact⟨(Go.bits .xor .u8 ((x0_1*2) % 256) 27),((Int.tdiv x1_1 2) % 256),(Go.bits .xor .u8 x5_1 x0_1),(wrap64 (x6_1+1)),zq8,zq8,zq8,zq8,H',⟨zq153⟩,zq47⟩
     ·rw[if_neg c5] at H
      have c5b0:decide (128≤x0_1)=false:=decide_eq_false c5
      clear c5
      have H':=Aside0.mk H
      clear H
      go_wp2
      go_roundg k1
      case measure=>have:=HK1.out;omega
      case rel=>exact⟨((x0_1*2) % 256),((Int.tdiv x1_1 2) % 256),(Go.bits .xor .u8 x5_1 x0_1),(wrap64 (x6_1+1)),zq8,zq8,zq8,zq8,H',⟨zq153⟩,zq47⟩
    ·rw[if_neg c4] at H
     have c4b0:((Int.tmod x1_1 2) == 1)=false:=beq_eq_false_iff_ne.mpr c4
     have c4b1:((Int.tmod x1_1 2) != 1)=true:=bne_iff_ne.mpr c4
     by_cases c6:x0_1 ≥ 128
     ·rw[if_pos c6] at H
      have c6b0:decide (128≤x0_1)=true:=decide_eq_true c6
      clear c6
      have H':=Aside0.mk H
      clear H
      go_wp2
      go_roundg k1
      case measure=>have:=HK1.out;omega
      case rel=>exact⟨(Go.bits .xor .u8 ((x0_1*2) % 256) 27),((Int.tdiv x1_1 2) % 256),(x5_1),(wrap64 (x6_1+1)),zq8,zq8,zq8,zq8,H',⟨zq153⟩,zq47⟩
     ·rw[if_neg c6] at H
      have c6b0:decide (128≤x0_1)=false:=decide_eq_false c6
      clear c6
      have H':=Aside0.mk H
      clear H
      go_wp2
      go_roundg k1
      case measure=>have:=HK1.out;omega
      case rel=>exact⟨((x0_1*2) % 256),((Int.tdiv x1_1 2) % 256),(x5_1),(wrap64 (x6_1+1)),zq8,zq8,zq8,zq8,H',⟨zq153⟩,zq47⟩
   ·rw[if_neg c3] at H
    have c3b0:decide (x6_1 < 8)=false:=decide_eq_false c3
    clear c3
    obtain rfl:=Option.some.inj H
    go_wp2
    go_ret
    exact⟨zq8,zq47⟩
end Go.Proofs.Ytkjgdndaepobiaa.All
end
section
set_option linter.unusedVariables false
set_option linter.unusedSimpArgs false
namespace Go.Proofs.Ytkjgdndaepobiaa.All
open Go.RowKit Go.Proofs.Ytkjgdndaepobiaa.All Go.Proofs.YtkjgdndaepobiaaW.PrintWords Go.Proofs.YtkjgdndaepobiaaW.PrintLast Go.Proofs.YtkjgdndaepobiaaW.PrintMore
def bitsN:Nat→Nat→List Bool
 | 0,_=>[]
 | k+1,n=>(n % 2 == 1) :: bitsN k (n / 2)
theorem bitsN_B (b:BitVec 8):bitsN 8 b.toNat=bitsB b:=by
 have h:=of_all8 (p:=fun b=>bitsN 8 b.toNat == bitsB b) (by decide +kernel) b
 simpa using h
theorem tmod_two (n:Nat):Int.tmod (n:Int) 2=((n % 2:Nat):Int):=by
 rw[Int.tmod_eq_emod_of_nonneg zq9]
 omega
theorem tdiv_two (n:Nat) (h:n < 256):Int.tdiv (n:Int) 2 % 256=((n / 2:Nat):Int):=by
 rw[Int.tdiv_eq_ediv_of_nonneg zq9]
 omega
theorem specFT (n:Nat):∀ (k:Nat) (a o:BitVec 8) (b i:Nat),i+n=8→b < 256→n < k→spec_FieldTimes.l0 k (bI a) (b:Int) (bI o) (i:Int)=some (bI (opX xt (bitsN n b) a o)):=by
 induction n with
 | zero=>
  intro k a o b i hi _ hk
  obtain⟨k,rfl⟩:∃ m,k=m+1:=⟨k - 1,zq9⟩
  simp only[spec_FieldTimes.l0]
  rw[if_neg zq9]
  rfl
 | succ n ih=>
  intro k a o b i hi h256 hk
  obtain⟨k,rfl⟩:∃ m,k=m+1:=⟨k - 1,zq9⟩
  have hw:wrap64 ((i:Int)+1)=((i+1:Nat):Int):=by unfold wrap64;omega
  simp only[spec_FieldTimes.l0]
  rw[if_pos zq9,tmod_two,tdiv_two b h256,hw,bI_dbl,bI_xor]
  have hx:xt a=if bI a ≥ 128 then (a <<< 1) ^^^ 27#8 else a <<< 1:=by
   unfold xt bI
   by_cases h:a.toNat ≥ 128
   ·rw[if_pos h,if_pos zq9]
   ·rw[if_neg h,if_neg zq9]
  have h27:Go.bits .xor .u8 (bI (a <<< 1)) 27=bI ((a <<< 1) ^^^ 27#8):=by rw[show (27:Int)=bI 27#8 from rfl,bI_xor]
  by_cases h1:b % 2=1
  ·rw[if_pos zq9]
   by_cases h:bI a ≥ 128
   ·rw[if_pos h] at hx
    rw[if_pos h,h27,← hx,ih k _ _ _ _ zq9 zq9 zq9]
    simp[bitsN,opX,h1]
   ·rw[if_neg h] at hx
    rw[if_neg h,← hx,ih k _ _ _ _ zq9 zq9 zq9]
    simp[bitsN,opX,h1]
  ·rw[if_neg zq9]
   by_cases h:bI a ≥ 128
   ·rw[if_pos h] at hx
    rw[if_pos h,h27,← hx,ih k _ _ _ _ zq9 zq9 zq9]
    simp[bitsN,opX,h1]
   ·rw[if_neg h] at hx
    rw[if_neg h,← hx,ih k _ _ _ _ zq9 zq9 zq9]
    simp[bitsN,opX,h1]
theorem spec_ft (k:Nat) (hk:8 < k) (a b:BitVec 8):spec_FieldTimes.f k (bI a) (bI b)=some (bI (ft a b)):=by
 unfold spec_FieldTimes.f
 have h:=specFT 8 k a 0#8 b.toNat 0 zq9 b.isLt hk
 rw[bitsN_B] at h
 exact h
end Go.Proofs.Ytkjgdndaepobiaa.All
end
