-- Laid by wip/shake.py of this repo out of this claim's texts. Not trusted: Lean checks it.
import Derived.Test.YtdbanjdnjhflcaaAb0s
import Derived.Test.YtdbanjdnjhflcaaAlgs
import Derived.Test.YtdbanjdnjhflcaaAllx108s
set_option linter.unusedSimpArgs false
set_option linter.unusedVariables false
namespace Go.Proofs.Ytdbanjdnjhflcaa.All
open Go.Proofs.YtdbanjdnjhflcaaW.PrintWords.Aside0 renaming mk→zM
open Go.RowKit Go.Proofs.YtdbanjdnjhflcaaW.PrintWords Go.Proofs.YtdbanjdnjhflcaaW.PrintLast Go.Proofs.YtdbanjdnjhflcaaW.PrintMore
attribute [local go_sem] max2_int min2_int max_two min_two max_three min_three max_four min_four
def spec_l3Times.l0:Nat→List Int→Int→Int→Int→Int→Int→Option (List Int)
 | 0,_,_,_,_,_,_=>none
 | k+1,x0,x5,x6,x7,x8,x9=>if x9 < 128 then (if 0≤(wrap64 (Int.tdiv x9 8)) then (if (wrap64 (Int.tdiv x9 8)) < (x0.length:Int) then (if 0≤(IntKind.u64.wrap (7 - (IntKind.u64.wrap (Int.tmod x9 8)))) then (if (Int.tmod (shr .u8 (rd x0 (wrap64 (Int.tdiv x9 8))) (IntKind.u64.wrap (7 - (IntKind.u64.wrap (Int.tmod x9 8))))) 2)=1 then (if (Int.tmod x8 2)=1 then (spec_l3Times.l0 k x0 (Go.bits .xor .u64 x5 x7) (Go.bits .xor .u64 x6 x8) (Go.bits .xor .u64 (IntKind.u64.wrap (Int.tdiv x7 2)) 16212958658533785600) (IntKind.u64.wrap ((IntKind.u64.wrap (Int.tdiv x8 2))+(IntKind.u64.wrap ((Int.tmod x7 2)*9223372036854775808)))) (wrap64 (x9+1))) else (spec_l3Times.l0 k x0 (Go.bits .xor .u64 x5 x7) (Go.bits .xor .u64 x6 x8) (IntKind.u64.wrap (Int.tdiv x7 2)) (IntKind.u64.wrap ((IntKind.u64.wrap (Int.tdiv x8 2))+(IntKind.u64.wrap ((Int.tmod x7 2)*9223372036854775808)))) (wrap64 (x9+1)))) else (if (Int.tmod x8 2)=1 then (spec_l3Times.l0 k x0 x5 x6 (Go.bits .xor .u64 (IntKind.u64.wrap (Int.tdiv x7 2)) 16212958658533785600) (IntKind.u64.wrap ((IntKind.u64.wrap (Int.tdiv x8 2))+(IntKind.u64.wrap ((Int.tmod x7 2)*9223372036854775808)))) (wrap64 (x9+1))) else (spec_l3Times.l0 k x0 x5 x6 (IntKind.u64.wrap (Int.tdiv x7 2)) (IntKind.u64.wrap ((IntKind.u64.wrap (Int.tdiv x8 2))+(IntKind.u64.wrap ((Int.tmod x7 2)*9223372036854775808)))) (wrap64 (x9+1))))) else (none)) else (none)) else (none)) else ((spec_l3Bytes.f k x5 x6).bind fun t185=>(some t185))
def spec_l3Times.f (k:Nat) (l0:List Int) (l1:List Int):Option (List Int):=(spec_l3Half.f k l1).bind fun t182=>(if 8≤(l1.length:Int) then ((spec_l3Half.f k (l1.drop 8)).bind fun t184=>(spec_l3Times.l0 k l0 0 0 t182 t184 0)) else (none))
theorem spec_l3Times.mono_l:∀ k,(∀ y0 y1 y2 y3 y4 y5,LeO (spec_l3Times.l0 k y0 y1 y2 y3 y4 y5) (spec_l3Times.l0 (k+1) y0 y1 y2 y3 y4 y5))
 | 0=>fun _ _ _ _ _ _ r h=>by simp[spec_l3Times.l0] at h
 | k+1=>by
  have ih0:=spec_l3Times.mono_l k
  ·intro y0 y1 y2 y3 y4 y5
   unfold spec_l3Times.l0
   repeat' first
   | (with_reducible exact ih0 _ _ _ _ _ _)
   | (with_reducible exact spec_l3Bytes.mono _ _ _)
   | (with_reducible exact spec_l3Half.mono _ _)
   | (with_reducible exact LeO.refl _)
   | (with_reducible exact LeO.none _)
   | (with_reducible refine LeO.ite ?_ ?_)
   | (with_reducible refine LeO.bind ?_ (fun _=>?_))
   | exact ih0 _ _ _ _ _ _
   | exact spec_l3Bytes.mono _ _ _
   | exact spec_l3Half.mono _ _
   | exact LeO.none _
   | refine LeO.ite ?_ ?_
   | refine LeO.bind ?_ (fun _=>?_)
theorem spec_l3Times.mono:∀ a0 a1 k,LeO (spec_l3Times.f k a0 a1) (spec_l3Times.f (k+1) a0 a1):=by
 intro a0 a1 k
 have ih0:=spec_l3Times.mono_l k
 unfold spec_l3Times.f
 repeat' first
   | (with_reducible exact ih0 _ _ _ _ _ _)
   | (with_reducible exact spec_l3Bytes.mono _ _ _)
   | (with_reducible exact spec_l3Half.mono _ _)
   | (with_reducible exact LeO.refl _)
   | (with_reducible exact LeO.none _)
   | (with_reducible refine LeO.ite ?_ ?_)
   | (with_reducible refine LeO.bind ?_ (fun _=>?_))
   | exact ih0 _ _ _ _ _ _
   | exact spec_l3Bytes.mono _ _ _
   | exact spec_l3Half.mono _ _
   | exact LeO.none _
   | refine LeO.ite ?_ ?_
   | refine LeO.bind ?_ (fun _=>?_)
set_option maxHeartbeats 8000000 in
set_option maxRecDepth 100000 in
theorem spec_l3Times.calls (k:Nat) (A0:Option Addr) (c0:Nat) (l0:List Int) (A1:Option Addr) (c1:Nat) (l1:List Int) (r:List Int) (w:World) (hr0:Kd.C (Kd.int .u8) w A0 l0.length l0) (hc0:l0.length≤c0) (hr1:Kd.C (Kd.int .u8) w A1 l1.length l1) (hc1:l1.length≤c1) (h:spec_l3Times.f k l0 l1=some r) :
  Calls Try.prog 91 #[.slice A0 l0.length c0,.slice A1 l1.length c1] w fun e w'=>∃ v0_:Value,e=.returned (v0_)∧Kd.R (Kd.int .u8) 5 w' w.heap.size (fun _=>True) v0_ r∧Below w.heap.size w w':=by
 have HR0:=zM hr0
 have HC0:=zM hc0
 clear hr0 hc0
 have HR1:=zM hr1
 have HC1:=zM hc1
 clear hr1 hc1
 have HB:=zM (Below.refl w.heap.size w)
 have H:((spec_l3Half.f k l1).bind fun t182=>(if 8≤(l1.length:Int) then ((spec_l3Half.f k (l1.drop 8)).bind fun t184=>(spec_l3Times.l0 k l0 0 0 t182 t184 0)) else (none)))=some r:=h
 clear h
 replace H:=Option.bind_eq_some_iff.mp H
 obtain⟨t182,A30,H⟩:=H
 replace H:(if 8≤(l1.length:Int) then ((spec_l3Half.f k (l1.drop 8)).bind fun t184=>(spec_l3Times.l0 k l0 0 0 t182 t184 0)) else (none))=some r:=H
 have A3:=zM A30
 clear A30
 by_cases c4:8≤(l1.length:Int)
 ·rw[if_pos c4] at H
  have c4b0:=eq_true c4
  have c4b1:decide (8≤(l1.length:Int))=true:=decide_eq_true c4
  clear c4
  replace H:=Option.bind_eq_some_iff.mp H
  obtain⟨t184,A50,H⟩:=H
  replace H:(spec_l3Times.l0 k l0 0 0 t182 t184 0)=some r:=H
  have A5:=zM A50
  clear A50
  have H':=zM H
  clear H
  go_enter Try.func91,Try.ntmps91
  go_wp2_with (first|((with_reducible refine gate_callee (f:=93) rfl ?_);refine goesL_ (some 12) rfl rfl Try.func93 (by kernel_rfl) rfl #[.slice A1 l1.length c1] rfl zq1 ?_;(with_reducible refine(spec_l3Half.calls k _ _ l1 t182 _ ?side1 ?side2 A3.out).mono ?_);(case side1=>repeat (first|exact HR1.out|(with_reducible refine Kd.C_alloc ?_ _)|(with_reducible refine Kd.C_drewN ?_ _)|(with_reducible refine Kd.C_drew ?_)));(case side2=>exact HC1.out);rintro e w' ⟨rfl,⟨nd,rfl⟩⟩;refine⟨_,rfl,?_⟩;obtain⟨i06,hi06,_,hsz6,_⟩:=info_parts info5;obtain⟨A6,hcut6,hA6,hC6⟩:=print_drop_of (P:=Try.prog) (Value.int .u8) 0 25 5 .i64 Try.underlying25 hi06 hsz6 A1 c1 l1 8 zq8 (of_decide_eq_true zq6) HC1.out;have HR183:=zM (Kd.C_of_reads (h1:=fun _=>rfl) (hA6 _ (Kd.reads_of_C HR1.out)));have HC183:=zM hC6;clear hA6 hC6 hi06 hsz6)|((with_reducible refine gate_callee (f:=93) rfl ?_);refine goesL_ (some 15) rfl rfl Try.func93 (by kernel_rfl) rfl #[.slice A6 (l1.drop 8).length (c1 - 8)] rfl (by(try simp only[List.map_toArray,List.map_cons,List.map_nil]);first|done|(rw[show (l1.drop 8).length=(l1.length - 8) from List.length_drop] <;> rfl)|rfl|(simp only[List.length_drop,List.length_take];rfl)) ?_;(with_reducible refine(spec_l3Half.calls k _ _ (l1.drop 8) t184 _ ?side1 ?side2 A5.out).mono ?_);(case side1=>repeat (first|exact HR183.out|(with_reducible refine Kd.C_alloc ?_ _)|(with_reducible refine Kd.C_drewN ?_ _)|(with_reducible refine Kd.C_drew ?_)));(case side2=>exact HC183.out);rintro e w' ⟨rfl,⟨nd,rfl⟩⟩;refine⟨_,rfl,?_⟩))
  go_loopg [5,6,7,8,9] k (fun kq v5 v6 v7 v8 v9 w'=>∃ (x5_1:Int) (x6_1:Int) (x7_1:Int) (x8_1:Int) (x9_1:Int),v5=.int .u64 x5_1∧v6=.int .u64 x6_1∧v7=.int .u64 x7_1∧v8=.int .u64 x8_1∧v9=.int .i64 x9_1∧Aside0 (spec_l3Times.l0 kq l0 x5_1 x6_1 x7_1 x8_1 x9_1=some r)∧Aside0 (kq≤k)∧Aside0 (Below w.heap.size w w'))
  case atStart=>exact⟨(0),(0),(t182),(t184),(0),zq7,zq7,zq7,zq7,zq7,H',⟨Nat.le_refl _⟩,⟨zq0⟩⟩
  case round=>
   clear H'
   try clear c1
   try clear p2
   try clear c4
   try clear c4b0
   try clear c4b1
   obtain⟨x5_1,x6_1,x7_1,x8_1,x9_1,rfl,rfl,rfl,rfl,rfl,HA,HK1,HB⟩:=hrel
   cases gk with
   | zero=>exact absurd HA.out (by simp[spec_l3Times.l0])
   | succ k1=>
    have H:=HA.out
    clear HA
    simp only[spec_l3Times.l0] at H
    by_cases c7:x9_1 < 128
    ·rw[if_pos c7] at H
     have c7b0:decide (x9_1 < 128)=true:=decide_eq_true c7
     clear c7
     obtain⟨ji8,hji8⟩:∃ j_:Int,(wrap64 (Int.tdiv x9_1 8))=j_:=⟨_,rfl⟩
     replace H:(if 0≤(ji8) then (if (ji8) < (l0.length:Int) then (if 0≤(IntKind.u64.wrap (7 - (IntKind.u64.wrap (Int.tmod x9_1 8)))) then (if (Int.tmod (shr .u8 (rd l0 (ji8)) (IntKind.u64.wrap (7 - (IntKind.u64.wrap (Int.tmod x9_1 8))))) 2)=1 then (if (Int.tmod x8_1 2)=1 then (spec_l3Times.l0 k1 l0 (Go.bits .xor .u64 x5_1 x7_1) (Go.bits .xor .u64 x6_1 x8_1) (Go.bits .xor .u64 (IntKind.u64.wrap (Int.tdiv x7_1 2)) 16212958658533785600) (IntKind.u64.wrap ((IntKind.u64.wrap (Int.tdiv x8_1 2))+(IntKind.u64.wrap ((Int.tmod x7_1 2)*9223372036854775808)))) (wrap64 (x9_1+1))) else (spec_l3Times.l0 k1 l0 (Go.bits .xor .u64 x5_1 x7_1) (Go.bits .xor .u64 x6_1 x8_1) (IntKind.u64.wrap (Int.tdiv x7_1 2)) (IntKind.u64.wrap ((IntKind.u64.wrap (Int.tdiv x8_1 2))+(IntKind.u64.wrap ((Int.tmod x7_1 2)*9223372036854775808)))) (wrap64 (x9_1+1)))) else (if (Int.tmod x8_1 2)=1 then (spec_l3Times.l0 k1 l0 x5_1 x6_1 (Go.bits .xor .u64 (IntKind.u64.wrap (Int.tdiv x7_1 2)) 16212958658533785600) (IntKind.u64.wrap ((IntKind.u64.wrap (Int.tdiv x8_1 2))+(IntKind.u64.wrap ((Int.tmod x7_1 2)*9223372036854775808)))) (wrap64 (x9_1+1))) else (spec_l3Times.l0 k1 l0 x5_1 x6_1 (IntKind.u64.wrap (Int.tdiv x7_1 2)) (IntKind.u64.wrap ((IntKind.u64.wrap (Int.tdiv x8_1 2))+(IntKind.u64.wrap ((Int.tmod x7_1 2)*9223372036854775808)))) (wrap64 (x9_1+1))))) else (none)) else (none)) else (none))=some r:=by first|(rw[hji8] at H;exact H)|(simp only[hji8] at H ⊢;exact H)
     have hji8w:(IntKind.i64.wrap (Int.tdiv x9_1 8))=ji8:=(i64_w _).trans hji8
     by_cases c9:0≤(ji8)
     ·rw[if_pos c9] at H
      have c9b0:decide (0≤(ji8))=true:=decide_eq_true c9
      clear c9
      by_cases c10:(ji8) < (l0.length:Int)
      ·rw[if_pos c10] at H
       have c10b0:decide ((ji8) < (l0.length:Int))=true:=decide_eq_true c10
       clear c10
       obtain⟨ji11,hji11⟩:∃ j_:Int,(IntKind.u64.wrap (7 - (IntKind.u64.wrap (Int.tmod x9_1 8))))=j_:=⟨_,rfl⟩
       replace H:(if 0≤(ji11) then (if (Int.tmod (shr .u8 (rd l0 (ji8)) (ji11)) 2)=1 then (if (Int.tmod x8_1 2)=1 then (spec_l3Times.l0 k1 l0 (Go.bits .xor .u64 x5_1 x7_1) (Go.bits .xor .u64 x6_1 x8_1) (Go.bits .xor .u64 (IntKind.u64.wrap (Int.tdiv x7_1 2)) 16212958658533785600) (IntKind.u64.wrap ((IntKind.u64.wrap (Int.tdiv x8_1 2))+(IntKind.u64.wrap ((Int.tmod x7_1 2)*9223372036854775808)))) (wrap64 (x9_1+1))) else (spec_l3Times.l0 k1 l0 (Go.bits .xor .u64 x5_1 x7_1) (Go.bits .xor .u64 x6_1 x8_1) (IntKind.u64.wrap (Int.tdiv x7_1 2)) (IntKind.u64.wrap ((IntKind.u64.wrap (Int.tdiv x8_1 2))+(IntKind.u64.wrap ((Int.tmod x7_1 2)*9223372036854775808)))) (wrap64 (x9_1+1)))) else (if (Int.tmod x8_1 2)=1 then (spec_l3Times.l0 k1 l0 x5_1 x6_1 (Go.bits .xor .u64 (IntKind.u64.wrap (Int.tdiv x7_1 2)) 16212958658533785600) (IntKind.u64.wrap ((IntKind.u64.wrap (Int.tdiv x8_1 2))+(IntKind.u64.wrap ((Int.tmod x7_1 2)*9223372036854775808)))) (wrap64 (x9_1+1))) else (spec_l3Times.l0 k1 l0 x5_1 x6_1 (IntKind.u64.wrap (Int.tdiv x7_1 2)) (IntKind.u64.wrap ((IntKind.u64.wrap (Int.tdiv x8_1 2))+(IntKind.u64.wrap ((Int.tmod x7_1 2)*9223372036854775808)))) (wrap64 (x9_1+1))))) else (none))=some r:=by first|(rw[hji11] at H;exact H)|(simp only[hji11] at H ⊢;exact H)
       by_cases c12:0≤(ji11)
       ·rw[if_pos c12] at H
        have c12b0:=eq_true c12
        have c12b1:decide (0≤(ji11))=true:=decide_eq_true c12
        clear c12
        obtain⟨ji13,hji13⟩:∃ j_:Int,(shr .u8 (rd l0 (ji8)) (ji11))=j_:=⟨_,rfl⟩
        replace H:(if (Int.tmod (ji13) 2)=1 then (if (Int.tmod x8_1 2)=1 then (spec_l3Times.l0 k1 l0 (Go.bits .xor .u64 x5_1 x7_1) (Go.bits .xor .u64 x6_1 x8_1) (Go.bits .xor .u64 (IntKind.u64.wrap (Int.tdiv x7_1 2)) 16212958658533785600) (IntKind.u64.wrap ((IntKind.u64.wrap (Int.tdiv x8_1 2))+(IntKind.u64.wrap ((Int.tmod x7_1 2)*9223372036854775808)))) (wrap64 (x9_1+1))) else (spec_l3Times.l0 k1 l0 (Go.bits .xor .u64 x5_1 x7_1) (Go.bits .xor .u64 x6_1 x8_1) (IntKind.u64.wrap (Int.tdiv x7_1 2)) (IntKind.u64.wrap ((IntKind.u64.wrap (Int.tdiv x8_1 2))+(IntKind.u64.wrap ((Int.tmod x7_1 2)*9223372036854775808)))) (wrap64 (x9_1+1)))) else (if (Int.tmod x8_1 2)=1 then (spec_l3Times.l0 k1 l0 x5_1 x6_1 (Go.bits .xor .u64 (IntKind.u64.wrap (Int.tdiv x7_1 2)) 16212958658533785600) (IntKind.u64.wrap ((IntKind.u64.wrap (Int.tdiv x8_1 2))+(IntKind.u64.wrap ((Int.tmod x7_1 2)*9223372036854775808)))) (wrap64 (x9_1+1))) else (spec_l3Times.l0 k1 l0 x5_1 x6_1 (IntKind.u64.wrap (Int.tdiv x7_1 2)) (IntKind.u64.wrap ((IntKind.u64.wrap (Int.tdiv x8_1 2))+(IntKind.u64.wrap ((Int.tmod x7_1 2)*9223372036854775808)))) (wrap64 (x9_1+1)))))=some r:=by first|(rw[hji13] at H;exact H)|(simp only[hji13] at H ⊢;exact H)
        have hji13_:((rd l0 (ji8)) / 2 ^ min (ji11).toNat 8)=ji13:=hji13
        have hji13z:(ji11)≤8→((rd l0 (ji8)) / 2 ^ (ji11).toNat)=ji13:=shr_small hji13
        by_cases c14:(Int.tmod (ji13) 2)=1
        ·rw[if_pos c14] at H
         have c14b0:((Int.tmod (ji13) 2) == 1)=true:=beq_iff_eq.mpr c14
         have c14b1:((Int.tmod (ji13) 2) != 1)=false:=bne_eq_false_iff_eq.mpr c14
         clear c14
         by_cases c15:(Int.tmod x8_1 2)=1
         ·rw[if_pos c15] at H
          have c15b0:((Int.tmod x8_1 2) == 1)=true:=beq_iff_eq.mpr c15
          have c15b1:((Int.tmod x8_1 2) != 1)=false:=bne_eq_false_iff_eq.mpr c15
          clear c15
          have H':=zM H
          clear H
          have p188:0≤((ji8):Int):=of_decide_eq_true zq6
          have q188:(ji8) < (l0.length:Int):=of_decide_eq_true zq6
          obtain⟨ad188,e188,hx188_0⟩:=Kd.at_int HR0.out (ji8) p188 q188
          cases e188
          replace hx188_0:=(HB.out.cell (World.block_lt_of_cell? w _ hx188_0)).trans hx188_0
          replace p188:=eq_true p188
          replace q188:=eq_true q188
          go_wp2
          go_roundg k1
          case measure=>have:=HK1.out;omega
          case rel=>exact⟨(Go.bits .xor .u64 x5_1 x7_1),(Go.bits .xor .u64 x6_1 x8_1),(Go.bits .xor .u64 (IntKind.u64.wrap (Int.tdiv x7_1 2)) 16212958658533785600),(IntKind.u64.wrap ((IntKind.u64.wrap (Int.tdiv x8_1 2))+(IntKind.u64.wrap ((Int.tmod x7_1 2)*9223372036854775808)))),(wrap64 (x9_1+1)),zq7,zq7,zq7,zq7,zq7,H',⟨zq79⟩,⟨zq0⟩⟩
         ·rw[if_neg c15] at H
          have c15b0:((Int.tmod x8_1 2) == 1)=false:=beq_eq_false_iff_ne.mpr c15
          have c15b1:((Int.tmod x8_1 2) != 1)=true:=bne_iff_ne.mpr c15
          have H':=zM H
          clear H
          have p188:0≤((ji8):Int):=of_decide_eq_true zq6
          have q188:(ji8) < (l0.length:Int):=of_decide_eq_true zq6
          obtain⟨ad188,e188,hx188_0⟩:=Kd.at_int HR0.out (ji8) p188 q188
          cases e188
          replace hx188_0:=(HB.out.cell (World.block_lt_of_cell? w _ hx188_0)).trans hx188_0
          replace p188:=eq_true p188
          replace q188:=eq_true q188
          go_wp2
          go_roundg k1
          case measure=>have:=HK1.out;omega
          case rel=>exact⟨(Go.bits .xor .u64 x5_1 x7_1),(Go.bits .xor .u64 x6_1 x8_1),(IntKind.u64.wrap (Int.tdiv x7_1 2)),(IntKind.u64.wrap ((IntKind.u64.wrap (Int.tdiv x8_1 2))+(IntKind.u64.wrap ((Int.tmod x7_1 2)*9223372036854775808)))),(wrap64 (x9_1+1)),zq7,zq7,zq7,zq7,zq7,H',⟨zq79⟩,⟨zq0⟩⟩
        ·rw[if_neg c14] at H
         have c14b0:((Int.tmod (ji13) 2) == 1)=false:=beq_eq_false_iff_ne.mpr c14
         have c14b1:((Int.tmod (ji13) 2) != 1)=true:=bne_iff_ne.mpr c14
         by_cases c16:(Int.tmod x8_1 2)=1
         ·rw[if_pos c16] at H
          have c16b0:((Int.tmod x8_1 2) == 1)=true:=beq_iff_eq.mpr c16
          have c16b1:((Int.tmod x8_1 2) != 1)=false:=bne_eq_false_iff_eq.mpr c16
          clear c16
          have H':=zM H
          clear H
          have p188:0≤((ji8):Int):=of_decide_eq_true zq6
          have q188:(ji8) < (l0.length:Int):=of_decide_eq_true zq6
          obtain⟨ad188,e188,hx188_0⟩:=Kd.at_int HR0.out (ji8) p188 q188
          cases e188
          replace hx188_0:=(HB.out.cell (World.block_lt_of_cell? w _ hx188_0)).trans hx188_0
          replace p188:=eq_true p188
          replace q188:=eq_true q188
          go_wp2
          go_roundg k1
          case measure=>have:=HK1.out;omega
          case rel=>exact⟨(x5_1),(x6_1),(Go.bits .xor .u64 (IntKind.u64.wrap (Int.tdiv x7_1 2)) 16212958658533785600),(IntKind.u64.wrap ((IntKind.u64.wrap (Int.tdiv x8_1 2))+(IntKind.u64.wrap ((Int.tmod x7_1 2)*9223372036854775808)))),(wrap64 (x9_1+1)),zq7,zq7,zq7,zq7,zq7,H',⟨zq79⟩,⟨zq0⟩⟩
         ·rw[if_neg c16] at H
          have c16b0:((Int.tmod x8_1 2) == 1)=false:=beq_eq_false_iff_ne.mpr c16
          have c16b1:((Int.tmod x8_1 2) != 1)=true:=bne_iff_ne.mpr c16
          have H':=zM H
          clear H
          have p188:0≤((ji8):Int):=of_decide_eq_true zq6
          have q188:(ji8) < (l0.length:Int):=of_decide_eq_true zq6
          obtain⟨ad188,e188,hx188_0⟩:=Kd.at_int HR0.out (ji8) p188 q188
          cases e188
          replace hx188_0:=(HB.out.cell (World.block_lt_of_cell? w _ hx188_0)).trans hx188_0
          replace p188:=eq_true p188
          replace q188:=eq_true q188
          go_wp2
          go_roundg k1
          case measure=>have:=HK1.out;omega
          case rel=>exact⟨(x5_1),(x6_1),(IntKind.u64.wrap (Int.tdiv x7_1 2)),(IntKind.u64.wrap ((IntKind.u64.wrap (Int.tdiv x8_1 2))+(IntKind.u64.wrap ((Int.tmod x7_1 2)*9223372036854775808)))),(wrap64 (x9_1+1)),zq7,zq7,zq7,zq7,zq7,H',⟨zq79⟩,⟨zq0⟩⟩
       ·rw[if_neg c12] at H
        exact absurd H zq73
      ·rw[if_neg c10] at H
       exact absurd H zq73
     ·rw[if_neg c9] at H
      exact absurd H zq73
    ·rw[if_neg c7] at H
     have c7b0:decide (x9_1 < 128)=false:=decide_eq_false c7
     clear c7
     replace H:=Option.bind_eq_some_iff.mp H
     obtain⟨t185,A170,H⟩:=H
     replace H:(some t185)=some r:=H
     have A17:=zM A170
     clear A170
     obtain rfl:=Option.some.inj H
     go_wp2_with (first|((with_reducible refine gate_callee (f:=94) rfl ?_);refine goesL_ (some 54) rfl rfl Try.func94 (by kernel_rfl) rfl #[.int .u64 x5_1,.int .u64 x6_1] rfl zq1 ?_;(with_reducible refine(spec_l3Bytes.calls k1 x5_1 x6_1 t185 _ A17.out).mono ?_);rintro e w18 ⟨v186,rfl,ho0,hb⟩;refine⟨_,rfl,?_⟩;have n0_:=zM (Kd.R_lower ho0 (below_size zq0));have n1_:=zM (below_step zq0 hb);clear HB;have HO187:=n0_;have HB:=n1_;clear n0_ n1_;(try clear hb);(try clear hb2);(try clear hk);(try clear hi);(try clear ho0)))
     go_ret
     exact⟨_,zq3,by(with_reducible repeat (first|apply Kd.R_alloc|apply Kd.R_drewN|apply Kd.R_drew));exact HO187.out,zq0⟩
 ·rw[if_neg c4] at H
  exact absurd H zq73
end Go.Proofs.Ytdbanjdnjhflcaa.All
