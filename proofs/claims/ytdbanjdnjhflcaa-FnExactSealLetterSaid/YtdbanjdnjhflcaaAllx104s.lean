-- Laid by wip/shake.py of this repo out of this claim's texts. Not trusted: Lean checks it.
import Derived.Test.YtdbanjdnjhflcaaAb0s
import Derived.Test.YtdbanjdnjhflcaaAlgs
import Derived.Test.YtdbanjdnjhflcaaAllx108s
import Derived.Test.YtdbanjdnjhflcaaAllx96s
set_option linter.unusedSimpArgs false
set_option linter.unusedVariables false
namespace Go.Proofs.Ytdbanjdnjhflcaa.All
open Go.Proofs.YtdbanjdnjhflcaaW.PrintWords.Aside0 renaming mk→zM
open Go.RowKit Go.Proofs.YtdbanjdnjhflcaaW.PrintWords Go.Proofs.YtdbanjdnjhflcaaW.PrintLast Go.Proofs.YtdbanjdnjhflcaaW.PrintMore
attribute [local go_sem] max2_int min2_int max_two min_two max_three min_three max_four min_four
def spec_l3Hash.l0:Nat→List Int→List Int→List Int→Int→Option (List Int)
 | 0,_,_,_,_=>none
 | k+1,x0,x1,x5,x6=>if (wrap64 (x6+16))≤(x1.length:Int) then (if 0≤x6 then (if x6≤(wrap64 (x6+16)) then ((spec_l1Xor.f k x5 ((x1.take ((wrap64 (x6+16)):Int).toNat).drop (x6:Int).toNat)).bind fun t193=>((spec_l3Times.f k t193 x0).bind fun t196=>(spec_l3Hash.l0 k x0 x1 t196 (wrap64 (x6+16))))) else (none)) else (none)) else (some x5)
def spec_l3Hash.f (k:Nat) (l0:List Int) (l1:List Int):Option (List Int):=if 16≤281474976710656 then (spec_l3Hash.l0 k l0 l1 (List.replicate 16 0) 0) else (none)
theorem spec_l3Hash.mono_l:∀ k,(∀ y0 y1 y2 y3,LeO (spec_l3Hash.l0 k y0 y1 y2 y3) (spec_l3Hash.l0 (k+1) y0 y1 y2 y3))
 | 0=>fun _ _ _ _ r h=>by simp[spec_l3Hash.l0] at h
 | k+1=>by
  have ih0:=spec_l3Hash.mono_l k
  ·intro y0 y1 y2 y3
   unfold spec_l3Hash.l0
   repeat' first
   | (with_reducible exact ih0 _ _ _ _)
   | (with_reducible exact spec_l1Xor.mono _ _ _)
   | (with_reducible exact spec_l3Times.mono _ _ _)
   | (with_reducible exact LeO.refl _)
   | (with_reducible exact LeO.none _)
   | (with_reducible refine LeO.ite ?_ ?_)
   | (with_reducible refine LeO.bind ?_ (fun _=>?_))
   | exact ih0 _ _ _ _
   | exact spec_l1Xor.mono _ _ _
   | exact spec_l3Times.mono _ _ _
   | exact LeO.none _
   | refine LeO.ite ?_ ?_
   | refine LeO.bind ?_ (fun _=>?_)
theorem spec_l3Hash.mono:∀ a0 a1 k,LeO (spec_l3Hash.f k a0 a1) (spec_l3Hash.f (k+1) a0 a1):=by
 intro a0 a1 k
 have ih0:=spec_l3Hash.mono_l k
 unfold spec_l3Hash.f
 repeat' first
   | (with_reducible exact ih0 _ _ _ _)
   | (with_reducible exact spec_l1Xor.mono _ _ _)
   | (with_reducible exact spec_l3Times.mono _ _ _)
   | (with_reducible exact LeO.refl _)
   | (with_reducible exact LeO.none _)
   | (with_reducible refine LeO.ite ?_ ?_)
   | (with_reducible refine LeO.bind ?_ (fun _=>?_))
   | exact ih0 _ _ _ _
   | exact spec_l1Xor.mono _ _ _
   | exact spec_l3Times.mono _ _ _
   | exact LeO.none _
   | refine LeO.ite ?_ ?_
   | refine LeO.bind ?_ (fun _=>?_)
set_option maxHeartbeats 8000000 in
set_option maxRecDepth 100000 in
theorem spec_l3Hash.calls (k:Nat) (A0:Option Addr) (c0:Nat) (l0:List Int) (A1:Option Addr) (c1:Nat) (l1:List Int) (r:List Int) (w:World) (hr0:Kd.C (Kd.int .u8) w A0 l0.length l0) (hc0:l0.length≤c0) (hr1:Kd.C (Kd.int .u8) w A1 l1.length l1) (hc1:l1.length≤c1) (h:spec_l3Hash.f k l0 l1=some r) :
  Calls Try.prog 79 #[.slice A0 l0.length c0,.slice A1 l1.length c1] w fun e w'=>∃ v0_:Value,e=.returned (v0_)∧Kd.R (Kd.int .u8) 5 w' w.heap.size (fun _=>True) v0_ r∧Below w.heap.size w w':=by
 have HR0:=zM hr0
 have HC0:=zM hc0
 clear hr0 hc0
 have HR1:=zM hr1
 have HC1:=zM hc1
 clear hr1 hc1
 have HB:=zM (Below.refl w.heap.size w)
 have H:(if 16≤281474976710656 then (spec_l3Hash.l0 k l0 l1 (List.replicate 16 0) 0) else (none))=some r:=h
 clear h
 by_cases c3:16≤281474976710656
 ·rw[if_pos c3] at H
  have c3b0:=eq_true c3
  have c3b1:decide (16≤281474976710656)=true:=decide_eq_true c3
  clear c3
  obtain⟨y189,hy189⟩:∃ y_:List Int,y_=(List.replicate 16 0):=⟨_,rfl⟩
  replace H:(spec_l3Hash.l0 k l0 l1 y189 0)=some r:=by first|(rw[hy189];with_reducible exact H)|(have H2_:=(Option.bind_some _ _).symm.trans H;rw[hy189];with_reducible exact H2_)|(have H2_:=(Option.bind_some _ _).symm.trans H;with_reducible exact H2_)|with_reducible exact H|(rw[hy189];exact H)|exact H
  have Ny189:=zM hy189
  clear hy189
  have H':=zM H
  clear H
  go_enter Try.func79,Try.ntmps79
  go_wp2_with (first|((with_reducible refine gate_dst (N:=7) rfl ?_);refine Kd.R_make (Kd.int .u8) _ 5 rfl (N:=7) rfl 25 _ _ rfl 16 rfl rfl Try.underlying25 (.int .u8 0) 1 info5 rfl zq36 zq8 0 (ok:=fun _=>True) (okp:=fun _=>True) rfl (fun _ hk=>hk) trivial zq8 zq8 (Below.refl _ _) (Nat.le_refl _) ?_;intro v190 w4 ho5 hb hg_ hnew_;clear hg_ hnew_;(first|rw[← Ny189.out] at ho5|(simp only[Int.reduceToNat] at ho5;rw[← Ny189.out] at ho5));have n0_:=zM (Kd.R_lower ho5 (below_size zq0));have n1_:=zM (below_step zq0 hb);clear HB;have HO191:=n0_;have HB:=n1_;clear n0_ n1_;clear hb ho5))
  go_loopg [5,6] k (fun kq v5 v6 w'=>∃ (x5_1:List Int) (x6_1:Int),v6=.int .i64 x6_1∧Aside0 (spec_l3Hash.l0 kq l0 l1 x5_1 x6_1=some r)∧Aside0 (kq≤k)∧Aside0 (Kd.R (Kd.int .u8) 5 w' w.heap.size (fun _=>True) v5 x5_1)∧Aside0 (Below w.heap.size w w'))
  case atStart=>exact⟨(y189),(0),zq7,H',⟨Nat.le_refl _⟩,⟨by(with_reducible repeat (first|apply Kd.R_alloc|apply Kd.R_drewN|apply Kd.R_drew));exact HO191.out⟩,⟨zq0⟩⟩
  case round=>
   clear H'
   try clear c1
   try clear p2
   try clear c3
   try clear c3b0
   try clear c3b1
   obtain⟨x5_1,x6_1,rfl,HA,HK1,HO_5,HB⟩:=hrel
   cases gk with
   | zero=>exact absurd HA.out (by simp[spec_l3Hash.l0])
   | succ k1=>
    have H:=HA.out
    clear HA
    simp only[spec_l3Hash.l0] at H
    by_cases c6:(wrap64 (x6_1+16))≤(l1.length:Int)
    ·rw[if_pos c6] at H
     have c6b0:decide ((wrap64 (x6_1+16))≤(l1.length:Int))=true:=decide_eq_true c6
     clear c6
     by_cases c7:0≤x6_1
     ·rw[if_pos c7] at H
      have c7b0:=eq_true c7
      have c7b1:decide (0≤x6_1)=true:=decide_eq_true c7
      clear c7
      by_cases c8:x6_1≤(wrap64 (x6_1+16))
      ·rw[if_pos c8] at H
       have c8b0:=eq_true c8
       have c8b1:decide (x6_1≤(wrap64 (x6_1+16)))=true:=decide_eq_true c8
       have c9b0:=eq_true (of_decide_eq_true zq6:(wrap64 (x6_1+16))≤(l1.length:Int))
       replace H:=Option.bind_eq_some_iff.mp H
       obtain⟨t193,A100,H⟩:=H
       replace H:((spec_l3Times.f k1 t193 l0).bind fun t196=>(spec_l3Hash.l0 k1 l0 l1 t196 (wrap64 (x6_1+16))))=some r:=H
       have A10:=zM A100
       clear A100
       replace H:=Option.bind_eq_some_iff.mp H
       obtain⟨t196,A110,H⟩:=H
       replace H:(spec_l3Hash.l0 k1 l0 l1 t196 (wrap64 (x6_1+16)))=some r:=H
       have A11:=zM A110
       clear A110
       have H':=zM H
       clear H
       obtain⟨i012,hi012,_,hsz12,_⟩:=info_parts info5
       obtain⟨A12,hcut12,hA12,hC12⟩:=print_mid_of (P:=Try.prog) (Value.int .u8) 0 25 5 .i64 .i64 Try.underlying25 hi012 hsz12 A1 c1 l1 x6_1 (wrap64 (x6_1+16)) (of_decide_eq_true zq6) (by first|omega|exact of_decide_eq_true zq6) (of_decide_eq_true zq6) HC1.out
       have HR192:=zM (Kd.C_of_reads (h1:=fun _=>rfl) (hA12 _ (Kd.reads_of_C HR1.out)))
       have HC192:=zM hC12
       clear hA12 hC12 hi012 hsz12
       obtain⟨Ao13,co13,eo13⟩:=Kd.R_slice HO_5.out
       subst eo13
       go_wp2_with (first|((with_reducible refine gate_callee (f:=78) rfl ?_);refine goesL_ (some 21) rfl rfl Try.func78 (by kernel_rfl) rfl #[.slice Ao13 x5_1.length co13,.slice A12 ((l1.take ((wrap64 (x6_1+16)):Int).toNat).drop (x6_1:Int).toNat).length (c1 - x6_1.toNat)] rfl (by(try simp only[List.map_toArray,List.map_cons,List.map_nil]);first|done|(rw[show ((l1.take ((wrap64 (x6_1+16)):Int).toNat).drop (x6_1:Int).toNat).length=((wrap64 (x6_1+16)).toNat - x6_1.toNat) from (by rw[List.length_drop,List.length_take];have h_:((wrap64 (x6_1+16)):Int)≤(l1.length:Int):=of_decide_eq_true zq6;omega)] <;> rfl)|rfl|(simp only[List.length_drop,List.length_take];rfl)) ?_;(with_reducible refine(spec_l1Xor.calls k1 _ _ x5_1 _ _ ((l1.take ((wrap64 (x6_1+16)):Int).toNat).drop (x6_1:Int).toNat) t193 _ ?side1 ?side2 ?side3 ?side4 A10.out).mono ?_);(case side1=>repeat (first|exact(Kd.R_reads' HO_5.out).2.2|(with_reducible refine Kd.C_alloc ?_ _)|(with_reducible refine Kd.C_drewN ?_ _)|(with_reducible refine Kd.C_drew ?_)));(case side2=>exact(Kd.R_reads' HO_5.out).2.1);(case side3=>repeat (first|exact(Kd.C_below HR192.out HB.out)|(with_reducible refine Kd.C_alloc ?_ _)|(with_reducible refine Kd.C_drewN ?_ _)|(with_reducible refine Kd.C_drew ?_)));(case side4=>exact HC192.out);rintro e w14 ⟨v194,rfl,ho0,hb⟩;refine⟨_,rfl,?_⟩;have n0_:=zM (Kd.R_elder' zq61 (Kd.R_base ho0) hb);have n1_:=zM (Kd.R_lower (Kd.R_new' ho0 (Kd.R_lt zq61)) (below_size zq0));have n2_:=zM (below_step zq0 hb);clear HO_5;clear HB;have HO_5:=n0_;have HO195:=n1_;have HB:=n2_;clear n0_ n1_ n2_;(try clear hb);(try clear hb2);(try clear hk);(try clear hi);(try clear ho0);obtain⟨Ao15,co15,eo15⟩:=Kd.R_slice HO195.out;subst eo15)|((with_reducible refine gate_callee (f:=91) rfl ?_);refine goesL_ (some 23) rfl rfl Try.func91 (by kernel_rfl) rfl #[.slice Ao15 t193.length co15,.slice A0 l0.length c0] rfl zq1 ?_;(with_reducible refine(spec_l3Times.calls k1 _ _ t193 _ _ l0 t196 _ ?side1 ?side2 ?side3 ?side4 A11.out).mono ?_);(case side1=>repeat (first|exact(Kd.R_reads' HO195.out).2.2|(with_reducible refine Kd.C_alloc ?_ _)|(with_reducible refine Kd.C_drewN ?_ _)|(with_reducible refine Kd.C_drew ?_)));(case side2=>exact(Kd.R_reads' HO195.out).2.1);(case side3=>repeat (first|exact(Kd.C_below HR0.out HB.out)|(with_reducible refine Kd.C_alloc ?_ _)|(with_reducible refine Kd.C_drewN ?_ _)|(with_reducible refine Kd.C_drew ?_)));(case side4=>exact HC0.out);rintro e w16 ⟨v197,rfl,ho0,hb⟩;refine⟨_,rfl,?_⟩;have n0_:=zM (Kd.R_elder' zq61 (Kd.R_base ho0) hb);have n1_:=zM (Kd.R_elder' zq165 (Kd.R_base ho0) hb);have n2_:=zM (Kd.R_lower (Kd.R_new' (Kd.R_new' ho0 (Kd.R_lt zq61)) (Kd.R_lt zq165)) (below_size zq0));have n3_:=zM (below_step zq0 hb);clear HO_5;clear HO195;clear HB;have HO_5:=n0_;have HO195:=n1_;have HO198:=n2_;have HB:=n3_;clear n0_ n1_ n2_ n3_;(try clear hb);(try clear hb2);(try clear hk);(try clear hi);(try clear ho0)))
       go_roundg k1
       case measure=>have:=HK1.out;omega
       case rel=>exact⟨(t196),(wrap64 (x6_1+16)),zq7,H',⟨zq79⟩,⟨by(with_reducible repeat (first|apply Kd.R_alloc|apply Kd.R_drewN|apply Kd.R_drew));exact Kd.R_mono HO198.out (fun _ hk=>trivial)⟩,⟨zq0⟩⟩
      ·rw[if_neg c8] at H
       exact absurd H zq73
     ·rw[if_neg c7] at H
      exact absurd H zq73
    ·rw[if_neg c6] at H
     have c6b0:decide ((wrap64 (x6_1+16))≤(l1.length:Int))=false:=decide_eq_false c6
     clear c6
     obtain rfl:=Option.some.inj H
     go_wp2
     go_ret
     exact⟨_,zq3,zq61,zq0⟩
 ·rw[if_neg c3] at H
  exact absurd H zq73
end Go.Proofs.Ytdbanjdnjhflcaa.All
