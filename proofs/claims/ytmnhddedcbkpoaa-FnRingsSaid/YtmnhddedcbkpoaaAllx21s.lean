-- Laid by wip/shake.py of this repo out of this claim's texts. Not trusted: Lean checks it.
import Derived.Test.YtmnhddedcbkpoaaAb0s
import Derived.Test.YtmnhddedcbkpoaaBytes
import Derived.Test.YtmnhddedcbkpoaaAllx6s
section
namespace Go.Proofs.Ytmnhddedcbkpoaa.All
open Go.Proofs.YtmnhddedcbkpoaaW.PrintWords.Aside0 renaming mk→zM
open Go.RowKit Go.Proofs.YtmnhddedcbkpoaaW.PrintWords Go.Proofs.YtmnhddedcbkpoaaW.PrintLast Go.Proofs.YtmnhddedcbkpoaaW.PrintMore
attribute [local go_sem] max2_int min2_int max_two min_two max_three min_three max_four min_four
set_option linter.unusedVariables false
set_option linter.unusedSimpArgs false
def spec_l1Pick.f (s0_0:List Int) (s0_1:Int) (l1:List Int):Option (Int × Int):=(spec_l1Next.f s0_0 s0_1 (l1.length:Int)).bind fun bt105=>(if 0≤bt105.1 then (if bt105.1 < (l1.length:Int) then (some (rd l1 bt105.1,bt105.2)) else (none)) else (none))
set_option maxHeartbeats 8000000 in
set_option maxRecDepth 100000 in
theorem spec_l1Pick.calls (g:Nat) (s0_0:List Int) (s0_1:Int) (A1:Option Addr) (c1:Nat) (l1:List Int) (r1:Int) (r2:Int) (w0 w:World) (hI:IsS112 w0 w g s0_0 s0_1) (hB:Below w0.heap.size w0 w) (hr1:Kd.C (Kd.int .i64) w A1 l1.length l1) (hc1:l1.length≤c1) (hf1:∀ ad,A1=some ad→0 < l1.length→ad.block≠g) (h:spec_l1Pick.f s0_0 s0_1 l1=some (r1,r2)) :
  Calls Try.prog 63 #[.pointer (some ⟨g,0,none⟩),.slice A1 l1.length c1] w fun e w'=>e=.returned (.int .i64 r1)∧IsS112 w0 w' g s0_0 r2∧Below w0.heap.size w0 w'∧KeepBut w w' g none:=by
 have HR1:=zM hr1
 have HC1:=zM hc1
 clear hr1 hc1
 have HI0:=zM hI
 have HK:=zM (KeepBut.refl w g none)
 have HL:=zM hB.size
 clear hI
 have HW0:=zM hB.size
 have HB:=zM hB
 clear hB
 have H:((spec_l1Next.f s0_0 s0_1 (l1.length:Int)).bind fun bt105=>(if 0≤bt105.1 then (if bt105.1 < (l1.length:Int) then (some (rd l1 bt105.1,bt105.2)) else (none)) else (none)))=some (r1,r2):=h
 clear h
 replace H:=Option.bind_eq_some_iff.mp H
 obtain⟨⟨t105,t106⟩,A30,H⟩:=H
 replace H:(if 0≤t105 then (if t105 < (l1.length:Int) then (some (rd l1 t105,t106)) else (none)) else (none))=some (r1,r2):=H
 have A3:=zM A30
 clear A30
 by_cases c4:0≤t105
 ·rw[if_pos c4] at H
  have c4b0:decide (0≤t105)=true:=decide_eq_true c4
  clear c4
  by_cases c5:t105 < (l1.length:Int)
  ·rw[if_pos c5] at H
   have c5b0:decide (t105 < (l1.length:Int))=true:=decide_eq_true c5
   clear c5
   simp only[Option.some.injEq,Prod.mk.injEq] at H
   obtain⟨rfl,rfl⟩:=H
   go_enter Try.func63,Try.ntmps63
   go_wp2_with (first|((with_reducible refine gate_callee (f:=95) rfl ?_);refine goesL_ (some 9) rfl rfl Try.func95 (by kernel_rfl) rfl #[.pointer (some ⟨g,0,none⟩),.int .i64 (l1.length:Int)] rfl zq5 ?_;(with_reducible refine(spec_l1Next.calls g s0_0 s0_1 (l1.length:Int) t105 t106 w0 _ ?side1 ?side2 A3.out).mono ?_);(case side1=>exact zq32);(case side2=>exact zq30);rintro e w6 ⟨rfl,hi,hb,hk⟩;refine⟨_,rfl,?_⟩;have n0_:=zM (KeepBut.trans zq13 hk (.inl rfl));have n1_:=zM (hb);have n2_:=zM (hi);clear HK;clear HB;clear HI0;have HK:=n0_;have HB:=n1_;have HI0:=n2_;clear n0_ n1_ n2_;(try clear hb);(try clear hb2);(try clear hk);(try clear hi);have p107:0≤(t105:Int):=of_decide_eq_true zq23;have q107:t105 < (l1.length:Int):=of_decide_eq_true zq23;obtain⟨ad107,e107,hx107_0⟩:=Kd.at_int HR1.out t105 p107 q107;cases e107;replace hx107_0:=keep_cell HK.out hx107_0 (by first|(rw[add_block];exact hf1 _ rfl zq21)|exact hf1 _ rfl zq21|exact hf1 ad107 rfl zq21);replace p107:=eq_true p107;replace q107:=eq_true q107))
   go_ret
   exact⟨zq10,zq32,zq30,zq13⟩
  ·rw[if_neg c5] at H
   exact absurd H zq58
 ·rw[if_neg c4] at H
  exact absurd H zq58
end Go.Proofs.Ytmnhddedcbkpoaa.All
end
section
namespace Go.Proofs.Ytmnhddedcbkpoaa.All
open Go.Proofs.YtmnhddedcbkpoaaW.PrintWords.Aside0 renaming mk→zM
open Go.RowKit Go.Proofs.YtmnhddedcbkpoaaW.PrintWords Go.Proofs.YtmnhddedcbkpoaaW.PrintLast Go.Proofs.YtmnhddedcbkpoaaW.PrintMore
attribute [local go_sem] max2_int min2_int max_two min_two max_three min_three max_four min_four
set_option linter.unusedVariables false
set_option linter.unusedSimpArgs false
def spec_l4Bytes.l0:Nat→Int→List Int→Int→Option (List Int)
 | 0,_,_,_=>none
 | k+1,x0,x3,x4=>if x4 < 16 then (if x3.length < 140737488355328 then (spec_l4Bytes.l0 k x0 (x3 ++ [(wrap64 ((wrap64 (x0*37))+(wrap64 (x4*11)))) % 256]) (wrap64 (x4+1))) else (none)) else (some x3)
def spec_l4Bytes.f (k:Nat) (a0:Int):Option (List Int):=spec_l4Bytes.l0 k a0 (([]:List Int)) 0
theorem spec_l4Bytes.mono_l:∀ k,(∀ y0 y1 y2,LeO (spec_l4Bytes.l0 k y0 y1 y2) (spec_l4Bytes.l0 (k+1) y0 y1 y2))
 | 0=>fun _ _ _ r h=>by simp[spec_l4Bytes.l0] at h
 | k+1=>by
  have ih0:=spec_l4Bytes.mono_l k
  ·intro y0 y1 y2
   unfold spec_l4Bytes.l0
   repeat' first
   | (with_reducible exact ih0 _ _ _)
   | (with_reducible exact LeO.refl _)
   | (with_reducible exact LeO.none _)
   | (with_reducible refine LeO.ite ?_ ?_)
   | (with_reducible refine LeO.bind ?_ (fun _=>?_))
   | exact ih0 _ _ _
   | exact LeO.none _
   | refine LeO.ite ?_ ?_
   | refine LeO.bind ?_ (fun _=>?_)
theorem spec_l4Bytes.mono:∀ a0 k,LeO (spec_l4Bytes.f k a0) (spec_l4Bytes.f (k+1) a0):=by
 intro a0 k
 have ih0:=spec_l4Bytes.mono_l k
 unfold spec_l4Bytes.f
 repeat' first
   | (with_reducible exact ih0 _ _ _)
   | (with_reducible exact LeO.refl _)
   | (with_reducible exact LeO.none _)
   | (with_reducible refine LeO.ite ?_ ?_)
   | (with_reducible refine LeO.bind ?_ (fun _=>?_))
   | exact ih0 _ _ _
   | exact LeO.none _
   | refine LeO.ite ?_ ?_
   | refine LeO.bind ?_ (fun _=>?_)
set_option maxHeartbeats 8000000 in
set_option maxRecDepth 100000 in
theorem spec_l4Bytes.calls (k:Nat) (a0:Int) (r:List Int) (w:World) (h:spec_l4Bytes.f k a0=some r) :
  Calls Try.prog 94 #[.int .i64 a0] w fun e w'=>∃ v0_:Value,e=.returned (v0_)∧Kd.R (Kd.int .u8) 5 w' w.heap.size (fun _=>True) v0_ r∧Below w.heap.size w w':=by
 have HB:=zM (Below.refl w.heap.size w)
 have H:(spec_l4Bytes.l0 k a0 (([]:List Int)) 0)=some r:=h
 clear h
 obtain⟨y108,hy108⟩:∃ y_:List Int,y_=(([]:List Int)):=⟨_,rfl⟩
 replace H:(spec_l4Bytes.l0 k a0 y108 0)=some r:=by first|(rw[hy108];with_reducible exact H)|(have H2_:=(Option.bind_some _ _).symm.trans H;rw[hy108];with_reducible exact H2_)|(have H2_:=(Option.bind_some _ _).symm.trans H;with_reducible exact H2_)|with_reducible exact H|(rw[hy108];exact H)|exact H
 have Ny108:=zM hy108
 clear hy108
 have H':=zM H
 clear H
 go_enter Try.func94,Try.ntmps94
 go_wp2_with (first|((with_reducible refine gate_dst (N:=5) rfl ?_);refine Kd.R_lit (Kd.int .u8) _ 5 ?hg (N:=5) ?hd (xs:=([]:List Int)) (inner:=[]) (ok:=fun _=>True) (okp:=fun _=>True) ?hr ?hp (fun _ hk=>hk) trivial (Below.refl _ _) (Nat.le_refl _) zq58 ?_;(case hd=>rfl);(case hg=>rfl);(case hr=>first|(go_simp;done)|(go_simp;rfl));(case hp=>exact(Reps.none _ _));intro v109 w2 ho3 hb hg_ hnew_;clear hg_ hnew_;(first|rw[← Ny108.out] at ho3|(simp only[Int.reduceToNat] at ho3;rw[← Ny108.out] at ho3));have n0_:=zM (Kd.R_lower ho3 (below_size zq0));have n1_:=zM (below_step zq0 hb);clear HB;have HO110:=n0_;have HB:=n1_;clear n0_ n1_;clear hb ho3))
 go_loopg [3,4] k (fun kq v3 v4 w'=>∃ (x3_1:List Int) (x4_1:Int),v4=.int .i64 x4_1∧Aside0 (spec_l4Bytes.l0 kq a0 x3_1 x4_1=some r)∧Aside0 (kq≤k)∧Aside0 (Kd.R (Kd.int .u8) 5 w' w.heap.size (fun _=>True) v3 x3_1)∧Aside0 (Below w.heap.size w w'))
 case atStart=>exact⟨(y108),(0),zq53,H',⟨Nat.le_refl _⟩,⟨by(with_reducible repeat (first|apply Kd.R_alloc|apply Kd.R_drewN|apply Kd.R_drew));exact HO110.out⟩,⟨zq0⟩⟩
 case round=>
  clear H'
  try clear p2
  obtain⟨x3_1,x4_1,rfl,HA,HK1,HO_3,HB⟩:=hrel
  cases gk with
  | zero=>exact absurd HA.out (by simp[spec_l4Bytes.l0])
  | succ k1=>
   have H:=HA.out
   clear HA
   simp only[spec_l4Bytes.l0] at H
   by_cases c4:x4_1 < 16
   ·rw[if_pos c4] at H
    have c4b0:decide (x4_1 < 16)=true:=decide_eq_true c4
    clear c4
    by_cases c5:x3_1.length < 140737488355328
    ·rw[if_pos c5] at H
     have LMc5:=zM c5
     clear c5
     obtain⟨y111,hy111⟩:∃ y_:List Int,y_=(x3_1 ++ [(wrap64 ((wrap64 (a0*37))+(wrap64 (x4_1*11)))) % 256]):=⟨_,rfl⟩
     replace H:(spec_l4Bytes.l0 k1 a0 y111 (wrap64 (x4_1+1)))=some r:=by first|(rw[hy111];with_reducible exact H)|(have H2_:=(Option.bind_some _ _).symm.trans H;rw[hy111];with_reducible exact H2_)|(have H2_:=(Option.bind_some _ _).symm.trans H;with_reducible exact H2_)|with_reducible exact H|(rw[hy111];exact H)|exact H
     have Ny111:=zM hy111
     clear hy111
     have H':=zM H
     clear H
     go_wp2_with (first|((with_reducible refine gate_builtin (b:=.append) (xs:=#[.tmp 10,.tmp 17]) rfl ?_);at_builtin;refine Kd.R_append (Kd.int .u8) (w0:=w) w.heap.size rfl (.tmp 10) (.tmp 17) 22 5 (.int .u8 0) 1 rfl Try.underlying22 info5 rfl zq17 zq21 u3 x3_1 ((wrap64 ((wrap64 (a0*37))+(wrap64 (x4_1*11)))) % 256) [.int .u8 ((wrap64 ((wrap64 (a0*37))+(wrap64 (x4_1*11)))) % 256)] (fun _=>True) (fun _=>False) rfl rfl ?aP (fun _ hk=>hk.elim) ?aF ?aO ?aB ?aS ?aL ?_;(case aP=>exact rfl);(case aB=>exact zq0);(case aF=>exact(fun _ _=>trivial));(case aO=>exact(by(with_reducible repeat (first|apply Kd.R_alloc|apply Kd.R_drewN|apply Kd.R_drew));exact HO_3.out));(case aS=>exact(below_size zq0));(case aL=>have:=LMc5.out;omega);intro v112 w6 ho hb hg hat;rw[← Ny111.out] at ho;have n0_:=zM (hb);have n1_:=zM (ho);clear HB;clear HO_3;have HB:=n0_;have HO113:=n1_;clear n0_ n1_;clear ho hb hg hat))
     go_roundg k1
     case measure=>have:=HK1.out;omega
     case rel=>exact⟨(y111),(wrap64 (x4_1+1)),zq53,H',⟨by have:=HK1.out;omega⟩,⟨by(with_reducible repeat (first|apply Kd.R_alloc|apply Kd.R_drewN|apply Kd.R_drew));exact HO113.out⟩,⟨zq0⟩⟩
    ·rw[if_neg c5] at H
     exact absurd H zq58
   ·rw[if_neg c4] at H
    have c4b0:decide (x4_1 < 16)=false:=decide_eq_false c4
    clear c4
    obtain rfl:=Option.some.inj H
    go_wp2
    go_ret
    exact⟨_,zq10,by(with_reducible repeat (first|apply Kd.R_alloc|apply Kd.R_drewN|apply Kd.R_drew));exact HO_3.out,zq0⟩
end Go.Proofs.Ytmnhddedcbkpoaa.All
end
