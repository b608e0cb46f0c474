-- Laid by wip/shake.py of this repo out of this claim's texts. Not trusted: Lean checks it.
import Derived.Test.YtmnhddedcbkpoaaAb0s
import Derived.Test.YtmnhddedcbkpoaaBytes
import Derived.Test.YtmnhddedcbkpoaaAllx6s
namespace Go.Proofs.Ytmnhddedcbkpoaa.All
open Go.Proofs.YtmnhddedcbkpoaaW.PrintWords.Aside0 renaming mk→zM
open Go.RowKit Go.Proofs.YtmnhddedcbkpoaaW.PrintWords Go.Proofs.YtmnhddedcbkpoaaW.PrintLast Go.Proofs.YtmnhddedcbkpoaaW.PrintMore
attribute [local go_sem] max2_int min2_int max_two min_two max_three min_three max_four min_four
set_option linter.unusedVariables false
set_option linter.unusedSimpArgs false
def spec_l1Some.l0:Nat→Int→List Int→List Int→Int→Option (List Int × Int)
 | 0,_,_,_,_=>none
 | k+1,x1,x5,x1000,x1001=>if x1 > 0 then ((spec_l1Next.f x1000 x1001 256).bind fun bt198=>(if x5.length < 140737488355328 then (spec_l1Some.l0 k (wrap64 (x1 - 1)) (x5 ++ [(bt198.1) % 256]) x1000 bt198.2) else (none))) else (some (x5,x1001))
def spec_l1Some.f (k:Nat) (s0_0:List Int) (s0_1:Int) (a1:Int):Option (List Int × Int):=spec_l1Some.l0 k a1 (([]:List Int)) s0_0 s0_1
theorem spec_l1Some.mono_l:∀ k,(∀ y0 y1 y2 y3,LeO (spec_l1Some.l0 k y0 y1 y2 y3) (spec_l1Some.l0 (k+1) y0 y1 y2 y3))
 | 0=>fun _ _ _ _ r h=>by simp[spec_l1Some.l0] at h
 | k+1=>by
  have ih0:=spec_l1Some.mono_l k
  ·intro y0 y1 y2 y3
   unfold spec_l1Some.l0
   repeat' first
   | (with_reducible exact ih0 _ _ _ _)
   | (with_reducible exact LeO.refl _)
   | (with_reducible exact LeO.none _)
   | (with_reducible refine LeO.ite ?_ ?_)
   | (with_reducible refine LeO.bind ?_ (fun _=>?_))
   | exact ih0 _ _ _ _
   | exact LeO.none _
   | refine LeO.ite ?_ ?_
   | refine LeO.bind ?_ (fun _=>?_)
theorem spec_l1Some.mono:∀ a0 a1 a2 k,LeO (spec_l1Some.f k a0 a1 a2) (spec_l1Some.f (k+1) a0 a1 a2):=by
 intro a0 a1 a2 k
 have ih0:=spec_l1Some.mono_l k
 unfold spec_l1Some.f
 repeat' first
   | (with_reducible exact ih0 _ _ _ _)
   | (with_reducible exact LeO.refl _)
   | (with_reducible exact LeO.none _)
   | (with_reducible refine LeO.ite ?_ ?_)
   | (with_reducible refine LeO.bind ?_ (fun _=>?_))
   | exact ih0 _ _ _ _
   | exact LeO.none _
   | refine LeO.ite ?_ ?_
   | refine LeO.bind ?_ (fun _=>?_)
set_option maxHeartbeats 8000000 in
set_option maxRecDepth 100000 in
theorem spec_l1Some.calls (k:Nat) (g:Nat) (s0_0:List Int) (s0_1:Int) (a1:Int) (r1:List Int) (r2:Int) (w0 w:World) (hI:IsS112 w0 w g s0_0 s0_1) (hB:Below w0.heap.size w0 w) (h:spec_l1Some.f k s0_0 s0_1 a1=some (r1,r2)) :
  Calls Try.prog 96 #[.pointer (some ⟨g,0,none⟩),.int .i64 a1] w fun e w'=>∃ v0_:Value,e=.returned (v0_)∧Kd.R (Kd.int .u8) 5 w' w.heap.size (fun _=>True) v0_ r1∧IsS112 w0 w' g s0_0 r2∧Below w0.heap.size w0 w'∧KeepBut w w' g none:=by
 have HI0:=zM hI
 have HK:=zM (KeepBut.refl w g none)
 have HL:=zM hB.size
 clear hI
 have HW0:=zM hB.size
 have HB:=zM hB
 clear hB
 have H:(spec_l1Some.l0 k a1 (([]:List Int)) s0_0 s0_1)=some (r1,r2):=h
 clear h
 obtain⟨y195,hy195⟩:∃ y_:List Int,y_=(([]:List Int)):=⟨_,rfl⟩
 replace H:(spec_l1Some.l0 k a1 y195 s0_0 s0_1)=some (r1,r2):=by first|(rw[hy195];with_reducible exact H)|(have H2_:=(Option.bind_some _ _).symm.trans H;rw[hy195];with_reducible exact H2_)|(have H2_:=(Option.bind_some _ _).symm.trans H;with_reducible exact H2_)|with_reducible exact H|(rw[hy195];exact H)|exact H
 have Ny195:=zM hy195
 clear hy195
 have H':=zM H
 clear H
 go_enter Try.func96,Try.ntmps96
 go_wp2_with (first|((with_reducible refine gate_dst (N:=6) rfl ?_);refine Kd.R_lit (Kd.int .u8) _ 5 ?hg (N:=6) ?hd (xs:=([]:List Int)) (inner:=[]) (ok:=fun _=>True) (okp:=fun _=>True) ?hr ?hp (fun _ hk=>hk) trivial (Below.refl _ _) (Nat.le_refl _) zq58 ?_;(case hd=>rfl);(case hg=>rfl);(case hr=>first|(go_simp;done)|(go_simp;rfl));(case hp=>exact(Reps.none _ _));intro v196 w3 ho4 hb hg_ hnew_;clear hg_ hnew_;(first|rw[← Ny195.out] at ho4|(simp only[Int.reduceToNat] at ho4;rw[← Ny195.out] at ho4));have n0_:=zM (Kd.R_lower ho4 (keep_size (w:=w) (g:=g) (row:=none) zq13));have n1_:=zM (IsS112.below zq32 hb);have n2_:=zM (KeepBut.trans zq13 (KeepBut.of_below hb g none) (.inl rfl));have n3_:=zM (below_step zq30 hb);clear HI0;clear HK;clear HB;have HO197:=n0_;have HI0:=n1_;have HK:=n2_;have HB:=n3_;clear n0_ n1_ n2_ n3_;clear hb ho4))
 go_loopg [1,5] k (fun kq v1 v5 w'=>∃ (x1_1:Int) (x5_1:List Int) (x1001_1:Int),v1=.int .i64 x1_1∧Aside0 (spec_l1Some.l0 kq x1_1 x5_1 s0_0 x1001_1=some (r1,r2))∧Aside0 (kq≤k)∧Aside0 (Kd.R (Kd.int .u8) 5 w' w.heap.size (fun _=>True) v5 x5_1)∧Aside0 (IsS112 w0 w' g s0_0 x1001_1)∧Aside0 (KeepBut w w' g none)∧Aside0 (Below w0.heap.size w0 w'))
 case atStart=>exact⟨(a1),(y195),(s0_1),zq53,H',⟨Nat.le_refl _⟩,⟨by(with_reducible repeat (first|apply Kd.R_alloc|apply Kd.R_drewN|apply Kd.R_drew));exact HO197.out⟩,⟨zq32⟩,⟨zq13⟩,⟨zq30⟩⟩
 case round=>
  clear H'
  try clear p2
  obtain⟨x1_1,x5_1,x1001_1,rfl,HA,HK1,HO_5,HI0,HK,HB⟩:=hrel
  cases gk with
  | zero=>exact absurd HA.out (by simp[spec_l1Some.l0])
  | succ k1=>
   have H:=HA.out
   clear HA
   simp only[spec_l1Some.l0] at H
   by_cases c5:x1_1 > 0
   ·rw[if_pos c5] at H
    have c5b0:decide (0 < x1_1)=true:=decide_eq_true c5
    clear c5
    replace H:=Option.bind_eq_some_iff.mp H
    obtain⟨⟨t198,t199⟩,A60,H⟩:=H
    replace H:(if x5_1.length < 140737488355328 then (spec_l1Some.l0 k1 (wrap64 (x1_1 - 1)) (x5_1 ++ [(t198) % 256]) s0_0 t199) else (none))=some (r1,r2):=H
    have A6:=zM A60
    clear A60
    by_cases c7:x5_1.length < 140737488355328
    ·rw[if_pos c7] at H
     have LMc7:=zM c7
     clear c7
     obtain⟨y200,hy200⟩:∃ y_:List Int,y_=(x5_1 ++ [(t198) % 256]):=⟨_,rfl⟩
     replace H:(spec_l1Some.l0 k1 (wrap64 (x1_1 - 1)) y200 s0_0 t199)=some (r1,r2):=by first|(rw[hy200];with_reducible exact H)|(have H2_:=(Option.bind_some _ _).symm.trans H;rw[hy200];with_reducible exact H2_)|(have H2_:=(Option.bind_some _ _).symm.trans H;with_reducible exact H2_)|with_reducible exact H|(rw[hy200];exact H)|exact H
     have Ny200:=zM hy200
     clear hy200
     have H':=zM H
     clear H
     go_wp2_with (first|((with_reducible refine gate_callee (f:=95) rfl ?_);refine goesL_ (some 13) rfl rfl Try.func95 (by kernel_rfl) rfl #[.pointer (some ⟨g,0,none⟩),.int .i64 256] rfl zq5 ?_;(with_reducible refine(spec_l1Next.calls g s0_0 x1001_1 256 t198 t199 w0 _ ?side1 ?side2 A6.out).mono ?_);(case side1=>exact zq32);(case side2=>exact zq30);rintro e w8 ⟨rfl,hi,hb,hk⟩;refine⟨_,rfl,?_⟩;have n0_:=zM (Kd.R_mono (Kd.R_keep (IsS112.apart (show IsS112 w0 _ g s0_0 x1001_1 from by repeat (first|(with_reducible first|exact HI0.out|apply IsS112.alloc|apply IsS112.drewN|apply IsS112.drew|apply IsS112.set_1)|exact HI0.out)) (by(with_reducible repeat (first|apply Kd.R_alloc|apply Kd.R_drewN|apply Kd.R_drew));exact HO_5.out) zq17) hk (fun _ h=>h.2)) (fun _ h=>h.1));have n1_:=zM (KeepBut.trans zq13 hk (.inl rfl));have n2_:=zM (hb);have n3_:=zM (hi);clear HO_5;clear HK;clear HB;clear HI0;have HO_5:=n0_;have HK:=n1_;have HB:=n2_;have HI0:=n3_;clear n0_ n1_ n2_ n3_;(try clear hb);(try clear hb2);(try clear hk);(try clear hi))|((with_reducible refine gate_builtin (b:=.append) (xs:=#[.tmp 11,.tmp 15]) rfl ?_);at_builtin;refine Kd.R_append (Kd.int .u8) w.heap.size rfl (.tmp 11) (.tmp 15) 22 5 (.int .u8 0) 1 rfl Try.underlying22 info5 rfl zq17 zq21 u5 x5_1 ((t198) % 256) [.int .u8 ((t198) % 256)] (fun _=>True) (fun _=>False) rfl rfl ?aP (fun _ hk=>hk.elim) ?aF ?aO (Below.refl _ _) ?aS ?aL ?_;(case aP=>exact rfl);(case aF=>exact(fun _ _=>trivial));(case aO=>exact(by(with_reducible repeat (first|apply Kd.R_alloc|apply Kd.R_drewN|apply Kd.R_drew));exact HO_5.out));(case aS=>exact(keep_size (w:=w) (g:=g) (row:=none) zq13));(case aL=>have:=LMc7.out;omega);intro v201 w9 ho hb hg hat;rw[← Ny200.out] at ho;have n0_:=zM (IsS112.grown zq32 hg (IsS112.own_ne HI0.out HO_5.out zq17));have n1_:=zM (below_weaken zq30 HL.out hb);have n2_:=zM (KeepBut.trans zq13 (KeepBut.of_grown hg g) (Kd.R_base2 HO_5.out));have n3_:=zM (ho);clear HI0;clear HB;clear HK;clear HO_5;have HI0:=n0_;have HB:=n1_;have HK:=n2_;have HO202:=n3_;clear n0_ n1_ n2_ n3_;clear ho hb hg hat))
     go_roundg k1
     case measure=>have:=HK1.out;omega
     case rel=>exact⟨(wrap64 (x1_1 - 1)),(y200),(t199),zq53,H',⟨by have:=HK1.out;omega⟩,⟨by(with_reducible repeat (first|apply Kd.R_alloc|apply Kd.R_drewN|apply Kd.R_drew));exact HO202.out⟩,⟨zq32⟩,⟨zq13⟩,⟨zq30⟩⟩
    ·rw[if_neg c7] at H
     exact absurd H zq58
   ·rw[if_neg c5] at H
    have c5b0:decide (0 < x1_1)=false:=decide_eq_false c5
    clear c5
    simp only[Option.some.injEq,Prod.mk.injEq] at H
    obtain⟨rfl,rfl⟩:=H
    go_wp2
    go_ret
    exact⟨_,zq10,by(with_reducible repeat (first|apply Kd.R_alloc|apply Kd.R_drewN|apply Kd.R_drew));exact HO_5.out,zq32,zq30,zq13⟩
end Go.Proofs.Ytmnhddedcbkpoaa.All
