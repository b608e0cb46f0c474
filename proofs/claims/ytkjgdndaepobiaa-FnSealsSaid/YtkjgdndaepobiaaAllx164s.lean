-- Laid by wip/shake.py of this repo out of this claim's texts. Not trusted: Lean checks it.
import Derived.Test.YtkjgdndaepobiaaAb0s
import Derived.Test.YtkjgdndaepobiaaAllx0s
import Derived.Test.YtkjgdndaepobiaaAllx547s
import Derived.Test.YtkjgdndaepobiaaAllx32s
import Derived.Test.YtkjgdndaepobiaaAllx161s
import Derived.Test.YtkjgdndaepobiaaAllx108s
import Derived.Test.YtkjgdndaepobiaaAllx163s
namespace Go.Proofs.Ytkjgdndaepobiaa.All
open Go.Proofs.YtkjgdndaepobiaaW.PrintWords.Aside0 renaming mk→zM
open Go.RowKit Go.Proofs.YtkjgdndaepobiaaW.PrintWords Go.Proofs.YtkjgdndaepobiaaW.PrintLast Go.Proofs.YtkjgdndaepobiaaW.PrintMore
attribute [local go_sem] max2_int min2_int max_two min_two max_three min_three max_four min_four
set_option linter.unusedVariables false
set_option linter.unusedSimpArgs false
def spec_l3Seal.f (k:Nat) (l0:List Int) (l1:List Int) (l2:List Int) (l3:List Int):Option (List Int):=(spec_l2Keys.f l0).bind fun t457=>((spec_l3First.f l1).bind fun t460=>((spec_l3Count.f k t460).bind fun t463=>((spec_l3Stream.f k t457 t463 l3).bind fun t466=>((spec_l3Tag.f k t457 l1 l2 t466).bind fun t469=>(if t466.length+t469.length < 140737488355328 then (some (t466 ++ t469)) else (none))))))
theorem spec_l3Seal.mono:∀ a0 a1 a2 a3 k,LeO (spec_l3Seal.f k a0 a1 a2 a3) (spec_l3Seal.f (k+1) a0 a1 a2 a3):=by
 intro a0 a1 a2 a3 k
 unfold spec_l3Seal.f
 repeat' first
   | (with_reducible exact spec_l3Count.mono _ _)
   | (with_reducible exact spec_l3Stream.mono _ _ _ _)
   | (with_reducible exact spec_l3Tag.mono _ _ _ _ _)
   | (with_reducible exact LeO.refl _)
   | (with_reducible exact LeO.none _)
   | (with_reducible refine LeO.ite ?_ ?_)
   | (with_reducible refine LeO.bind ?_ (fun _=>?_))
   | exact spec_l3Count.mono _ _
   | exact spec_l3Stream.mono _ _ _ _
   | exact spec_l3Tag.mono _ _ _ _ _
   | exact LeO.none _
   | refine LeO.ite ?_ ?_
   | refine LeO.bind ?_ (fun _=>?_)
set_option maxHeartbeats 8000000 in
set_option maxRecDepth 100000 in
theorem spec_l3Seal.calls (k:Nat) (A0:Option Addr) (c0:Nat) (l0:List Int) (A1:Option Addr) (c1:Nat) (l1:List Int) (A2:Option Addr) (c2:Nat) (l2:List Int) (A3:Option Addr) (c3:Nat) (l3:List Int) (r:List Int) (w:World) (hr0:Kd.C (Kd.int .u8) w A0 l0.length l0) (hc0:l0.length≤c0) (hr1:Kd.C (Kd.int .u8) w A1 l1.length l1) (hc1:l1.length≤c1) (hr2:Kd.C (Kd.int .u8) w A2 l2.length l2) (hc2:l2.length≤c2) (hr3:Kd.C (Kd.int .u8) w A3 l3.length l3) (hc3:l3.length≤c3) (h:spec_l3Seal.f k l0 l1 l2 l3=some r) :
  Calls Try.prog 53 #[.slice A0 l0.length c0,.slice A1 l1.length c1,.slice A2 l2.length c2,.slice A3 l3.length c3] w fun e w'=>∃ v0_:Value,e=.returned (v0_)∧Kd.R (Kd.int .u8) 5 w' w.heap.size (fun _=>True) v0_ r∧Below w.heap.size w w':=by
 have HR0:=zM hr0
 have HC0:=zM hc0
 clear hr0 hc0
 have HR1:=zM hr1
 have HC1:=zM hc1
 clear hr1 hc1
 have HR2:=zM hr2
 have HC2:=zM hc2
 clear hr2 hc2
 have HR3:=zM hr3
 have HC3:=zM hc3
 clear hr3 hc3
 have HB:=zM (Below.refl w.heap.size w)
 have H:((spec_l2Keys.f l0).bind fun t457=>((spec_l3First.f l1).bind fun t460=>((spec_l3Count.f k t460).bind fun t463=>((spec_l3Stream.f k t457 t463 l3).bind fun t466=>((spec_l3Tag.f k t457 l1 l2 t466).bind fun t469=>(if t466.length+t469.length < 140737488355328 then (some (t466 ++ t469)) else (none)))))))=some r:=h
 clear h
 replace H:=Option.bind_eq_some_iff.mp H
 obtain⟨t457,A50,H⟩:=H
 replace H:((spec_l3First.f l1).bind fun t460=>((spec_l3Count.f k t460).bind fun t463=>((spec_l3Stream.f k t457 t463 l3).bind fun t466=>((spec_l3Tag.f k t457 l1 l2 t466).bind fun t469=>(if t466.length+t469.length < 140737488355328 then (some (t466 ++ t469)) else (none))))))=some r:=H
 have A5:=zM A50
 clear A50
 replace H:=Option.bind_eq_some_iff.mp H
 obtain⟨t460,A60,H⟩:=H
 replace H:((spec_l3Count.f k t460).bind fun t463=>((spec_l3Stream.f k t457 t463 l3).bind fun t466=>((spec_l3Tag.f k t457 l1 l2 t466).bind fun t469=>(if t466.length+t469.length < 140737488355328 then (some (t466 ++ t469)) else (none)))))=some r:=H
 have A6:=zM A60
 clear A60
 replace H:=Option.bind_eq_some_iff.mp H
 obtain⟨t463,A70,H⟩:=H
 replace H:((spec_l3Stream.f k t457 t463 l3).bind fun t466=>((spec_l3Tag.f k t457 l1 l2 t466).bind fun t469=>(if t466.length+t469.length < 140737488355328 then (some (t466 ++ t469)) else (none))))=some r:=H
 have A7:=zM A70
 clear A70
 replace H:=Option.bind_eq_some_iff.mp H
 obtain⟨t466,A80,H⟩:=H
 replace H:((spec_l3Tag.f k t457 l1 l2 t466).bind fun t469=>(if t466.length+t469.length < 140737488355328 then (some (t466 ++ t469)) else (none)))=some r:=H
 have A8:=zM A80
 clear A80
 replace H:=Option.bind_eq_some_iff.mp H
 obtain⟨t469,A90,H⟩:=H
 replace H:(if t466.length+t469.length < 140737488355328 then (some (t466 ++ t469)) else (none))=some r:=H
 have A9:=zM A90
 clear A90
 by_cases c10:t466.length+t469.length < 140737488355328
 ·rw[if_pos c10] at H
  have LMc10:=zM c10
  clear c10
  obtain⟨y472,hy472⟩:∃ y_:List Int,y_=(t466 ++ t469):=⟨_,rfl⟩
  replace H:(some y472)=some r:=by first|(rw[hy472];with_reducible exact H)|(have H2_:=(Option.bind_some _ _).symm.trans H;rw[hy472];with_reducible exact H2_)|(have H2_:=(Option.bind_some _ _).symm.trans H;with_reducible exact H2_)|with_reducible exact H|(rw[hy472];exact H)|exact H
  have Ny472:=zM hy472
  clear hy472
  obtain rfl:=Option.some.inj H
  go_enter Try.func53,Try.ntmps53
  go_wp2_with (first|((with_reducible refine gate_callee (f:=34) rfl ?_);refine goesL_ (some 12) rfl rfl Try.func34 (by kernel_rfl) rfl #[.slice A0 l0.length c0] rfl zq1 ?_;(with_reducible refine(spec_l2Keys.calls _ _ l0 t457 _ ?side1 ?side2 A5.out).mono ?_);(case side1=>exact zq89);(case side2=>exact HC0.out);rintro e w11 ⟨v458,rfl,ho0,hb⟩;refine⟨_,rfl,?_⟩;have n0_:=zM (Kd.R_lower ho0 (below_size zq0));have n1_:=zM (below_step zq0 hb);clear HB;have HO459:=n0_;have HB:=n1_;clear n0_ n1_;(try clear hb);(try clear hb2);(try clear hk);(try clear hi);(try clear ho0))|((with_reducible refine gate_callee (f:=67) rfl ?_);refine goesL_ (some 15) rfl rfl Try.func67 (by kernel_rfl) rfl #[.slice A1 l1.length c1] rfl zq1 ?_;(with_reducible refine(spec_l3First.calls _ _ l1 t460 _ ?side1 ?side2 A6.out).mono ?_);(case side1=>exact zq28);(case side2=>exact HC1.out);rintro e w12 ⟨v461,rfl,ho0,hb⟩;refine⟨_,rfl,?_⟩;have n0_:=zM (Kd.R_elder' zq86 (Kd.R_base ho0) hb);have n1_:=zM (Kd.R_lower (Kd.R_new' ho0 (Kd.R_lt zq86)) (below_size zq0));have n2_:=zM (below_step zq0 hb);clear HO459;clear HB;have HO459:=n0_;have HO462:=n1_;have HB:=n2_;clear n0_ n1_ n2_;(try clear hb);(try clear hb2);(try clear hk);(try clear hi);(try clear ho0);obtain⟨Ao13,co13,eo13⟩:=Kd.R_slice HO462.out;subst eo13)|((with_reducible refine gate_callee (f:=66) rfl ?_);refine goesL_ (some 16) rfl rfl Try.func66 (by kernel_rfl) rfl #[.slice Ao13 t460.length co13] rfl zq1 ?_;(with_reducible refine(spec_l3Count.calls k _ _ t460 t463 _ ?side1 ?side2 A7.out).mono ?_);(case side1=>repeat (first|exact(Kd.R_reads' HO462.out).2.2|(with_reducible refine Kd.C_alloc ?_ _)|(with_reducible refine Kd.C_drewN ?_ _)|(with_reducible refine Kd.C_drew ?_)));(case side2=>exact(Kd.R_reads' HO462.out).2.1);rintro e w14 ⟨v464,rfl,ho0,hb⟩;refine⟨_,rfl,?_⟩;have n0_:=zM (Kd.R_elder' zq86 (Kd.R_base ho0) hb);have n1_:=zM (Kd.R_elder' zq109 (Kd.R_base ho0) hb);have n2_:=zM (Kd.R_lower (Kd.R_new' (Kd.R_new' ho0 (Kd.R_lt zq86)) (Kd.R_lt zq109)) (below_size zq0));have n3_:=zM (below_step zq0 hb);clear HO459;clear HO462;clear HB;have HO459:=n0_;have HO462:=n1_;have HO465:=n2_;have HB:=n3_;clear n0_ n1_ n2_ n3_;(try clear hb);(try clear hb2);(try clear hk);(try clear hi);(try clear ho0);obtain⟨Ao15,co15,eo15⟩:=Kd.R_slice HO459.out;subst eo15;obtain⟨Ao16,co16,eo16⟩:=Kd.R_slice HO465.out;subst eo16)|((with_reducible refine gate_callee (f:=65) rfl ?_);refine goesL_ (some 18) rfl rfl Try.func65 (by kernel_rfl) rfl #[.slice Ao15 t457.length co15,.slice Ao16 t463.length co16,.slice A3 l3.length c3] rfl zq1 ?_;(with_reducible refine(spec_l3Stream.calls k _ _ t457 (fun k_=>some k_=(.slice Ao16 t463.length co16:Value).ownBlock) _ _ t463 _ _ l3 t466 _ ?side1 ?side2 ?side3 ?side4 ?side5 A8.out).mono ?_);(case side1=>exact zq199);(case side2=>exact(Kd.R_reads' HO459.out).2.1);(case side3=>exact Kd.R_V (Kd.R_tight rfl (HO465.out)));(case side4=>repeat (first|exact(Kd.C_below HR3.out HB.out)|(with_reducible refine Kd.C_alloc ?_ _)|(with_reducible refine Kd.C_drewN ?_ _)|(with_reducible refine Kd.C_drew ?_)));(case side5=>exact HC3.out);rintro e w17 ⟨v467,rfl,ho0,hb⟩;refine⟨_,rfl,?_⟩;have n0_:=zM (Kd.R_elder' zq86 (Kd.R_base ho0) hb);have n1_:=zM (Kd.R_elder' zq109 (Kd.R_base ho0) hb);have n2_:=zM (Kd.R_elder' zq135 (Kd.R_base ho0) hb);have n3_:=zM (Kd.R_lower (Kd.R_new' (Kd.R_new' (Kd.R_new' (Kd.R_mono (ok':=fun k_=>True) ho0 (fun _ hk_=>trivial)) (Kd.R_lt zq86)) (Kd.R_lt zq109)) (Kd.R_lt zq135)) (below_size zq0));have n4_:=zM (below_step zq0 hb);clear HO459;clear HO462;clear HO465;clear HB;have HO459:=n0_;have HO462:=n1_;have HO465:=n2_;have HO468:=n3_;have HB:=n4_;clear n0_ n1_ n2_ n3_ n4_;(try clear hb);(try clear hb2);(try clear hk);(try clear hi);(try clear ho0);obtain⟨Ao18,co18,eo18⟩:=Kd.R_slice HO468.out;subst eo18)|((with_reducible refine gate_callee (f:=68) rfl ?_);refine goesL_ (some 24) rfl rfl Try.func68 (by kernel_rfl) rfl #[.slice Ao15 t457.length co15,.slice A1 l1.length c1,.slice A2 l2.length c2,.slice Ao18 t466.length co18] rfl zq1 ?_;(with_reducible refine(spec_l3Tag.calls k _ _ t457 _ _ l1 _ _ l2 _ _ t466 t469 _ ?side1 ?side2 ?side3 ?side4 ?side5 ?side6 ?side7 ?side8 A9.out).mono ?_);(case side1=>exact zq199);(case side2=>exact(Kd.R_reads' HO459.out).2.1);(case side3=>exact zq28);(case side4=>exact HC1.out);(case side5=>exact zq29);(case side6=>exact HC2.out);(case side7=>repeat (first|exact(Kd.R_reads' HO468.out).2.2|(with_reducible refine Kd.C_alloc ?_ _)|(with_reducible refine Kd.C_drewN ?_ _)|(with_reducible refine Kd.C_drew ?_)));(case side8=>exact(Kd.R_reads' HO468.out).2.1);rintro e w19 ⟨v470,rfl,ho0,hb⟩;refine⟨_,rfl,?_⟩;have n0_:=zM (Kd.R_elder' zq86 (Kd.R_base ho0) hb);have n1_:=zM (Kd.R_elder' zq109 (Kd.R_base ho0) hb);have n2_:=zM (Kd.R_elder' zq135 (Kd.R_base ho0) hb);have n3_:=zM (Kd.R_elder' (by(with_reducible repeat (first|apply Kd.R_alloc|apply Kd.R_drewN|apply Kd.R_drew));exact HO468.out) (Kd.R_base ho0) hb);have n4_:=zM (Kd.R_lower (Kd.R_new' (Kd.R_new' (Kd.R_new' (Kd.R_new' ho0 (Kd.R_lt zq86)) (Kd.R_lt zq109)) (Kd.R_lt zq135)) (Kd.R_lt (by(with_reducible repeat (first|apply Kd.R_alloc|apply Kd.R_drewN|apply Kd.R_drew));exact HO468.out))) (below_size zq0));have n5_:=zM (below_step zq0 hb);clear HO459;clear HO462;clear HO465;clear HO468;clear HB;have HO459:=n0_;have HO462:=n1_;have HO465:=n2_;have HO468:=n3_;have HO471:=n4_;have HB:=n5_;clear n0_ n1_ n2_ n3_ n4_ n5_;(try clear hb);(try clear hb2);(try clear hk);(try clear hi);(try clear ho0);obtain⟨Ao21,co21,eo21⟩:=Kd.R_slice HO471.out;subst eo21)|((with_reducible refine gate_builtin (b:=.append) (xs:=#[.tmp 19,.tmp 24]) rfl ?_);at_builtin;refine Kd.R_append_rows (Kd.int .u8) (w0:=w) w.heap.size rfl (.tmp 19) (.tmp 24) 22 5 (.int .u8 0) 1 rfl Try.underlying22 info5 rfl zq22 zq9 (.slice Ao18 t466.length co18) t466 t469 _ _ _ (fun k_=>some k_≠(.slice Ao15 t457.length co15:Value).ownBlock∧some k_≠(.slice Ao13 t460.length co13:Value).ownBlock∧some k_≠(.slice Ao16 t463.length co16:Value).ownBlock∧some k_≠(.slice Ao21 t469.length co21:Value).ownBlock) (fun _=>False) rfl rfl ?aO ?aR (fun _ _ h=>h) (fun _ h=>h.elim) ?aF ?aB ?aS ?aL ?_;(case aR=>repeat (first|exact(Kd.R_reads' HO471.out).2.2|(with_reducible refine Kd.C_alloc ?_ _)|(with_reducible refine Kd.C_drewN ?_ _)|(with_reducible refine Kd.C_drew ?_)));(case aB=>exact zq0);(case aF=>exact(fun k_ hk=>⟨Kd.fresh' (Kd.R_lt zq86) k_ hk,Kd.fresh' (Kd.R_lt zq109) k_ hk,Kd.fresh' (Kd.R_lt zq135) k_ hk,Kd.fresh' (Kd.R_lt (by(with_reducible repeat (first|apply Kd.R_alloc|apply Kd.R_drewN|apply Kd.R_drew));exact HO471.out)) k_ hk⟩));(case aO=>exact(by(with_reducible repeat (first|apply Kd.R_alloc|apply Kd.R_drewN|apply Kd.R_drew));exact Kd.R_mono HO468.out (fun _ hk=>⟨hk.1.1.1.2,⟨hk.1.1.2,⟨hk.1.2,hk.2⟩⟩⟩)));(case aS=>exact(below_size zq0));(case aL=>have:=LMc10.out;omega);intro v473 w20 ho hb hg hat;rw[← Ny472.out] at ho;have n0_:=zM (Kd.R_after (ok:=(fun k_=>some k_≠(.slice Ao13 t460.length co13:Value).ownBlock∧some k_≠(.slice Ao16 t463.length co16:Value).ownBlock∧some k_≠(.slice Ao21 t469.length co21:Value).ownBlock)) (by(with_reducible repeat (first|apply Kd.R_alloc|apply Kd.R_drewN|apply Kd.R_drew));exact Kd.R_mono HO459.out (fun _ hk=>⟨⟨hk.1.1.1.2,⟨hk.1.1.2,hk.2⟩⟩,hk.1.2⟩)) hg hat);have n1_:=zM (Kd.R_after (ok:=(fun k_=>some k_≠(.slice Ao15 t457.length co15:Value).ownBlock∧some k_≠(.slice Ao16 t463.length co16:Value).ownBlock∧some k_≠(.slice Ao21 t469.length co21:Value).ownBlock)) (by(with_reducible repeat (first|apply Kd.R_alloc|apply Kd.R_drewN|apply Kd.R_drew));exact Kd.R_mono HO462.out (fun _ hk=>⟨⟨hk.1.1.1.2,⟨hk.1.1.2,hk.2⟩⟩,hk.1.2⟩)) hg hat);have n2_:=zM (Kd.R_after (ok:=(fun k_=>some k_≠(.slice Ao15 t457.length co15:Value).ownBlock∧some k_≠(.slice Ao13 t460.length co13:Value).ownBlock∧some k_≠(.slice Ao21 t469.length co21:Value).ownBlock)) (by(with_reducible repeat (first|apply Kd.R_alloc|apply Kd.R_drewN|apply Kd.R_drew));exact Kd.R_mono HO465.out (fun _ hk=>⟨⟨hk.1.1.1.2,⟨hk.1.1.2,hk.2⟩⟩,hk.1.2⟩)) hg hat);have n3_:=zM (Kd.R_after (ok:=(fun k_=>some k_≠(.slice Ao15 t457.length co15:Value).ownBlock∧some k_≠(.slice Ao13 t460.length co13:Value).ownBlock∧some k_≠(.slice Ao16 t463.length co16:Value).ownBlock)) (by(with_reducible repeat (first|apply Kd.R_alloc|apply Kd.R_drewN|apply Kd.R_drew));exact Kd.R_mono HO471.out (fun _ hk=>⟨⟨hk.1.1.1.2,⟨hk.1.1.2,hk.1.2⟩⟩,hk.2⟩)) hg hat);have n4_:=zM (hb);have n5_:=zM (ho);clear HO459;clear HO462;clear HO465;clear HO471;clear HB;clear HO468;have HO459:=n0_;have HO462:=n1_;have HO465:=n2_;have HO471:=n3_;have HB:=n4_;have HO474:=n5_;clear n0_ n1_ n2_ n3_ n4_ n5_;clear ho hb hg hat))
  go_ret
  exact⟨_,zq14,by(with_reducible repeat (first|apply Kd.R_alloc|apply Kd.R_drewN|apply Kd.R_drew));exact Kd.R_mono HO474.out (fun _ hk=>trivial),zq0⟩
 ·rw[if_neg c10] at H
  exact absurd H zq101
end Go.Proofs.Ytkjgdndaepobiaa.All
