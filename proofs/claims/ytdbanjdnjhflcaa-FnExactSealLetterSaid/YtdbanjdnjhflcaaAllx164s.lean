-- Laid by wip/shake.py of this repo out of this claim's texts. Not trusted: Lean checks it.
import Derived.Test.YtdbanjdnjhflcaaAb0s
import Derived.Test.YtdbanjdnjhflcaaAlgs
import Derived.Test.YtdbanjdnjhflcaaAllx531s
import Derived.Test.YtdbanjdnjhflcaaAllx42s
import Derived.Test.YtdbanjdnjhflcaaAllx161s
import Derived.Test.YtdbanjdnjhflcaaAllx108s
import Derived.Test.YtdbanjdnjhflcaaAllx163s
import Derived.Test.YtdbanjdnjhflcaaAllx35s
import Derived.Test.YtdbanjdnjhflcaaAllx32s
set_option linter.unusedSimpArgs false
set_option linter.unusedVariables false
namespace Go.Proofs.Ytdbanjdnjhflcaa.All
open Go.Proofs.YtdbanjdnjhflcaaW.PrintWords.Aside0 renaming mk→zM
open Go.RowKit Go.Proofs.YtdbanjdnjhflcaaW.PrintWords Go.Proofs.YtdbanjdnjhflcaaW.PrintLast Go.Proofs.YtdbanjdnjhflcaaW.PrintMore
attribute [local go_sem] max2_int min2_int max_two min_two max_three min_three max_four min_four
def spec_l3Seal.f (k:Nat) (l0:List Int) (l1:List Int) (l2:List Int) (l3:List Int):Option (List Int):=(spec_l2Keys.f l0).bind fun t238=>((spec_l3First.f l1).bind fun t241=>((spec_l3Count.f k t241).bind fun t244=>((spec_l3Stream.f k t238 t244 l3).bind fun t247=>((spec_l3Tag.f k t238 l1 l2 t247).bind fun t250=>(if t247.length+t250.length < 140737488355328 then (some (t247 ++ t250)) else (none))))))
theorem spec_l3Seal.mono:∀ a0 a1 a2 a3 k,LeO (spec_l3Seal.f k a0 a1 a2 a3) (spec_l3Seal.f (k+1) a0 a1 a2 a3):=by
 intro a0 a1 a2 a3 k
 unfold spec_l3Seal.f
 repeat' first
   | (with_reducible exact spec_l3Count.mono _ _)
   | (with_reducible exact spec_l3Stream.mono _ _ _ _)
   | (with_reducible exact spec_l3Tag.mono _ _ _ _ _)
   | (with_reducible exact LeO.refl _)
   | (with_reducible exact LeO.none _)
   | (with_reducible refine LeO.ite ?_ ?_)
   | (with_reducible refine LeO.bind ?_ (fun _=>?_))
   | exact spec_l3Count.mono _ _
   | exact spec_l3Stream.mono _ _ _ _
   | exact spec_l3Tag.mono _ _ _ _ _
   | exact LeO.none _
   | refine LeO.ite ?_ ?_
   | refine LeO.bind ?_ (fun _=>?_)
set_option maxHeartbeats 8000000 in
set_option maxRecDepth 100000 in
theorem spec_l3Seal.calls (k:Nat) (A0:Option Addr) (c0:Nat) (l0:List Int) (A1:Option Addr) (c1:Nat) (l1:List Int) (A2:Option Addr) (c2:Nat) (l2:List Int) (A3:Option Addr) (c3:Nat) (l3:List Int) (r:List Int) (w:World) (hr0:Kd.C (Kd.int .u8) w A0 l0.length l0) (hc0:l0.length≤c0) (hr1:Kd.C (Kd.int .u8) w A1 l1.length l1) (hc1:l1.length≤c1) (hr2:Kd.C (Kd.int .u8) w A2 l2.length l2) (hc2:l2.length≤c2) (hr3:Kd.C (Kd.int .u8) w A3 l3.length l3) (hc3:l3.length≤c3) (h:spec_l3Seal.f k l0 l1 l2 l3=some r) :
  Calls Try.prog 43 #[.slice A0 l0.length c0,.slice A1 l1.length c1,.slice A2 l2.length c2,.slice A3 l3.length c3] w fun e w'=>∃ v0_:Value,e=.returned (v0_)∧Kd.R (Kd.int .u8) 5 w' w.heap.size (fun _=>True) v0_ r∧Below w.heap.size w w':=by
 have HR0:=zM hr0
 have HC0:=zM hc0
 clear hr0 hc0
 have HR1:=zM hr1
 have HC1:=zM hc1
 clear hr1 hc1
 have HR2:=zM hr2
 have HC2:=zM hc2
 clear hr2 hc2
 have HR3:=zM hr3
 have HC3:=zM hc3
 clear hr3 hc3
 have HB:=zM (Below.refl w.heap.size w)
 have H:((spec_l2Keys.f l0).bind fun t238=>((spec_l3First.f l1).bind fun t241=>((spec_l3Count.f k t241).bind fun t244=>((spec_l3Stream.f k t238 t244 l3).bind fun t247=>((spec_l3Tag.f k t238 l1 l2 t247).bind fun t250=>(if t247.length+t250.length < 140737488355328 then (some (t247 ++ t250)) else (none)))))))=some r:=h
 clear h
 replace H:=Option.bind_eq_some_iff.mp H
 obtain⟨t238,A50,H⟩:=H
 replace H:((spec_l3First.f l1).bind fun t241=>((spec_l3Count.f k t241).bind fun t244=>((spec_l3Stream.f k t238 t244 l3).bind fun t247=>((spec_l3Tag.f k t238 l1 l2 t247).bind fun t250=>(if t247.length+t250.length < 140737488355328 then (some (t247 ++ t250)) else (none))))))=some r:=H
 have A5:=zM A50
 clear A50
 replace H:=Option.bind_eq_some_iff.mp H
 obtain⟨t241,A60,H⟩:=H
 replace H:((spec_l3Count.f k t241).bind fun t244=>((spec_l3Stream.f k t238 t244 l3).bind fun t247=>((spec_l3Tag.f k t238 l1 l2 t247).bind fun t250=>(if t247.length+t250.length < 140737488355328 then (some (t247 ++ t250)) else (none)))))=some r:=H
 have A6:=zM A60
 clear A60
 replace H:=Option.bind_eq_some_iff.mp H
 obtain⟨t244,A70,H⟩:=H
 replace H:((spec_l3Stream.f k t238 t244 l3).bind fun t247=>((spec_l3Tag.f k t238 l1 l2 t247).bind fun t250=>(if t247.length+t250.length < 140737488355328 then (some (t247 ++ t250)) else (none))))=some r:=H
 have A7:=zM A70
 clear A70
 replace H:=Option.bind_eq_some_iff.mp H
 obtain⟨t247,A80,H⟩:=H
 replace H:((spec_l3Tag.f k t238 l1 l2 t247).bind fun t250=>(if t247.length+t250.length < 140737488355328 then (some (t247 ++ t250)) else (none)))=some r:=H
 have A8:=zM A80
 clear A80
 replace H:=Option.bind_eq_some_iff.mp H
 obtain⟨t250,A90,H⟩:=H
 replace H:(if t247.length+t250.length < 140737488355328 then (some (t247 ++ t250)) else (none))=some r:=H
 have A9:=zM A90
 clear A90
 by_cases c10:t247.length+t250.length < 140737488355328
 ·rw[if_pos c10] at H
  have LMc10:=zM c10
  clear c10
  obtain⟨y253,hy253⟩:∃ y_:List Int,y_=(t247 ++ t250):=⟨_,rfl⟩
  replace H:(some y253)=some r:=by first|(rw[hy253];with_reducible exact H)|(have H2_:=(Option.bind_some _ _).symm.trans H;rw[hy253];with_reducible exact H2_)|(have H2_:=(Option.bind_some _ _).symm.trans H;with_reducible exact H2_)|with_reducible exact H|(rw[hy253];exact H)|exact H
  have Ny253:=zM hy253
  clear hy253
  obtain rfl:=Option.some.inj H
  go_enter Try.func43,Try.ntmps43
  go_wp2_with (first|((with_reducible refine gate_callee (f:=61) rfl ?_);refine goesL_ (some 12) rfl rfl Try.func61 (by kernel_rfl) rfl #[.slice A0 l0.length c0] rfl zq1 ?_;(with_reducible refine(spec_l2Keys.calls _ _ l0 t238 _ ?side1 ?side2 A5.out).mono ?_);(case side1=>exact zq74);(case side2=>exact HC0.out);rintro e w11 ⟨v239,rfl,ho0,hb⟩;refine⟨_,rfl,?_⟩;have n0_:=zM (Kd.R_lower ho0 (below_size zq0));have n1_:=zM (below_step zq0 hb);clear HB;have HO240:=n0_;have HB:=n1_;clear n0_ n1_;(try clear hb);(try clear hb2);(try clear hk);(try clear hi);(try clear ho0))|((with_reducible refine gate_callee (f:=64) rfl ?_);refine goesL_ (some 15) rfl rfl Try.func64 (by kernel_rfl) rfl #[.slice A1 l1.length c1] rfl zq1 ?_;(with_reducible refine(spec_l3First.calls _ _ l1 t241 _ ?side1 ?side2 A6.out).mono ?_);(case side1=>exact zq154);(case side2=>exact HC1.out);rintro e w12 ⟨v242,rfl,ho0,hb⟩;refine⟨_,rfl,?_⟩;have n0_:=zM (Kd.R_elder' zq52 (Kd.R_base ho0) hb);have n1_:=zM (Kd.R_lower (Kd.R_new' ho0 (Kd.R_lt zq52)) (below_size zq0));have n2_:=zM (below_step zq0 hb);clear HO240;clear HB;have HO240:=n0_;have HO243:=n1_;have HB:=n2_;clear n0_ n1_ n2_;(try clear hb);(try clear hb2);(try clear hk);(try clear hi);(try clear ho0);obtain⟨Ao13,co13,eo13⟩:=Kd.R_slice HO243.out;subst eo13)|((with_reducible refine gate_callee (f:=63) rfl ?_);refine goesL_ (some 16) rfl rfl Try.func63 (by kernel_rfl) rfl #[.slice Ao13 t241.length co13] rfl zq1 ?_;(with_reducible refine(spec_l3Count.calls k _ _ t241 t244 _ ?side1 ?side2 A7.out).mono ?_);(case side1=>repeat (first|exact(Kd.R_reads' HO243.out).2.2|(with_reducible refine Kd.C_alloc ?_ _)|(with_reducible refine Kd.C_drewN ?_ _)|(with_reducible refine Kd.C_drew ?_)));(case side2=>exact(Kd.R_reads' HO243.out).2.1);rintro e w14 ⟨v245,rfl,ho0,hb⟩;refine⟨_,rfl,?_⟩;have n0_:=zM (Kd.R_elder' zq52 (Kd.R_base ho0) hb);have n1_:=zM (Kd.R_elder' zq62 (Kd.R_base ho0) hb);have n2_:=zM (Kd.R_lower (Kd.R_new' (Kd.R_new' ho0 (Kd.R_lt zq52)) (Kd.R_lt zq62)) (below_size zq0));have n3_:=zM (below_step zq0 hb);clear HO240;clear HO243;clear HB;have HO240:=n0_;have HO243:=n1_;have HO246:=n2_;have HB:=n3_;clear n0_ n1_ n2_ n3_;(try clear hb);(try clear hb2);(try clear hk);(try clear hi);(try clear ho0);obtain⟨Ao15,co15,eo15⟩:=Kd.R_slice HO240.out;subst eo15;obtain⟨Ao16,co16,eo16⟩:=Kd.R_slice HO246.out;subst eo16)|((with_reducible refine gate_callee (f:=62) rfl ?_);refine goesL_ (some 18) rfl rfl Try.func62 (by kernel_rfl) rfl #[.slice Ao15 t238.length co15,.slice Ao16 t244.length co16,.slice A3 l3.length c3] rfl zq1 ?_;(with_reducible refine(spec_l3Stream.calls k _ _ t238 (fun k_=>some k_=(.slice Ao16 t244.length co16:Value).ownBlock) _ _ t244 _ _ l3 t247 _ ?side1 ?side2 ?side3 ?side4 ?side5 A8.out).mono ?_);(case side1=>exact zq155);(case side2=>exact(Kd.R_reads' HO240.out).2.1);(case side3=>exact Kd.R_V (Kd.R_tight rfl (HO246.out)));(case side4=>repeat (first|exact(Kd.C_below HR3.out HB.out)|(with_reducible refine Kd.C_alloc ?_ _)|(with_reducible refine Kd.C_drewN ?_ _)|(with_reducible refine Kd.C_drew ?_)));(case side5=>exact HC3.out);rintro e w17 ⟨v248,rfl,ho0,hb⟩;refine⟨_,rfl,?_⟩;have n0_:=zM (Kd.R_elder' zq52 (Kd.R_base ho0) hb);have n1_:=zM (Kd.R_elder' zq62 (Kd.R_base ho0) hb);have n2_:=zM (Kd.R_elder' zq89 (Kd.R_base ho0) hb);have n3_:=zM (Kd.R_lower (Kd.R_new' (Kd.R_new' (Kd.R_new' (Kd.R_mono (ok':=fun k_=>True) ho0 (fun _ hk_=>trivial)) (Kd.R_lt zq52)) (Kd.R_lt zq62)) (Kd.R_lt zq89)) (below_size zq0));have n4_:=zM (below_step zq0 hb);clear HO240;clear HO243;clear HO246;clear HB;have HO240:=n0_;have HO243:=n1_;have HO246:=n2_;have HO249:=n3_;have HB:=n4_;clear n0_ n1_ n2_ n3_ n4_;(try clear hb);(try clear hb2);(try clear hk);(try clear hi);(try clear ho0);obtain⟨Ao18,co18,eo18⟩:=Kd.R_slice HO249.out;subst eo18)|((with_reducible refine gate_callee (f:=65) rfl ?_);refine goesL_ (some 24) rfl rfl Try.func65 (by kernel_rfl) rfl #[.slice Ao15 t238.length co15,.slice A1 l1.length c1,.slice A2 l2.length c2,.slice Ao18 t247.length co18] rfl zq1 ?_;(with_reducible refine(spec_l3Tag.calls k _ _ t238 _ _ l1 _ _ l2 _ _ t247 t250 _ ?side1 ?side2 ?side3 ?side4 ?side5 ?side6 ?side7 ?side8 A9.out).mono ?_);(case side1=>exact zq155);(case side2=>exact(Kd.R_reads' HO240.out).2.1);(case side3=>repeat (first|exact(Kd.C_below HR1.out HB.out)|(with_reducible refine Kd.C_alloc ?_ _)|(with_reducible refine Kd.C_drewN ?_ _)|(with_reducible refine Kd.C_drew ?_)));(case side4=>exact HC1.out);(case side5=>repeat (first|exact(Kd.C_below HR2.out HB.out)|(with_reducible refine Kd.C_alloc ?_ _)|(with_reducible refine Kd.C_drewN ?_ _)|(with_reducible refine Kd.C_drew ?_)));(case side6=>exact HC2.out);(case side7=>repeat (first|exact(Kd.R_reads' HO249.out).2.2|(with_reducible refine Kd.C_alloc ?_ _)|(with_reducible refine Kd.C_drewN ?_ _)|(with_reducible refine Kd.C_drew ?_)));(case side8=>exact(Kd.R_reads' HO249.out).2.1);rintro e w19 ⟨v251,rfl,ho0,hb⟩;refine⟨_,rfl,?_⟩;have n0_:=zM (Kd.R_elder' zq52 (Kd.R_base ho0) hb);have n1_:=zM (Kd.R_elder' zq62 (Kd.R_base ho0) hb);have n2_:=zM (Kd.R_elder' zq89 (Kd.R_base ho0) hb);have n3_:=zM (Kd.R_elder' zq176 (Kd.R_base ho0) hb);have n4_:=zM (Kd.R_lower (Kd.R_new' (Kd.R_new' (Kd.R_new' (Kd.R_new' ho0 (Kd.R_lt zq52)) (Kd.R_lt zq62)) (Kd.R_lt zq89)) (Kd.R_lt zq176)) (below_size zq0));have n5_:=zM (below_step zq0 hb);clear HO240;clear HO243;clear HO246;clear HO249;clear HB;have HO240:=n0_;have HO243:=n1_;have HO246:=n2_;have HO249:=n3_;have HO252:=n4_;have HB:=n5_;clear n0_ n1_ n2_ n3_ n4_ n5_;(try clear hb);(try clear hb2);(try clear hk);(try clear hi);(try clear ho0);obtain⟨Ao21,co21,eo21⟩:=Kd.R_slice HO252.out;subst eo21)|((with_reducible refine gate_builtin (b:=.append) (xs:=#[.tmp 19,.tmp 24]) rfl ?_);at_builtin;refine Kd.R_append_rows (Kd.int .u8) (w0:=w) w.heap.size rfl (.tmp 19) (.tmp 24) 25 5 (.int .u8 0) 1 rfl Try.underlying25 info5 rfl zq36 zq8 (.slice Ao18 t247.length co18) t247 t250 _ _ _ (fun k_=>some k_≠(.slice Ao15 t238.length co15:Value).ownBlock∧some k_≠(.slice Ao13 t241.length co13:Value).ownBlock∧some k_≠(.slice Ao16 t244.length co16:Value).ownBlock∧some k_≠(.slice Ao21 t250.length co21:Value).ownBlock) (fun _=>False) rfl rfl ?aO ?aR (fun _ _ h=>h) (fun _ h=>h.elim) ?aF ?aB ?aS ?aL ?_;(case aR=>repeat (first|exact(Kd.R_reads' HO252.out).2.2|(with_reducible refine Kd.C_alloc ?_ _)|(with_reducible refine Kd.C_drewN ?_ _)|(with_reducible refine Kd.C_drew ?_)));(case aB=>exact zq0);(case aF=>exact(fun k_ hk=>⟨Kd.fresh' (Kd.R_lt zq52) k_ hk,Kd.fresh' (Kd.R_lt zq62) k_ hk,Kd.fresh' (Kd.R_lt zq89) k_ hk,Kd.fresh' (Kd.R_lt (by(with_reducible repeat (first|apply Kd.R_alloc|apply Kd.R_drewN|apply Kd.R_drew));exact HO252.out)) k_ hk⟩));(case aO=>exact(by(with_reducible repeat (first|apply Kd.R_alloc|apply Kd.R_drewN|apply Kd.R_drew));exact Kd.R_mono HO249.out (fun _ hk=>⟨hk.1.1.1.2,⟨hk.1.1.2,⟨hk.1.2,hk.2⟩⟩⟩)));(case aS=>exact(below_size zq0));(case aL=>have:=LMc10.out;omega);intro v254 w20 ho hb hg hat;rw[← Ny253.out] at ho;have n0_:=zM (Kd.R_after (ok:=(fun k_=>some k_≠(.slice Ao13 t241.length co13:Value).ownBlock∧some k_≠(.slice Ao16 t244.length co16:Value).ownBlock∧some k_≠(.slice Ao21 t250.length co21:Value).ownBlock)) (by(with_reducible repeat (first|apply Kd.R_alloc|apply Kd.R_drewN|apply Kd.R_drew));exact Kd.R_mono HO240.out (fun _ hk=>⟨⟨hk.1.1.1.2,⟨hk.1.1.2,hk.2⟩⟩,hk.1.2⟩)) hg hat);have n1_:=zM (Kd.R_after (ok:=(fun k_=>some k_≠(.slice Ao15 t238.length co15:Value).ownBlock∧some k_≠(.slice Ao16 t244.length co16:Value).ownBlock∧some k_≠(.slice Ao21 t250.length co21:Value).ownBlock)) (by(with_reducible repeat (first|apply Kd.R_alloc|apply Kd.R_drewN|apply Kd.R_drew));exact Kd.R_mono HO243.out (fun _ hk=>⟨⟨hk.1.1.1.2,⟨hk.1.1.2,hk.2⟩⟩,hk.1.2⟩)) hg hat);have n2_:=zM (Kd.R_after (ok:=(fun k_=>some k_≠(.slice Ao15 t238.length co15:Value).ownBlock∧some k_≠(.slice Ao13 t241.length co13:Value).ownBlock∧some k_≠(.slice Ao21 t250.length co21:Value).ownBlock)) (by(with_reducible repeat (first|apply Kd.R_alloc|apply Kd.R_drewN|apply Kd.R_drew));exact Kd.R_mono HO246.out (fun _ hk=>⟨⟨hk.1.1.1.2,⟨hk.1.1.2,hk.2⟩⟩,hk.1.2⟩)) hg hat);have n3_:=zM (Kd.R_after (ok:=(fun k_=>some k_≠(.slice Ao15 t238.length co15:Value).ownBlock∧some k_≠(.slice Ao13 t241.length co13:Value).ownBlock∧some k_≠(.slice Ao16 t244.length co16:Value).ownBlock)) (by(with_reducible repeat (first|apply Kd.R_alloc|apply Kd.R_drewN|apply Kd.R_drew));exact Kd.R_mono HO252.out (fun _ hk=>⟨⟨hk.1.1.1.2,⟨hk.1.1.2,hk.1.2⟩⟩,hk.2⟩)) hg hat);have n4_:=zM (hb);have n5_:=zM (ho);clear HO240;clear HO243;clear HO246;clear HO252;clear HB;clear HO249;have HO240:=n0_;have HO243:=n1_;have HO246:=n2_;have HO252:=n3_;have HB:=n4_;have HO255:=n5_;clear n0_ n1_ n2_ n3_ n4_ n5_;clear ho hb hg hat))
  go_ret
  exact⟨_,zq3,by(with_reducible repeat (first|apply Kd.R_alloc|apply Kd.R_drewN|apply Kd.R_drew));exact Kd.R_mono HO255.out (fun _ hk=>trivial),zq0⟩
 ·rw[if_neg c10] at H
  exact absurd H zq73
def spec_l5Nonce.f (k:Nat) (a0:Int) (a1:Int):Option (List Int):=(spec_l1Pack.f k a0 4).bind fun t256=>((spec_l1Pack.f k a1 8).bind fun t259=>(if t256.length+t259.length < 140737488355328 then (some (t256 ++ t259)) else (none)))
theorem spec_l5Nonce.mono:∀ a0 a1 k,LeO (spec_l5Nonce.f k a0 a1) (spec_l5Nonce.f (k+1) a0 a1):=by
 intro a0 a1 k
 unfold spec_l5Nonce.f
 repeat' first
   | (with_reducible exact spec_l1Pack.mono _ _ _)
   | (with_reducible exact LeO.refl _)
   | (with_reducible exact LeO.none _)
   | (with_reducible refine LeO.ite ?_ ?_)
   | (with_reducible refine LeO.bind ?_ (fun _=>?_))
   | exact spec_l1Pack.mono _ _ _
   | exact LeO.none _
   | refine LeO.ite ?_ ?_
   | refine LeO.bind ?_ (fun _=>?_)
set_option maxHeartbeats 8000000 in
set_option maxRecDepth 100000 in
theorem spec_l5Nonce.calls (k:Nat) (a0:Int) (a1:Int) (r:List Int) (w:World) (h:spec_l5Nonce.f k a0 a1=some r) :
  Calls Try.prog 44 #[.int .i64 a0,.int .i64 a1] w fun e w'=>∃ v0_:Value,e=.returned (v0_)∧Kd.R (Kd.int .u8) 5 w' w.heap.size (fun _=>True) v0_ r∧Below w.heap.size w w':=by
 have HB:=zM (Below.refl w.heap.size w)
 have H:((spec_l1Pack.f k a0 4).bind fun t256=>((spec_l1Pack.f k a1 8).bind fun t259=>(if t256.length+t259.length < 140737488355328 then (some (t256 ++ t259)) else (none))))=some r:=h
 clear h
 replace H:=Option.bind_eq_some_iff.mp H
 obtain⟨t256,A30,H⟩:=H
 replace H:((spec_l1Pack.f k a1 8).bind fun t259=>(if t256.length+t259.length < 140737488355328 then (some (t256 ++ t259)) else (none)))=some r:=H
 have A3:=zM A30
 clear A30
 replace H:=Option.bind_eq_some_iff.mp H
 obtain⟨t259,A40,H⟩:=H
 replace H:(if t256.length+t259.length < 140737488355328 then (some (t256 ++ t259)) else (none))=some r:=H
 have A4:=zM A40
 clear A40
 by_cases c5:t256.length+t259.length < 140737488355328
 ·rw[if_pos c5] at H
  have LMc5:=zM c5
  clear c5
  obtain⟨y262,hy262⟩:∃ y_:List Int,y_=(t256 ++ t259):=⟨_,rfl⟩
  replace H:(some y262)=some r:=by first|(rw[hy262];with_reducible exact H)|(have H2_:=(Option.bind_some _ _).symm.trans H;rw[hy262];with_reducible exact H2_)|(have H2_:=(Option.bind_some _ _).symm.trans H;with_reducible exact H2_)|with_reducible exact H|(rw[hy262];exact H)|exact H
  have Ny262:=zM hy262
  clear hy262
  obtain rfl:=Option.some.inj H
  go_enter Try.func44,Try.ntmps44
  go_wp2_with (first|((with_reducible refine gate_callee (f:=60) rfl ?_);refine goesL_ (some 6) rfl rfl Try.func60 (by kernel_rfl) rfl #[.int .i64 a0,.int .i64 4] rfl zq1 ?_;(with_reducible refine(spec_l1Pack.calls k a0 4 t256 _ A3.out).mono ?_);rintro e w6 ⟨v257,rfl,ho0,hb⟩;refine⟨_,rfl,?_⟩;have n0_:=zM (Kd.R_lower ho0 (below_size zq0));have n1_:=zM (below_step zq0 hb);clear HB;have HO258:=n0_;have HB:=n1_;clear n0_ n1_;(try clear hb);(try clear hb2);(try clear hk);(try clear hi);(try clear ho0))|((with_reducible refine gate_callee (f:=60) rfl ?_);refine goesL_ (some 8) rfl rfl Try.func60 (by kernel_rfl) rfl #[.int .i64 a1,.int .i64 8] rfl zq1 ?_;(with_reducible refine(spec_l1Pack.calls k a1 8 t259 _ A4.out).mono ?_);rintro e w7 ⟨v260,rfl,ho0,hb⟩;refine⟨_,rfl,?_⟩;have n0_:=zM (Kd.R_elder' zq177 (Kd.R_base ho0) hb);have n1_:=zM (Kd.R_lower (Kd.R_new' ho0 (Kd.R_lt zq177)) (below_size zq0));have n2_:=zM (below_step zq0 hb);clear HO258;clear HB;have HO258:=n0_;have HO261:=n1_;have HB:=n2_;clear n0_ n1_ n2_;(try clear hb);(try clear hb2);(try clear hk);(try clear hi);(try clear ho0);obtain⟨Ao9,co9,eo9⟩:=Kd.R_slice HO261.out;subst eo9)|((with_reducible refine gate_builtin (b:=.append) (xs:=#[.tmp 6,.tmp 8]) rfl ?_);at_builtin;refine Kd.R_append_rows (Kd.int .u8) (w0:=w) w.heap.size rfl (.tmp 6) (.tmp 8) 25 5 (.int .u8 0) 1 rfl Try.underlying25 info5 rfl zq36 zq8 v257 t256 t259 _ _ _ (fun k_=>some k_≠(.slice Ao9 t259.length co9:Value).ownBlock) (fun _=>False) rfl rfl ?aO ?aR (fun _ _ h=>h) (fun _ h=>h.elim) ?aF ?aB ?aS ?aL ?_;(case aR=>repeat (first|exact(Kd.R_reads' HO261.out).2.2|(with_reducible refine Kd.C_alloc ?_ _)|(with_reducible refine Kd.C_drewN ?_ _)|(with_reducible refine Kd.C_drew ?_)));(case aB=>exact zq0);(case aF=>exact(fun k_ hk=>Kd.fresh' (Kd.R_lt zq178) k_ hk));(case aO=>exact(by(with_reducible repeat (first|apply Kd.R_alloc|apply Kd.R_drewN|apply Kd.R_drew));exact Kd.R_mono HO258.out (fun _ hk=>hk.2)));(case aS=>exact(below_size zq0));(case aL=>have:=LMc5.out;omega);intro v263 w8 ho hb hg hat;rw[← Ny262.out] at ho;have n0_:=zM (Kd.R_after (ok:=(fun _=>True)) zq178 hg hat);have n1_:=zM (hb);have n2_:=zM (ho);clear HO261;clear HB;clear HO258;have HO261:=n0_;have HB:=n1_;have HO264:=n2_;clear n0_ n1_ n2_;clear ho hb hg hat))
  go_ret
  exact⟨_,zq3,by(with_reducible repeat (first|apply Kd.R_alloc|apply Kd.R_drewN|apply Kd.R_drew));exact Kd.R_mono HO264.out (fun _ hk=>trivial),zq0⟩
 ·rw[if_neg c5] at H
  exact absurd H zq73
def spec_l5Seal.T2:Bool × List (List Nat × List Nat):=(true,[([],[]),([0],[0]),([],[]),([],[]),([3],[3]),([4],[4]),([5],[5]),([],[]),([7],[7]),([8],[8]),([9],[9]),([6,10,1],[6,10]),([],[]),([],[]),([13],[13]),([14],[14]),([15],[15]),([2,11,12,16,11],[2,11,12,16]),([1,17,17],[1,17]),([18,18,0,1,2,3,4,5,6,7,8,9,10,11,12,13,14,15,16,17,18],[18])])
def spec_l5Seal.B2:List Nat:=[0,1,0,0,8,24,56,0,128,384,896,2043,0,0,8192,24576,57344,131071,262143,524287]
theorem spec_l5Seal.tab2:rtab .any (opsOf Try.f22 2)=spec_l5Seal.T2:=by kernel_rfl
theorem spec_l5Seal.bits2:waitsOk spec_l5Seal.T2.2 spec_l5Seal.B2=true:=by kernel_rfl
def spec_l5Seal.f (k:Nat) (key:List Int) (a b c:Int) (t:List Int):Option (List Int):=(spec_l5HeadOf.f k a b c).bind fun hd=>(spec_l1Copy.f hd).bind fun cp=>(spec_l5Nonce.f k b c).bind fun n=>(spec_l3Seal.f k key n hd t).bind fun s=>if cp.length+s.length < 140737488355328 then some (cp ++ s) else none
theorem spec_l5Seal.mono:∀ key a b c t k,LeO (spec_l5Seal.f k key a b c t) (spec_l5Seal.f (k+1) key a b c t):=by
 intro key a b c t k
 unfold spec_l5Seal.f
 exact LeO.bind (spec_l5HeadOf.mono _ _ _ _) (fun _=>LeO.bind (LeO.refl _) (fun _=>LeO.bind (spec_l5Nonce.mono _ _ _) (fun _=>LeO.bind (spec_l3Seal.mono _ _ _ _ _) (fun _=>LeO.refl _))))
set_option maxHeartbeats 8000000 in
set_option maxRecDepth 100000 in
theorem spec_l5Seal.way (k g:Nat) (A0:Option Addr) (c0:Nat) (key:List Int) (a b c:Int) (T:Option Addr) (ct:Nat) (t:List Int) (hd cp n s D:List Int) (w:World) (hbk:w.heap[g]?=some (.cells #[.int .i64 a,.int .i64 b,.int .i64 c,.slice T t.length ct] 37 (0,0))) (HR0:Aside0 (Kd.C (Kd.int .u8) w A0 key.length key)) (HC0:Aside0 (key.length≤c0)) (HRT:Aside0 (Kd.C (Kd.int .u8) w T t.length t)) (HCT:Aside0 (t.length≤ct))
  (H1:Aside0 (spec_l5HeadOf.f k a b c=some hd)) (H2:Aside0 (spec_l1Copy.f hd=some cp)) (H3:Aside0 (spec_l5Nonce.f k b c=some n)) (H4:Aside0 (spec_l3Seal.f k key n hd t=some s)) (HM:Aside0 (cp.length+s.length < 140737488355328)) (HD:Aside0 (D=cp ++ s)) :
  Calls Try.prog 22 #[.slice A0 key.length c0,.pointer (some ⟨g,0,none⟩)] w fun e w'=>∃ v0_:Value,e=.returned v0_∧Kd.R (Kd.int .u8) 5 w' w.heap.size (fun _=>True) v0_ D∧Below w.heap.size w w':=by
 have HG1:=zM (show w.cell? ⟨g,1,none⟩=some (.int .i64 b) from (blk_cell hbk 1).trans rfl)
 have HG2:=zM (show w.cell? ⟨g,2,none⟩=some (.int .i64 c) from (blk_cell hbk 2).trans rfl)
 have HG3:=zM (show w.cell? ⟨g,3,none⟩=some (.slice T t.length ct) from (blk_cell hbk 3).trans rfl)
 have HBK:=zM hbk
 clear hbk
 go_enter Try.func22,Try.ntmps22
 go_wp2_with (first|(go_at_call 41;(with_reducible refine(spec_l5HeadOf.calls k g a b c (.slice T t.length ct) hd _ HBK.out H1.out).mono ?_);rintro e w1 ⟨v_,rfl,ho,hb⟩;obtain⟨Ah,ch,ev_⟩:=Kd.R_slice ho;subst ev_;have HCh:=zM (And.intro (Kd.R_reads' ho).2.1 (Kd.C_below (Kd.R_reads' ho).2.2 (below_drew1 (Below.refl _ _))));have HB:=zM (below_drew1 hb);clear ho hb))
 refine start_ (n:=20) (S:=fun w'=>w'.cell? ⟨g,1,none⟩=some (.int .i64 b)∧w'.cell? ⟨g,2,none⟩=some (.int .i64 c)∧w'.cell? ⟨g,3,none⟩=some (.slice T t.length ct)) (ds:=[]) #[false,false,false,false,false,false,false,false,false,false,false,false,false,false,false,false,false,false,false,false] (by kernel_rfl) rfl rfl ⟨(HB.out.cell (World.block_lt_of_cell? w _ HG1.out)).trans HG1.out,(HB.out.cell (World.block_lt_of_cell? w _ HG2.out)).trans HG2.out,(HB.out.cell (World.block_lt_of_cell? w _ HG3.out)).trans HG3.out⟩ (fun hHeld=>?_);refine with_tabW spec_l5Seal.tab2 spec_l5Seal.bits2 (fun HT_ HW_=>?_)
 generalize w1.drew=w9 at HB HCh hHeld ⊢
 refine pure_ (i:=0) (N:=some 8) (v:=?_) (a':=?_) #[true,false,false,false,false,false,false,false,false,false,false,false,false,false,false,false,false,false,false,false] rfl rfl (any_of HT_.out (by kernel_rfl)) (fun _ _ _ h=>h) (Or.inl ⟨zq125,?_⟩) ?_ ?_
 rotate_left
 ·intro w'
  go_simp
  with_reducible rfl
 rotate_left
 ·simp only[Act.put,List.setIfInBounds_toArray,List.set_cons_zero,List.set_cons_succ,i64_w,i32_w]
  rfl
 refine pure_ (i:=2) (N:=some 10) (v:=?_) (a':=?_) #[true,false,true,false,false,false,false,false,false,false,false,false,false,false,false,false,false,false,false,false] rfl rfl (any_of HT_.out (by kernel_rfl)) (fun _ _ _ h=>h) (Or.inl ⟨zq125,?_⟩) ?_ ?_
 rotate_left
 ·intro w'
  go_simp
  with_reducible rfl
 rotate_left
 ·simp only[Act.put,List.setIfInBounds_toArray,List.set_cons_zero,List.set_cons_succ,i64_w,i32_w]
  rfl
 refine pure_ (i:=3) (N:=some 11) (v:=?_) (a':=?_) #[true,false,true,true,false,false,false,false,false,false,false,false,false,false,false,false,false,false,false,false] rfl rfl (any_of HT_.out (by kernel_rfl)) (fun _ _ _ h=>h) (Or.inl ⟨zq125,?_⟩) ?_ ?_
 rotate_left
 ·intro w'
  go_simp
  with_reducible rfl
 rotate_left
 ·simp only[Act.put,List.setIfInBounds_toArray,List.set_cons_zero,List.set_cons_succ,i64_w,i32_w]
  rfl
 refine pure_ (i:=4) (N:=some 12) (v:=?_) (a':=?_) #[true,false,true,true,true,false,false,false,false,false,false,false,false,false,false,false,false,false,false,false] rfl rfl (any_of HT_.out (by kernel_rfl)) (fun _ _ _ h=>h) (Or.inl ⟨zq125,?_⟩) ?_ ?_
 rotate_left
 ·intro w'
  go_simp
  with_reducible rfl
 rotate_left
 ·simp only[Act.put,List.setIfInBounds_toArray,List.set_cons_zero,List.set_cons_succ,i64_w,i32_w]
  rfl
 refine pure_ (i:=5) (N:=some 13) (v:=?_) (a':=?_) #[true,false,true,true,true,true,false,false,false,false,false,false,false,false,false,false,false,false,false,false] rfl rfl (any_of HT_.out (by kernel_rfl)) (fun _ _ _ h=>h) (Or.inl ⟨zq125,?_⟩) ?_ ?_
 rotate_left
 ·intro w'
  go_simp
  with_reducible rfl
 rotate_left
 ·simp only[Act.put,List.setIfInBounds_toArray,List.set_cons_zero,List.set_cons_succ,i64_w,i32_w]
  rfl
 refine take_ (i:=6) (N:=some 14) (v:=?_) (a':=?_) #[true,false,true,true,true,true,true,false,false,false,false,false,false,false,false,false,false,false,false,false] rfl rfl (take_ofW HT_.out HW_.out (by kernel_rfl)) (fun _ _ _ h=>h) (Or.inl ⟨zq125,?_⟩) hHeld ?_ ?_
 rotate_left
 ·rintro w' ⟨s0,s1,s2⟩
  go_simp
  with_reducible rfl
 rotate_left
 ·simp only[Act.put,List.setIfInBounds_toArray,List.set_cons_zero,List.set_cons_succ,i64_w,i32_w]
  rfl
 refine pure_ (i:=7) (N:=some 15) (v:=?_) (a':=?_) #[true,false,true,true,true,true,true,true,false,false,false,false,false,false,false,false,false,false,false,false] rfl rfl (any_of HT_.out (by kernel_rfl)) (fun _ _ _ h=>h) (Or.inl ⟨zq125,?_⟩) ?_ ?_
 rotate_left
 ·intro w'
  go_simp
  with_reducible rfl
 rotate_left
 ·simp only[Act.put,List.setIfInBounds_toArray,List.set_cons_zero,List.set_cons_succ,i64_w,i32_w]
  rfl
 refine pure_ (i:=8) (N:=some 16) (v:=?_) (a':=?_) #[true,false,true,true,true,true,true,true,true,false,false,false,false,false,false,false,false,false,false,false] rfl rfl (any_of HT_.out (by kernel_rfl)) (fun _ _ _ h=>h) (Or.inl ⟨zq125,?_⟩) ?_ ?_
 rotate_left
 ·intro w'
  go_simp
  with_reducible rfl
 rotate_left
 ·simp only[Act.put,List.setIfInBounds_toArray,List.set_cons_zero,List.set_cons_succ,i64_w,i32_w]
  rfl
 refine pure_ (i:=9) (N:=some 17) (v:=?_) (a':=?_) #[true,false,true,true,true,true,true,true,true,true,false,false,false,false,false,false,false,false,false,false] rfl rfl (any_of HT_.out (by kernel_rfl)) (fun _ _ _ h=>h) (Or.inl ⟨zq125,?_⟩) ?_ ?_
 rotate_left
 ·intro w'
  go_simp
  with_reducible rfl
 rotate_left
 ·simp only[Act.put,List.setIfInBounds_toArray,List.set_cons_zero,List.set_cons_succ,i64_w,i32_w]
  rfl
 refine take_ (i:=10) (N:=some 18) (v:=?_) (a':=?_) #[true,false,true,true,true,true,true,true,true,true,true,false,false,false,false,false,false,false,false,false] rfl rfl (take_ofW HT_.out HW_.out (by kernel_rfl)) (fun _ _ _ h=>h) (Or.inl ⟨zq125,?_⟩) hHeld ?_ ?_
 rotate_left
 ·rintro w' ⟨s0,s1,s2⟩
  go_simp
  with_reducible rfl
 rotate_left
 ·simp only[Act.put,List.setIfInBounds_toArray,List.set_cons_zero,List.set_cons_succ,i64_w,i32_w]
  rfl
 refine pure_ (i:=12) (N:=some 20) (v:=?_) (a':=?_) #[true,false,true,true,true,true,true,true,true,true,true,false,true,false,false,false,false,false,false,false] rfl rfl (any_of HT_.out (by kernel_rfl)) (fun _ _ _ h=>h) (Or.inl ⟨zq125,?_⟩) ?_ ?_
 rotate_left
 ·intro w'
  go_simp
  with_reducible rfl
 rotate_left
 ·simp only[Act.put,List.setIfInBounds_toArray,List.set_cons_zero,List.set_cons_succ,i64_w,i32_w]
  rfl
 refine pure_ (i:=13) (N:=some 21) (v:=?_) (a':=?_) #[true,false,true,true,true,true,true,true,true,true,true,false,true,true,false,false,false,false,false,false] rfl rfl (any_of HT_.out (by kernel_rfl)) (fun _ _ _ h=>h) (Or.inl ⟨zq125,?_⟩) ?_ ?_
 rotate_left
 ·intro w'
  go_simp
  with_reducible rfl
 rotate_left
 ·simp only[Act.put,List.setIfInBounds_toArray,List.set_cons_zero,List.set_cons_succ,i64_w,i32_w]
  rfl
 refine pure_ (i:=14) (N:=some 22) (v:=?_) (a':=?_) #[true,false,true,true,true,true,true,true,true,true,true,false,true,true,true,false,false,false,false,false] rfl rfl (any_of HT_.out (by kernel_rfl)) (fun _ _ _ h=>h) (Or.inl ⟨zq125,?_⟩) ?_ ?_
 rotate_left
 ·intro w'
  go_simp
  with_reducible rfl
 rotate_left
 ·simp only[Act.put,List.setIfInBounds_toArray,List.set_cons_zero,List.set_cons_succ,i64_w,i32_w]
  rfl
 refine pure_ (i:=15) (N:=some 23) (v:=?_) (a':=?_) #[true,false,true,true,true,true,true,true,true,true,true,false,true,true,true,true,false,false,false,false] rfl rfl (any_of HT_.out (by kernel_rfl)) (fun _ _ _ h=>h) (Or.inl ⟨zq125,?_⟩) ?_ ?_
 rotate_left
 ·intro w'
  go_simp
  with_reducible rfl
 rotate_left
 ·simp only[Act.put,List.setIfInBounds_toArray,List.set_cons_zero,List.set_cons_succ,i64_w,i32_w]
  rfl
 refine take_ (i:=16) (N:=some 24) (v:=?_) (a':=?_) #[true,false,true,true,true,true,true,true,true,true,true,false,true,true,true,true,true,false,false,false] rfl rfl (take_ofW HT_.out HW_.out (by kernel_rfl)) (fun _ _ _ h=>h) (Or.inl ⟨zq125,?_⟩) hHeld ?_ ?_
 rotate_left
 ·rintro w' ⟨s0,s1,s2⟩
  go_simp
  with_reducible rfl
 rotate_left
 ·simp only[Act.put,List.setIfInBounds_toArray,List.set_cons_zero,List.set_cons_succ,i64_w,i32_w]
  rfl
 refine one_ (i:=1) (N:=some 9) #[true,true,true,true,true,true,true,true,true,true,true,false,true,true,true,true,true,false,false,false] rfl rfl (one_of HT_.out (by kernel_rfl)) zq36 (fun K hK=>?_)
 refine goes_ Try.func42 (by kernel_rfl) rfl #[.slice Ah hd.length ch] zq125 rfl rfl zq13 ?_
 with_reducible refine(spec_l1Copy.calls Ah ch hd cp _ ?s1 ?s2 H2.out).mono ?_
 (case s1=>exact HCh.out.2)
 (case s2=>exact HCh.out.1)
 rintro e w2 ⟨vp,rfl,ho,hb⟩
 refine⟨_,rfl,?_⟩
 have n0_:=zM (Kd.R_lower ho (below_size HB.out))
 have n1_:=zM (And.intro HCh.out.1 (Kd.C_below HCh.out.2 hb))
 have n2_:=zM (below_step HB.out hb)
 clear HB HCh ho hb
 have HOp:=n0_
 have HCh:=n1_
 have HB:=n2_
 clear n0_ n1_ n2_
 refine hK.out _ _ ⟨(HB.out.cell (World.block_lt_of_cell? w _ HG1.out)).trans HG1.out,(HB.out.cell (World.block_lt_of_cell? w _ HG2.out)).trans HG2.out,(HB.out.cell (World.block_lt_of_cell? w _ HG3.out)).trans HG3.out⟩ (fun hHeld=>?_)
 clear hK K
 refine norm_ (a':=?_) ?_ ?_
 rotate_left
 ·show Act.put _ (some 9) _=_
  simp only[Act.put,List.setIfInBounds_toArray,List.set_cons_zero,List.set_cons_succ,i64_w,i32_w]
  rfl
 refine one_ (i:=11) (N:=some 19) #[true,true,true,true,true,true,true,true,true,true,true,true,true,true,true,true,true,false,false,false] rfl rfl (one_of HT_.out (by kernel_rfl)) zq36 (fun K hK=>?_)
 refine goes_ Try.func44 (by kernel_rfl) rfl #[.int .i64 b,.int .i64 c] zq125 rfl rfl zq13 ?_
 with_reducible refine(spec_l5Nonce.calls k b c n _ H3.out).mono ?_
 rintro e w3 ⟨vn,rfl,ho,hb⟩
 refine⟨_,rfl,?_⟩
 obtain⟨An,cn,ev_⟩:=Kd.R_slice ho
 subst ev_
 have n0_:=zM (Kd.R_below HOp.out hb)
 have n1_:=zM (And.intro HCh.out.1 (Kd.C_below HCh.out.2 hb))
 have n2_:=zM (below_step HB.out hb)
 have HCn:=zM (Kd.R_reads' ho).2
 clear HB HCh HOp ho hb
 have HOp:=n0_
 have HCh:=n1_
 have HB:=n2_
 clear n0_ n1_ n2_
 refine hK.out _ _ ⟨(HB.out.cell (World.block_lt_of_cell? w _ HG1.out)).trans HG1.out,(HB.out.cell (World.block_lt_of_cell? w _ HG2.out)).trans HG2.out,(HB.out.cell (World.block_lt_of_cell? w _ HG3.out)).trans HG3.out⟩ (fun hHeld=>?_)
 clear hK K
 refine norm_ (a':=?_) ?_ ?_
 rotate_left
 ·show Act.put _ (some 19) _=_
  simp only[Act.put,List.setIfInBounds_toArray,List.set_cons_zero,List.set_cons_succ,i64_w,i32_w]
  rfl
 refine one_ (i:=17) (N:=some 25) #[true,true,true,true,true,true,true,true,true,true,true,true,true,true,true,true,true,true,false,false] rfl rfl (one_of HT_.out (by kernel_rfl)) zq36 (fun K hK=>?_)
 refine goes_ Try.func43 (by kernel_rfl) rfl #[.slice A0 key.length c0,.slice An n.length cn,.slice Ah hd.length ch,.slice T t.length ct] zq125 rfl rfl zq13 ?_
 with_reducible refine(spec_l3Seal.calls k A0 c0 key An cn n Ah ch hd T ct t s _ ?t1 HC0.out ?t2 ?t3 ?t4 ?t5 ?t6 HCT.out H4.out).mono ?_
 (case t1=>exact Kd.C_below HR0.out HB.out)
 (case t2=>exact HCn.out.2)
 (case t3=>exact HCn.out.1)
 (case t4=>exact HCh.out.2)
 (case t5=>exact HCh.out.1)
 (case t6=>exact Kd.C_below HRT.out HB.out)
 rintro e w4 ⟨vs,rfl,ho,hb⟩
 refine⟨_,rfl,?_⟩
 obtain⟨As,cs,ev_⟩:=Kd.R_slice ho
 subst ev_
 have n0_:=zM (Kd.R_below HOp.out hb)
 have n2_:=zM (below_step HB.out hb)
 have HCs:=zM (Kd.R_reads' ho).2
 clear HB HCh HCn HOp ho hb
 have HOp:=n0_
 have HB:=n2_
 clear n0_ n2_
 refine hK.out _ _ ⟨(HB.out.cell (World.block_lt_of_cell? w _ HG1.out)).trans HG1.out,(HB.out.cell (World.block_lt_of_cell? w _ HG2.out)).trans HG2.out,(HB.out.cell (World.block_lt_of_cell? w _ HG3.out)).trans HG3.out⟩ (fun hHeld=>?_)
 clear hK K
 refine norm_ (a':=?_) ?_ ?_
 rotate_left
 ·show Act.put _ (some 25) _=_
  simp only[Act.put,List.setIfInBounds_toArray,List.set_cons_zero,List.set_cons_succ,i64_w,i32_w]
  rfl
 refine one_ (i:=18) (N:=some 26) #[true,true,true,true,true,true,true,true,true,true,true,true,true,true,true,true,true,true,true,false] rfl rfl (one_of HT_.out (by kernel_rfl)) zq36 (fun K hK=>?_)
 refine Kd.R_append_rows_step (Kd.int .u8) (w0:=w) w.heap.size zq125 (.tmp 9) (.tmp 25) 25 5 (.int .u8 0) 1 rfl Try.underlying25 info5 rfl zq36 zq8 _ cp s _ _ _ (fun _=>True) (fun _=>False) rfl rfl ?aO ?aR (fun _ _ h=>h) (fun _ h=>h.elim) ?aF ?aB ?aS ?aL ?_
 (case aO=>exact HOp.out)
 (case aR=>exact HCs.out.2)
 (case aF=>exact fun _ _=>trivial)
 (case aB=>exact HB.out)
 (case aS=>exact below_size HB.out)
 (case aL=>have:=HM.out;omega)
 intro v2 w5 ho hb hg hat
 have n0_:=zM ho
 have n1_:=zM hb
 clear HB HOp HCs ho hb hg hat
 have HO:=n0_
 have HB:=n1_
 clear n0_ n1_
 refine hK.out _ _ ⟨(HB.out.cell (World.block_lt_of_cell? w _ HG1.out)).trans HG1.out,(HB.out.cell (World.block_lt_of_cell? w _ HG2.out)).trans HG2.out,(HB.out.cell (World.block_lt_of_cell? w _ HG3.out)).trans HG3.out⟩ (fun hHeld=>?_)
 clear hK K
 refine norm_ (a':=?_) ?_ ?_
 rotate_left
 ·show Act.put _ (some 26) _=_
  simp only[Act.put,List.setIfInBounds_toArray,List.set_cons_zero,List.set_cons_succ,i64_w,i32_w]
  rfl
 refine pure_ (i:=19) (N:=some 4) (v:=?_) (a':=?_) #[true,true,true,true,true,true,true,true,true,true,true,true,true,true,true,true,true,true,true,true] rfl rfl (any_of HT_.out (by kernel_rfl)) (fun _ _ _ h=>h) (Or.inl ⟨zq125,?_⟩) ?_ ?_
 rotate_left
 ·intro w'
  go_simp
  with_reducible rfl
 rotate_left
 ·simp only[Act.put,List.setIfInBounds_toArray,List.set_cons_zero,List.set_cons_succ,i64_w,i32_w]
  rfl
 refine done_ (done_of HT_.out (by kernel_rfl)) ?_
 go_wp2
 go_ret
 exact⟨_,rfl,by rw[HD.out];exact HO.out,HB.out⟩
theorem spec_l5Seal.calls (k g:Nat) (A0:Option Addr) (c0:Nat) (key:List Int) (a b c:Int) (T:Option Addr) (ct:Nat) (t:List Int) (r:List Int) (w:World) (hbk:w.heap[g]?=some (.cells #[.int .i64 a,.int .i64 b,.int .i64 c,.slice T t.length ct] 37 (0,0))) (hr0:Kd.C (Kd.int .u8) w A0 key.length key) (hc0:key.length≤c0) (hrt:Kd.C (Kd.int .u8) w T t.length t) (hct:t.length≤ct) (h:spec_l5Seal.f k key a b c t=some r) :
  Calls Try.prog 22 #[.slice A0 key.length c0,.pointer (some ⟨g,0,none⟩)] w fun e w'=>∃ v0_:Value,e=.returned v0_∧Kd.R (Kd.int .u8) 5 w' w.heap.size (fun _=>True) v0_ r∧Below w.heap.size w w':=by
 unfold spec_l5Seal.f at h
 obtain⟨hd,h1,h⟩:=Option.bind_eq_some_iff.mp h
 obtain⟨cp,h2,h⟩:=Option.bind_eq_some_iff.mp h
 obtain⟨n,h3,h⟩:=Option.bind_eq_some_iff.mp h
 obtain⟨s,h4,h⟩:=Option.bind_eq_some_iff.mp h
 by_cases hm:cp.length+s.length < 140737488355328
 ·rw[if_pos hm] at h
  exact spec_l5Seal.way k g A0 c0 key a b c T ct t hd cp n s r w hbk ⟨hr0⟩ ⟨hc0⟩ ⟨hrt⟩ ⟨hct⟩ ⟨h1⟩ ⟨h2⟩ ⟨h3⟩ ⟨h4⟩ ⟨hm⟩ ⟨(Option.some.inj h).symm⟩
 ·rw[if_neg hm] at h
  cases h
end Go.Proofs.Ytdbanjdnjhflcaa.All
