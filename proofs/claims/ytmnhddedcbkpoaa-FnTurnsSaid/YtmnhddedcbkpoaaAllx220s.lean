-- Laid by wip/shake.py of this repo out of this claim's texts. Not trusted: Lean checks it.
import Derived.Test.YtmnhddedcbkpoaaAb0s
import Derived.Test.YtmnhddedcbkpoaaBytes
import Derived.Test.YtmnhddedcbkpoaaAllx24s
import Derived.Test.YtmnhddedcbkpoaaAllx202s
import Derived.Test.YtmnhddedcbkpoaaAllx557s
import Derived.Test.YtmnhddedcbkpoaaAllx216s
import Derived.Test.YtmnhddedcbkpoaaAllx214s
import Derived.Test.YtmnhddedcbkpoaaAllx572s
import Derived.Test.YtmnhddedcbkpoaaAllx562s
import Derived.Test.YtmnhddedcbkpoaaAllx215s
import Derived.Test.YtmnhddedcbkpoaaAllx551s
namespace Go.Proofs.Ytmnhddedcbkpoaa.All
open Go.RowKit Go.Proofs.YtmnhddedcbkpoaaW.PrintWords Go.Proofs.YtmnhddedcbkpoaaW.PrintLast Go.Proofs.YtmnhddedcbkpoaaW.PrintMore
attribute [local go_sem] max2_int min2_int max_two min_two max_three min_three max_four min_four
set_option linter.unusedVariables false
set_option linter.unusedSimpArgs false
open Bool renaming true→Y,false→Z
open List renaming setIfInBounds_toArray→sa_,set_cons_zero→sb_,set_cons_succ→sc_
open Go.Proofs.YtmnhddedcbkpoaaW.PrintWords.Kd renaming R_alloc→az3,R_drewN→bz3,R_drew→cz3,R_below→dz3,R_far→ez3,R_base→fz3,R_mono→gz3,R_types→hz3,R_reads'→iz3,R_elder'→jz3,R_new'→kz3
open Go.Proofs.YtmnhddedcbkpoaaW.PrintWords renaming pw_below_drewN→ay3,below_alloc→by3,below_drew1→cy3,below_set→dy3,blk_drewN→ey3,blk_alloc→fy3,blk_drew→gy3,blk_below→hy3
open Aside0 renaming mk→zz3
attribute [local go_sem] fldTurns25_0 fldTurns25_1
attribute [local go_sem] fldTurns29_0 fldTurns29_1
attribute [local go_sem] fldTurns31_0 fldTurns31_1
set_option maxHeartbeats 8000000 in
set_option maxRecDepth 100000 in
theorem laws_FnTurns.calls (k:Nat) (A0:Option Addr) (c0:Nat) (l0:List Int) (r:Bool) (w:World) (hr0:Kd.C (Kd.int .u8) w A0 l0.length l0) (hc0:l0.length≤c0) (h:laws_FnTurns.f k l0=some r) (hrt:r=true) :
  Calls Try.prog 3 #[.slice A0 l0.length c0] w fun e w'=>e=.returned (.bool r)∧Below w.heap.size w w':=by
 have HRT:=zz3 hrt
 clear hrt
 have hu25:=Try.underlying25
 have hu31:=Try.underlying31
 have hu29:=Try.underlying29
 have HR0:=zz3 hr0
 have aW:=zz3 hc0
 clear hr0 hc0
 have HB:=zz3 (Below.refl w.heap.size w)
 have H:((laws_lwBig.f l0).bind fun aR=>(if aR=true then (some true) else ((spec_DrawNewRing.f k l0).bind fun ae=>((impl_NewRing.f k ae.1 ae.2).bind fun ad=>((spec_DrawTurnRing.f k l0).bind fun aa=>((impl_TurnRing.f k aa.1 aa.2.1 aa.2.2.1 aa.2.2.2.1 aa.2.2.2.2).bind fun ab=>((spec_DrawSameRings.f k l0).bind fun ac=>((spec_NewRing.f ae.1 ae.2).bind fun aj=>(if ad.1=aj.1 then ((spec_TurnRing.f k aa.1 aa.2.1 aa.2.2.1 aa.2.2.2.1 aa.2.2.2.2).bind fun ai=>(if ab.1=ai.1 then ((impl_SameRings.f ac.1 ac.2.1 ac.2.2.1 ac.2.2.2).bind fun ah=>((spec_SameRings.f ac.1 ac.2.1 ac.2.2.1 ac.2.2.2).bind fun ag=>(laws_FnTurns.j0 k aa.2.2.1 (ah != ag) ae.1 ae.2 ad.1 ad.2.1 ad.2.2 aa.1 aa.2.1 aa.2.2.2.1 aa.2.2.2.2 ab.1 ab.2.1 ab.2.2))) else (laws_FnTurns.j0 k aa.2.2.1 true ae.1 ae.2 ad.1 ad.2.1 ad.2.2 aa.1 aa.2.1 aa.2.2.2.1 aa.2.2.2.2 ab.1 ab.2.1 ab.2.2))) else (laws_FnTurns.j0 k aa.2.2.1 true ae.1 ae.2 ad.1 ad.2.1 ad.2.2 aa.1 aa.2.1 aa.2.2.2.1 aa.2.2.2.2 ab.1 ab.2.1 ab.2.2))))))))))=some r:=h
 clear h
 replace H:=Option.bind_eq_some_iff.mp H
 obtain⟨aR,cc,H⟩:=H
 replace H:(if aR=true then (some true) else ((spec_DrawNewRing.f k l0).bind fun ae=>((impl_NewRing.f k ae.1 ae.2).bind fun ad=>((spec_DrawTurnRing.f k l0).bind fun aa=>((impl_TurnRing.f k aa.1 aa.2.1 aa.2.2.1 aa.2.2.2.1 aa.2.2.2.2).bind fun ab=>((spec_DrawSameRings.f k l0).bind fun ac=>((spec_NewRing.f ae.1 ae.2).bind fun aj=>(if ad.1=aj.1 then ((spec_TurnRing.f k aa.1 aa.2.1 aa.2.2.1 aa.2.2.2.1 aa.2.2.2.2).bind fun ai=>(if ab.1=ai.1 then ((impl_SameRings.f ac.1 ac.2.1 ac.2.2.1 ac.2.2.2).bind fun ah=>((spec_SameRings.f ac.1 ac.2.1 ac.2.2.1 ac.2.2.2).bind fun ag=>(laws_FnTurns.j0 k aa.2.2.1 (ah != ag) ae.1 ae.2 ad.1 ad.2.1 ad.2.2 aa.1 aa.2.1 aa.2.2.2.1 aa.2.2.2.2 ab.1 ab.2.1 ab.2.2))) else (laws_FnTurns.j0 k aa.2.2.1 true ae.1 ae.2 ad.1 ad.2.1 ad.2.2 aa.1 aa.2.1 aa.2.2.2.1 aa.2.2.2.2 ab.1 ab.2.1 ab.2.2))) else (laws_FnTurns.j0 k aa.2.2.1 true ae.1 ae.2 ad.1 ad.2.1 ad.2.2 aa.1 aa.2.1 aa.2.2.2.1 aa.2.2.2.2 ab.1 ab.2.1 ab.2.2)))))))))=some r:=H
 have A2:=zz3 cc
 clear cc
 by_cases c3:aR=true
 ·subst c3
  have H1:(some true)=some r:=by rw[if_pos rfl] at H;exact H
  clear H
  have H:=H1
  clear H1
  obtain rfl:=Option.some.inj H
  go_enter Try.func3,Try.ntmps3
  go_wp2_with (first|((with_reducible refine gate_callee (f:=15) rfl ?_);refine goesL_ (some 12) rfl rfl Try.func15 (by kernel_rfl) rfl #[.slice A0 l0.length c0] rfl zq32 ?_;(with_reducible refine(laws_lwBig.calls _ _ l0 true _ ?side1 ?side2 A2.out).mono ?_);(case side1=>exact zq188);(case side2=>exact aW.out);rintro e w' ⟨rfl,⟨nd,rfl⟩⟩;refine⟨_,rfl,?_⟩))
  go_ret
  exact⟨zq202,by repeat (first|(with_reducible first|exact HB.out|apply by3|apply ay3|apply cy3)|exact HB.out)⟩
 ·replace c3:=Bool.eq_false_iff.mpr c3
  subst c3
  have H1:((spec_DrawNewRing.f k l0).bind fun ae=>((impl_NewRing.f k ae.1 ae.2).bind fun ad=>((spec_DrawTurnRing.f k l0).bind fun aa=>((impl_TurnRing.f k aa.1 aa.2.1 aa.2.2.1 aa.2.2.2.1 aa.2.2.2.2).bind fun ab=>((spec_DrawSameRings.f k l0).bind fun ac=>((spec_NewRing.f ae.1 ae.2).bind fun aj=>(if ad.1=aj.1 then ((spec_TurnRing.f k aa.1 aa.2.1 aa.2.2.1 aa.2.2.2.1 aa.2.2.2.2).bind fun ai=>(if ab.1=ai.1 then ((impl_SameRings.f ac.1 ac.2.1 ac.2.2.1 ac.2.2.2).bind fun ah=>((spec_SameRings.f ac.1 ac.2.1 ac.2.2.1 ac.2.2.2).bind fun ag=>(laws_FnTurns.j0 k aa.2.2.1 (ah != ag) ae.1 ae.2 ad.1 ad.2.1 ad.2.2 aa.1 aa.2.1 aa.2.2.2.1 aa.2.2.2.2 ab.1 ab.2.1 ab.2.2))) else (laws_FnTurns.j0 k aa.2.2.1 true ae.1 ae.2 ad.1 ad.2.1 ad.2.2 aa.1 aa.2.1 aa.2.2.2.1 aa.2.2.2.2 ab.1 ab.2.1 ab.2.2))) else (laws_FnTurns.j0 k aa.2.2.1 true ae.1 ae.2 ad.1 ad.2.1 ad.2.2 aa.1 aa.2.1 aa.2.2.2.1 aa.2.2.2.2 ab.1 ab.2.1 ab.2.2))))))))=some r:=by rw[if_neg (show ¬ (false=true) by decide)] at H;exact H
  clear H
  have H:=H1
  clear H1
  replace H:=Option.bind_eq_some_iff.mp H
  obtain⟨⟨t318,t319⟩,cd,H⟩:=H
  replace H:((impl_NewRing.f k t318 t319).bind fun ad=>((spec_DrawTurnRing.f k l0).bind fun aa=>((impl_TurnRing.f k aa.1 aa.2.1 aa.2.2.1 aa.2.2.2.1 aa.2.2.2.2).bind fun ab=>((spec_DrawSameRings.f k l0).bind fun ac=>((spec_NewRing.f t318 t319).bind fun aj=>(if ad.1=aj.1 then ((spec_TurnRing.f k aa.1 aa.2.1 aa.2.2.1 aa.2.2.2.1 aa.2.2.2.2).bind fun ai=>(if ab.1=ai.1 then ((impl_SameRings.f ac.1 ac.2.1 ac.2.2.1 ac.2.2.2).bind fun ah=>((spec_SameRings.f ac.1 ac.2.1 ac.2.2.1 ac.2.2.2).bind fun ag=>(laws_FnTurns.j0 k aa.2.2.1 (ah != ag) t318 t319 ad.1 ad.2.1 ad.2.2 aa.1 aa.2.1 aa.2.2.2.1 aa.2.2.2.2 ab.1 ab.2.1 ab.2.2))) else (laws_FnTurns.j0 k aa.2.2.1 true t318 t319 ad.1 ad.2.1 ad.2.2 aa.1 aa.2.1 aa.2.2.2.1 aa.2.2.2.2 ab.1 ab.2.1 ab.2.2))) else (laws_FnTurns.j0 k aa.2.2.1 true t318 t319 ad.1 ad.2.1 ad.2.2 aa.1 aa.2.1 aa.2.2.2.1 aa.2.2.2.2 ab.1 ab.2.1 ab.2.2)))))))=some r:=H
  have A4:=zz3 cd
  clear cd
  replace H:=Option.bind_eq_some_iff.mp H
  obtain⟨⟨t323,t324,t325⟩,ce,H⟩:=H
  replace H:((spec_DrawTurnRing.f k l0).bind fun aa=>((impl_TurnRing.f k aa.1 aa.2.1 aa.2.2.1 aa.2.2.2.1 aa.2.2.2.2).bind fun ab=>((spec_DrawSameRings.f k l0).bind fun ac=>((spec_NewRing.f t318 t319).bind fun aj=>(if t323=aj.1 then ((spec_TurnRing.f k aa.1 aa.2.1 aa.2.2.1 aa.2.2.2.1 aa.2.2.2.2).bind fun ai=>(if ab.1=ai.1 then ((impl_SameRings.f ac.1 ac.2.1 ac.2.2.1 ac.2.2.2).bind fun ah=>((spec_SameRings.f ac.1 ac.2.1 ac.2.2.1 ac.2.2.2).bind fun ag=>(laws_FnTurns.j0 k aa.2.2.1 (ah != ag) t318 t319 t323 t324 t325 aa.1 aa.2.1 aa.2.2.2.1 aa.2.2.2.2 ab.1 ab.2.1 ab.2.2))) else (laws_FnTurns.j0 k aa.2.2.1 true t318 t319 t323 t324 t325 aa.1 aa.2.1 aa.2.2.2.1 aa.2.2.2.2 ab.1 ab.2.1 ab.2.2))) else (laws_FnTurns.j0 k aa.2.2.1 true t318 t319 t323 t324 t325 aa.1 aa.2.1 aa.2.2.2.1 aa.2.2.2.2 ab.1 ab.2.1 ab.2.2))))))=some r:=H
  have A5:=zz3 ce
  clear ce
  replace H:=Option.bind_eq_some_iff.mp H
  obtain⟨⟨t329,t330,af,t334,t335⟩,cf,H⟩:=H
  replace H:((impl_TurnRing.f k t329 t330 af t334 t335).bind fun ab=>((spec_DrawSameRings.f k l0).bind fun ac=>((spec_NewRing.f t318 t319).bind fun aj=>(if t323=aj.1 then ((spec_TurnRing.f k t329 t330 af t334 t335).bind fun ai=>(if ab.1=ai.1 then ((impl_SameRings.f ac.1 ac.2.1 ac.2.2.1 ac.2.2.2).bind fun ah=>((spec_SameRings.f ac.1 ac.2.1 ac.2.2.1 ac.2.2.2).bind fun ag=>(laws_FnTurns.j0 k af (ah != ag) t318 t319 t323 t324 t325 t329 t330 t334 t335 ab.1 ab.2.1 ab.2.2))) else (laws_FnTurns.j0 k af true t318 t319 t323 t324 t325 t329 t330 t334 t335 ab.1 ab.2.1 ab.2.2))) else (laws_FnTurns.j0 k af true t318 t319 t323 t324 t325 t329 t330 t334 t335 ab.1 ab.2.1 ab.2.2)))))=some r:=H
  have A6:=zz3 cf
  clear cf
  replace H:=Option.bind_eq_some_iff.mp H
  obtain⟨⟨t340,t341,t342⟩,cg,H⟩:=H
  replace H:((spec_DrawSameRings.f k l0).bind fun ac=>((spec_NewRing.f t318 t319).bind fun aj=>(if t323=aj.1 then ((spec_TurnRing.f k t329 t330 af t334 t335).bind fun ai=>(if t340=ai.1 then ((impl_SameRings.f ac.1 ac.2.1 ac.2.2.1 ac.2.2.2).bind fun ah=>((spec_SameRings.f ac.1 ac.2.1 ac.2.2.1 ac.2.2.2).bind fun ag=>(laws_FnTurns.j0 k af (ah != ag) t318 t319 t323 t324 t325 t329 t330 t334 t335 t340 t341 t342))) else (laws_FnTurns.j0 k af true t318 t319 t323 t324 t325 t329 t330 t334 t335 t340 t341 t342))) else (laws_FnTurns.j0 k af true t318 t319 t323 t324 t325 t329 t330 t334 t335 t340 t341 t342))))=some r:=H
  have A7:=zz3 cg
  clear cg
  replace H:=Option.bind_eq_some_iff.mp H
  obtain⟨⟨t346,t347,t350,t351⟩,ch,H⟩:=H
  replace H:((spec_NewRing.f t318 t319).bind fun aj=>(if t323=aj.1 then ((spec_TurnRing.f k t329 t330 af t334 t335).bind fun ai=>(if t340=ai.1 then ((impl_SameRings.f t346 t347 t350 t351).bind fun ah=>((spec_SameRings.f t346 t347 t350 t351).bind fun ag=>(laws_FnTurns.j0 k af (ah != ag) t318 t319 t323 t324 t325 t329 t330 t334 t335 t340 t341 t342))) else (laws_FnTurns.j0 k af true t318 t319 t323 t324 t325 t329 t330 t334 t335 t340 t341 t342))) else (laws_FnTurns.j0 k af true t318 t319 t323 t324 t325 t329 t330 t334 t335 t340 t341 t342)))=some r:=H
  have A8:=zz3 ch
  clear ch
  have bU:=zz3 H
  clear H
  go_enter Try.func3,Try.ntmps3
  go_upto_region 8 with (first|((with_reducible refine gate_callee (f:=15) rfl ?_);refine goesL_ (some 12) rfl rfl Try.func15 (by kernel_rfl) rfl #[.slice A0 l0.length c0] rfl zq32 ?_;(with_reducible refine(laws_lwBig.calls _ _ l0 false _ ?side1 ?side2 A2.out).mono ?_);(case side1=>exact zq188);(case side2=>exact aW.out);rintro e w' ⟨rfl,⟨nd,rfl⟩⟩;refine⟨_,rfl,?_⟩)|((with_reducible refine gate_callee (f:=16) rfl ?_);refine goesL_ (some 14) rfl rfl Try.func16 (by kernel_rfl) rfl #[.slice A0 l0.length c0] rfl zq32 ?_;(with_reducible refine(spec_DrawNewRing.calls k _ _ l0 t318 t319 _ ?side1 ?side2 A4.out).mono ?_);(case side1=>exact zq188);(case side2=>exact aW.out);rintro e w10 ⟨v320,rfl,ho0,hb⟩;refine⟨_,rfl,?_⟩;have n0_:=zz3 (Kd.Q_lower ho0 (below_size zq167));have n1_:=zz3 (below_step zq167 hb);clear HB;have HO321:=n0_;have HB:=n1_;clear n0_ n1_;(try clear hb);(try clear hb2);(try clear hk);(try clear hi);(try clear ho0))|((with_reducible refine gate_dst (N:=3) rfl ?_);(try (refine gate_guard zq145 ?_;dsimp only));refine box_event ?hg (N:=3) ?hd (cs:=#[.int .i64 0,.slice none 0 0]) (t:=25) ?hr ?_;(case hd=>rfl);(case hg=>rfl);(case hr=>first|(go_simp;done)|(go_simp;rfl));intro gb322 hg w11 hbox hb;have n0_:=zz3 (Kd.Q_below zq43 hb);have n1_:=zz3 (below_step zq167 hb);have n2_:=zz3 (hbox);have n3_:=zz3 ((by rw[hg];exact(below_size zq167):w.heap.size≤gb322));have n4_:=zz3 ((by rw[hg];exact(below_size zq167):w.heap.size≤gb322));clear HO321;clear HB;have HO321:=n0_;have HB:=n1_;have BK322:=n2_;have GW322:=n3_;have GE322:=n4_;clear n0_ n1_ n2_ n3_ n4_;clear hb hbox hg;have cn:w11.cell? ⟨gb322,0,none⟩=some (.int .i64 0):=(blk_cell BK322.out 0).trans rfl;have co:w11.cell? ⟨gb322,1,none⟩=some (.slice none 0 0):=(blk_cell BK322.out 1).trans rfl;have cp:=blk_frozen BK322.out 0;have cq:=blk_frozen BK322.out 1;obtain⟨Ao13,co13,eo13,_⟩:=Kd.Q_slice HO321.out;subst eo13)|((with_reducible refine gate_callee (f:=17) rfl ?_);refine goesL_ (some 16) rfl rfl Try.func17 (by kernel_rfl) rfl #[.agg #[.int .i64 t318,.slice Ao13 t319.length co13]] rfl zq32 ?_;(with_reducible refine(impl_NewRing.calls k t318 _ _ t319 t323 t324 t325 _ ?side1 ?side2 A5.out).mono ?_);(case side1=>refine(Kd.Q_reads' (e:=5) (base:=w.heap.size) (ok:=fun k_=>True) (n:=t319.length) (c:=co13) ?_).2.2;exact zq125);(case side2=>exact(Kd.Q_reads' HO321.out).2.1);rintro e w14 ⟨v326,rfl,ho0,hb⟩;refine⟨_,rfl,?_⟩;have n0_:=zz3 (Kd.Q_below zq125 hb);have n1_:=zz3 (Kd.S_lower (Kd.S_newB (Kd.S_new' ho0 (Kd.Q_lt zq125)) (g:=gb322) (o:=.cells #[.int .i64 t318,.slice Ao13 t319.length co13] 25 (0,0)) zq164) (below_size zq144));have n2_:=zz3 (hy3 (g:=gb322) (o:=.cells #[.int .i64 t318,.slice Ao13 t319.length co13] 25 (0,0)) zq164 hb);have n3_:=zz3 (below_step zq144 hb);clear HO321;clear BK322;clear HB;have HO321:=n0_;have HO327:=n1_;have BK322:=n2_;have HB:=n3_;clear n0_ n1_ n2_ n3_;(try clear hb);(try clear hb2);(try clear hk);(try clear hi);(try clear ho0))|((with_reducible refine gate_dst (N:=4) rfl ?_);(try (refine gate_guard zq145 ?_;dsimp only));refine box_event ?hg (N:=4) ?hd (cs:=#[.int .i64 0,.int .i64 0,.slice none 0 0]) (t:=31) ?hr ?_;(case hd=>rfl);(case hg=>rfl);(case hr=>first|(go_simp;done)|(go_simp;rfl));intro gb328 hg w15 hbox hb;have n0_:=zz3 (Kd.Q_below zq43 hb);have n1_:=zz3 (Kd.S_below zq45 hb);have n2_:=zz3 (hy3 (g:=gb322) (o:=.cells #[.int .i64 t318,.slice Ao13 t319.length co13] 25 (0,0)) zq19 hb);have n3_:=zz3 (below_step zq144 hb);have n4_:=zz3 (hbox);have n5_:=zz3 ((by rw[hg];exact(below_size zq144):w.heap.size≤gb328));have n6_:=zz3 ((by rw[hg];exact(below_size zq144):w.heap.size≤gb328));have n7_:=zz3 ((by rw[hg];exact Nat.ne_of_lt (blk_lt (g:=gb322) (o:=.cells #[.int .i64 t318,.slice Ao13 t319.length co13] 25 (0,0)) zq19):gb322≠gb328));have n8_:=zz3 ((by rw[hg];exact Nat.ne_of_gt (blk_lt (g:=gb322) (o:=.cells #[.int .i64 t318,.slice Ao13 t319.length co13] 25 (0,0)) zq19):gb328≠gb322));clear HO321;clear HO327;clear BK322;clear HB;have HO321:=n0_;have HO327:=n1_;have BK322:=n2_;have HB:=n3_;have BK328:=n4_;have GW328:=n5_;have GE328:=n6_;have NB322_328:=n7_;have am:=n8_;clear n0_ n1_ n2_ n3_ n4_ n5_ n6_ n7_ n8_;clear hb hbox hg;have dW:=am.out;have dX:=NB322_328.out;have cr:w15.cell? ⟨gb328,0,none⟩=some (.int .i64 0):=(blk_cell BK328.out 0).trans rfl;have ct:w15.cell? ⟨gb328,1,none⟩=some (.int .i64 0):=(blk_cell BK328.out 1).trans rfl;have cu:w15.cell? ⟨gb328,2,none⟩=some (.slice none 0 0):=(blk_cell BK328.out 2).trans rfl;have cv:=blk_frozen BK328.out 0;have cw:=blk_frozen BK328.out 1;have cx:=blk_frozen BK328.out 2;obtain⟨Ao18,co18,eo18⟩:=Kd.S_slice HO327.out;subst eo18)|((with_reducible refine gate_callee (f:=18) rfl ?_);refine goesL_ (some 19) rfl rfl Try.func18 (by kernel_rfl) rfl #[.slice A0 l0.length c0] rfl zq32 ?_;(with_reducible refine(spec_DrawTurnRing.calls k _ _ l0 t329 t330 af t334 t335 _ ?side1 ?side2 A6.out).mono ?_);(case side1=>exact Kd.C_below HR0.out zq100);(case side2=>exact aW.out);rintro e w19 ⟨v331,v336,rfl,ho0,ho1,hb⟩;refine⟨_,rfl,?_⟩;have n0_:=zz3 (Kd.Q_elder' zq115 (Kd.Q_base ho1) hb);have n1_:=zz3 (Kd.S_elder' zq165 (Kd.Q_base ho1) hb);have n2_:=zz3 (Kd.V_lower (Kd.V_mono (ok':=fun k_=>some k_≠(v336:Value).ownBlock∧some k_≠(.slice Ao13 t319.length co13:Value).ownBlock∧some k_≠(.slice Ao18 t325.length co18:Value).ownBlock∧k_≠gb322∧k_≠gb328) ho0 (fun k_ hk_=>⟨hk_.2,(Kd.fresh' (Kd.Q_lt zq115) k_ hk_.1),(Kd.fresh' (Kd.S_lt zq165) k_ hk_.1),(Kd.freshB (g:=gb322) (o:=.cells #[.int .i64 t318,.slice Ao13 t319.length co13] 25 (0,0)) zq149 k_ hk_.1),(Kd.freshB (g:=gb328) (o:=.cells #[.int .i64 t323,.int .i64 t324,.slice Ao18 t325.length co18] 31 (0,0)) zq134 k_ hk_.1)⟩)) (below_size zq100));have n3_:=zz3 (Kd.Q_lower (Kd.Q_new' (Kd.Q_mono (ok':=fun k_=>True) ho1 (fun _ hk_=>trivial)) (Kd.Q_lt zq115)) (below_size zq100));have n4_:=zz3 (hy3 (g:=gb322) (o:=.cells #[.int .i64 t318,.slice Ao13 t319.length co13] 25 (0,0)) zq149 hb);have n5_:=zz3 (hy3 (g:=gb328) (o:=.cells #[.int .i64 t323,.int .i64 t324,.slice Ao18 t325.length co18] 31 (0,0)) zq134 hb);have n6_:=zz3 (below_step zq100 hb);clear HO321;clear HO327;clear BK322;clear BK328;clear HB;have HO321:=n0_;have HO327:=n1_;have HO332:=n2_;have HO337:=n3_;have BK322:=n4_;have BK328:=n5_;have HB:=n6_;clear n0_ n1_ n2_ n3_ n4_ n5_ n6_;(try clear hb);(try clear hb2);(try clear hk);(try clear hi);(try clear ho0);(try clear ho1))|((with_reducible refine gate_dst (N:=5) rfl ?_);(try (refine gate_guard zq145 ?_;dsimp only));refine box_event ?hg (N:=5) ?hd (cs:=#[.int .i64 0,.slice none 0 0]) (t:=29) ?hr ?_;(case hd=>rfl);(case hg=>rfl);(case hr=>first|(go_simp;done)|(go_simp;rfl));intro gb338 hg w20 hbox hb;have n0_:=zz3 (Kd.Q_below zq43 hb);have n1_:=zz3 (Kd.S_below zq45 hb);have n2_:=zz3 (Kd.V_below (Kd.V_elderB zq81 gb338 (Nat.le_of_eq hg.symm)) hb);have n3_:=zz3 (Kd.Q_below zq50 hb);have n4_:=zz3 (hy3 (g:=gb322) (o:=.cells #[.int .i64 t318,.slice Ao13 t319.length co13] 25 (0,0)) zq19 hb);have n5_:=zz3 (hy3 (g:=gb328) (o:=.cells #[.int .i64 t323,.int .i64 t324,.slice Ao18 t325.length co18] 31 (0,0)) zq24 hb);have n6_:=zz3 (below_step zq100 hb);have n7_:=zz3 (hbox);have n8_:=zz3 ((by rw[hg];exact(below_size zq100):w.heap.size≤gb338));have n9_:=zz3 ((by rw[hg];exact(below_size zq100):w.heap.size≤gb338));have n10_:=zz3 ((by rw[hg];exact Nat.ne_of_lt (blk_lt (g:=gb322) (o:=.cells #[.int .i64 t318,.slice Ao13 t319.length co13] 25 (0,0)) zq19):gb322≠gb338));have n11_:=zz3 ((by rw[hg];exact Nat.ne_of_gt (blk_lt (g:=gb322) (o:=.cells #[.int .i64 t318,.slice Ao13 t319.length co13] 25 (0,0)) zq19):gb338≠gb322));have n12_:=zz3 ((by rw[hg];exact Nat.ne_of_lt (blk_lt (g:=gb328) (o:=.cells #[.int .i64 t323,.int .i64 t324,.slice Ao18 t325.length co18] 31 (0,0)) zq24):gb328≠gb338));have n13_:=zz3 ((by rw[hg];exact Nat.ne_of_gt (blk_lt (g:=gb328) (o:=.cells #[.int .i64 t323,.int .i64 t324,.slice Ao18 t325.length co18] 31 (0,0)) zq24):gb338≠gb328));clear HO321;clear HO327;clear HO332;clear HO337;clear BK322;clear BK328;clear HB;have HO321:=n0_;have HO327:=n1_;have HO332:=n2_;have HO337:=n3_;have BK322:=n4_;have BK328:=n5_;have HB:=n6_;have BK338:=n7_;have GW338:=n8_;have GE338:=n9_;have NB322_338:=n10_;have au:=n11_;have ak:=n12_;have an:=n13_;clear n0_ n1_ n2_ n3_ n4_ n5_ n6_ n7_ n8_ n9_ n10_ n11_ n12_ n13_;clear hb hbox hg)|((with_reducible refine gate_dst (N:=7) rfl ?_);(try (refine gate_guard zq145 ?_;dsimp only));refine box_event ?hg (N:=7) ?hd (cs:=#[.int .i64 0,.slice none 0 0]) (t:=25) ?hr ?_;(case hd=>rfl);(case hg=>rfl);(case hr=>first|(go_simp;done)|(go_simp;rfl));intro gb339 hg w21 hbox hb;have n0_:=zz3 (Kd.Q_below zq43 hb);have n1_:=zz3 (Kd.S_below (Kd.S_elderB zq45 gb339 (Nat.le_of_eq hg.symm)) hb);have n2_:=zz3 (Kd.V_below (Kd.V_elderB zq81 gb339 (Nat.le_of_eq hg.symm)) hb);have n3_:=zz3 (Kd.Q_below zq50 hb);have n4_:=zz3 (hy3 (g:=gb322) (o:=.cells #[.int .i64 t318,.slice Ao13 t319.length co13] 25 (0,0)) zq19 hb);have n5_:=zz3 (hy3 (g:=gb328) (o:=.cells #[.int .i64 t323,.int .i64 t324,.slice Ao18 t325.length co18] 31 (0,0)) zq24 hb);have n6_:=zz3 (hy3 (g:=gb338) (o:=.cells #[.int .i64 0,.slice none 0 0] 29 (0,0)) zq31 hb);have n7_:=zz3 (below_step zq176 hb);have n8_:=zz3 (hbox);have n9_:=zz3 ((by rw[hg];exact(below_size zq176):w.heap.size≤gb339));have n10_:=zz3 ((by rw[hg];exact(below_size zq176):w.heap.size≤gb339));have n11_:=zz3 ((by rw[hg];exact Nat.ne_of_lt (blk_lt (g:=gb322) (o:=.cells #[.int .i64 t318,.slice Ao13 t319.length co13] 25 (0,0)) zq19):gb322≠gb339));have n12_:=zz3 ((by rw[hg];exact Nat.ne_of_gt (blk_lt (g:=gb322) (o:=.cells #[.int .i64 t318,.slice Ao13 t319.length co13] 25 (0,0)) zq19):gb339≠gb322));have n13_:=zz3 ((by rw[hg];exact Nat.ne_of_lt (blk_lt (g:=gb328) (o:=.cells #[.int .i64 t323,.int .i64 t324,.slice Ao18 t325.length co18] 31 (0,0)) zq24):gb328≠gb339));have n14_:=zz3 ((by rw[hg];exact Nat.ne_of_gt (blk_lt (g:=gb328) (o:=.cells #[.int .i64 t323,.int .i64 t324,.slice Ao18 t325.length co18] 31 (0,0)) zq24):gb339≠gb328));have n15_:=zz3 ((by rw[hg];exact Nat.ne_of_lt (blk_lt (g:=gb338) (o:=.cells #[.int .i64 0,.slice none 0 0] 29 (0,0)) zq31):gb338≠gb339));have n16_:=zz3 ((by rw[hg];exact Nat.ne_of_gt (blk_lt (g:=gb338) (o:=.cells #[.int .i64 0,.slice none 0 0] 29 (0,0)) zq31):gb339≠gb338));clear HO321;clear HO327;clear HO332;clear HO337;clear BK322;clear BK328;clear BK338;clear HB;have HO321:=n0_;have HO327:=n1_;have HO332:=n2_;have HO337:=n3_;have BK322:=n4_;have BK328:=n5_;have BK338:=n6_;have HB:=n7_;have BK339:=n8_;have GW339:=n9_;have GE339:=n10_;have NB322_339:=n11_;have av:=n12_;have al:=n13_;have ao:=n14_;have aD:=n15_;have NB339_338:=n16_;clear n0_ n1_ n2_ n3_ n4_ n5_ n6_ n7_ n8_ n9_ n10_ n11_ n12_ n13_ n14_ n15_ n16_;clear hb hbox hg;have dY:=au.out;have dZ:=NB322_338.out;have d0:=an.out;have d1:=ak.out;have d2:=aD.out;have d3:=NB339_338.out;have cy:w21.cell? ⟨gb338,0,none⟩=some (.int .i64 0):=(blk_cell BK338.out 0).trans rfl;have cz:w21.cell? ⟨gb338,1,none⟩=some (.slice none 0 0):=(blk_cell BK338.out 1).trans rfl;have cA:=blk_frozen BK338.out 0;have cB:=blk_frozen BK338.out 1;obtain⟨Ao26,co26,eo26⟩:=Kd.V_slice HO332.out;subst eo26;have d4:=av.out;have d5:=NB322_339.out;have d6:=ao.out;have d7:=al.out;have cC:w21.cell? ⟨gb339,0,none⟩=some (.int .i64 0):=(blk_cell BK339.out 0).trans rfl;have cD:w21.cell? ⟨gb339,1,none⟩=some (.slice none 0 0):=(blk_cell BK339.out 1).trans rfl;have cE:=blk_frozen BK339.out 0;have cF:=blk_frozen BK339.out 1;obtain⟨Ao30,co30,eo30,_⟩:=Kd.Q_slice HO337.out;subst eo30)|((with_reducible refine gate_callee (f:=19) rfl ?_);refine goesL_ (some 26) rfl rfl Try.func19 (by kernel_rfl) rfl #[.agg #[.int .i64 t329,.slice Ao26 t330.length co26],.int .i64 af,.agg #[.int .i64 t334,.slice Ao30 t335.length co30]] rfl zq32 ?_;(with_reducible refine(impl_TurnRing.calls k t329 _ _ t330 af t334 _ _ t335 t340 t341 t342 _ ?side1 ?side2 ?side3 ?side4 A7.out).mono ?_);(case side1=>refine(Kd.V_reads' (e:=25) (base:=w.heap.size) (ok:=fun k_=>(((some k_≠(.slice Ao30 t335.length co30:Value).ownBlock∧(some k_≠(.slice Ao13 t319.length co13:Value).ownBlock∧(some k_≠(.slice Ao18 t325.length co18:Value).ownBlock∧(k_≠gb322∧k_≠gb328))))∧k_≠gb338)∧k_≠gb339)) (n:=t330.length) (c:=co26) ?_).2.2;exact zq127);(case side2=>exact(Kd.V_reads' HO332.out).2.1);(case side3=>refine(Kd.Q_reads' (e:=5) (base:=w.heap.size) (ok:=fun k_=>(True∧some k_≠(.slice Ao13 t319.length co13:Value).ownBlock)) (n:=t335.length) (c:=co30) ?_).2.2;exact zq83);(case side4=>exact(Kd.Q_reads' HO337.out).2.1);rintro e w31 ⟨v343,rfl,ho0,hb⟩;refine⟨_,rfl,?_⟩;have n0_:=zz3 (Kd.Q_below zq137 hb);have n1_:=zz3 (Kd.S_elder' zq135 (Kd.S_base ho0) hb);have n2_:=zz3 (Kd.V_elder' zq127 (Kd.S_base ho0) hb);have n3_:=zz3 (Kd.Q_below zq83 hb);have n4_:=zz3 (Kd.S_lower (Kd.S_newB (Kd.S_newB (Kd.S_new' (Kd.S_new' (Kd.S_new' ho0 (Kd.Q_lt zq137)) (Kd.S_lt zq135)) (Kd.Q_lt zq83)) (g:=gb322) (o:=.cells #[.int .i64 t318,.slice Ao13 t319.length co13] 25 (0,0)) zq136) (g:=gb339) (o:=.cells #[.int .i64 t334,.slice Ao30 t335.length co30] 25 (0,0)) zq126) (below_size zq114));have n5_:=zz3 (hy3 (g:=gb322) (o:=.cells #[.int .i64 t318,.slice Ao13 t319.length co13] 25 (0,0)) zq136 hb);have n6_:=zz3 (hy3 (g:=gb328) (o:=.cells #[.int .i64 t323,.int .i64 t324,.slice Ao18 t325.length co18] 31 (0,0)) (by(with_reducible repeat (first|refine ey3 ?_ _|refine gy3 ?_|refine fy3 ?_ _));refine blk_far ?_ al.out _;(with_reducible repeat (first|refine ey3 ?_ _|refine gy3 ?_|refine fy3 ?_ _));refine blk_far ?_ al.out _;(with_reducible repeat (first|refine ey3 ?_ _|refine gy3 ?_|refine fy3 ?_ _));refine blk_far ?_ ak.out _;(with_reducible repeat (first|refine ey3 ?_ _|refine gy3 ?_|refine fy3 ?_ _));refine blk_far ?_ ak.out _;(with_reducible repeat (first|refine ey3 ?_ _|refine gy3 ?_|refine fy3 ?_ _));exact BK328.out) hb);have n7_:=zz3 (hy3 (g:=gb338) (o:=.cells #[.int .i64 t329,.slice Ao26 t330.length co26] 29 (0,0)) (by(with_reducible repeat (first|refine ey3 ?_ _|refine gy3 ?_|refine fy3 ?_ _));refine blk_far ?_ aD.out _;(with_reducible repeat (first|refine ey3 ?_ _|refine gy3 ?_|refine fy3 ?_ _));refine blk_far ?_ aD.out _;(with_reducible repeat (first|refine ey3 ?_ _|refine gy3 ?_|refine fy3 ?_ _));refine blk_put (cs:=#[.int .i64 t329,.slice none 0 0]) ?_ 1 _ rfl;(with_reducible repeat (first|refine ey3 ?_ _|refine gy3 ?_|refine fy3 ?_ _));refine blk_put (cs:=#[.int .i64 0,.slice none 0 0]) ?_ 0 _ rfl;(with_reducible repeat (first|refine ey3 ?_ _|refine gy3 ?_|refine fy3 ?_ _));exact BK338.out) hb);have n8_:=zz3 (hy3 (g:=gb339) (o:=.cells #[.int .i64 t334,.slice Ao30 t335.length co30] 25 (0,0)) zq126 hb);have n9_:=zz3 (below_step zq114 hb);clear HO321;clear HO327;clear HO332;clear HO337;clear BK322;clear BK328;clear BK338;clear BK339;clear HB;have HO321:=n0_;have HO327:=n1_;have HO332:=n2_;have HO337:=n3_;have HO344:=n4_;have BK322:=n5_;have BK328:=n6_;have BK338:=n7_;have BK339:=n8_;have HB:=n9_;clear n0_ n1_ n2_ n3_ n4_ n5_ n6_ n7_ n8_ n9_;(try clear hb);(try clear hb2);(try clear hk);(try clear hi);(try clear ho0))|((with_reducible refine gate_dst (N:=8) rfl ?_);(try (refine gate_guard zq145 ?_;dsimp only));refine box_event ?hg (N:=8) ?hd (cs:=#[.int .i64 0,.int .i64 0,.slice none 0 0]) (t:=31) ?hr ?_;(case hd=>rfl);(case hg=>rfl);(case hr=>first|(go_simp;done)|(go_simp;rfl));intro gb345 hg w32 hbox hb;have n0_:=zz3 (Kd.Q_below zq43 hb);have n1_:=zz3 (Kd.S_below zq45 hb);have n2_:=zz3 (Kd.V_below (Kd.V_elderB zq81 gb345 (Nat.le_of_eq hg.symm)) hb);have n3_:=zz3 (Kd.Q_below zq50 hb);have n4_:=zz3 (Kd.S_below zq57 hb);have n5_:=zz3 (hy3 (g:=gb322) (o:=.cells #[.int .i64 t318,.slice Ao13 t319.length co13] 25 (0,0)) zq19 hb);have n6_:=zz3 (hy3 (g:=gb328) (o:=.cells #[.int .i64 t323,.int .i64 t324,.slice Ao18 t325.length co18] 31 (0,0)) zq24 hb);have n7_:=zz3 (hy3 (g:=gb338) (o:=.cells #[.int .i64 t329,.slice Ao26 t330.length co26] 29 (0,0)) zq31 hb);have n8_:=zz3 (hy3 (g:=gb339) (o:=.cells #[.int .i64 t334,.slice Ao30 t335.length co30] 25 (0,0)) zq25 hb);have n9_:=zz3 (below_step zq114 hb);have n10_:=zz3 (hbox);have n11_:=zz3 ((by rw[hg];exact(below_size zq114):w.heap.size≤gb345));have n12_:=zz3 ((by rw[hg];exact(below_size zq114):w.heap.size≤gb345));have n13_:=zz3 ((by rw[hg];exact Nat.ne_of_lt (blk_lt (g:=gb322) (o:=.cells #[.int .i64 t318,.slice Ao13 t319.length co13] 25 (0,0)) zq19):gb322≠gb345));have n14_:=zz3 ((by rw[hg];exact Nat.ne_of_gt (blk_lt (g:=gb322) (o:=.cells #[.int .i64 t318,.slice Ao13 t319.length co13] 25 (0,0)) zq19):gb345≠gb322));have n15_:=zz3 ((by rw[hg];exact Nat.ne_of_lt (blk_lt (g:=gb328) (o:=.cells #[.int .i64 t323,.int .i64 t324,.slice Ao18 t325.length co18] 31 (0,0)) zq24):gb328≠gb345));have n16_:=zz3 ((by rw[hg];exact Nat.ne_of_gt (blk_lt (g:=gb328) (o:=.cells #[.int .i64 t323,.int .i64 t324,.slice Ao18 t325.length co18] 31 (0,0)) zq24):gb345≠gb328));have n17_:=zz3 ((by rw[hg];exact Nat.ne_of_lt (blk_lt (g:=gb338) (o:=.cells #[.int .i64 t329,.slice Ao26 t330.length co26] 29 (0,0)) zq31):gb338≠gb345));have n18_:=zz3 ((by rw[hg];exact Nat.ne_of_gt (blk_lt (g:=gb338) (o:=.cells #[.int .i64 t329,.slice Ao26 t330.length co26] 29 (0,0)) zq31):gb345≠gb338));have n19_:=zz3 ((by rw[hg];exact Nat.ne_of_lt (blk_lt (g:=gb339) (o:=.cells #[.int .i64 t334,.slice Ao30 t335.length co30] 25 (0,0)) zq25):gb339≠gb345));have n20_:=zz3 ((by rw[hg];exact Nat.ne_of_gt (blk_lt (g:=gb339) (o:=.cells #[.int .i64 t334,.slice Ao30 t335.length co30] 25 (0,0)) zq25):gb345≠gb339));clear HO321;clear HO327;clear HO332;clear HO337;clear HO344;clear BK322;clear BK328;clear BK338;clear BK339;clear HB;have HO321:=n0_;have HO327:=n1_;have HO332:=n2_;have HO337:=n3_;have HO344:=n4_;have BK322:=n5_;have BK328:=n6_;have BK338:=n7_;have BK339:=n8_;have HB:=n9_;have BK345:=n10_;have GW345:=n11_;have GE345:=n12_;have NB322_345:=n13_;have aw:=n14_;have NB328_345:=n15_;have ap:=n16_;have NB338_345:=n17_;have aX:=n18_;have NB339_345:=n19_;have aY:=n20_;clear n0_ n1_ n2_ n3_ n4_ n5_ n6_ n7_ n8_ n9_ n10_ n11_ n12_ n13_ n14_ n15_ n16_ n17_ n18_ n19_ n20_;clear hb hbox hg;have d8:=aw.out;have d9:=NB322_345.out;have ea:=ap.out;have eb:=NB328_345.out;have ec:=aX.out;have ed:=NB338_345.out;have ee:=aY.out;have ef:=NB339_345.out;have cG:w32.cell? ⟨gb345,0,none⟩=some (.int .i64 0):=(blk_cell BK345.out 0).trans rfl;have cH:w32.cell? ⟨gb345,1,none⟩=some (.int .i64 0):=(blk_cell BK345.out 1).trans rfl;have cI:w32.cell? ⟨gb345,2,none⟩=some (.slice none 0 0):=(blk_cell BK345.out 2).trans rfl;have cJ:=blk_frozen BK345.out 0;have cK:=blk_frozen BK345.out 1;have cL:=blk_frozen BK345.out 2;obtain⟨Ao38,co38,eo38⟩:=Kd.S_slice HO344.out;subst eo38)|((with_reducible refine gate_callee (f:=20) rfl ?_);refine goesL_ (some 29) rfl rfl Try.func20 (by kernel_rfl) rfl #[.slice A0 l0.length c0] rfl zq32 ?_;(with_reducible refine(spec_DrawSameRings.calls k _ _ l0 t346 t347 t350 t351 _ ?side1 ?side2 A8.out).mono ?_);(case side1=>exact Kd.C_below HR0.out zq61);(case side2=>exact aW.out);rintro e w39 ⟨v348,v352,rfl,ho0,ho1,hb⟩;refine⟨_,rfl,?_⟩;have n0_:=zz3 (Kd.Q_below zq116 hb);have n1_:=zz3 (Kd.S_below zq117 hb);have n2_:=zz3 (Kd.V_below (by(with_reducible repeat (first|apply Kd.V_alloc|apply Kd.V_drewN|apply Kd.V_drew));exact(Kd.V_mono (Kd.V_far (p:=⟨gb345,2,none⟩) (Kd.V_far (p:=⟨gb345,1,none⟩) (Kd.V_far (p:=⟨gb345,0,none⟩) (Kd.V_mono HO332.out (fun k_ hk=>(⟨hk,hk.2⟩:_∧k_≠gb345))) (fun _ hk=>hk.2) (.int .i64 t340)) (fun _ hk=>hk.2) (.int .i64 t341)) (fun _ hk=>hk.2) (.slice Ao38 t342.length co38)) (fun _ h_=>h_.1))) hb);have n3_:=zz3 (Kd.Q_below zq118 hb);have n4_:=zz3 (Kd.S_below zq119 hb);have n5_:=zz3 (Kd.V_lower (Kd.V_mono (ok':=fun k_=>some k_≠(.slice Ao13 t319.length co13:Value).ownBlock∧some k_≠(.slice Ao18 t325.length co18:Value).ownBlock∧some k_≠(.slice Ao30 t335.length co30:Value).ownBlock∧some k_≠(.slice Ao38 t342.length co38:Value).ownBlock∧k_≠gb322∧k_≠gb328∧k_≠gb338∧k_≠gb339∧k_≠gb345) ho0 (fun k_ hk_=>⟨(Kd.fresh' (Kd.Q_lt zq116) k_ hk_),(Kd.fresh' (Kd.S_lt zq117) k_ hk_),(Kd.fresh' (Kd.Q_lt zq118) k_ hk_),(Kd.fresh' (Kd.S_lt zq119) k_ hk_),(Kd.freshB (g:=gb322) (o:=.cells #[.int .i64 t318,.slice Ao13 t319.length co13] 25 (0,0)) zq96 k_ hk_),(Kd.freshB (g:=gb328) (o:=.cells #[.int .i64 t323,.int .i64 t324,.slice Ao18 t325.length co18] 31 (0,0)) zq97 k_ hk_),(Kd.freshB (g:=gb338) (o:=.cells #[.int .i64 t329,.slice Ao26 t330.length co26] 29 (0,0)) zq98 k_ hk_),(Kd.freshB (g:=gb339) (o:=.cells #[.int .i64 t334,.slice Ao30 t335.length co30] 25 (0,0)) zq99 k_ hk_),(Kd.freshB (g:=gb345) (o:=.cells #[.int .i64 t340,.int .i64 t341,.slice Ao38 t342.length co38] 31 (0,0)) zq75 k_ hk_)⟩)) (below_size zq61));have n6_:=zz3 (Kd.V_lower (Kd.V_mono (ok':=fun k_=>some k_≠(.slice Ao13 t319.length co13:Value).ownBlock∧some k_≠(.slice Ao18 t325.length co18:Value).ownBlock∧some k_≠(.slice Ao30 t335.length co30:Value).ownBlock∧some k_≠(.slice Ao38 t342.length co38:Value).ownBlock∧k_≠gb322∧k_≠gb328∧k_≠gb338∧k_≠gb339∧k_≠gb345) ho1 (fun k_ hk_=>⟨(Kd.fresh' (Kd.Q_lt zq116) k_ hk_),(Kd.fresh' (Kd.S_lt zq117) k_ hk_),(Kd.fresh' (Kd.Q_lt zq118) k_ hk_),(Kd.fresh' (Kd.S_lt zq119) k_ hk_),(Kd.freshB (g:=gb322) (o:=.cells #[.int .i64 t318,.slice Ao13 t319.length co13] 25 (0,0)) zq96 k_ hk_),(Kd.freshB (g:=gb328) (o:=.cells #[.int .i64 t323,.int .i64 t324,.slice Ao18 t325.length co18] 31 (0,0)) zq97 k_ hk_),(Kd.freshB (g:=gb338) (o:=.cells #[.int .i64 t329,.slice Ao26 t330.length co26] 29 (0,0)) zq98 k_ hk_),(Kd.freshB (g:=gb339) (o:=.cells #[.int .i64 t334,.slice Ao30 t335.length co30] 25 (0,0)) zq99 k_ hk_),(Kd.freshB (g:=gb345) (o:=.cells #[.int .i64 t340,.int .i64 t341,.slice Ao38 t342.length co38] 31 (0,0)) zq75 k_ hk_)⟩)) (below_size zq61));have n7_:=zz3 (hy3 (g:=gb322) (o:=.cells #[.int .i64 t318,.slice Ao13 t319.length co13] 25 (0,0)) zq96 hb);have n8_:=zz3 (hy3 (g:=gb328) (o:=.cells #[.int .i64 t323,.int .i64 t324,.slice Ao18 t325.length co18] 31 (0,0)) zq97 hb);have n9_:=zz3 (hy3 (g:=gb338) (o:=.cells #[.int .i64 t329,.slice Ao26 t330.length co26] 29 (0,0)) zq98 hb);have n10_:=zz3 (hy3 (g:=gb339) (o:=.cells #[.int .i64 t334,.slice Ao30 t335.length co30] 25 (0,0)) zq99 hb);have n11_:=zz3 (hy3 (g:=gb345) (o:=.cells #[.int .i64 t340,.int .i64 t341,.slice Ao38 t342.length co38] 31 (0,0)) zq75 hb);have n12_:=zz3 (below_step zq61 hb);clear HO321;clear HO327;clear HO332;clear HO337;clear HO344;clear BK322;clear BK328;clear BK338;clear BK339;clear BK345;clear HB;have HO321:=n0_;have HO327:=n1_;have HO332:=n2_;have HO337:=n3_;have HO344:=n4_;have HO349:=n5_;have HO353:=n6_;have BK322:=n7_;have BK328:=n8_;have BK338:=n9_;have BK339:=n10_;have BK345:=n11_;have HB:=n12_;clear n0_ n1_ n2_ n3_ n4_ n5_ n6_ n7_ n8_ n9_ n10_ n11_ n12_;(try clear hb);(try clear hb2);(try clear hk);(try clear hi);(try clear ho0);(try clear ho1))|((with_reducible refine gate_dst (N:=9) rfl ?_);(try (refine gate_guard zq145 ?_;dsimp only));refine box_event ?hg (N:=9) ?hd (cs:=#[.int .i64 0,.slice none 0 0]) (t:=29) ?hr ?_;(case hd=>rfl);(case hg=>rfl);(case hr=>first|(go_simp;done)|(go_simp;rfl));intro gb354 hg w40 hbox hb;have n0_:=zz3 (Kd.Q_below zq43 hb);have n1_:=zz3 (Kd.S_below zq45 hb);have n2_:=zz3 (Kd.V_below (Kd.V_elderB zq81 gb354 (Nat.le_of_eq hg.symm)) hb);have n3_:=zz3 (Kd.Q_below zq50 hb);have n4_:=zz3 (Kd.S_below zq57 hb);have n5_:=zz3 (Kd.V_below (Kd.V_elderB zq110 gb354 (Nat.le_of_eq hg.symm)) hb);have n6_:=zz3 (Kd.V_below (Kd.V_elderB zq111 gb354 (Nat.le_of_eq hg.symm)) hb);have n7_:=zz3 (hy3 (g:=gb322) (o:=.cells #[.int .i64 t318,.slice Ao13 t319.length co13] 25 (0,0)) zq19 hb);have n8_:=zz3 (hy3 (g:=gb328) (o:=.cells #[.int .i64 t323,.int .i64 t324,.slice Ao18 t325.length co18] 31 (0,0)) zq24 hb);have n9_:=zz3 (hy3 (g:=gb338) (o:=.cells #[.int .i64 t329,.slice Ao26 t330.length co26] 29 (0,0)) zq31 hb);have n10_:=zz3 (hy3 (g:=gb339) (o:=.cells #[.int .i64 t334,.slice Ao30 t335.length co30] 25 (0,0)) zq25 hb);have n11_:=zz3 (hy3 (g:=gb345) (o:=.cells #[.int .i64 t340,.int .i64 t341,.slice Ao38 t342.length co38] 31 (0,0)) zq55 hb);have n12_:=zz3 (below_step zq61 hb);have n13_:=zz3 (hbox);have n14_:=zz3 ((by rw[hg];exact(below_size zq61):w.heap.size≤gb354));have n15_:=zz3 ((by rw[hg];exact(below_size zq61):w.heap.size≤gb354));have n16_:=zz3 ((by rw[hg];exact Nat.ne_of_lt (blk_lt (g:=gb322) (o:=.cells #[.int .i64 t318,.slice Ao13 t319.length co13] 25 (0,0)) zq19):gb322≠gb354));have n17_:=zz3 ((by rw[hg];exact Nat.ne_of_gt (blk_lt (g:=gb322) (o:=.cells #[.int .i64 t318,.slice Ao13 t319.length co13] 25 (0,0)) zq19):gb354≠gb322));have n18_:=zz3 ((by rw[hg];exact Nat.ne_of_lt (blk_lt (g:=gb328) (o:=.cells #[.int .i64 t323,.int .i64 t324,.slice Ao18 t325.length co18] 31 (0,0)) zq24):gb328≠gb354));have n19_:=zz3 ((by rw[hg];exact Nat.ne_of_gt (blk_lt (g:=gb328) (o:=.cells #[.int .i64 t323,.int .i64 t324,.slice Ao18 t325.length co18] 31 (0,0)) zq24):gb354≠gb328));have n20_:=zz3 ((by rw[hg];exact Nat.ne_of_lt (blk_lt (g:=gb338) (o:=.cells #[.int .i64 t329,.slice Ao26 t330.length co26] 29 (0,0)) zq31):gb338≠gb354));have n21_:=zz3 ((by rw[hg];exact Nat.ne_of_gt (blk_lt (g:=gb338) (o:=.cells #[.int .i64 t329,.slice Ao26 t330.length co26] 29 (0,0)) zq31):gb354≠gb338));have n22_:=zz3 ((by rw[hg];exact Nat.ne_of_lt (blk_lt (g:=gb339) (o:=.cells #[.int .i64 t334,.slice Ao30 t335.length co30] 25 (0,0)) zq25):gb339≠gb354));have n23_:=zz3 ((by rw[hg];exact Nat.ne_of_gt (blk_lt (g:=gb339) (o:=.cells #[.int .i64 t334,.slice Ao30 t335.length co30] 25 (0,0)) zq25):gb354≠gb339));have n24_:=zz3 ((by rw[hg];exact Nat.ne_of_lt (blk_lt (g:=gb345) (o:=.cells #[.int .i64 t340,.int .i64 t341,.slice Ao38 t342.length co38] 31 (0,0)) zq55):gb345≠gb354));have n25_:=zz3 ((by rw[hg];exact Nat.ne_of_gt (blk_lt (g:=gb345) (o:=.cells #[.int .i64 t340,.int .i64 t341,.slice Ao38 t342.length co38] 31 (0,0)) zq55):gb354≠gb345));clear HO321;clear HO327;clear HO332;clear HO337;clear HO344;clear HO349;clear HO353;clear BK322;clear BK328;clear BK338;clear BK339;clear BK345;clear HB;have HO321:=n0_;have HO327:=n1_;have HO332:=n2_;have HO337:=n3_;have HO344:=n4_;have HO349:=n5_;have HO353:=n6_;have BK322:=n7_;have BK328:=n8_;have BK338:=n9_;have BK339:=n10_;have BK345:=n11_;have HB:=n12_;have BK354:=n13_;have GW354:=n14_;have GE354:=n15_;have NB322_354:=n16_;have ax:=n17_;have NB328_354:=n18_;have aq:=n19_;have NB338_354:=n20_;have aZ:=n21_;have NB339_354:=n22_;have a0:=n23_;have NB345_354:=n24_;have a1:=n25_;clear n0_ n1_ n2_ n3_ n4_ n5_ n6_ n7_ n8_ n9_ n10_ n11_ n12_ n13_ n14_ n15_ n16_ n17_ n18_ n19_ n20_ n21_ n22_ n23_ n24_ n25_;clear hb hbox hg)|((with_reducible refine gate_dst (N:=10) rfl ?_);(try (refine gate_guard zq145 ?_;dsimp only));refine box_event ?hg (N:=10) ?hd (cs:=#[.int .i64 0,.slice none 0 0]) (t:=29) ?hr ?_;(case hd=>rfl);(case hg=>rfl);(case hr=>first|(go_simp;done)|(go_simp;rfl));intro gb355 hg w41 hbox hb;have n0_:=zz3 (Kd.Q_below zq43 hb);have n1_:=zz3 (Kd.S_below zq45 hb);have n2_:=zz3 (Kd.V_below (Kd.V_elderB zq81 gb355 (Nat.le_of_eq hg.symm)) hb);have n3_:=zz3 (Kd.Q_below zq50 hb);have n4_:=zz3 (Kd.S_below zq57 hb);have n5_:=zz3 (Kd.V_below (Kd.V_elderB zq110 gb355 (Nat.le_of_eq hg.symm)) hb);have n6_:=zz3 (Kd.V_below (Kd.V_elderB zq111 gb355 (Nat.le_of_eq hg.symm)) hb);have n7_:=zz3 (hy3 (g:=gb322) (o:=.cells #[.int .i64 t318,.slice Ao13 t319.length co13] 25 (0,0)) zq19 hb);have n8_:=zz3 (hy3 (g:=gb328) (o:=.cells #[.int .i64 t323,.int .i64 t324,.slice Ao18 t325.length co18] 31 (0,0)) zq24 hb);have n9_:=zz3 (hy3 (g:=gb338) (o:=.cells #[.int .i64 t329,.slice Ao26 t330.length co26] 29 (0,0)) zq31 hb);have n10_:=zz3 (hy3 (g:=gb339) (o:=.cells #[.int .i64 t334,.slice Ao30 t335.length co30] 25 (0,0)) zq25 hb);have n11_:=zz3 (hy3 (g:=gb345) (o:=.cells #[.int .i64 t340,.int .i64 t341,.slice Ao38 t342.length co38] 31 (0,0)) zq55 hb);have n12_:=zz3 (hy3 (g:=gb354) (o:=.cells #[.int .i64 0,.slice none 0 0] 29 (0,0)) zq63 hb);have n13_:=zz3 (below_step zq140 hb);have n14_:=zz3 (hbox);have n15_:=zz3 ((by rw[hg];exact(below_size zq140):w.heap.size≤gb355));have n16_:=zz3 ((by rw[hg];exact(below_size zq140):w.heap.size≤gb355));have n17_:=zz3 ((by rw[hg];exact Nat.ne_of_lt (blk_lt (g:=gb322) (o:=.cells #[.int .i64 t318,.slice Ao13 t319.length co13] 25 (0,0)) zq19):gb322≠gb355));have n18_:=zz3 ((by rw[hg];exact Nat.ne_of_gt (blk_lt (g:=gb322) (o:=.cells #[.int .i64 t318,.slice Ao13 t319.length co13] 25 (0,0)) zq19):gb355≠gb322));have n19_:=zz3 ((by rw[hg];exact Nat.ne_of_lt (blk_lt (g:=gb328) (o:=.cells #[.int .i64 t323,.int .i64 t324,.slice Ao18 t325.length co18] 31 (0,0)) zq24):gb328≠gb355));have n20_:=zz3 ((by rw[hg];exact Nat.ne_of_gt (blk_lt (g:=gb328) (o:=.cells #[.int .i64 t323,.int .i64 t324,.slice Ao18 t325.length co18] 31 (0,0)) zq24):gb355≠gb328));have n21_:=zz3 ((by rw[hg];exact Nat.ne_of_lt (blk_lt (g:=gb338) (o:=.cells #[.int .i64 t329,.slice Ao26 t330.length co26] 29 (0,0)) zq31):gb338≠gb355));have n22_:=zz3 ((by rw[hg];exact Nat.ne_of_gt (blk_lt (g:=gb338) (o:=.cells #[.int .i64 t329,.slice Ao26 t330.length co26] 29 (0,0)) zq31):gb355≠gb338));have n23_:=zz3 ((by rw[hg];exact Nat.ne_of_lt (blk_lt (g:=gb339) (o:=.cells #[.int .i64 t334,.slice Ao30 t335.length co30] 25 (0,0)) zq25):gb339≠gb355));have n24_:=zz3 ((by rw[hg];exact Nat.ne_of_gt (blk_lt (g:=gb339) (o:=.cells #[.int .i64 t334,.slice Ao30 t335.length co30] 25 (0,0)) zq25):gb355≠gb339));have n25_:=zz3 ((by rw[hg];exact Nat.ne_of_lt (blk_lt (g:=gb345) (o:=.cells #[.int .i64 t340,.int .i64 t341,.slice Ao38 t342.length co38] 31 (0,0)) zq55):gb345≠gb355));have n26_:=zz3 ((by rw[hg];exact Nat.ne_of_gt (blk_lt (g:=gb345) (o:=.cells #[.int .i64 t340,.int .i64 t341,.slice Ao38 t342.length co38] 31 (0,0)) zq55):gb355≠gb345));have n27_:=zz3 ((by rw[hg];exact Nat.ne_of_lt (blk_lt (g:=gb354) (o:=.cells #[.int .i64 0,.slice none 0 0] 29 (0,0)) zq63):gb354≠gb355));have n28_:=zz3 ((by rw[hg];exact Nat.ne_of_gt (blk_lt (g:=gb354) (o:=.cells #[.int .i64 0,.slice none 0 0] 29 (0,0)) zq63):gb355≠gb354));clear HO321;clear HO327;clear HO332;clear HO337;clear HO344;clear HO349;clear HO353;clear BK322;clear BK328;clear BK338;clear BK339;clear BK345;clear BK354;clear HB;have HO321:=n0_;have HO327:=n1_;have HO332:=n2_;have HO337:=n3_;have HO344:=n4_;have HO349:=n5_;have HO353:=n6_;have BK322:=n7_;have BK328:=n8_;have BK338:=n9_;have BK339:=n10_;have BK345:=n11_;have BK354:=n12_;have HB:=n13_;have BK355:=n14_;have GW355:=n15_;have GE355:=n16_;have NB322_355:=n17_;have ay:=n18_;have NB328_355:=n19_;have ar:=n20_;have NB338_355:=n21_;have a2:=n22_;have NB339_355:=n23_;have a3:=n24_;have NB345_355:=n25_;have a4:=n26_;have NB354_355:=n27_;have NB355_354:=n28_;clear n0_ n1_ n2_ n3_ n4_ n5_ n6_ n7_ n8_ n9_ n10_ n11_ n12_ n13_ n14_ n15_ n16_ n17_ n18_ n19_ n20_ n21_ n22_ n23_ n24_ n25_ n26_ n27_ n28_;clear hb hbox hg;have eg:=ax.out;have eh:=NB322_354.out;have ei:=aq.out;have ej:=NB328_354.out;have ek:=aZ.out;have el:=NB338_354.out;have em:=a0.out;have en:=NB339_354.out;have eo:=a1.out;have ep:=NB345_354.out;have eq:=NB354_355.out;have er:=NB355_354.out;have cM:w41.cell? ⟨gb354,0,none⟩=some (.int .i64 0):=(blk_cell BK354.out 0).trans rfl;have cN:w41.cell? ⟨gb354,1,none⟩=some (.slice none 0 0):=(blk_cell BK354.out 1).trans rfl;have cO:=blk_frozen BK354.out 0;have cP:=blk_frozen BK354.out 1;obtain⟨Ao49,co49,eo49⟩:=Kd.V_slice HO349.out;subst eo49;have es:=ay.out;have et:=NB322_355.out;have eu:=ar.out;have ev:=NB328_355.out;have ew:=a2.out;have ex:=NB338_355.out;have ey:=a3.out;have ez:=NB339_355.out;have eA:=a4.out;have eB:=NB345_355.out;have cQ:w41.cell? ⟨gb355,0,none⟩=some (.int .i64 0):=(blk_cell BK355.out 0).trans rfl;have cR:w41.cell? ⟨gb355,1,none⟩=some (.slice none 0 0):=(blk_cell BK355.out 1).trans rfl;have cS:=blk_frozen BK355.out 0;have cT:=blk_frozen BK355.out 1;obtain⟨Ao56,co56,eo56⟩:=Kd.V_slice HO353.out;subst eo56))
  (try simp only[Act.put,sa_,sb_,sc_])
  go_cut [56] (fun v56 wc=>∃ (kq:Nat) (x56_8:Bool),v56=.bool x56_8∧Aside0 (laws_FnTurns.j0 kq af x56_8 t318 t319 t323 t324 t325 t329 t330 t334 t335 t340 t341 t342=some r)∧Aside0 (kq≤k)∧Aside0 (Kd.Q (Kd.int .u8) 5 wc w.heap.size (fun k_=>some k_≠((.slice Ao30 t335.length co30):Value).ownBlock) (.slice Ao13 t319.length co13) t319)∧Aside0 (Kd.S k25 25 wc w.heap.size (fun k_=>some k_≠((.slice Ao13 t319.length co13):Value).ownBlock∧some k_≠((.slice Ao30 t335.length co30):Value).ownBlock∧some k_≠((.slice Ao38 t342.length co38):Value).ownBlock∧k_≠gb322∧k_≠gb339) (.slice Ao18 t325.length co18) t325)∧Aside0 (Kd.V k25 25 wc w.heap.size (fun k_=>some k_≠((.slice Ao13 t319.length co13):Value).ownBlock∧some k_≠((.slice Ao18 t325.length co18):Value).ownBlock∧some k_≠((.slice Ao30 t335.length co30):Value).ownBlock∧some k_≠((.slice Ao38 t342.length co38):Value).ownBlock∧k_≠gb322∧k_≠gb328∧k_≠gb338∧k_≠gb339∧k_≠gb345∧k_≠gb354∧k_≠gb355) (.slice Ao26 t330.length co26) t330)∧Aside0 (Kd.Q (Kd.int .u8) 5 wc w.heap.size (fun k_=>some k_≠((.slice Ao13 t319.length co13):Value).ownBlock) (.slice Ao30 t335.length co30) t335)∧Aside0 (Kd.S k25 25 wc w.heap.size (fun k_=>some k_≠((.slice Ao13 t319.length co13):Value).ownBlock∧some k_≠((.slice Ao18 t325.length co18):Value).ownBlock∧some k_≠((.slice Ao30 t335.length co30):Value).ownBlock∧k_≠gb322∧k_≠gb339) (.slice Ao38 t342.length co38) t342)∧Aside0 (Kd.V k25 25 wc w.heap.size (fun k_=>some k_≠((.slice Ao13 t319.length co13):Value).ownBlock∧some k_≠((.slice Ao18 t325.length co18):Value).ownBlock∧some k_≠((.slice Ao30 t335.length co30):Value).ownBlock∧some k_≠((.slice Ao38 t342.length co38):Value).ownBlock∧k_≠gb322∧k_≠gb328∧k_≠gb338∧k_≠gb339∧k_≠gb345∧k_≠gb354∧k_≠gb355) (.slice Ao49 t347.length co49) t347)∧Aside0 (Kd.V k25 25 wc w.heap.size (fun k_=>some k_≠((.slice Ao13 t319.length co13):Value).ownBlock∧some k_≠((.slice Ao18 t325.length co18):Value).ownBlock∧some k_≠((.slice Ao30 t335.length co30):Value).ownBlock∧some k_≠((.slice Ao38 t342.length co38):Value).ownBlock∧k_≠gb322∧k_≠gb328∧k_≠gb338∧k_≠gb339∧k_≠gb345∧k_≠gb354∧k_≠gb355) (.slice Ao56 t351.length co56) t351)∧Aside0 (wc.heap[gb322]?=some (.cells #[.int .i64 t318,(.slice Ao13 t319.length co13)] 25 (0,0)))∧Aside0 (wc.heap[gb328]?=some (.cells #[.int .i64 t323,.int .i64 t324,(.slice Ao18 t325.length co18)] 31 (0,0)))∧Aside0 (wc.heap[gb338]?=some (.cells #[.int .i64 t329,(.slice Ao26 t330.length co26)] 29 (0,0)))∧Aside0 (wc.heap[gb339]?=some (.cells #[.int .i64 t334,(.slice Ao30 t335.length co30)] 25 (0,0)))∧Aside0 (wc.heap[gb345]?=some (.cells #[.int .i64 t340,.int .i64 t341,(.slice Ao38 t342.length co38)] 31 (0,0)))∧Aside0 (wc.heap[gb354]?=some (.cells #[.int .i64 t346,(.slice Ao49 t347.length co49)] 29 (0,0)))∧Aside0 (wc.heap[gb355]?=some (.cells #[.int .i64 t350,(.slice Ao56 t351.length co56)] 29 (0,0)))∧Aside0 (Below w.heap.size w wc))
  case first=>
   have H:=bU.out
   clear bU
   replace H:=Option.bind_eq_some_iff.mp H
   obtain⟨⟨az,a8,a9⟩,bV,H⟩:=H
   replace H:(if t323=az then ((spec_TurnRing.f k t329 t330 af t334 t335).bind fun ai=>(if t340=ai.1 then ((impl_SameRings.f t346 t347 t350 t351).bind fun ah=>((spec_SameRings.f t346 t347 t350 t351).bind fun ag=>(laws_FnTurns.j0 k af (ah != ag) t318 t319 t323 t324 t325 t329 t330 t334 t335 t340 t341 t342))) else (laws_FnTurns.j0 k af true t318 t319 t323 t324 t325 t329 t330 t334 t335 t340 t341 t342))) else (laws_FnTurns.j0 k af true t318 t319 t323 t324 t325 t329 t330 t334 t335 t340 t341 t342))=some r:=H
   have bW:=zz3 bV
   clear bV
   by_cases aK:t323=az
   ·rw[if_pos aK] at H
    have aA:(t323 == az)=true:=beq_iff_eq.mpr aK
    have aS:(t323 != az)=false:=bne_eq_false_iff_eq.mpr aK
    clear aK
    (first|rw[aA]|(simp only[i64_w,i32_w];rw[aA])|skip)
    replace H:=Option.bind_eq_some_iff.mp H
    obtain⟨⟨aE,bX,bY⟩,bZ,H⟩:=H
    replace H:(if t340=aE then ((impl_SameRings.f t346 t347 t350 t351).bind fun ah=>((spec_SameRings.f t346 t347 t350 t351).bind fun ag=>(laws_FnTurns.j0 k af (ah != ag) t318 t319 t323 t324 t325 t329 t330 t334 t335 t340 t341 t342))) else (laws_FnTurns.j0 k af true t318 t319 t323 t324 t325 t329 t330 t334 t335 t340 t341 t342))=some r:=H
    have ci:=zz3 bZ
    clear bZ
    by_cases aP:t340=aE
    ·rw[if_pos aP] at H
     have b8:(t340 == aE)=true:=beq_iff_eq.mpr aP
     have b9:(t340 != aE)=false:=bne_eq_false_iff_eq.mpr aP
     clear aP
     replace H:=Option.bind_eq_some_iff.mp H
     obtain⟨ah,b0,H⟩:=H
     replace H:((spec_SameRings.f t346 t347 t350 t351).bind fun ag=>(laws_FnTurns.j0 k af (ah != ag) t318 t319 t323 t324 t325 t329 t330 t334 t335 t340 t341 t342))=some r:=H
     have cV:=zz3 b0
     clear b0
     replace H:=Option.bind_eq_some_iff.mp H
     obtain⟨ag,b1,H⟩:=H
     replace H:(laws_FnTurns.j0 k af (ah != ag) t318 t319 t323 t324 t325 t329 t330 t334 t335 t340 t341 t342)=some r:=H
     have cW:=zz3 b1
     clear b1
     have H':=zz3 H
     clear H
     try go_wp2
     have n0_:Aside0 (Kd.Q (Kd.int .u8) 5 ((((w41.setCell ⟨gb354,0,none⟩ (.int .i64 t346)).setCell ⟨gb354,1,none⟩ (.slice Ao49 t347.length co49)).setCell ⟨gb355,0,none⟩ (.int .i64 t350)).setCell ⟨gb355,1,none⟩ (.slice Ao56 t351.length co56)) w.heap.size (fun k_=>some k_≠(.slice Ao30 t335.length co30:Value).ownBlock) (.slice Ao13 t319.length co13) t319):=⟨zq87⟩
     have n1_:Aside0 (Kd.S k25 25 ((((w41.setCell ⟨gb354,0,none⟩ (.int .i64 t346)).setCell ⟨gb354,1,none⟩ (.slice Ao49 t347.length co49)).setCell ⟨gb355,0,none⟩ (.int .i64 t350)).setCell ⟨gb355,1,none⟩ (.slice Ao56 t351.length co56)) w.heap.size (fun k_=>some k_≠(.slice Ao13 t319.length co13:Value).ownBlock∧some k_≠(.slice Ao30 t335.length co30:Value).ownBlock∧some k_≠(.slice Ao38 t342.length co38:Value).ownBlock∧k_≠gb322∧k_≠gb339) (.slice Ao18 t325.length co18) t325):=⟨zq73⟩
     have n2_:Aside0 (Kd.V k25 25 ((((w41.setCell ⟨gb354,0,none⟩ (.int .i64 t346)).setCell ⟨gb354,1,none⟩ (.slice Ao49 t347.length co49)).setCell ⟨gb355,0,none⟩ (.int .i64 t350)).setCell ⟨gb355,1,none⟩ (.slice Ao56 t351.length co56)) w.heap.size (fun k_=>some k_≠(.slice Ao13 t319.length co13:Value).ownBlock∧some k_≠(.slice Ao18 t325.length co18:Value).ownBlock∧some k_≠(.slice Ao30 t335.length co30:Value).ownBlock∧some k_≠(.slice Ao38 t342.length co38:Value).ownBlock∧k_≠gb322∧k_≠gb328∧k_≠gb338∧k_≠gb339∧k_≠gb345∧k_≠gb354∧k_≠gb355) (.slice Ao26 t330.length co26) t330):=⟨by(with_reducible repeat (first|apply Kd.V_alloc|apply Kd.V_drewN|apply Kd.V_drew));exact Kd.V_mono (Kd.V_far (p:=⟨gb355,1,none⟩) (Kd.V_far (p:=⟨gb355,0,none⟩) (Kd.V_far (p:=⟨gb354,1,none⟩) (Kd.V_far (p:=⟨gb354,0,none⟩) (Kd.V_mono (Kd.V_mono HO332.out (fun k_ hk=>(⟨hk,hk.1.2⟩:_∧k_≠gb354))) (fun k_ hk=>(⟨hk,hk.1.2⟩:_∧k_≠gb355))) (fun _ hk=>hk.1.2) (.int .i64 t346)) (fun _ hk=>hk.1.2) (.slice Ao49 t347.length co49)) (fun _ hk=>hk.2) (.int .i64 t350)) (fun _ hk=>hk.2) (.slice Ao56 t351.length co56)) (fun _ hk=>⟨hk.1.1.1.1.1.1.1.1.2.1,⟨hk.1.1.1.1.1.1.1.1.2.2.1,⟨hk.1.1.1.1.1.1.1.1.1,⟨hk.1.1.1.1.1.2,⟨hk.1.1.1.1.1.1.1.1.2.2.2.1,⟨hk.1.1.1.1.1.1.1.1.2.2.2.2,⟨hk.1.1.1.1.1.1.1.2,⟨hk.1.1.1.1.1.1.2,⟨hk.1.1.1.1.2,⟨hk.1.1.1.2,hk.1.1.2⟩⟩⟩⟩⟩⟩⟩⟩⟩⟩)⟩
     have n3_:Aside0 (Kd.Q (Kd.int .u8) 5 ((((w41.setCell ⟨gb354,0,none⟩ (.int .i64 t346)).setCell ⟨gb354,1,none⟩ (.slice Ao49 t347.length co49)).setCell ⟨gb355,0,none⟩ (.int .i64 t350)).setCell ⟨gb355,1,none⟩ (.slice Ao56 t351.length co56)) w.heap.size (fun k_=>some k_≠(.slice Ao13 t319.length co13:Value).ownBlock) (.slice Ao30 t335.length co30) t335):=⟨zq88⟩
     have n4_:Aside0 (Kd.S k25 25 ((((w41.setCell ⟨gb354,0,none⟩ (.int .i64 t346)).setCell ⟨gb354,1,none⟩ (.slice Ao49 t347.length co49)).setCell ⟨gb355,0,none⟩ (.int .i64 t350)).setCell ⟨gb355,1,none⟩ (.slice Ao56 t351.length co56)) w.heap.size (fun k_=>some k_≠(.slice Ao13 t319.length co13:Value).ownBlock∧some k_≠(.slice Ao18 t325.length co18:Value).ownBlock∧some k_≠(.slice Ao30 t335.length co30:Value).ownBlock∧k_≠gb322∧k_≠gb339) (.slice Ao38 t342.length co38) t342):=⟨zq74⟩
     have n5_:Aside0 (Kd.V k25 25 ((((w41.setCell ⟨gb354,0,none⟩ (.int .i64 t346)).setCell ⟨gb354,1,none⟩ (.slice Ao49 t347.length co49)).setCell ⟨gb355,0,none⟩ (.int .i64 t350)).setCell ⟨gb355,1,none⟩ (.slice Ao56 t351.length co56)) w.heap.size (fun k_=>some k_≠(.slice Ao13 t319.length co13:Value).ownBlock∧some k_≠(.slice Ao18 t325.length co18:Value).ownBlock∧some k_≠(.slice Ao30 t335.length co30:Value).ownBlock∧some k_≠(.slice Ao38 t342.length co38:Value).ownBlock∧k_≠gb322∧k_≠gb328∧k_≠gb338∧k_≠gb339∧k_≠gb345∧k_≠gb354∧k_≠gb355) (.slice Ao49 t347.length co49) t347):=⟨by(with_reducible repeat (first|apply Kd.V_alloc|apply Kd.V_drewN|apply Kd.V_drew));exact Kd.V_mono (Kd.V_far (p:=⟨gb355,1,none⟩) (Kd.V_far (p:=⟨gb355,0,none⟩) (Kd.V_far (p:=⟨gb354,1,none⟩) (Kd.V_far (p:=⟨gb354,0,none⟩) (Kd.V_mono (Kd.V_mono HO349.out (fun k_ hk=>(⟨hk,hk.1.2⟩:_∧k_≠gb354))) (fun k_ hk=>(⟨hk,hk.1.2⟩:_∧k_≠gb355))) (fun _ hk=>hk.1.2) (.int .i64 t346)) (fun _ hk=>hk.1.2) (.slice Ao49 t347.length co49)) (fun _ hk=>hk.2) (.int .i64 t350)) (fun _ hk=>hk.2) (.slice Ao56 t351.length co56)) (fun _ hk=>⟨hk.1.1.1.1.1,⟨hk.1.1.1.1.2.1,⟨hk.1.1.1.1.2.2.1,⟨hk.1.1.1.1.2.2.2.1,⟨hk.1.1.1.1.2.2.2.2.1,⟨hk.1.1.1.1.2.2.2.2.2.1,⟨hk.1.1.1.1.2.2.2.2.2.2.1,⟨hk.1.1.1.1.2.2.2.2.2.2.2.1,⟨hk.1.1.1.1.2.2.2.2.2.2.2.2,⟨hk.1.1.1.2,hk.1.1.2⟩⟩⟩⟩⟩⟩⟩⟩⟩⟩)⟩
     have n6_:Aside0 (Kd.V k25 25 ((((w41.setCell ⟨gb354,0,none⟩ (.int .i64 t346)).setCell ⟨gb354,1,none⟩ (.slice Ao49 t347.length co49)).setCell ⟨gb355,0,none⟩ (.int .i64 t350)).setCell ⟨gb355,1,none⟩ (.slice Ao56 t351.length co56)) w.heap.size (fun k_=>some k_≠(.slice Ao13 t319.length co13:Value).ownBlock∧some k_≠(.slice Ao18 t325.length co18:Value).ownBlock∧some k_≠(.slice Ao30 t335.length co30:Value).ownBlock∧some k_≠(.slice Ao38 t342.length co38:Value).ownBlock∧k_≠gb322∧k_≠gb328∧k_≠gb338∧k_≠gb339∧k_≠gb345∧k_≠gb354∧k_≠gb355) (.slice Ao56 t351.length co56) t351):=⟨by(with_reducible repeat (first|apply Kd.V_alloc|apply Kd.V_drewN|apply Kd.V_drew));exact Kd.V_mono (Kd.V_far (p:=⟨gb355,1,none⟩) (Kd.V_far (p:=⟨gb355,0,none⟩) (Kd.V_far (p:=⟨gb354,1,none⟩) (Kd.V_far (p:=⟨gb354,0,none⟩) (Kd.V_mono (Kd.V_mono HO353.out (fun k_ hk=>(⟨hk,hk.1.2⟩:_∧k_≠gb354))) (fun k_ hk=>(⟨hk,hk.1.2⟩:_∧k_≠gb355))) (fun _ hk=>hk.1.2) (.int .i64 t346)) (fun _ hk=>hk.1.2) (.slice Ao49 t347.length co49)) (fun _ hk=>hk.2) (.int .i64 t350)) (fun _ hk=>hk.2) (.slice Ao56 t351.length co56)) (fun _ hk=>⟨hk.1.1.1.1.1,⟨hk.1.1.1.1.2.1,⟨hk.1.1.1.1.2.2.1,⟨hk.1.1.1.1.2.2.2.1,⟨hk.1.1.1.1.2.2.2.2.1,⟨hk.1.1.1.1.2.2.2.2.2.1,⟨hk.1.1.1.1.2.2.2.2.2.2.1,⟨hk.1.1.1.1.2.2.2.2.2.2.2.1,⟨hk.1.1.1.1.2.2.2.2.2.2.2.2,⟨hk.1.1.1.2,hk.1.1.2⟩⟩⟩⟩⟩⟩⟩⟩⟩⟩)⟩
     have n7_:Aside0 (((((w41.setCell ⟨gb354,0,none⟩ (.int .i64 t346)).setCell ⟨gb354,1,none⟩ (.slice Ao49 t347.length co49)).setCell ⟨gb355,0,none⟩ (.int .i64 t350)).setCell ⟨gb355,1,none⟩ (.slice Ao56 t351.length co56)).heap[gb322]?=some (.cells #[.int .i64 t318,.slice Ao13 t319.length co13] 25 (0,0))):=⟨zq76⟩
     have n8_:Aside0 (((((w41.setCell ⟨gb354,0,none⟩ (.int .i64 t346)).setCell ⟨gb354,1,none⟩ (.slice Ao49 t347.length co49)).setCell ⟨gb355,0,none⟩ (.int .i64 t350)).setCell ⟨gb355,1,none⟩ (.slice Ao56 t351.length co56)).heap[gb328]?=some (.cells #[.int .i64 t323,.int .i64 t324,.slice Ao18 t325.length co18] 31 (0,0))):=⟨zq77⟩
     have n9_:Aside0 (((((w41.setCell ⟨gb354,0,none⟩ (.int .i64 t346)).setCell ⟨gb354,1,none⟩ (.slice Ao49 t347.length co49)).setCell ⟨gb355,0,none⟩ (.int .i64 t350)).setCell ⟨gb355,1,none⟩ (.slice Ao56 t351.length co56)).heap[gb338]?=some (.cells #[.int .i64 t329,.slice Ao26 t330.length co26] 29 (0,0))):=⟨zq78⟩
     have n10_:Aside0 (((((w41.setCell ⟨gb354,0,none⟩ (.int .i64 t346)).setCell ⟨gb354,1,none⟩ (.slice Ao49 t347.length co49)).setCell ⟨gb355,0,none⟩ (.int .i64 t350)).setCell ⟨gb355,1,none⟩ (.slice Ao56 t351.length co56)).heap[gb339]?=some (.cells #[.int .i64 t334,.slice Ao30 t335.length co30] 25 (0,0))):=⟨zq79⟩
     have n11_:Aside0 (((((w41.setCell ⟨gb354,0,none⟩ (.int .i64 t346)).setCell ⟨gb354,1,none⟩ (.slice Ao49 t347.length co49)).setCell ⟨gb355,0,none⟩ (.int .i64 t350)).setCell ⟨gb355,1,none⟩ (.slice Ao56 t351.length co56)).heap[gb345]?=some (.cells #[.int .i64 t340,.int .i64 t341,.slice Ao38 t342.length co38] 31 (0,0))):=⟨zq80⟩
     have n12_:Aside0 (((((w41.setCell ⟨gb354,0,none⟩ (.int .i64 t346)).setCell ⟨gb354,1,none⟩ (.slice Ao49 t347.length co49)).setCell ⟨gb355,0,none⟩ (.int .i64 t350)).setCell ⟨gb355,1,none⟩ (.slice Ao56 t351.length co56)).heap[gb354]?=some (.cells #[.int .i64 t346,.slice Ao49 t347.length co49] 29 (0,0))):=⟨zq65⟩
     have n13_:Aside0 (((((w41.setCell ⟨gb354,0,none⟩ (.int .i64 t346)).setCell ⟨gb354,1,none⟩ (.slice Ao49 t347.length co49)).setCell ⟨gb355,0,none⟩ (.int .i64 t350)).setCell ⟨gb355,1,none⟩ (.slice Ao56 t351.length co56)).heap[gb355]?=some (.cells #[.int .i64 t350,.slice Ao56 t351.length co56] 29 (0,0))):=⟨zq66⟩
     have n14_:Aside0 (Below w.heap.size w ((((w41.setCell ⟨gb354,0,none⟩ (.int .i64 t346)).setCell ⟨gb354,1,none⟩ (.slice Ao49 t347.length co49)).setCell ⟨gb355,0,none⟩ (.int .i64 t350)).setCell ⟨gb355,1,none⟩ (.slice Ao56 t351.length co56))):=⟨zq27⟩
     (try clear HO321);(try clear HO327);(try clear HO332)
     (try clear HO337);(try clear HO344);(try clear HO349)
     (try clear HO353);(try clear BK322);(try clear BK328)
     (try clear BK338);(try clear BK339);(try clear BK345)
     (try clear BK354);(try clear BK355);(try clear HB)
     generalize ((((w41.setCell ⟨gb354,0,none⟩ (.int .i64 t346)).setCell ⟨gb354,1,none⟩ (.slice Ao49 t347.length co49)).setCell ⟨gb355,0,none⟩ (.int .i64 t350)).setCell ⟨gb355,1,none⟩ (.slice Ao56 t351.length co56))=w63 at n0_ n1_ n2_ n3_ n4_ n5_ n6_ n7_ n8_ n9_ n10_ n11_ n12_ n13_ n14_ ⊢
     have HO321:=n0_
     have HO327:=n1_
     have HO332:=n2_
     have HO337:=n3_
     have HO344:=n4_
     have HO349:=n5_
     have HO353:=n6_
     have BK322:=n7_
     have BK328:=n8_
     have BK338:=n9_
     have BK339:=n10_
     have BK345:=n11_
     have BK354:=n12_
     have BK355:=n13_
     have HB:=n14_
     clear n0_ n1_ n2_ n3_ n4_ n5_ n6_ n7_ n8_ n9_ n10_ n11_ n12_ n13_ n14_
     have n0_:=zz3 (Kd.Q_drew HO321.out)
     have n1_:=zz3 (Kd.S_drew HO327.out)
     have n2_:=zz3 (Kd.V_drew HO332.out)
     have n3_:=zz3 (Kd.Q_drew HO337.out)
     have n4_:=zz3 (Kd.S_drew HO344.out)
     have n5_:=zz3 (Kd.V_drew HO349.out)
     have n6_:=zz3 (Kd.V_drew HO353.out)
     have n7_:=zz3 (gy3 BK322.out)
     have n8_:=zz3 (gy3 BK328.out)
     have n9_:=zz3 (gy3 BK338.out)
     have n10_:=zz3 (gy3 BK339.out)
     have n11_:=zz3 (gy3 BK345.out)
     have n12_:=zz3 (gy3 BK354.out)
     have n13_:=zz3 (gy3 BK355.out)
     have n14_:=zz3 (cy3 HB.out)
     clear HO321
     clear HO327
     clear HO332
     clear HO337
     clear HO344
     clear HO349
     clear HO353
     clear BK322
     clear BK328
     clear BK338
     clear BK339
     clear BK345
     clear BK354
     clear BK355
     clear HB
     have HO321:=n0_
     have HO327:=n1_
     have HO332:=n2_
     have HO337:=n3_
     have HO344:=n4_
     have HO349:=n5_
     have HO353:=n6_
     have BK322:=n7_
     have BK328:=n8_
     have BK338:=n9_
     have BK339:=n10_
     have BK345:=n11_
     have BK354:=n12_
     have BK355:=n13_
     have HB:=n14_
     clear n0_ n1_ n2_ n3_ n4_ n5_ n6_ n7_ n8_ n9_ n10_ n11_ n12_ n13_ n14_
     refine start_ (n:=25) (S:=fun w'=>w'.cell? ⟨gb328,0,none⟩=some (.int .i64 t323)∧w'.cell? ⟨gb328,1,none⟩=some (.int .i64 t324)∧w'.cell? ⟨gb328,2,none⟩=some (.slice Ao18 t325.length co18)∧w'.cell? ⟨gb322,0,none⟩=some (.int .i64 t318)∧w'.cell? ⟨gb322,1,none⟩=some (.slice Ao13 t319.length co13)∧w'.cell? ⟨gb345,0,none⟩=some (.int .i64 t340)∧w'.cell? ⟨gb345,1,none⟩=some (.int .i64 t341)∧w'.cell? ⟨gb345,2,none⟩=some (.slice Ao38 t342.length co38)∧w'.cell? ⟨gb338,0,none⟩=some (.int .i64 t329)∧w'.cell? ⟨gb338,1,none⟩=some (.slice Ao26 t330.length co26)∧w'.cell? ⟨gb339,0,none⟩=some (.int .i64 t334)∧w'.cell? ⟨gb339,1,none⟩=some (.slice Ao30 t335.length co30)∧w'.cell? ⟨gb354,0,none⟩=some (.int .i64 t346)∧w'.cell? ⟨gb354,1,none⟩=some (.slice Ao49 t347.length co49)∧w'.cell? ⟨gb355,0,none⟩=some (.int .i64 t350)∧w'.cell? ⟨gb355,1,none⟩=some (.slice Ao56 t351.length co56)) (ds:=[]) #[Z,Z,Z,Z,Z,Z,Z,Z,Z,Z,Z,Z,Z,Z,Z,Z,Z,Z,Z,Z,Z,Z,Z,Z,Z] (by kernel_rfl) rfl rfl ⟨(blk_cell BK328.out 0).trans rfl,(blk_cell BK328.out 1).trans rfl,(blk_cell BK328.out 2).trans rfl,(blk_cell BK322.out 0).trans rfl,(blk_cell BK322.out 1).trans rfl,(blk_cell BK345.out 0).trans rfl,(blk_cell BK345.out 1).trans rfl,(blk_cell BK345.out 2).trans rfl,(blk_cell BK338.out 0).trans rfl,(blk_cell BK338.out 1).trans rfl,(blk_cell BK339.out 0).trans rfl,(blk_cell BK339.out 1).trans rfl,(blk_cell BK354.out 0).trans rfl,(blk_cell BK354.out 1).trans rfl,(blk_cell BK355.out 0).trans rfl,(blk_cell BK355.out 1).trans rfl⟩ (fun hHeld=>?_);refine with_tabW laws_FnTurns.tab8 laws_FnTurns.bits8 (fun HT_ HW_=>?_)
     generalize w63.drew=w64 at HO321 HO327 HO332 HO337 HO344 HO349 HO353 BK322 BK328 BK338 BK339 BK345 BK354 BK355 HB hHeld ⊢
     refine pure_ (i:=0) (N:=some 32) (v:=?_) (a':=?_) #[Y,Z,Z,Z,Z,Z,Z,Z,Z,Z,Z,Z,Z,Z,Z,Z,Z,Z,Z,Z,Z,Z,Z,Z,Z] rfl rfl (any_of HT_.out (by kernel_rfl)) (fun _ _ _ h=>h) (Or.inl ⟨zq145,?_⟩) ?_ ?_
     rotate_left
     ·intro w';go_simp;with_reducible rfl
     rotate_left
     ·simp only[Act.put,sa_,sb_,sc_,i64_w];rfl
     refine take_ (i:=1) (N:=some 33) (v:=?_) (a':=?_) #[Y,Y,Z,Z,Z,Z,Z,Z,Z,Z,Z,Z,Z,Z,Z,Z,Z,Z,Z,Z,Z,Z,Z,Z,Z] rfl rfl (take_ofW HT_.out HW_.out (by kernel_rfl)) (fun _ _ _ h=>h) (Or.inl ⟨zq145,?_⟩) hHeld ?_ ?_
     rotate_left
     ·rintro w' ⟨s0,s1,s2,s3,s4,s5,s6,s7,s8,s9,s10,s11,s12,s13,s14,s15⟩
      go_simp
      with_reducible rfl
     rotate_left
     ·simp only[Act.put,sa_,sb_,sc_,i64_w];rfl
     refine take_ (i:=2) (N:=some 34) (v:=?_) (a':=?_) #[Y,Y,Y,Z,Z,Z,Z,Z,Z,Z,Z,Z,Z,Z,Z,Z,Z,Z,Z,Z,Z,Z,Z,Z,Z] rfl rfl (take_ofW HT_.out HW_.out (by kernel_rfl)) (fun _ _ _ h=>h) (Or.inl ⟨zq145,?_⟩) hHeld ?_ ?_
     rotate_left
     ·rintro w' ⟨s0,s1,s2,s3,s4,s5,s6,s7,s8,s9,s10,s11,s12,s13,s14,s15⟩
      go_simp
      with_reducible rfl
     rotate_left
     ·simp only[Act.put,sa_,sb_,sc_,i64_w];rfl
     refine one_ (i:=3) (N:=some 35) #[Y,Y,Y,Y,Z,Z,Z,Z,Z,Z,Z,Z,Z,Z,Z,Z,Z,Z,Z,Z,Z,Z,Z,Z,Z] rfl rfl (one_of HT_.out (by kernel_rfl)) zq16 (fun K hK=>?_)
     refine goes_ Try.func21 (by kernel_rfl) rfl #[.agg #[.int .i64 t318,.slice Ao13 t319.length co13]] zq145 rfl rfl zq32 ?_
     with_reducible refine(spec_NewRing.calls t318 _ _ t319 az a8 a9 _ ?side1 ?side2 bW.out).mono ?_
     (case side1=>exact zq186)
     (case side2=>exact(Kd.Q_reads' HO321.out).2.1)
     rintro e w65 ⟨v359,rfl,ho0,hb⟩
     refine⟨_,rfl,?_⟩
     have n0_:=zz3 (Kd.Q_below zq43 hb)
     have n1_:=zz3 (Kd.S_elder' zq45 (Kd.S_base ho0) hb)
     have n2_:=zz3 (Kd.V_elder' zq81 (Kd.S_base ho0) hb)
     have n3_:=zz3 (Kd.Q_below zq50 hb)
     have n4_:=zz3 (Kd.S_elder' zq57 (Kd.S_base ho0) hb)
     have n5_:=zz3 (Kd.V_elder' zq110 (Kd.S_base ho0) hb)
     have n6_:=zz3 (Kd.V_elder' zq111 (Kd.S_base ho0) hb)
     have n7_:=zz3 (Kd.S_lower (Kd.S_newB (Kd.S_newB (Kd.S_new' (Kd.S_new' (Kd.S_new' (Kd.S_new' ho0 (Kd.Q_lt zq43)) (Kd.S_lt zq45)) (Kd.Q_lt zq50)) (Kd.S_lt zq57)) (g:=gb322) (o:=.cells #[.int .i64 t318,.slice Ao13 t319.length co13] 25 (0,0)) zq19) (g:=gb339) (o:=.cells #[.int .i64 t334,.slice Ao30 t335.length co30] 25 (0,0)) zq25) (below_size zq10))
     have n8_:=zz3 (hy3 (g:=gb322) (o:=.cells #[.int .i64 t318,.slice Ao13 t319.length co13] 25 (0,0)) zq19 hb)
     have n9_:=zz3 (hy3 (g:=gb328) (o:=.cells #[.int .i64 t323,.int .i64 t324,.slice Ao18 t325.length co18] 31 (0,0)) zq24 hb)
     have n10_:=zz3 (hy3 (g:=gb338) (o:=.cells #[.int .i64 t329,.slice Ao26 t330.length co26] 29 (0,0)) zq31 hb)
     have n11_:=zz3 (hy3 (g:=gb339) (o:=.cells #[.int .i64 t334,.slice Ao30 t335.length co30] 25 (0,0)) zq25 hb)
     have n12_:=zz3 (hy3 (g:=gb345) (o:=.cells #[.int .i64 t340,.int .i64 t341,.slice Ao38 t342.length co38] 31 (0,0)) zq55 hb)
     have n13_:=zz3 (hy3 (g:=gb354) (o:=.cells #[.int .i64 t346,.slice Ao49 t347.length co49] 29 (0,0)) zq63 hb)
     have n14_:=zz3 (hy3 (g:=gb355) (o:=.cells #[.int .i64 t350,.slice Ao56 t351.length co56] 29 (0,0)) zq92 hb)
     have n15_:=zz3 (below_step zq10 hb)
     clear HO321
     clear HO327
     clear HO332
     clear HO337
     clear HO344
     clear HO349
     clear HO353
     clear BK322
     clear BK328
     clear BK338
     clear BK339
     clear BK345
     clear BK354
     clear BK355
     clear HB
     have HO321:=n0_
     have HO327:=n1_
     have HO332:=n2_
     have HO337:=n3_
     have HO344:=n4_
     have HO349:=n5_
     have HO353:=n6_
     have HO360:=n7_
     have BK322:=n8_
     have BK328:=n9_
     have BK338:=n10_
     have BK339:=n11_
     have BK345:=n12_
     have BK354:=n13_
     have BK355:=n14_
     have HB:=n15_
     clear n0_ n1_ n2_ n3_ n4_ n5_ n6_ n7_ n8_ n9_ n10_ n11_ n12_ n13_ n14_ n15_
     (try clear hb);(try clear hb2);(try clear hk)
     (try clear hi)
     (try clear ho0)
     refine hK.out _ _ ⟨(blk_cell BK328.out 0).trans rfl,(blk_cell BK328.out 1).trans rfl,(blk_cell BK328.out 2).trans rfl,(blk_cell BK322.out 0).trans rfl,(blk_cell BK322.out 1).trans rfl,(blk_cell BK345.out 0).trans rfl,(blk_cell BK345.out 1).trans rfl,(blk_cell BK345.out 2).trans rfl,(blk_cell BK338.out 0).trans rfl,(blk_cell BK338.out 1).trans rfl,(blk_cell BK339.out 0).trans rfl,(blk_cell BK339.out 1).trans rfl,(blk_cell BK354.out 0).trans rfl,(blk_cell BK354.out 1).trans rfl,(blk_cell BK355.out 0).trans rfl,(blk_cell BK355.out 1).trans rfl⟩ (fun hHeld=>?_)
     clear hK K
     refine norm_ (a':=?_) ?_ ?_
     rotate_left
     ·show Act.put _ (some 35) _=_
      simp only[Act.put,sa_,sb_,sc_,i64_w]
      rfl
     refine pure_ (i:=4) (N:=some 36) (v:=?_) (a':=?_) #[Y,Y,Y,Y,Y,Z,Z,Z,Z,Z,Z,Z,Z,Z,Z,Z,Z,Z,Z,Z,Z,Z,Z,Z,Z] rfl rfl (any_of HT_.out (by kernel_rfl)) (fun _ _ _ h=>h) (Or.inl ⟨zq145,?_⟩) ?_ ?_
     rotate_left
     ·intro w';go_simp;with_reducible rfl
     rotate_left
     ·simp only[Act.put,sa_,sb_,sc_,i64_w];rfl
     refine pure_ (i:=5) (N:=some 37) (v:=?_) (a':=?_) #[Y,Y,Y,Y,Y,Y,Z,Z,Z,Z,Z,Z,Z,Z,Z,Z,Z,Z,Z,Z,Z,Z,Z,Z,Z] rfl rfl (any_of HT_.out (by kernel_rfl)) (fun _ _ _ h=>h) (Or.inl ⟨zq145,?_⟩) ?_ ?_
     rotate_left
     ·intro w';go_simp;with_reducible rfl
     rotate_left
     ·simp only[Act.put,sa_,sb_,sc_,i64_w];rfl
     refine pure_ (i:=6) (N:=some 38) (v:=?_) (a':=?_) #[Y,Y,Y,Y,Y,Y,Y,Z,Z,Z,Z,Z,Z,Z,Z,Z,Z,Z,Z,Z,Z,Z,Z,Z,Z] rfl rfl (any_of HT_.out (by kernel_rfl)) (fun _ _ _ h=>h) (Or.inl ⟨zq145,?_⟩) ?_ ?_
     rotate_left
     ·intro w';go_simp;with_reducible rfl
     rotate_left
     ·simp only[Act.put,sa_,sb_,sc_,i64_w];rfl
     refine pure_ (i:=7) (N:=some 39) (v:=?_) (a':=?_) #[Y,Y,Y,Y,Y,Y,Y,Y,Z,Z,Z,Z,Z,Z,Z,Z,Z,Z,Z,Z,Z,Z,Z,Z,Z] rfl rfl (any_of HT_.out (by kernel_rfl)) (fun _ _ _ h=>h) (Or.inl ⟨zq145,?_⟩) ?_ ?_
     rotate_left
     ·intro w';go_simp;with_reducible rfl
     rotate_left
     ·simp only[Act.put,sa_,sb_,sc_,i64_w];rfl
     refine pure_ (i:=10) (N:=some 42) (v:=?_) (a':=?_) #[Y,Y,Y,Y,Y,Y,Y,Y,Z,Z,Y,Z,Z,Z,Z,Z,Z,Z,Z,Z,Z,Z,Z,Z,Z] rfl rfl (any_of HT_.out (by kernel_rfl)) (fun _ _ _ h=>h) (Or.inl ⟨zq145,?_⟩) ?_ ?_
     rotate_left
     ·intro w';go_simp;with_reducible rfl
     rotate_left
     ·simp only[Act.put,sa_,sb_,sc_,i64_w];rfl
     refine take_ (i:=8) (N:=some 40) (v:=?_) (a':=?_) #[Y,Y,Y,Y,Y,Y,Y,Y,Y,Z,Y,Z,Z,Z,Z,Z,Z,Z,Z,Z,Z,Z,Z,Z,Z] rfl rfl (take_ofW HT_.out HW_.out (by kernel_rfl)) (fun _ _ _ h=>h) (Or.inl ⟨zq145,?_⟩) hHeld ?_ ?_
     rotate_left
     ·rintro w' ⟨s0,s1,s2,s3,s4,s5,s6,s7,s8,s9,s10,s11,s12,s13,s14,s15⟩
      go_simp
      with_reducible rfl
     rotate_left
     ·simp only[Act.put,sa_,sb_,sc_,i64_w];rfl
     refine take_ (i:=9) (N:=some 41) (v:=?_) (a':=?_) #[Y,Y,Y,Y,Y,Y,Y,Y,Y,Y,Y,Z,Z,Z,Z,Z,Z,Z,Z,Z,Z,Z,Z,Z,Z] rfl rfl (take_ofW HT_.out HW_.out (by kernel_rfl)) (fun _ _ _ h=>h) (Or.inl ⟨zq145,?_⟩) hHeld ?_ ?_
     rotate_left
     ·rintro w' ⟨s0,s1,s2,s3,s4,s5,s6,s7,s8,s9,s10,s11,s12,s13,s14,s15⟩
      go_simp
      with_reducible rfl
     rotate_left
     ·simp only[Act.put,sa_,sb_,sc_,i64_w];rfl
     refine take_ (i:=11) (N:=some 43) (v:=?_) (a':=?_) #[Y,Y,Y,Y,Y,Y,Y,Y,Y,Y,Y,Y,Z,Z,Z,Z,Z,Z,Z,Z,Z,Z,Z,Z,Z] rfl rfl (take_ofW HT_.out HW_.out (by kernel_rfl)) (fun _ _ _ h=>h) (Or.inl ⟨zq145,?_⟩) hHeld ?_ ?_
     rotate_left
     ·rintro w' ⟨s0,s1,s2,s3,s4,s5,s6,s7,s8,s9,s10,s11,s12,s13,s14,s15⟩
      go_simp
      with_reducible rfl
     rotate_left
     ·simp only[Act.put,sa_,sb_,sc_,i64_w];rfl
     refine one_ (i:=12) (N:=some 44) #[Y,Y,Y,Y,Y,Y,Y,Y,Y,Y,Y,Y,Y,Z,Z,Z,Z,Z,Z,Z,Z,Z,Z,Z,Z] rfl rfl (one_of HT_.out (by kernel_rfl)) zq16 (fun K hK=>?_)
     refine goes_ Try.func22 (by kernel_rfl) rfl #[.agg #[.int .i64 t329,.slice Ao26 t330.length co26],.int .i64 af,.agg #[.int .i64 t334,.slice Ao30 t335.length co30]] zq145 rfl rfl zq32 ?_
     with_reducible refine(spec_TurnRing.calls k t329 _ _ t330 af t334 _ _ t335 aE bX bY _ ?side1 ?side2 ?side3 ?side4 ci.out).mono ?_
     (case side1=>exact zq210)
     (case side2=>exact(Kd.V_reads' HO332.out).2.1)
     (case side3=>exact zq211)
     (case side4=>exact(Kd.Q_reads' HO337.out).2.1)
     rintro e w66 ⟨v364,rfl,ho0,hb⟩
     refine⟨_,rfl,?_⟩
     have n0_:=zz3 (Kd.Q_below zq43 hb)
     have n1_:=zz3 (Kd.S_elder' zq45 (Kd.S_base ho0) hb)
     have n2_:=zz3 (Kd.V_elder' zq81 (Kd.S_base ho0) hb)
     have n3_:=zz3 (Kd.Q_below zq50 hb)
     have n4_:=zz3 (Kd.S_elder' zq57 (Kd.S_base ho0) hb)
     have n5_:=zz3 (Kd.V_elder' zq110 (Kd.S_base ho0) hb)
     have n6_:=zz3 (Kd.V_elder' zq111 (Kd.S_base ho0) hb)
     have n7_:=zz3 (Kd.S_elder' zq139 (Kd.S_base ho0) hb)
     have n8_:=zz3 (Kd.S_lower (Kd.S_newB (Kd.S_newB (Kd.S_new' (Kd.S_new' (Kd.S_new' (Kd.S_new' (Kd.S_new' ho0 (Kd.Q_lt zq43)) (Kd.S_lt zq45)) (Kd.Q_lt zq50)) (Kd.S_lt zq57)) (Kd.S_lt zq139)) (g:=gb322) (o:=.cells #[.int .i64 t318,.slice Ao13 t319.length co13] 25 (0,0)) zq19) (g:=gb339) (o:=.cells #[.int .i64 t334,.slice Ao30 t335.length co30] 25 (0,0)) zq25) (below_size zq10))
     have n9_:=zz3 (hy3 (g:=gb322) (o:=.cells #[.int .i64 t318,.slice Ao13 t319.length co13] 25 (0,0)) zq19 hb)
     have n10_:=zz3 (hy3 (g:=gb328) (o:=.cells #[.int .i64 t323,.int .i64 t324,.slice Ao18 t325.length co18] 31 (0,0)) zq24 hb)
     have n11_:=zz3 (hy3 (g:=gb338) (o:=.cells #[.int .i64 t329,.slice Ao26 t330.length co26] 29 (0,0)) zq31 hb)
     have n12_:=zz3 (hy3 (g:=gb339) (o:=.cells #[.int .i64 t334,.slice Ao30 t335.length co30] 25 (0,0)) zq25 hb)
     have n13_:=zz3 (hy3 (g:=gb345) (o:=.cells #[.int .i64 t340,.int .i64 t341,.slice Ao38 t342.length co38] 31 (0,0)) zq55 hb)
     have n14_:=zz3 (hy3 (g:=gb354) (o:=.cells #[.int .i64 t346,.slice Ao49 t347.length co49] 29 (0,0)) zq63 hb)
     have n15_:=zz3 (hy3 (g:=gb355) (o:=.cells #[.int .i64 t350,.slice Ao56 t351.length co56] 29 (0,0)) zq92 hb)
     have n16_:=zz3 (below_step zq10 hb)
     clear HO321
     clear HO327
     clear HO332
     clear HO337
     clear HO344
     clear HO349
     clear HO353
     clear HO360
     clear BK322
     clear BK328
     clear BK338
     clear BK339
     clear BK345
     clear BK354
     clear BK355
     clear HB
     have HO321:=n0_
     have HO327:=n1_
     have HO332:=n2_
     have HO337:=n3_
     have HO344:=n4_
     have HO349:=n5_
     have HO353:=n6_
     have HO360:=n7_
     have aB:=n8_
     have BK322:=n9_
     have BK328:=n10_
     have BK338:=n11_
     have BK339:=n12_
     have BK345:=n13_
     have BK354:=n14_
     have BK355:=n15_
     have HB:=n16_
     clear n0_ n1_ n2_ n3_ n4_ n5_ n6_ n7_ n8_ n9_ n10_ n11_ n12_ n13_ n14_ n15_ n16_
     (try clear hb);(try clear hb2);(try clear hk)
     (try clear hi)
     (try clear ho0)
     refine hK.out _ _ ⟨(blk_cell BK328.out 0).trans rfl,(blk_cell BK328.out 1).trans rfl,(blk_cell BK328.out 2).trans rfl,(blk_cell BK322.out 0).trans rfl,(blk_cell BK322.out 1).trans rfl,(blk_cell BK345.out 0).trans rfl,(blk_cell BK345.out 1).trans rfl,(blk_cell BK345.out 2).trans rfl,(blk_cell BK338.out 0).trans rfl,(blk_cell BK338.out 1).trans rfl,(blk_cell BK339.out 0).trans rfl,(blk_cell BK339.out 1).trans rfl,(blk_cell BK354.out 0).trans rfl,(blk_cell BK354.out 1).trans rfl,(blk_cell BK355.out 0).trans rfl,(blk_cell BK355.out 1).trans rfl⟩ (fun hHeld=>?_)
     clear hK K
     refine norm_ (a':=?_) ?_ ?_
     rotate_left
     ·show Act.put _ (some 44) _=_
      simp only[Act.put,sa_,sb_,sc_,i64_w]
      rfl
     refine pure_ (i:=13) (N:=some 45) (v:=?_) (a':=?_) #[Y,Y,Y,Y,Y,Y,Y,Y,Y,Y,Y,Y,Y,Y,Z,Z,Z,Z,Z,Z,Z,Z,Z,Z,Z] rfl rfl (any_of HT_.out (by kernel_rfl)) (fun _ _ _ h=>h) (Or.inl ⟨zq145,?_⟩) ?_ ?_
     rotate_left
     ·intro w';go_simp;with_reducible rfl
     rotate_left
     ·simp only[Act.put,sa_,sb_,sc_,i64_w];rfl
     refine pure_ (i:=14) (N:=some 46) (v:=?_) (a':=?_) #[Y,Y,Y,Y,Y,Y,Y,Y,Y,Y,Y,Y,Y,Y,Y,Z,Z,Z,Z,Z,Z,Z,Z,Z,Z] rfl rfl (any_of HT_.out (by kernel_rfl)) (fun _ _ _ h=>h) (Or.inl ⟨zq145,?_⟩) ?_ ?_
     rotate_left
     ·intro w';go_simp;with_reducible rfl
     rotate_left
     ·simp only[Act.put,sa_,sb_,sc_,i64_w];rfl
     refine pure_ (i:=15) (N:=some 47) (v:=?_) (a':=?_) #[Y,Y,Y,Y,Y,Y,Y,Y,Y,Y,Y,Y,Y,Y,Y,Y,Z,Z,Z,Z,Z,Z,Z,Z,Z] rfl rfl (any_of HT_.out (by kernel_rfl)) (fun _ _ _ h=>h) (Or.inl ⟨zq145,?_⟩) ?_ ?_
     rotate_left
     ·intro w';go_simp;with_reducible rfl
     rotate_left
     ·simp only[Act.put,sa_,sb_,sc_,i64_w];rfl
     refine pure_ (i:=16) (N:=some 48) (v:=?_) (a':=?_) #[Y,Y,Y,Y,Y,Y,Y,Y,Y,Y,Y,Y,Y,Y,Y,Y,Y,Z,Z,Z,Z,Z,Z,Z,Z] rfl rfl (any_of HT_.out (by kernel_rfl)) (fun _ _ _ h=>h) (Or.inl ⟨zq145,?_⟩) ?_ ?_
     rotate_left
     ·intro w';go_simp;with_reducible rfl
     rotate_left
     ·simp only[Act.put,sa_,sb_,sc_,i64_w];rfl
     refine take_ (i:=17) (N:=some 49) (v:=?_) (a':=?_) #[Y,Y,Y,Y,Y,Y,Y,Y,Y,Y,Y,Y,Y,Y,Y,Y,Y,Y,Z,Z,Z,Z,Z,Z,Z] rfl rfl (take_ofW HT_.out HW_.out (by kernel_rfl)) (fun _ _ _ h=>h) (Or.inl ⟨zq145,?_⟩) hHeld ?_ ?_
     rotate_left
     ·rintro w' ⟨s0,s1,s2,s3,s4,s5,s6,s7,s8,s9,s10,s11,s12,s13,s14,s15⟩
      go_simp
      with_reducible rfl
     rotate_left
     ·simp only[Act.put,sa_,sb_,sc_,i64_w];rfl
     refine take_ (i:=18) (N:=some 50) (v:=?_) (a':=?_) #[Y,Y,Y,Y,Y,Y,Y,Y,Y,Y,Y,Y,Y,Y,Y,Y,Y,Y,Y,Z,Z,Z,Z,Z,Z] rfl rfl (take_ofW HT_.out HW_.out (by kernel_rfl)) (fun _ _ _ h=>h) (Or.inl ⟨zq145,?_⟩) hHeld ?_ ?_
     rotate_left
     ·rintro w' ⟨s0,s1,s2,s3,s4,s5,s6,s7,s8,s9,s10,s11,s12,s13,s14,s15⟩
      go_simp
      with_reducible rfl
     rotate_left
     ·simp only[Act.put,sa_,sb_,sc_,i64_w];rfl
     refine take_ (i:=20) (N:=some 52) (v:=?_) (a':=?_) #[Y,Y,Y,Y,Y,Y,Y,Y,Y,Y,Y,Y,Y,Y,Y,Y,Y,Y,Y,Z,Y,Z,Z,Z,Z] rfl rfl (take_ofW HT_.out HW_.out (by kernel_rfl)) (fun _ _ _ h=>h) (Or.inl ⟨zq145,?_⟩) hHeld ?_ ?_
     rotate_left
     ·rintro w' ⟨s0,s1,s2,s3,s4,s5,s6,s7,s8,s9,s10,s11,s12,s13,s14,s15⟩
      go_simp
      with_reducible rfl
     rotate_left
     ·simp only[Act.put,sa_,sb_,sc_,i64_w];rfl
     refine take_ (i:=21) (N:=some 53) (v:=?_) (a':=?_) #[Y,Y,Y,Y,Y,Y,Y,Y,Y,Y,Y,Y,Y,Y,Y,Y,Y,Y,Y,Z,Y,Y,Z,Z,Z] rfl rfl (take_ofW HT_.out HW_.out (by kernel_rfl)) (fun _ _ _ h=>h) (Or.inl ⟨zq145,?_⟩) hHeld ?_ ?_
     rotate_left
     ·rintro w' ⟨s0,s1,s2,s3,s4,s5,s6,s7,s8,s9,s10,s11,s12,s13,s14,s15⟩
      go_simp
      with_reducible rfl
     rotate_left
     ·simp only[Act.put,sa_,sb_,sc_,i64_w];rfl
     refine one_ (i:=19) (N:=some 51) #[Y,Y,Y,Y,Y,Y,Y,Y,Y,Y,Y,Y,Y,Y,Y,Y,Y,Y,Y,Y,Y,Y,Z,Z,Z] rfl rfl (one_of HT_.out (by kernel_rfl)) zq16 (fun K hK=>?_)
     refine goes_ Try.func23 (by kernel_rfl) rfl #[.agg #[.int .i64 t346,.slice Ao49 t347.length co49],.agg #[.int .i64 t350,.slice Ao56 t351.length co56]] zq145 rfl rfl zq32 ?_
     with_reducible refine(impl_SameRings.calls t346 _ _ t347 t350 _ _ t351 ah _ ?side1 ?side2 ?side3 ?side4 cV.out).mono ?_
     (case side1=>exact zq212)
     (case side2=>exact(Kd.V_reads' HO349.out).2.1)
     (case side3=>exact zq213)
     (case side4=>exact(Kd.V_reads' HO353.out).2.1)
     rintro e w67 ⟨rfl,hb⟩
     refine⟨_,rfl,?_⟩
     have n0_:=zz3 (Kd.Q_below zq43 hb)
     have n1_:=zz3 (Kd.S_below zq45 hb)
     have n2_:=zz3 (Kd.V_below zq81 hb)
     have n3_:=zz3 (Kd.Q_below zq50 hb)
     have n4_:=zz3 (Kd.S_below zq57 hb)
     have n5_:=zz3 (Kd.V_below zq110 hb)
     have n6_:=zz3 (Kd.V_below zq111 hb)
     have n7_:=zz3 (Kd.S_below zq139 hb)
     have n8_:=zz3 (Kd.S_below (by(with_reducible repeat (first|apply Kd.S_alloc|apply Kd.S_drewN|apply Kd.S_drew));exact aB.out) hb)
     have n9_:=zz3 (hy3 (g:=gb322) (o:=.cells #[.int .i64 t318,.slice Ao13 t319.length co13] 25 (0,0)) zq19 hb)
     have n10_:=zz3 (hy3 (g:=gb328) (o:=.cells #[.int .i64 t323,.int .i64 t324,.slice Ao18 t325.length co18] 31 (0,0)) zq24 hb)
     have n11_:=zz3 (hy3 (g:=gb338) (o:=.cells #[.int .i64 t329,.slice Ao26 t330.length co26] 29 (0,0)) zq31 hb)
     have n12_:=zz3 (hy3 (g:=gb339) (o:=.cells #[.int .i64 t334,.slice Ao30 t335.length co30] 25 (0,0)) zq25 hb)
     have n13_:=zz3 (hy3 (g:=gb345) (o:=.cells #[.int .i64 t340,.int .i64 t341,.slice Ao38 t342.length co38] 31 (0,0)) zq55 hb)
     have n14_:=zz3 (hy3 (g:=gb354) (o:=.cells #[.int .i64 t346,.slice Ao49 t347.length co49] 29 (0,0)) zq63 hb)
     have n15_:=zz3 (hy3 (g:=gb355) (o:=.cells #[.int .i64 t350,.slice Ao56 t351.length co56] 29 (0,0)) zq92 hb)
     have n16_:=zz3 (below_step zq10 hb)
     clear HO321
     clear HO327
     clear HO332
     clear HO337
     clear HO344
     clear HO349
     clear HO353
     clear HO360
     clear aB
     clear BK322
     clear BK328
     clear BK338
     clear BK339
     clear BK345
     clear BK354
     clear BK355
     clear HB
     have HO321:=n0_
     have HO327:=n1_
     have HO332:=n2_
     have HO337:=n3_
     have HO344:=n4_
     have HO349:=n5_
     have HO353:=n6_
     have HO360:=n7_
     have aB:=n8_
     have BK322:=n9_
     have BK328:=n10_
     have BK338:=n11_
     have BK339:=n12_
     have BK345:=n13_
     have BK354:=n14_
     have BK355:=n15_
     have HB:=n16_
     clear n0_ n1_ n2_ n3_ n4_ n5_ n6_ n7_ n8_ n9_ n10_ n11_ n12_ n13_ n14_ n15_ n16_
     (try clear hb);(try clear hb2);(try clear hk)
     (try clear hi)
     refine hK.out _ _ ⟨(blk_cell BK328.out 0).trans rfl,(blk_cell BK328.out 1).trans rfl,(blk_cell BK328.out 2).trans rfl,(blk_cell BK322.out 0).trans rfl,(blk_cell BK322.out 1).trans rfl,(blk_cell BK345.out 0).trans rfl,(blk_cell BK345.out 1).trans rfl,(blk_cell BK345.out 2).trans rfl,(blk_cell BK338.out 0).trans rfl,(blk_cell BK338.out 1).trans rfl,(blk_cell BK339.out 0).trans rfl,(blk_cell BK339.out 1).trans rfl,(blk_cell BK354.out 0).trans rfl,(blk_cell BK354.out 1).trans rfl,(blk_cell BK355.out 0).trans rfl,(blk_cell BK355.out 1).trans rfl⟩ (fun hHeld=>?_)
     clear hK K
     refine norm_ (a':=?_) ?_ ?_
     rotate_left
     ·show Act.put _ (some 51) _=_
      simp only[Act.put,sa_,sb_,sc_,i64_w]
      rfl
     refine one_ (i:=22) (N:=some 54) #[Y,Y,Y,Y,Y,Y,Y,Y,Y,Y,Y,Y,Y,Y,Y,Y,Y,Y,Y,Y,Y,Y,Y,Z,Z] rfl rfl (one_of HT_.out (by kernel_rfl)) zq16 (fun K hK=>?_)
     refine goes_ Try.func24 (by kernel_rfl) rfl #[.agg #[.int .i64 t346,.slice Ao49 t347.length co49],.agg #[.int .i64 t350,.slice Ao56 t351.length co56]] zq145 rfl rfl zq32 ?_
     with_reducible refine(spec_SameRings.calls t346 _ _ t347 t350 _ _ t351 ag _ ?side1 ?side2 ?side3 ?side4 cW.out).mono ?_
     (case side1=>exact zq212)
     (case side2=>exact(Kd.V_reads' HO349.out).2.1)
     (case side3=>exact zq213)
     (case side4=>exact(Kd.V_reads' HO353.out).2.1)
     rintro e w68 ⟨rfl,hb⟩
     refine⟨_,rfl,?_⟩
     have n0_:=zz3 (Kd.Q_below zq43 hb)
     have n1_:=zz3 (Kd.S_below zq45 hb)
     have n2_:=zz3 (Kd.V_below zq81 hb)
     have n3_:=zz3 (Kd.Q_below zq50 hb)
     have n4_:=zz3 (Kd.S_below zq57 hb)
     have n5_:=zz3 (Kd.V_below zq110 hb)
     have n6_:=zz3 (Kd.V_below zq111 hb)
     have n7_:=zz3 (Kd.S_below zq139 hb)
     have n8_:=zz3 (Kd.S_below (by(with_reducible repeat (first|apply Kd.S_alloc|apply Kd.S_drewN|apply Kd.S_drew));exact aB.out) hb)
     have n9_:=zz3 (hy3 (g:=gb322) (o:=.cells #[.int .i64 t318,.slice Ao13 t319.length co13] 25 (0,0)) zq19 hb)
     have n10_:=zz3 (hy3 (g:=gb328) (o:=.cells #[.int .i64 t323,.int .i64 t324,.slice Ao18 t325.length co18] 31 (0,0)) zq24 hb)
     have n11_:=zz3 (hy3 (g:=gb338) (o:=.cells #[.int .i64 t329,.slice Ao26 t330.length co26] 29 (0,0)) zq31 hb)
     have n12_:=zz3 (hy3 (g:=gb339) (o:=.cells #[.int .i64 t334,.slice Ao30 t335.length co30] 25 (0,0)) zq25 hb)
     have n13_:=zz3 (hy3 (g:=gb345) (o:=.cells #[.int .i64 t340,.int .i64 t341,.slice Ao38 t342.length co38] 31 (0,0)) zq55 hb)
     have n14_:=zz3 (hy3 (g:=gb354) (o:=.cells #[.int .i64 t346,.slice Ao49 t347.length co49] 29 (0,0)) zq63 hb)
     have n15_:=zz3 (hy3 (g:=gb355) (o:=.cells #[.int .i64 t350,.slice Ao56 t351.length co56] 29 (0,0)) zq92 hb)
     have n16_:=zz3 (below_step zq10 hb)
     clear HO321
     clear HO327
     clear HO332
     clear HO337
     clear HO344
     clear HO349
     clear HO353
     clear HO360
     clear aB
     clear BK322
     clear BK328
     clear BK338
     clear BK339
     clear BK345
     clear BK354
     clear BK355
     clear HB
     have HO321:=n0_
     have HO327:=n1_
     have HO332:=n2_
     have HO337:=n3_
     have HO344:=n4_
     have HO349:=n5_
     have HO353:=n6_
     have HO360:=n7_
     have aB:=n8_
     have BK322:=n9_
     have BK328:=n10_
     have BK338:=n11_
     have BK339:=n12_
     have BK345:=n13_
     have BK354:=n14_
     have BK355:=n15_
     have HB:=n16_
     clear n0_ n1_ n2_ n3_ n4_ n5_ n6_ n7_ n8_ n9_ n10_ n11_ n12_ n13_ n14_ n15_ n16_
     (try clear hb);(try clear hb2);(try clear hk)
     (try clear hi)
     refine hK.out _ _ ⟨(blk_cell BK328.out 0).trans rfl,(blk_cell BK328.out 1).trans rfl,(blk_cell BK328.out 2).trans rfl,(blk_cell BK322.out 0).trans rfl,(blk_cell BK322.out 1).trans rfl,(blk_cell BK345.out 0).trans rfl,(blk_cell BK345.out 1).trans rfl,(blk_cell BK345.out 2).trans rfl,(blk_cell BK338.out 0).trans rfl,(blk_cell BK338.out 1).trans rfl,(blk_cell BK339.out 0).trans rfl,(blk_cell BK339.out 1).trans rfl,(blk_cell BK354.out 0).trans rfl,(blk_cell BK354.out 1).trans rfl,(blk_cell BK355.out 0).trans rfl,(blk_cell BK355.out 1).trans rfl⟩ (fun hHeld=>?_)
     clear hK K
     refine norm_ (a':=?_) ?_ ?_
     rotate_left
     ·show Act.put _ (some 54) _=_
      simp only[Act.put,sa_,sb_,sc_,i64_w]
      rfl
     refine pure_ (i:=23) (N:=some 55) (v:=?_) (a':=?_) #[Y,Y,Y,Y,Y,Y,Y,Y,Y,Y,Y,Y,Y,Y,Y,Y,Y,Y,Y,Y,Y,Y,Y,Y,Z] rfl rfl (any_of HT_.out (by kernel_rfl)) (fun _ _ _ h=>h) (Or.inl ⟨zq145,?_⟩) ?_ ?_
     rotate_left
     ·intro w';go_simp;with_reducible rfl
     rotate_left
     ·simp only[Act.put,sa_,sb_,sc_,i64_w];rfl
     refine pure_ (i:=24) (N:=some 56) (v:=?_) (a':=?_) #[Y,Y,Y,Y,Y,Y,Y,Y,Y,Y,Y,Y,Y,Y,Y,Y,Y,Y,Y,Y,Y,Y,Y,Y,Y] rfl rfl (any_of HT_.out (by kernel_rfl)) (fun _ _ _ h=>h) (Or.inl ⟨zq145,?_⟩) ?_ ?_
     rotate_left
     ·intro w';go_simp;with_reducible rfl
     rotate_left
     ·simp only[Act.put,sa_,sb_,sc_,i64_w];rfl
     refine done_ (done_of HT_.out (by kernel_rfl)) ?_
     try go_wp2
     go_meet
     case rel=>exact⟨_,((ah != ag)),zq194,H',⟨by first|omega|exact Nat.le_refl _⟩,⟨zq43⟩,⟨zq197⟩,⟨zq160⟩,⟨zq50⟩,⟨zq198⟩,⟨zq161⟩,⟨zq162⟩,⟨zq19⟩,⟨zq24⟩,⟨zq31⟩,⟨zq25⟩,⟨zq55⟩,⟨zq63⟩,⟨zq92⟩,⟨zq27⟩⟩
    ·rw[if_neg aP] at H
     have b8:(t340 == aE)=false:=beq_eq_false_iff_ne.mpr aP
     have b9:(t340 != aE)=true:=bne_iff_ne.mpr aP
     have H':=zz3 H
     clear H
     try go_wp2
     have n0_:Aside0 (Kd.Q (Kd.int .u8) 5 ((((w41.setCell ⟨gb354,0,none⟩ (.int .i64 t346)).setCell ⟨gb354,1,none⟩ (.slice Ao49 t347.length co49)).setCell ⟨gb355,0,none⟩ (.int .i64 t350)).setCell ⟨gb355,1,none⟩ (.slice Ao56 t351.length co56)) w.heap.size (fun k_=>some k_≠(.slice Ao30 t335.length co30:Value).ownBlock) (.slice Ao13 t319.length co13) t319):=⟨zq87⟩
     have n1_:Aside0 (Kd.S k25 25 ((((w41.setCell ⟨gb354,0,none⟩ (.int .i64 t346)).setCell ⟨gb354,1,none⟩ (.slice Ao49 t347.length co49)).setCell ⟨gb355,0,none⟩ (.int .i64 t350)).setCell ⟨gb355,1,none⟩ (.slice Ao56 t351.length co56)) w.heap.size (fun k_=>some k_≠(.slice Ao13 t319.length co13:Value).ownBlock∧some k_≠(.slice Ao30 t335.length co30:Value).ownBlock∧some k_≠(.slice Ao38 t342.length co38:Value).ownBlock∧k_≠gb322∧k_≠gb339) (.slice Ao18 t325.length co18) t325):=⟨zq73⟩
     have n2_:Aside0 (Kd.V k25 25 ((((w41.setCell ⟨gb354,0,none⟩ (.int .i64 t346)).setCell ⟨gb354,1,none⟩ (.slice Ao49 t347.length co49)).setCell ⟨gb355,0,none⟩ (.int .i64 t350)).setCell ⟨gb355,1,none⟩ (.slice Ao56 t351.length co56)) w.heap.size (fun k_=>some k_≠(.slice Ao13 t319.length co13:Value).ownBlock∧some k_≠(.slice Ao18 t325.length co18:Value).ownBlock∧some k_≠(.slice Ao30 t335.length co30:Value).ownBlock∧some k_≠(.slice Ao38 t342.length co38:Value).ownBlock∧k_≠gb322∧k_≠gb328∧k_≠gb338∧k_≠gb339∧k_≠gb345∧k_≠gb354∧k_≠gb355) (.slice Ao26 t330.length co26) t330):=⟨by(with_reducible repeat (first|apply Kd.V_alloc|apply Kd.V_drewN|apply Kd.V_drew));exact Kd.V_mono (Kd.V_far (p:=⟨gb355,1,none⟩) (Kd.V_far (p:=⟨gb355,0,none⟩) (Kd.V_far (p:=⟨gb354,1,none⟩) (Kd.V_far (p:=⟨gb354,0,none⟩) (Kd.V_mono (Kd.V_mono HO332.out (fun k_ hk=>(⟨hk,hk.1.2⟩:_∧k_≠gb354))) (fun k_ hk=>(⟨hk,hk.1.2⟩:_∧k_≠gb355))) (fun _ hk=>hk.1.2) (.int .i64 t346)) (fun _ hk=>hk.1.2) (.slice Ao49 t347.length co49)) (fun _ hk=>hk.2) (.int .i64 t350)) (fun _ hk=>hk.2) (.slice Ao56 t351.length co56)) (fun _ hk=>⟨hk.1.1.1.1.1.1.1.1.2.1,⟨hk.1.1.1.1.1.1.1.1.2.2.1,⟨hk.1.1.1.1.1.1.1.1.1,⟨hk.1.1.1.1.1.2,⟨hk.1.1.1.1.1.1.1.1.2.2.2.1,⟨hk.1.1.1.1.1.1.1.1.2.2.2.2,⟨hk.1.1.1.1.1.1.1.2,⟨hk.1.1.1.1.1.1.2,⟨hk.1.1.1.1.2,⟨hk.1.1.1.2,hk.1.1.2⟩⟩⟩⟩⟩⟩⟩⟩⟩⟩)⟩
     have n3_:Aside0 (Kd.Q (Kd.int .u8) 5 ((((w41.setCell ⟨gb354,0,none⟩ (.int .i64 t346)).setCell ⟨gb354,1,none⟩ (.slice Ao49 t347.length co49)).setCell ⟨gb355,0,none⟩ (.int .i64 t350)).setCell ⟨gb355,1,none⟩ (.slice Ao56 t351.length co56)) w.heap.size (fun k_=>some k_≠(.slice Ao13 t319.length co13:Value).ownBlock) (.slice Ao30 t335.length co30) t335):=⟨zq88⟩
     have n4_:Aside0 (Kd.S k25 25 ((((w41.setCell ⟨gb354,0,none⟩ (.int .i64 t346)).setCell ⟨gb354,1,none⟩ (.slice Ao49 t347.length co49)).setCell ⟨gb355,0,none⟩ (.int .i64 t350)).setCell ⟨gb355,1,none⟩ (.slice Ao56 t351.length co56)) w.heap.size (fun k_=>some k_≠(.slice Ao13 t319.length co13:Value).ownBlock∧some k_≠(.slice Ao18 t325.length co18:Value).ownBlock∧some k_≠(.slice Ao30 t335.length co30:Value).ownBlock∧k_≠gb322∧k_≠gb339) (.slice Ao38 t342.length co38) t342):=⟨zq74⟩
     have n5_:Aside0 (Kd.V k25 25 ((((w41.setCell ⟨gb354,0,none⟩ (.int .i64 t346)).setCell ⟨gb354,1,none⟩ (.slice Ao49 t347.length co49)).setCell ⟨gb355,0,none⟩ (.int .i64 t350)).setCell ⟨gb355,1,none⟩ (.slice Ao56 t351.length co56)) w.heap.size (fun k_=>some k_≠(.slice Ao13 t319.length co13:Value).ownBlock∧some k_≠(.slice Ao18 t325.length co18:Value).ownBlock∧some k_≠(.slice Ao30 t335.length co30:Value).ownBlock∧some k_≠(.slice Ao38 t342.length co38:Value).ownBlock∧k_≠gb322∧k_≠gb328∧k_≠gb338∧k_≠gb339∧k_≠gb345∧k_≠gb354∧k_≠gb355) (.slice Ao49 t347.length co49) t347):=⟨by(with_reducible repeat (first|apply Kd.V_alloc|apply Kd.V_drewN|apply Kd.V_drew));exact Kd.V_mono (Kd.V_far (p:=⟨gb355,1,none⟩) (Kd.V_far (p:=⟨gb355,0,none⟩) (Kd.V_far (p:=⟨gb354,1,none⟩) (Kd.V_far (p:=⟨gb354,0,none⟩) (Kd.V_mono (Kd.V_mono HO349.out (fun k_ hk=>(⟨hk,hk.1.2⟩:_∧k_≠gb354))) (fun k_ hk=>(⟨hk,hk.1.2⟩:_∧k_≠gb355))) (fun _ hk=>hk.1.2) (.int .i64 t346)) (fun _ hk=>hk.1.2) (.slice Ao49 t347.length co49)) (fun _ hk=>hk.2) (.int .i64 t350)) (fun _ hk=>hk.2) (.slice Ao56 t351.length co56)) (fun _ hk=>⟨hk.1.1.1.1.1,⟨hk.1.1.1.1.2.1,⟨hk.1.1.1.1.2.2.1,⟨hk.1.1.1.1.2.2.2.1,⟨hk.1.1.1.1.2.2.2.2.1,⟨hk.1.1.1.1.2.2.2.2.2.1,⟨hk.1.1.1.1.2.2.2.2.2.2.1,⟨hk.1.1.1.1.2.2.2.2.2.2.2.1,⟨hk.1.1.1.1.2.2.2.2.2.2.2.2,⟨hk.1.1.1.2,hk.1.1.2⟩⟩⟩⟩⟩⟩⟩⟩⟩⟩)⟩
     have n6_:Aside0 (Kd.V k25 25 ((((w41.setCell ⟨gb354,0,none⟩ (.int .i64 t346)).setCell ⟨gb354,1,none⟩ (.slice Ao49 t347.length co49)).setCell ⟨gb355,0,none⟩ (.int .i64 t350)).setCell ⟨gb355,1,none⟩ (.slice Ao56 t351.length co56)) w.heap.size (fun k_=>some k_≠(.slice Ao13 t319.length co13:Value).ownBlock∧some k_≠(.slice Ao18 t325.length co18:Value).ownBlock∧some k_≠(.slice Ao30 t335.length co30:Value).ownBlock∧some k_≠(.slice Ao38 t342.length co38:Value).ownBlock∧k_≠gb322∧k_≠gb328∧k_≠gb338∧k_≠gb339∧k_≠gb345∧k_≠gb354∧k_≠gb355) (.slice Ao56 t351.length co56) t351):=⟨by(with_reducible repeat (first|apply Kd.V_alloc|apply Kd.V_drewN|apply Kd.V_drew));exact Kd.V_mono (Kd.V_far (p:=⟨gb355,1,none⟩) (Kd.V_far (p:=⟨gb355,0,none⟩) (Kd.V_far (p:=⟨gb354,1,none⟩) (Kd.V_far (p:=⟨gb354,0,none⟩) (Kd.V_mono (Kd.V_mono HO353.out (fun k_ hk=>(⟨hk,hk.1.2⟩:_∧k_≠gb354))) (fun k_ hk=>(⟨hk,hk.1.2⟩:_∧k_≠gb355))) (fun _ hk=>hk.1.2) (.int .i64 t346)) (fun _ hk=>hk.1.2) (.slice Ao49 t347.length co49)) (fun _ hk=>hk.2) (.int .i64 t350)) (fun _ hk=>hk.2) (.slice Ao56 t351.length co56)) (fun _ hk=>⟨hk.1.1.1.1.1,⟨hk.1.1.1.1.2.1,⟨hk.1.1.1.1.2.2.1,⟨hk.1.1.1.1.2.2.2.1,⟨hk.1.1.1.1.2.2.2.2.1,⟨hk.1.1.1.1.2.2.2.2.2.1,⟨hk.1.1.1.1.2.2.2.2.2.2.1,⟨hk.1.1.1.1.2.2.2.2.2.2.2.1,⟨hk.1.1.1.1.2.2.2.2.2.2.2.2,⟨hk.1.1.1.2,hk.1.1.2⟩⟩⟩⟩⟩⟩⟩⟩⟩⟩)⟩
     have n7_:Aside0 (((((w41.setCell ⟨gb354,0,none⟩ (.int .i64 t346)).setCell ⟨gb354,1,none⟩ (.slice Ao49 t347.length co49)).setCell ⟨gb355,0,none⟩ (.int .i64 t350)).setCell ⟨gb355,1,none⟩ (.slice Ao56 t351.length co56)).heap[gb322]?=some (.cells #[.int .i64 t318,.slice Ao13 t319.length co13] 25 (0,0))):=⟨zq76⟩
     have n8_:Aside0 (((((w41.setCell ⟨gb354,0,none⟩ (.int .i64 t346)).setCell ⟨gb354,1,none⟩ (.slice Ao49 t347.length co49)).setCell ⟨gb355,0,none⟩ (.int .i64 t350)).setCell ⟨gb355,1,none⟩ (.slice Ao56 t351.length co56)).heap[gb328]?=some (.cells #[.int .i64 t323,.int .i64 t324,.slice Ao18 t325.length co18] 31 (0,0))):=⟨zq77⟩
     have n9_:Aside0 (((((w41.setCell ⟨gb354,0,none⟩ (.int .i64 t346)).setCell ⟨gb354,1,none⟩ (.slice Ao49 t347.length co49)).setCell ⟨gb355,0,none⟩ (.int .i64 t350)).setCell ⟨gb355,1,none⟩ (.slice Ao56 t351.length co56)).heap[gb338]?=some (.cells #[.int .i64 t329,.slice Ao26 t330.length co26] 29 (0,0))):=⟨zq78⟩
     have n10_:Aside0 (((((w41.setCell ⟨gb354,0,none⟩ (.int .i64 t346)).setCell ⟨gb354,1,none⟩ (.slice Ao49 t347.length co49)).setCell ⟨gb355,0,none⟩ (.int .i64 t350)).setCell ⟨gb355,1,none⟩ (.slice Ao56 t351.length co56)).heap[gb339]?=some (.cells #[.int .i64 t334,.slice Ao30 t335.length co30] 25 (0,0))):=⟨zq79⟩
     have n11_:Aside0 (((((w41.setCell ⟨gb354,0,none⟩ (.int .i64 t346)).setCell ⟨gb354,1,none⟩ (.slice Ao49 t347.length co49)).setCell ⟨gb355,0,none⟩ (.int .i64 t350)).setCell ⟨gb355,1,none⟩ (.slice Ao56 t351.length co56)).heap[gb345]?=some (.cells #[.int .i64 t340,.int .i64 t341,.slice Ao38 t342.length co38] 31 (0,0))):=⟨zq80⟩
     have n12_:Aside0 (((((w41.setCell ⟨gb354,0,none⟩ (.int .i64 t346)).setCell ⟨gb354,1,none⟩ (.slice Ao49 t347.length co49)).setCell ⟨gb355,0,none⟩ (.int .i64 t350)).setCell ⟨gb355,1,none⟩ (.slice Ao56 t351.length co56)).heap[gb354]?=some (.cells #[.int .i64 t346,.slice Ao49 t347.length co49] 29 (0,0))):=⟨zq65⟩
     have n13_:Aside0 (((((w41.setCell ⟨gb354,0,none⟩ (.int .i64 t346)).setCell ⟨gb354,1,none⟩ (.slice Ao49 t347.length co49)).setCell ⟨gb355,0,none⟩ (.int .i64 t350)).setCell ⟨gb355,1,none⟩ (.slice Ao56 t351.length co56)).heap[gb355]?=some (.cells #[.int .i64 t350,.slice Ao56 t351.length co56] 29 (0,0))):=⟨zq66⟩
     have n14_:Aside0 (Below w.heap.size w ((((w41.setCell ⟨gb354,0,none⟩ (.int .i64 t346)).setCell ⟨gb354,1,none⟩ (.slice Ao49 t347.length co49)).setCell ⟨gb355,0,none⟩ (.int .i64 t350)).setCell ⟨gb355,1,none⟩ (.slice Ao56 t351.length co56))):=⟨zq27⟩
     (try clear HO321);(try clear HO327);(try clear HO332)
     (try clear HO337);(try clear HO344);(try clear HO349)
     (try clear HO353);(try clear BK322);(try clear BK328)
     (try clear BK338);(try clear BK339);(try clear BK345)
     (try clear BK354);(try clear BK355);(try clear HB)
     generalize ((((w41.setCell ⟨gb354,0,none⟩ (.int .i64 t346)).setCell ⟨gb354,1,none⟩ (.slice Ao49 t347.length co49)).setCell ⟨gb355,0,none⟩ (.int .i64 t350)).setCell ⟨gb355,1,none⟩ (.slice Ao56 t351.length co56))=w69 at n0_ n1_ n2_ n3_ n4_ n5_ n6_ n7_ n8_ n9_ n10_ n11_ n12_ n13_ n14_ ⊢
     have HO321:=n0_
     have HO327:=n1_
     have HO332:=n2_
     have HO337:=n3_
     have HO344:=n4_
     have HO349:=n5_
     have HO353:=n6_
     have BK322:=n7_
     have BK328:=n8_
     have BK338:=n9_
     have BK339:=n10_
     have BK345:=n11_
     have BK354:=n12_
     have BK355:=n13_
     have HB:=n14_
     clear n0_ n1_ n2_ n3_ n4_ n5_ n6_ n7_ n8_ n9_ n10_ n11_ n12_ n13_ n14_
     have n0_:=zz3 (Kd.Q_drew HO321.out)
     have n1_:=zz3 (Kd.S_drew HO327.out)
     have n2_:=zz3 (Kd.V_drew HO332.out)
     have n3_:=zz3 (Kd.Q_drew HO337.out)
     have n4_:=zz3 (Kd.S_drew HO344.out)
     have n5_:=zz3 (Kd.V_drew HO349.out)
     have n6_:=zz3 (Kd.V_drew HO353.out)
     have n7_:=zz3 (gy3 BK322.out)
     have n8_:=zz3 (gy3 BK328.out)
     have n9_:=zz3 (gy3 BK338.out)
     have n10_:=zz3 (gy3 BK339.out)
     have n11_:=zz3 (gy3 BK345.out)
     have n12_:=zz3 (gy3 BK354.out)
     have n13_:=zz3 (gy3 BK355.out)
     have n14_:=zz3 (cy3 HB.out)
     clear HO321
     clear HO327
     clear HO332
     clear HO337
     clear HO344
     clear HO349
     clear HO353
     clear BK322
     clear BK328
     clear BK338
     clear BK339
     clear BK345
     clear BK354
     clear BK355
     clear HB
     have HO321:=n0_
     have HO327:=n1_
     have HO332:=n2_
     have HO337:=n3_
     have HO344:=n4_
     have HO349:=n5_
     have HO353:=n6_
     have BK322:=n7_
     have BK328:=n8_
     have BK338:=n9_
     have BK339:=n10_
     have BK345:=n11_
     have BK354:=n12_
     have BK355:=n13_
     have HB:=n14_
     clear n0_ n1_ n2_ n3_ n4_ n5_ n6_ n7_ n8_ n9_ n10_ n11_ n12_ n13_ n14_
     refine start_ (n:=25) (S:=fun w'=>w'.cell? ⟨gb328,0,none⟩=some (.int .i64 t323)∧w'.cell? ⟨gb328,1,none⟩=some (.int .i64 t324)∧w'.cell? ⟨gb328,2,none⟩=some (.slice Ao18 t325.length co18)∧w'.cell? ⟨gb322,0,none⟩=some (.int .i64 t318)∧w'.cell? ⟨gb322,1,none⟩=some (.slice Ao13 t319.length co13)∧w'.cell? ⟨gb345,0,none⟩=some (.int .i64 t340)∧w'.cell? ⟨gb345,1,none⟩=some (.int .i64 t341)∧w'.cell? ⟨gb345,2,none⟩=some (.slice Ao38 t342.length co38)∧w'.cell? ⟨gb338,0,none⟩=some (.int .i64 t329)∧w'.cell? ⟨gb338,1,none⟩=some (.slice Ao26 t330.length co26)∧w'.cell? ⟨gb339,0,none⟩=some (.int .i64 t334)∧w'.cell? ⟨gb339,1,none⟩=some (.slice Ao30 t335.length co30)) (ds:=[]) #[Z,Z,Z,Z,Z,Z,Z,Z,Z,Z,Z,Z,Z,Z,Z,Z,Z,Z,Z,Z,Z,Z,Z,Z,Z] (by kernel_rfl) rfl rfl ⟨(blk_cell BK328.out 0).trans rfl,(blk_cell BK328.out 1).trans rfl,(blk_cell BK328.out 2).trans rfl,(blk_cell BK322.out 0).trans rfl,(blk_cell BK322.out 1).trans rfl,(blk_cell BK345.out 0).trans rfl,(blk_cell BK345.out 1).trans rfl,(blk_cell BK345.out 2).trans rfl,(blk_cell BK338.out 0).trans rfl,(blk_cell BK338.out 1).trans rfl,(blk_cell BK339.out 0).trans rfl,(blk_cell BK339.out 1).trans rfl⟩ (fun hHeld=>?_);refine with_tabW laws_FnTurns.tab8 laws_FnTurns.bits8 (fun HT_ HW_=>?_)
     generalize w69.drew=w70 at HO321 HO327 HO332 HO337 HO344 HO349 HO353 BK322 BK328 BK338 BK339 BK345 BK354 BK355 HB hHeld ⊢
     refine pure_ (i:=0) (N:=some 32) (v:=?_) (a':=?_) #[Y,Z,Z,Z,Z,Z,Z,Z,Z,Z,Z,Z,Z,Z,Z,Z,Z,Z,Z,Z,Z,Z,Z,Z,Z] rfl rfl (any_of HT_.out (by kernel_rfl)) (fun _ _ _ h=>h) (Or.inl ⟨zq145,?_⟩) ?_ ?_
     rotate_left
     ·intro w';go_simp;with_reducible rfl
     rotate_left
     ·simp only[Act.put,sa_,sb_,sc_,i64_w];rfl
     refine take_ (i:=1) (N:=some 33) (v:=?_) (a':=?_) #[Y,Y,Z,Z,Z,Z,Z,Z,Z,Z,Z,Z,Z,Z,Z,Z,Z,Z,Z,Z,Z,Z,Z,Z,Z] rfl rfl (take_ofW HT_.out HW_.out (by kernel_rfl)) (fun _ _ _ h=>h) (Or.inl ⟨zq145,?_⟩) hHeld ?_ ?_
     rotate_left
     ·rintro w' ⟨s0,s1,s2,s3,s4,s5,s6,s7,s8,s9,s10,s11⟩
      go_simp
      with_reducible rfl
     rotate_left
     ·simp only[Act.put,sa_,sb_,sc_,i64_w];rfl
     refine take_ (i:=2) (N:=some 34) (v:=?_) (a':=?_) #[Y,Y,Y,Z,Z,Z,Z,Z,Z,Z,Z,Z,Z,Z,Z,Z,Z,Z,Z,Z,Z,Z,Z,Z,Z] rfl rfl (take_ofW HT_.out HW_.out (by kernel_rfl)) (fun _ _ _ h=>h) (Or.inl ⟨zq145,?_⟩) hHeld ?_ ?_
     rotate_left
     ·rintro w' ⟨s0,s1,s2,s3,s4,s5,s6,s7,s8,s9,s10,s11⟩
      go_simp
      with_reducible rfl
     rotate_left
     ·simp only[Act.put,sa_,sb_,sc_,i64_w];rfl
     refine one_ (i:=3) (N:=some 35) #[Y,Y,Y,Y,Z,Z,Z,Z,Z,Z,Z,Z,Z,Z,Z,Z,Z,Z,Z,Z,Z,Z,Z,Z,Z] rfl rfl (one_of HT_.out (by kernel_rfl)) zq16 (fun K hK=>?_)
     refine goes_ Try.func21 (by kernel_rfl) rfl #[.agg #[.int .i64 t318,.slice Ao13 t319.length co13]] zq145 rfl rfl zq32 ?_
     with_reducible refine(spec_NewRing.calls t318 _ _ t319 az a8 a9 _ ?side1 ?side2 bW.out).mono ?_
     (case side1=>exact zq186)
     (case side2=>exact(Kd.Q_reads' HO321.out).2.1)
     rintro e w71 ⟨v359,rfl,ho0,hb⟩
     refine⟨_,rfl,?_⟩
     have n0_:=zz3 (Kd.Q_below zq43 hb)
     have n1_:=zz3 (Kd.S_elder' zq45 (Kd.S_base ho0) hb)
     have n2_:=zz3 (Kd.V_elder' zq81 (Kd.S_base ho0) hb)
     have n3_:=zz3 (Kd.Q_below zq50 hb)
     have n4_:=zz3 (Kd.S_elder' zq57 (Kd.S_base ho0) hb)
     have n5_:=zz3 (Kd.V_elder' zq110 (Kd.S_base ho0) hb)
     have n6_:=zz3 (Kd.V_elder' zq111 (Kd.S_base ho0) hb)
     have n7_:=zz3 (Kd.S_lower (Kd.S_newB (Kd.S_newB (Kd.S_new' (Kd.S_new' (Kd.S_new' (Kd.S_new' ho0 (Kd.Q_lt zq43)) (Kd.S_lt zq45)) (Kd.Q_lt zq50)) (Kd.S_lt zq57)) (g:=gb322) (o:=.cells #[.int .i64 t318,.slice Ao13 t319.length co13] 25 (0,0)) zq19) (g:=gb339) (o:=.cells #[.int .i64 t334,.slice Ao30 t335.length co30] 25 (0,0)) zq25) (below_size zq10))
     have n8_:=zz3 (hy3 (g:=gb322) (o:=.cells #[.int .i64 t318,.slice Ao13 t319.length co13] 25 (0,0)) zq19 hb)
     have n9_:=zz3 (hy3 (g:=gb328) (o:=.cells #[.int .i64 t323,.int .i64 t324,.slice Ao18 t325.length co18] 31 (0,0)) zq24 hb)
     have n10_:=zz3 (hy3 (g:=gb338) (o:=.cells #[.int .i64 t329,.slice Ao26 t330.length co26] 29 (0,0)) zq31 hb)
     have n11_:=zz3 (hy3 (g:=gb339) (o:=.cells #[.int .i64 t334,.slice Ao30 t335.length co30] 25 (0,0)) zq25 hb)
     have n12_:=zz3 (hy3 (g:=gb345) (o:=.cells #[.int .i64 t340,.int .i64 t341,.slice Ao38 t342.length co38] 31 (0,0)) zq55 hb)
     have n13_:=zz3 (hy3 (g:=gb354) (o:=.cells #[.int .i64 t346,.slice Ao49 t347.length co49] 29 (0,0)) zq63 hb)
     have n14_:=zz3 (hy3 (g:=gb355) (o:=.cells #[.int .i64 t350,.slice Ao56 t351.length co56] 29 (0,0)) zq92 hb)
     have n15_:=zz3 (below_step zq10 hb)
     clear HO321
     clear HO327
     clear HO332
     clear HO337
     clear HO344
     clear HO349
     clear HO353
     clear BK322
     clear BK328
     clear BK338
     clear BK339
     clear BK345
     clear BK354
     clear BK355
     clear HB
     have HO321:=n0_
     have HO327:=n1_
     have HO332:=n2_
     have HO337:=n3_
     have HO344:=n4_
     have HO349:=n5_
     have HO353:=n6_
     have HO360:=n7_
     have BK322:=n8_
     have BK328:=n9_
     have BK338:=n10_
     have BK339:=n11_
     have BK345:=n12_
     have BK354:=n13_
     have BK355:=n14_
     have HB:=n15_
     clear n0_ n1_ n2_ n3_ n4_ n5_ n6_ n7_ n8_ n9_ n10_ n11_ n12_ n13_ n14_ n15_
     (try clear hb);(try clear hb2);(try clear hk)
     (try clear hi)
     (try clear ho0)
     refine hK.out _ _ ⟨(blk_cell BK328.out 0).trans rfl,(blk_cell BK328.out 1).trans rfl,(blk_cell BK328.out 2).trans rfl,(blk_cell BK322.out 0).trans rfl,(blk_cell BK322.out 1).trans rfl,(blk_cell BK345.out 0).trans rfl,(blk_cell BK345.out 1).trans rfl,(blk_cell BK345.out 2).trans rfl,(blk_cell BK338.out 0).trans rfl,(blk_cell BK338.out 1).trans rfl,(blk_cell BK339.out 0).trans rfl,(blk_cell BK339.out 1).trans rfl⟩ (fun hHeld=>?_)
     clear hK K
     refine norm_ (a':=?_) ?_ ?_
     rotate_left
     ·show Act.put _ (some 35) _=_
      simp only[Act.put,sa_,sb_,sc_,i64_w]
      rfl
     refine pure_ (i:=4) (N:=some 36) (v:=?_) (a':=?_) #[Y,Y,Y,Y,Y,Z,Z,Z,Z,Z,Z,Z,Z,Z,Z,Z,Z,Z,Z,Z,Z,Z,Z,Z,Z] rfl rfl (any_of HT_.out (by kernel_rfl)) (fun _ _ _ h=>h) (Or.inl ⟨zq145,?_⟩) ?_ ?_
     rotate_left
     ·intro w';go_simp;with_reducible rfl
     rotate_left
     ·simp only[Act.put,sa_,sb_,sc_,i64_w];rfl
     refine pure_ (i:=5) (N:=some 37) (v:=?_) (a':=?_) #[Y,Y,Y,Y,Y,Y,Z,Z,Z,Z,Z,Z,Z,Z,Z,Z,Z,Z,Z,Z,Z,Z,Z,Z,Z] rfl rfl (any_of HT_.out (by kernel_rfl)) (fun _ _ _ h=>h) (Or.inl ⟨zq145,?_⟩) ?_ ?_
     rotate_left
     ·intro w';go_simp;with_reducible rfl
     rotate_left
     ·simp only[Act.put,sa_,sb_,sc_,i64_w];rfl
     refine pure_ (i:=6) (N:=some 38) (v:=?_) (a':=?_) #[Y,Y,Y,Y,Y,Y,Y,Z,Z,Z,Z,Z,Z,Z,Z,Z,Z,Z,Z,Z,Z,Z,Z,Z,Z] rfl rfl (any_of HT_.out (by kernel_rfl)) (fun _ _ _ h=>h) (Or.inl ⟨zq145,?_⟩) ?_ ?_
     rotate_left
     ·intro w';go_simp;with_reducible rfl
     rotate_left
     ·simp only[Act.put,sa_,sb_,sc_,i64_w];rfl
     refine pure_ (i:=7) (N:=some 39) (v:=?_) (a':=?_) #[Y,Y,Y,Y,Y,Y,Y,Y,Z,Z,Z,Z,Z,Z,Z,Z,Z,Z,Z,Z,Z,Z,Z,Z,Z] rfl rfl (any_of HT_.out (by kernel_rfl)) (fun _ _ _ h=>h) (Or.inl ⟨zq145,?_⟩) ?_ ?_
     rotate_left
     ·intro w';go_simp;with_reducible rfl
     rotate_left
     ·simp only[Act.put,sa_,sb_,sc_,i64_w];rfl
     refine pure_ (i:=10) (N:=some 42) (v:=?_) (a':=?_) #[Y,Y,Y,Y,Y,Y,Y,Y,Z,Z,Y,Z,Z,Z,Z,Z,Z,Z,Z,Z,Z,Z,Z,Z,Z] rfl rfl (any_of HT_.out (by kernel_rfl)) (fun _ _ _ h=>h) (Or.inl ⟨zq145,?_⟩) ?_ ?_
     rotate_left
     ·intro w';go_simp;with_reducible rfl
     rotate_left
     ·simp only[Act.put,sa_,sb_,sc_,i64_w];rfl
     refine take_ (i:=8) (N:=some 40) (v:=?_) (a':=?_) #[Y,Y,Y,Y,Y,Y,Y,Y,Y,Z,Y,Z,Z,Z,Z,Z,Z,Z,Z,Z,Z,Z,Z,Z,Z] rfl rfl (take_ofW HT_.out HW_.out (by kernel_rfl)) (fun _ _ _ h=>h) (Or.inl ⟨zq145,?_⟩) hHeld ?_ ?_
     rotate_left
     ·rintro w' ⟨s0,s1,s2,s3,s4,s5,s6,s7,s8,s9,s10,s11⟩
      go_simp
      with_reducible rfl
     rotate_left
     ·simp only[Act.put,sa_,sb_,sc_,i64_w];rfl
     refine take_ (i:=9) (N:=some 41) (v:=?_) (a':=?_) #[Y,Y,Y,Y,Y,Y,Y,Y,Y,Y,Y,Z,Z,Z,Z,Z,Z,Z,Z,Z,Z,Z,Z,Z,Z] rfl rfl (take_ofW HT_.out HW_.out (by kernel_rfl)) (fun _ _ _ h=>h) (Or.inl ⟨zq145,?_⟩) hHeld ?_ ?_
     rotate_left
     ·rintro w' ⟨s0,s1,s2,s3,s4,s5,s6,s7,s8,s9,s10,s11⟩
      go_simp
      with_reducible rfl
     rotate_left
     ·simp only[Act.put,sa_,sb_,sc_,i64_w];rfl
     refine take_ (i:=11) (N:=some 43) (v:=?_) (a':=?_) #[Y,Y,Y,Y,Y,Y,Y,Y,Y,Y,Y,Y,Z,Z,Z,Z,Z,Z,Z,Z,Z,Z,Z,Z,Z] rfl rfl (take_ofW HT_.out HW_.out (by kernel_rfl)) (fun _ _ _ h=>h) (Or.inl ⟨zq145,?_⟩) hHeld ?_ ?_
     rotate_left
     ·rintro w' ⟨s0,s1,s2,s3,s4,s5,s6,s7,s8,s9,s10,s11⟩
      go_simp
      with_reducible rfl
     rotate_left
     ·simp only[Act.put,sa_,sb_,sc_,i64_w];rfl
     refine one_ (i:=12) (N:=some 44) #[Y,Y,Y,Y,Y,Y,Y,Y,Y,Y,Y,Y,Y,Z,Z,Z,Z,Z,Z,Z,Z,Z,Z,Z,Z] rfl rfl (one_of HT_.out (by kernel_rfl)) zq16 (fun K hK=>?_)
     refine goes_ Try.func22 (by kernel_rfl) rfl #[.agg #[.int .i64 t329,.slice Ao26 t330.length co26],.int .i64 af,.agg #[.int .i64 t334,.slice Ao30 t335.length co30]] zq145 rfl rfl zq32 ?_
     with_reducible refine(spec_TurnRing.calls k t329 _ _ t330 af t334 _ _ t335 aE bX bY _ ?side1 ?side2 ?side3 ?side4 ci.out).mono ?_
     (case side1=>exact zq210)
     (case side2=>exact(Kd.V_reads' HO332.out).2.1)
     (case side3=>exact zq211)
     (case side4=>exact(Kd.Q_reads' HO337.out).2.1)
     rintro e w72 ⟨v364,rfl,ho0,hb⟩
     refine⟨_,rfl,?_⟩
     have n0_:=zz3 (Kd.Q_below zq43 hb)
     have n1_:=zz3 (Kd.S_elder' zq45 (Kd.S_base ho0) hb)
     have n2_:=zz3 (Kd.V_elder' zq81 (Kd.S_base ho0) hb)
     have n3_:=zz3 (Kd.Q_below zq50 hb)
     have n4_:=zz3 (Kd.S_elder' zq57 (Kd.S_base ho0) hb)
     have n5_:=zz3 (Kd.V_elder' zq110 (Kd.S_base ho0) hb)
     have n6_:=zz3 (Kd.V_elder' zq111 (Kd.S_base ho0) hb)
     have n7_:=zz3 (Kd.S_elder' zq139 (Kd.S_base ho0) hb)
     have n8_:=zz3 (Kd.S_lower (Kd.S_newB (Kd.S_newB (Kd.S_new' (Kd.S_new' (Kd.S_new' (Kd.S_new' (Kd.S_new' ho0 (Kd.Q_lt zq43)) (Kd.S_lt zq45)) (Kd.Q_lt zq50)) (Kd.S_lt zq57)) (Kd.S_lt zq139)) (g:=gb322) (o:=.cells #[.int .i64 t318,.slice Ao13 t319.length co13] 25 (0,0)) zq19) (g:=gb339) (o:=.cells #[.int .i64 t334,.slice Ao30 t335.length co30] 25 (0,0)) zq25) (below_size zq10))
     have n9_:=zz3 (hy3 (g:=gb322) (o:=.cells #[.int .i64 t318,.slice Ao13 t319.length co13] 25 (0,0)) zq19 hb)
     have n10_:=zz3 (hy3 (g:=gb328) (o:=.cells #[.int .i64 t323,.int .i64 t324,.slice Ao18 t325.length co18] 31 (0,0)) zq24 hb)
     have n11_:=zz3 (hy3 (g:=gb338) (o:=.cells #[.int .i64 t329,.slice Ao26 t330.length co26] 29 (0,0)) zq31 hb)
     have n12_:=zz3 (hy3 (g:=gb339) (o:=.cells #[.int .i64 t334,.slice Ao30 t335.length co30] 25 (0,0)) zq25 hb)
     have n13_:=zz3 (hy3 (g:=gb345) (o:=.cells #[.int .i64 t340,.int .i64 t341,.slice Ao38 t342.length co38] 31 (0,0)) zq55 hb)
     have n14_:=zz3 (hy3 (g:=gb354) (o:=.cells #[.int .i64 t346,.slice Ao49 t347.length co49] 29 (0,0)) zq63 hb)
     have n15_:=zz3 (hy3 (g:=gb355) (o:=.cells #[.int .i64 t350,.slice Ao56 t351.length co56] 29 (0,0)) zq92 hb)
     have n16_:=zz3 (below_step zq10 hb)
     clear HO321
     clear HO327
     clear HO332
     clear HO337
     clear HO344
     clear HO349
     clear HO353
     clear HO360
     clear BK322
     clear BK328
     clear BK338
     clear BK339
     clear BK345
     clear BK354
     clear BK355
     clear HB
     have HO321:=n0_
     have HO327:=n1_
     have HO332:=n2_
     have HO337:=n3_
     have HO344:=n4_
     have HO349:=n5_
     have HO353:=n6_
     have HO360:=n7_
     have aB:=n8_
     have BK322:=n9_
     have BK328:=n10_
     have BK338:=n11_
     have BK339:=n12_
     have BK345:=n13_
     have BK354:=n14_
     have BK355:=n15_
     have HB:=n16_
     clear n0_ n1_ n2_ n3_ n4_ n5_ n6_ n7_ n8_ n9_ n10_ n11_ n12_ n13_ n14_ n15_ n16_
     (try clear hb);(try clear hb2);(try clear hk)
     (try clear hi)
     (try clear ho0)
     refine hK.out _ _ ⟨(blk_cell BK328.out 0).trans rfl,(blk_cell BK328.out 1).trans rfl,(blk_cell BK328.out 2).trans rfl,(blk_cell BK322.out 0).trans rfl,(blk_cell BK322.out 1).trans rfl,(blk_cell BK345.out 0).trans rfl,(blk_cell BK345.out 1).trans rfl,(blk_cell BK345.out 2).trans rfl,(blk_cell BK338.out 0).trans rfl,(blk_cell BK338.out 1).trans rfl,(blk_cell BK339.out 0).trans rfl,(blk_cell BK339.out 1).trans rfl⟩ (fun hHeld=>?_)
     clear hK K
     refine norm_ (a':=?_) ?_ ?_
     rotate_left
     ·show Act.put _ (some 44) _=_
      simp only[Act.put,sa_,sb_,sc_,i64_w]
      rfl
     refine pure_ (i:=13) (N:=some 45) (v:=?_) (a':=?_) #[Y,Y,Y,Y,Y,Y,Y,Y,Y,Y,Y,Y,Y,Y,Z,Z,Z,Z,Z,Z,Z,Z,Z,Z,Z] rfl rfl (any_of HT_.out (by kernel_rfl)) (fun _ _ _ h=>h) (Or.inl ⟨zq145,?_⟩) ?_ ?_
     rotate_left
     ·intro w';go_simp;with_reducible rfl
     rotate_left
     ·simp only[Act.put,sa_,sb_,sc_,i64_w];rfl
     refine pure_ (i:=14) (N:=some 46) (v:=?_) (a':=?_) #[Y,Y,Y,Y,Y,Y,Y,Y,Y,Y,Y,Y,Y,Y,Y,Z,Z,Z,Z,Z,Z,Z,Z,Z,Z] rfl rfl (any_of HT_.out (by kernel_rfl)) (fun _ _ _ h=>h) (Or.inl ⟨zq145,?_⟩) ?_ ?_
     rotate_left
     ·intro w';go_simp;with_reducible rfl
     rotate_left
     ·simp only[Act.put,sa_,sb_,sc_,i64_w];rfl
     refine pure_ (i:=15) (N:=some 47) (v:=?_) (a':=?_) #[Y,Y,Y,Y,Y,Y,Y,Y,Y,Y,Y,Y,Y,Y,Y,Y,Z,Z,Z,Z,Z,Z,Z,Z,Z] rfl rfl (any_of HT_.out (by kernel_rfl)) (fun _ _ _ h=>h) (Or.inl ⟨zq145,?_⟩) ?_ ?_
     rotate_left
     ·intro w';go_simp;with_reducible rfl
     rotate_left
     ·simp only[Act.put,sa_,sb_,sc_,i64_w];rfl
     refine pure_ (i:=16) (N:=some 48) (v:=?_) (a':=?_) #[Y,Y,Y,Y,Y,Y,Y,Y,Y,Y,Y,Y,Y,Y,Y,Y,Y,Z,Z,Z,Z,Z,Z,Z,Z] rfl rfl (any_of HT_.out (by kernel_rfl)) (fun _ _ _ h=>h) (Or.inl ⟨zq145,?_⟩) ?_ ?_
     rotate_left
     ·intro w';go_simp;with_reducible rfl
     rotate_left
     ·simp only[Act.put,sa_,sb_,sc_,i64_w];rfl
     refine pure_ (i:=17) (N:=some 49) (v:=undef) (a':=?_) #[Y,Y,Y,Y,Y,Y,Y,Y,Y,Y,Y,Y,Y,Y,Y,Y,Y,Y,Z,Z,Z,Z,Z,Z,Z] rfl rfl (any_of HT_.out (by kernel_rfl)) (fun _ _ _ h=>h) (Or.inr ⟨zq145,rfl⟩) ?_ ?_
     rotate_left
     ·simp only[Act.put,sa_,sb_,sc_,i64_w];rfl
     refine pure_ (i:=18) (N:=some 50) (v:=undef) (a':=?_) #[Y,Y,Y,Y,Y,Y,Y,Y,Y,Y,Y,Y,Y,Y,Y,Y,Y,Y,Y,Z,Z,Z,Z,Z,Z] rfl rfl (any_of HT_.out (by kernel_rfl)) (fun _ _ _ h=>h) (Or.inr ⟨zq145,rfl⟩) ?_ ?_
     rotate_left
     ·simp only[Act.put,sa_,sb_,sc_,i64_w];rfl
     refine pure_ (i:=19) (N:=some 51) (v:=undef) (a':=?_) #[Y,Y,Y,Y,Y,Y,Y,Y,Y,Y,Y,Y,Y,Y,Y,Y,Y,Y,Y,Y,Z,Z,Z,Z,Z] rfl rfl (any_of HT_.out (by kernel_rfl)) (fun _ _ _ h=>h) (Or.inr ⟨zq145,rfl⟩) ?_ ?_
     rotate_left
     ·simp only[Act.put,sa_,sb_,sc_,i64_w];rfl
     refine pure_ (i:=20) (N:=some 52) (v:=undef) (a':=?_) #[Y,Y,Y,Y,Y,Y,Y,Y,Y,Y,Y,Y,Y,Y,Y,Y,Y,Y,Y,Y,Y,Z,Z,Z,Z] rfl rfl (any_of HT_.out (by kernel_rfl)) (fun _ _ _ h=>h) (Or.inr ⟨zq145,rfl⟩) ?_ ?_
     rotate_left
     ·simp only[Act.put,sa_,sb_,sc_,i64_w];rfl
     refine pure_ (i:=21) (N:=some 53) (v:=undef) (a':=?_) #[Y,Y,Y,Y,Y,Y,Y,Y,Y,Y,Y,Y,Y,Y,Y,Y,Y,Y,Y,Y,Y,Y,Z,Z,Z] rfl rfl (any_of HT_.out (by kernel_rfl)) (fun _ _ _ h=>h) (Or.inr ⟨zq145,rfl⟩) ?_ ?_
     rotate_left
     ·simp only[Act.put,sa_,sb_,sc_,i64_w];rfl
     refine pure_ (i:=22) (N:=some 54) (v:=undef) (a':=?_) #[Y,Y,Y,Y,Y,Y,Y,Y,Y,Y,Y,Y,Y,Y,Y,Y,Y,Y,Y,Y,Y,Y,Y,Z,Z] rfl rfl (any_of HT_.out (by kernel_rfl)) (fun _ _ _ h=>h) (Or.inr ⟨zq145,rfl⟩) ?_ ?_
     rotate_left
     ·simp only[Act.put,sa_,sb_,sc_,i64_w];rfl
     refine pure_ (i:=23) (N:=some 55) (v:=undef) (a':=?_) #[Y,Y,Y,Y,Y,Y,Y,Y,Y,Y,Y,Y,Y,Y,Y,Y,Y,Y,Y,Y,Y,Y,Y,Y,Z] rfl rfl (any_of HT_.out (by kernel_rfl)) (fun _ _ _ h=>h) (Or.inr ⟨zq145,rfl⟩) ?_ ?_
     rotate_left
     ·simp only[Act.put,sa_,sb_,sc_,i64_w];rfl
     refine pure_ (i:=24) (N:=some 56) (v:=?_) (a':=?_) #[Y,Y,Y,Y,Y,Y,Y,Y,Y,Y,Y,Y,Y,Y,Y,Y,Y,Y,Y,Y,Y,Y,Y,Y,Y] rfl rfl (any_of HT_.out (by kernel_rfl)) (fun _ _ _ h=>h) (Or.inl ⟨zq145,?_⟩) ?_ ?_
     rotate_left
     ·intro w';go_simp;with_reducible rfl
     rotate_left
     ·simp only[Act.put,sa_,sb_,sc_,i64_w];rfl
     refine done_ (done_of HT_.out (by kernel_rfl)) ?_
     try go_wp2
     go_meet
     case rel=>exact⟨_,(true),zq194,H',⟨by first|omega|exact Nat.le_refl _⟩,⟨zq43⟩,⟨zq197⟩,⟨zq160⟩,⟨zq50⟩,⟨zq198⟩,⟨zq161⟩,⟨zq162⟩,⟨zq19⟩,⟨zq24⟩,⟨zq31⟩,⟨zq25⟩,⟨zq55⟩,⟨zq63⟩,⟨zq92⟩,⟨zq27⟩⟩
   ·rw[if_neg aK] at H
    have aA:(t323 == az)=false:=beq_eq_false_iff_ne.mpr aK
    have aS:(t323 != az)=true:=bne_iff_ne.mpr aK
    (first|rw[aA]|(simp only[i64_w,i32_w];rw[aA])|skip)
    have H':=zz3 H
    clear H
    try go_wp2
    have n0_:Aside0 (Kd.Q (Kd.int .u8) 5 ((((w41.setCell ⟨gb354,0,none⟩ (.int .i64 t346)).setCell ⟨gb354,1,none⟩ (.slice Ao49 t347.length co49)).setCell ⟨gb355,0,none⟩ (.int .i64 t350)).setCell ⟨gb355,1,none⟩ (.slice Ao56 t351.length co56)) w.heap.size (fun k_=>some k_≠(.slice Ao30 t335.length co30:Value).ownBlock) (.slice Ao13 t319.length co13) t319):=⟨zq87⟩
    have n1_:Aside0 (Kd.S k25 25 ((((w41.setCell ⟨gb354,0,none⟩ (.int .i64 t346)).setCell ⟨gb354,1,none⟩ (.slice Ao49 t347.length co49)).setCell ⟨gb355,0,none⟩ (.int .i64 t350)).setCell ⟨gb355,1,none⟩ (.slice Ao56 t351.length co56)) w.heap.size (fun k_=>some k_≠(.slice Ao13 t319.length co13:Value).ownBlock∧some k_≠(.slice Ao30 t335.length co30:Value).ownBlock∧some k_≠(.slice Ao38 t342.length co38:Value).ownBlock∧k_≠gb322∧k_≠gb339) (.slice Ao18 t325.length co18) t325):=⟨zq73⟩
    have n2_:Aside0 (Kd.V k25 25 ((((w41.setCell ⟨gb354,0,none⟩ (.int .i64 t346)).setCell ⟨gb354,1,none⟩ (.slice Ao49 t347.length co49)).setCell ⟨gb355,0,none⟩ (.int .i64 t350)).setCell ⟨gb355,1,none⟩ (.slice Ao56 t351.length co56)) w.heap.size (fun k_=>some k_≠(.slice Ao13 t319.length co13:Value).ownBlock∧some k_≠(.slice Ao18 t325.length co18:Value).ownBlock∧some k_≠(.slice Ao30 t335.length co30:Value).ownBlock∧some k_≠(.slice Ao38 t342.length co38:Value).ownBlock∧k_≠gb322∧k_≠gb328∧k_≠gb338∧k_≠gb339∧k_≠gb345∧k_≠gb354∧k_≠gb355) (.slice Ao26 t330.length co26) t330):=⟨by(with_reducible repeat (first|apply Kd.V_alloc|apply Kd.V_drewN|apply Kd.V_drew));exact Kd.V_mono (Kd.V_far (p:=⟨gb355,1,none⟩) (Kd.V_far (p:=⟨gb355,0,none⟩) (Kd.V_far (p:=⟨gb354,1,none⟩) (Kd.V_far (p:=⟨gb354,0,none⟩) (Kd.V_mono (Kd.V_mono HO332.out (fun k_ hk=>(⟨hk,hk.1.2⟩:_∧k_≠gb354))) (fun k_ hk=>(⟨hk,hk.1.2⟩:_∧k_≠gb355))) (fun _ hk=>hk.1.2) (.int .i64 t346)) (fun _ hk=>hk.1.2) (.slice Ao49 t347.length co49)) (fun _ hk=>hk.2) (.int .i64 t350)) (fun _ hk=>hk.2) (.slice Ao56 t351.length co56)) (fun _ hk=>⟨hk.1.1.1.1.1.1.1.1.2.1,⟨hk.1.1.1.1.1.1.1.1.2.2.1,⟨hk.1.1.1.1.1.1.1.1.1,⟨hk.1.1.1.1.1.2,⟨hk.1.1.1.1.1.1.1.1.2.2.2.1,⟨hk.1.1.1.1.1.1.1.1.2.2.2.2,⟨hk.1.1.1.1.1.1.1.2,⟨hk.1.1.1.1.1.1.2,⟨hk.1.1.1.1.2,⟨hk.1.1.1.2,hk.1.1.2⟩⟩⟩⟩⟩⟩⟩⟩⟩⟩)⟩
    have n3_:Aside0 (Kd.Q (Kd.int .u8) 5 ((((w41.setCell ⟨gb354,0,none⟩ (.int .i64 t346)).setCell ⟨gb354,1,none⟩ (.slice Ao49 t347.length co49)).setCell ⟨gb355,0,none⟩ (.int .i64 t350)).setCell ⟨gb355,1,none⟩ (.slice Ao56 t351.length co56)) w.heap.size (fun k_=>some k_≠(.slice Ao13 t319.length co13:Value).ownBlock) (.slice Ao30 t335.length co30) t335):=⟨zq88⟩
    have n4_:Aside0 (Kd.S k25 25 ((((w41.setCell ⟨gb354,0,none⟩ (.int .i64 t346)).setCell ⟨gb354,1,none⟩ (.slice Ao49 t347.length co49)).setCell ⟨gb355,0,none⟩ (.int .i64 t350)).setCell ⟨gb355,1,none⟩ (.slice Ao56 t351.length co56)) w.heap.size (fun k_=>some k_≠(.slice Ao13 t319.length co13:Value).ownBlock∧some k_≠(.slice Ao18 t325.length co18:Value).ownBlock∧some k_≠(.slice Ao30 t335.length co30:Value).ownBlock∧k_≠gb322∧k_≠gb339) (.slice Ao38 t342.length co38) t342):=⟨zq74⟩
    have n5_:Aside0 (Kd.V k25 25 ((((w41.setCell ⟨gb354,0,none⟩ (.int .i64 t346)).setCell ⟨gb354,1,none⟩ (.slice Ao49 t347.length co49)).setCell ⟨gb355,0,none⟩ (.int .i64 t350)).setCell ⟨gb355,1,none⟩ (.slice Ao56 t351.length co56)) w.heap.size (fun k_=>some k_≠(.slice Ao13 t319.length co13:Value).ownBlock∧some k_≠(.slice Ao18 t325.length co18:Value).ownBlock∧some k_≠(.slice Ao30 t335.length co30:Value).ownBlock∧some k_≠(.slice Ao38 t342.length co38:Value).ownBlock∧k_≠gb322∧k_≠gb328∧k_≠gb338∧k_≠gb339∧k_≠gb345∧k_≠gb354∧k_≠gb355) (.slice Ao49 t347.length co49) t347):=⟨by(with_reducible repeat (first|apply Kd.V_alloc|apply Kd.V_drewN|apply Kd.V_drew));exact Kd.V_mono (Kd.V_far (p:=⟨gb355,1,none⟩) (Kd.V_far (p:=⟨gb355,0,none⟩) (Kd.V_far (p:=⟨gb354,1,none⟩) (Kd.V_far (p:=⟨gb354,0,none⟩) (Kd.V_mono (Kd.V_mono HO349.out (fun k_ hk=>(⟨hk,hk.1.2⟩:_∧k_≠gb354))) (fun k_ hk=>(⟨hk,hk.1.2⟩:_∧k_≠gb355))) (fun _ hk=>hk.1.2) (.int .i64 t346)) (fun _ hk=>hk.1.2) (.slice Ao49 t347.length co49)) (fun _ hk=>hk.2) (.int .i64 t350)) (fun _ hk=>hk.2) (.slice Ao56 t351.length co56)) (fun _ hk=>⟨hk.1.1.1.1.1,⟨hk.1.1.1.1.2.1,⟨hk.1.1.1.1.2.2.1,⟨hk.1.1.1.1.2.2.2.1,⟨hk.1.1.1.1.2.2.2.2.1,⟨hk.1.1.1.1.2.2.2.2.2.1,⟨hk.1.1.1.1.2.2.2.2.2.2.1,⟨hk.1.1.1.1.2.2.2.2.2.2.2.1,⟨hk.1.1.1.1.2.2.2.2.2.2.2.2,⟨hk.1.1.1.2,hk.1.1.2⟩⟩⟩⟩⟩⟩⟩⟩⟩⟩)⟩
    have n6_:Aside0 (Kd.V k25 25 ((((w41.setCell ⟨gb354,0,none⟩ (.int .i64 t346)).setCell ⟨gb354,1,none⟩ (.slice Ao49 t347.length co49)).setCell ⟨gb355,0,none⟩ (.int .i64 t350)).setCell ⟨gb355,1,none⟩ (.slice Ao56 t351.length co56)) w.heap.size (fun k_=>some k_≠(.slice Ao13 t319.length co13:Value).ownBlock∧some k_≠(.slice Ao18 t325.length co18:Value).ownBlock∧some k_≠(.slice Ao30 t335.length co30:Value).ownBlock∧some k_≠(.slice Ao38 t342.length co38:Value).ownBlock∧k_≠gb322∧k_≠gb328∧k_≠gb338∧k_≠gb339∧k_≠gb345∧k_≠gb354∧k_≠gb355) (.slice Ao56 t351.length co56) t351):=⟨by(with_reducible repeat (first|apply Kd.V_alloc|apply Kd.V_drewN|apply Kd.V_drew));exact Kd.V_mono (Kd.V_far (p:=⟨gb355,1,none⟩) (Kd.V_far (p:=⟨gb355,0,none⟩) (Kd.V_far (p:=⟨gb354,1,none⟩) (Kd.V_far (p:=⟨gb354,0,none⟩) (Kd.V_mono (Kd.V_mono HO353.out (fun k_ hk=>(⟨hk,hk.1.2⟩:_∧k_≠gb354))) (fun k_ hk=>(⟨hk,hk.1.2⟩:_∧k_≠gb355))) (fun _ hk=>hk.1.2) (.int .i64 t346)) (fun _ hk=>hk.1.2) (.slice Ao49 t347.length co49)) (fun _ hk=>hk.2) (.int .i64 t350)) (fun _ hk=>hk.2) (.slice Ao56 t351.length co56)) (fun _ hk=>⟨hk.1.1.1.1.1,⟨hk.1.1.1.1.2.1,⟨hk.1.1.1.1.2.2.1,⟨hk.1.1.1.1.2.2.2.1,⟨hk.1.1.1.1.2.2.2.2.1,⟨hk.1.1.1.1.2.2.2.2.2.1,⟨hk.1.1.1.1.2.2.2.2.2.2.1,⟨hk.1.1.1.1.2.2.2.2.2.2.2.1,⟨hk.1.1.1.1.2.2.2.2.2.2.2.2,⟨hk.1.1.1.2,hk.1.1.2⟩⟩⟩⟩⟩⟩⟩⟩⟩⟩)⟩
    have n7_:Aside0 (((((w41.setCell ⟨gb354,0,none⟩ (.int .i64 t346)).setCell ⟨gb354,1,none⟩ (.slice Ao49 t347.length co49)).setCell ⟨gb355,0,none⟩ (.int .i64 t350)).setCell ⟨gb355,1,none⟩ (.slice Ao56 t351.length co56)).heap[gb322]?=some (.cells #[.int .i64 t318,.slice Ao13 t319.length co13] 25 (0,0))):=⟨zq76⟩
    have n8_:Aside0 (((((w41.setCell ⟨gb354,0,none⟩ (.int .i64 t346)).setCell ⟨gb354,1,none⟩ (.slice Ao49 t347.length co49)).setCell ⟨gb355,0,none⟩ (.int .i64 t350)).setCell ⟨gb355,1,none⟩ (.slice Ao56 t351.length co56)).heap[gb328]?=some (.cells #[.int .i64 t323,.int .i64 t324,.slice Ao18 t325.length co18] 31 (0,0))):=⟨zq77⟩
    have n9_:Aside0 (((((w41.setCell ⟨gb354,0,none⟩ (.int .i64 t346)).setCell ⟨gb354,1,none⟩ (.slice Ao49 t347.length co49)).setCell ⟨gb355,0,none⟩ (.int .i64 t350)).setCell ⟨gb355,1,none⟩ (.slice Ao56 t351.length co56)).heap[gb338]?=some (.cells #[.int .i64 t329,.slice Ao26 t330.length co26] 29 (0,0))):=⟨zq78⟩
    have n10_:Aside0 (((((w41.setCell ⟨gb354,0,none⟩ (.int .i64 t346)).setCell ⟨gb354,1,none⟩ (.slice Ao49 t347.length co49)).setCell ⟨gb355,0,none⟩ (.int .i64 t350)).setCell ⟨gb355,1,none⟩ (.slice Ao56 t351.length co56)).heap[gb339]?=some (.cells #[.int .i64 t334,.slice Ao30 t335.length co30] 25 (0,0))):=⟨zq79⟩
    have n11_:Aside0 (((((w41.setCell ⟨gb354,0,none⟩ (.int .i64 t346)).setCell ⟨gb354,1,none⟩ (.slice Ao49 t347.length co49)).setCell ⟨gb355,0,none⟩ (.int .i64 t350)).setCell ⟨gb355,1,none⟩ (.slice Ao56 t351.length co56)).heap[gb345]?=some (.cells #[.int .i64 t340,.int .i64 t341,.slice Ao38 t342.length co38] 31 (0,0))):=⟨zq80⟩
    have n12_:Aside0 (((((w41.setCell ⟨gb354,0,none⟩ (.int .i64 t346)).setCell ⟨gb354,1,none⟩ (.slice Ao49 t347.length co49)).setCell ⟨gb355,0,none⟩ (.int .i64 t350)).setCell ⟨gb355,1,none⟩ (.slice Ao56 t351.length co56)).heap[gb354]?=some (.cells #[.int .i64 t346,.slice Ao49 t347.length co49] 29 (0,0))):=⟨zq65⟩
    have n13_:Aside0 (((((w41.setCell ⟨gb354,0,none⟩ (.int .i64 t346)).setCell ⟨gb354,1,none⟩ (.slice Ao49 t347.length co49)).setCell ⟨gb355,0,none⟩ (.int .i64 t350)).setCell ⟨gb355,1,none⟩ (.slice Ao56 t351.length co56)).heap[gb355]?=some (.cells #[.int .i64 t350,.slice Ao56 t351.length co56] 29 (0,0))):=⟨zq66⟩
    have n14_:Aside0 (Below w.heap.size w ((((w41.setCell ⟨gb354,0,none⟩ (.int .i64 t346)).setCell ⟨gb354,1,none⟩ (.slice Ao49 t347.length co49)).setCell ⟨gb355,0,none⟩ (.int .i64 t350)).setCell ⟨gb355,1,none⟩ (.slice Ao56 t351.length co56))):=⟨zq27⟩
    (try clear HO321);(try clear HO327);(try clear HO332)
    (try clear HO337);(try clear HO344);(try clear HO349)
    (try clear HO353);(try clear BK322);(try clear BK328)
    (try clear BK338);(try clear BK339);(try clear BK345)
    (try clear BK354);(try clear BK355);(try clear HB)
    generalize ((((w41.setCell ⟨gb354,0,none⟩ (.int .i64 t346)).setCell ⟨gb354,1,none⟩ (.slice Ao49 t347.length co49)).setCell ⟨gb355,0,none⟩ (.int .i64 t350)).setCell ⟨gb355,1,none⟩ (.slice Ao56 t351.length co56))=w73 at n0_ n1_ n2_ n3_ n4_ n5_ n6_ n7_ n8_ n9_ n10_ n11_ n12_ n13_ n14_ ⊢
    have HO321:=n0_
    have HO327:=n1_
    have HO332:=n2_
    have HO337:=n3_
    have HO344:=n4_
    have HO349:=n5_
    have HO353:=n6_
    have BK322:=n7_
    have BK328:=n8_
    have BK338:=n9_
    have BK339:=n10_
    have BK345:=n11_
    have BK354:=n12_
    have BK355:=n13_
    have HB:=n14_
    clear n0_ n1_ n2_ n3_ n4_ n5_ n6_ n7_ n8_ n9_ n10_ n11_ n12_ n13_ n14_
    have n0_:=zz3 (Kd.Q_drew HO321.out)
    have n1_:=zz3 (Kd.S_drew HO327.out)
    have n2_:=zz3 (Kd.V_drew HO332.out)
    have n3_:=zz3 (Kd.Q_drew HO337.out)
    have n4_:=zz3 (Kd.S_drew HO344.out)
    have n5_:=zz3 (Kd.V_drew HO349.out)
    have n6_:=zz3 (Kd.V_drew HO353.out)
    have n7_:=zz3 (gy3 BK322.out)
    have n8_:=zz3 (gy3 BK328.out)
    have n9_:=zz3 (gy3 BK338.out)
    have n10_:=zz3 (gy3 BK339.out)
    have n11_:=zz3 (gy3 BK345.out)
    have n12_:=zz3 (gy3 BK354.out)
    have n13_:=zz3 (gy3 BK355.out)
    have n14_:=zz3 (cy3 HB.out)
    clear HO321
    clear HO327
    clear HO332
    clear HO337
    clear HO344
    clear HO349
    clear HO353
    clear BK322
    clear BK328
    clear BK338
    clear BK339
    clear BK345
    clear BK354
    clear BK355
    clear HB
    have HO321:=n0_
    have HO327:=n1_
    have HO332:=n2_
    have HO337:=n3_
    have HO344:=n4_
    have HO349:=n5_
    have HO353:=n6_
    have BK322:=n7_
    have BK328:=n8_
    have BK338:=n9_
    have BK339:=n10_
    have BK345:=n11_
    have BK354:=n12_
    have BK355:=n13_
    have HB:=n14_
    clear n0_ n1_ n2_ n3_ n4_ n5_ n6_ n7_ n8_ n9_ n10_ n11_ n12_ n13_ n14_
    refine start_ (n:=25) (S:=fun w'=>w'.cell? ⟨gb328,0,none⟩=some (.int .i64 t323)∧w'.cell? ⟨gb328,1,none⟩=some (.int .i64 t324)∧w'.cell? ⟨gb328,2,none⟩=some (.slice Ao18 t325.length co18)∧w'.cell? ⟨gb322,0,none⟩=some (.int .i64 t318)∧w'.cell? ⟨gb322,1,none⟩=some (.slice Ao13 t319.length co13)) (ds:=[]) #[Z,Z,Z,Z,Z,Z,Z,Z,Z,Z,Z,Z,Z,Z,Z,Z,Z,Z,Z,Z,Z,Z,Z,Z,Z] (by kernel_rfl) rfl rfl ⟨(blk_cell BK328.out 0).trans rfl,(blk_cell BK328.out 1).trans rfl,(blk_cell BK328.out 2).trans rfl,(blk_cell BK322.out 0).trans rfl,(blk_cell BK322.out 1).trans rfl⟩ (fun hHeld=>?_);refine with_tabW laws_FnTurns.tab8 laws_FnTurns.bits8 (fun HT_ HW_=>?_)
    generalize w73.drew=w74 at HO321 HO327 HO332 HO337 HO344 HO349 HO353 BK322 BK328 BK338 BK339 BK345 BK354 BK355 HB hHeld ⊢
    refine pure_ (i:=0) (N:=some 32) (v:=?_) (a':=?_) #[Y,Z,Z,Z,Z,Z,Z,Z,Z,Z,Z,Z,Z,Z,Z,Z,Z,Z,Z,Z,Z,Z,Z,Z,Z] rfl rfl (any_of HT_.out (by kernel_rfl)) (fun _ _ _ h=>h) (Or.inl ⟨zq145,?_⟩) ?_ ?_
    rotate_left
    ·intro w';go_simp;with_reducible rfl
    rotate_left
    ·simp only[Act.put,sa_,sb_,sc_,i64_w];rfl
    refine take_ (i:=1) (N:=some 33) (v:=?_) (a':=?_) #[Y,Y,Z,Z,Z,Z,Z,Z,Z,Z,Z,Z,Z,Z,Z,Z,Z,Z,Z,Z,Z,Z,Z,Z,Z] rfl rfl (take_ofW HT_.out HW_.out (by kernel_rfl)) (fun _ _ _ h=>h) (Or.inl ⟨zq145,?_⟩) hHeld ?_ ?_
    rotate_left
    ·rintro w' ⟨s0,s1,s2,s3,s4⟩
     go_simp
     with_reducible rfl
    rotate_left
    ·simp only[Act.put,sa_,sb_,sc_,i64_w];rfl
    refine take_ (i:=2) (N:=some 34) (v:=?_) (a':=?_) #[Y,Y,Y,Z,Z,Z,Z,Z,Z,Z,Z,Z,Z,Z,Z,Z,Z,Z,Z,Z,Z,Z,Z,Z,Z] rfl rfl (take_ofW HT_.out HW_.out (by kernel_rfl)) (fun _ _ _ h=>h) (Or.inl ⟨zq145,?_⟩) hHeld ?_ ?_
    rotate_left
    ·rintro w' ⟨s0,s1,s2,s3,s4⟩
     go_simp
     with_reducible rfl
    rotate_left
    ·simp only[Act.put,sa_,sb_,sc_,i64_w];rfl
    refine one_ (i:=3) (N:=some 35) #[Y,Y,Y,Y,Z,Z,Z,Z,Z,Z,Z,Z,Z,Z,Z,Z,Z,Z,Z,Z,Z,Z,Z,Z,Z] rfl rfl (one_of HT_.out (by kernel_rfl)) zq16 (fun K hK=>?_)
    refine goes_ Try.func21 (by kernel_rfl) rfl #[.agg #[.int .i64 t318,.slice Ao13 t319.length co13]] zq145 rfl rfl zq32 ?_
    with_reducible refine(spec_NewRing.calls t318 _ _ t319 az a8 a9 _ ?side1 ?side2 bW.out).mono ?_
    (case side1=>exact zq186)
    (case side2=>exact(Kd.Q_reads' HO321.out).2.1)
    rintro e w75 ⟨v359,rfl,ho0,hb⟩
    refine⟨_,rfl,?_⟩
    have n0_:=zz3 (Kd.Q_below zq43 hb)
    have n1_:=zz3 (Kd.S_elder' zq45 (Kd.S_base ho0) hb)
    have n2_:=zz3 (Kd.V_elder' zq81 (Kd.S_base ho0) hb)
    have n3_:=zz3 (Kd.Q_below zq50 hb)
    have n4_:=zz3 (Kd.S_elder' zq57 (Kd.S_base ho0) hb)
    have n5_:=zz3 (Kd.V_elder' zq110 (Kd.S_base ho0) hb)
    have n6_:=zz3 (Kd.V_elder' zq111 (Kd.S_base ho0) hb)
    have n7_:=zz3 (Kd.S_lower (Kd.S_newB (Kd.S_newB (Kd.S_new' (Kd.S_new' (Kd.S_new' (Kd.S_new' ho0 (Kd.Q_lt zq43)) (Kd.S_lt zq45)) (Kd.Q_lt zq50)) (Kd.S_lt zq57)) (g:=gb322) (o:=.cells #[.int .i64 t318,.slice Ao13 t319.length co13] 25 (0,0)) zq19) (g:=gb339) (o:=.cells #[.int .i64 t334,.slice Ao30 t335.length co30] 25 (0,0)) zq25) (below_size zq10))
    have n8_:=zz3 (hy3 (g:=gb322) (o:=.cells #[.int .i64 t318,.slice Ao13 t319.length co13] 25 (0,0)) zq19 hb)
    have n9_:=zz3 (hy3 (g:=gb328) (o:=.cells #[.int .i64 t323,.int .i64 t324,.slice Ao18 t325.length co18] 31 (0,0)) zq24 hb)
    have n10_:=zz3 (hy3 (g:=gb338) (o:=.cells #[.int .i64 t329,.slice Ao26 t330.length co26] 29 (0,0)) zq31 hb)
    have n11_:=zz3 (hy3 (g:=gb339) (o:=.cells #[.int .i64 t334,.slice Ao30 t335.length co30] 25 (0,0)) zq25 hb)
    have n12_:=zz3 (hy3 (g:=gb345) (o:=.cells #[.int .i64 t340,.int .i64 t341,.slice Ao38 t342.length co38] 31 (0,0)) zq55 hb)
    have n13_:=zz3 (hy3 (g:=gb354) (o:=.cells #[.int .i64 t346,.slice Ao49 t347.length co49] 29 (0,0)) zq63 hb)
    have n14_:=zz3 (hy3 (g:=gb355) (o:=.cells #[.int .i64 t350,.slice Ao56 t351.length co56] 29 (0,0)) zq92 hb)
    have n15_:=zz3 (below_step zq10 hb)
    clear HO321
    clear HO327
    clear HO332
    clear HO337
    clear HO344
    clear HO349
    clear HO353
    clear BK322
    clear BK328
    clear BK338
    clear BK339
    clear BK345
    clear BK354
    clear BK355
    clear HB
    have HO321:=n0_
    have HO327:=n1_
    have HO332:=n2_
    have HO337:=n3_
    have HO344:=n4_
    have HO349:=n5_
    have HO353:=n6_
    have HO360:=n7_
    have BK322:=n8_
    have BK328:=n9_
    have BK338:=n10_
    have BK339:=n11_
    have BK345:=n12_
    have BK354:=n13_
    have BK355:=n14_
    have HB:=n15_
    clear n0_ n1_ n2_ n3_ n4_ n5_ n6_ n7_ n8_ n9_ n10_ n11_ n12_ n13_ n14_ n15_
    (try clear hb);(try clear hb2);(try clear hk)
    (try clear hi)
    (try clear ho0)
    refine hK.out _ _ ⟨(blk_cell BK328.out 0).trans rfl,(blk_cell BK328.out 1).trans rfl,(blk_cell BK328.out 2).trans rfl,(blk_cell BK322.out 0).trans rfl,(blk_cell BK322.out 1).trans rfl⟩ (fun hHeld=>?_)
    clear hK K
    refine norm_ (a':=?_) ?_ ?_
    rotate_left
    ·show Act.put _ (some 35) _=_
     simp only[Act.put,sa_,sb_,sc_,i64_w]
     rfl
    refine pure_ (i:=4) (N:=some 36) (v:=?_) (a':=?_) #[Y,Y,Y,Y,Y,Z,Z,Z,Z,Z,Z,Z,Z,Z,Z,Z,Z,Z,Z,Z,Z,Z,Z,Z,Z] rfl rfl (any_of HT_.out (by kernel_rfl)) (fun _ _ _ h=>h) (Or.inl ⟨zq145,?_⟩) ?_ ?_
    rotate_left
    ·intro w';go_simp;with_reducible rfl
    rotate_left
    ·simp only[Act.put,sa_,sb_,sc_,i64_w];rfl
    refine pure_ (i:=5) (N:=some 37) (v:=?_) (a':=?_) #[Y,Y,Y,Y,Y,Y,Z,Z,Z,Z,Z,Z,Z,Z,Z,Z,Z,Z,Z,Z,Z,Z,Z,Z,Z] rfl rfl (any_of HT_.out (by kernel_rfl)) (fun _ _ _ h=>h) (Or.inl ⟨zq145,?_⟩) ?_ ?_
    rotate_left
    ·intro w';go_simp;with_reducible rfl
    rotate_left
    ·simp only[Act.put,sa_,sb_,sc_,i64_w];rfl
    refine pure_ (i:=6) (N:=some 38) (v:=?_) (a':=?_) #[Y,Y,Y,Y,Y,Y,Y,Z,Z,Z,Z,Z,Z,Z,Z,Z,Z,Z,Z,Z,Z,Z,Z,Z,Z] rfl rfl (any_of HT_.out (by kernel_rfl)) (fun _ _ _ h=>h) (Or.inl ⟨zq145,?_⟩) ?_ ?_
    rotate_left
    ·intro w';go_simp;with_reducible rfl
    rotate_left
    ·simp only[Act.put,sa_,sb_,sc_,i64_w];rfl
    refine pure_ (i:=7) (N:=some 39) (v:=undef) (a':=?_) #[Y,Y,Y,Y,Y,Y,Y,Y,Z,Z,Z,Z,Z,Z,Z,Z,Z,Z,Z,Z,Z,Z,Z,Z,Z] rfl rfl (any_of HT_.out (by kernel_rfl)) (fun _ _ _ h=>h) (Or.inr ⟨zq145,rfl⟩) ?_ ?_
    rotate_left
    ·simp only[Act.put,sa_,sb_,sc_,i64_w];rfl
    refine pure_ (i:=8) (N:=some 40) (v:=undef) (a':=?_) #[Y,Y,Y,Y,Y,Y,Y,Y,Y,Z,Z,Z,Z,Z,Z,Z,Z,Z,Z,Z,Z,Z,Z,Z,Z] rfl rfl (any_of HT_.out (by kernel_rfl)) (fun _ _ _ h=>h) (Or.inr ⟨zq145,rfl⟩) ?_ ?_
    rotate_left
    ·simp only[Act.put,sa_,sb_,sc_,i64_w];rfl
    refine pure_ (i:=9) (N:=some 41) (v:=undef) (a':=?_) #[Y,Y,Y,Y,Y,Y,Y,Y,Y,Y,Z,Z,Z,Z,Z,Z,Z,Z,Z,Z,Z,Z,Z,Z,Z] rfl rfl (any_of HT_.out (by kernel_rfl)) (fun _ _ _ h=>h) (Or.inr ⟨zq145,rfl⟩) ?_ ?_
    rotate_left
    ·simp only[Act.put,sa_,sb_,sc_,i64_w];rfl
    refine pure_ (i:=10) (N:=some 42) (v:=undef) (a':=?_) #[Y,Y,Y,Y,Y,Y,Y,Y,Y,Y,Y,Z,Z,Z,Z,Z,Z,Z,Z,Z,Z,Z,Z,Z,Z] rfl rfl (any_of HT_.out (by kernel_rfl)) (fun _ _ _ h=>h) (Or.inr ⟨zq145,rfl⟩) ?_ ?_
    rotate_left
    ·simp only[Act.put,sa_,sb_,sc_,i64_w];rfl
    refine pure_ (i:=11) (N:=some 43) (v:=undef) (a':=?_) #[Y,Y,Y,Y,Y,Y,Y,Y,Y,Y,Y,Y,Z,Z,Z,Z,Z,Z,Z,Z,Z,Z,Z,Z,Z] rfl rfl (any_of HT_.out (by kernel_rfl)) (fun _ _ _ h=>h) (Or.inr ⟨zq145,rfl⟩) ?_ ?_
    rotate_left
    ·simp only[Act.put,sa_,sb_,sc_,i64_w];rfl
    refine pure_ (i:=12) (N:=some 44) (v:=undef) (a':=?_) #[Y,Y,Y,Y,Y,Y,Y,Y,Y,Y,Y,Y,Y,Z,Z,Z,Z,Z,Z,Z,Z,Z,Z,Z,Z] rfl rfl (any_of HT_.out (by kernel_rfl)) (fun _ _ _ h=>h) (Or.inr ⟨zq145,rfl⟩) ?_ ?_
    rotate_left
    ·simp only[Act.put,sa_,sb_,sc_,i64_w];rfl
    refine pure_ (i:=13) (N:=some 45) (v:=undef) (a':=?_) #[Y,Y,Y,Y,Y,Y,Y,Y,Y,Y,Y,Y,Y,Y,Z,Z,Z,Z,Z,Z,Z,Z,Z,Z,Z] rfl rfl (any_of HT_.out (by kernel_rfl)) (fun _ _ _ h=>h) (Or.inr ⟨zq145,rfl⟩) ?_ ?_
    rotate_left
    ·simp only[Act.put,sa_,sb_,sc_,i64_w];rfl
    refine pure_ (i:=14) (N:=some 46) (v:=undef) (a':=?_) #[Y,Y,Y,Y,Y,Y,Y,Y,Y,Y,Y,Y,Y,Y,Y,Z,Z,Z,Z,Z,Z,Z,Z,Z,Z] rfl rfl (any_of HT_.out (by kernel_rfl)) (fun _ _ _ h=>h) (Or.inr ⟨zq145,rfl⟩) ?_ ?_
    rotate_left
    ·simp only[Act.put,sa_,sb_,sc_,i64_w];rfl
    refine pure_ (i:=15) (N:=some 47) (v:=?_) (a':=?_) #[Y,Y,Y,Y,Y,Y,Y,Y,Y,Y,Y,Y,Y,Y,Y,Y,Z,Z,Z,Z,Z,Z,Z,Z,Z] rfl rfl (any_of HT_.out (by kernel_rfl)) (fun _ _ _ h=>h) (Or.inl ⟨zq145,?_⟩) ?_ ?_
    rotate_left
    ·intro w';go_simp;with_reducible rfl
    rotate_left
    ·simp only[Act.put,sa_,sb_,sc_,i64_w];rfl
    refine pure_ (i:=16) (N:=some 48) (v:=?_) (a':=?_) #[Y,Y,Y,Y,Y,Y,Y,Y,Y,Y,Y,Y,Y,Y,Y,Y,Y,Z,Z,Z,Z,Z,Z,Z,Z] rfl rfl (any_of HT_.out (by kernel_rfl)) (fun _ _ _ h=>h) (Or.inl ⟨zq145,?_⟩) ?_ ?_
    rotate_left
    ·intro w';go_simp;with_reducible rfl
    rotate_left
    ·simp only[Act.put,sa_,sb_,sc_,i64_w];rfl
    refine pure_ (i:=17) (N:=some 49) (v:=undef) (a':=?_) #[Y,Y,Y,Y,Y,Y,Y,Y,Y,Y,Y,Y,Y,Y,Y,Y,Y,Y,Z,Z,Z,Z,Z,Z,Z] rfl rfl (any_of HT_.out (by kernel_rfl)) (fun _ _ _ h=>h) (Or.inr ⟨zq145,rfl⟩) ?_ ?_
    rotate_left
    ·simp only[Act.put,sa_,sb_,sc_,i64_w];rfl
    refine pure_ (i:=18) (N:=some 50) (v:=undef) (a':=?_) #[Y,Y,Y,Y,Y,Y,Y,Y,Y,Y,Y,Y,Y,Y,Y,Y,Y,Y,Y,Z,Z,Z,Z,Z,Z] rfl rfl (any_of HT_.out (by kernel_rfl)) (fun _ _ _ h=>h) (Or.inr ⟨zq145,rfl⟩) ?_ ?_
    rotate_left
    ·simp only[Act.put,sa_,sb_,sc_,i64_w];rfl
    refine pure_ (i:=19) (N:=some 51) (v:=undef) (a':=?_) #[Y,Y,Y,Y,Y,Y,Y,Y,Y,Y,Y,Y,Y,Y,Y,Y,Y,Y,Y,Y,Z,Z,Z,Z,Z] rfl rfl (any_of HT_.out (by kernel_rfl)) (fun _ _ _ h=>h) (Or.inr ⟨zq145,rfl⟩) ?_ ?_
    rotate_left
    ·simp only[Act.put,sa_,sb_,sc_,i64_w];rfl
    refine pure_ (i:=20) (N:=some 52) (v:=undef) (a':=?_) #[Y,Y,Y,Y,Y,Y,Y,Y,Y,Y,Y,Y,Y,Y,Y,Y,Y,Y,Y,Y,Y,Z,Z,Z,Z] rfl rfl (any_of HT_.out (by kernel_rfl)) (fun _ _ _ h=>h) (Or.inr ⟨zq145,rfl⟩) ?_ ?_
    rotate_left
    ·simp only[Act.put,sa_,sb_,sc_,i64_w];rfl
    refine pure_ (i:=21) (N:=some 53) (v:=undef) (a':=?_) #[Y,Y,Y,Y,Y,Y,Y,Y,Y,Y,Y,Y,Y,Y,Y,Y,Y,Y,Y,Y,Y,Y,Z,Z,Z] rfl rfl (any_of HT_.out (by kernel_rfl)) (fun _ _ _ h=>h) (Or.inr ⟨zq145,rfl⟩) ?_ ?_
    rotate_left
    ·simp only[Act.put,sa_,sb_,sc_,i64_w];rfl
    refine pure_ (i:=22) (N:=some 54) (v:=undef) (a':=?_) #[Y,Y,Y,Y,Y,Y,Y,Y,Y,Y,Y,Y,Y,Y,Y,Y,Y,Y,Y,Y,Y,Y,Y,Z,Z] rfl rfl (any_of HT_.out (by kernel_rfl)) (fun _ _ _ h=>h) (Or.inr ⟨zq145,rfl⟩) ?_ ?_
    rotate_left
    ·simp only[Act.put,sa_,sb_,sc_,i64_w];rfl
    refine pure_ (i:=23) (N:=some 55) (v:=undef) (a':=?_) #[Y,Y,Y,Y,Y,Y,Y,Y,Y,Y,Y,Y,Y,Y,Y,Y,Y,Y,Y,Y,Y,Y,Y,Y,Z] rfl rfl (any_of HT_.out (by kernel_rfl)) (fun _ _ _ h=>h) (Or.inr ⟨zq145,rfl⟩) ?_ ?_
    rotate_left
    ·simp only[Act.put,sa_,sb_,sc_,i64_w];rfl
    refine pure_ (i:=24) (N:=some 56) (v:=?_) (a':=?_) #[Y,Y,Y,Y,Y,Y,Y,Y,Y,Y,Y,Y,Y,Y,Y,Y,Y,Y,Y,Y,Y,Y,Y,Y,Y] rfl rfl (any_of HT_.out (by kernel_rfl)) (fun _ _ _ h=>h) (Or.inl ⟨zq145,?_⟩) ?_ ?_
    rotate_left
    ·intro w';go_simp;with_reducible rfl
    rotate_left
    ·simp only[Act.put,sa_,sb_,sc_,i64_w];rfl
    refine done_ (done_of HT_.out (by kernel_rfl)) ?_
    try go_wp2
    go_meet
    case rel=>exact⟨_,(true),zq194,H',⟨by first|omega|exact Nat.le_refl _⟩,⟨zq43⟩,⟨by(with_reducible repeat (first|apply Kd.S_alloc|apply Kd.S_drewN|apply Kd.S_drew));exact Kd.S_mono HO327.out (fun _ hk=>⟨hk.1.1,⟨hk.1.2.1,⟨hk.1.2.2.1,⟨hk.1.2.2.2.1,hk.1.2.2.2.2⟩⟩⟩⟩)⟩,⟨by(with_reducible repeat (first|apply Kd.V_alloc|apply Kd.V_drewN|apply Kd.V_drew));exact Kd.V_mono HO332.out (fun _ hk=>⟨hk.1.1,⟨hk.1.2.1,⟨hk.1.2.2.1,⟨hk.1.2.2.2.1,⟨hk.1.2.2.2.2.1,⟨hk.1.2.2.2.2.2.1,⟨hk.1.2.2.2.2.2.2.1,⟨hk.1.2.2.2.2.2.2.2.1,⟨hk.1.2.2.2.2.2.2.2.2.1,⟨hk.1.2.2.2.2.2.2.2.2.2.1,hk.1.2.2.2.2.2.2.2.2.2.2⟩⟩⟩⟩⟩⟩⟩⟩⟩⟩)⟩,⟨zq50⟩,⟨by(with_reducible repeat (first|apply Kd.S_alloc|apply Kd.S_drewN|apply Kd.S_drew));exact Kd.S_mono HO344.out (fun _ hk=>⟨hk.1.1,⟨hk.1.2.1,⟨hk.1.2.2.1,⟨hk.1.2.2.2.1,hk.1.2.2.2.2⟩⟩⟩⟩)⟩,⟨by(with_reducible repeat (first|apply Kd.V_alloc|apply Kd.V_drewN|apply Kd.V_drew));exact Kd.V_mono HO349.out (fun _ hk=>⟨hk.1.1,⟨hk.1.2.1,⟨hk.1.2.2.1,⟨hk.1.2.2.2.1,⟨hk.1.2.2.2.2.1,⟨hk.1.2.2.2.2.2.1,⟨hk.1.2.2.2.2.2.2.1,⟨hk.1.2.2.2.2.2.2.2.1,⟨hk.1.2.2.2.2.2.2.2.2.1,⟨hk.1.2.2.2.2.2.2.2.2.2.1,hk.1.2.2.2.2.2.2.2.2.2.2⟩⟩⟩⟩⟩⟩⟩⟩⟩⟩)⟩,⟨by(with_reducible repeat (first|apply Kd.V_alloc|apply Kd.V_drewN|apply Kd.V_drew));exact Kd.V_mono HO353.out (fun _ hk=>⟨hk.1.1,⟨hk.1.2.1,⟨hk.1.2.2.1,⟨hk.1.2.2.2.1,⟨hk.1.2.2.2.2.1,⟨hk.1.2.2.2.2.2.1,⟨hk.1.2.2.2.2.2.2.1,⟨hk.1.2.2.2.2.2.2.2.1,⟨hk.1.2.2.2.2.2.2.2.2.1,⟨hk.1.2.2.2.2.2.2.2.2.2.1,hk.1.2.2.2.2.2.2.2.2.2.2⟩⟩⟩⟩⟩⟩⟩⟩⟩⟩)⟩,⟨zq19⟩,⟨zq24⟩,⟨zq31⟩,⟨zq25⟩,⟨zq55⟩,⟨zq63⟩,⟨zq92⟩,⟨zq27⟩⟩
  case rest=>
   clear bU
   try clear c2
   try clear p2
   try clear c5
   try clear cX
   try clear cY
   try clear aK
   try clear aA
   try clear aS
   obtain⟨kq,x56_8,rfl,HA,HJ8,HO_323001,HO_329002,HO_339001,HO_340001,HO_346002,HO_355001,HO_356001,BK322,BK328,BK338,BK339,BK345,BK354,BK355,HB⟩:=hcut
   cases kq with
  |zero=>exact absurd HA.out (by simp[laws_FnTurns.j0])
  |succ kj8=>
    have H:=HA.out
    clear HA
    simp only[laws_FnTurns.j0] at H
    by_cases a5:x56_8=true
    ·subst a5
     have H1:(some false)=some r:=by rw[if_pos rfl] at H;exact H
     clear H
     have H:=H1
     clear H1
     exact absurd (Option.some.inj H) (by rw[HRT.out];decide)
    ·replace a5:=Bool.eq_false_iff.mpr a5
     subst a5
     have H1:(if t323=0 then (if t324=t318 then (if (t325.length:Int)=1 then ((impl_RingFault.f kj8 t324 t325).bind fun aQ=>(laws_FnTurns.j1 kj8 af (aQ != 0) t329 t330 t334 t335 t340 t341 t342)) else (laws_FnTurns.j1 kj8 af true t329 t330 t334 t335 t340 t341 t342)) else (laws_FnTurns.j1 kj8 af true t329 t330 t334 t335 t340 t341 t342)) else (laws_FnTurns.j1 kj8 af false t329 t330 t334 t335 t340 t341 t342))=some r:=by rw[if_neg (show ¬ (false=true) by decide)] at H;exact H
     clear H
     have H:=H1
     clear H1
     have ba:=zz3 H
     clear H
     go_upto_region 10 with (fail)
     go_cut [80] (fun v80 wc=>∃ (kq:Nat) (x80_76:Bool),v80=.bool x80_76∧Aside0 (laws_FnTurns.j1 kq af x80_76 t329 t330 t334 t335 t340 t341 t342=some r)∧Aside0 (kq≤kj8)∧Aside0 (Kd.Q (Kd.int .u8) 5 wc w.heap.size (fun k_=>some k_≠((.slice Ao30 t335.length co30):Value).ownBlock) (.slice Ao13 t319.length co13) t319)∧Aside0 (Kd.S k25 25 wc w.heap.size (fun k_=>some k_≠((.slice Ao13 t319.length co13):Value).ownBlock∧some k_≠((.slice Ao30 t335.length co30):Value).ownBlock∧some k_≠((.slice Ao38 t342.length co38):Value).ownBlock∧k_≠gb322∧k_≠gb339) (.slice Ao18 t325.length co18) t325)∧Aside0 (Kd.V k25 25 wc w.heap.size (fun k_=>some k_≠((.slice Ao13 t319.length co13):Value).ownBlock∧some k_≠((.slice Ao18 t325.length co18):Value).ownBlock∧some k_≠((.slice Ao30 t335.length co30):Value).ownBlock∧some k_≠((.slice Ao38 t342.length co38):Value).ownBlock∧k_≠gb322∧k_≠gb328∧k_≠gb338∧k_≠gb339∧k_≠gb345∧k_≠gb354∧k_≠gb355) (.slice Ao26 t330.length co26) t330)∧Aside0 (Kd.Q (Kd.int .u8) 5 wc w.heap.size (fun k_=>some k_≠((.slice Ao13 t319.length co13):Value).ownBlock) (.slice Ao30 t335.length co30) t335)∧Aside0 (Kd.S k25 25 wc w.heap.size (fun k_=>some k_≠((.slice Ao13 t319.length co13):Value).ownBlock∧some k_≠((.slice Ao18 t325.length co18):Value).ownBlock∧some k_≠((.slice Ao30 t335.length co30):Value).ownBlock∧k_≠gb322∧k_≠gb339) (.slice Ao38 t342.length co38) t342)∧Aside0 (Kd.V k25 25 wc w.heap.size (fun k_=>some k_≠((.slice Ao13 t319.length co13):Value).ownBlock∧some k_≠((.slice Ao18 t325.length co18):Value).ownBlock∧some k_≠((.slice Ao30 t335.length co30):Value).ownBlock∧some k_≠((.slice Ao38 t342.length co38):Value).ownBlock∧k_≠gb322∧k_≠gb328∧k_≠gb338∧k_≠gb339∧k_≠gb345∧k_≠gb354∧k_≠gb355) (.slice Ao49 t347.length co49) t347)∧Aside0 (Kd.V k25 25 wc w.heap.size (fun k_=>some k_≠((.slice Ao13 t319.length co13):Value).ownBlock∧some k_≠((.slice Ao18 t325.length co18):Value).ownBlock∧some k_≠((.slice Ao30 t335.length co30):Value).ownBlock∧some k_≠((.slice Ao38 t342.length co38):Value).ownBlock∧k_≠gb322∧k_≠gb328∧k_≠gb338∧k_≠gb339∧k_≠gb345∧k_≠gb354∧k_≠gb355) (.slice Ao56 t351.length co56) t351)∧Aside0 (wc.heap[gb322]?=some (.cells #[.int .i64 t318,(.slice Ao13 t319.length co13)] 25 (0,0)))∧Aside0 (wc.heap[gb328]?=some (.cells #[.int .i64 t323,.int .i64 t324,(.slice Ao18 t325.length co18)] 31 (0,0)))∧Aside0 (wc.heap[gb338]?=some (.cells #[.int .i64 t329,(.slice Ao26 t330.length co26)] 29 (0,0)))∧Aside0 (wc.heap[gb339]?=some (.cells #[.int .i64 t334,(.slice Ao30 t335.length co30)] 25 (0,0)))∧Aside0 (wc.heap[gb345]?=some (.cells #[.int .i64 t340,.int .i64 t341,(.slice Ao38 t342.length co38)] 31 (0,0)))∧Aside0 (wc.heap[gb354]?=some (.cells #[.int .i64 t346,(.slice Ao49 t347.length co49)] 29 (0,0)))∧Aside0 (wc.heap[gb355]?=some (.cells #[.int .i64 t350,(.slice Ao56 t351.length co56)] 29 (0,0)))∧Aside0 (Below w.heap.size w wc))
     case first=>
      have H:=ba.out
      clear ba
      by_cases aM:t323=0
      ·rw[if_pos aM] at H
       have aG:(t323 == 0)=true:=beq_iff_eq.mpr aM
       have bC:(t323 != 0)=false:=bne_eq_false_iff_eq.mpr aM
       clear aM
       (first|rw[aG]|(simp only[i64_w,i32_w];rw[aG])|skip)
       by_cases aN:t324=t318
       ·rw[if_pos aN] at H
        have bD:(t324 == t318)=true:=beq_iff_eq.mpr aN
        have bE:(t324 != t318)=false:=bne_eq_false_iff_eq.mpr aN
        clear aN
        by_cases aO:(t325.length:Int)=1
        ·rw[if_pos aO] at H
         have bF:((t325.length:Int) == 1)=true:=beq_iff_eq.mpr aO
         have bG:((t325.length:Int) != 1)=false:=bne_eq_false_iff_eq.mpr aO
         clear aO
         replace H:=Option.bind_eq_some_iff.mp H
         obtain⟨aQ,b2,H⟩:=H
         replace H:(laws_FnTurns.j1 kj8 af (aQ != 0) t329 t330 t334 t335 t340 t341 t342)=some r:=H
         have cZ:=zz3 b2
         clear b2
         have H':=zz3 H
         clear H
         have eC:=am.out
         have eD:=NB322_328.out
         have eE:=ak.out
         have eF:=an.out
         have eG:=al.out
         have eH:=ao.out
         have eI:=NB328_345.out
         have eJ:=ap.out
         have eK:=NB328_354.out
         have eL:=aq.out
         have eM:=NB328_355.out
         have eN:=ar.out
         have bK:wc.cell? ⟨gb328,0,none⟩=some (.int .i64 t323):=(blk_cell BK328.out 0).trans rfl
         have bL:wc.cell? ⟨gb328,1,none⟩=some (.int .i64 t324):=(blk_cell BK328.out 1).trans rfl
         have bM:wc.cell? ⟨gb328,2,none⟩=some (.slice Ao18 t325.length co18):=(blk_cell BK328.out 2).trans rfl
         have bN:=blk_frozen BK328.out 0
         have bO:=blk_frozen BK328.out 1
         have bP:=blk_frozen BK328.out 2
         have eO:=NB322_338.out
         have eP:=au.out
         have eQ:=NB322_339.out
         have eR:=av.out
         have eS:=NB322_345.out
         have eT:=aw.out
         have eU:=NB322_354.out
         have eV:=ax.out
         have eW:=NB322_355.out
         have eX:=ay.out
         have bQ:wc.cell? ⟨gb322,0,none⟩=some (.int .i64 t318):=(blk_cell BK322.out 0).trans rfl
         have bR:wc.cell? ⟨gb322,1,none⟩=some (.slice Ao13 t319.length co13):=(blk_cell BK322.out 1).trans rfl
         have bS:=blk_frozen BK322.out 0
         have bT:=blk_frozen BK322.out 1
         go_wp2_with (first|(go_at_call 25;(with_reducible refine(impl_RingFault.calls kj8 t324 _ _ t325 aQ _ ?side1 ?side2 cZ.out).mono ?_);(case side1=>repeat (first|exact(Kd.S_reads' HO_329002.out).2.2|(with_reducible refine Kd.C_alloc ?_ _)|(with_reducible refine Kd.C_drewN ?_ _)|(with_reducible refine Kd.C_drew ?_)));(case side2=>exact(Kd.S_reads' HO_329002.out).2.1);rintro e w95 ⟨rfl,hb⟩;have n0_:=zz3 (Kd.Q_below zq151 hb);have n1_:=zz3 (Kd.S_below zq152 hb);have n2_:=zz3 (Kd.V_below zq181 hb);have n3_:=zz3 (Kd.Q_below zq153 hb);have n4_:=zz3 (Kd.S_below zq154 hb);have n5_:=zz3 (Kd.V_below zq182 hb);have n6_:=zz3 (Kd.V_below zq183 hb);have n7_:=zz3 (hy3 (g:=gb322) (o:=.cells #[.int .i64 t318,.slice Ao13 t319.length co13] 25 (0,0)) zq19 hb);have n8_:=zz3 (hy3 (g:=gb328) (o:=.cells #[.int .i64 t323,.int .i64 t324,.slice Ao18 t325.length co18] 31 (0,0)) zq24 hb);have n9_:=zz3 (hy3 (g:=gb338) (o:=.cells #[.int .i64 t329,.slice Ao26 t330.length co26] 29 (0,0)) zq31 hb);have n10_:=zz3 (hy3 (g:=gb339) (o:=.cells #[.int .i64 t334,.slice Ao30 t335.length co30] 25 (0,0)) zq25 hb);have n11_:=zz3 (hy3 (g:=gb345) (o:=.cells #[.int .i64 t340,.int .i64 t341,.slice Ao38 t342.length co38] 31 (0,0)) zq55 hb);have n12_:=zz3 (hy3 (g:=gb354) (o:=.cells #[.int .i64 t346,.slice Ao49 t347.length co49] 29 (0,0)) zq63 hb);have n13_:=zz3 (hy3 (g:=gb355) (o:=.cells #[.int .i64 t350,.slice Ao56 t351.length co56] 29 (0,0)) zq92 hb);have n14_:=zz3 (below_step zq10 hb);clear HO_323001;clear HO_329002;clear HO_339001;clear HO_340001;clear HO_346002;clear HO_355001;clear HO_356001;clear BK322;clear BK328;clear BK338;clear BK339;clear BK345;clear BK354;clear BK355;clear HB;have HO_323001:=n0_;have HO_329002:=n1_;have HO_339001:=n2_;have HO_340001:=n3_;have HO_346002:=n4_;have HO_355001:=n5_;have HO_356001:=n6_;have BK322:=n7_;have BK328:=n8_;have BK338:=n9_;have BK339:=n10_;have BK345:=n11_;have BK354:=n12_;have BK355:=n13_;have HB:=n14_;clear n0_ n1_ n2_ n3_ n4_ n5_ n6_ n7_ n8_ n9_ n10_ n11_ n12_ n13_ n14_;(try clear hb);(try clear hb2);(try clear hk);(try clear hi)))
         go_meet
         case rel=>exact⟨_,((aQ != 0)),zq194,H',⟨zq215⟩,⟨zq151⟩,⟨zq152⟩,⟨zq181⟩,⟨zq153⟩,⟨zq154⟩,⟨zq182⟩,⟨zq183⟩,⟨zq19⟩,⟨zq24⟩,⟨zq31⟩,⟨zq25⟩,⟨zq55⟩,⟨zq63⟩,⟨zq92⟩,⟨zq27⟩⟩
        ·rw[if_neg aO] at H
         have bF:((t325.length:Int) == 1)=false:=beq_eq_false_iff_ne.mpr aO
         have bG:((t325.length:Int) != 1)=true:=bne_iff_ne.mpr aO
         have H':=zz3 H
         clear H
         have eY:=am.out
         have eZ:=NB322_328.out
         have e0:=ak.out
         have e1:=an.out
         have e2:=al.out
         have e3:=ao.out
         have e4:=NB328_345.out
         have e5:=ap.out
         have c4:=NB328_354.out
         have c6:=aq.out
         have da:=NB328_355.out
         have db:=ar.out
         have bb:wc.cell? ⟨gb328,0,none⟩=some (.int .i64 t323):=(blk_cell BK328.out 0).trans rfl
         have bc:wc.cell? ⟨gb328,1,none⟩=some (.int .i64 t324):=(blk_cell BK328.out 1).trans rfl
         have bd:wc.cell? ⟨gb328,2,none⟩=some (.slice Ao18 t325.length co18):=(blk_cell BK328.out 2).trans rfl
         have be:=blk_frozen BK328.out 0
         have bf:=blk_frozen BK328.out 1
         have bg:=blk_frozen BK328.out 2
         have dc:=NB322_338.out
         have dd:=au.out
         have de:=NB322_339.out
         have df:=av.out
         have dg:=NB322_345.out
         have dh:=aw.out
         have di:=NB322_354.out
         have dj:=ax.out
         have dk:=NB322_355.out
         have dl:=ay.out
         have bh:wc.cell? ⟨gb322,0,none⟩=some (.int .i64 t318):=(blk_cell BK322.out 0).trans rfl
         have bi:wc.cell? ⟨gb322,1,none⟩=some (.slice Ao13 t319.length co13):=(blk_cell BK322.out 1).trans rfl
         have bj:=blk_frozen BK322.out 0
         have bk:=blk_frozen BK322.out 1
         go_wp2
         go_meet
         case rel=>exact⟨_,(true),zq194,H',⟨zq215⟩,⟨zq151⟩,⟨zq152⟩,⟨zq181⟩,⟨zq153⟩,⟨zq154⟩,⟨zq182⟩,⟨zq183⟩,⟨zq19⟩,⟨zq24⟩,⟨zq31⟩,⟨zq25⟩,⟨zq55⟩,⟨zq63⟩,⟨zq92⟩,⟨zq27⟩⟩
       ·rw[if_neg aN] at H
        have bD:(t324 == t318)=false:=beq_eq_false_iff_ne.mpr aN
        have bE:(t324 != t318)=true:=bne_iff_ne.mpr aN
        have H':=zz3 H
        clear H
        have dm:=am.out
        have dn:=NB322_328.out
        have dp:=ak.out
        have dq:=an.out
        have dr:=al.out
        have dt:=ao.out
        have du:=NB328_345.out
        have dv:=ap.out
        have dw:=NB328_354.out
        have dx:=aq.out
        have dy:=NB328_355.out
        have dz:=ar.out
        have bl:wc.cell? ⟨gb328,0,none⟩=some (.int .i64 t323):=(blk_cell BK328.out 0).trans rfl
        have bm:wc.cell? ⟨gb328,1,none⟩=some (.int .i64 t324):=(blk_cell BK328.out 1).trans rfl
        have bn:wc.cell? ⟨gb328,2,none⟩=some (.slice Ao18 t325.length co18):=(blk_cell BK328.out 2).trans rfl
        have bo:=blk_frozen BK328.out 0
        have bp:=blk_frozen BK328.out 1
        have bq:=blk_frozen BK328.out 2
        have dA:=NB322_338.out
        have dB:=au.out
        have dC:=NB322_339.out
        have dD:=av.out
        have dE:=NB322_345.out
        have dF:=aw.out
        have dG:=NB322_354.out
        have dH:=ax.out
        have dI:=NB322_355.out
        have dJ:=ay.out
        have br:wc.cell? ⟨gb322,0,none⟩=some (.int .i64 t318):=(blk_cell BK322.out 0).trans rfl
        have bs:wc.cell? ⟨gb322,1,none⟩=some (.slice Ao13 t319.length co13):=(blk_cell BK322.out 1).trans rfl
        have bt:=blk_frozen BK322.out 0
        have bu:=blk_frozen BK322.out 1
        go_wp2
        go_meet
        case rel=>exact⟨_,(true),zq194,H',⟨zq215⟩,⟨zq151⟩,⟨zq152⟩,⟨zq181⟩,⟨zq153⟩,⟨zq154⟩,⟨zq182⟩,⟨zq183⟩,⟨zq19⟩,⟨zq24⟩,⟨zq31⟩,⟨zq25⟩,⟨zq55⟩,⟨zq63⟩,⟨zq92⟩,⟨zq27⟩⟩
      ·rw[if_neg aM] at H
       have aG:(t323 == 0)=false:=beq_eq_false_iff_ne.mpr aM
       have bC:(t323 != 0)=true:=bne_iff_ne.mpr aM
       (first|rw[aG]|(simp only[i64_w,i32_w];rw[aG])|skip)
       have H':=zz3 H
       clear H
       have dK:=am.out
       have dL:=NB322_328.out
       have dM:=ak.out
       have dN:=an.out
       have dO:=al.out
       have dP:=ao.out
       have dQ:=NB328_345.out
       have dR:=ap.out
       have dS:=NB328_354.out
       have dT:=aq.out
       have dU:=NB328_355.out
       have dV:=ar.out
       have bv:wc.cell? ⟨gb328,0,none⟩=some (.int .i64 t323):=(blk_cell BK328.out 0).trans rfl
       have bw:wc.cell? ⟨gb328,1,none⟩=some (.int .i64 t324):=(blk_cell BK328.out 1).trans rfl
       have bx:wc.cell? ⟨gb328,2,none⟩=some (.slice Ao18 t325.length co18):=(blk_cell BK328.out 2).trans rfl
       have bz:=blk_frozen BK328.out 0
       have bA:=blk_frozen BK328.out 1
       have bB:=blk_frozen BK328.out 2
       go_wp2
       go_meet
       case rel=>exact⟨_,(false),zq194,H',⟨zq215⟩,⟨zq151⟩,⟨zq152⟩,⟨zq181⟩,⟨zq153⟩,⟨zq154⟩,⟨zq182⟩,⟨zq183⟩,⟨zq19⟩,⟨zq24⟩,⟨zq31⟩,⟨zq25⟩,⟨zq55⟩,⟨zq63⟩,⟨zq92⟩,⟨zq27⟩⟩
     case rest=>
      clear ba
      try clear c1
      try clear c2
      try clear p2
      try clear c5
      try clear c7
      try clear c8
      try clear c9
      try clear fB
      try clear fC
      try clear fD
      try clear cX
      try clear cY
      try clear aK
      try clear aA
      try clear aS
      try clear a5
      try clear aM
      try clear aG
      try clear bC
      try clear aN
      try clear bD
      try clear bE
      try clear aO
      try clear bF
      try clear bG
      try clear fE
      try clear fF
      try clear fG
      try clear fH
      try clear fI
      try clear fJ
      try clear fK
      try clear fL
      try clear fM
      try clear fN
      try clear fO
      try clear fP
      try clear fQ
      try clear fR
      try clear fS
      try clear fd
      try clear fe
      try clear ff
      try clear fg
      try clear fh
      try clear fi
      try clear fj
      try clear fk
      try clear fl
      try clear fm
      try clear fn
      try clear fo
      try clear fp
      try clear fq
      try clear fr
      try clear fs
      try clear ft
      try clear fu
      try clear fv
      try clear fw
      try clear fx
      try clear fy
      try clear fz
      try clear fA
      try clear bb
      try clear bc
      try clear bd
      try clear bh
      try clear bi
      try clear bl
      try clear bm
      try clear bn
      try clear br
      try clear bs
      try clear bv
      try clear bw
      try clear bx
      try clear bK
      try clear bL
      try clear bM
      try clear bQ
      try clear bR
      try clear be
      try clear bf
      try clear bg
      try clear bj
      try clear bk
      try clear bo
      try clear bp
      try clear bq
      try clear bt
      try clear bu
      try clear bz
      try clear bA
      try clear bB
      try clear bN
      try clear bO
      try clear bP
      try clear bS
      try clear bT
      try clear p2
      obtain⟨kq,x80_76,rfl,HA,HJ76,HO_323001,HO_329002,HO_339001,HO_340001,HO_346002,HO_355001,HO_356001,BK322,BK328,BK338,BK339,BK345,BK354,BK355,HB⟩:=hcut
      cases kq with
     |zero=>exact absurd HA.out (by simp[laws_FnTurns.j1])
     |succ kj76=>
       have H:=HA.out
       clear HA
       simp only[laws_FnTurns.j1] at H
       by_cases aT:x80_76=true
       ·subst aT
        have H1:(some false)=some r:=by rw[if_pos rfl] at H;exact H
        clear H
        have H:=H1
        clear H1
        exact absurd (Option.some.inj H) (by rw[HRT.out];decide)
       ·replace aT:=Bool.eq_false_iff.mpr aT
        subst aT
        have H1:(if t340=0 then ((impl_RingFault.f kj76 t341 t342).bind fun aC=>(if aC=0 then ((spec_TurnRing.f kj76 t329 t330 af t334 t335).bind fun aL=>((impl_SameRings.f t341 t342 aL.2.1 aL.2.2).bind fun aF=>(some aF))) else (some false))) else (some true))=some r:=by rw[if_neg (show ¬ (false=true) by decide)] at H;exact H
        clear H
        have H:=H1
        clear H1
        by_cases aI:t340=0
        ·rw[if_pos aI] at H
         have b3:(t340 == 0)=true:=beq_iff_eq.mpr aI
         have b4:(t340 != 0)=false:=bne_eq_false_iff_eq.mpr aI
         clear aI
         replace H:=Option.bind_eq_some_iff.mp H
         obtain⟨aC,bH,H⟩:=H
         replace H:(if aC=0 then ((spec_TurnRing.f kj76 t329 t330 af t334 t335).bind fun aL=>((impl_SameRings.f t341 t342 aL.2.1 aL.2.2).bind fun aF=>(some aF))) else (some false))=some r:=H
         have cj:=zz3 bH
         clear bH
         by_cases aJ:aC=0
         ·rw[if_pos aJ] at H
          have b5:(aC == 0)=true:=beq_iff_eq.mpr aJ
          have b6:(aC != 0)=false:=bne_eq_false_iff_eq.mpr aJ
          clear aJ
          replace H:=Option.bind_eq_some_iff.mp H
          obtain⟨⟨ck,aU,aV⟩,bI,H⟩:=H
          replace H:((impl_SameRings.f t341 t342 aU aV).bind fun aF=>(some aF))=some r:=H
          have cl:=zz3 bI
          clear bI
          replace H:=Option.bind_eq_some_iff.mp H
          obtain⟨aF,bJ,H⟩:=H
          replace H:(some aF)=some r:=H
          have cm:=zz3 bJ
          clear bJ
          obtain rfl:=Option.some.inj H
          try go_wp2
          have n0_:=zz3 (Kd.Q_drew HO_323001.out)
          have n1_:=zz3 (Kd.S_drew HO_329002.out)
          have n2_:=zz3 (Kd.V_drew HO_339001.out)
          have n3_:=zz3 (Kd.Q_drew HO_340001.out)
          have n4_:=zz3 (Kd.S_drew HO_346002.out)
          have n5_:=zz3 (Kd.V_drew HO_355001.out)
          have n6_:=zz3 (Kd.V_drew HO_356001.out)
          have n7_:=zz3 (gy3 BK322.out)
          have n8_:=zz3 (gy3 BK328.out)
          have n9_:=zz3 (gy3 BK338.out)
          have n10_:=zz3 (gy3 BK339.out)
          have n11_:=zz3 (gy3 BK345.out)
          have n12_:=zz3 (gy3 BK354.out)
          have n13_:=zz3 (gy3 BK355.out)
          have n14_:=zz3 (cy3 HB.out)
          clear HO_323001
          clear HO_329002
          clear HO_339001
          clear HO_340001
          clear HO_346002
          clear HO_355001
          clear HO_356001
          clear BK322
          clear BK328
          clear BK338
          clear BK339
          clear BK345
          clear BK354
          clear BK355
          clear HB
          have HO_323001:=n0_
          have HO_329002:=n1_
          have HO_339001:=n2_
          have HO_340001:=n3_
          have HO_346002:=n4_
          have HO_355001:=n5_
          have HO_356001:=n6_
          have BK322:=n7_
          have BK328:=n8_
          have BK338:=n9_
          have BK339:=n10_
          have BK345:=n11_
          have BK354:=n12_
          have BK355:=n13_
          have HB:=n14_
          clear n0_ n1_ n2_ n3_ n4_ n5_ n6_ n7_ n8_ n9_ n10_ n11_ n12_ n13_ n14_
          refine start_ (n:=20) (S:=fun w'=>w'.cell? ⟨gb345,0,none⟩=some (.int .i64 t340)∧w'.cell? ⟨gb345,1,none⟩=some (.int .i64 t341)∧w'.cell? ⟨gb345,2,none⟩=some (.slice Ao38 t342.length co38)∧w'.cell? ⟨gb338,0,none⟩=some (.int .i64 t329)∧w'.cell? ⟨gb338,1,none⟩=some (.slice Ao26 t330.length co26)∧w'.cell? ⟨gb339,0,none⟩=some (.int .i64 t334)∧w'.cell? ⟨gb339,1,none⟩=some (.slice Ao30 t335.length co30)) (ds:=[]) #[Z,Z,Z,Z,Z,Z,Z,Z,Z,Z,Z,Z,Z,Z,Z,Z,Z,Z,Z,Z] (by kernel_rfl) rfl rfl ⟨(blk_cell BK345.out 0).trans rfl,(blk_cell BK345.out 1).trans rfl,(blk_cell BK345.out 2).trans rfl,(blk_cell BK338.out 0).trans rfl,(blk_cell BK338.out 1).trans rfl,(blk_cell BK339.out 0).trans rfl,(blk_cell BK339.out 1).trans rfl⟩ (fun hHeld=>?_);refine with_tabW laws_FnTurns.tab12 laws_FnTurns.bits12 (fun HT_ HW_=>?_)
          generalize wc.drew=w135 at HO_323001 HO_329002 HO_339001 HO_340001 HO_346002 HO_355001 HO_356001 BK322 BK328 BK338 BK339 BK345 BK354 BK355 HB hHeld ⊢
          refine pure_ (i:=0) (N:=some 81) (v:=?_) (a':=?_) #[Y,Z,Z,Z,Z,Z,Z,Z,Z,Z,Z,Z,Z,Z,Z,Z,Z,Z,Z,Z] rfl rfl (any_of HT_.out (by kernel_rfl)) (fun _ _ _ h=>h) (Or.inl ⟨zq145,?_⟩) ?_ ?_
          rotate_left
          ·intro w';go_simp;with_reducible rfl
          rotate_left
          ·simp only[Act.put,sa_,sb_,sc_,i64_w];rfl
          refine take_ (i:=1) (N:=some 82) (v:=?_) (a':=?_) #[Y,Y,Z,Z,Z,Z,Z,Z,Z,Z,Z,Z,Z,Z,Z,Z,Z,Z,Z,Z] rfl rfl (take_ofW HT_.out HW_.out (by kernel_rfl)) (fun _ _ _ h=>h) (Or.inl ⟨zq145,?_⟩) hHeld ?_ ?_
          rotate_left
          ·rintro w' ⟨s0,s1,s2,s3,s4,s5,s6⟩
           go_simp
           with_reducible rfl
          rotate_left
          ·simp only[Act.put,sa_,sb_,sc_,i64_w];rfl
          refine pure_ (i:=2) (N:=some 83) (v:=?_) (a':=?_) #[Y,Y,Y,Z,Z,Z,Z,Z,Z,Z,Z,Z,Z,Z,Z,Z,Z,Z,Z,Z] rfl rfl (any_of HT_.out (by kernel_rfl)) (fun _ _ _ h=>h) (Or.inl ⟨zq145,?_⟩) ?_ ?_
          rotate_left
          ·intro w';go_simp;with_reducible rfl
          rotate_left
          ·simp only[Act.put,sa_,sb_,sc_,i64_w];rfl
          refine pure_ (i:=3) (N:=some 84) (v:=?_) (a':=?_) #[Y,Y,Y,Y,Z,Z,Z,Z,Z,Z,Z,Z,Z,Z,Z,Z,Z,Z,Z,Z] rfl rfl (any_of HT_.out (by kernel_rfl)) (fun _ _ _ h=>h) (Or.inl ⟨zq145,?_⟩) ?_ ?_
          rotate_left
          ·intro w';go_simp;with_reducible rfl
          rotate_left
          ·simp only[Act.put,sa_,sb_,sc_,i64_w];rfl
          refine pure_ (i:=4) (N:=some 85) (v:=?_) (a':=?_) #[Y,Y,Y,Y,Y,Z,Z,Z,Z,Z,Z,Z,Z,Z,Z,Z,Z,Z,Z,Z] rfl rfl (any_of HT_.out (by kernel_rfl)) (fun _ _ _ h=>h) (Or.inl ⟨zq145,?_⟩) ?_ ?_
          rotate_left
          ·intro w';go_simp;with_reducible rfl
          rotate_left
          ·simp only[Act.put,sa_,sb_,sc_,i64_w];rfl
          refine take_ (i:=5) (N:=some 86) (v:=?_) (a':=?_) #[Y,Y,Y,Y,Y,Y,Z,Z,Z,Z,Z,Z,Z,Z,Z,Z,Z,Z,Z,Z] rfl rfl (take_ofW HT_.out HW_.out (by kernel_rfl)) (fun _ _ _ h=>h) (Or.inl ⟨zq145,?_⟩) hHeld ?_ ?_
          rotate_left
          ·rintro w' ⟨s0,s1,s2,s3,s4,s5,s6⟩
           go_simp
           with_reducible rfl
          rotate_left
          ·simp only[Act.put,sa_,sb_,sc_,i64_w];rfl
          refine one_ (i:=6) (N:=some 87) #[Y,Y,Y,Y,Y,Y,Y,Z,Z,Z,Z,Z,Z,Z,Z,Z,Z,Z,Z,Z] rfl rfl (one_of HT_.out (by kernel_rfl)) zq16 (fun K hK=>?_)
          refine goes_ Try.func25 (by kernel_rfl) rfl #[.agg #[.int .i64 t341,.slice Ao38 t342.length co38]] zq145 rfl rfl zq32 ?_
          with_reducible refine(impl_RingFault.calls kj76 t341 _ _ t342 aC _ ?side1 ?side2 cj.out).mono ?_
          (case side1=>exact zq209)
          (case side2=>exact(Kd.S_reads' HO_346002.out).2.1)
          rintro e w136 ⟨rfl,hb⟩
          refine⟨_,rfl,?_⟩
          have n0_:=zz3 (Kd.Q_below zq151 hb)
          have n1_:=zz3 (Kd.S_below zq152 hb)
          have n2_:=zz3 (Kd.V_below zq181 hb)
          have n3_:=zz3 (Kd.Q_below zq153 hb)
          have n4_:=zz3 (Kd.S_below zq154 hb)
          have n5_:=zz3 (Kd.V_below zq182 hb)
          have n6_:=zz3 (Kd.V_below zq183 hb)
          have n7_:=zz3 (hy3 (g:=gb322) (o:=.cells #[.int .i64 t318,.slice Ao13 t319.length co13] 25 (0,0)) zq19 hb)
          have n8_:=zz3 (hy3 (g:=gb328) (o:=.cells #[.int .i64 t323,.int .i64 t324,.slice Ao18 t325.length co18] 31 (0,0)) zq24 hb)
          have n9_:=zz3 (hy3 (g:=gb338) (o:=.cells #[.int .i64 t329,.slice Ao26 t330.length co26] 29 (0,0)) zq31 hb)
          have n10_:=zz3 (hy3 (g:=gb339) (o:=.cells #[.int .i64 t334,.slice Ao30 t335.length co30] 25 (0,0)) zq25 hb)
          have n11_:=zz3 (hy3 (g:=gb345) (o:=.cells #[.int .i64 t340,.int .i64 t341,.slice Ao38 t342.length co38] 31 (0,0)) zq55 hb)
          have n12_:=zz3 (hy3 (g:=gb354) (o:=.cells #[.int .i64 t346,.slice Ao49 t347.length co49] 29 (0,0)) zq63 hb)
          have n13_:=zz3 (hy3 (g:=gb355) (o:=.cells #[.int .i64 t350,.slice Ao56 t351.length co56] 29 (0,0)) zq92 hb)
          have n14_:=zz3 (below_step zq10 hb)
          clear HO_323001
          clear HO_329002
          clear HO_339001
          clear HO_340001
          clear HO_346002
          clear HO_355001
          clear HO_356001
          clear BK322
          clear BK328
          clear BK338
          clear BK339
          clear BK345
          clear BK354
          clear BK355
          clear HB
          have HO_323001:=n0_
          have HO_329002:=n1_
          have HO_339001:=n2_
          have HO_340001:=n3_
          have HO_346002:=n4_
          have HO_355001:=n5_
          have HO_356001:=n6_
          have BK322:=n7_
          have BK328:=n8_
          have BK338:=n9_
          have BK339:=n10_
          have BK345:=n11_
          have BK354:=n12_
          have BK355:=n13_
          have HB:=n14_
          clear n0_ n1_ n2_ n3_ n4_ n5_ n6_ n7_ n8_ n9_ n10_ n11_ n12_ n13_ n14_
          (try clear hb);(try clear hb2);(try clear hk)
          (try clear hi)
          refine hK.out _ _ ⟨(blk_cell BK345.out 0).trans rfl,(blk_cell BK345.out 1).trans rfl,(blk_cell BK345.out 2).trans rfl,(blk_cell BK338.out 0).trans rfl,(blk_cell BK338.out 1).trans rfl,(blk_cell BK339.out 0).trans rfl,(blk_cell BK339.out 1).trans rfl⟩ (fun hHeld=>?_)
          clear hK K
          refine norm_ (a':=?_) ?_ ?_
          rotate_left
          ·show Act.put _ (some 87) _=_
           simp only[Act.put,sa_,sb_,sc_,i64_w]
           rfl
          refine pure_ (i:=7) (N:=some 88) (v:=?_) (a':=?_) #[Y,Y,Y,Y,Y,Y,Y,Y,Z,Z,Z,Z,Z,Z,Z,Z,Z,Z,Z,Z] rfl rfl (any_of HT_.out (by kernel_rfl)) (fun _ _ _ h=>h) (Or.inl ⟨zq145,?_⟩) ?_ ?_
          rotate_left
          ·intro w';go_simp;with_reducible rfl
          rotate_left
          ·simp only[Act.put,sa_,sb_,sc_,i64_w];rfl
          refine pure_ (i:=8) (N:=some 89) (v:=?_) (a':=?_) #[Y,Y,Y,Y,Y,Y,Y,Y,Y,Z,Z,Z,Z,Z,Z,Z,Z,Z,Z,Z] rfl rfl (any_of HT_.out (by kernel_rfl)) (fun _ _ _ h=>h) (Or.inl ⟨zq145,?_⟩) ?_ ?_
          rotate_left
          ·intro w';go_simp;with_reducible rfl
          rotate_left
          ·simp only[Act.put,sa_,sb_,sc_,i64_w];rfl
          refine pure_ (i:=9) (N:=some 90) (v:=?_) (a':=?_) #[Y,Y,Y,Y,Y,Y,Y,Y,Y,Y,Z,Z,Z,Z,Z,Z,Z,Z,Z,Z] rfl rfl (any_of HT_.out (by kernel_rfl)) (fun _ _ _ h=>h) (Or.inl ⟨zq145,?_⟩) ?_ ?_
          rotate_left
          ·intro w';go_simp;with_reducible rfl
          rotate_left
          ·simp only[Act.put,sa_,sb_,sc_,i64_w];rfl
          refine pure_ (i:=12) (N:=some 93) (v:=?_) (a':=?_) #[Y,Y,Y,Y,Y,Y,Y,Y,Y,Y,Z,Z,Y,Z,Z,Z,Z,Z,Z,Z] rfl rfl (any_of HT_.out (by kernel_rfl)) (fun _ _ _ h=>h) (Or.inl ⟨zq145,?_⟩) ?_ ?_
          rotate_left
          ·intro w';go_simp;with_reducible rfl
          rotate_left
          ·simp only[Act.put,sa_,sb_,sc_,i64_w];rfl
          refine take_ (i:=10) (N:=some 91) (v:=?_) (a':=?_) #[Y,Y,Y,Y,Y,Y,Y,Y,Y,Y,Y,Z,Y,Z,Z,Z,Z,Z,Z,Z] rfl rfl (take_ofW HT_.out HW_.out (by kernel_rfl)) (fun _ _ _ h=>h) (Or.inl ⟨zq145,?_⟩) hHeld ?_ ?_
          rotate_left
          ·rintro w' ⟨s0,s1,s2,s3,s4,s5,s6⟩
           go_simp
           with_reducible rfl
          rotate_left
          ·simp only[Act.put,sa_,sb_,sc_,i64_w];rfl
          refine take_ (i:=11) (N:=some 92) (v:=?_) (a':=?_) #[Y,Y,Y,Y,Y,Y,Y,Y,Y,Y,Y,Y,Y,Z,Z,Z,Z,Z,Z,Z] rfl rfl (take_ofW HT_.out HW_.out (by kernel_rfl)) (fun _ _ _ h=>h) (Or.inl ⟨zq145,?_⟩) hHeld ?_ ?_
          rotate_left
          ·rintro w' ⟨s0,s1,s2,s3,s4,s5,s6⟩
           go_simp
           with_reducible rfl
          rotate_left
          ·simp only[Act.put,sa_,sb_,sc_,i64_w];rfl
          refine take_ (i:=13) (N:=some 94) (v:=?_) (a':=?_) #[Y,Y,Y,Y,Y,Y,Y,Y,Y,Y,Y,Y,Y,Y,Z,Z,Z,Z,Z,Z] rfl rfl (take_ofW HT_.out HW_.out (by kernel_rfl)) (fun _ _ _ h=>h) (Or.inl ⟨zq145,?_⟩) hHeld ?_ ?_
          rotate_left
          ·rintro w' ⟨s0,s1,s2,s3,s4,s5,s6⟩
           go_simp
           with_reducible rfl
          rotate_left
          ·simp only[Act.put,sa_,sb_,sc_,i64_w];rfl
          refine one_ (i:=14) (N:=some 95) #[Y,Y,Y,Y,Y,Y,Y,Y,Y,Y,Y,Y,Y,Y,Y,Z,Z,Z,Z,Z] rfl rfl (one_of HT_.out (by kernel_rfl)) zq16 (fun K hK=>?_)
          refine goes_ Try.func22 (by kernel_rfl) rfl #[.agg #[.int .i64 t329,.slice Ao26 t330.length co26],.int .i64 af,.agg #[.int .i64 t334,.slice Ao30 t335.length co30]] zq145 rfl rfl zq32 ?_
          with_reducible refine(spec_TurnRing.calls kj76 t329 _ _ t330 af t334 _ _ t335 ck aU aV _ ?side1 ?side2 ?side3 ?side4 cl.out).mono ?_
          (case side1=>repeat (first|exact(Kd.V_reads' HO_339001.out).2.2|(with_reducible refine Kd.C_alloc ?_ _)|(with_reducible refine Kd.C_drewN ?_ _)|(with_reducible refine Kd.C_drew ?_)))
          (case side2=>exact(Kd.V_reads' HO_339001.out).2.1)
          (case side3=>repeat (first|exact(Kd.Q_reads' HO_340001.out).2.2|(with_reducible refine Kd.C_alloc ?_ _)|(with_reducible refine Kd.C_drewN ?_ _)|(with_reducible refine Kd.C_drew ?_)))
          (case side4=>exact(Kd.Q_reads' HO_340001.out).2.1)
          rintro e w137 ⟨v373,rfl,ho0,hb⟩
          refine⟨_,rfl,?_⟩
          have n0_:=zz3 (Kd.Q_below zq151 hb)
          have n1_:=zz3 (Kd.S_elder' zq152 (Kd.S_base ho0) hb)
          have n2_:=zz3 (Kd.V_elder' zq181 (Kd.S_base ho0) hb)
          have n3_:=zz3 (Kd.Q_below zq153 hb)
          have n4_:=zz3 (Kd.S_elder' zq154 (Kd.S_base ho0) hb)
          have n5_:=zz3 (Kd.V_elder' zq182 (Kd.S_base ho0) hb)
          have n6_:=zz3 (Kd.V_elder' zq183 (Kd.S_base ho0) hb)
          have n7_:=zz3 (Kd.S_lower (Kd.S_newB (Kd.S_newB (Kd.S_new' (Kd.S_new' (Kd.S_new' (Kd.S_new' ho0 (Kd.Q_lt zq151)) (Kd.S_lt zq152)) (Kd.Q_lt zq153)) (Kd.S_lt zq154)) (g:=gb322) (o:=.cells #[.int .i64 t318,.slice Ao13 t319.length co13] 25 (0,0)) zq19) (g:=gb339) (o:=.cells #[.int .i64 t334,.slice Ao30 t335.length co30] 25 (0,0)) zq25) (below_size zq10))
          have n8_:=zz3 (hy3 (g:=gb322) (o:=.cells #[.int .i64 t318,.slice Ao13 t319.length co13] 25 (0,0)) zq19 hb)
          have n9_:=zz3 (hy3 (g:=gb328) (o:=.cells #[.int .i64 t323,.int .i64 t324,.slice Ao18 t325.length co18] 31 (0,0)) zq24 hb)
          have n10_:=zz3 (hy3 (g:=gb338) (o:=.cells #[.int .i64 t329,.slice Ao26 t330.length co26] 29 (0,0)) zq31 hb)
          have n11_:=zz3 (hy3 (g:=gb339) (o:=.cells #[.int .i64 t334,.slice Ao30 t335.length co30] 25 (0,0)) zq25 hb)
          have n12_:=zz3 (hy3 (g:=gb345) (o:=.cells #[.int .i64 t340,.int .i64 t341,.slice Ao38 t342.length co38] 31 (0,0)) zq55 hb)
          have n13_:=zz3 (hy3 (g:=gb354) (o:=.cells #[.int .i64 t346,.slice Ao49 t347.length co49] 29 (0,0)) zq63 hb)
          have n14_:=zz3 (hy3 (g:=gb355) (o:=.cells #[.int .i64 t350,.slice Ao56 t351.length co56] 29 (0,0)) zq92 hb)
          have n15_:=zz3 (below_step zq10 hb)
          clear HO_323001
          clear HO_329002
          clear HO_339001
          clear HO_340001
          clear HO_346002
          clear HO_355001
          clear HO_356001
          clear BK322
          clear BK328
          clear BK338
          clear BK339
          clear BK345
          clear BK354
          clear BK355
          clear HB
          have HO_323001:=n0_
          have HO_329002:=n1_
          have HO_339001:=n2_
          have HO_340001:=n3_
          have HO_346002:=n4_
          have HO_355001:=n5_
          have HO_356001:=n6_
          have aH:=n7_
          have BK322:=n8_
          have BK328:=n9_
          have BK338:=n10_
          have BK339:=n11_
          have BK345:=n12_
          have BK354:=n13_
          have BK355:=n14_
          have HB:=n15_
          clear n0_ n1_ n2_ n3_ n4_ n5_ n6_ n7_ n8_ n9_ n10_ n11_ n12_ n13_ n14_ n15_
          (try clear hb);(try clear hb2);(try clear hk)
          (try clear hi)
          (try clear ho0)
          obtain⟨ca,cb,eo138⟩:=Kd.S_slice aH.out
          (first|subst eo138|(injection eo138 with f1_ f2_ f3_;have f4_:=f1_.symm;have f5_:=f3_.symm;clear f1_ f2_ f3_;subst f4_;subst f5_))
          refine hK.out _ _ ⟨(blk_cell BK345.out 0).trans rfl,(blk_cell BK345.out 1).trans rfl,(blk_cell BK345.out 2).trans rfl,(blk_cell BK338.out 0).trans rfl,(blk_cell BK338.out 1).trans rfl,(blk_cell BK339.out 0).trans rfl,(blk_cell BK339.out 1).trans rfl⟩ (fun hHeld=>?_)
          clear hK K
          refine norm_ (a':=?_) ?_ ?_
          rotate_left
          ·show Act.put _ (some 95) _=_
           simp only[Act.put,sa_,sb_,sc_,i64_w]
           rfl
          refine pure_ (i:=15) (N:=some 96) (v:=?_) (a':=?_) #[Y,Y,Y,Y,Y,Y,Y,Y,Y,Y,Y,Y,Y,Y,Y,Y,Z,Z,Z,Z] rfl rfl (any_of HT_.out (by kernel_rfl)) (fun _ _ _ h=>h) (Or.inl ⟨zq145,?_⟩) ?_ ?_
          rotate_left
          ·intro w';go_simp;with_reducible rfl
          rotate_left
          ·simp only[Act.put,sa_,sb_,sc_,i64_w];rfl
          refine one_ (i:=16) (N:=some 97) #[Y,Y,Y,Y,Y,Y,Y,Y,Y,Y,Y,Y,Y,Y,Y,Y,Y,Z,Z,Z] rfl rfl (one_of HT_.out (by kernel_rfl)) zq16 (fun K hK=>?_)
          refine goes_ Try.func23 (by kernel_rfl) rfl #[.agg #[.int .i64 t341,.slice Ao38 t342.length co38],.agg #[.int .i64 aU,.slice ca aV.length cb]] zq145 rfl rfl zq32 ?_
          with_reducible refine(impl_SameRings.calls t341 _ _ t342 aU _ _ aV aF _ ?side1 ?side2 ?side3 ?side4 cm.out).mono ?_
          (case side1=>exact zq209)
          (case side2=>exact(Kd.S_reads' HO_346002.out).2.1)
          (case side3=>repeat (first|exact(Kd.S_reads' aH.out).2.2|(with_reducible refine Kd.C_alloc ?_ _)|(with_reducible refine Kd.C_drewN ?_ _)|(with_reducible refine Kd.C_drew ?_)))
          (case side4=>exact(Kd.S_reads' aH.out).2.1)
          rintro e w139 ⟨rfl,hb⟩
          refine⟨_,rfl,?_⟩
          have n0_:=zz3 (Kd.Q_below zq151 hb)
          have n1_:=zz3 (Kd.S_below zq152 hb)
          have n2_:=zz3 (Kd.V_below zq181 hb)
          have n3_:=zz3 (Kd.Q_below zq153 hb)
          have n4_:=zz3 (Kd.S_below zq154 hb)
          have n5_:=zz3 (Kd.V_below zq182 hb)
          have n6_:=zz3 (Kd.V_below zq183 hb)
          have n7_:=zz3 (Kd.S_below (by(with_reducible repeat (first|apply Kd.S_alloc|apply Kd.S_drewN|apply Kd.S_drew));exact aH.out) hb)
          have n8_:=zz3 (hy3 (g:=gb322) (o:=.cells #[.int .i64 t318,.slice Ao13 t319.length co13] 25 (0,0)) zq19 hb)
          have n9_:=zz3 (hy3 (g:=gb328) (o:=.cells #[.int .i64 t323,.int .i64 t324,.slice Ao18 t325.length co18] 31 (0,0)) zq24 hb)
          have n10_:=zz3 (hy3 (g:=gb338) (o:=.cells #[.int .i64 t329,.slice Ao26 t330.length co26] 29 (0,0)) zq31 hb)
          have n11_:=zz3 (hy3 (g:=gb339) (o:=.cells #[.int .i64 t334,.slice Ao30 t335.length co30] 25 (0,0)) zq25 hb)
          have n12_:=zz3 (hy3 (g:=gb345) (o:=.cells #[.int .i64 t340,.int .i64 t341,.slice Ao38 t342.length co38] 31 (0,0)) zq55 hb)
          have n13_:=zz3 (hy3 (g:=gb354) (o:=.cells #[.int .i64 t346,.slice Ao49 t347.length co49] 29 (0,0)) zq63 hb)
          have n14_:=zz3 (hy3 (g:=gb355) (o:=.cells #[.int .i64 t350,.slice Ao56 t351.length co56] 29 (0,0)) zq92 hb)
          have n15_:=zz3 (below_step zq10 hb)
          clear HO_323001
          clear HO_329002
          clear HO_339001
          clear HO_340001
          clear HO_346002
          clear HO_355001
          clear HO_356001
          clear aH
          clear BK322
          clear BK328
          clear BK338
          clear BK339
          clear BK345
          clear BK354
          clear BK355
          clear HB
          have HO_323001:=n0_
          have HO_329002:=n1_
          have HO_339001:=n2_
          have HO_340001:=n3_
          have HO_346002:=n4_
          have HO_355001:=n5_
          have HO_356001:=n6_
          have aH:=n7_
          have BK322:=n8_
          have BK328:=n9_
          have BK338:=n10_
          have BK339:=n11_
          have BK345:=n12_
          have BK354:=n13_
          have BK355:=n14_
          have HB:=n15_
          clear n0_ n1_ n2_ n3_ n4_ n5_ n6_ n7_ n8_ n9_ n10_ n11_ n12_ n13_ n14_ n15_
          (try clear hb);(try clear hb2);(try clear hk)
          (try clear hi)
          refine hK.out _ _ ⟨(blk_cell BK345.out 0).trans rfl,(blk_cell BK345.out 1).trans rfl,(blk_cell BK345.out 2).trans rfl,(blk_cell BK338.out 0).trans rfl,(blk_cell BK338.out 1).trans rfl,(blk_cell BK339.out 0).trans rfl,(blk_cell BK339.out 1).trans rfl⟩ (fun hHeld=>?_)
          clear hK K
          refine norm_ (a':=?_) ?_ ?_
          rotate_left
          ·show Act.put _ (some 97) _=_
           simp only[Act.put,sa_,sb_,sc_,i64_w]
           rfl
          refine pure_ (i:=17) (N:=some 98) (v:=?_) (a':=?_) #[Y,Y,Y,Y,Y,Y,Y,Y,Y,Y,Y,Y,Y,Y,Y,Y,Y,Y,Z,Z] rfl rfl (any_of HT_.out (by kernel_rfl)) (fun _ _ _ h=>h) (Or.inl ⟨zq145,?_⟩) ?_ ?_
          rotate_left
          ·intro w';go_simp;with_reducible rfl
          rotate_left
          ·simp only[Act.put,sa_,sb_,sc_,i64_w];rfl
          refine pure_ (i:=18) (N:=some 99) (v:=?_) (a':=?_) #[Y,Y,Y,Y,Y,Y,Y,Y,Y,Y,Y,Y,Y,Y,Y,Y,Y,Y,Y,Z] rfl rfl (any_of HT_.out (by kernel_rfl)) (fun _ _ _ h=>h) (Or.inl ⟨zq145,?_⟩) ?_ ?_
          rotate_left
          ·intro w';go_simp;with_reducible rfl
          rotate_left
          ·simp only[Act.put,sa_,sb_,sc_,i64_w];rfl
          refine pure_ (i:=19) (N:=some 2) (v:=?_) (a':=?_) #[Y,Y,Y,Y,Y,Y,Y,Y,Y,Y,Y,Y,Y,Y,Y,Y,Y,Y,Y,Y] rfl rfl (any_of HT_.out (by kernel_rfl)) (fun _ _ _ h=>h) (Or.inl ⟨zq145,?_⟩) ?_ ?_
          rotate_left
          ·intro w';go_simp;with_reducible rfl
          rotate_left
          ·simp only[Act.put,sa_,sb_,sc_,i64_w];rfl
          refine done_ (done_of HT_.out (by kernel_rfl)) ?_
          try go_wp2
          go_ret
          exact⟨zq202,by repeat (first|(with_reducible first|exact HB.out|apply by3|apply ay3|apply cy3|refine dy3 ?_ GE322.out|refine dy3 ?_ GE328.out|refine dy3 ?_ GE338.out|refine dy3 ?_ GE339.out|refine dy3 ?_ GE345.out|refine dy3 ?_ GE354.out|refine dy3 ?_ GE355.out)|exact HB.out)⟩
         ·rw[if_neg aJ] at H
          have b5:(aC == 0)=false:=beq_eq_false_iff_ne.mpr aJ
          have b6:(aC != 0)=true:=bne_iff_ne.mpr aJ
          exact absurd (Option.some.inj H) (by rw[HRT.out];decide)
        ·rw[if_neg aI] at H
         have b3:(t340 == 0)=false:=beq_eq_false_iff_ne.mpr aI
         have b4:(t340 != 0)=true:=bne_iff_ne.mpr aI
         obtain rfl:=Option.some.inj H
         try go_wp2
         have n0_:=zz3 (Kd.Q_drew HO_323001.out)
         have n1_:=zz3 (Kd.S_drew HO_329002.out)
         have n2_:=zz3 (Kd.V_drew HO_339001.out)
         have n3_:=zz3 (Kd.Q_drew HO_340001.out)
         have n4_:=zz3 (Kd.S_drew HO_346002.out)
         have n5_:=zz3 (Kd.V_drew HO_355001.out)
         have n6_:=zz3 (Kd.V_drew HO_356001.out)
         have n7_:=zz3 (gy3 BK322.out)
         have n8_:=zz3 (gy3 BK328.out)
         have n9_:=zz3 (gy3 BK338.out)
         have n10_:=zz3 (gy3 BK339.out)
         have n11_:=zz3 (gy3 BK345.out)
         have n12_:=zz3 (gy3 BK354.out)
         have n13_:=zz3 (gy3 BK355.out)
         have n14_:=zz3 (cy3 HB.out)
         clear HO_323001
         clear HO_329002
         clear HO_339001
         clear HO_340001
         clear HO_346002
         clear HO_355001
         clear HO_356001
         clear BK322
         clear BK328
         clear BK338
         clear BK339
         clear BK345
         clear BK354
         clear BK355
         clear HB
         have HO_323001:=n0_
         have HO_329002:=n1_
         have HO_339001:=n2_
         have HO_340001:=n3_
         have HO_346002:=n4_
         have HO_355001:=n5_
         have HO_356001:=n6_
         have BK322:=n7_
         have BK328:=n8_
         have BK338:=n9_
         have BK339:=n10_
         have BK345:=n11_
         have BK354:=n12_
         have BK355:=n13_
         have HB:=n14_
         clear n0_ n1_ n2_ n3_ n4_ n5_ n6_ n7_ n8_ n9_ n10_ n11_ n12_ n13_ n14_
         refine start_ (n:=20) (S:=fun w'=>w'.cell? ⟨gb345,0,none⟩=some (.int .i64 t340)∧w'.cell? ⟨gb345,1,none⟩=some (.int .i64 t341)∧w'.cell? ⟨gb345,2,none⟩=some (.slice Ao38 t342.length co38)) (ds:=[]) #[Z,Z,Z,Z,Z,Z,Z,Z,Z,Z,Z,Z,Z,Z,Z,Z,Z,Z,Z,Z] (by kernel_rfl) rfl rfl ⟨(blk_cell BK345.out 0).trans rfl,(blk_cell BK345.out 1).trans rfl,(blk_cell BK345.out 2).trans rfl⟩ (fun hHeld=>?_);refine with_tabW laws_FnTurns.tab12 laws_FnTurns.bits12 (fun HT_ HW_=>?_)
         generalize wc.drew=w142 at HO_323001 HO_329002 HO_339001 HO_340001 HO_346002 HO_355001 HO_356001 BK322 BK328 BK338 BK339 BK345 BK354 BK355 HB hHeld ⊢
         refine pure_ (i:=0) (N:=some 81) (v:=?_) (a':=?_) #[Y,Z,Z,Z,Z,Z,Z,Z,Z,Z,Z,Z,Z,Z,Z,Z,Z,Z,Z,Z] rfl rfl (any_of HT_.out (by kernel_rfl)) (fun _ _ _ h=>h) (Or.inl ⟨zq145,?_⟩) ?_ ?_
         rotate_left
         ·intro w';go_simp;with_reducible rfl
         rotate_left
         ·simp only[Act.put,sa_,sb_,sc_,i64_w];rfl
         refine take_ (i:=1) (N:=some 82) (v:=?_) (a':=?_) #[Y,Y,Z,Z,Z,Z,Z,Z,Z,Z,Z,Z,Z,Z,Z,Z,Z,Z,Z,Z] rfl rfl (take_ofW HT_.out HW_.out (by kernel_rfl)) (fun _ _ _ h=>h) (Or.inl ⟨zq145,?_⟩) hHeld ?_ ?_
         rotate_left
         ·rintro w' ⟨s0,s1,s2⟩
          go_simp
          with_reducible rfl
         rotate_left
         ·simp only[Act.put,sa_,sb_,sc_,i64_w];rfl
         refine pure_ (i:=2) (N:=some 83) (v:=?_) (a':=?_) #[Y,Y,Y,Z,Z,Z,Z,Z,Z,Z,Z,Z,Z,Z,Z,Z,Z,Z,Z,Z] rfl rfl (any_of HT_.out (by kernel_rfl)) (fun _ _ _ h=>h) (Or.inl ⟨zq145,?_⟩) ?_ ?_
         rotate_left
         ·intro w';go_simp;with_reducible rfl
         rotate_left
         ·simp only[Act.put,sa_,sb_,sc_,i64_w];rfl
         refine pure_ (i:=3) (N:=some 84) (v:=?_) (a':=?_) #[Y,Y,Y,Y,Z,Z,Z,Z,Z,Z,Z,Z,Z,Z,Z,Z,Z,Z,Z,Z] rfl rfl (any_of HT_.out (by kernel_rfl)) (fun _ _ _ h=>h) (Or.inl ⟨zq145,?_⟩) ?_ ?_
         rotate_left
         ·intro w';go_simp;with_reducible rfl
         rotate_left
         ·simp only[Act.put,sa_,sb_,sc_,i64_w];rfl
         refine pure_ (i:=4) (N:=some 85) (v:=undef) (a':=?_) #[Y,Y,Y,Y,Y,Z,Z,Z,Z,Z,Z,Z,Z,Z,Z,Z,Z,Z,Z,Z] rfl rfl (any_of HT_.out (by kernel_rfl)) (fun _ _ _ h=>h) (Or.inr ⟨zq145,rfl⟩) ?_ ?_
         rotate_left
         ·simp only[Act.put,sa_,sb_,sc_,i64_w];rfl
         refine pure_ (i:=5) (N:=some 86) (v:=undef) (a':=?_) #[Y,Y,Y,Y,Y,Y,Z,Z,Z,Z,Z,Z,Z,Z,Z,Z,Z,Z,Z,Z] rfl rfl (any_of HT_.out (by kernel_rfl)) (fun _ _ _ h=>h) (Or.inr ⟨zq145,rfl⟩) ?_ ?_
         rotate_left
         ·simp only[Act.put,sa_,sb_,sc_,i64_w];rfl
         refine pure_ (i:=6) (N:=some 87) (v:=undef) (a':=?_) #[Y,Y,Y,Y,Y,Y,Y,Z,Z,Z,Z,Z,Z,Z,Z,Z,Z,Z,Z,Z] rfl rfl (any_of HT_.out (by kernel_rfl)) (fun _ _ _ h=>h) (Or.inr ⟨zq145,rfl⟩) ?_ ?_
         rotate_left
         ·simp only[Act.put,sa_,sb_,sc_,i64_w];rfl
         refine pure_ (i:=7) (N:=some 88) (v:=undef) (a':=?_) #[Y,Y,Y,Y,Y,Y,Y,Y,Z,Z,Z,Z,Z,Z,Z,Z,Z,Z,Z,Z] rfl rfl (any_of HT_.out (by kernel_rfl)) (fun _ _ _ h=>h) (Or.inr ⟨zq145,rfl⟩) ?_ ?_
         rotate_left
         ·simp only[Act.put,sa_,sb_,sc_,i64_w];rfl
         refine pure_ (i:=8) (N:=some 89) (v:=undef) (a':=?_) #[Y,Y,Y,Y,Y,Y,Y,Y,Y,Z,Z,Z,Z,Z,Z,Z,Z,Z,Z,Z] rfl rfl (any_of HT_.out (by kernel_rfl)) (fun _ _ _ h=>h) (Or.inr ⟨zq145,rfl⟩) ?_ ?_
         rotate_left
         ·simp only[Act.put,sa_,sb_,sc_,i64_w];rfl
         refine pure_ (i:=9) (N:=some 90) (v:=undef) (a':=?_) #[Y,Y,Y,Y,Y,Y,Y,Y,Y,Y,Z,Z,Z,Z,Z,Z,Z,Z,Z,Z] rfl rfl (any_of HT_.out (by kernel_rfl)) (fun _ _ _ h=>h) (Or.inr ⟨zq145,rfl⟩) ?_ ?_
         rotate_left
         ·simp only[Act.put,sa_,sb_,sc_,i64_w];rfl
         refine pure_ (i:=10) (N:=some 91) (v:=undef) (a':=?_) #[Y,Y,Y,Y,Y,Y,Y,Y,Y,Y,Y,Z,Z,Z,Z,Z,Z,Z,Z,Z] rfl rfl (any_of HT_.out (by kernel_rfl)) (fun _ _ _ h=>h) (Or.inr ⟨zq145,rfl⟩) ?_ ?_
         rotate_left
         ·simp only[Act.put,sa_,sb_,sc_,i64_w];rfl
         refine pure_ (i:=11) (N:=some 92) (v:=undef) (a':=?_) #[Y,Y,Y,Y,Y,Y,Y,Y,Y,Y,Y,Y,Z,Z,Z,Z,Z,Z,Z,Z] rfl rfl (any_of HT_.out (by kernel_rfl)) (fun _ _ _ h=>h) (Or.inr ⟨zq145,rfl⟩) ?_ ?_
         rotate_left
         ·simp only[Act.put,sa_,sb_,sc_,i64_w];rfl
         refine pure_ (i:=12) (N:=some 93) (v:=undef) (a':=?_) #[Y,Y,Y,Y,Y,Y,Y,Y,Y,Y,Y,Y,Y,Z,Z,Z,Z,Z,Z,Z] rfl rfl (any_of HT_.out (by kernel_rfl)) (fun _ _ _ h=>h) (Or.inr ⟨zq145,rfl⟩) ?_ ?_
         rotate_left
         ·simp only[Act.put,sa_,sb_,sc_,i64_w];rfl
         refine pure_ (i:=13) (N:=some 94) (v:=undef) (a':=?_) #[Y,Y,Y,Y,Y,Y,Y,Y,Y,Y,Y,Y,Y,Y,Z,Z,Z,Z,Z,Z] rfl rfl (any_of HT_.out (by kernel_rfl)) (fun _ _ _ h=>h) (Or.inr ⟨zq145,rfl⟩) ?_ ?_
         rotate_left
         ·simp only[Act.put,sa_,sb_,sc_,i64_w];rfl
         refine pure_ (i:=14) (N:=some 95) (v:=undef) (a':=?_) #[Y,Y,Y,Y,Y,Y,Y,Y,Y,Y,Y,Y,Y,Y,Y,Z,Z,Z,Z,Z] rfl rfl (any_of HT_.out (by kernel_rfl)) (fun _ _ _ h=>h) (Or.inr ⟨zq145,rfl⟩) ?_ ?_
         rotate_left
         ·simp only[Act.put,sa_,sb_,sc_,i64_w];rfl
         refine pure_ (i:=15) (N:=some 96) (v:=undef) (a':=?_) #[Y,Y,Y,Y,Y,Y,Y,Y,Y,Y,Y,Y,Y,Y,Y,Y,Z,Z,Z,Z] rfl rfl (any_of HT_.out (by kernel_rfl)) (fun _ _ _ h=>h) (Or.inr ⟨zq145,rfl⟩) ?_ ?_
         rotate_left
         ·simp only[Act.put,sa_,sb_,sc_,i64_w];rfl
         refine pure_ (i:=16) (N:=some 97) (v:=undef) (a':=?_) #[Y,Y,Y,Y,Y,Y,Y,Y,Y,Y,Y,Y,Y,Y,Y,Y,Y,Z,Z,Z] rfl rfl (any_of HT_.out (by kernel_rfl)) (fun _ _ _ h=>h) (Or.inr ⟨zq145,rfl⟩) ?_ ?_
         rotate_left
         ·simp only[Act.put,sa_,sb_,sc_,i64_w];rfl
         refine pure_ (i:=17) (N:=some 98) (v:=undef) (a':=?_) #[Y,Y,Y,Y,Y,Y,Y,Y,Y,Y,Y,Y,Y,Y,Y,Y,Y,Y,Z,Z] rfl rfl (any_of HT_.out (by kernel_rfl)) (fun _ _ _ h=>h) (Or.inr ⟨zq145,rfl⟩) ?_ ?_
         rotate_left
         ·simp only[Act.put,sa_,sb_,sc_,i64_w];rfl
         refine pure_ (i:=18) (N:=some 99) (v:=?_) (a':=?_) #[Y,Y,Y,Y,Y,Y,Y,Y,Y,Y,Y,Y,Y,Y,Y,Y,Y,Y,Y,Z] rfl rfl (any_of HT_.out (by kernel_rfl)) (fun _ _ _ h=>h) (Or.inl ⟨zq145,?_⟩) ?_ ?_
         rotate_left
         ·intro w';go_simp;with_reducible rfl
         rotate_left
         ·simp only[Act.put,sa_,sb_,sc_,i64_w];rfl
         refine pure_ (i:=19) (N:=some 2) (v:=?_) (a':=?_) #[Y,Y,Y,Y,Y,Y,Y,Y,Y,Y,Y,Y,Y,Y,Y,Y,Y,Y,Y,Y] rfl rfl (any_of HT_.out (by kernel_rfl)) (fun _ _ _ h=>h) (Or.inl ⟨zq145,?_⟩) ?_ ?_
         rotate_left
         ·intro w';go_simp;with_reducible rfl
         rotate_left
         ·simp only[Act.put,sa_,sb_,sc_,i64_w];rfl
         refine done_ (done_of HT_.out (by kernel_rfl)) ?_
         try go_wp2
         go_ret
         exact⟨zq202,by repeat (first|(with_reducible first|exact HB.out|apply by3|apply ay3|apply cy3|refine dy3 ?_ GE322.out|refine dy3 ?_ GE328.out|refine dy3 ?_ GE338.out|refine dy3 ?_ GE339.out|refine dy3 ?_ GE345.out|refine dy3 ?_ GE354.out|refine dy3 ?_ GE355.out)|exact HB.out)⟩
end Go.Proofs.Ytmnhddedcbkpoaa.All
