-- Laid by wip/shake.py of this repo out of this claim's texts. Not trusted: Lean checks it.
import Derived.Test.YtmnhddedcbkpoaaAb0s
import Derived.Test.YtmnhddedcbkpoaaBytes
import Derived.Test.YtmnhddedcbkpoaaAllx6s
import Derived.Test.YtmnhddedcbkpoaaAllx23s
namespace Go.Proofs.Ytmnhddedcbkpoaa.All
open Go.Proofs.YtmnhddedcbkpoaaW.PrintWords.Aside0 renaming mk→zM
open Go.RowKit Go.Proofs.YtmnhddedcbkpoaaW.PrintWords Go.Proofs.YtmnhddedcbkpoaaW.PrintLast Go.Proofs.YtmnhddedcbkpoaaW.PrintMore
attribute [local go_sem] max2_int min2_int max_two min_two max_three min_three max_four min_four
set_option linter.unusedVariables false
set_option linter.unusedSimpArgs false
def spec_l1Source.f (l0:List Int):Option (List Int × Int):=some (l0,0)
set_option maxHeartbeats 8000000 in
set_option maxRecDepth 100000 in
theorem spec_l1Source.calls (A0:Option Addr) (c0:Nat) (l0:List Int) (r1:List Int) (r2:Int) (w0 w:World) (hB:Below w0.heap.size w0 w) (hr0:Kd.C (Kd.int .u8) w0 A0 l0.length l0) (hc0:l0.length≤c0) (h:spec_l1Source.f l0=some (r1,r2)) :
  Calls Try.prog 60 #[.slice A0 l0.length c0] w fun e w'=>∃ g_:Nat,e=.returned (.pointer (some ⟨g_,0,none⟩))∧IsS112 w0 w' g_ r1 r2∧Below w0.heap.size w0 w'∧Below w.heap.size w w':=by
 have hu112:=Try.underlying112
 have HR0:=zM hr0
 have HC0:=zM hc0
 clear hr0 hc0
 have HBW:=zM (Below.refl w.heap.size w)
 have HW0:=zM hB.size
 have HB:=zM hB
 clear hB
 have H:(some (l0,0))=some (r1,r2):=h
 clear h
 simp only[Option.some.injEq,Prod.mk.injEq] at H
 obtain⟨rfl,rfl⟩:=H
 go_enter Try.func60,Try.ntmps60
 go_wp2_with (first|((with_reducible refine gate_dst (N:=5) rfl ?_);refine box_event ?hg (N:=5) ?hd (cs:=#[.slice A0 l0.length c0,.int .i64 0]) (t:=112) ?hr ?_;(case hd=>rfl);(case hg=>rfl);(case hr=>first|(go_simp;done)|(go_simp;rfl));intro gb134 hg w2 hbox hb;have n0_:=zM (below_step HBW.out hb);have n1_:=zM (below_step zq0 hb);have n2_:=zM (hbox);have n3_:=zM ((by rw[hg];exact(below_size zq214):w.heap.size≤gb134));have n4_:=zM ((Nat.le_trans HW0.out (by rw[hg];exact(below_size zq214):w.heap.size≤gb134):w0.heap.size≤gb134));clear HBW;clear HB;have HBW:=n0_;have HB:=n1_;have BK134:=n2_;have GW134:=n3_;have GE134:=n4_;clear n0_ n1_ n2_ n3_ n4_;clear hb hbox hg))
 go_ret
 exact⟨_,rfl,(show IsS112 w0 _ gb134 l0 0 from ⟨_,_,by(with_reducible repeat (first|refine blk_drewN ?_ _|refine blk_drew ?_|refine blk_alloc ?_ _));exact BK134.out,GE134.out,HR0.out⟩),by repeat (first|(with_reducible first|exact HB.out|apply below_alloc|apply pw_below_drewN|apply below_drew1|refine below_set ?_ GE134.out)|exact HB.out),by repeat (first|(with_reducible first|exact HBW.out|apply below_alloc|apply pw_below_drewN|apply below_drew1|refine below_set ?_ GW134.out)|exact HBW.out)⟩
def spec_DrawNewRing.f (k:Nat) (l0:List Int):Option (Int × List Int):=(spec_l1Source.f l0).bind fun bt136=>((spec_l4Some.f k bt136.1 bt136.2).bind fun bt139=>(some (bt139.1,bt139.2.1)))
theorem spec_DrawNewRing.mono:∀ a0 k,LeO (spec_DrawNewRing.f k a0) (spec_DrawNewRing.f (k+1) a0):=by
 intro a0 k
 unfold spec_DrawNewRing.f
 repeat' first
   | (with_reducible exact spec_l4Some.mono _ _ _)
   | (with_reducible exact LeO.refl _)
   | (with_reducible exact LeO.none _)
   | (with_reducible refine LeO.ite ?_ ?_)
   | (with_reducible refine LeO.bind ?_ (fun _=>?_))
   | exact spec_l4Some.mono _ _ _
   | exact LeO.none _
   | refine LeO.ite ?_ ?_
   | refine LeO.bind ?_ (fun _=>?_)
set_option maxHeartbeats 8000000 in
set_option maxRecDepth 100000 in
theorem spec_DrawNewRing.calls (k:Nat) (A0:Option Addr) (c0:Nat) (l0:List Int) (r1:Int) (r2:List Int) (w:World) (hr0:Kd.C (Kd.int .u8) w A0 l0.length l0) (hc0:l0.length≤c0) (h:spec_DrawNewRing.f k l0=some (r1,r2)) :
  Calls Try.prog 16 #[.slice A0 l0.length c0] w fun e w'=>∃ v1_:Value,e=.returned (.agg #[.int .i64 r1,v1_])∧Kd.Q (Kd.int .u8) 5 w' w.heap.size (fun _=>True) v1_ r2∧Below w.heap.size w w':=by
 have hu25:=Try.underlying25
 have HR0:=zM hr0
 have HC0:=zM hc0
 clear hr0 hc0
 have HB:=zM (Below.refl w.heap.size w)
 have H:((spec_l1Source.f l0).bind fun bt136=>((spec_l4Some.f k bt136.1 bt136.2).bind fun bt139=>(some (bt139.1,bt139.2.1))))=some (r1,r2):=h
 clear h
 replace H:=Option.bind_eq_some_iff.mp H
 obtain⟨⟨t136,t137⟩,A20,H⟩:=H
 replace H:((spec_l4Some.f k t136 t137).bind fun bt139=>(some (bt139.1,bt139.2.1)))=some (r1,r2):=H
 have A2:=zM A20
 clear A20
 replace H:=Option.bind_eq_some_iff.mp H
 obtain⟨⟨t139,t140,t143⟩,A30,H⟩:=H
 replace H:(some (t139,t140))=some (r1,r2):=H
 have A3:=zM A30
 clear A30
 simp only[Option.some.injEq,Prod.mk.injEq] at H
 obtain⟨rfl,rfl⟩:=H
 go_enter Try.func16,Try.ntmps16
 go_wp2_with (first|((with_reducible refine gate_dst (N:=2) rfl ?_);refine box_event ?hg (N:=2) ?hd (cs:=#[.int .i64 0,.slice none 0 0]) (t:=25) ?hr ?_;(case hd=>rfl);(case hg=>rfl);(case hr=>first|(go_simp;done)|(go_simp;rfl));intro gb135 hg w4 hbox hb;have n0_:=zM (below_step zq0 hb);have n1_:=zM (hbox);have n2_:=zM ((by rw[hg];exact(below_size zq0):w.heap.size≤gb135));have n3_:=zM ((by rw[hg];exact(below_size zq0):w.heap.size≤gb135));clear HB;have HB:=n0_;have BK135:=n1_;have GW135:=n2_;have GE135:=n3_;clear n0_ n1_ n2_ n3_;clear hb hbox hg)|((with_reducible refine gate_callee (f:=60) rfl ?_);refine goesL_ (some 4) rfl rfl Try.func60 (by kernel_rfl) rfl #[.slice A0 l0.length c0] rfl zq4 ?_;(with_reducible refine(spec_l1Source.calls _ _ l0 t136 t137 w _ ?side1 ?side2 ?side3 A2.out).mono ?_);(case side1=>repeat (first|(with_reducible first|exact HB.out|apply below_alloc|apply pw_below_drewN|apply below_drew1|refine below_set ?_ GE135.out)|exact HB.out));(case side2=>exact HR0.out);(case side3=>exact HC0.out);rintro e w5 ⟨g138,rfl,hi,hb,hb2⟩;refine⟨_,rfl,?_⟩;have n0_:=zM (blk_below (g:=gb135) (o:=.cells #[.int .i64 0,.slice none 0 0] 25 (0,0)) zq170 hb2);have n1_:=zM (hb);have n2_:=zM (hi);have n3_:=zM (IsS112.ne_blk hi (blk_below (g:=gb135) (o:=.cells #[.int .i64 0,.slice none 0 0] 25 (0,0)) zq170 hb2) zq16);have n4_:=zM (Ne.symm (IsS112.ne_blk hi (blk_below (g:=gb135) (o:=.cells #[.int .i64 0,.slice none 0 0] 25 (0,0)) zq170 hb2) zq16));clear BK135;clear HB;have BK135:=n0_;have HB:=n1_;have HI138:=n2_;have NB138_135:=n3_;have NB135_138:=n4_;clear n0_ n1_ n2_ n3_ n4_;(try clear hb);(try clear hb2);(try clear hk);(try clear hi))|((with_reducible refine gate_callee (f:=59) rfl ?_);refine goesL_ (some 5) rfl rfl Try.func59 (by kernel_rfl) rfl #[.pointer (some ⟨g138,0,none⟩)] rfl zq4 ?_;(with_reducible refine(spec_l4Some.calls k g138 t136 t137 t139 t140 t143 w _ ?side1 ?side2 A3.out).mono ?_);(case side1=>repeat (first|(with_reducible first|exact HI138.out|apply IsS112.alloc|apply IsS112.drewN|apply IsS112.drew|apply IsS112.set_1|refine IsS112.far ?_ NB138_135.out _)|exact HI138.out));(case side2=>repeat (first|(with_reducible first|exact HB.out|apply below_alloc|apply pw_below_drewN|apply below_drew1|refine below_set ?_ (IsS112.ge HI138.out)|refine below_set ?_ GE135.out)|exact HB.out));rintro e w6 ⟨v141,rfl,ho0,hi,hb,hk⟩;refine⟨_,rfl,?_⟩;have n0_:=zM (KeepBut.blk hk (g':=gb135) (o:=.cells #[.int .i64 0,.slice none 0 0] 25 (0,0)) zq170 NB135_138.out zq101);have n1_:=zM (Kd.Q_lower ho0 (below_size (by repeat (first|(with_reducible first|exact HB.out|apply below_alloc|apply pw_below_drewN|apply below_drew1|refine below_set ?_ (IsS112.ge HI138.out)|refine below_set ?_ GE135.out)|exact HB.out))));have n2_:=zM (hb);have n3_:=zM (hi);clear BK135;clear HB;clear HI138;have BK135:=n0_;have HO142:=n1_;have HB:=n2_;have HI138:=n3_;clear n0_ n1_ n2_ n3_;(try clear hb);(try clear hb2);(try clear hk);(try clear hi);(try clear ho0);have hnb7:=NB135_138.out;have hnc7:=NB138_135.out;have hcz8_0:w6.cell? ⟨gb135,0,none⟩=some (.int .i64 0):=(blk_cell BK135.out 0).trans rfl;have hcz8_1:w6.cell? ⟨gb135,1,none⟩=some (.slice none 0 0):=(blk_cell BK135.out 1).trans rfl;have hfz8_0:=blk_frozen BK135.out 0;have hfz8_1:=blk_frozen BK135.out 1;obtain⟨Ao9,co9,eo9,_⟩:=Kd.Q_slice HO142.out;subst eo9))
 refine bodyPost_ret (results_cell_row rfl _ _ gb135 25 #[.int .i64 t139,.slice Ao9 t140.length co9] (0,0) _ rfl (by(with_reducible repeat (first|refine blk_drewN ?_ _|refine blk_drew ?_|refine blk_alloc ?_ _));refine blk_put (cs:=#[.int .i64 t139,.slice none 0 0]) ?_ 1 _ rfl;(with_reducible repeat (first|refine blk_drewN ?_ _|refine blk_drew ?_|refine blk_alloc ?_ _));refine blk_put (cs:=#[.int .i64 0,.slice none 0 0]) ?_ 0 _ rfl;(with_reducible repeat (first|refine blk_drewN ?_ _|refine blk_drew ?_|refine blk_alloc ?_ _));exact BK135.out) Try.underlying25 rfl (by kernel_rfl)) rfl ?_
 exact⟨_,zq13,by(with_reducible repeat (first|apply Kd.Q_alloc|apply Kd.Q_drewN|apply Kd.Q_drew));exact Kd.Q_mono (Kd.Q_far (p:=⟨gb135,1,none⟩) (Kd.Q_far (p:=⟨gb135,0,none⟩) (Kd.Q_types HO142.out BK135.out zq16) (fun _ hk=>hk.2) (.int .i64 t139)) (fun _ hk=>hk.2) (.slice Ao9 t140.length co9)) (fun _ hk=>trivial),by repeat (first|(with_reducible first|exact HB.out|apply below_alloc|apply pw_below_drewN|apply below_drew1|refine below_set ?_ (IsS112.ge HI138.out)|refine below_set ?_ GE135.out)|exact HB.out)⟩
def impl_in.f (a0:Int) (a1:Int) (a2:Int):Option (Bool):=if a0 ≥ a1 then (some (decide (a0≤a2))) else (some false)
set_option maxHeartbeats 8000000 in
set_option maxRecDepth 100000 in
theorem impl_in.calls (a0:Int) (a1:Int) (a2:Int) (r:Bool) (w:World) (h:impl_in.f a0 a1 a2=some r) :
  Calls Try.prog 65 #[.int .i64 a0,.int .i64 a1,.int .i64 a2] w fun e w'=>e=.returned (.bool r)∧Drawn0 w w':=by
 have H:(if a0 ≥ a1 then (some (decide (a0≤a2))) else (some false))=some r:=h
 clear h
 by_cases c4:a0 ≥ a1
 ·rw[if_pos c4] at H
  have c4b0:decide (a1≤a0)=true:=decide_eq_true c4
  clear c4
  obtain rfl:=Option.some.inj H
  go_enter Try.func65,Try.ntmps65
  go_wp2
  go_ret
  exact⟨zq89,zq174⟩
 ·rw[if_neg c4] at H
  have c4b0:decide (a1≤a0)=false:=decide_eq_false c4
  clear c4
  obtain rfl:=Option.some.inj H
  go_enter Try.func65,Try.ntmps65
  go_wp2
  go_ret
  exact⟨zq89,zq174⟩
end Go.Proofs.Ytmnhddedcbkpoaa.All
