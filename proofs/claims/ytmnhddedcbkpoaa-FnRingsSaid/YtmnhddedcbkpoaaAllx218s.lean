-- Laid by wip/shake.py of this repo out of this claim's texts. Not trusted: Lean checks it.
import Derived.Test.YtmnhddedcbkpoaaAb0s
import Derived.Test.YtmnhddedcbkpoaaBytes
import Derived.Test.YtmnhddedcbkpoaaAllx6s
import Derived.Test.YtmnhddedcbkpoaaAllx21s
import Derived.Test.YtmnhddedcbkpoaaAllx24s
import Derived.Test.YtmnhddedcbkpoaaAllx571s
namespace Go.Proofs.Ytmnhddedcbkpoaa.All
open Go.Proofs.YtmnhddedcbkpoaaW.PrintWords.Aside0 renaming mk→zM
open Go.RowKit Go.Proofs.YtmnhddedcbkpoaaW.PrintWords Go.Proofs.YtmnhddedcbkpoaaW.PrintLast Go.Proofs.YtmnhddedcbkpoaaW.PrintMore
attribute [local go_sem] max2_int min2_int max_two min_two max_three min_three max_four min_four
set_option linter.unusedVariables false
set_option linter.unusedSimpArgs false
def spec_DrawFindKey.f (k:Nat) (l0:List Int):Option (Int × (List (S25)) × Int):=(spec_l1Source.f l0).bind fun bt512=>((spec_l4Bent.f k bt512.1 bt512.2).bind fun bt515=>((spec_l1Pick.f bt512.1 bt515.2.2 (([1,2,3,4,5,6,0]:List Int))).bind fun bt523=>(some (bt515.1,bt515.2.1,bt523.1))))
theorem spec_DrawFindKey.mono:∀ a0 k,LeO (spec_DrawFindKey.f k a0) (spec_DrawFindKey.f (k+1) a0):=by
 intro a0 k
 unfold spec_DrawFindKey.f
 repeat' first
   | (with_reducible exact spec_l4Bent.mono _ _ _)
   | (with_reducible exact LeO.refl _)
   | (with_reducible exact LeO.none _)
   | (with_reducible refine LeO.ite ?_ ?_)
   | (with_reducible refine LeO.bind ?_ (fun _=>?_))
   | exact spec_l4Bent.mono _ _ _
   | exact LeO.none _
   | refine LeO.ite ?_ ?_
   | refine LeO.bind ?_ (fun _=>?_)
set_option maxHeartbeats 8000000 in
set_option maxRecDepth 100000 in
theorem spec_DrawFindKey.calls (k:Nat) (A0:Option Addr) (c0:Nat) (l0:List Int) (r1:Int) (r2:List (S25)) (r3:Int) (w:World) (hr0:Kd.C (Kd.int .u8) w A0 l0.length l0) (hc0:l0.length≤c0) (h:spec_DrawFindKey.f k l0=some (r1,r2,r3)) :
  Calls Try.prog 90 #[.slice A0 l0.length c0] w fun e w'=>∃ v1_:Value,e=.returned (.tuple #[.agg #[.int .i64 r1,v1_],.int .i64 r3])∧Kd.V k25 25 w' w.heap.size (fun k_=>(w.heap.size≤k_)) v1_ r2∧Below w.heap.size w w':=by
 have hu29:=Try.underlying29
 have HR0:=zM hr0
 have HC0:=zM hc0
 clear hr0 hc0
 have HB:=zM (Below.refl w.heap.size w)
 have H:((spec_l1Source.f l0).bind fun bt512=>((spec_l4Bent.f k bt512.1 bt512.2).bind fun bt515=>((spec_l1Pick.f bt512.1 bt515.2.2 (([1,2,3,4,5,6,0]:List Int))).bind fun bt523=>(some (bt515.1,bt515.2.1,bt523.1)))))=some (r1,r2,r3):=h
 clear h
 replace H:=Option.bind_eq_some_iff.mp H
 obtain⟨⟨t512,t513⟩,A20,H⟩:=H
 replace H:((spec_l4Bent.f k t512 t513).bind fun bt515=>((spec_l1Pick.f t512 bt515.2.2 (([1,2,3,4,5,6,0]:List Int))).bind fun bt523=>(some (bt515.1,bt515.2.1,bt523.1))))=some (r1,r2,r3):=H
 have A2:=zM A20
 clear A20
 replace H:=Option.bind_eq_some_iff.mp H
 obtain⟨⟨t515,t516,t519⟩,A30,H⟩:=H
 replace H:((spec_l1Pick.f t512 t519 (([1,2,3,4,5,6,0]:List Int))).bind fun bt523=>(some (t515,t516,bt523.1)))=some (r1,r2,r3):=H
 have A3:=zM A30
 clear A30
 obtain⟨y520,hy520⟩:∃ y_:List Int,y_=(([1,2,3,4,5,6,0]:List Int)):=⟨_,rfl⟩
 replace H:((spec_l1Pick.f t512 t519 y520).bind fun bt523=>(some (t515,t516,bt523.1)))=some (r1,r2,r3):=by first|(rw[hy520];with_reducible exact H)|(have H2_:=(Option.bind_some _ _).symm.trans H;rw[hy520];with_reducible exact H2_)|(have H2_:=(Option.bind_some _ _).symm.trans H;with_reducible exact H2_)|with_reducible exact H|(rw[hy520];exact H)|exact H
 have Ny520:=zM hy520
 clear hy520
 replace H:=Option.bind_eq_some_iff.mp H
 obtain⟨⟨t523,t524⟩,A40,H⟩:=H
 replace H:(some (t515,t516,t523))=some (r1,r2,r3):=H
 have A4:=zM A40
 clear A40
 simp only[Option.some.injEq,Prod.mk.injEq] at H
 obtain⟨rfl,rfl,rfl⟩:=H
 go_enter Try.func90,Try.ntmps90
 go_wp2_with (first|((with_reducible refine gate_dst (N:=2) rfl ?_);refine box_event ?hg (N:=2) ?hd (cs:=#[.int .i64 0,.slice none 0 0]) (t:=29) ?hr ?_;(case hd=>rfl);(case hg=>rfl);(case hr=>first|(go_simp;done)|(go_simp;rfl));intro gb511 hg w5 hbox hb;have n0_:=zM (below_step zq0 hb);have n1_:=zM (hbox);have n2_:=zM ((by rw[hg];exact(below_size zq0):w.heap.size≤gb511));have n3_:=zM ((by rw[hg];exact(below_size zq0):w.heap.size≤gb511));clear HB;have HB:=n0_;have BK511:=n1_;have GW511:=n2_;have GE511:=n3_;clear n0_ n1_ n2_ n3_;clear hb hbox hg)|((with_reducible refine gate_callee (f:=60) rfl ?_);refine goesL_ (some 6) rfl rfl Try.func60 (by kernel_rfl) rfl #[.slice A0 l0.length c0] rfl zq5 ?_;(with_reducible refine(spec_l1Source.calls _ _ l0 t512 t513 w _ ?side1 ?side2 ?side3 A2.out).mono ?_);(case side1=>repeat (first|(with_reducible first|exact HB.out|apply below_alloc|apply pw_below_drewN|apply below_drew1|refine below_set ?_ GE511.out)|exact HB.out));(case side2=>exact HR0.out);(case side3=>exact HC0.out);rintro e w6 ⟨g514,rfl,hi,hb,hb2⟩;refine⟨_,rfl,?_⟩;have n0_:=zM (blk_below (g:=gb511) (o:=.cells #[.int .i64 0,.slice none 0 0] 29 (0,0)) zq52 hb2);have n1_:=zM (hb);have n2_:=zM (hi);have n3_:=zM (IsS112.ne_blk hi (blk_below (g:=gb511) (o:=.cells #[.int .i64 0,.slice none 0 0] 29 (0,0)) zq52 hb2) zq17);have n4_:=zM (Ne.symm (IsS112.ne_blk hi (blk_below (g:=gb511) (o:=.cells #[.int .i64 0,.slice none 0 0] 29 (0,0)) zq52 hb2) zq17));clear BK511;clear HB;have BK511:=n0_;have HB:=n1_;have HI514:=n2_;have NB514_511:=n3_;have NB511_514:=n4_;clear n0_ n1_ n2_ n3_ n4_;(try clear hb);(try clear hb2);(try clear hk);(try clear hi))|((with_reducible refine gate_callee (f:=62) rfl ?_);refine goesL_ (some 8) rfl rfl Try.func62 (by kernel_rfl) rfl #[.pointer (some ⟨g514,0,none⟩)] rfl zq5 ?_;(with_reducible refine(spec_l4Bent.calls k g514 t512 t513 t515 t516 t519 w _ ?side1 ?side2 A3.out).mono ?_);(case side1=>exact zq95);(case side2=>exact zq44);rintro e w7 ⟨v517,rfl,ho0,hi,hb,hk⟩;refine⟨_,rfl,?_⟩;have n0_:=zM (KeepBut.blk hk (g':=gb511) (o:=.cells #[.int .i64 0,.slice none 0 0] 29 (0,0)) zq52 NB511_514.out zq58);have n1_:=zM (Kd.V_lower (Kd.V_mono (ok':=fun k_=>(w.heap.size≤k_)∧k_≠gb511∧k_≠g514) ho0 (fun k_ hk_=>⟨(Nat.le_trans (below_size zq44) hk_),(Kd.freshB (g:=gb511) (o:=.cells #[.int .i64 0,.slice none 0 0] 29 (0,0)) zq52 k_ hk_),(IsS112.fresh zq95 k_ hk_)⟩)) (below_size zq44));have n2_:=zM (hb);have n3_:=zM (hi);clear BK511;clear HB;clear HI514;have BK511:=n0_;have HO518:=n1_;have HB:=n2_;have HI514:=n3_;clear n0_ n1_ n2_ n3_;(try clear hb);(try clear hb2);(try clear hk);(try clear hi);(try clear ho0))|((with_reducible refine gate_dst (N:=10) rfl ?_);refine Kd.R_lit (Kd.int .i64) _ 2 ?hg (N:=10) ?hd (xs:=([1,2,3,4,5,6,0]:List Int)) (inner:=[.int .i64 1,.int .i64 2,.int .i64 3,.int .i64 4,.int .i64 5,.int .i64 6,.int .i64 0]) (ok:=fun _=>True) (okp:=fun _=>True) ?hr ?hp (fun _ hk=>hk) trivial (Below.refl _ _) (Nat.le_refl _) zq58 ?_;(case hd=>rfl);(case hg=>rfl);(case hr=>first|(go_simp;done)|(go_simp;rfl));(case hp=>exact(Reps.one (show Kd.M (Kd.int .i64) _ _ _ 1 [.int .i64 1] from rfl) (Reps.one (show Kd.M (Kd.int .i64) _ _ _ 2 [.int .i64 2] from rfl) (Reps.one (show Kd.M (Kd.int .i64) _ _ _ 3 [.int .i64 3] from rfl) (Reps.one (show Kd.M (Kd.int .i64) _ _ _ 4 [.int .i64 4] from rfl) (Reps.one (show Kd.M (Kd.int .i64) _ _ _ 5 [.int .i64 5] from rfl) (Reps.one (show Kd.M (Kd.int .i64) _ _ _ 6 [.int .i64 6] from rfl) (Reps.one (show Kd.M (Kd.int .i64) _ _ _ 0 [.int .i64 0] from rfl) (Reps.none _ _)))))))));intro v521 w8 ho9 hb hg_ hnew_;clear hg_ hnew_;(first|rw[← Ny520.out] at ho9|(simp only[Int.reduceToNat] at ho9;rw[← Ny520.out] at ho9));have n0_:=zM (Kd.V_elder' (by(with_reducible repeat (first|apply Kd.V_alloc|apply Kd.V_drewN|apply Kd.V_drew));exact HO518.out) (Kd.R_base ho9) hb);have n1_:=zM (Kd.R_lower (Kd.R_newM (M:=fun k_=>(w.heap.size≤k_)) ho9 (below_size zq44) (fun k_ h_=>h_)) (below_size zq44));have n2_:=zM (blk_below (g:=gb511) (o:=.cells #[.int .i64 0,.slice none 0 0] 29 (0,0)) zq52 hb);have n3_:=zM (IsS112.below zq95 hb);have n4_:=zM (below_step zq44 hb);clear HO518;clear BK511;clear HI514;clear HB;have HO518:=n0_;have HO522:=n1_;have BK511:=n2_;have HI514:=n3_;have HB:=n4_;clear n0_ n1_ n2_ n3_ n4_;clear hb ho9;obtain⟨Ao10,co10,eo10⟩:=Kd.R_slice HO522.out;subst eo10)|((with_reducible refine gate_callee (f:=63) rfl ?_);refine goesL_ (some 11) rfl rfl Try.func63 (by kernel_rfl) rfl #[.pointer (some ⟨g514,0,none⟩),.slice Ao10 y520.length co10] rfl zq5 ?_;(with_reducible refine(spec_l1Pick.calls g514 t512 t519 _ _ y520 t523 t524 w _ ?side1 ?side2 ?side3 ?side4 ?side5 A4.out).mono ?_);(case side1=>exact zq95);(case side2=>exact zq44);(case side3=>repeat (first|exact(Kd.R_reads' HO522.out).2.2|(with_reducible refine Kd.C_alloc ?_ _)|(with_reducible refine Kd.C_drewN ?_ _)|(with_reducible refine Kd.C_drew ?_)));(case side4=>exact(Kd.R_reads' HO522.out).2.1);(case side5=>exact far_slice (IsS112.own_ne HI514.out HO522.out zq17));rintro e w11 ⟨rfl,hi,hb,hk⟩;refine⟨_,rfl,?_⟩;have n0_:=zM (KeepBut.blk hk (g':=gb511) (o:=.cells #[.int .i64 0,.slice none 0 0] 29 (0,0)) zq52 NB511_514.out zq58);have n1_:=zM (Kd.V_mono (Kd.V_keep (Kd.V_mono (ok:=fun k_=>((((w.heap.size≤k_))∧(k_≠gb511∧k_≠g514))∧some k_≠(.slice Ao10 y520.length co10:Value).ownBlock)) (by(with_reducible repeat (first|apply Kd.V_alloc|apply Kd.V_drewN|apply Kd.V_drew));exact HO518.out) (fun k_ hk_=>(⟨hk_,hk_.1.2.2⟩:_∧k_≠g514))) hk (fun _ h=>h.2)) (fun _ h=>h.1));have n2_:=zM (Kd.R_mono (Kd.R_keep (IsS112.apart (show IsS112 w _ g514 t512 t519 from by repeat (first|(with_reducible first|exact HI514.out|apply IsS112.alloc|apply IsS112.drewN|apply IsS112.drew|apply IsS112.set_1|refine IsS112.far ?_ NB514_511.out _)|exact HI514.out)) (by(with_reducible repeat (first|apply Kd.R_alloc|apply Kd.R_drewN|apply Kd.R_drew));exact HO522.out) zq17) hk (fun _ h=>h.2)) (fun _ h=>h.1));have n3_:=zM (hb);have n4_:=zM (hi);clear BK511;clear HO518;clear HO522;clear HB;clear HI514;have BK511:=n0_;have HO518:=n1_;have HO522:=n2_;have HB:=n3_;have HI514:=n4_;clear n0_ n1_ n2_ n3_ n4_;(try clear hb);(try clear hb2);(try clear hk);(try clear hi);have hnb12:=NB511_514.out;have hnc12:=NB514_511.out;have hcz13_0:w11.cell? ⟨gb511,0,none⟩=some (.int .i64 0):=(blk_cell BK511.out 0).trans rfl;have hcz13_1:w11.cell? ⟨gb511,1,none⟩=some (.slice none 0 0):=(blk_cell BK511.out 1).trans rfl;have hfz13_0:=blk_frozen BK511.out 0;have hfz13_1:=blk_frozen BK511.out 1;obtain⟨Ao14,co14,eo14⟩:=Kd.V_slice HO518.out;subst eo14))
 refine bodyPost_ret (results_ct rfl _ _ gb511 29 #[.int .i64 t515,.slice Ao14 t516.length co14] (0,0) _ rfl (by(with_reducible repeat (first|refine blk_drewN ?_ _|refine blk_drew ?_|refine blk_alloc ?_ _));refine blk_put (cs:=#[.int .i64 t515,.slice none 0 0]) ?_ 1 _ rfl;(with_reducible repeat (first|refine blk_drewN ?_ _|refine blk_drew ?_|refine blk_alloc ?_ _));refine blk_put (cs:=#[.int .i64 0,.slice none 0 0]) ?_ 0 _ rfl;(with_reducible repeat (first|refine blk_drewN ?_ _|refine blk_drew ?_|refine blk_alloc ?_ _));exact BK511.out) Try.underlying29 rfl (by kernel_rfl)) rfl ?_
 exact⟨_,zq10,by(with_reducible repeat (first|apply Kd.V_alloc|apply Kd.V_drewN|apply Kd.V_drew));exact Kd.V_mono (Kd.V_far (p:=⟨gb511,1,none⟩) (Kd.V_far (p:=⟨gb511,0,none⟩) (Kd.V_mono HO518.out (fun k_ hk=>(⟨hk,hk.1.2.1⟩:_∧k_≠gb511))) (fun _ hk=>hk.2) (.int .i64 t515)) (fun _ hk=>hk.2) (.slice Ao14 t516.length co14)) (fun _ hk=>hk.1.1.1),by repeat (first|(with_reducible first|exact HB.out|apply below_alloc|apply pw_below_drewN|apply below_drew1|refine below_set ?_ (IsS112.ge HI514.out)|refine below_set ?_ GE511.out)|exact HB.out)⟩
def spec_DrawRemoveKey.f (k:Nat) (l0:List Int):Option (Int × (List (S25)) × Int):=(spec_DrawFindKey.f k l0).bind fun bt526=>(some (bt526.1,bt526.2.1,bt526.2.2))
theorem spec_DrawRemoveKey.mono:∀ a0 k,LeO (spec_DrawRemoveKey.f k a0) (spec_DrawRemoveKey.f (k+1) a0):=by
 intro a0 k
 unfold spec_DrawRemoveKey.f
 repeat' first
   | (with_reducible exact spec_DrawFindKey.mono _ _)
   | (with_reducible exact LeO.refl _)
   | (with_reducible exact LeO.none _)
   | (with_reducible refine LeO.ite ?_ ?_)
   | (with_reducible refine LeO.bind ?_ (fun _=>?_))
   | exact spec_DrawFindKey.mono _ _
   | exact LeO.none _
   | refine LeO.ite ?_ ?_
   | refine LeO.bind ?_ (fun _=>?_)
set_option maxHeartbeats 8000000 in
set_option maxRecDepth 100000 in
theorem spec_DrawRemoveKey.calls (k:Nat) (A0:Option Addr) (c0:Nat) (l0:List Int) (r1:Int) (r2:List (S25)) (r3:Int) (w:World) (hr0:Kd.C (Kd.int .u8) w A0 l0.length l0) (hc0:l0.length≤c0) (h:spec_DrawRemoveKey.f k l0=some (r1,r2,r3)) :
  Calls Try.prog 50 #[.slice A0 l0.length c0] w fun e w'=>∃ v1_:Value,e=.returned (.tuple #[.agg #[.int .i64 r1,v1_],.int .i64 r3])∧Kd.V k25 25 w' w.heap.size (fun k_=>(w.heap.size≤k_)) v1_ r2∧Below w.heap.size w w':=by
 have hu29:=Try.underlying29
 have HR0:=zM hr0
 have HC0:=zM hc0
 clear hr0 hc0
 have HB:=zM (Below.refl w.heap.size w)
 have H:((spec_DrawFindKey.f k l0).bind fun bt526=>(some (bt526.1,bt526.2.1,bt526.2.2)))=some (r1,r2,r3):=h
 clear h
 replace H:=Option.bind_eq_some_iff.mp H
 obtain⟨⟨t526,t527,t530⟩,A20,H⟩:=H
 replace H:(some (t526,t527,t530))=some (r1,r2,r3):=H
 have A2:=zM A20
 clear A20
 simp only[Option.some.injEq,Prod.mk.injEq] at H
 obtain⟨rfl,rfl,rfl⟩:=H
 go_enter Try.func50,Try.ntmps50
 go_wp2_with (first|((with_reducible refine gate_dst (N:=2) rfl ?_);refine box_event ?hg (N:=2) ?hd (cs:=#[.int .i64 0,.slice none 0 0]) (t:=29) ?hr ?_;(case hd=>rfl);(case hg=>rfl);(case hr=>first|(go_simp;done)|(go_simp;rfl));intro gb525 hg w3 hbox hb;have n0_:=zM (below_step zq0 hb);have n1_:=zM (hbox);have n2_:=zM ((by rw[hg];exact(below_size zq0):w.heap.size≤gb525));have n3_:=zM ((by rw[hg];exact(below_size zq0):w.heap.size≤gb525));clear HB;have HB:=n0_;have BK525:=n1_;have GW525:=n2_;have GE525:=n3_;clear n0_ n1_ n2_ n3_;clear hb hbox hg)|((with_reducible refine gate_callee (f:=90) rfl ?_);refine goesL_ (some 5) rfl rfl Try.func90 (by kernel_rfl) rfl #[.slice A0 l0.length c0] rfl zq5 ?_;(with_reducible refine(spec_DrawFindKey.calls k _ _ l0 t526 t527 t530 _ ?side1 ?side2 A2.out).mono ?_);(case side1=>repeat (first|exact(Kd.C_below HR0.out HB.out)|(with_reducible refine Kd.C_alloc ?_ _)|(with_reducible refine Kd.C_drewN ?_ _)|(with_reducible refine Kd.C_drew ?_)));(case side2=>exact HC0.out);rintro e w4 ⟨v528,rfl,ho0,hb⟩;refine⟨_,rfl,?_⟩;have n0_:=zM (Kd.V_lower (Kd.V_mono (ok':=fun k_=>(w.heap.size≤k_)∧k_≠gb525) ho0 (fun k_ hk_=>⟨(Nat.le_trans (below_size zq81) hk_),(Kd.freshB (g:=gb525) (o:=.cells #[.int .i64 0,.slice none 0 0] 29 (0,0)) zq106 k_ hk_)⟩)) (below_size zq81));have n1_:=zM (blk_below (g:=gb525) (o:=.cells #[.int .i64 0,.slice none 0 0] 29 (0,0)) zq106 hb);have n2_:=zM (below_step zq81 hb);clear BK525;clear HB;have HO529:=n0_;have BK525:=n1_;have HB:=n2_;clear n0_ n1_ n2_;(try clear hb);(try clear hb2);(try clear hk);(try clear hi);(try clear ho0);have hcz5_0:w4.cell? ⟨gb525,0,none⟩=some (.int .i64 0):=(blk_cell BK525.out 0).trans rfl;have hcz5_1:w4.cell? ⟨gb525,1,none⟩=some (.slice none 0 0):=(blk_cell BK525.out 1).trans rfl;have hfz5_0:=blk_frozen BK525.out 0;have hfz5_1:=blk_frozen BK525.out 1;obtain⟨Ao6,co6,eo6⟩:=Kd.V_slice HO529.out;subst eo6))
 refine bodyPost_ret (results_ct rfl _ _ gb525 29 #[.int .i64 t526,.slice Ao6 t527.length co6] (0,0) _ rfl (by(with_reducible repeat (first|refine blk_drewN ?_ _|refine blk_drew ?_|refine blk_alloc ?_ _));refine blk_put (cs:=#[.int .i64 t526,.slice none 0 0]) ?_ 1 _ rfl;(with_reducible repeat (first|refine blk_drewN ?_ _|refine blk_drew ?_|refine blk_alloc ?_ _));refine blk_put (cs:=#[.int .i64 0,.slice none 0 0]) ?_ 0 _ rfl;(with_reducible repeat (first|refine blk_drewN ?_ _|refine blk_drew ?_|refine blk_alloc ?_ _));exact BK525.out) Try.underlying29 rfl (by kernel_rfl)) rfl ?_
 exact⟨_,zq10,by(with_reducible repeat (first|apply Kd.V_alloc|apply Kd.V_drewN|apply Kd.V_drew));exact Kd.V_mono (Kd.V_far (p:=⟨gb525,1,none⟩) (Kd.V_far (p:=⟨gb525,0,none⟩) (Kd.V_mono HO529.out (fun k_ hk=>(⟨hk,hk.2⟩:_∧k_≠gb525))) (fun _ hk=>hk.2) (.int .i64 t526)) (fun _ hk=>hk.2) (.slice Ao6 t527.length co6)) (fun _ hk=>hk.1.1),by repeat (first|(with_reducible first|exact HB.out|apply below_alloc|apply pw_below_drewN|apply below_drew1|refine below_set ?_ GE525.out)|exact HB.out)⟩
end Go.Proofs.Ytmnhddedcbkpoaa.All
