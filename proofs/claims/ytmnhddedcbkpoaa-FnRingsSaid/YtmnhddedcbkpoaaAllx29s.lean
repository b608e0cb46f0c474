-- Laid by wip/shake.py of this repo out of this claim's texts. Not trusted: Lean checks it.
import Derived.Test.YtmnhddedcbkpoaaAb0s
import Derived.Test.YtmnhddedcbkpoaaBytes
import Derived.Test.YtmnhddedcbkpoaaAllx6s
import Derived.Test.YtmnhddedcbkpoaaAllx21s
namespace Go.Proofs.Ytmnhddedcbkpoaa.All
open Go.Proofs.YtmnhddedcbkpoaaW.PrintWords.Aside0 renaming mk→zM
open Go.RowKit Go.Proofs.YtmnhddedcbkpoaaW.PrintWords Go.Proofs.YtmnhddedcbkpoaaW.PrintLast Go.Proofs.YtmnhddedcbkpoaaW.PrintMore
attribute [local go_sem] max2_int min2_int max_two min_two max_three min_three max_four min_four
set_option linter.unusedVariables false
set_option linter.unusedSimpArgs false
def spec_l4Draw.l0:Nat→Int→Int→List Int→Int→Int→List (S25)→Option (Int × (List (S25)) × Int)
 | 0,_,_,_,_,_,_=>none
 | k+1,x4,x5,x1000,x1001,x174000,x174001=>if x5 > 0 then ((spec_l4Bytes.f k x4).bind fun t184=>(if x174001.length < 4398046511104 then ((spec_l1Next.f x1000 x1001 2).bind fun bt190=>(spec_l4Draw.l0 k (wrap64 ((wrap64 (x4+1))+bt190.1)) (wrap64 (x5 - 1)) x1000 bt190.2 x174000 (x174001 ++ [(⟨x4,t184⟩:S25)]))) else (none))) else ((spec_l1Next.f x1000 x1001 (x174001.length:Int)).bind fun bt192=>(if 0≤bt192.1 then (if bt192.1 < (x174001.length:Int) then (some ((rd_T25 x174001 bt192.1).f0,x174001,bt192.2)) else (none)) else (none)))
def spec_l4Draw.f (k:Nat) (s0_0:List Int) (s0_1:Int):Option (Int × (List (S25)) × Int):=(spec_l1Pick.f s0_0 s0_1 (([1,2,5]:List Int))).bind fun bt177=>((spec_l1Pick.f s0_0 bt177.2 (([1,2,2,3]:List Int))).bind fun bt182=>(spec_l4Draw.l0 k bt177.1 bt182.1 s0_0 bt182.2 0 ([]:List (S25))))
theorem spec_l4Draw.mono_l:∀ k,(∀ y0 y1 y2 y3 y4 y5,LeO (spec_l4Draw.l0 k y0 y1 y2 y3 y4 y5) (spec_l4Draw.l0 (k+1) y0 y1 y2 y3 y4 y5))
 | 0=>fun _ _ _ _ _ _ r h=>by simp[spec_l4Draw.l0] at h
 | k+1=>by
  have ih0:=spec_l4Draw.mono_l k
  ·intro y0 y1 y2 y3 y4 y5
   unfold spec_l4Draw.l0
   repeat' first
   | (with_reducible exact ih0 _ _ _ _ _ _)
   | (with_reducible exact spec_l4Bytes.mono _ _)
   | (with_reducible exact LeO.refl _)
   | (with_reducible exact LeO.none _)
   | (with_reducible refine LeO.ite ?_ ?_)
   | (with_reducible refine LeO.bind ?_ (fun _=>?_))
   | exact ih0 _ _ _ _ _ _
   | exact spec_l4Bytes.mono _ _
   | exact LeO.none _
   | refine LeO.ite ?_ ?_
   | refine LeO.bind ?_ (fun _=>?_)
theorem spec_l4Draw.mono:∀ a0 a1 k,LeO (spec_l4Draw.f k a0 a1) (spec_l4Draw.f (k+1) a0 a1):=by
 intro a0 a1 k
 have ih0:=spec_l4Draw.mono_l k
 unfold spec_l4Draw.f
 repeat' first
   | (with_reducible exact ih0 _ _ _ _ _ _)
   | (with_reducible exact spec_l4Bytes.mono _ _)
   | (with_reducible exact LeO.refl _)
   | (with_reducible exact LeO.none _)
   | (with_reducible refine LeO.ite ?_ ?_)
   | (with_reducible refine LeO.bind ?_ (fun _=>?_))
   | exact ih0 _ _ _ _ _ _
   | exact spec_l4Bytes.mono _ _
   | exact LeO.none _
   | refine LeO.ite ?_ ?_
   | refine LeO.bind ?_ (fun _=>?_)
def spec_l4Draw.T6:Bool × List (List Nat × List Nat):=(true,[([],[]),([0],[0]),([],[]),([],[]),([3],[3]),([2,4],[2,4]),([5],[5]),([1,6,4],[1,6]),([0,1,2,3,4,5,6,7],[]),([8,7,7,0,1,2,3,4,5,6,7],[7,8])])
def spec_l4Draw.B6:List Nat:=[0,1,0,0,8,28,60,127,255,511]
theorem spec_l4Draw.tab6:rtab .any (opsOf Try.f66 6)=spec_l4Draw.T6:=by kernel_rfl
theorem spec_l4Draw.bits6:waitsOk spec_l4Draw.T6.2 spec_l4Draw.B6=true:=by kernel_rfl
def spec_l4Draw.T8:Bool × List (List Nat × List Nat):=(true,[([],[]),([0],[0]),([],[]),([],[]),([3],[3]),([4],[4]),([2,5],[2,5]),([1,6],[1,6]),([7],[7]),([8],[8]),([0,1,2,3,4,5,6,7,8,9],[]),([10,9,6,0,1,2,3,4,5,6,7,8,9],[9,10])])
def spec_l4Draw.B8:List Nat:=[0,1,0,0,8,24,60,127,255,511,1023,2047]
theorem spec_l4Draw.tab8:rtab .any (opsOf Try.f66 8)=spec_l4Draw.T8:=by kernel_rfl
theorem spec_l4Draw.bits8:waitsOk spec_l4Draw.T8.2 spec_l4Draw.B8=true:=by kernel_rfl
set_option maxHeartbeats 8000000 in
set_option maxRecDepth 100000 in
theorem spec_l4Draw.calls (k:Nat) (g:Nat) (s0_0:List Int) (s0_1:Int) (r1:Int) (r2:List (S25)) (r3:Int) (w0 w:World) (hI:IsS112 w0 w g s0_0 s0_1) (hB:Below w0.heap.size w0 w) (h:spec_l4Draw.f k s0_0 s0_1=some (r1,r2,r3)) :
  Calls Try.prog 66 #[.pointer (some ⟨g,0,none⟩)] w fun e w'=>∃ v1_:Value,e=.returned (.agg #[.int .i64 r1,v1_])∧Kd.S k25 25 w' w.heap.size (fun _=>True) v1_ r2∧IsS112 w0 w' g s0_0 r3∧Below w0.heap.size w0 w'∧KeepBut w w' g none:=by
 have hu29:=Try.underlying29
 have hu25:=Try.underlying25
 have HI0:=zM hI
 have HK:=zM (KeepBut.refl w g none)
 have HL:=zM hB.size
 clear hI
 have HW0:=zM hB.size
 have HB:=zM hB
 clear hB
 have H:((spec_l1Pick.f s0_0 s0_1 (([1,2,5]:List Int))).bind fun bt177=>((spec_l1Pick.f s0_0 bt177.2 (([1,2,2,3]:List Int))).bind fun bt182=>(spec_l4Draw.l0 k bt177.1 bt182.1 s0_0 bt182.2 0 ([]:List (S25)))))=some (r1,r2,r3):=h
 clear h
 obtain⟨y174,hy174⟩:∃ y_:List Int,y_=(([1,2,5]:List Int)):=⟨_,rfl⟩
 replace H:((spec_l1Pick.f s0_0 s0_1 y174).bind fun bt177=>((spec_l1Pick.f s0_0 bt177.2 (([1,2,2,3]:List Int))).bind fun bt182=>(spec_l4Draw.l0 k bt177.1 bt182.1 s0_0 bt182.2 0 ([]:List (S25)))))=some (r1,r2,r3):=by first|(rw[hy174];with_reducible exact H)|(have H2_:=(Option.bind_some _ _).symm.trans H;rw[hy174];with_reducible exact H2_)|(have H2_:=(Option.bind_some _ _).symm.trans H;with_reducible exact H2_)|with_reducible exact H|(rw[hy174];exact H)|exact H
 have Ny174:=zM hy174
 clear hy174
 replace H:=Option.bind_eq_some_iff.mp H
 obtain⟨⟨t177,t178⟩,A20,H⟩:=H
 replace H:((spec_l1Pick.f s0_0 t178 (([1,2,2,3]:List Int))).bind fun bt182=>(spec_l4Draw.l0 k t177 bt182.1 s0_0 bt182.2 0 ([]:List (S25))))=some (r1,r2,r3):=H
 have A2:=zM A20
 clear A20
 obtain⟨y179,hy179⟩:∃ y_:List Int,y_=(([1,2,2,3]:List Int)):=⟨_,rfl⟩
 replace H:((spec_l1Pick.f s0_0 t178 y179).bind fun bt182=>(spec_l4Draw.l0 k t177 bt182.1 s0_0 bt182.2 0 ([]:List (S25))))=some (r1,r2,r3):=by first|(rw[hy179];with_reducible exact H)|(have H2_:=(Option.bind_some _ _).symm.trans H;rw[hy179];with_reducible exact H2_)|(have H2_:=(Option.bind_some _ _).symm.trans H;with_reducible exact H2_)|with_reducible exact H|(rw[hy179];exact H)|exact H
 have Ny179:=zM hy179
 clear hy179
 replace H:=Option.bind_eq_some_iff.mp H
 obtain⟨⟨t182,t183⟩,A30,H⟩:=H
 replace H:(spec_l4Draw.l0 k t177 t182 s0_0 t183 0 ([]:List (S25)))=some (r1,r2,r3):=H
 have A3:=zM A30
 clear A30
 have H':=zM H
 clear H
 go_enter Try.func66,Try.ntmps66
 go_wp2_with (first|((with_reducible refine gate_dst (N:=2) rfl ?_);refine box_event ?hg (N:=2) ?hd (cs:=#[.int .i64 0,.slice none 0 0]) (t:=29) ?hr ?_;(case hd=>rfl);(case hg=>rfl);(case hr=>first|(go_simp;done)|(go_simp;rfl));intro gb172 hg w4 hbox hb;have n0_:=zM (IsS112.below zq32 hb);have n1_:=zM (KeepBut.trans zq13 (KeepBut.of_below hb g none) (.inl rfl));have n2_:=zM (below_step zq30 hb);have n3_:=zM (hbox);have n4_:=zM ((by rw[hg];exact(keep_size (w:=w) (g:=g) (row:=none) zq13):w.heap.size≤gb172));have n5_:=zM ((Nat.le_trans HW0.out (by rw[hg];exact(keep_size (w:=w) (g:=g) (row:=none) zq13):w.heap.size≤gb172):w0.heap.size≤gb172));have n6_:=zM ((by rw[hg];exact Nat.ne_of_lt (IsS112.lt (show IsS112 w0 _ g s0_0 s0_1 from by repeat (first|(with_reducible first|exact HI0.out|apply IsS112.alloc|apply IsS112.drewN|apply IsS112.drew|apply IsS112.set_1)|exact HI0.out))):g≠gb172));have n7_:=zM ((by rw[hg];exact Nat.ne_of_gt (IsS112.lt (show IsS112 w0 _ g s0_0 s0_1 from by repeat (first|(with_reducible first|exact HI0.out|apply IsS112.alloc|apply IsS112.drewN|apply IsS112.drew|apply IsS112.set_1)|exact HI0.out))):gb172≠g));clear HI0;clear HK;clear HB;have HI0:=n0_;have HK:=n1_;have HB:=n2_;have BK172:=n3_;have GW172:=n4_;have GE172:=n5_;have NB0_172:=n6_;have NB172_0:=n7_;clear n0_ n1_ n2_ n3_ n4_ n5_ n6_ n7_;clear hb hbox hg)|((with_reducible refine gate_dst (N:=3) rfl ?_);refine box_event ?hg (N:=3) ?hd (cs:=#[.int .i64 0,.slice none 0 0]) (t:=29) ?hr ?_;(case hd=>rfl);(case hg=>rfl);(case hr=>first|(go_simp;done)|(go_simp;rfl));intro gb173 hg w5 hbox hb;have n0_:=zM (IsS112.below (by repeat (first|(with_reducible first|exact HI0.out|apply IsS112.alloc|apply IsS112.drewN|apply IsS112.drew|apply IsS112.set_1|refine IsS112.far ?_ NB0_172.out _)|exact HI0.out)) hb);have n1_:=zM (blk_below (g:=gb172) (o:=.cells #[.int .i64 0,.slice none 0 0] 29 (0,0)) zq41 hb);have n2_:=zM (KeepBut.trans zq76 (KeepBut.of_below hb g none) (.inl rfl));have n3_:=zM (below_step (by repeat (first|(with_reducible first|exact HB.out|apply below_alloc|apply pw_below_drewN|apply below_drew1|refine below_set ?_ (IsS112.ge HI0.out)|refine below_set ?_ GE172.out)|exact HB.out)) hb);have n4_:=zM (hbox);have n5_:=zM ((by rw[hg];exact(keep_size (w:=w) (g:=g) (row:=none) zq76):w.heap.size≤gb173));have n6_:=zM ((Nat.le_trans HW0.out (by rw[hg];exact(keep_size (w:=w) (g:=g) (row:=none) zq76):w.heap.size≤gb173):w0.heap.size≤gb173));have n7_:=zM ((by rw[hg];exact Nat.ne_of_lt (blk_lt (g:=gb172) (o:=.cells #[.int .i64 0,.slice none 0 0] 29 (0,0)) zq41):gb172≠gb173));have n8_:=zM ((by rw[hg];exact Nat.ne_of_gt (blk_lt (g:=gb172) (o:=.cells #[.int .i64 0,.slice none 0 0] 29 (0,0)) zq41):gb173≠gb172));have n9_:=zM ((by rw[hg];exact Nat.ne_of_lt (IsS112.lt (show IsS112 w0 _ g s0_0 s0_1 from by repeat (first|(with_reducible first|exact HI0.out|apply IsS112.alloc|apply IsS112.drewN|apply IsS112.drew|apply IsS112.set_1|refine IsS112.far ?_ NB0_172.out _)|exact HI0.out))):g≠gb173));have n10_:=zM ((by rw[hg];exact Nat.ne_of_gt (IsS112.lt (show IsS112 w0 _ g s0_0 s0_1 from by repeat (first|(with_reducible first|exact HI0.out|apply IsS112.alloc|apply IsS112.drewN|apply IsS112.drew|apply IsS112.set_1|refine IsS112.far ?_ NB0_172.out _)|exact HI0.out))):gb173≠g));clear HI0;clear BK172;clear HK;clear HB;have HI0:=n0_;have BK172:=n1_;have HK:=n2_;have HB:=n3_;have BK173:=n4_;have GW173:=n5_;have GE173:=n6_;have NB172_173:=n7_;have NB173_172:=n8_;have NB0_173:=n9_;have NB173_0:=n10_;clear n0_ n1_ n2_ n3_ n4_ n5_ n6_ n7_ n8_ n9_ n10_;clear hb hbox hg;have hnb6:=NB173_172.out;have hnc6:=NB172_173.out;have hnb7:=NB173_0.out;have hnc7:=NB0_173.out;have hcz8_0:w5.cell? ⟨gb173,0,none⟩=some (.int .i64 0):=(blk_cell BK173.out 0).trans rfl;have hcz8_1:w5.cell? ⟨gb173,1,none⟩=some (.slice none 0 0):=(blk_cell BK173.out 1).trans rfl;have hfz8_0:=blk_frozen BK173.out 0;have hfz8_1:=blk_frozen BK173.out 1)|((with_reducible refine gate_dst (N:=8) rfl ?_);refine Kd.R_lit (Kd.int .i64) _ 2 ?hg (N:=8) ?hd (xs:=([1,2,5]:List Int)) (inner:=[.int .i64 1,.int .i64 2,.int .i64 5]) (ok:=fun _=>True) (okp:=fun _=>True) ?hr ?hp (fun _ hk=>hk) trivial (Below.refl _ _) (Nat.le_refl _) zq58 ?_;(case hd=>rfl);(case hg=>rfl);(case hr=>first|(go_simp;done)|(go_simp;rfl));(case hp=>exact(Reps.one (show Kd.M (Kd.int .i64) _ _ _ 1 [.int .i64 1] from rfl) (Reps.one (show Kd.M (Kd.int .i64) _ _ _ 2 [.int .i64 2] from rfl) (Reps.one (show Kd.M (Kd.int .i64) _ _ _ 5 [.int .i64 5] from rfl) (Reps.none _ _)))));intro v175 w9 ho10 hb hg_ hnew_;clear hg_ hnew_;(first|rw[← Ny174.out] at ho10|(simp only[Int.reduceToNat] at ho10;rw[← Ny174.out] at ho10));have n0_:=zM (Kd.R_lower ho10 (keep_size (w:=w) (g:=g) (row:=none) zq15));have n1_:=zM (IsS112.below (show IsS112 w0 ((w5.setCell ⟨gb173,0,none⟩ (.int .i64 0)).setCell ⟨gb173,1,none⟩ (.slice none 0 0)) g s0_0 s0_1 from by repeat (first|(with_reducible first|exact HI0.out|apply IsS112.alloc|apply IsS112.drewN|apply IsS112.drew|apply IsS112.set_1|refine IsS112.far ?_ NB0_172.out _|refine IsS112.far ?_ NB0_173.out _)|exact HI0.out)) hb);have n2_:=zM (blk_below (g:=gb172) (o:=.cells #[.int .i64 0,.slice none 0 0] 29 (0,0)) (by(with_reducible repeat (first|refine blk_drewN ?_ _|refine blk_drew ?_|refine blk_alloc ?_ _));refine blk_far ?_ NB172_173.out _;(with_reducible repeat (first|refine blk_drewN ?_ _|refine blk_drew ?_|refine blk_alloc ?_ _));refine blk_far ?_ NB172_173.out _;(with_reducible repeat (first|refine blk_drewN ?_ _|refine blk_drew ?_|refine blk_alloc ?_ _));exact BK172.out) hb);have n3_:=zM (blk_below (g:=gb173) (o:=.cells #[.int .i64 0,.slice none 0 0] 29 (0,0)) (by(with_reducible repeat (first|refine blk_drewN ?_ _|refine blk_drew ?_|refine blk_alloc ?_ _));refine blk_put (cs:=#[.int .i64 0,.slice none 0 0]) ?_ 1 _ rfl;(with_reducible repeat (first|refine blk_drewN ?_ _|refine blk_drew ?_|refine blk_alloc ?_ _));refine blk_put (cs:=#[.int .i64 0,.slice none 0 0]) ?_ 0 _ rfl;(with_reducible repeat (first|refine blk_drewN ?_ _|refine blk_drew ?_|refine blk_alloc ?_ _));exact BK173.out) hb);have n4_:=zM (KeepBut.trans zq15 (KeepBut.of_below hb g none) (.inl rfl));have n5_:=zM (below_step zq51 hb);clear HI0;clear BK172;clear BK173;clear HK;clear HB;have HO176:=n0_;have HI0:=n1_;have BK172:=n2_;have BK173:=n3_;have HK:=n4_;have HB:=n5_;clear n0_ n1_ n2_ n3_ n4_ n5_;clear hb ho10;obtain⟨Ao11,co11,eo11⟩:=Kd.R_slice HO176.out;subst eo11)|((with_reducible refine gate_callee (f:=63) rfl ?_);refine goesL_ (some 9) rfl rfl Try.func63 (by kernel_rfl) rfl #[.pointer (some ⟨g,0,none⟩),.slice Ao11 y174.length co11] rfl zq5 ?_;(with_reducible refine(spec_l1Pick.calls g s0_0 s0_1 _ _ y174 t177 t178 w0 _ ?side1 ?side2 ?side3 ?side4 ?side5 A2.out).mono ?_);(case side1=>exact zq56);(case side2=>exact zq51);(case side3=>repeat (first|exact(Kd.R_reads' HO176.out).2.2|(with_reducible refine Kd.C_alloc ?_ _)|(with_reducible refine Kd.C_drewN ?_ _)|(with_reducible refine Kd.C_drew ?_)));(case side4=>exact(Kd.R_reads' HO176.out).2.1);(case side5=>exact far_slice (IsS112.own_ne HI0.out HO176.out zq17));rintro e w12 ⟨rfl,hi,hb,hk⟩;refine⟨_,rfl,?_⟩;have n0_:=zM (KeepBut.blk hk (g':=gb172) (o:=.cells #[.int .i64 0,.slice none 0 0] 29 (0,0)) zq41 NB172_0.out zq58);have n1_:=zM (KeepBut.blk hk (g':=gb173) (o:=.cells #[.int .i64 0,.slice none 0 0] 29 (0,0)) zq61 NB173_0.out zq58);have n2_:=zM (Kd.R_mono (Kd.R_keep (IsS112.apart (show IsS112 w0 _ g s0_0 s0_1 from by repeat (first|(with_reducible first|exact HI0.out|apply IsS112.alloc|apply IsS112.drewN|apply IsS112.drew|apply IsS112.set_1|refine IsS112.far ?_ NB0_172.out _|refine IsS112.far ?_ NB0_173.out _)|exact HI0.out)) zq84 zq17) hk (fun _ h=>h.2)) (fun _ h=>h.1));have n3_:=zM (KeepBut.trans zq15 hk (.inl rfl));have n4_:=zM (hb);have n5_:=zM (hi);clear BK172;clear BK173;clear HO176;clear HK;clear HB;clear HI0;have BK172:=n0_;have BK173:=n1_;have HO176:=n2_;have HK:=n3_;have HB:=n4_;have HI0:=n5_;clear n0_ n1_ n2_ n3_ n4_ n5_;(try clear hb);(try clear hb2);(try clear hk);(try clear hi))|((with_reducible refine gate_dst (N:=11) rfl ?_);refine Kd.R_lit (Kd.int .i64) _ 2 ?hg (N:=11) ?hd (xs:=([1,2,2,3]:List Int)) (inner:=[.int .i64 1,.int .i64 2,.int .i64 2,.int .i64 3]) (ok:=fun _=>True) (okp:=fun _=>True) ?hr ?hp (fun _ hk=>hk) trivial (Below.refl _ _) (Nat.le_refl _) zq58 ?_;(case hd=>rfl);(case hg=>rfl);(case hr=>first|(go_simp;done)|(go_simp;rfl));(case hp=>exact(Reps.one (show Kd.M (Kd.int .i64) _ _ _ 1 [.int .i64 1] from rfl) (Reps.one (show Kd.M (Kd.int .i64) _ _ _ 2 [.int .i64 2] from rfl) (Reps.one (show Kd.M (Kd.int .i64) _ _ _ 2 [.int .i64 2] from rfl) (Reps.one (show Kd.M (Kd.int .i64) _ _ _ 3 [.int .i64 3] from rfl) (Reps.none _ _))))));intro v180 w13 ho14 hb hg_ hnew_;clear hg_ hnew_;(first|rw[← Ny179.out] at ho14|(simp only[Int.reduceToNat] at ho14;rw[← Ny179.out] at ho14));have n0_:=zM (Kd.R_elder' zq84 (Kd.R_base ho14) hb);have n1_:=zM (Kd.R_lower (Kd.R_new' ho14 (Kd.R_lt zq84)) (keep_size (w:=w) (g:=g) (row:=none) zq15));have n2_:=zM (IsS112.below zq56 hb);have n3_:=zM (blk_below (g:=gb172) (o:=.cells #[.int .i64 0,.slice none 0 0] 29 (0,0)) zq41 hb);have n4_:=zM (blk_below (g:=gb173) (o:=.cells #[.int .i64 0,.slice none 0 0] 29 (0,0)) zq61 hb);have n5_:=zM (KeepBut.trans zq15 (KeepBut.of_below hb g none) (.inl rfl));have n6_:=zM (below_step zq51 hb);clear HO176;clear HI0;clear BK172;clear BK173;clear HK;clear HB;have HO176:=n0_;have HO181:=n1_;have HI0:=n2_;have BK172:=n3_;have BK173:=n4_;have HK:=n5_;have HB:=n6_;clear n0_ n1_ n2_ n3_ n4_ n5_ n6_;clear hb ho14;obtain⟨Ao15,co15,eo15⟩:=Kd.R_slice HO181.out;subst eo15)|((with_reducible refine gate_callee (f:=63) rfl ?_);refine goesL_ (some 12) rfl rfl Try.func63 (by kernel_rfl) rfl #[.pointer (some ⟨g,0,none⟩),.slice Ao15 y179.length co15] rfl zq5 ?_;(with_reducible refine(spec_l1Pick.calls g s0_0 t178 _ _ y179 t182 t183 w0 _ ?side1 ?side2 ?side3 ?side4 ?side5 A3.out).mono ?_);(case side1=>exact zq56);(case side2=>exact zq51);(case side3=>repeat (first|exact(Kd.R_reads' HO181.out).2.2|(with_reducible refine Kd.C_alloc ?_ _)|(with_reducible refine Kd.C_drewN ?_ _)|(with_reducible refine Kd.C_drew ?_)));(case side4=>exact(Kd.R_reads' HO181.out).2.1);(case side5=>exact far_slice (IsS112.own_ne HI0.out HO181.out zq17));rintro e w16 ⟨rfl,hi,hb,hk⟩;refine⟨_,rfl,?_⟩;have n0_:=zM (KeepBut.blk hk (g':=gb172) (o:=.cells #[.int .i64 0,.slice none 0 0] 29 (0,0)) zq41 NB172_0.out zq58);have n1_:=zM (KeepBut.blk hk (g':=gb173) (o:=.cells #[.int .i64 0,.slice none 0 0] 29 (0,0)) zq61 NB173_0.out zq58);have n2_:=zM (Kd.R_mono (Kd.R_keep (IsS112.apart (show IsS112 w0 _ g s0_0 t178 from by repeat (first|(with_reducible first|exact HI0.out|apply IsS112.alloc|apply IsS112.drewN|apply IsS112.drew|apply IsS112.set_1|refine IsS112.far ?_ NB0_172.out _|refine IsS112.far ?_ NB0_173.out _)|exact HI0.out)) zq84 zq17) hk (fun _ h=>h.2)) (fun _ h=>h.1));have n3_:=zM (Kd.R_mono (Kd.R_keep (IsS112.apart (show IsS112 w0 _ g s0_0 t178 from by repeat (first|(with_reducible first|exact HI0.out|apply IsS112.alloc|apply IsS112.drewN|apply IsS112.drew|apply IsS112.set_1|refine IsS112.far ?_ NB0_172.out _|refine IsS112.far ?_ NB0_173.out _)|exact HI0.out)) (by(with_reducible repeat (first|apply Kd.R_alloc|apply Kd.R_drewN|apply Kd.R_drew));exact HO181.out) zq17) hk (fun _ h=>h.2)) (fun _ h=>h.1));have n4_:=zM (KeepBut.trans zq15 hk (.inl rfl));have n5_:=zM (hb);have n6_:=zM (hi);clear BK172;clear BK173;clear HO176;clear HO181;clear HK;clear HB;clear HI0;have BK172:=n0_;have BK173:=n1_;have HO176:=n2_;have HO181:=n3_;have HK:=n4_;have HB:=n5_;have HI0:=n6_;clear n0_ n1_ n2_ n3_ n4_ n5_ n6_;(try clear hb);(try clear hb2);(try clear hk);(try clear hi)))
 go_loopg [4,5] k (fun kq v4 v5 w'=>∃ (x4_1:Int) (x5_1:Int) (x1001_1:Int) (x174001_1:List (S25)) (u174001:Value),v4=.int .i64 x4_1∧v5=.int .i64 x5_1∧Aside0 (spec_l4Draw.l0 kq x4_1 x5_1 s0_0 x1001_1 0 x174001_1=some (r1,r2,r3))∧Aside0 (kq≤k)∧Aside0 (Kd.S k25 25 w' w.heap.size (fun _=>True) u174001 x174001_1)∧Aside0 (w'.heap[gb172]?=some (.cells #[.int .i64 0,(.slice none 0 0)] 29 (0,0)))∧Aside0 (w'.heap[gb173]?=some (.cells #[.int .i64 0,u174001] 29 (0,0)))∧Aside0 (IsS112 w0 w' g s0_0 x1001_1)∧Aside0 (KeepBut w w' g none)∧Aside0 (Below w0.heap.size w0 w'))
 case atStart=>exact⟨(t177),(t182),(t183),(([]:List (S25))),(.slice none 0 0),zq53,zq53,H',⟨Nat.le_refl _⟩,⟨zq86⟩,⟨zq41⟩,⟨zq61⟩,⟨zq56⟩,⟨zq15⟩,⟨zq51⟩⟩
 case round=>
  clear H'
  try clear p2
  try clear c6
  try clear c7
  try clear hcz8_0
  try clear hcz8_1
  try clear hfz8_0
  try clear hfz8_1
  obtain⟨x4_1,x5_1,x1001_1,x174001_1,u174001,rfl,rfl,HA,HK1,HO_174001,BK172,BK173,HI0,HK,HB⟩:=hrel
  cases gk with
  | zero=>exact absurd HA.out (by simp[spec_l4Draw.l0])
  | succ k1=>
   have H:=HA.out
   clear HA
   simp only[spec_l4Draw.l0] at H
   by_cases c17:x5_1 > 0
   ·rw[if_pos c17] at H
    have c17b0:decide (0 < x5_1)=true:=decide_eq_true c17
    clear c17
    replace H:=Option.bind_eq_some_iff.mp H
    obtain⟨t184,A180,H⟩:=H
    replace H:(if x174001_1.length < 4398046511104 then ((spec_l1Next.f s0_0 x1001_1 2).bind fun bt190=>(spec_l4Draw.l0 k1 (wrap64 ((wrap64 (x4_1+1))+bt190.1)) (wrap64 (x5_1 - 1)) s0_0 bt190.2 0 (x174001_1 ++ [(⟨x4_1,t184⟩:S25)]))) else (none))=some (r1,r2,r3):=H
    have A18:=zM A180
    clear A180
    by_cases c19:x174001_1.length < 4398046511104
    ·rw[if_pos c19] at H
     have LMc19:=zM c19
     clear c19
     obtain⟨y187,hy187⟩:∃ y_:List (S25),y_=(x174001_1 ++ [(⟨x4_1,t184⟩:S25)]):=⟨_,rfl⟩
     replace H:((spec_l1Next.f s0_0 x1001_1 2).bind fun bt190=>(spec_l4Draw.l0 k1 (wrap64 ((wrap64 (x4_1+1))+bt190.1)) (wrap64 (x5_1 - 1)) s0_0 bt190.2 0 y187))=some (r1,r2,r3):=by first|(rw[hy187];with_reducible exact H)|(have H2_:=(Option.bind_some _ _).symm.trans H;rw[hy187];with_reducible exact H2_)|(have H2_:=(Option.bind_some _ _).symm.trans H;with_reducible exact H2_)|with_reducible exact H|(rw[hy187];exact H)|exact H
     have Ny187:=zM hy187
     clear hy187
     replace H:=Option.bind_eq_some_iff.mp H
     obtain⟨⟨t190,t191⟩,A200,H⟩:=H
     replace H:(spec_l4Draw.l0 k1 (wrap64 ((wrap64 (x4_1+1))+t190)) (wrap64 (x5_1 - 1)) s0_0 t191 0 y187)=some (r1,r2,r3):=H
     have A20:=zM A200
     clear A200
     have H':=zM H
     clear H
     try go_wp2
     have n0_:=zM (Kd.S_drew HO_174001.out)
     have n1_:=zM (blk_drew BK172.out)
     have n2_:=zM (blk_drew BK173.out)
     have n3_:=zM (IsS112.drew HI0.out)
     have n4_:=zM (keep_drew HK.out)
     have n5_:=zM (below_drew1 HB.out)
     clear HO_174001
     clear BK172
     clear BK173
     clear HI0
     clear HK
     clear HB
     have HO_174001:=n0_
     have BK172:=n1_
     have BK173:=n2_
     have HI0:=n3_
     have HK:=n4_
     have HB:=n5_
     clear n0_ n1_ n2_ n3_ n4_ n5_
     refine start_ (n:=10) (S:=fun w'=>w'.cell? ⟨gb173,0,none⟩=some (.int .i64 0)∧w'.cell? ⟨gb173,1,none⟩=some (u174001)) (ds:=[9]) #[false,false,false,false,false,false,false,false,false,false] (by kernel_rfl) rfl rfl ⟨(blk_cell BK173.out 0).trans rfl,(blk_cell BK173.out 1).trans rfl⟩ (fun hHeld=>?_);refine with_tabW spec_l4Draw.tab6 spec_l4Draw.bits6 (fun HT_ HW_=>?_)
     generalize wr.drew=w21 at HO_174001 BK172 BK173 HI0 HK HB hHeld ⊢
     refine pure_ (i:=0) (N:=some 17) (v:=?_) (a':=?_) #[true,false,false,false,false,false,false,false,false,false] rfl rfl (any_of HT_.out (by kernel_rfl)) (fun _ _ _ h=>h) (Or.inl ⟨zq64,?_⟩) ?_ ?_
     rotate_left
     ·intro w'
      go_simp
      with_reducible rfl
     rotate_left
     ·simp only[Act.put,List.setIfInBounds_toArray,List.set_cons_zero,List.set_cons_succ,i64_w,i32_w]
      rfl
     refine pure_ (i:=2) (N:=some 19) (v:=?_) (a':=?_) #[true,false,true,false,false,false,false,false,false,false] rfl rfl (any_of HT_.out (by kernel_rfl)) (fun _ _ _ h=>h) (Or.inl ⟨zq64,?_⟩) ?_ ?_
     rotate_left
     ·intro w'
      go_simp
      with_reducible rfl
     rotate_left
     ·simp only[Act.put,List.setIfInBounds_toArray,List.set_cons_zero,List.set_cons_succ,i64_w,i32_w]
      rfl
     refine pure_ (i:=3) (N:=some 20) (v:=?_) (a':=?_) #[true,false,true,true,false,false,false,false,false,false] rfl rfl (any_of HT_.out (by kernel_rfl)) (fun _ _ _ h=>h) (Or.inl ⟨zq64,?_⟩) ?_ ?_
     rotate_left
     ·intro w'
      go_simp
      with_reducible rfl
     rotate_left
     ·simp only[Act.put,List.setIfInBounds_toArray,List.set_cons_zero,List.set_cons_succ,i64_w,i32_w]
      rfl
     refine take_ (i:=1) (N:=some 18) (v:=?_) (a':=?_) #[true,true,true,true,false,false,false,false,false,false] rfl rfl (take_ofW HT_.out HW_.out (by kernel_rfl)) (fun _ _ _ h=>h) (Or.inl ⟨zq64,?_⟩) hHeld ?_ ?_
     rotate_left
     ·rintro w' ⟨s0,s1⟩
      go_simp
      with_reducible rfl
     rotate_left
     ·simp only[Act.put,List.setIfInBounds_toArray,List.set_cons_zero,List.set_cons_succ,i64_w,i32_w]
      rfl
     refine one_ (i:=4) (N:=some 21) #[true,true,true,true,true,false,false,false,false,false] rfl rfl (one_of HT_.out (by kernel_rfl)) zq17 (fun K hK=>?_)
     refine goes_ Try.func94 (by kernel_rfl) rfl #[.int .i64 x4_1] zq64 rfl rfl zq5 ?_
     with_reducible refine(spec_l4Bytes.calls k1 x4_1 t184 _ A18.out).mono ?_
     rintro e w22 ⟨v185,rfl,ho0,hb⟩
     refine⟨_,rfl,?_⟩
     have n0_:=zM (Kd.S_elder' zq110 (Kd.R_base ho0) hb)
     have n1_:=zM (Kd.R_lower ho0 (keep_size (w:=w) (g:=g) (row:=none) zq15))
     have n2_:=zM (blk_below (g:=gb172) (o:=.cells #[.int .i64 0,.slice none 0 0] 29 (0,0)) zq41 hb)
     have n3_:=zM (blk_below (g:=gb173) (o:=.cells #[.int .i64 0,u174001] 29 (0,0)) zq61 hb)
     have n4_:=zM (IsS112.below zq56 hb)
     have n5_:=zM (KeepBut.trans zq15 (KeepBut.of_below hb g none) (.inl rfl))
     have n6_:=zM (below_step zq51 hb)
     clear HO_174001
     clear BK172
     clear BK173
     clear HI0
     clear HK
     clear HB
     have HO_174001:=n0_
     have HO186:=n1_
     have BK172:=n2_
     have BK173:=n3_
     have HI0:=n4_
     have HK:=n5_
     have HB:=n6_
     clear n0_ n1_ n2_ n3_ n4_ n5_ n6_
     (try clear hb)
     (try clear hb2)
     (try clear hk)
     (try clear hi)
     (try clear ho0)
     obtain⟨Ao23,co23,eo23⟩:=Kd.R_slice HO186.out
     (first|subst eo23|(injection eo23 with f1_ f2_ f3_;have f4_:=f1_.symm;have f5_:=f3_.symm;clear f1_ f2_ f3_;subst f4_;subst f5_))
     refine hK.out _ _ ⟨(blk_cell BK173.out 0).trans rfl,(blk_cell BK173.out 1).trans rfl⟩ (fun hHeld=>?_)
     clear hK K
     refine norm_ (a':=?_) ?_ ?_
     rotate_left
     ·show Act.put _ (some 21) _=_
      simp only[Act.put,List.setIfInBounds_toArray,List.set_cons_zero,List.set_cons_succ,i64_w,i32_w]
      rfl
     refine pure_ (i:=5) (N:=some 22) (v:=?_) (a':=?_) #[true,true,true,true,true,true,false,false,false,false] rfl rfl (any_of HT_.out (by kernel_rfl)) (fun _ _ _ h=>h) (Or.inl ⟨zq64,?_⟩) ?_ ?_
     rotate_left
     ·intro w'
      go_simp
      with_reducible rfl
     rotate_left
     ·simp only[Act.put,List.setIfInBounds_toArray,List.set_cons_zero,List.set_cons_succ,i64_w,i32_w]
      rfl
     refine one_ (i:=6) (N:=some 23) #[true,true,true,true,true,true,true,false,false,false] rfl rfl (one_of HT_.out (by kernel_rfl)) zq17 (fun K hK=>?_)
     refine value_ (w1:=?_) (v:=?_) zq64 rfl ?_ ?_
     rotate_left 2
     ·go_simp
      constructor
      ·rfl
      ·rfl
     refine hK.out _ _ ⟨(blk_cell (blk_alloc BK173.out _) 0).trans rfl,(blk_cell (blk_alloc BK173.out _) 1).trans rfl⟩ (fun hHeld=>?_)
     clear hK K
     refine norm_ (a':=?_) ?_ ?_
     rotate_left
     ·show Act.put _ (some 23) _=_
      simp only[Act.put,List.setIfInBounds_toArray,List.set_cons_zero,List.set_cons_succ,i64_w,i32_w]
      rfl
     refine one_ (i:=7) (N:=some 24) #[true,true,true,true,true,true,true,true,false,false] rfl rfl (one_of HT_.out (by kernel_rfl)) zq17 (fun K hK=>?_)
     refine Kd.S_append_step k25 w.heap.size zq64 (.tmp 18) (.tmp 23) 27 25 (.agg #[(.int .i64 0),(.slice none 0 0)]) 32 rfl Try.underlying27 info25 rfl zq17 zq21 u174001 x174001_1 (⟨x4_1,t184⟩:S25) [.int .i64 x4_1,.slice Ao23 t184.length co23] (fun _=>True) (fun k_=>some k_=(.slice Ao23 t184.length co23:Value).ownBlock) rfl rfl ?aP (fun k_ hk_=>((Kd.R_mono (ok':=fun k_=>((fun _=>True)) k_∧some k_≠(u174001:Value).ownBlock) (Kd.R_apart' (HO186.out) (Kd.S_typed HO_174001.out) zq17) (fun k_ hk=>⟨trivial,hk.2⟩))).1 k_ hk_.symm) ?aF ?aO (Below.refl _ _) ?aS ?aL ?_
     (case aP=>exact k25_mkM _ _ _ (⟨x4_1,t184⟩:S25) (Kd.R_mono (Kd.R_tight rfl (Kd.R_mono (ok':=fun k_=>((fun _=>True)) k_∧some k_≠(u174001:Value).ownBlock) (Kd.R_apart' (HO186.out) (Kd.S_typed HO_174001.out) zq17) (fun k_ hk=>⟨trivial,hk.2⟩))) (fun _ h_=>h_)))
     (case aF=>exact(fun _ _=>trivial))
     (case aO=>exact(by(with_reducible repeat (first|apply Kd.S_alloc|apply Kd.S_drewN|apply Kd.S_drew));exact Kd.S_mono HO_174001.out (fun k_ hk=>⟨trivial,fun e_=>hk.2 e_⟩)))
     (case aS=>exact(keep_size (w:=w) (g:=g) (row:=none) zq15))
     (case aL=>have:=LMc19.out;omega)
     intro v188 w24 ho hb hg hat
     rw[← Ny187.out] at ho
     have n0_:=zM (blk_grown (g:=gb172) (o:=.cells #[.int .i64 0,.slice none 0 0] 29 (0,0)) zq41 hg (Kd.S_ne HO_174001.out BK172.out zq17))
     have n1_:=zM (blk_grown (g:=gb173) (o:=.cells #[.int .i64 0,u174001] 29 (0,0)) zq61 hg (Kd.S_ne HO_174001.out BK173.out zq17))
     have n2_:=zM (IsS112.grown zq56 hg (IsS112.own_neS HI0.out HO_174001.out zq17))
     have n3_:=zM (below_weaken zq51 HL.out hb)
     have n4_:=zM (KeepBut.trans zq15 (KeepBut.of_grown hg g) (Kd.S_base2 HO_174001.out))
     have n5_:=zM (ho)
     clear BK172
     clear BK173
     clear HI0
     clear HB
     clear HK
     clear HO_174001
     clear HO186
     have BK172:=n0_
     have BK173:=n1_
     have HI0:=n2_
     have HB:=n3_
     have HK:=n4_
     have HO189:=n5_
     clear n0_ n1_ n2_ n3_ n4_ n5_
     clear ho hb hg hat
     obtain⟨Ao25,co25,eo25⟩:=Kd.S_slice HO189.out
     (first|subst eo25|(injection eo25 with f1_ f2_ f3_;have f4_:=f1_.symm;have f5_:=f3_.symm;clear f1_ f2_ f3_;subst f4_;subst f5_))
     refine hK.out _ _ ⟨(blk_cell BK173.out 0).trans rfl,(blk_cell BK173.out 1).trans rfl⟩ (fun hHeld=>?_)
     clear hK K
     refine norm_ (a':=?_) ?_ ?_
     rotate_left
     ·show Act.put _ (some 24) _=_
      simp only[Act.put,List.setIfInBounds_toArray,List.set_cons_zero,List.set_cons_succ,i64_w,i32_w]
      rfl
     refine pure_ (i:=8) (N:=some 25) (v:=?_) (a':=?_) #[true,true,true,true,true,true,true,true,true,false] rfl rfl (any_of HT_.out (by kernel_rfl)) (fun _ _ _ h=>h) (Or.inl ⟨zq64,?_⟩) ?_ ?_
     rotate_left
     ·intro w'
      go_simp
      with_reducible rfl
     rotate_left
     ·simp only[Act.put,List.setIfInBounds_toArray,List.set_cons_zero,List.set_cons_succ,i64_w,i32_w]
      rfl
     refine last_ (i:=9) (N:=none) #[true,true,true,true,true,true,true,true,true,true] rfl rfl (one_of HT_.out (by kernel_rfl)) zq17 (fun K hK=>?_)
     have hs26:w24.cell? ⟨gb173,1,none⟩=some (u174001):=(blk_cell BK173.out 1).trans rfl
     have hfs26:=blk_frozen BK173.out 1
     have hns26_0:=NB172_173.out
     have hms26_0:=NB173_172.out
     refine skip_ (w1:=?_) zq64 rfl ?_ ?_
     rotate_left
     ·go_simp
      rfl
     refine hK.out _ _ ?_
     clear hK K
     refine done_ (done_of HT_.out (by kernel_rfl)) ?_
     try go_wp2_with (first|((with_reducible refine gate_callee (f:=95) rfl ?_);refine goesL_ (some 29) rfl rfl Try.func95 (by kernel_rfl) rfl #[.pointer (some ⟨g,0,none⟩),.int .i64 2] rfl zq5 ?_;(with_reducible refine(spec_l1Next.calls g s0_0 x1001_1 2 t190 t191 w0 _ ?side1 ?side2 A20.out).mono ?_);(case side1=>exact zq56);(case side2=>exact zq51);rintro e w27 ⟨rfl,hi,hb,hk⟩;refine⟨_,rfl,?_⟩;have n0_:=zM (KeepBut.blk hk (g':=gb172) (o:=.cells #[.int .i64 0,.slice none 0 0] 29 (0,0)) (by(with_reducible repeat (first|refine blk_drewN ?_ _|refine blk_drew ?_|refine blk_alloc ?_ _));refine blk_far ?_ NB172_173.out _;(with_reducible repeat (first|refine blk_drewN ?_ _|refine blk_drew ?_|refine blk_alloc ?_ _));exact BK172.out) NB172_0.out zq58);have n1_:=zM (KeepBut.blk hk (g':=gb173) (o:=.cells #[.int .i64 0,.slice Ao25 y187.length co25] 29 (0,0)) (by(with_reducible repeat (first|refine blk_drewN ?_ _|refine blk_drew ?_|refine blk_alloc ?_ _));refine blk_put (cs:=#[.int .i64 0,u174001]) ?_ 1 _ rfl;(with_reducible repeat (first|refine blk_drewN ?_ _|refine blk_drew ?_|refine blk_alloc ?_ _));exact BK173.out) NB173_0.out zq58);have n2_:=zM (Kd.S_mono (Kd.S_keep (IsS112.apartS (show IsS112 w0 _ g s0_0 x1001_1 from by repeat (first|(with_reducible first|exact HI0.out|apply IsS112.alloc|apply IsS112.drewN|apply IsS112.drew|apply IsS112.set_1|refine IsS112.far ?_ NB0_172.out _|refine IsS112.far ?_ NB0_173.out _)|exact HI0.out)) (by(with_reducible repeat (first|apply Kd.S_alloc|apply Kd.S_drewN|apply Kd.S_drew));exact(Kd.S_mono (Kd.S_far (p:=⟨gb173,1,none⟩) (Kd.S_types HO189.out BK173.out zq17) (fun _ hk=>hk.2) (.slice Ao25 y187.length co25)) (fun _ h_=>h_.1))) zq17) hk (fun _ h=>h.2)) (fun _ h=>h.1));have n3_:=zM (KeepBut.trans zq15 hk (.inl rfl));have n4_:=zM (hb);have n5_:=zM (hi);clear BK172;clear BK173;clear HO189;clear HK;clear HB;clear HI0;have BK172:=n0_;have BK173:=n1_;have HO189:=n2_;have HK:=n3_;have HB:=n4_;have HI0:=n5_;clear n0_ n1_ n2_ n3_ n4_ n5_;(try clear hb);(try clear hb2);(try clear hk);(try clear hi)))
     go_roundg k1
     case measure=>have:=HK1.out;omega
     case rel=>exact⟨(wrap64 ((wrap64 (x4_1+1))+t190)),(wrap64 (x5_1 - 1)),(t191),(y187),(.slice Ao25 y187.length co25),zq53,zq53,H',⟨by have:=HK1.out;omega⟩,⟨by(with_reducible repeat (first|apply Kd.S_alloc|apply Kd.S_drewN|apply Kd.S_drew));exact HO189.out⟩,⟨zq41⟩,⟨zq61⟩,⟨zq56⟩,⟨zq15⟩,⟨zq51⟩⟩
    ·rw[if_neg c19] at H
     exact absurd H zq58
   ·rw[if_neg c17] at H
    have c17b0:decide (0 < x5_1)=false:=decide_eq_false c17
    clear c17
    replace H:=Option.bind_eq_some_iff.mp H
    obtain⟨⟨t192,t193⟩,A280,H⟩:=H
    replace H:(if 0≤t192 then (if t192 < (x174001_1.length:Int) then (some ((rd_T25 x174001_1 t192).f0,x174001_1,t193)) else (none)) else (none))=some (r1,r2,r3):=H
    have A28:=zM A280
    clear A280
    by_cases c29:0≤t192
    ·rw[if_pos c29] at H
     have c29b0:decide (0≤t192)=true:=decide_eq_true c29
     clear c29
     by_cases c30:t192 < (x174001_1.length:Int)
     ·rw[if_pos c30] at H
      have c30b0:decide (t192 < (x174001_1.length:Int))=true:=decide_eq_true c30
      clear c30
      simp only[Option.some.injEq,Prod.mk.injEq] at H
      obtain⟨rfl,rfl,rfl⟩:=H
      try go_wp2
      have n0_:=zM (Kd.S_drew HO_174001.out)
      have n1_:=zM (blk_drew BK172.out)
      have n2_:=zM (blk_drew BK173.out)
      have n3_:=zM (IsS112.drew HI0.out)
      have n4_:=zM (keep_drew HK.out)
      have n5_:=zM (below_drew1 HB.out)
      clear HO_174001
      clear BK172
      clear BK173
      clear HI0
      clear HK
      clear HB
      have HO_174001:=n0_
      have BK172:=n1_
      have BK173:=n2_
      have HI0:=n3_
      have HK:=n4_
      have HB:=n5_
      clear n0_ n1_ n2_ n3_ n4_ n5_
      obtain⟨Ao32,co32,eo32⟩:=Kd.S_slice HO_174001.out
      (first|subst eo32|(injection eo32 with f1_ f2_ f3_;have f4_:=f1_.symm;have f5_:=f3_.symm;clear f1_ f2_ f3_;subst f4_;subst f5_))
      have p194:0≤(t192:Int):=of_decide_eq_true zq23
      have q194:t192 < (x174001_1.length:Int):=of_decide_eq_true zq23
      obtain⟨ad194,A194_1,c194_1,e194,hx194_0,hx194_1,hl194_1,hi194_1⟩:=at_T25 (Kd.S_reads' HO_174001.out).2.2 t192 p194 q194
      cases e194
      obtain⟨ce194,hce194,hMe194,hcc194⟩:=Kd.S_get HO_174001.out z25 t192 p194 (by first|exact q194|exact of_decide_eq_true zq23|(have e_:=(Kd.S_reads' HO_174001.out).1;omega))
      obtain⟨ve194_1,rfl,ge194_1⟩:=k25_openM hMe194
      have hv194_1:=hcc194 1 _ rfl
      rw[add_field _ _ 1 zq21] at hv194_1
      replace hv194_1:=Option.some.inj (hv194_1.symm.trans hx194_1)
      rw[hv194_1] at ge194_1
      have HL194_1:=zM (show Kd.R (Kd.int .u8) 5 _ _ _ _ ((rd_T25 x174001_1 t192).f1) from ge194_1)
      clear hv194_1 ge194_1
      clear hcc194 hce194
      have HR194_1:=zM hi194_1
      have HC194_1:=zM hl194_1
      clear hi194_1 hl194_1
      replace p194:=eq_true p194
      replace q194:=eq_true q194
      refine start_ (n:=12) (S:=fun w'=>w'.cell? ⟨gb173,0,none⟩=some (.int .i64 0)∧w'.cell? ⟨gb173,1,none⟩=some (.slice (some ad194) x174001_1.length co32)∧w'.cell? (ad194.add ((t192).toNat*2))=some (.int .i64 ((rd_T25 x174001_1 t192).f0))∧w'.cell? ⟨(ad194.add ((t192).toNat*2)).block,(ad194.add ((t192).toNat*2)).off+1,none⟩=some (.slice A194_1 ((rd_T25 x174001_1 t192).f1).length c194_1)) (ds:=[11]) #[false,false,false,false,false,false,false,false,false,false,false,false] (by kernel_rfl) rfl rfl ⟨(blk_cell BK173.out 0).trans rfl,(blk_cell BK173.out 1).trans rfl,hx194_0,hx194_1⟩ (fun hHeld=>?_);refine with_tabW spec_l4Draw.tab8 spec_l4Draw.bits8 (fun HT_ HW_=>?_)
      generalize wr.drew=w31 at HO_174001 BK172 BK173 HI0 HK HB HL194_1 HR194_1 hx194_0 hx194_1 hHeld ⊢
      refine pure_ (i:=0) (N:=some 31) (v:=?_) (a':=?_) #[true,false,false,false,false,false,false,false,false,false,false,false] rfl rfl (any_of HT_.out (by kernel_rfl)) (fun _ _ _ h=>h) (Or.inl ⟨zq64,?_⟩) ?_ ?_
      rotate_left
      ·intro w'
       go_simp
       with_reducible rfl
      rotate_left
      ·simp only[Act.put,List.setIfInBounds_toArray,List.set_cons_zero,List.set_cons_succ,i64_w,i32_w]
       rfl
      refine pure_ (i:=2) (N:=some 33) (v:=?_) (a':=?_) #[true,false,true,false,false,false,false,false,false,false,false,false] rfl rfl (any_of HT_.out (by kernel_rfl)) (fun _ _ _ h=>h) (Or.inl ⟨zq64,?_⟩) ?_ ?_
      rotate_left
      ·intro w'
       go_simp
       with_reducible rfl
      rotate_left
      ·simp only[Act.put,List.setIfInBounds_toArray,List.set_cons_zero,List.set_cons_succ,i64_w,i32_w]
       rfl
      refine pure_ (i:=3) (N:=some 34) (v:=?_) (a':=?_) #[true,false,true,true,false,false,false,false,false,false,false,false] rfl rfl (any_of HT_.out (by kernel_rfl)) (fun _ _ _ h=>h) (Or.inl ⟨zq64,?_⟩) ?_ ?_
      rotate_left
      ·intro w'
       go_simp
       with_reducible rfl
      rotate_left
      ·simp only[Act.put,List.setIfInBounds_toArray,List.set_cons_zero,List.set_cons_succ,i64_w,i32_w]
       rfl
      refine take_ (i:=1) (N:=some 32) (v:=?_) (a':=?_) #[true,true,true,true,false,false,false,false,false,false,false,false] rfl rfl (take_ofW HT_.out HW_.out (by kernel_rfl)) (fun _ _ _ h=>h) (Or.inl ⟨zq64,?_⟩) hHeld ?_ ?_
      rotate_left
      ·rintro w' ⟨s0,s1,s2,s3⟩
       go_simp
       with_reducible rfl
      rotate_left
      ·simp only[Act.put,List.setIfInBounds_toArray,List.set_cons_zero,List.set_cons_succ,i64_w,i32_w]
       rfl
      refine take_ (i:=4) (N:=some 35) (v:=?_) (a':=?_) #[true,true,true,true,true,false,false,false,false,false,false,false] rfl rfl (take_ofW HT_.out HW_.out (by kernel_rfl)) (fun _ _ _ h=>h) (Or.inl ⟨zq64,?_⟩) hHeld ?_ ?_
      rotate_left
      ·rintro w' ⟨s0,s1,s2,s3⟩
       go_simp
       with_reducible rfl
      rotate_left
      ·simp only[Act.put,List.setIfInBounds_toArray,List.set_cons_zero,List.set_cons_succ,i64_w,i32_w]
       rfl
      refine pure_ (i:=5) (N:=some 36) (v:=?_) (a':=?_) #[true,true,true,true,true,true,false,false,false,false,false,false] rfl rfl (any_of HT_.out (by kernel_rfl)) (fun _ _ _ h=>h) (Or.inl ⟨zq64,?_⟩) ?_ ?_
      rotate_left
      ·intro w'
       go_simp
       with_reducible rfl
      rotate_left
      ·simp only[Act.put,List.setIfInBounds_toArray,List.set_cons_zero,List.set_cons_succ,i64_w,i32_w]
       rfl
      refine one_ (i:=6) (N:=some 37) #[true,true,true,true,true,true,true,false,false,false,false,false] rfl rfl (one_of HT_.out (by kernel_rfl)) zq17 (fun K hK=>?_)
      refine goes_ Try.func95 (by kernel_rfl) rfl #[.pointer (some ⟨g,0,none⟩),.int .i64 (x174001_1.length:Int)] zq64 rfl rfl zq5 ?_
      with_reducible refine(spec_l1Next.calls g s0_0 x1001_1 (x174001_1.length:Int) t192 t193 w0 _ ?side1 ?side2 A28.out).mono ?_
      (case side1=>exact zq56)
      (case side2=>exact zq51)
      rintro e w33 ⟨rfl,hi,hb,hk⟩
      have HS2_:=keep_cell hk (hHeld.2.2.1) zq87
      have HS3_:=keep_cell hk (hHeld.2.2.2) zq87
      refine⟨_,rfl,?_⟩
      have n0_:=zM (Kd.S_mono (Kd.S_keep (IsS112.apartS (show IsS112 w0 _ g s0_0 x1001_1 from by repeat (first|(with_reducible first|exact HI0.out|apply IsS112.alloc|apply IsS112.drewN|apply IsS112.drew|apply IsS112.set_1|refine IsS112.far ?_ NB0_172.out _|refine IsS112.far ?_ NB0_173.out _)|exact HI0.out)) zq110 zq17) hk (fun _ h=>h.2)) (fun _ h=>h.1))
      have n1_:=zM (KeepBut.blk hk (g':=gb172) (o:=.cells #[.int .i64 0,.slice none 0 0] 29 (0,0)) zq41 NB172_0.out zq58)
      have n2_:=zM (KeepBut.blk hk (g':=gb173) (o:=.cells #[.int .i64 0,.slice (some ad194) x174001_1.length co32] 29 (0,0)) zq61 NB173_0.out zq58)
      have n3_:=zM (KeepBut.trans zq15 hk (.inl rfl))
      have n4_:=zM (hb)
      have n5_:=zM (hi)
      clear HO_174001
      clear BK172
      clear BK173
      clear HK
      clear HB
      clear HI0
      have HO_174001:=n0_
      have BK172:=n1_
      have BK173:=n2_
      have HK:=n3_
      have HB:=n4_
      have HI0:=n5_
      clear n0_ n1_ n2_ n3_ n4_ n5_
      (try clear hb)
      (try clear hb2)
      (try clear hk)
      (try clear hi)
      refine hK.out _ _ ⟨(blk_cell BK173.out 0).trans rfl,(blk_cell BK173.out 1).trans rfl,HS2_,HS3_⟩ (fun hHeld=>?_)
      clear hK K
      refine norm_ (a':=?_) ?_ ?_
      rotate_left
      ·show Act.put _ (some 37) _=_
       simp only[Act.put,List.setIfInBounds_toArray,List.set_cons_zero,List.set_cons_succ,i64_w,i32_w]
       rfl
      refine pure_ (i:=7) (N:=some 38) (v:=?_) (a':=?_) #[true,true,true,true,true,true,true,true,false,false,false,false] rfl rfl (any_of HT_.out (by kernel_rfl)) (fun _ _ _ h=>h) (Or.inl ⟨zq64,?_⟩) ?_ ?_
      rotate_left
      ·intro w'
       go_simp
       with_reducible rfl
      rotate_left
      ·simp only[Act.put,List.setIfInBounds_toArray,List.set_cons_zero,List.set_cons_succ,i64_w,i32_w]
       rfl
      refine pure_ (i:=8) (N:=some 39) (v:=?_) (a':=?_) #[true,true,true,true,true,true,true,true,true,false,false,false] rfl rfl (any_of HT_.out (by kernel_rfl)) (fun _ _ _ h=>h) (Or.inl ⟨zq64,?_⟩) ?_ ?_
      rotate_left
      ·intro w'
       go_simp
       with_reducible rfl
      rotate_left
      ·simp only[Act.put,List.setIfInBounds_toArray,List.set_cons_zero,List.set_cons_succ,i64_w,i32_w]
       rfl
      refine take_ (i:=9) (N:=some 40) (v:=?_) (a':=?_) #[true,true,true,true,true,true,true,true,true,true,false,false] rfl rfl (take_ofW HT_.out HW_.out (by kernel_rfl)) (fun _ _ _ h=>h) (Or.inl ⟨zq64,?_⟩) hHeld ?_ ?_
      rotate_left
      ·rintro w' ⟨s0,s1,s2,s3⟩
       go_simp
       with_reducible rfl
      rotate_left
      ·simp only[Act.put,List.setIfInBounds_toArray,List.set_cons_zero,List.set_cons_succ,i64_w,i32_w]
       rfl
      refine pure_ (i:=10) (N:=some 41) (v:=?_) (a':=?_) #[true,true,true,true,true,true,true,true,true,true,true,false] rfl rfl (any_of HT_.out (by kernel_rfl)) (fun _ _ _ h=>h) (Or.inl ⟨zq64,?_⟩) ?_ ?_
      rotate_left
      ·intro w'
       go_simp
       with_reducible rfl
      rotate_left
      ·simp only[Act.put,List.setIfInBounds_toArray,List.set_cons_zero,List.set_cons_succ,i64_w,i32_w]
       rfl
      refine last_ (i:=11) (N:=none) #[true,true,true,true,true,true,true,true,true,true,true,true] rfl rfl (one_of HT_.out (by kernel_rfl)) zq17 (fun K hK=>?_)
      have hs34:w33.cell? ⟨gb173,0,none⟩=some (.int .i64 0):=(blk_cell BK173.out 0).trans rfl
      have hfs34:=blk_frozen BK173.out 0
      have hns34_0:=NB172_173.out
      have hms34_0:=NB173_172.out
      refine skip_ (w1:=?_) zq64 rfl ?_ ?_
      rotate_left
      ·go_simp
       rfl
      refine hK.out _ _ ?_
      clear hK K
      refine done_ (done_of HT_.out (by kernel_rfl)) ?_
      have hnb35:=NB173_172.out
      have hnc35:=NB172_173.out
      have hnb36:=NB173_0.out
      have hnc36:=NB0_173.out
      have hcz37_0:w33.cell? ⟨gb173,0,none⟩=some (.int .i64 0):=(blk_cell BK173.out 0).trans rfl
      have hcz37_1:w33.cell? ⟨gb173,1,none⟩=some (.slice (some ad194) x174001_1.length co32):=(blk_cell BK173.out 1).trans rfl
      have hfz37_0:=blk_frozen BK173.out 0
      have hfz37_1:=blk_frozen BK173.out 1
      have hnb38:=NB172_0.out
      have hnc38:=NB0_172.out
      have hcz39_0:w33.cell? ⟨gb172,0,none⟩=some (.int .i64 0):=(blk_cell BK172.out 0).trans rfl
      have hcz39_1:w33.cell? ⟨gb172,1,none⟩=some (.slice none 0 0):=(blk_cell BK172.out 1).trans rfl
      have hfz39_0:=blk_frozen BK172.out 0
      have hfz39_1:=blk_frozen BK172.out 1
      try go_wp2
      refine bodyPost_ret (results_cell_row rfl _ _ gb172 29 #[.int .i64 ((rd_T25 x174001_1 t192).f0),.slice (some ad194) x174001_1.length co32] (0,0) _ rfl (by(with_reducible repeat (first|refine blk_drewN ?_ _|refine blk_drew ?_|refine blk_alloc ?_ _));refine blk_put (cs:=#[.int .i64 ((rd_T25 x174001_1 t192).f0),.slice none 0 0]) ?_ 1 _ rfl;(with_reducible repeat (first|refine blk_drewN ?_ _|refine blk_drew ?_|refine blk_alloc ?_ _));refine blk_put (cs:=#[.int .i64 0,.slice none 0 0]) ?_ 0 _ rfl;(with_reducible repeat (first|refine blk_drewN ?_ _|refine blk_drew ?_|refine blk_alloc ?_ _));refine blk_far ?_ NB172_173.out _;(with_reducible repeat (first|refine blk_drewN ?_ _|refine blk_drew ?_|refine blk_alloc ?_ _));exact BK172.out) Try.underlying29 rfl (by kernel_rfl)) rfl ?_
      exact⟨_,zq10,by(with_reducible repeat (first|apply Kd.S_alloc|apply Kd.S_drewN|apply Kd.S_drew));exact Kd.S_mono (Kd.S_far (p:=⟨gb172,1,none⟩) (Kd.S_far (p:=⟨gb172,0,none⟩) (Kd.S_far (p:=⟨gb173,0,none⟩) (Kd.S_types (Kd.S_types HO_174001.out BK173.out zq17) BK172.out zq17) (fun _ hk=>hk.1.2) (.int .i64 ((rd_T25 x174001_1 t192).f0))) (fun _ hk=>hk.2) (.int .i64 ((rd_T25 x174001_1 t192).f0))) (fun _ hk=>hk.2) (.slice (some ad194) x174001_1.length co32)) (fun _ hk=>trivial),zq56,zq51,zq15⟩
     ·rw[if_neg c30] at H
      exact absurd H zq58
    ·rw[if_neg c29] at H
     exact absurd H zq58
end Go.Proofs.Ytmnhddedcbkpoaa.All
