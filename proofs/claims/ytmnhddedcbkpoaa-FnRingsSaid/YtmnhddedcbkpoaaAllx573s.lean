-- Laid by wip/shake.py of this repo out of this claim's texts. Not trusted: Lean checks it.
import Derived.Test.YtmnhddedcbkpoaaAb0s
import Derived.Test.YtmnhddedcbkpoaaBytes
import Derived.Test.YtmnhddedcbkpoaaAllx202s
import Derived.Test.YtmnhddedcbkpoaaAllx204s
import Derived.Test.YtmnhddedcbkpoaaAllx205s
import Derived.Test.YtmnhddedcbkpoaaAllx564s
import Derived.Test.YtmnhddedcbkpoaaAllx567s
import Derived.Test.YtmnhddedcbkpoaaAllx550s
import Derived.Test.YtmnhddedcbkpoaaAllx556s
import Derived.Test.YtmnhddedcbkpoaaAllx565s
import Derived.Test.YtmnhddedcbkpoaaAllx568s
import Derived.Test.YtmnhddedcbkpoaaAllx551s
import Derived.Test.YtmnhddedcbkpoaaAllx555s
import Derived.Test.YtmnhddedcbkpoaaAllx217s
import Derived.Test.YtmnhddedcbkpoaaAllx218s
import Derived.Test.YtmnhddedcbkpoaaAllx211s
import Derived.Test.YtmnhddedcbkpoaaAllx24s
namespace Go.Proofs.Ytmnhddedcbkpoaa.All
open Go.Proofs.YtmnhddedcbkpoaaW.PrintWords.Aside0 renaming mk→zM
open Go.RowKit Go.Proofs.YtmnhddedcbkpoaaW.PrintWords Go.Proofs.YtmnhddedcbkpoaaW.PrintLast Go.Proofs.YtmnhddedcbkpoaaW.PrintMore
attribute [local go_sem] max2_int min2_int max_two min_two max_three min_three max_four min_four
set_option linter.unusedVariables false
set_option linter.unusedSimpArgs false
def laws_FnRings.T9:Bool × List (List Nat × List Nat):=(true,[([],[]),([0],[0]),([],[]),([],[]),([2,3],[2,3]),([4],[4]),([1,5],[1,5]),([6,4],[6]),([7],[7]),([8,7],[7,8]),([7],[7]),([7],[7]),([10,11,7,7],[7,10,11]),([12,7],[7,12]),([9,13,7],[7,9,13]),([7,14],[7,14]),([15,12],[15]),([16],[16]),([17,16],[16,17]),([16],[16]),([16],[16]),([19,20,16,16],[16,19,20]),([21,16],[16,21]),([18,22,16],[16,18,22]),([16,23],[16,23]),([24,21],[24]),([25],[25]),([26,25],[25,26]),([25],[25]),([25],[25]),([28,29,25,25],[25,28,29]),([30,25],[25,30]),([27,31,25],[25,27,31]),([25,32],[25,32]),([33,30],[33]),([34],[34]),([35,34,34],[34,35]),([34],[34]),([37,36,34],[34,37]),([36,38,34],[34,36,38]),([34,39],[34,39])])
def laws_FnRings.B9:List Nat:=[0,1,0,0,12,28,63,127,255,511,255,255,3327,7423,16383,32767,65535,131071,262143,131071,131071,1703935,3801087,8388607,16777215,33554431,67108863,134217727,67108863,67108863,872415231,1946157055,4294967295,8589934591,17179869183,34359738367,68719476735,34359738367,274877906943,549755813887,1099511627775]
theorem laws_FnRings.tab9:rtab .any (opsOf Try.f12 9)=laws_FnRings.T9:=by kernel_rfl
theorem laws_FnRings.bits9:waitsOk laws_FnRings.T9.2 laws_FnRings.B9=true:=by kernel_rfl
def laws_FnRings.T11:Bool × List (List Nat × List Nat):=(true,[([],[]),([0],[0]),([1],[1]),([2],[2]),([3],[3]),([4,3],[3,4]),([3],[3]),([5,6,3,3],[3,5,6]),([7,3],[3,7]),([8,3],[3,8]),([9,7,3],[3,9]),([10],[10]),([11,10],[10,11]),([12,10,10],[10,12]),([13,10],[10,13]),([10,14,3],[3,10,14]),([15,13,3],[3,15]),([16],[16]),([17,16],[16,17]),([18,16],[16,18]),([16],[16]),([20,16],[16,20]),([19,21,16],[16,19,21]),([16,22,3],[3,16,22]),([23,16,3],[3,23]),([24],[24]),([25,24],[24,25]),([24],[24]),([27,24],[24,27]),([26,28,24,24],[24,26,28]),([29,24],[24,29]),([24],[24]),([30,31,29,24],[24,30,31]),([32,24],[24,32]),([24,33,3],[3,24,33]),([3,34],[3,34])])
def laws_FnRings.B11:List Nat:=[0,1,3,7,15,31,15,127,255,511,1023,2047,4095,8191,16383,32767,65535,131071,262143,524287,131071,1179647,4194303,8388607,16777215,33554431,67108863,33554431,167772159,536870911,1073741823,33554431,4294967295,8589934591,17179869183,34359738367]
theorem laws_FnRings.tab11:rtab .any (opsOf Try.f12 11)=laws_FnRings.T11:=by kernel_rfl
theorem laws_FnRings.bits11:waitsOk laws_FnRings.T11.2 laws_FnRings.B11=true:=by kernel_rfl
def laws_FnRings.T18:Bool × List (List Nat × List Nat):=(true,[([],[]),([0],[0]),([1],[1]),([2],[2]),([3,2],[3]),([4],[4]),([5,4],[4,5]),([6,4],[4,6]),([4,7],[4,7]),([8,4],[8]),([9],[9]),([10,9],[9,10]),([11,9],[9,11]),([9],[9]),([13,9],[9,13]),([12,14,9,9],[9,12,14]),([9,15],[9,15]),([16,15],[16]),([17],[17]),([18,17],[17,18]),([19,17],[17,19]),([17],[17]),([21,17],[17,21]),([20,22,17],[17,20,22]),([17,23],[17,23]),([24,17],[24]),([25],[25]),([26,25],[25,26]),([27,25],[25,27]),([28,25],[25,28]),([25],[25]),([30,25],[25,30]),([31,25],[25,31]),([32,25],[25,32]),([29,33,25],[25,29,33]),([25,34],[25,34]),([35,25],[35]),([36],[36]),([37,36],[36,37]),([36],[36]),([39,36],[36,39]),([38,40,36,36],[36,38,40]),([41,36],[36,41]),([36],[36]),([42,43,41,36],[36,42,43]),([36,44],[36,44]),([45,44],[45]),([46],[46]),([47,46],[46,47]),([46],[46]),([46],[46]),([49,50,46,46],[46,49,50]),([51,46],[46,51]),([48,52,51,46],[46,48,52]),([46,53],[46,53]),([54,53,0,1,2,3,4,5,6,7,8,9,10,11,12,13,14,15,16,17,18,19,20,21,22,23,24,25,26,27,28,29,30,31,32,33,34,35,36,37,38,39,40,41,42,43,44,45,46,47,48,49,50,51,52,53,54],[54])])
def laws_FnRings.B18:List Nat:=[0,1,3,7,15,31,63,127,255,511,1023,2047,4095,1023,9215,32767,65535,131071,262143,524287,1048575,262143,2359295,8388607,16777215,33554431,67108863,134217727,268435455,536870911,67108863,1140850687,3288334335,7583301631,17179869183,34359738367,68719476735,137438953471,274877906943,137438953471,687194767359,2199023255551,4398046511103,137438953471,17592186044415,35184372088831,70368744177663,140737488355327,281474976710655,140737488355327,140737488355327,1829587348619263,4081387162304511,9007199254740991,18014398509481983,36028797018963967]
theorem laws_FnRings.tab18:rtab .any (opsOf Try.f12 18)=laws_FnRings.T18:=by kernel_rfl
theorem laws_FnRings.bits18:waitsOk laws_FnRings.T18.2 laws_FnRings.B18=true:=by kernel_rfl
theorem fldRLRR_0 (w:World) (a b c:Value):(Instr.field 31 (.agg #[a,b,c]) 0).run Try.prog w=.ok a w:=by
 have h:=Try.underlying31
 have h2:=Try.underlying29
 have h3:=Try.underlying2
 unfold Instr.field asAgg
 go_simp
 all_goals rfl
theorem fldRLRR_1 (w:World) (a b c:Value):(Instr.field 31 (.agg #[a,b,c]) 1).run Try.prog w=.ok (.agg #[b,c]) w:=by
 have h:=Try.underlying31
 have h2:=Try.underlying29
 have h3:=Try.underlying2
 unfold Instr.field asAgg
 go_simp
 all_goals rfl
attribute [local go_sem] fldRLRR_0 fldRLRR_1
theorem fldRLKR_0 (w:World) (a b c:Value):(Instr.field 58 (.agg #[a,b,c]) 0).run Try.prog w=.ok a w:=by
 have h:=Try.underlying58
 have h2:=Try.underlying25
 have h3:=Try.underlying2
 unfold Instr.field asAgg
 go_simp
 all_goals rfl
theorem fldRLKR_1 (w:World) (a b c:Value):(Instr.field 58 (.agg #[a,b,c]) 1).run Try.prog w=.ok (.agg #[b,c]) w:=by
 have h:=Try.underlying58
 have h2:=Try.underlying25
 have h3:=Try.underlying2
 unfold Instr.field asAgg
 go_simp
 all_goals rfl
attribute [local go_sem] fldRLKR_0 fldRLKR_1
set_option maxHeartbeats 8000000 in
set_option maxRecDepth 100000 in
theorem laws_FnRings.way (K:Nat) (A0:Option Addr) (c0:Nat) (l0:List Int) (p a i1 i2 q id x1 x2 u1 u2 f1 f2 si2 sx2 su2 sf2 rf:Int) (m i3 n x3 u3 si3 sx3 su3:List S25) (b f3 sf3:List Int) (w:World) (hr0:Kd.C (Kd.int .u8) w A0 l0.length l0) (hc0:l0.length≤c0) (hbig:laws_lwBig.f l0=some false) (hd1:spec_DrawInstallKey.f K l0=some (p,m,a,b)) (hi:impl_InstallKey.f K p m a b=some (i1,i2,i3)) (hd2:spec_DrawRemoveKey.f K l0=some (q,n,id)) (hx:impl_RemoveKey.f K q n id=some (x1,x2,x3)) (hu:impl_UseKey.f K q n id=some (u1,u2,u3)) (hf:impl_FindKey.f K q n id=some (f1,f2,f3)) (hsi:spec_InstallKey.f p m a b=some (i1,si2,si3)) (hsx:spec_RemoveKey.f q n id=some (x1,sx2,sx3)) (hsu:spec_UseKey.f q n id=some (u1,su2,su3)) (hsf:spec_FindKey.f q n id=some (f1,sf2,sf3)) (hrf:impl_RingFault.f K p m=some rf) (hsr:spec_RingFault.f p m=some rf) (hxp:(x1≠0 ∨ (x1=0∧∃ (y1 y2:Int) (y3:List Int) (yr z1 z2:Int) (z3:List S25),impl_FindKey.f K x2 x3 id=some (y1,y2,y3)∧impl_RingFault.f K x2 x3=some yr∧y1=4∧yr=0∧x2=q∧impl_InstallKey.f K x2 x3 f2 f3=some (z1,z2,z3)∧impl_SameRings.f z2 z3 q n=some true))) (hup:(u1≠0 ∨ (u1=0∧∃ (ur v1 v2:Int) (v3:List S25),u2=id∧impl_RingFault.f K u2 u3=some ur∧ur=0∧impl_RemoveKey.f K u2 u3 id=some (v1,v2,v3)∧v1=8))) (hip:(i1≠0 ∨ (i1=0∧∃ (g1 g2:Int) (g3:List Int) (ir h1 h2:Int) (h3:List S25),impl_FindKey.f K i2 i3 a=some (g1,g2,g3)∧g1=0∧impl_RingFault.f K i2 i3=some ir∧ir=0∧laws_lwSame.f g3 b=some true∧i2=p∧(i3.length:Int)=wrap64 ((m.length:Int)+1)∧impl_RemoveKey.f K i2 i3 a=some (h1,h2,h3)∧impl_SameRings.f h2 h3 p m=some true∧spec_SameRings.f i2 i3 si2 si3=some true))) :
  Calls Try.prog 12 #[.slice A0 l0.length c0] w fun e w'=>e=.returned (.bool true)∧Below w.heap.size w w':=by
 have HR0:=zM hr0
 have HC0:=zM hc0
 have HBIG:=zM hbig
 have HD1:=zM hd1
 have HI:=zM hi
 have HD2:=zM hd2
 have HX:=zM hx
 have HU0:=zM hu
 have HF:=zM hf
 have HSI:=zM hsi
 have HSX:=zM hsx
 have HSU:=zM hsu
 have HSF:=zM hsf
 have HRF:=zM hrf
 have HSR:=zM hsr
 have HX_:=zM hxp
 have HU_:=zM hup
 have HI_:=zM hip
 clear hr0 hc0 hbig hd1 hi hd2 hx hu hf hsi hsx hsu hsf hrf hsr hxp hup hip
 have hqi1:(i1 != i1)=false:=bne_self_eq_false i1
 have hqx1:(x1 != x1)=false:=bne_self_eq_false x1
 have hqu1:(u1 != u1)=false:=bne_self_eq_false u1
 have hqf1:(f1 != f1)=false:=bne_self_eq_false f1
 have hqrf:(rf != rf)=false:=bne_self_eq_false rf
 have hu_R:=Try.underlying29
 have hu_K:=Try.underlying25
 have hu_RR:=Try.underlying31
 have hu_KR:=Try.underlying58
 have HW:=zM (Below.refl w.heap.size w)
 have HU:=zM (Below.refl w.heap.size w)
 go_enter Try.func12,Try.ntmps12
 go_wp2_with (first
   | ((with_reducible refine gate_callee (f:=15) rfl ?_);refine goesL_ (some 13) rfl rfl Try.func15 (by kernel_rfl) rfl #[.slice A0 l0.length c0] rfl zq11 ?_;(with_reducible refine(laws_lwBig.calls _ _ l0 false _ ?s1_0 ?s1_1 HBIG.out).mono ?_);(case s1_0=>exact HR0.out);(case s1_1=>exact HC0.out);rintro e w1 ⟨rfl,hd⟩;refine⟨_,rfl,?_⟩;have hb:=hd.below;clear hd;have n0_:=zM (below_step HU.out hb);clear HU;have HU:=n0_;clear n0_;clear hb)
   | ((with_reducible refine gate_callee (f:=49) rfl ?_);refine goesL_ (some 16) rfl rfl Try.func49 (by kernel_rfl) rfl #[.slice A0 l0.length c0] rfl zq11 ?_;(with_reducible refine(spec_DrawInstallKey.calls K _ _ l0 p m a b _ ?s2_0 ?s2_1 HD1.out).mono ?_);(case s2_0=>exact Kd.C_below HR0.out (below_step HW.out HU.out));(case s2_1=>exact HC0.out);rintro e w2 ⟨v1_,v3_,rfl,ho1,ho3,hb⟩;refine⟨_,rfl,?_⟩;have n0_:=zM (below_step HU.out hb);clear HU;have HU:=n0_;clear n0_;obtain⟨Am,cm,ev_⟩:=Kd.V_slice ho1;subst ev_;obtain⟨Ab,cb,ev_,_⟩:=Kd.Q_slice ho3;subst ev_;have n0_:=zM (below_step HW.out HU.out);have n1_:=zM ((Kd.V_reads' ho1).2.2);have n2_:=zM ((Kd.V_reads' ho1).2.1);have n3_:=zM ((Kd.Q_reads' ho3).2.2);have n4_:=zM ((Kd.Q_reads' ho3).2.1);have n5_:=zM (Below.refl w2.heap.size w2);clear HW HU;have HW:=n0_;have Cm:=n1_;have Lm:=n2_;have Cb:=n3_;have Lb:=n4_;have HU:=n5_;clear n0_ n1_ n2_ n3_ n4_ n5_;clear hb ho1 ho3)
   | ((with_reducible refine gate_dst (N:=3) rfl ?_);refine box_event ?hg (N:=3) ?hd (cs:=#[.int .i64 0,.slice none 0 0]) (t:=29) ?hr ?_;(case hd=>rfl);(case hg=>rfl);(case hr=>first|(go_simp;done)|(go_simp;rfl));intro k3_ hg w3 hbox hb;have G3:=zM (show w2.heap.size≤k3_ by rw[hg];exact below_size HU.out);have n0_:=zM (below_step HU.out hb);clear HU;have HU:=n0_;clear n0_;have M3:=zM hbox;clear hb hbox hg)
   | ((with_reducible refine gate_dst (N:=4) rfl ?_);refine box_event ?hg (N:=4) ?hd (cs:=#[.int .i64 0,.slice none 0 0]) (t:=25) ?hr ?_;(case hd=>rfl);(case hg=>rfl);(case hr=>first|(go_simp;done)|(go_simp;rfl));intro k4_ hg w4 hbox hb;have G4:=zM (show w2.heap.size≤k4_ by rw[hg];exact below_size HU.out);have NE3_4:=zM (show k3_≠k4_ by rw[hg];exact Nat.ne_of_lt (blk_lt M3.out));have n0_:=zM (below_step HU.out hb);have n1_:=zM (blk_below (g:=k3_) (o:=.cells #[.int .i64 0,.slice none 0 0] 29 (0,0)) M3.out hb);clear HU M3;have HU:=n0_;have M3:=n1_;clear n0_ n1_;have M4:=zM hbox;clear hb hbox hg)
   | ((with_reducible refine gate_store (t:=29) (p:=3) rfl ?_);refine row_event ?hg (ty:=29) (p:=3) (y:=?yo3) ?ho ?hn (g:=k3_) (old:=#[.int .i64 0,.slice none 0 0]) (e:=29) (cells:=#[.int .i64 p,.slice Am m.length cm]) ?hx ?hy ?hk ?hi ?hd ?h1 ?_;(case ho=>rfl);(case hg=>rfl);(case hn=>rfl);(case hx=>rfl);(case hy=>rfl);(case hk=>exact M3.out);(case hi=>kernel_rfl);(case hd=>rfl);(case h1=>exact zq63);intro w5 hbk hgr;have n0_:=zM (below_grown1 HU.out hgr G3.out);have n1_:=zM (blk_grown1 (g':=k4_) (ob:=.cells #[.int .i64 0,.slice none 0 0] 25 (0,0)) M4.out hgr (NE3_4.out.symm));have n2_:=zM (hbk);clear HU M3 M4;have HU:=n0_;have M4:=n1_;have M3:=n2_;clear n0_ n1_ n2_;clear hbk hgr)
   | ((with_reducible refine gate_store (t:=25) (p:=4) rfl ?_);refine row_event ?hg (ty:=25) (p:=4) (y:=?yo4) ?ho ?hn (g:=k4_) (old:=#[.int .i64 0,.slice none 0 0]) (e:=25) (cells:=#[.int .i64 a,.slice Ab b.length cb]) ?hx ?hy ?hk ?hi ?hd ?h1 ?_;(case ho=>rfl);(case hg=>rfl);(case hn=>rfl);(case hx=>rfl);(case hy=>rfl);(case hk=>exact M4.out);(case hi=>kernel_rfl);(case hd=>rfl);(case h1=>exact zq63);intro w6 hbk hgr;have n0_:=zM (below_grown1 HU.out hgr G4.out);have n1_:=zM (blk_grown1 (g':=k3_) (ob:=.cells #[.int .i64 p,.slice Am m.length cm] 29 (0,0)) M3.out hgr (NE3_4.out));have n2_:=zM (hbk);clear HU M3 M4;have HU:=n0_;have M3:=n1_;have M4:=n2_;clear n0_ n1_ n2_;clear hbk hgr;have n0_:=zM (below_step HW.out HU.out);have n1_:=zM (Kd.C_below Cm.out HU.out);have n2_:=zM (Kd.C_below Cb.out HU.out);have n3_:=zM (M3.out);have n4_:=zM (M4.out);have n5_:=zM (Below.refl w6.heap.size w6);clear HW HU Cm Cb M3 G3 M4 G4;have HW:=n0_;have Cm:=n1_;have Cb:=n2_;have B3:=n3_;have B4:=n4_;have HU:=n5_;clear n0_ n1_ n2_ n3_ n4_ n5_;have hc3_0:w6.cell? ⟨k3_,0,none⟩=some (.int .i64 p):=(blk_cell (blk_below (g:=k3_) (o:=.cells #[.int .i64 p,.slice Am m.length cm] 29 (0,0)) B3.out HU.out) 0).trans rfl;have hc3_1:w6.cell? ⟨k3_,1,none⟩=some (.slice Am m.length cm):=(blk_cell (blk_below (g:=k3_) (o:=.cells #[.int .i64 p,.slice Am m.length cm] 29 (0,0)) B3.out HU.out) 1).trans rfl;have hc4_0:w6.cell? ⟨k4_,0,none⟩=some (.int .i64 a):=(blk_cell (blk_below (g:=k4_) (o:=.cells #[.int .i64 a,.slice Ab b.length cb] 25 (0,0)) B4.out HU.out) 0).trans rfl;have hc4_1:w6.cell? ⟨k4_,1,none⟩=some (.slice Ab b.length cb):=(blk_cell (blk_below (g:=k4_) (o:=.cells #[.int .i64 a,.slice Ab b.length cb] 25 (0,0)) B4.out HU.out) 1).trans rfl)
   | ((with_reducible refine gate_callee (f:=48) rfl ?_);refine goesL_ (some 21) rfl rfl Try.func48 (by kernel_rfl) rfl #[.agg #[.int .i64 p,.slice Am m.length cm],.agg #[.int .i64 a,.slice Ab b.length cb]] rfl zq11 ?_;(with_reducible refine(impl_InstallKey.calls K p _ _ m a _ _ b i1 i2 i3 _ ?s3_0 ?s3_1 ?s3_2 ?s3_3 HI.out).mono ?_);(case s3_0=>exact(Kd.C_below Cm.out HU.out));(case s3_1=>exact Lm.out);(case s3_2=>exact(Kd.C_below Cb.out HU.out));(case s3_3=>exact Lb.out);rintro e w7 ⟨v_,rfl,ho,hb⟩;refine⟨_,rfl,?_⟩;have n0_:=zM (below_step HU.out hb);clear HU;have HU:=n0_;clear n0_;obtain⟨Ai,ci,ev_⟩:=Kd.S_slice ho;subst ev_;have n0_:=zM (below_step HW.out HU.out);have n1_:=zM (Kd.C_below Cm.out HU.out);have n2_:=zM (Kd.C_below Cb.out HU.out);have n3_:=zM (blk_below (g:=k3_) (o:=.cells #[.int .i64 p,.slice Am m.length cm] 29 (0,0)) B3.out HU.out);have n4_:=zM (blk_below (g:=k4_) (o:=.cells #[.int .i64 a,.slice Ab b.length cb] 25 (0,0)) B4.out HU.out);have n5_:=zM ((Kd.S_reads' ho).2.2);have n6_:=zM ((Kd.S_reads' ho).2.1);have n7_:=zM (Below.refl w7.heap.size w7);clear HW HU Cm Cb B3 B4;have HW:=n0_;have Cm:=n1_;have Cb:=n2_;have B3:=n3_;have B4:=n4_;have Ci:=n5_;have Li:=n6_;have HU:=n7_;clear n0_ n1_ n2_ n3_ n4_ n5_ n6_ n7_;clear hb ho;clear hc3_0 hc3_1 hc4_0 hc4_1)
   | ((with_reducible refine gate_dst (N:=5) rfl ?_);refine box_event ?hg (N:=5) ?hd (cs:=#[.int .i64 0,.int .i64 0,.slice none 0 0]) (t:=31) ?hr ?_;(case hd=>rfl);(case hg=>rfl);(case hr=>first|(go_simp;done)|(go_simp;rfl));intro k5_ hg w8 hbox hb;have G5:=zM (show w7.heap.size≤k5_ by rw[hg];exact below_size HU.out);have n0_:=zM (below_step HU.out hb);clear HU;have HU:=n0_;clear n0_;have M5:=zM hbox;clear hb hbox hg)
   | ((with_reducible refine gate_store (t:=31) (p:=5) rfl ?_);refine row_event ?hg (ty:=31) (p:=5) (y:=?yo5) ?ho ?hn (g:=k5_) (old:=#[.int .i64 0,.int .i64 0,.slice none 0 0]) (e:=31) (cells:=#[.int .i64 i1,.int .i64 i2,.slice Ai i3.length ci]) ?hx ?hy ?hk ?hi ?hd ?h1 ?_;(case ho=>rfl);(case hg=>rfl);(case hn=>rfl);(case hx=>rfl);(case hy=>rfl);(case hk=>exact M5.out);(case hi=>kernel_rfl);(case hd=>rfl);(case h1=>exact zq63);intro w9 hbk hgr;have n0_:=zM (below_grown1 HU.out hgr G5.out);have n1_:=zM (hbk);clear HU M5;have HU:=n0_;have M5:=n1_;clear n0_ n1_;clear hbk hgr;have n0_:=zM (below_step HW.out HU.out);have n1_:=zM (Kd.C_below Cm.out HU.out);have n2_:=zM (Kd.C_below Cb.out HU.out);have n3_:=zM (blk_below (g:=k3_) (o:=.cells #[.int .i64 p,.slice Am m.length cm] 29 (0,0)) B3.out HU.out);have n4_:=zM (blk_below (g:=k4_) (o:=.cells #[.int .i64 a,.slice Ab b.length cb] 25 (0,0)) B4.out HU.out);have n5_:=zM (Kd.C_below Ci.out HU.out);have n6_:=zM (M5.out);have n7_:=zM (Below.refl w9.heap.size w9);clear HW HU Cm Cb B3 B4 Ci M5 G5;have HW:=n0_;have Cm:=n1_;have Cb:=n2_;have B3:=n3_;have B4:=n4_;have Ci:=n5_;have B5:=n6_;have HU:=n7_;clear n0_ n1_ n2_ n3_ n4_ n5_ n6_ n7_)
   | ((with_reducible refine gate_callee (f:=50) rfl ?_);refine goesL_ (some 24) rfl rfl Try.func50 (by kernel_rfl) rfl #[.slice A0 l0.length c0] rfl zq11 ?_;(with_reducible refine(spec_DrawRemoveKey.calls K _ _ l0 q n id _ ?s4_0 ?s4_1 HD2.out).mono ?_);(case s4_0=>exact Kd.C_below HR0.out (below_step HW.out HU.out));(case s4_1=>exact HC0.out);rintro e w10 ⟨v1_,rfl,ho1,hb⟩;refine⟨_,rfl,?_⟩;have n0_:=zM (below_step HU.out hb);clear HU;have HU:=n0_;clear n0_;obtain⟨An,cn,ev_⟩:=Kd.V_slice ho1;subst ev_;have n0_:=zM (below_step HW.out HU.out);have n1_:=zM (Kd.C_below Cm.out HU.out);have n2_:=zM (Kd.C_below Cb.out HU.out);have n3_:=zM (blk_below (g:=k3_) (o:=.cells #[.int .i64 p,.slice Am m.length cm] 29 (0,0)) B3.out HU.out);have n4_:=zM (blk_below (g:=k4_) (o:=.cells #[.int .i64 a,.slice Ab b.length cb] 25 (0,0)) B4.out HU.out);have n5_:=zM (Kd.C_below Ci.out HU.out);have n6_:=zM (blk_below (g:=k5_) (o:=.cells #[.int .i64 i1,.int .i64 i2,.slice Ai i3.length ci] 31 (0,0)) B5.out HU.out);have n7_:=zM ((Kd.V_reads' ho1).2.2);have n8_:=zM ((Kd.V_reads' ho1).2.1);have n9_:=zM (Below.refl w10.heap.size w10);clear HW HU Cm Cb B3 B4 Ci B5;have HW:=n0_;have Cm:=n1_;have Cb:=n2_;have B3:=n3_;have B4:=n4_;have Ci:=n5_;have B5:=n6_;have Cn:=n7_;have Ln:=n8_;have HU:=n9_;clear n0_ n1_ n2_ n3_ n4_ n5_ n6_ n7_ n8_ n9_;clear hb ho1)
   | ((with_reducible refine gate_dst (N:=6) rfl ?_);refine box_event ?hg (N:=6) ?hd (cs:=#[.int .i64 0,.slice none 0 0]) (t:=29) ?hr ?_;(case hd=>rfl);(case hg=>rfl);(case hr=>first|(go_simp;done)|(go_simp;rfl));intro k6_ hg w11 hbox hb;have G6:=zM (show w10.heap.size≤k6_ by rw[hg];exact below_size HU.out);have n0_:=zM (below_step HU.out hb);clear HU;have HU:=n0_;clear n0_;have M6:=zM hbox;clear hb hbox hg)
   | ((with_reducible refine gate_store (t:=29) (p:=6) rfl ?_);refine row_event ?hg (ty:=29) (p:=6) (y:=?yo6) ?ho ?hn (g:=k6_) (old:=#[.int .i64 0,.slice none 0 0]) (e:=29) (cells:=#[.int .i64 q,.slice An n.length cn]) ?hx ?hy ?hk ?hi ?hd ?h1 ?_;(case ho=>rfl);(case hg=>rfl);(case hn=>rfl);(case hx=>rfl);(case hy=>rfl);(case hk=>exact M6.out);(case hi=>kernel_rfl);(case hd=>rfl);(case h1=>exact zq63);intro w12 hbk hgr;have n0_:=zM (below_grown1 HU.out hgr G6.out);have n1_:=zM (hbk);clear HU M6;have HU:=n0_;have M6:=n1_;clear n0_ n1_;clear hbk hgr;have n0_:=zM (below_step HW.out HU.out);have n1_:=zM (Kd.C_below Cm.out HU.out);have n2_:=zM (Kd.C_below Cb.out HU.out);have n3_:=zM (blk_below (g:=k3_) (o:=.cells #[.int .i64 p,.slice Am m.length cm] 29 (0,0)) B3.out HU.out);have n4_:=zM (blk_below (g:=k4_) (o:=.cells #[.int .i64 a,.slice Ab b.length cb] 25 (0,0)) B4.out HU.out);have n5_:=zM (Kd.C_below Ci.out HU.out);have n6_:=zM (blk_below (g:=k5_) (o:=.cells #[.int .i64 i1,.int .i64 i2,.slice Ai i3.length ci] 31 (0,0)) B5.out HU.out);have n7_:=zM (Kd.C_below Cn.out HU.out);have n8_:=zM (M6.out);have n9_:=zM (Below.refl w12.heap.size w12);clear HW HU Cm Cb B3 B4 Ci B5 Cn M6 G6;have HW:=n0_;have Cm:=n1_;have Cb:=n2_;have B3:=n3_;have B4:=n4_;have Ci:=n5_;have B5:=n6_;have Cn:=n7_;have B6:=n8_;have HU:=n9_;clear n0_ n1_ n2_ n3_ n4_ n5_ n6_ n7_ n8_ n9_;have hc6_0:w12.cell? ⟨k6_,0,none⟩=some (.int .i64 q):=(blk_cell (blk_below (g:=k6_) (o:=.cells #[.int .i64 q,.slice An n.length cn] 29 (0,0)) B6.out HU.out) 0).trans rfl;have hc6_1:w12.cell? ⟨k6_,1,none⟩=some (.slice An n.length cn):=(blk_cell (blk_below (g:=k6_) (o:=.cells #[.int .i64 q,.slice An n.length cn] 29 (0,0)) B6.out HU.out) 1).trans rfl)
   | ((with_reducible refine gate_callee (f:=46) rfl ?_);refine goesL_ (some 29) rfl rfl Try.func46 (by kernel_rfl) rfl #[.agg #[.int .i64 q,.slice An n.length cn],.int .i64 id] rfl zq11 ?_;(with_reducible refine(impl_RemoveKey.calls K q _ _ n id x1 x2 x3 _ ?s5_0 ?s5_1 HX.out).mono ?_);(case s5_0=>exact(Kd.C_below Cn.out HU.out));(case s5_1=>exact Ln.out);rintro e w13 ⟨v_,rfl,ho,hb⟩;refine⟨_,rfl,?_⟩;have n0_:=zM (below_step HU.out hb);clear HU;have HU:=n0_;clear n0_;obtain⟨Ax,cx,ev_⟩:=Kd.S_slice ho;subst ev_;have n0_:=zM (below_step HW.out HU.out);have n1_:=zM (Kd.C_below Cm.out HU.out);have n2_:=zM (Kd.C_below Cb.out HU.out);have n3_:=zM (blk_below (g:=k3_) (o:=.cells #[.int .i64 p,.slice Am m.length cm] 29 (0,0)) B3.out HU.out);have n4_:=zM (blk_below (g:=k4_) (o:=.cells #[.int .i64 a,.slice Ab b.length cb] 25 (0,0)) B4.out HU.out);have n5_:=zM (Kd.C_below Ci.out HU.out);have n6_:=zM (blk_below (g:=k5_) (o:=.cells #[.int .i64 i1,.int .i64 i2,.slice Ai i3.length ci] 31 (0,0)) B5.out HU.out);have n7_:=zM (Kd.C_below Cn.out HU.out);have n8_:=zM (blk_below (g:=k6_) (o:=.cells #[.int .i64 q,.slice An n.length cn] 29 (0,0)) B6.out HU.out);have n9_:=zM ((Kd.S_reads' ho).2.2);have n10_:=zM ((Kd.S_reads' ho).2.1);have n11_:=zM (Below.refl w13.heap.size w13);clear HW HU Cm Cb B3 B4 Ci B5 Cn B6;have HW:=n0_;have Cm:=n1_;have Cb:=n2_;have B3:=n3_;have B4:=n4_;have Ci:=n5_;have B5:=n6_;have Cn:=n7_;have B6:=n8_;have Cx:=n9_;have Lx:=n10_;have HU:=n11_;clear n0_ n1_ n2_ n3_ n4_ n5_ n6_ n7_ n8_ n9_ n10_ n11_;clear hb ho;clear hc6_0 hc6_1)
   | ((with_reducible refine gate_dst (N:=8) rfl ?_);refine box_event ?hg (N:=8) ?hd (cs:=#[.int .i64 0,.int .i64 0,.slice none 0 0]) (t:=31) ?hr ?_;(case hd=>rfl);(case hg=>rfl);(case hr=>first|(go_simp;done)|(go_simp;rfl));intro k8_ hg w14 hbox hb;have G8:=zM (show w13.heap.size≤k8_ by rw[hg];exact below_size HU.out);have n0_:=zM (below_step HU.out hb);clear HU;have HU:=n0_;clear n0_;have M8:=zM hbox;clear hb hbox hg)
   | ((with_reducible refine gate_store (t:=31) (p:=8) rfl ?_);refine row_event ?hg (ty:=31) (p:=8) (y:=?yo8) ?ho ?hn (g:=k8_) (old:=#[.int .i64 0,.int .i64 0,.slice none 0 0]) (e:=31) (cells:=#[.int .i64 x1,.int .i64 x2,.slice Ax x3.length cx]) ?hx ?hy ?hk ?hi ?hd ?h1 ?_;(case ho=>rfl);(case hg=>rfl);(case hn=>rfl);(case hx=>rfl);(case hy=>rfl);(case hk=>exact M8.out);(case hi=>kernel_rfl);(case hd=>rfl);(case h1=>exact zq63);intro w15 hbk hgr;have n0_:=zM (below_grown1 HU.out hgr G8.out);have n1_:=zM (hbk);clear HU M8;have HU:=n0_;have M8:=n1_;clear n0_ n1_;clear hbk hgr;have n0_:=zM (below_step HW.out HU.out);have n1_:=zM (Kd.C_below Cm.out HU.out);have n2_:=zM (Kd.C_below Cb.out HU.out);have n3_:=zM (blk_below (g:=k3_) (o:=.cells #[.int .i64 p,.slice Am m.length cm] 29 (0,0)) B3.out HU.out);have n4_:=zM (blk_below (g:=k4_) (o:=.cells #[.int .i64 a,.slice Ab b.length cb] 25 (0,0)) B4.out HU.out);have n5_:=zM (Kd.C_below Ci.out HU.out);have n6_:=zM (blk_below (g:=k5_) (o:=.cells #[.int .i64 i1,.int .i64 i2,.slice Ai i3.length ci] 31 (0,0)) B5.out HU.out);have n7_:=zM (Kd.C_below Cn.out HU.out);have n8_:=zM (blk_below (g:=k6_) (o:=.cells #[.int .i64 q,.slice An n.length cn] 29 (0,0)) B6.out HU.out);have n9_:=zM (Kd.C_below Cx.out HU.out);have n10_:=zM (M8.out);have n11_:=zM (Below.refl w15.heap.size w15);clear HW HU Cm Cb B3 B4 Ci B5 Cn B6 Cx M8 G8;have HW:=n0_;have Cm:=n1_;have Cb:=n2_;have B3:=n3_;have B4:=n4_;have Ci:=n5_;have B5:=n6_;have Cn:=n7_;have B6:=n8_;have Cx:=n9_;have B8:=n10_;have HU:=n11_;clear n0_ n1_ n2_ n3_ n4_ n5_ n6_ n7_ n8_ n9_ n10_ n11_;have hc6_0:w15.cell? ⟨k6_,0,none⟩=some (.int .i64 q):=(blk_cell (blk_below (g:=k6_) (o:=.cells #[.int .i64 q,.slice An n.length cn] 29 (0,0)) B6.out HU.out) 0).trans rfl;have hc6_1:w15.cell? ⟨k6_,1,none⟩=some (.slice An n.length cn):=(blk_cell (blk_below (g:=k6_) (o:=.cells #[.int .i64 q,.slice An n.length cn] 29 (0,0)) B6.out HU.out) 1).trans rfl)
   | ((with_reducible refine gate_callee (f:=44) rfl ?_);refine goesL_ (some 32) rfl rfl Try.func44 (by kernel_rfl) rfl #[.agg #[.int .i64 q,.slice An n.length cn],.int .i64 id] rfl zq11 ?_;(with_reducible refine(impl_UseKey.calls K q _ _ n id u1 u2 u3 _ ?s6_0 ?s6_1 HU0.out).mono ?_);(case s6_0=>exact(Kd.C_below Cn.out HU.out));(case s6_1=>exact Ln.out);rintro e w16 ⟨v_,rfl,ho,hb⟩;refine⟨_,rfl,?_⟩;have n0_:=zM (below_step HU.out hb);clear HU;have HU:=n0_;clear n0_;obtain⟨Au,cu,ev_⟩:=Kd.S_slice ho;subst ev_;have n0_:=zM (below_step HW.out HU.out);have n1_:=zM (Kd.C_below Cm.out HU.out);have n2_:=zM (Kd.C_below Cb.out HU.out);have n3_:=zM (blk_below (g:=k3_) (o:=.cells #[.int .i64 p,.slice Am m.length cm] 29 (0,0)) B3.out HU.out);have n4_:=zM (blk_below (g:=k4_) (o:=.cells #[.int .i64 a,.slice Ab b.length cb] 25 (0,0)) B4.out HU.out);have n5_:=zM (Kd.C_below Ci.out HU.out);have n6_:=zM (blk_below (g:=k5_) (o:=.cells #[.int .i64 i1,.int .i64 i2,.slice Ai i3.length ci] 31 (0,0)) B5.out HU.out);have n7_:=zM (Kd.C_below Cn.out HU.out);have n8_:=zM (blk_below (g:=k6_) (o:=.cells #[.int .i64 q,.slice An n.length cn] 29 (0,0)) B6.out HU.out);have n9_:=zM (Kd.C_below Cx.out HU.out);have n10_:=zM (blk_below (g:=k8_) (o:=.cells #[.int .i64 x1,.int .i64 x2,.slice Ax x3.length cx] 31 (0,0)) B8.out HU.out);have n11_:=zM ((Kd.S_reads' ho).2.2);have n12_:=zM ((Kd.S_reads' ho).2.1);have n13_:=zM (Below.refl w16.heap.size w16);clear HW HU Cm Cb B3 B4 Ci B5 Cn B6 Cx B8;have HW:=n0_;have Cm:=n1_;have Cb:=n2_;have B3:=n3_;have B4:=n4_;have Ci:=n5_;have B5:=n6_;have Cn:=n7_;have B6:=n8_;have Cx:=n9_;have B8:=n10_;have Cu:=n11_;have Lu:=n12_;have HU:=n13_;clear n0_ n1_ n2_ n3_ n4_ n5_ n6_ n7_ n8_ n9_ n10_ n11_ n12_ n13_;clear hb ho;clear hc6_0 hc6_1)
   | ((with_reducible refine gate_dst (N:=9) rfl ?_);refine box_event ?hg (N:=9) ?hd (cs:=#[.int .i64 0,.int .i64 0,.slice none 0 0]) (t:=31) ?hr ?_;(case hd=>rfl);(case hg=>rfl);(case hr=>first|(go_simp;done)|(go_simp;rfl));intro k9_ hg w17 hbox hb;have G9:=zM (show w16.heap.size≤k9_ by rw[hg];exact below_size HU.out);have n0_:=zM (below_step HU.out hb);clear HU;have HU:=n0_;clear n0_;have M9:=zM hbox;clear hb hbox hg)
   | ((with_reducible refine gate_store (t:=31) (p:=9) rfl ?_);refine row_event ?hg (ty:=31) (p:=9) (y:=?yo9) ?ho ?hn (g:=k9_) (old:=#[.int .i64 0,.int .i64 0,.slice none 0 0]) (e:=31) (cells:=#[.int .i64 u1,.int .i64 u2,.slice Au u3.length cu]) ?hx ?hy ?hk ?hi ?hd ?h1 ?_;(case ho=>rfl);(case hg=>rfl);(case hn=>rfl);(case hx=>rfl);(case hy=>rfl);(case hk=>exact M9.out);(case hi=>kernel_rfl);(case hd=>rfl);(case h1=>exact zq63);intro w18 hbk hgr;have n0_:=zM (below_grown1 HU.out hgr G9.out);have n1_:=zM (hbk);clear HU M9;have HU:=n0_;have M9:=n1_;clear n0_ n1_;clear hbk hgr;have n0_:=zM (below_step HW.out HU.out);have n1_:=zM (Kd.C_below Cm.out HU.out);have n2_:=zM (Kd.C_below Cb.out HU.out);have n3_:=zM (blk_below (g:=k3_) (o:=.cells #[.int .i64 p,.slice Am m.length cm] 29 (0,0)) B3.out HU.out);have n4_:=zM (blk_below (g:=k4_) (o:=.cells #[.int .i64 a,.slice Ab b.length cb] 25 (0,0)) B4.out HU.out);have n5_:=zM (Kd.C_below Ci.out HU.out);have n6_:=zM (blk_below (g:=k5_) (o:=.cells #[.int .i64 i1,.int .i64 i2,.slice Ai i3.length ci] 31 (0,0)) B5.out HU.out);have n7_:=zM (Kd.C_below Cn.out HU.out);have n8_:=zM (blk_below (g:=k6_) (o:=.cells #[.int .i64 q,.slice An n.length cn] 29 (0,0)) B6.out HU.out);have n9_:=zM (Kd.C_below Cx.out HU.out);have n10_:=zM (blk_below (g:=k8_) (o:=.cells #[.int .i64 x1,.int .i64 x2,.slice Ax x3.length cx] 31 (0,0)) B8.out HU.out);have n11_:=zM (Kd.C_below Cu.out HU.out);have n12_:=zM (M9.out);have n13_:=zM (Below.refl w18.heap.size w18);clear HW HU Cm Cb B3 B4 Ci B5 Cn B6 Cx B8 Cu M9 G9;have HW:=n0_;have Cm:=n1_;have Cb:=n2_;have B3:=n3_;have B4:=n4_;have Ci:=n5_;have B5:=n6_;have Cn:=n7_;have B6:=n8_;have Cx:=n9_;have B8:=n10_;have Cu:=n11_;have B9:=n12_;have HU:=n13_;clear n0_ n1_ n2_ n3_ n4_ n5_ n6_ n7_ n8_ n9_ n10_ n11_ n12_ n13_;have hc6_0:w18.cell? ⟨k6_,0,none⟩=some (.int .i64 q):=(blk_cell (blk_below (g:=k6_) (o:=.cells #[.int .i64 q,.slice An n.length cn] 29 (0,0)) B6.out HU.out) 0).trans rfl;have hc6_1:w18.cell? ⟨k6_,1,none⟩=some (.slice An n.length cn):=(blk_cell (blk_below (g:=k6_) (o:=.cells #[.int .i64 q,.slice An n.length cn] 29 (0,0)) B6.out HU.out) 1).trans rfl)
   | ((with_reducible refine gate_callee (f:=39) rfl ?_);refine goesL_ (some 35) rfl rfl Try.func39 (by kernel_rfl) rfl #[.agg #[.int .i64 q,.slice An n.length cn],.int .i64 id] rfl zq11 ?_;(with_reducible refine(impl_FindKey.calls K q _ _ n id f1 f2 f3 _ ?s7_0 ?s7_1 HF.out).mono ?_);(case s7_0=>exact(Kd.C_below Cn.out HU.out));(case s7_1=>exact Ln.out);rintro e w19 ⟨v_,rfl,ho,hb⟩;refine⟨_,rfl,?_⟩;have n0_:=zM (below_step HU.out hb);clear HU;have HU:=n0_;clear n0_;obtain⟨Af,cf,ev_⟩:=Kd.R_slice ho;subst ev_;have n0_:=zM (below_step HW.out HU.out);have n1_:=zM (Kd.C_below Cm.out HU.out);have n2_:=zM (Kd.C_below Cb.out HU.out);have n3_:=zM (blk_below (g:=k3_) (o:=.cells #[.int .i64 p,.slice Am m.length cm] 29 (0,0)) B3.out HU.out);have n4_:=zM (blk_below (g:=k4_) (o:=.cells #[.int .i64 a,.slice Ab b.length cb] 25 (0,0)) B4.out HU.out);have n5_:=zM (Kd.C_below Ci.out HU.out);have n6_:=zM (blk_below (g:=k5_) (o:=.cells #[.int .i64 i1,.int .i64 i2,.slice Ai i3.length ci] 31 (0,0)) B5.out HU.out);have n7_:=zM (Kd.C_below Cn.out HU.out);have n8_:=zM (blk_below (g:=k6_) (o:=.cells #[.int .i64 q,.slice An n.length cn] 29 (0,0)) B6.out HU.out);have n9_:=zM (Kd.C_below Cx.out HU.out);have n10_:=zM (blk_below (g:=k8_) (o:=.cells #[.int .i64 x1,.int .i64 x2,.slice Ax x3.length cx] 31 (0,0)) B8.out HU.out);have n11_:=zM (Kd.C_below Cu.out HU.out);have n12_:=zM (blk_below (g:=k9_) (o:=.cells #[.int .i64 u1,.int .i64 u2,.slice Au u3.length cu] 31 (0,0)) B9.out HU.out);have n13_:=zM ((Kd.R_reads' ho).2.2);have n14_:=zM ((Kd.R_reads' ho).2.1);have n15_:=zM (Below.refl w19.heap.size w19);clear HW HU Cm Cb B3 B4 Ci B5 Cn B6 Cx B8 Cu B9;have HW:=n0_;have Cm:=n1_;have Cb:=n2_;have B3:=n3_;have B4:=n4_;have Ci:=n5_;have B5:=n6_;have Cn:=n7_;have B6:=n8_;have Cx:=n9_;have B8:=n10_;have Cu:=n11_;have B9:=n12_;have Cf:=n13_;have Lf:=n14_;have HU:=n15_;clear n0_ n1_ n2_ n3_ n4_ n5_ n6_ n7_ n8_ n9_ n10_ n11_ n12_ n13_ n14_ n15_;clear hb ho;clear hc6_0 hc6_1)
   | ((with_reducible refine gate_dst (N:=10) rfl ?_);refine box_event ?hg (N:=10) ?hd (cs:=#[.int .i64 0,.int .i64 0,.slice none 0 0]) (t:=58) ?hr ?_;(case hd=>rfl);(case hg=>rfl);(case hr=>first|(go_simp;done)|(go_simp;rfl));intro k10_ hg w20 hbox hb;have G10:=zM (show w19.heap.size≤k10_ by rw[hg];exact below_size HU.out);have n0_:=zM (below_step HU.out hb);clear HU;have HU:=n0_;clear n0_;have M10:=zM hbox;clear hb hbox hg)
   | ((with_reducible refine gate_store (t:=58) (p:=10) rfl ?_);refine row_event ?hg (ty:=58) (p:=10) (y:=?yo10) ?ho ?hn (g:=k10_) (old:=#[.int .i64 0,.int .i64 0,.slice none 0 0]) (e:=58) (cells:=#[.int .i64 f1,.int .i64 f2,.slice Af f3.length cf]) ?hx ?hy ?hk ?hi ?hd ?h1 ?_;(case ho=>rfl);(case hg=>rfl);(case hn=>rfl);(case hx=>rfl);(case hy=>rfl);(case hk=>exact M10.out);(case hi=>kernel_rfl);(case hd=>rfl);(case h1=>exact zq63);intro w21 hbk hgr;have n0_:=zM (below_grown1 HU.out hgr G10.out);have n1_:=zM (hbk);clear HU M10;have HU:=n0_;have M10:=n1_;clear n0_ n1_;clear hbk hgr;have n0_:=zM (below_step HW.out HU.out);have n1_:=zM (Kd.C_below Cm.out HU.out);have n2_:=zM (Kd.C_below Cb.out HU.out);have n3_:=zM (blk_below (g:=k3_) (o:=.cells #[.int .i64 p,.slice Am m.length cm] 29 (0,0)) B3.out HU.out);have n4_:=zM (blk_below (g:=k4_) (o:=.cells #[.int .i64 a,.slice Ab b.length cb] 25 (0,0)) B4.out HU.out);have n5_:=zM (Kd.C_below Ci.out HU.out);have n6_:=zM (blk_below (g:=k5_) (o:=.cells #[.int .i64 i1,.int .i64 i2,.slice Ai i3.length ci] 31 (0,0)) B5.out HU.out);have n7_:=zM (Kd.C_below Cn.out HU.out);have n8_:=zM (blk_below (g:=k6_) (o:=.cells #[.int .i64 q,.slice An n.length cn] 29 (0,0)) B6.out HU.out);have n9_:=zM (Kd.C_below Cx.out HU.out);have n10_:=zM (blk_below (g:=k8_) (o:=.cells #[.int .i64 x1,.int .i64 x2,.slice Ax x3.length cx] 31 (0,0)) B8.out HU.out);have n11_:=zM (Kd.C_below Cu.out HU.out);have n12_:=zM (blk_below (g:=k9_) (o:=.cells #[.int .i64 u1,.int .i64 u2,.slice Au u3.length cu] 31 (0,0)) B9.out HU.out);have n13_:=zM (Kd.C_below Cf.out HU.out);have n14_:=zM (M10.out);have n15_:=zM (Below.refl w21.heap.size w21);clear HW HU Cm Cb B3 B4 Ci B5 Cn B6 Cx B8 Cu B9 Cf M10 G10;have HW:=n0_;have Cm:=n1_;have Cb:=n2_;have B3:=n3_;have B4:=n4_;have Ci:=n5_;have B5:=n6_;have Cn:=n7_;have B6:=n8_;have Cx:=n9_;have B8:=n10_;have Cu:=n11_;have B9:=n12_;have Cf:=n13_;have B10:=n14_;have HU:=n15_;clear n0_ n1_ n2_ n3_ n4_ n5_ n6_ n7_ n8_ n9_ n10_ n11_ n12_ n13_ n14_ n15_))
 have HS:Aside0 (∀ w',Below w21.heap.size w21 w'→(w'.cell? ⟨k5_,0,none⟩=some (.int .i64 i1)∧w'.cell? ⟨k3_,0,none⟩=some (.int .i64 p)∧w'.cell? ⟨k3_,1,none⟩=some (.slice Am m.length cm)∧w'.cell? ⟨k4_,0,none⟩=some (.int .i64 a)∧w'.cell? ⟨k4_,1,none⟩=some (.slice Ab b.length cb)∧w'.cell? ⟨k8_,0,none⟩=some (.int .i64 x1)∧w'.cell? ⟨k6_,0,none⟩=some (.int .i64 q)∧w'.cell? ⟨k6_,1,none⟩=some (.slice An n.length cn)∧w'.cell? ⟨k9_,0,none⟩=some (.int .i64 u1)∧w'.cell? ⟨k10_,0,none⟩=some (.int .i64 f1))):=⟨fun w' hb=>⟨(blk_cell (blk_below (g:=k5_) (o:=.cells #[.int .i64 i1,.int .i64 i2,.slice Ai i3.length ci] 31 (0,0)) B5.out hb) 0).trans rfl,(blk_cell (blk_below (g:=k3_) (o:=.cells #[.int .i64 p,.slice Am m.length cm] 29 (0,0)) B3.out hb) 0).trans rfl,(blk_cell (blk_below (g:=k3_) (o:=.cells #[.int .i64 p,.slice Am m.length cm] 29 (0,0)) B3.out hb) 1).trans rfl,(blk_cell (blk_below (g:=k4_) (o:=.cells #[.int .i64 a,.slice Ab b.length cb] 25 (0,0)) B4.out hb) 0).trans rfl,(blk_cell (blk_below (g:=k4_) (o:=.cells #[.int .i64 a,.slice Ab b.length cb] 25 (0,0)) B4.out hb) 1).trans rfl,(blk_cell (blk_below (g:=k8_) (o:=.cells #[.int .i64 x1,.int .i64 x2,.slice Ax x3.length cx] 31 (0,0)) B8.out hb) 0).trans rfl,(blk_cell (blk_below (g:=k6_) (o:=.cells #[.int .i64 q,.slice An n.length cn] 29 (0,0)) B6.out hb) 0).trans rfl,(blk_cell (blk_below (g:=k6_) (o:=.cells #[.int .i64 q,.slice An n.length cn] 29 (0,0)) B6.out hb) 1).trans rfl,(blk_cell (blk_below (g:=k9_) (o:=.cells #[.int .i64 u1,.int .i64 u2,.slice Au u3.length cu] 31 (0,0)) B9.out hb) 0).trans rfl,(blk_cell (blk_below (g:=k10_) (o:=.cells #[.int .i64 f1,.int .i64 f2,.slice Af f3.length cf] 58 (0,0)) B10.out hb) 0).trans rfl⟩⟩
 have n0_:=zM (below_drew1 HU.out)
 clear HU
 have HU:=n0_
 clear n0_
 refine start_ (n:=41) (S:=fun w'=>w'.cell? ⟨k5_,0,none⟩=some (.int .i64 i1)∧w'.cell? ⟨k3_,0,none⟩=some (.int .i64 p)∧w'.cell? ⟨k3_,1,none⟩=some (.slice Am m.length cm)∧w'.cell? ⟨k4_,0,none⟩=some (.int .i64 a)∧w'.cell? ⟨k4_,1,none⟩=some (.slice Ab b.length cb)∧w'.cell? ⟨k8_,0,none⟩=some (.int .i64 x1)∧w'.cell? ⟨k6_,0,none⟩=some (.int .i64 q)∧w'.cell? ⟨k6_,1,none⟩=some (.slice An n.length cn)∧w'.cell? ⟨k9_,0,none⟩=some (.int .i64 u1)∧w'.cell? ⟨k10_,0,none⟩=some (.int .i64 f1)) (ds:=[]) #[false,false,false,false,false,false,false,false,false,false,false,false,false,false,false,false,false,false,false,false,false,false,false,false,false,false,false,false,false,false,false,false,false,false,false,false,false,false,false,false,false] (by kernel_rfl) rfl rfl (HS.out _ HU.out) (fun hHeld=>?_)
 refine with_tabW laws_FnRings.tab9 laws_FnRings.bits9 (fun HT_ HW_=>?_)
 generalize w21.drew=w22 at HU hHeld ⊢
 refine pure_ (i:=0) (N:=some 36) (v:=?_) (a':=?_) #[true,false,false,false,false,false,false,false,false,false,false,false,false,false,false,false,false,false,false,false,false,false,false,false,false,false,false,false,false,false,false,false,false,false,false,false,false,false,false,false,false] rfl rfl (any_of HT_.out (by kernel_rfl)) (fun _ _ _ h=>h) (Or.inl ⟨zq64,?_⟩) ?_ ?_
 rotate_left
 ·intro w'
  go_simp
  with_reducible rfl
 rotate_left
 ·simp only[Act.put,List.setIfInBounds_toArray,List.set_cons_zero,List.set_cons_succ,i64_w,i32_w]
  rfl
 refine take_ (i:=1) (N:=some 37) (v:=?_) (a':=?_) #[true,true,false,false,false,false,false,false,false,false,false,false,false,false,false,false,false,false,false,false,false,false,false,false,false,false,false,false,false,false,false,false,false,false,false,false,false,false,false,false,false] rfl rfl (take_ofW HT_.out HW_.out (by kernel_rfl)) (fun _ _ _ h=>h) (Or.inl ⟨zq64,?_⟩) hHeld ?_ ?_
 rotate_left
 ·rintro w' ⟨s0,s1,s2,s3,s4,s5,s6,s7,s8,s9⟩
  go_simp
  with_reducible rfl
 rotate_left
 ·simp only[Act.put,List.setIfInBounds_toArray,List.set_cons_zero,List.set_cons_succ,i64_w,i32_w]
  rfl
 refine take_ (i:=2) (N:=some 38) (v:=?_) (a':=?_) #[true,true,true,false,false,false,false,false,false,false,false,false,false,false,false,false,false,false,false,false,false,false,false,false,false,false,false,false,false,false,false,false,false,false,false,false,false,false,false,false,false] rfl rfl (take_ofW HT_.out HW_.out (by kernel_rfl)) (fun _ _ _ h=>h) (Or.inl ⟨zq64,?_⟩) hHeld ?_ ?_
 rotate_left
 ·rintro w' ⟨s0,s1,s2,s3,s4,s5,s6,s7,s8,s9⟩
  go_simp
  with_reducible rfl
 rotate_left
 ·simp only[Act.put,List.setIfInBounds_toArray,List.set_cons_zero,List.set_cons_succ,i64_w,i32_w]
  rfl
 refine take_ (i:=3) (N:=some 39) (v:=?_) (a':=?_) #[true,true,true,true,false,false,false,false,false,false,false,false,false,false,false,false,false,false,false,false,false,false,false,false,false,false,false,false,false,false,false,false,false,false,false,false,false,false,false,false,false] rfl rfl (take_ofW HT_.out HW_.out (by kernel_rfl)) (fun _ _ _ h=>h) (Or.inl ⟨zq64,?_⟩) hHeld ?_ ?_
 rotate_left
 ·rintro w' ⟨s0,s1,s2,s3,s4,s5,s6,s7,s8,s9⟩
  go_simp
  with_reducible rfl
 rotate_left
 ·simp only[Act.put,List.setIfInBounds_toArray,List.set_cons_zero,List.set_cons_succ,i64_w,i32_w]
  rfl
 refine one_ (i:=4) (N:=some 40) #[true,true,true,true,true,false,false,false,false,false,false,false,false,false,false,false,false,false,false,false,false,false,false,false,false,false,false,false,false,false,false,false,false,false,false,false,false,false,false,false,false] rfl rfl (one_of HT_.out (by kernel_rfl)) zq17 (fun K_ hK=>?_)
 clear hHeld
 refine goes_ Try.func47 (by kernel_rfl) rfl #[.agg #[.int .i64 p,.slice Am m.length cm],.agg #[.int .i64 a,.slice Ab b.length cb]] zq64 rfl rfl zq11 ?_
 with_reducible refine(spec_InstallKey.calls p _ _ m a _ _ b i1 si2 si3 _ ?d8_0 ?d8_1 ?d8_2 ?d8_3 HSI.out).mono ?_
 (case d8_0=>exact(Kd.C_below Cm.out HU.out))
 (case d8_1=>exact Lm.out)
 (case d8_2=>exact(Kd.C_below Cb.out HU.out))
 (case d8_3=>exact Lb.out)
 rintro e w23 ⟨v_,rfl,ho,hb⟩
 refine⟨_,rfl,?_⟩
 have n0_:=zM (below_step HU.out hb)
 clear HU
 have HU:=n0_
 clear n0_
 clear hb
 obtain⟨Asi,csi,ev_⟩:=Kd.S_slice ho
 subst ev_
 have Xsi:=zM (Kd.S_reads' ho)
 clear ho
 refine hK.out _ _ (HS.out _ HU.out) (fun hHeld=>?_)
 clear hK K_
 refine norm_ (a':=?_) ?_ ?_
 rotate_left
 ·show Act.put _ (some 40) _=_
  simp only[Act.put,List.setIfInBounds_toArray,List.set_cons_zero,List.set_cons_succ,i64_w,i32_w]
  rfl
 refine pure_ (i:=5) (N:=some 41) (v:=?_) (a':=?_) #[true,true,true,true,true,true,false,false,false,false,false,false,false,false,false,false,false,false,false,false,false,false,false,false,false,false,false,false,false,false,false,false,false,false,false,false,false,false,false,false,false] rfl rfl (any_of HT_.out (by kernel_rfl)) (fun _ _ _ h=>h) (Or.inl ⟨zq64,?_⟩) ?_ ?_
 rotate_left
 ·intro w'
  go_simp
  with_reducible rfl
 rotate_left
 ·simp only[Act.put,List.setIfInBounds_toArray,List.set_cons_zero,List.set_cons_succ,i64_w,i32_w]
  rfl
 refine pure_ (i:=6) (N:=some 42) (v:=?_) (a':=?_) #[true,true,true,true,true,true,true,false,false,false,false,false,false,false,false,false,false,false,false,false,false,false,false,false,false,false,false,false,false,false,false,false,false,false,false,false,false,false,false,false,false] rfl rfl (any_of HT_.out (by kernel_rfl)) (fun _ _ _ h=>h) (Or.inl ⟨zq64,?_⟩) ?_ ?_
 rotate_left
 ·intro w'
  go_simp
  with_reducible rfl
 rotate_left
 ·simp only[Act.put,List.setIfInBounds_toArray,List.set_cons_zero,List.set_cons_succ,i64_w,i32_w]
  rfl
 refine pure_ (i:=7) (N:=some 43) (v:=?_) (a':=?_) #[true,true,true,true,true,true,true,true,false,false,false,false,false,false,false,false,false,false,false,false,false,false,false,false,false,false,false,false,false,false,false,false,false,false,false,false,false,false,false,false,false] rfl rfl (any_of HT_.out (by kernel_rfl)) (fun _ _ _ h=>h) (Or.inl ⟨zq64,?_⟩) ?_ ?_
 rotate_left
 ·intro w'
  go_simp
  with_reducible rfl
 rotate_left
 ·simp only[Act.put,List.setIfInBounds_toArray,List.set_cons_zero,List.set_cons_succ,i64_w,i32_w]
  rfl
 refine pure_ (i:=8) (N:=some 44) (v:=?_) (a':=?_) #[true,true,true,true,true,true,true,true,true,false,false,false,false,false,false,false,false,false,false,false,false,false,false,false,false,false,false,false,false,false,false,false,false,false,false,false,false,false,false,false,false] rfl rfl (any_of HT_.out (by kernel_rfl)) (fun _ _ _ h=>h) (Or.inl ⟨zq64,?_⟩) ?_ ?_
 rotate_left
 ·intro w'
  go_simp
  with_reducible rfl
 rotate_left
 ·simp only[Act.put,List.setIfInBounds_toArray,List.set_cons_zero,List.set_cons_succ,i64_w,i32_w]
  rfl
 refine take_ (i:=9) (N:=some 45) (v:=?_) (a':=?_) #[true,true,true,true,true,true,true,true,true,true,false,false,false,false,false,false,false,false,false,false,false,false,false,false,false,false,false,false,false,false,false,false,false,false,false,false,false,false,false,false,false] rfl rfl (take_ofW HT_.out HW_.out (by kernel_rfl)) (fun _ _ _ h=>h) (Or.inl ⟨zq64,?_⟩) hHeld ?_ ?_
 rotate_left
 ·rintro w' ⟨s0,s1,s2,s3,s4,s5,s6,s7,s8,s9⟩
  go_simp
  with_reducible rfl
 rotate_left
 ·simp only[Act.put,List.setIfInBounds_toArray,List.set_cons_zero,List.set_cons_succ,i64_w,i32_w]
  rfl
 refine take_ (i:=10) (N:=some 46) (v:=?_) (a':=?_) #[true,true,true,true,true,true,true,true,true,true,true,false,false,false,false,false,false,false,false,false,false,false,false,false,false,false,false,false,false,false,false,false,false,false,false,false,false,false,false,false,false] rfl rfl (take_ofW HT_.out HW_.out (by kernel_rfl)) (fun _ _ _ h=>h) (Or.inl ⟨zq64,?_⟩) hHeld ?_ ?_
 rotate_left
 ·rintro w' ⟨s0,s1,s2,s3,s4,s5,s6,s7,s8,s9⟩
  go_simp
  with_reducible rfl
 rotate_left
 ·simp only[Act.put,List.setIfInBounds_toArray,List.set_cons_zero,List.set_cons_succ,i64_w,i32_w]
  rfl
 refine pure_ (i:=11) (N:=some 47) (v:=?_) (a':=?_) #[true,true,true,true,true,true,true,true,true,true,true,true,false,false,false,false,false,false,false,false,false,false,false,false,false,false,false,false,false,false,false,false,false,false,false,false,false,false,false,false,false] rfl rfl (any_of HT_.out (by kernel_rfl)) (fun _ _ _ h=>h) (Or.inl ⟨zq64,?_⟩) ?_ ?_
 rotate_left
 ·intro w'
  go_simp
  with_reducible rfl
 rotate_left
 ·simp only[Act.put,List.setIfInBounds_toArray,List.set_cons_zero,List.set_cons_succ,i64_w,i32_w]
  rfl
 refine one_ (i:=12) (N:=some 48) #[true,true,true,true,true,true,true,true,true,true,true,true,true,false,false,false,false,false,false,false,false,false,false,false,false,false,false,false,false,false,false,false,false,false,false,false,false,false,false,false,false] rfl rfl (one_of HT_.out (by kernel_rfl)) zq17 (fun K_ hK=>?_)
 clear hHeld
 refine goes_ Try.func45 (by kernel_rfl) rfl #[.agg #[.int .i64 q,.slice An n.length cn],.int .i64 id] zq64 rfl rfl zq11 ?_
 with_reducible refine(spec_RemoveKey.calls q _ _ n id x1 sx2 sx3 _ ?d9_0 ?d9_1 HSX.out).mono ?_
 (case d9_0=>exact(Kd.C_below Cn.out HU.out))
 (case d9_1=>exact Ln.out)
 rintro e w24 ⟨v_,rfl,ho,hb⟩
 refine⟨_,rfl,?_⟩
 have n0_:=zM (below_step HU.out hb)
 clear HU
 have HU:=n0_
 clear n0_
 clear hb
 obtain⟨Asx,csx,ev_⟩:=Kd.S_slice ho
 subst ev_
 have Xsx:=zM (Kd.S_reads' ho)
 clear ho
 refine hK.out _ _ (HS.out _ HU.out) (fun hHeld=>?_)
 clear hK K_
 refine norm_ (a':=?_) ?_ ?_
 rotate_left
 ·show Act.put _ (some 48) _=_
  simp only[Act.put,List.setIfInBounds_toArray,List.set_cons_zero,List.set_cons_succ,i64_w,i32_w]
  rfl
 refine pure_ (i:=13) (N:=some 49) (v:=?_) (a':=?_) #[true,true,true,true,true,true,true,true,true,true,true,true,true,true,false,false,false,false,false,false,false,false,false,false,false,false,false,false,false,false,false,false,false,false,false,false,false,false,false,false,false] rfl rfl (any_of HT_.out (by kernel_rfl)) (fun _ _ _ h=>h) (Or.inl ⟨zq64,?_⟩) ?_ ?_
 rotate_left
 ·intro w'
  go_simp
  with_reducible rfl
 rotate_left
 ·simp only[Act.put,List.setIfInBounds_toArray,List.set_cons_zero,List.set_cons_succ,i64_w,i32_w]
  rfl
 refine pure_ (i:=14) (N:=some 50) (v:=?_) (a':=?_) #[true,true,true,true,true,true,true,true,true,true,true,true,true,true,true,false,false,false,false,false,false,false,false,false,false,false,false,false,false,false,false,false,false,false,false,false,false,false,false,false,false] rfl rfl (any_of HT_.out (by kernel_rfl)) (fun _ _ _ h=>h) (Or.inl ⟨zq64,?_⟩) ?_ ?_
 rotate_left
 ·intro w'
  go_simp
  with_reducible rfl
 rotate_left
 ·simp only[Act.put,List.setIfInBounds_toArray,List.set_cons_zero,List.set_cons_succ,i64_w,i32_w]
  rfl
 refine pure_ (i:=15) (N:=some 51) (v:=?_) (a':=?_) #[true,true,true,true,true,true,true,true,true,true,true,true,true,true,true,true,false,false,false,false,false,false,false,false,false,false,false,false,false,false,false,false,false,false,false,false,false,false,false,false,false] rfl rfl (any_of HT_.out (by kernel_rfl)) (fun _ _ _ h=>h) (Or.inl ⟨zq64,?_⟩) ?_ ?_
 rotate_left
 ·intro w'
  go_simp
  with_reducible rfl
 rotate_left
 ·simp only[Act.put,List.setIfInBounds_toArray,List.set_cons_zero,List.set_cons_succ,i64_w,i32_w]
  rfl
 refine pure_ (i:=16) (N:=some 52) (v:=?_) (a':=?_) #[true,true,true,true,true,true,true,true,true,true,true,true,true,true,true,true,true,false,false,false,false,false,false,false,false,false,false,false,false,false,false,false,false,false,false,false,false,false,false,false,false] rfl rfl (any_of HT_.out (by kernel_rfl)) (fun _ _ _ h=>h) (Or.inl ⟨zq64,?_⟩) ?_ ?_
 rotate_left
 ·intro w'
  go_simp
  with_reducible rfl
 rotate_left
 ·simp only[Act.put,List.setIfInBounds_toArray,List.set_cons_zero,List.set_cons_succ,i64_w,i32_w]
  rfl
 refine pure_ (i:=17) (N:=some 53) (v:=?_) (a':=?_) #[true,true,true,true,true,true,true,true,true,true,true,true,true,true,true,true,true,true,false,false,false,false,false,false,false,false,false,false,false,false,false,false,false,false,false,false,false,false,false,false,false] rfl rfl (any_of HT_.out (by kernel_rfl)) (fun _ _ _ h=>h) (Or.inl ⟨zq64,?_⟩) ?_ ?_
 rotate_left
 ·intro w'
  go_simp
  with_reducible rfl
 rotate_left
 ·simp only[Act.put,List.setIfInBounds_toArray,List.set_cons_zero,List.set_cons_succ,i64_w,i32_w]
  rfl
 refine take_ (i:=18) (N:=some 54) (v:=?_) (a':=?_) #[true,true,true,true,true,true,true,true,true,true,true,true,true,true,true,true,true,true,true,false,false,false,false,false,false,false,false,false,false,false,false,false,false,false,false,false,false,false,false,false,false] rfl rfl (take_ofW HT_.out HW_.out (by kernel_rfl)) (fun _ _ _ h=>h) (Or.inl ⟨zq64,?_⟩) hHeld ?_ ?_
 rotate_left
 ·rintro w' ⟨s0,s1,s2,s3,s4,s5,s6,s7,s8,s9⟩
  go_simp
  with_reducible rfl
 rotate_left
 ·simp only[Act.put,List.setIfInBounds_toArray,List.set_cons_zero,List.set_cons_succ,i64_w,i32_w]
  rfl
 refine take_ (i:=19) (N:=some 55) (v:=?_) (a':=?_) #[true,true,true,true,true,true,true,true,true,true,true,true,true,true,true,true,true,true,true,true,false,false,false,false,false,false,false,false,false,false,false,false,false,false,false,false,false,false,false,false,false] rfl rfl (take_ofW HT_.out HW_.out (by kernel_rfl)) (fun _ _ _ h=>h) (Or.inl ⟨zq64,?_⟩) hHeld ?_ ?_
 rotate_left
 ·rintro w' ⟨s0,s1,s2,s3,s4,s5,s6,s7,s8,s9⟩
  go_simp
  with_reducible rfl
 rotate_left
 ·simp only[Act.put,List.setIfInBounds_toArray,List.set_cons_zero,List.set_cons_succ,i64_w,i32_w]
  rfl
 refine pure_ (i:=20) (N:=some 56) (v:=?_) (a':=?_) #[true,true,true,true,true,true,true,true,true,true,true,true,true,true,true,true,true,true,true,true,true,false,false,false,false,false,false,false,false,false,false,false,false,false,false,false,false,false,false,false,false] rfl rfl (any_of HT_.out (by kernel_rfl)) (fun _ _ _ h=>h) (Or.inl ⟨zq64,?_⟩) ?_ ?_
 rotate_left
 ·intro w'
  go_simp
  with_reducible rfl
 rotate_left
 ·simp only[Act.put,List.setIfInBounds_toArray,List.set_cons_zero,List.set_cons_succ,i64_w,i32_w]
  rfl
 refine one_ (i:=21) (N:=some 57) #[true,true,true,true,true,true,true,true,true,true,true,true,true,true,true,true,true,true,true,true,true,true,false,false,false,false,false,false,false,false,false,false,false,false,false,false,false,false,false,false,false] rfl rfl (one_of HT_.out (by kernel_rfl)) zq17 (fun K_ hK=>?_)
 clear hHeld
 refine goes_ Try.func43 (by kernel_rfl) rfl #[.agg #[.int .i64 q,.slice An n.length cn],.int .i64 id] zq64 rfl rfl zq11 ?_
 with_reducible refine(spec_UseKey.calls q _ _ n id u1 su2 su3 _ ?d10_0 ?d10_1 HSU.out).mono ?_
 (case d10_0=>exact(Kd.C_below Cn.out HU.out))
 (case d10_1=>exact Ln.out)
 rintro e w25 ⟨v_,rfl,ho,hb⟩
 refine⟨_,rfl,?_⟩
 have n0_:=zM (below_step HU.out hb)
 clear HU
 have HU:=n0_
 clear n0_
 clear hb
 obtain⟨Asu,csu,ev_⟩:=Kd.S_slice ho
 subst ev_
 have Xsu:=zM (Kd.S_reads' ho)
 clear ho
 refine hK.out _ _ (HS.out _ HU.out) (fun hHeld=>?_)
 clear hK K_
 refine norm_ (a':=?_) ?_ ?_
 rotate_left
 ·show Act.put _ (some 57) _=_
  simp only[Act.put,List.setIfInBounds_toArray,List.set_cons_zero,List.set_cons_succ,i64_w,i32_w]
  rfl
 refine pure_ (i:=22) (N:=some 58) (v:=?_) (a':=?_) #[true,true,true,true,true,true,true,true,true,true,true,true,true,true,true,true,true,true,true,true,true,true,true,false,false,false,false,false,false,false,false,false,false,false,false,false,false,false,false,false,false] rfl rfl (any_of HT_.out (by kernel_rfl)) (fun _ _ _ h=>h) (Or.inl ⟨zq64,?_⟩) ?_ ?_
 rotate_left
 ·intro w'
  go_simp
  with_reducible rfl
 rotate_left
 ·simp only[Act.put,List.setIfInBounds_toArray,List.set_cons_zero,List.set_cons_succ,i64_w,i32_w]
  rfl
 refine pure_ (i:=23) (N:=some 59) (v:=?_) (a':=?_) #[true,true,true,true,true,true,true,true,true,true,true,true,true,true,true,true,true,true,true,true,true,true,true,true,false,false,false,false,false,false,false,false,false,false,false,false,false,false,false,false,false] rfl rfl (any_of HT_.out (by kernel_rfl)) (fun _ _ _ h=>h) (Or.inl ⟨zq64,?_⟩) ?_ ?_
 rotate_left
 ·intro w'
  go_simp
  with_reducible rfl
 rotate_left
 ·simp only[Act.put,List.setIfInBounds_toArray,List.set_cons_zero,List.set_cons_succ,i64_w,i32_w]
  rfl
 refine pure_ (i:=24) (N:=some 60) (v:=?_) (a':=?_) #[true,true,true,true,true,true,true,true,true,true,true,true,true,true,true,true,true,true,true,true,true,true,true,true,true,false,false,false,false,false,false,false,false,false,false,false,false,false,false,false,false] rfl rfl (any_of HT_.out (by kernel_rfl)) (fun _ _ _ h=>h) (Or.inl ⟨zq64,?_⟩) ?_ ?_
 rotate_left
 ·intro w'
  go_simp
  with_reducible rfl
 rotate_left
 ·simp only[Act.put,List.setIfInBounds_toArray,List.set_cons_zero,List.set_cons_succ,i64_w,i32_w]
  rfl
 refine pure_ (i:=25) (N:=some 61) (v:=?_) (a':=?_) #[true,true,true,true,true,true,true,true,true,true,true,true,true,true,true,true,true,true,true,true,true,true,true,true,true,true,false,false,false,false,false,false,false,false,false,false,false,false,false,false,false] rfl rfl (any_of HT_.out (by kernel_rfl)) (fun _ _ _ h=>h) (Or.inl ⟨zq64,?_⟩) ?_ ?_
 rotate_left
 ·intro w'
  go_simp
  with_reducible rfl
 rotate_left
 ·simp only[Act.put,List.setIfInBounds_toArray,List.set_cons_zero,List.set_cons_succ,i64_w,i32_w]
  rfl
 refine pure_ (i:=26) (N:=some 62) (v:=?_) (a':=?_) #[true,true,true,true,true,true,true,true,true,true,true,true,true,true,true,true,true,true,true,true,true,true,true,true,true,true,true,false,false,false,false,false,false,false,false,false,false,false,false,false,false] rfl rfl (any_of HT_.out (by kernel_rfl)) (fun _ _ _ h=>h) (Or.inl ⟨zq64,?_⟩) ?_ ?_
 rotate_left
 ·intro w'
  go_simp
  with_reducible rfl
 rotate_left
 ·simp only[Act.put,List.setIfInBounds_toArray,List.set_cons_zero,List.set_cons_succ,i64_w,i32_w]
  rfl
 refine take_ (i:=27) (N:=some 63) (v:=?_) (a':=?_) #[true,true,true,true,true,true,true,true,true,true,true,true,true,true,true,true,true,true,true,true,true,true,true,true,true,true,true,true,false,false,false,false,false,false,false,false,false,false,false,false,false] rfl rfl (take_ofW HT_.out HW_.out (by kernel_rfl)) (fun _ _ _ h=>h) (Or.inl ⟨zq64,?_⟩) hHeld ?_ ?_
 rotate_left
 ·rintro w' ⟨s0,s1,s2,s3,s4,s5,s6,s7,s8,s9⟩
  go_simp
  with_reducible rfl
 rotate_left
 ·simp only[Act.put,List.setIfInBounds_toArray,List.set_cons_zero,List.set_cons_succ,i64_w,i32_w]
  rfl
 refine take_ (i:=28) (N:=some 64) (v:=?_) (a':=?_) #[true,true,true,true,true,true,true,true,true,true,true,true,true,true,true,true,true,true,true,true,true,true,true,true,true,true,true,true,true,false,false,false,false,false,false,false,false,false,false,false,false] rfl rfl (take_ofW HT_.out HW_.out (by kernel_rfl)) (fun _ _ _ h=>h) (Or.inl ⟨zq64,?_⟩) hHeld ?_ ?_
 rotate_left
 ·rintro w' ⟨s0,s1,s2,s3,s4,s5,s6,s7,s8,s9⟩
  go_simp
  with_reducible rfl
 rotate_left
 ·simp only[Act.put,List.setIfInBounds_toArray,List.set_cons_zero,List.set_cons_succ,i64_w,i32_w]
  rfl
 refine pure_ (i:=29) (N:=some 65) (v:=?_) (a':=?_) #[true,true,true,true,true,true,true,true,true,true,true,true,true,true,true,true,true,true,true,true,true,true,true,true,true,true,true,true,true,true,false,false,false,false,false,false,false,false,false,false,false] rfl rfl (any_of HT_.out (by kernel_rfl)) (fun _ _ _ h=>h) (Or.inl ⟨zq64,?_⟩) ?_ ?_
 rotate_left
 ·intro w'
  go_simp
  with_reducible rfl
 rotate_left
 ·simp only[Act.put,List.setIfInBounds_toArray,List.set_cons_zero,List.set_cons_succ,i64_w,i32_w]
  rfl
 refine one_ (i:=30) (N:=some 66) #[true,true,true,true,true,true,true,true,true,true,true,true,true,true,true,true,true,true,true,true,true,true,true,true,true,true,true,true,true,true,true,false,false,false,false,false,false,false,false,false,false] rfl rfl (one_of HT_.out (by kernel_rfl)) zq17 (fun K_ hK=>?_)
 clear hHeld
 refine goes_ Try.func38 (by kernel_rfl) rfl #[.agg #[.int .i64 q,.slice An n.length cn],.int .i64 id] zq64 rfl rfl zq11 ?_
 with_reducible refine(spec_FindKey.calls q _ _ n id f1 sf2 sf3 _ ?d11_0 ?d11_1 HSF.out).mono ?_
 (case d11_0=>exact(Kd.C_below Cn.out HU.out))
 (case d11_1=>exact Ln.out)
 rintro e w26 ⟨v_,rfl,ho,hb⟩
 refine⟨_,rfl,?_⟩
 have n0_:=zM (below_step HU.out hb)
 clear HU
 have HU:=n0_
 clear n0_
 clear hb
 obtain⟨Asf,csf,ev_⟩:=Kd.R_slice ho
 subst ev_
 have Xsf:=zM (Kd.R_reads' ho)
 clear ho
 refine hK.out _ _ (HS.out _ HU.out) (fun hHeld=>?_)
 clear hK K_
 refine norm_ (a':=?_) ?_ ?_
 rotate_left
 ·show Act.put _ (some 66) _=_
  simp only[Act.put,List.setIfInBounds_toArray,List.set_cons_zero,List.set_cons_succ,i64_w,i32_w]
  rfl
 refine pure_ (i:=31) (N:=some 67) (v:=?_) (a':=?_) #[true,true,true,true,true,true,true,true,true,true,true,true,true,true,true,true,true,true,true,true,true,true,true,true,true,true,true,true,true,true,true,true,false,false,false,false,false,false,false,false,false] rfl rfl (any_of HT_.out (by kernel_rfl)) (fun _ _ _ h=>h) (Or.inl ⟨zq64,?_⟩) ?_ ?_
 rotate_left
 ·intro w'
  go_simp
  with_reducible rfl
 rotate_left
 ·simp only[Act.put,List.setIfInBounds_toArray,List.set_cons_zero,List.set_cons_succ,i64_w,i32_w]
  rfl
 refine pure_ (i:=32) (N:=some 68) (v:=?_) (a':=?_) #[true,true,true,true,true,true,true,true,true,true,true,true,true,true,true,true,true,true,true,true,true,true,true,true,true,true,true,true,true,true,true,true,true,false,false,false,false,false,false,false,false] rfl rfl (any_of HT_.out (by kernel_rfl)) (fun _ _ _ h=>h) (Or.inl ⟨zq64,?_⟩) ?_ ?_
 rotate_left
 ·intro w'
  go_simp
  with_reducible rfl
 rotate_left
 ·simp only[Act.put,List.setIfInBounds_toArray,List.set_cons_zero,List.set_cons_succ,i64_w,i32_w]
  rfl
 refine pure_ (i:=33) (N:=some 69) (v:=?_) (a':=?_) #[true,true,true,true,true,true,true,true,true,true,true,true,true,true,true,true,true,true,true,true,true,true,true,true,true,true,true,true,true,true,true,true,true,true,false,false,false,false,false,false,false] rfl rfl (any_of HT_.out (by kernel_rfl)) (fun _ _ _ h=>h) (Or.inl ⟨zq64,?_⟩) ?_ ?_
 rotate_left
 ·intro w'
  go_simp
  with_reducible rfl
 rotate_left
 ·simp only[Act.put,List.setIfInBounds_toArray,List.set_cons_zero,List.set_cons_succ,i64_w,i32_w]
  rfl
 refine pure_ (i:=34) (N:=some 70) (v:=?_) (a':=?_) #[true,true,true,true,true,true,true,true,true,true,true,true,true,true,true,true,true,true,true,true,true,true,true,true,true,true,true,true,true,true,true,true,true,true,true,false,false,false,false,false,false] rfl rfl (any_of HT_.out (by kernel_rfl)) (fun _ _ _ h=>h) (Or.inl ⟨zq64,?_⟩) ?_ ?_
 rotate_left
 ·intro w'
  go_simp
  with_reducible rfl
 rotate_left
 ·simp only[Act.put,List.setIfInBounds_toArray,List.set_cons_zero,List.set_cons_succ,i64_w,i32_w]
  rfl
 refine take_ (i:=35) (N:=some 71) (v:=?_) (a':=?_) #[true,true,true,true,true,true,true,true,true,true,true,true,true,true,true,true,true,true,true,true,true,true,true,true,true,true,true,true,true,true,true,true,true,true,true,true,false,false,false,false,false] rfl rfl (take_ofW HT_.out HW_.out (by kernel_rfl)) (fun _ _ _ h=>h) (Or.inl ⟨zq64,?_⟩) hHeld ?_ ?_
 rotate_left
 ·rintro w' ⟨s0,s1,s2,s3,s4,s5,s6,s7,s8,s9⟩
  go_simp
  with_reducible rfl
 rotate_left
 ·simp only[Act.put,List.setIfInBounds_toArray,List.set_cons_zero,List.set_cons_succ,i64_w,i32_w]
  rfl
 refine take_ (i:=37) (N:=some 73) (v:=?_) (a':=?_) #[true,true,true,true,true,true,true,true,true,true,true,true,true,true,true,true,true,true,true,true,true,true,true,true,true,true,true,true,true,true,true,true,true,true,true,true,false,true,false,false,false] rfl rfl (take_ofW HT_.out HW_.out (by kernel_rfl)) (fun _ _ _ h=>h) (Or.inl ⟨zq64,?_⟩) hHeld ?_ ?_
 rotate_left
 ·rintro w' ⟨s0,s1,s2,s3,s4,s5,s6,s7,s8,s9⟩
  go_simp
  with_reducible rfl
 rotate_left
 ·simp only[Act.put,List.setIfInBounds_toArray,List.set_cons_zero,List.set_cons_succ,i64_w,i32_w]
  rfl
 refine one_ (i:=36) (N:=some 72) #[true,true,true,true,true,true,true,true,true,true,true,true,true,true,true,true,true,true,true,true,true,true,true,true,true,true,true,true,true,true,true,true,true,true,true,true,true,true,false,false,false] rfl rfl (one_of HT_.out (by kernel_rfl)) zq17 (fun K_ hK=>?_)
 clear hHeld
 refine goes_ Try.func25 (by kernel_rfl) rfl #[.agg #[.int .i64 p,.slice Am m.length cm]] zq64 rfl rfl zq11 ?_
 with_reducible refine(impl_RingFault.calls K p _ _ m rf _ ?d12_0 ?d12_1 HRF.out).mono ?_
 (case d12_0=>exact(Kd.C_below Cm.out HU.out))
 (case d12_1=>exact Lm.out)
 rintro e w27 ⟨rfl,hb⟩
 refine⟨_,rfl,?_⟩
 have n0_:=zM (below_step HU.out hb)
 clear HU
 have HU:=n0_
 clear n0_
 clear hb
 refine hK.out _ _ (HS.out _ HU.out) (fun hHeld=>?_)
 clear hK K_
 refine norm_ (a':=?_) ?_ ?_
 rotate_left
 ·show Act.put _ (some 72) _=_
  simp only[Act.put,List.setIfInBounds_toArray,List.set_cons_zero,List.set_cons_succ,i64_w,i32_w]
  rfl
 refine one_ (i:=38) (N:=some 74) #[true,true,true,true,true,true,true,true,true,true,true,true,true,true,true,true,true,true,true,true,true,true,true,true,true,true,true,true,true,true,true,true,true,true,true,true,true,true,true,false,false] rfl rfl (one_of HT_.out (by kernel_rfl)) zq17 (fun K_ hK=>?_)
 clear hHeld
 refine goes_ Try.func37 (by kernel_rfl) rfl #[.agg #[.int .i64 p,.slice Am m.length cm]] zq64 rfl rfl zq11 ?_
 with_reducible refine(spec_RingFault.calls p _ _ m rf _ ?d13_0 ?d13_1 HSR.out).mono ?_
 (case d13_0=>exact(Kd.C_below Cm.out HU.out))
 (case d13_1=>exact Lm.out)
 rintro e w28 ⟨rfl,hb⟩
 refine⟨_,rfl,?_⟩
 have n0_:=zM (below_step HU.out hb)
 clear HU
 have HU:=n0_
 clear n0_
 clear hb
 refine hK.out _ _ (HS.out _ HU.out) (fun hHeld=>?_)
 clear hK K_
 refine norm_ (a':=?_) ?_ ?_
 rotate_left
 ·show Act.put _ (some 74) _=_
  simp only[Act.put,List.setIfInBounds_toArray,List.set_cons_zero,List.set_cons_succ,i64_w,i32_w]
  rfl
 refine pure_ (i:=39) (N:=some 75) (v:=?_) (a':=?_) #[true,true,true,true,true,true,true,true,true,true,true,true,true,true,true,true,true,true,true,true,true,true,true,true,true,true,true,true,true,true,true,true,true,true,true,true,true,true,true,true,false] rfl rfl (any_of HT_.out (by kernel_rfl)) (fun _ _ _ h=>h) (Or.inl ⟨zq64,?_⟩) ?_ ?_
 rotate_left
 ·intro w'
  go_simp
  with_reducible rfl
 rotate_left
 ·simp only[Act.put,List.setIfInBounds_toArray,List.set_cons_zero,List.set_cons_succ,i64_w,i32_w]
  rfl
 refine pure_ (i:=40) (N:=some 76) (v:=?_) (a':=?_) #[true,true,true,true,true,true,true,true,true,true,true,true,true,true,true,true,true,true,true,true,true,true,true,true,true,true,true,true,true,true,true,true,true,true,true,true,true,true,true,true,true] rfl rfl (any_of HT_.out (by kernel_rfl)) (fun _ _ _ h=>h) (Or.inl ⟨zq64,?_⟩) ?_ ?_
 rotate_left
 ·intro w'
  go_simp
  with_reducible rfl
 rotate_left
 ·simp only[Act.put,List.setIfInBounds_toArray,List.set_cons_zero,List.set_cons_succ,i64_w,i32_w]
  rfl
 refine done_ (done_of HT_.out (by kernel_rfl)) ?_
 go_upto_region 11 with (fail)
 try simp only[Act.put,List.setIfInBounds_toArray,List.set_cons_zero,List.set_cons_succ]
 clear HS
 go_cut [112] (fun v112 wc112=>v112=.bool false∧Aside0 (Below w21.heap.size w21 wc112))
 case first=>
  rcases HX_.out with hn|hp
  ·have ex1:(x1 == 0)=false:=beq_eq_false_iff_ne.mpr hn
   clear hn
   have HS:Aside0 (∀ w',Below w21.heap.size w21 w'→(w'.cell? ⟨k8_,0,none⟩=some (.int .i64 x1)∧w'.cell? ⟨k8_,1,none⟩=some (.int .i64 x2)∧w'.cell? ⟨k8_,2,none⟩=some (.slice Ax x3.length cx)∧w'.cell? ⟨k6_,0,none⟩=some (.int .i64 q)∧w'.cell? ⟨k6_,1,none⟩=some (.slice An n.length cn)∧w'.cell? ⟨k10_,1,none⟩=some (.int .i64 f2)∧w'.cell? ⟨k10_,2,none⟩=some (.slice Af f3.length cf))):=⟨fun w' hb=>⟨(blk_cell (blk_below (g:=k8_) (o:=.cells #[.int .i64 x1,.int .i64 x2,.slice Ax x3.length cx] 31 (0,0)) B8.out hb) 0).trans rfl,(blk_cell (blk_below (g:=k8_) (o:=.cells #[.int .i64 x1,.int .i64 x2,.slice Ax x3.length cx] 31 (0,0)) B8.out hb) 1).trans rfl,(blk_cell (blk_below (g:=k8_) (o:=.cells #[.int .i64 x1,.int .i64 x2,.slice Ax x3.length cx] 31 (0,0)) B8.out hb) 2).trans rfl,(blk_cell (blk_below (g:=k6_) (o:=.cells #[.int .i64 q,.slice An n.length cn] 29 (0,0)) B6.out hb) 0).trans rfl,(blk_cell (blk_below (g:=k6_) (o:=.cells #[.int .i64 q,.slice An n.length cn] 29 (0,0)) B6.out hb) 1).trans rfl,(blk_cell (blk_below (g:=k10_) (o:=.cells #[.int .i64 f1,.int .i64 f2,.slice Af f3.length cf] 58 (0,0)) B10.out hb) 1).trans rfl,(blk_cell (blk_below (g:=k10_) (o:=.cells #[.int .i64 f1,.int .i64 f2,.slice Af f3.length cf] 58 (0,0)) B10.out hb) 2).trans rfl⟩⟩
   have n0_:=zM (below_drew1 HU.out)
   clear HU
   have HU:=n0_
   clear n0_
   refine start_ (n:=36) (S:=fun w'=>w'.cell? ⟨k8_,0,none⟩=some (.int .i64 x1)∧w'.cell? ⟨k8_,1,none⟩=some (.int .i64 x2)∧w'.cell? ⟨k8_,2,none⟩=some (.slice Ax x3.length cx)∧w'.cell? ⟨k6_,0,none⟩=some (.int .i64 q)∧w'.cell? ⟨k6_,1,none⟩=some (.slice An n.length cn)∧w'.cell? ⟨k10_,1,none⟩=some (.int .i64 f2)∧w'.cell? ⟨k10_,2,none⟩=some (.slice Af f3.length cf)) (ds:=[]) #[false,false,false,false,false,false,false,false,false,false,false,false,false,false,false,false,false,false,false,false,false,false,false,false,false,false,false,false,false,false,false,false,false,false,false,false] (by kernel_rfl) rfl rfl (HS.out _ HU.out) (fun hHeld=>?_)
   refine with_tabW laws_FnRings.tab11 laws_FnRings.bits11 (fun HT_ HW_=>?_)
   generalize w28.drew=w29 at HU hHeld ⊢
   refine pure_ (i:=0) (N:=some 77) (v:=?_) (a':=?_) #[true,false,false,false,false,false,false,false,false,false,false,false,false,false,false,false,false,false,false,false,false,false,false,false,false,false,false,false,false,false,false,false,false,false,false,false] rfl rfl (any_of HT_.out (by kernel_rfl)) (fun _ _ _ h=>h) (Or.inl ⟨zq64,?_⟩) ?_ ?_
   rotate_left
   ·intro w'
    go_simp
    with_reducible rfl
   rotate_left
   ·simp only[Act.put,List.setIfInBounds_toArray,List.set_cons_zero,List.set_cons_succ,i64_w,i32_w]
    rfl
   refine take_ (i:=1) (N:=some 78) (v:=?_) (a':=?_) #[true,true,false,false,false,false,false,false,false,false,false,false,false,false,false,false,false,false,false,false,false,false,false,false,false,false,false,false,false,false,false,false,false,false,false,false] rfl rfl (take_ofW HT_.out HW_.out (by kernel_rfl)) (fun _ _ _ h=>h) (Or.inl ⟨zq64,?_⟩) hHeld ?_ ?_
   rotate_left
   ·rintro w' ⟨s0,s1,s2,s3,s4,s5,s6⟩
    go_simp
    with_reducible rfl
   rotate_left
   ·simp only[Act.put,List.setIfInBounds_toArray,List.set_cons_zero,List.set_cons_succ,i64_w,i32_w]
    rfl
   refine pure_ (i:=2) (N:=some 79) (v:=?_) (a':=?_) #[true,true,true,false,false,false,false,false,false,false,false,false,false,false,false,false,false,false,false,false,false,false,false,false,false,false,false,false,false,false,false,false,false,false,false,false] rfl rfl (any_of HT_.out (by kernel_rfl)) (fun _ _ _ h=>h) (Or.inl ⟨zq64,?_⟩) ?_ ?_
   rotate_left
   ·intro w'
    go_simp
    with_reducible rfl
   rotate_left
   ·simp only[Act.put,List.setIfInBounds_toArray,List.set_cons_zero,List.set_cons_succ,i64_w,i32_w]
    rfl
   refine pure_ (i:=3) (N:=some 80) (v:=?_) (a':=?_) #[true,true,true,true,false,false,false,false,false,false,false,false,false,false,false,false,false,false,false,false,false,false,false,false,false,false,false,false,false,false,false,false,false,false,false,false] rfl rfl (any_of HT_.out (by kernel_rfl)) (fun _ _ _ h=>h) (Or.inl ⟨zq64,?_⟩) ?_ ?_
   rotate_left
   ·intro w'
    go_simp
    with_reducible rfl
   rotate_left
   ·simp only[Act.put,List.setIfInBounds_toArray,List.set_cons_zero,List.set_cons_succ,i64_w,i32_w]
    rfl
   refine pure_ (i:=4) (N:=some 81) (v:=undef) (a':=?_) #[true,true,true,true,true,false,false,false,false,false,false,false,false,false,false,false,false,false,false,false,false,false,false,false,false,false,false,false,false,false,false,false,false,false,false,false] rfl rfl (any_of HT_.out (by kernel_rfl)) (fun _ _ _ h=>h) (Or.inr ⟨zq64,rfl⟩) ?_ ?_
   rotate_left
   ·simp only[Act.put,List.setIfInBounds_toArray,List.set_cons_zero,List.set_cons_succ,i64_w,i32_w]
    rfl
   refine pure_ (i:=5) (N:=some 82) (v:=undef) (a':=?_) #[true,true,true,true,true,true,false,false,false,false,false,false,false,false,false,false,false,false,false,false,false,false,false,false,false,false,false,false,false,false,false,false,false,false,false,false] rfl rfl (any_of HT_.out (by kernel_rfl)) (fun _ _ _ h=>h) (Or.inr ⟨zq64,rfl⟩) ?_ ?_
   rotate_left
   ·simp only[Act.put,List.setIfInBounds_toArray,List.set_cons_zero,List.set_cons_succ,i64_w,i32_w]
    rfl
   refine pure_ (i:=6) (N:=some 83) (v:=undef) (a':=?_) #[true,true,true,true,true,true,true,false,false,false,false,false,false,false,false,false,false,false,false,false,false,false,false,false,false,false,false,false,false,false,false,false,false,false,false,false] rfl rfl (any_of HT_.out (by kernel_rfl)) (fun _ _ _ h=>h) (Or.inr ⟨zq64,rfl⟩) ?_ ?_
   rotate_left
   ·simp only[Act.put,List.setIfInBounds_toArray,List.set_cons_zero,List.set_cons_succ,i64_w,i32_w]
    rfl
   refine pure_ (i:=7) (N:=some 84) (v:=undef) (a':=?_) #[true,true,true,true,true,true,true,true,false,false,false,false,false,false,false,false,false,false,false,false,false,false,false,false,false,false,false,false,false,false,false,false,false,false,false,false] rfl rfl (any_of HT_.out (by kernel_rfl)) (fun _ _ _ h=>h) (Or.inr ⟨zq64,rfl⟩) ?_ ?_
   rotate_left
   ·simp only[Act.put,List.setIfInBounds_toArray,List.set_cons_zero,List.set_cons_succ,i64_w,i32_w]
    rfl
   refine pure_ (i:=8) (N:=some 85) (v:=undef) (a':=?_) #[true,true,true,true,true,true,true,true,true,false,false,false,false,false,false,false,false,false,false,false,false,false,false,false,false,false,false,false,false,false,false,false,false,false,false,false] rfl rfl (any_of HT_.out (by kernel_rfl)) (fun _ _ _ h=>h) (Or.inr ⟨zq64,rfl⟩) ?_ ?_
   rotate_left
   ·simp only[Act.put,List.setIfInBounds_toArray,List.set_cons_zero,List.set_cons_succ,i64_w,i32_w]
    rfl
   refine pure_ (i:=9) (N:=some 86) (v:=undef) (a':=?_) #[true,true,true,true,true,true,true,true,true,true,false,false,false,false,false,false,false,false,false,false,false,false,false,false,false,false,false,false,false,false,false,false,false,false,false,false] rfl rfl (any_of HT_.out (by kernel_rfl)) (fun _ _ _ h=>h) (Or.inr ⟨zq64,rfl⟩) ?_ ?_
   rotate_left
   ·simp only[Act.put,List.setIfInBounds_toArray,List.set_cons_zero,List.set_cons_succ,i64_w,i32_w]
    rfl
   refine pure_ (i:=10) (N:=some 87) (v:=undef) (a':=?_) #[true,true,true,true,true,true,true,true,true,true,true,false,false,false,false,false,false,false,false,false,false,false,false,false,false,false,false,false,false,false,false,false,false,false,false,false] rfl rfl (any_of HT_.out (by kernel_rfl)) (fun _ _ _ h=>h) (Or.inr ⟨zq64,rfl⟩) ?_ ?_
   rotate_left
   ·simp only[Act.put,List.setIfInBounds_toArray,List.set_cons_zero,List.set_cons_succ,i64_w,i32_w]
    rfl
   refine pure_ (i:=11) (N:=some 88) (v:=undef) (a':=?_) #[true,true,true,true,true,true,true,true,true,true,true,true,false,false,false,false,false,false,false,false,false,false,false,false,false,false,false,false,false,false,false,false,false,false,false,false] rfl rfl (any_of HT_.out (by kernel_rfl)) (fun _ _ _ h=>h) (Or.inr ⟨zq64,rfl⟩) ?_ ?_
   rotate_left
   ·simp only[Act.put,List.setIfInBounds_toArray,List.set_cons_zero,List.set_cons_succ,i64_w,i32_w]
    rfl
   refine pure_ (i:=12) (N:=some 89) (v:=undef) (a':=?_) #[true,true,true,true,true,true,true,true,true,true,true,true,true,false,false,false,false,false,false,false,false,false,false,false,false,false,false,false,false,false,false,false,false,false,false,false] rfl rfl (any_of HT_.out (by kernel_rfl)) (fun _ _ _ h=>h) (Or.inr ⟨zq64,rfl⟩) ?_ ?_
   rotate_left
   ·simp only[Act.put,List.setIfInBounds_toArray,List.set_cons_zero,List.set_cons_succ,i64_w,i32_w]
    rfl
   refine pure_ (i:=13) (N:=some 90) (v:=undef) (a':=?_) #[true,true,true,true,true,true,true,true,true,true,true,true,true,true,false,false,false,false,false,false,false,false,false,false,false,false,false,false,false,false,false,false,false,false,false,false] rfl rfl (any_of HT_.out (by kernel_rfl)) (fun _ _ _ h=>h) (Or.inr ⟨zq64,rfl⟩) ?_ ?_
   rotate_left
   ·simp only[Act.put,List.setIfInBounds_toArray,List.set_cons_zero,List.set_cons_succ,i64_w,i32_w]
    rfl
   refine pure_ (i:=14) (N:=some 91) (v:=undef) (a':=?_) #[true,true,true,true,true,true,true,true,true,true,true,true,true,true,true,false,false,false,false,false,false,false,false,false,false,false,false,false,false,false,false,false,false,false,false,false] rfl rfl (any_of HT_.out (by kernel_rfl)) (fun _ _ _ h=>h) (Or.inr ⟨zq64,rfl⟩) ?_ ?_
   rotate_left
   ·simp only[Act.put,List.setIfInBounds_toArray,List.set_cons_zero,List.set_cons_succ,i64_w,i32_w]
    rfl
   refine pure_ (i:=15) (N:=some 92) (v:=undef) (a':=?_) #[true,true,true,true,true,true,true,true,true,true,true,true,true,true,true,true,false,false,false,false,false,false,false,false,false,false,false,false,false,false,false,false,false,false,false,false] rfl rfl (any_of HT_.out (by kernel_rfl)) (fun _ _ _ h=>h) (Or.inr ⟨zq64,rfl⟩) ?_ ?_
   rotate_left
   ·simp only[Act.put,List.setIfInBounds_toArray,List.set_cons_zero,List.set_cons_succ,i64_w,i32_w]
    rfl
   refine pure_ (i:=16) (N:=some 93) (v:=undef) (a':=?_) #[true,true,true,true,true,true,true,true,true,true,true,true,true,true,true,true,true,false,false,false,false,false,false,false,false,false,false,false,false,false,false,false,false,false,false,false] rfl rfl (any_of HT_.out (by kernel_rfl)) (fun _ _ _ h=>h) (Or.inr ⟨zq64,rfl⟩) ?_ ?_
   rotate_left
   ·simp only[Act.put,List.setIfInBounds_toArray,List.set_cons_zero,List.set_cons_succ,i64_w,i32_w]
    rfl
   refine pure_ (i:=17) (N:=some 94) (v:=undef) (a':=?_) #[true,true,true,true,true,true,true,true,true,true,true,true,true,true,true,true,true,true,false,false,false,false,false,false,false,false,false,false,false,false,false,false,false,false,false,false] rfl rfl (any_of HT_.out (by kernel_rfl)) (fun _ _ _ h=>h) (Or.inr ⟨zq64,rfl⟩) ?_ ?_
   rotate_left
   ·simp only[Act.put,List.setIfInBounds_toArray,List.set_cons_zero,List.set_cons_succ,i64_w,i32_w]
    rfl
   refine pure_ (i:=18) (N:=some 95) (v:=undef) (a':=?_) #[true,true,true,true,true,true,true,true,true,true,true,true,true,true,true,true,true,true,true,false,false,false,false,false,false,false,false,false,false,false,false,false,false,false,false,false] rfl rfl (any_of HT_.out (by kernel_rfl)) (fun _ _ _ h=>h) (Or.inr ⟨zq64,rfl⟩) ?_ ?_
   rotate_left
   ·simp only[Act.put,List.setIfInBounds_toArray,List.set_cons_zero,List.set_cons_succ,i64_w,i32_w]
    rfl
   refine pure_ (i:=19) (N:=some 96) (v:=undef) (a':=?_) #[true,true,true,true,true,true,true,true,true,true,true,true,true,true,true,true,true,true,true,true,false,false,false,false,false,false,false,false,false,false,false,false,false,false,false,false] rfl rfl (any_of HT_.out (by kernel_rfl)) (fun _ _ _ h=>h) (Or.inr ⟨zq64,rfl⟩) ?_ ?_
   rotate_left
   ·simp only[Act.put,List.setIfInBounds_toArray,List.set_cons_zero,List.set_cons_succ,i64_w,i32_w]
    rfl
   refine pure_ (i:=20) (N:=some 97) (v:=undef) (a':=?_) #[true,true,true,true,true,true,true,true,true,true,true,true,true,true,true,true,true,true,true,true,true,false,false,false,false,false,false,false,false,false,false,false,false,false,false,false] rfl rfl (any_of HT_.out (by kernel_rfl)) (fun _ _ _ h=>h) (Or.inr ⟨zq64,rfl⟩) ?_ ?_
   rotate_left
   ·simp only[Act.put,List.setIfInBounds_toArray,List.set_cons_zero,List.set_cons_succ,i64_w,i32_w]
    rfl
   refine pure_ (i:=21) (N:=some 98) (v:=undef) (a':=?_) #[true,true,true,true,true,true,true,true,true,true,true,true,true,true,true,true,true,true,true,true,true,true,false,false,false,false,false,false,false,false,false,false,false,false,false,false] rfl rfl (any_of HT_.out (by kernel_rfl)) (fun _ _ _ h=>h) (Or.inr ⟨zq64,rfl⟩) ?_ ?_
   rotate_left
   ·simp only[Act.put,List.setIfInBounds_toArray,List.set_cons_zero,List.set_cons_succ,i64_w,i32_w]
    rfl
   refine pure_ (i:=22) (N:=some 99) (v:=undef) (a':=?_) #[true,true,true,true,true,true,true,true,true,true,true,true,true,true,true,true,true,true,true,true,true,true,true,false,false,false,false,false,false,false,false,false,false,false,false,false] rfl rfl (any_of HT_.out (by kernel_rfl)) (fun _ _ _ h=>h) (Or.inr ⟨zq64,rfl⟩) ?_ ?_
   rotate_left
   ·simp only[Act.put,List.setIfInBounds_toArray,List.set_cons_zero,List.set_cons_succ,i64_w,i32_w]
    rfl
   refine pure_ (i:=23) (N:=some 100) (v:=undef) (a':=?_) #[true,true,true,true,true,true,true,true,true,true,true,true,true,true,true,true,true,true,true,true,true,true,true,true,false,false,false,false,false,false,false,false,false,false,false,false] rfl rfl (any_of HT_.out (by kernel_rfl)) (fun _ _ _ h=>h) (Or.inr ⟨zq64,rfl⟩) ?_ ?_
   rotate_left
   ·simp only[Act.put,List.setIfInBounds_toArray,List.set_cons_zero,List.set_cons_succ,i64_w,i32_w]
    rfl
   refine pure_ (i:=24) (N:=some 101) (v:=undef) (a':=?_) #[true,true,true,true,true,true,true,true,true,true,true,true,true,true,true,true,true,true,true,true,true,true,true,true,true,false,false,false,false,false,false,false,false,false,false,false] rfl rfl (any_of HT_.out (by kernel_rfl)) (fun _ _ _ h=>h) (Or.inr ⟨zq64,rfl⟩) ?_ ?_
   rotate_left
   ·simp only[Act.put,List.setIfInBounds_toArray,List.set_cons_zero,List.set_cons_succ,i64_w,i32_w]
    rfl
   refine pure_ (i:=25) (N:=some 102) (v:=undef) (a':=?_) #[true,true,true,true,true,true,true,true,true,true,true,true,true,true,true,true,true,true,true,true,true,true,true,true,true,true,false,false,false,false,false,false,false,false,false,false] rfl rfl (any_of HT_.out (by kernel_rfl)) (fun _ _ _ h=>h) (Or.inr ⟨zq64,rfl⟩) ?_ ?_
   rotate_left
   ·simp only[Act.put,List.setIfInBounds_toArray,List.set_cons_zero,List.set_cons_succ,i64_w,i32_w]
    rfl
   refine pure_ (i:=26) (N:=some 103) (v:=undef) (a':=?_) #[true,true,true,true,true,true,true,true,true,true,true,true,true,true,true,true,true,true,true,true,true,true,true,true,true,true,true,false,false,false,false,false,false,false,false,false] rfl rfl (any_of HT_.out (by kernel_rfl)) (fun _ _ _ h=>h) (Or.inr ⟨zq64,rfl⟩) ?_ ?_
   rotate_left
   ·simp only[Act.put,List.setIfInBounds_toArray,List.set_cons_zero,List.set_cons_succ,i64_w,i32_w]
    rfl
   refine pure_ (i:=27) (N:=some 104) (v:=undef) (a':=?_) #[true,true,true,true,true,true,true,true,true,true,true,true,true,true,true,true,true,true,true,true,true,true,true,true,true,true,true,true,false,false,false,false,false,false,false,false] rfl rfl (any_of HT_.out (by kernel_rfl)) (fun _ _ _ h=>h) (Or.inr ⟨zq64,rfl⟩) ?_ ?_
   rotate_left
   ·simp only[Act.put,List.setIfInBounds_toArray,List.set_cons_zero,List.set_cons_succ,i64_w,i32_w]
    rfl
   refine pure_ (i:=28) (N:=some 105) (v:=undef) (a':=?_) #[true,true,true,true,true,true,true,true,true,true,true,true,true,true,true,true,true,true,true,true,true,true,true,true,true,true,true,true,true,false,false,false,false,false,false,false] rfl rfl (any_of HT_.out (by kernel_rfl)) (fun _ _ _ h=>h) (Or.inr ⟨zq64,rfl⟩) ?_ ?_
   rotate_left
   ·simp only[Act.put,List.setIfInBounds_toArray,List.set_cons_zero,List.set_cons_succ,i64_w,i32_w]
    rfl
   refine pure_ (i:=29) (N:=some 106) (v:=undef) (a':=?_) #[true,true,true,true,true,true,true,true,true,true,true,true,true,true,true,true,true,true,true,true,true,true,true,true,true,true,true,true,true,true,false,false,false,false,false,false] rfl rfl (any_of HT_.out (by kernel_rfl)) (fun _ _ _ h=>h) (Or.inr ⟨zq64,rfl⟩) ?_ ?_
   rotate_left
   ·simp only[Act.put,List.setIfInBounds_toArray,List.set_cons_zero,List.set_cons_succ,i64_w,i32_w]
    rfl
   refine pure_ (i:=30) (N:=some 107) (v:=undef) (a':=?_) #[true,true,true,true,true,true,true,true,true,true,true,true,true,true,true,true,true,true,true,true,true,true,true,true,true,true,true,true,true,true,true,false,false,false,false,false] rfl rfl (any_of HT_.out (by kernel_rfl)) (fun _ _ _ h=>h) (Or.inr ⟨zq64,rfl⟩) ?_ ?_
   rotate_left
   ·simp only[Act.put,List.setIfInBounds_toArray,List.set_cons_zero,List.set_cons_succ,i64_w,i32_w]
    rfl
   refine pure_ (i:=31) (N:=some 108) (v:=undef) (a':=?_) #[true,true,true,true,true,true,true,true,true,true,true,true,true,true,true,true,true,true,true,true,true,true,true,true,true,true,true,true,true,true,true,true,false,false,false,false] rfl rfl (any_of HT_.out (by kernel_rfl)) (fun _ _ _ h=>h) (Or.inr ⟨zq64,rfl⟩) ?_ ?_
   rotate_left
   ·simp only[Act.put,List.setIfInBounds_toArray,List.set_cons_zero,List.set_cons_succ,i64_w,i32_w]
    rfl
   refine pure_ (i:=32) (N:=some 109) (v:=undef) (a':=?_) #[true,true,true,true,true,true,true,true,true,true,true,true,true,true,true,true,true,true,true,true,true,true,true,true,true,true,true,true,true,true,true,true,true,false,false,false] rfl rfl (any_of HT_.out (by kernel_rfl)) (fun _ _ _ h=>h) (Or.inr ⟨zq64,rfl⟩) ?_ ?_
   rotate_left
   ·simp only[Act.put,List.setIfInBounds_toArray,List.set_cons_zero,List.set_cons_succ,i64_w,i32_w]
    rfl
   refine pure_ (i:=33) (N:=some 110) (v:=undef) (a':=?_) #[true,true,true,true,true,true,true,true,true,true,true,true,true,true,true,true,true,true,true,true,true,true,true,true,true,true,true,true,true,true,true,true,true,true,false,false] rfl rfl (any_of HT_.out (by kernel_rfl)) (fun _ _ _ h=>h) (Or.inr ⟨zq64,rfl⟩) ?_ ?_
   rotate_left
   ·simp only[Act.put,List.setIfInBounds_toArray,List.set_cons_zero,List.set_cons_succ,i64_w,i32_w]
    rfl
   refine pure_ (i:=34) (N:=some 111) (v:=undef) (a':=?_) #[true,true,true,true,true,true,true,true,true,true,true,true,true,true,true,true,true,true,true,true,true,true,true,true,true,true,true,true,true,true,true,true,true,true,true,false] rfl rfl (any_of HT_.out (by kernel_rfl)) (fun _ _ _ h=>h) (Or.inr ⟨zq64,rfl⟩) ?_ ?_
   rotate_left
   ·simp only[Act.put,List.setIfInBounds_toArray,List.set_cons_zero,List.set_cons_succ,i64_w,i32_w]
    rfl
   refine pure_ (i:=35) (N:=some 112) (v:=?_) (a':=?_) #[true,true,true,true,true,true,true,true,true,true,true,true,true,true,true,true,true,true,true,true,true,true,true,true,true,true,true,true,true,true,true,true,true,true,true,true] rfl rfl (any_of HT_.out (by kernel_rfl)) (fun _ _ _ h=>h) (Or.inl ⟨zq64,?_⟩) ?_ ?_
   rotate_left
   ·intro w'
    go_simp
    with_reducible rfl
   rotate_left
   ·simp only[Act.put,List.setIfInBounds_toArray,List.set_cons_zero,List.set_cons_succ,i64_w,i32_w]
    rfl
   refine done_ (done_of HT_.out (by kernel_rfl)) ?_
   try go_wp2
   go_meet
   case rel=>exact⟨rfl,HU⟩
  ·obtain⟨hx1,y1,y2,y3,yr,z1,z2,z3,hxf,hxr,hy1,hyr,hxq,hxi,hxs⟩:=hp
   have HXF:=zM hxf
   have HXR:=zM hxr
   have HXI:=zM hxi
   have HXS:=zM hxs
   have ex1:(x1 == 0)=true:=beq_iff_eq.mpr hx1
   have ey1:(y1 != 4)=false:=bne_eq_false_iff_eq.mpr hy1
   have eyr:(yr != 0)=false:=bne_eq_false_iff_eq.mpr hyr
   have exq:(x2 != q)=false:=bne_eq_false_iff_eq.mpr hxq
   clear hxf hxr hy1 hyr hxq hxi hxs hx1
   have HS:Aside0 (∀ w',Below w21.heap.size w21 w'→(w'.cell? ⟨k8_,0,none⟩=some (.int .i64 x1)∧w'.cell? ⟨k8_,1,none⟩=some (.int .i64 x2)∧w'.cell? ⟨k8_,2,none⟩=some (.slice Ax x3.length cx)∧w'.cell? ⟨k6_,0,none⟩=some (.int .i64 q)∧w'.cell? ⟨k6_,1,none⟩=some (.slice An n.length cn)∧w'.cell? ⟨k10_,1,none⟩=some (.int .i64 f2)∧w'.cell? ⟨k10_,2,none⟩=some (.slice Af f3.length cf))):=⟨fun w' hb=>⟨(blk_cell (blk_below (g:=k8_) (o:=.cells #[.int .i64 x1,.int .i64 x2,.slice Ax x3.length cx] 31 (0,0)) B8.out hb) 0).trans rfl,(blk_cell (blk_below (g:=k8_) (o:=.cells #[.int .i64 x1,.int .i64 x2,.slice Ax x3.length cx] 31 (0,0)) B8.out hb) 1).trans rfl,(blk_cell (blk_below (g:=k8_) (o:=.cells #[.int .i64 x1,.int .i64 x2,.slice Ax x3.length cx] 31 (0,0)) B8.out hb) 2).trans rfl,(blk_cell (blk_below (g:=k6_) (o:=.cells #[.int .i64 q,.slice An n.length cn] 29 (0,0)) B6.out hb) 0).trans rfl,(blk_cell (blk_below (g:=k6_) (o:=.cells #[.int .i64 q,.slice An n.length cn] 29 (0,0)) B6.out hb) 1).trans rfl,(blk_cell (blk_below (g:=k10_) (o:=.cells #[.int .i64 f1,.int .i64 f2,.slice Af f3.length cf] 58 (0,0)) B10.out hb) 1).trans rfl,(blk_cell (blk_below (g:=k10_) (o:=.cells #[.int .i64 f1,.int .i64 f2,.slice Af f3.length cf] 58 (0,0)) B10.out hb) 2).trans rfl⟩⟩
   have n0_:=zM (below_drew1 HU.out)
   clear HU
   have HU:=n0_
   clear n0_
   refine start_ (n:=36) (S:=fun w'=>w'.cell? ⟨k8_,0,none⟩=some (.int .i64 x1)∧w'.cell? ⟨k8_,1,none⟩=some (.int .i64 x2)∧w'.cell? ⟨k8_,2,none⟩=some (.slice Ax x3.length cx)∧w'.cell? ⟨k6_,0,none⟩=some (.int .i64 q)∧w'.cell? ⟨k6_,1,none⟩=some (.slice An n.length cn)∧w'.cell? ⟨k10_,1,none⟩=some (.int .i64 f2)∧w'.cell? ⟨k10_,2,none⟩=some (.slice Af f3.length cf)) (ds:=[]) #[false,false,false,false,false,false,false,false,false,false,false,false,false,false,false,false,false,false,false,false,false,false,false,false,false,false,false,false,false,false,false,false,false,false,false,false] (by kernel_rfl) rfl rfl (HS.out _ HU.out) (fun hHeld=>?_)
   refine with_tabW laws_FnRings.tab11 laws_FnRings.bits11 (fun HT_ HW_=>?_)
   generalize w28.drew=w30 at HU hHeld ⊢
   refine pure_ (i:=0) (N:=some 77) (v:=?_) (a':=?_) #[true,false,false,false,false,false,false,false,false,false,false,false,false,false,false,false,false,false,false,false,false,false,false,false,false,false,false,false,false,false,false,false,false,false,false,false] rfl rfl (any_of HT_.out (by kernel_rfl)) (fun _ _ _ h=>h) (Or.inl ⟨zq64,?_⟩) ?_ ?_
   rotate_left
   ·intro w'
    go_simp
    with_reducible rfl
   rotate_left
   ·simp only[Act.put,List.setIfInBounds_toArray,List.set_cons_zero,List.set_cons_succ,i64_w,i32_w]
    rfl
   refine take_ (i:=1) (N:=some 78) (v:=?_) (a':=?_) #[true,true,false,false,false,false,false,false,false,false,false,false,false,false,false,false,false,false,false,false,false,false,false,false,false,false,false,false,false,false,false,false,false,false,false,false] rfl rfl (take_ofW HT_.out HW_.out (by kernel_rfl)) (fun _ _ _ h=>h) (Or.inl ⟨zq64,?_⟩) hHeld ?_ ?_
   rotate_left
   ·rintro w' ⟨s0,s1,s2,s3,s4,s5,s6⟩
    go_simp
    with_reducible rfl
   rotate_left
   ·simp only[Act.put,List.setIfInBounds_toArray,List.set_cons_zero,List.set_cons_succ,i64_w,i32_w]
    rfl
   refine pure_ (i:=2) (N:=some 79) (v:=?_) (a':=?_) #[true,true,true,false,false,false,false,false,false,false,false,false,false,false,false,false,false,false,false,false,false,false,false,false,false,false,false,false,false,false,false,false,false,false,false,false] rfl rfl (any_of HT_.out (by kernel_rfl)) (fun _ _ _ h=>h) (Or.inl ⟨zq64,?_⟩) ?_ ?_
   rotate_left
   ·intro w'
    go_simp
    with_reducible rfl
   rotate_left
   ·simp only[Act.put,List.setIfInBounds_toArray,List.set_cons_zero,List.set_cons_succ,i64_w,i32_w]
    rfl
   refine pure_ (i:=3) (N:=some 80) (v:=?_) (a':=?_) #[true,true,true,true,false,false,false,false,false,false,false,false,false,false,false,false,false,false,false,false,false,false,false,false,false,false,false,false,false,false,false,false,false,false,false,false] rfl rfl (any_of HT_.out (by kernel_rfl)) (fun _ _ _ h=>h) (Or.inl ⟨zq64,?_⟩) ?_ ?_
   rotate_left
   ·intro w'
    go_simp
    with_reducible rfl
   rotate_left
   ·simp only[Act.put,List.setIfInBounds_toArray,List.set_cons_zero,List.set_cons_succ,i64_w,i32_w]
    rfl
   refine pure_ (i:=4) (N:=some 81) (v:=?_) (a':=?_) #[true,true,true,true,true,false,false,false,false,false,false,false,false,false,false,false,false,false,false,false,false,false,false,false,false,false,false,false,false,false,false,false,false,false,false,false] rfl rfl (any_of HT_.out (by kernel_rfl)) (fun _ _ _ h=>h) (Or.inl ⟨zq64,?_⟩) ?_ ?_
   rotate_left
   ·intro w'
    go_simp
    with_reducible rfl
   rotate_left
   ·simp only[Act.put,List.setIfInBounds_toArray,List.set_cons_zero,List.set_cons_succ,i64_w,i32_w]
    rfl
   refine take_ (i:=5) (N:=some 82) (v:=?_) (a':=?_) #[true,true,true,true,true,true,false,false,false,false,false,false,false,false,false,false,false,false,false,false,false,false,false,false,false,false,false,false,false,false,false,false,false,false,false,false] rfl rfl (take_ofW HT_.out HW_.out (by kernel_rfl)) (fun _ _ _ h=>h) (Or.inl ⟨zq64,?_⟩) hHeld ?_ ?_
   rotate_left
   ·rintro w' ⟨s0,s1,s2,s3,s4,s5,s6⟩
    go_simp
    with_reducible rfl
   rotate_left
   ·simp only[Act.put,List.setIfInBounds_toArray,List.set_cons_zero,List.set_cons_succ,i64_w,i32_w]
    rfl
   refine pure_ (i:=6) (N:=some 83) (v:=?_) (a':=?_) #[true,true,true,true,true,true,true,false,false,false,false,false,false,false,false,false,false,false,false,false,false,false,false,false,false,false,false,false,false,false,false,false,false,false,false,false] rfl rfl (any_of HT_.out (by kernel_rfl)) (fun _ _ _ h=>h) (Or.inl ⟨zq64,?_⟩) ?_ ?_
   rotate_left
   ·intro w'
    go_simp
    with_reducible rfl
   rotate_left
   ·simp only[Act.put,List.setIfInBounds_toArray,List.set_cons_zero,List.set_cons_succ,i64_w,i32_w]
    rfl
   refine one_ (i:=7) (N:=some 84) #[true,true,true,true,true,true,true,true,false,false,false,false,false,false,false,false,false,false,false,false,false,false,false,false,false,false,false,false,false,false,false,false,false,false,false,false] rfl rfl (one_of HT_.out (by kernel_rfl)) zq17 (fun K_ hK=>?_)
   clear hHeld
   refine goes_ Try.func39 (by kernel_rfl) rfl #[.agg #[.int .i64 x2,.slice Ax x3.length cx],.int .i64 id] zq64 rfl rfl zq11 ?_
   with_reducible refine(impl_FindKey.calls K x2 _ _ x3 id y1 y2 y3 _ ?d14_0 ?d14_1 HXF.out).mono ?_
   (case d14_0=>exact(Kd.C_below Cx.out HU.out))
   (case d14_1=>exact Lx.out)
   rintro e w31 ⟨v_,rfl,ho,hb⟩
   refine⟨_,rfl,?_⟩
   have n0_:=zM (below_step HU.out hb)
   clear HU
   have HU:=n0_
   clear n0_
   clear hb
   obtain⟨Ay,cy,ev_⟩:=Kd.R_slice ho
   subst ev_
   have Xy:=zM (Kd.R_reads' ho)
   clear ho
   refine hK.out _ _ (HS.out _ HU.out) (fun hHeld=>?_)
   clear hK K_
   refine norm_ (a':=?_) ?_ ?_
   rotate_left
   ·show Act.put _ (some 84) _=_
    simp only[Act.put,List.setIfInBounds_toArray,List.set_cons_zero,List.set_cons_succ,i64_w,i32_w]
    rfl
   refine pure_ (i:=8) (N:=some 85) (v:=?_) (a':=?_) #[true,true,true,true,true,true,true,true,true,false,false,false,false,false,false,false,false,false,false,false,false,false,false,false,false,false,false,false,false,false,false,false,false,false,false,false] rfl rfl (any_of HT_.out (by kernel_rfl)) (fun _ _ _ h=>h) (Or.inl ⟨zq64,?_⟩) ?_ ?_
   rotate_left
   ·intro w'
    go_simp
    with_reducible rfl
   rotate_left
   ·simp only[Act.put,List.setIfInBounds_toArray,List.set_cons_zero,List.set_cons_succ,i64_w,i32_w]
    rfl
   refine pure_ (i:=9) (N:=some 86) (v:=?_) (a':=?_) #[true,true,true,true,true,true,true,true,true,true,false,false,false,false,false,false,false,false,false,false,false,false,false,false,false,false,false,false,false,false,false,false,false,false,false,false] rfl rfl (any_of HT_.out (by kernel_rfl)) (fun _ _ _ h=>h) (Or.inl ⟨zq64,?_⟩) ?_ ?_
   rotate_left
   ·intro w'
    go_simp
    with_reducible rfl
   rotate_left
   ·simp only[Act.put,List.setIfInBounds_toArray,List.set_cons_zero,List.set_cons_succ,i64_w,i32_w]
    rfl
   refine pure_ (i:=10) (N:=some 87) (v:=?_) (a':=?_) #[true,true,true,true,true,true,true,true,true,true,true,false,false,false,false,false,false,false,false,false,false,false,false,false,false,false,false,false,false,false,false,false,false,false,false,false] rfl rfl (any_of HT_.out (by kernel_rfl)) (fun _ _ _ h=>h) (Or.inl ⟨zq64,?_⟩) ?_ ?_
   rotate_left
   ·intro w'
    go_simp
    with_reducible rfl
   rotate_left
   ·simp only[Act.put,List.setIfInBounds_toArray,List.set_cons_zero,List.set_cons_succ,i64_w,i32_w]
    rfl
   refine pure_ (i:=11) (N:=some 88) (v:=?_) (a':=?_) #[true,true,true,true,true,true,true,true,true,true,true,true,false,false,false,false,false,false,false,false,false,false,false,false,false,false,false,false,false,false,false,false,false,false,false,false] rfl rfl (any_of HT_.out (by kernel_rfl)) (fun _ _ _ h=>h) (Or.inl ⟨zq64,?_⟩) ?_ ?_
   rotate_left
   ·intro w'
    go_simp
    with_reducible rfl
   rotate_left
   ·simp only[Act.put,List.setIfInBounds_toArray,List.set_cons_zero,List.set_cons_succ,i64_w,i32_w]
    rfl
   refine take_ (i:=12) (N:=some 89) (v:=?_) (a':=?_) #[true,true,true,true,true,true,true,true,true,true,true,true,true,false,false,false,false,false,false,false,false,false,false,false,false,false,false,false,false,false,false,false,false,false,false,false] rfl rfl (take_ofW HT_.out HW_.out (by kernel_rfl)) (fun _ _ _ h=>h) (Or.inl ⟨zq64,?_⟩) hHeld ?_ ?_
   rotate_left
   ·rintro w' ⟨s0,s1,s2,s3,s4,s5,s6⟩
    go_simp
    with_reducible rfl
   rotate_left
   ·simp only[Act.put,List.setIfInBounds_toArray,List.set_cons_zero,List.set_cons_succ,i64_w,i32_w]
    rfl
   refine one_ (i:=13) (N:=some 90) #[true,true,true,true,true,true,true,true,true,true,true,true,true,true,false,false,false,false,false,false,false,false,false,false,false,false,false,false,false,false,false,false,false,false,false,false] rfl rfl (one_of HT_.out (by kernel_rfl)) zq17 (fun K_ hK=>?_)
   clear hHeld
   refine goes_ Try.func25 (by kernel_rfl) rfl #[.agg #[.int .i64 x2,.slice Ax x3.length cx]] zq64 rfl rfl zq11 ?_
   with_reducible refine(impl_RingFault.calls K x2 _ _ x3 yr _ ?d15_0 ?d15_1 HXR.out).mono ?_
   (case d15_0=>exact(Kd.C_below Cx.out HU.out))
   (case d15_1=>exact Lx.out)
   rintro e w32 ⟨rfl,hb⟩
   refine⟨_,rfl,?_⟩
   have n0_:=zM (below_step HU.out hb)
   clear HU
   have HU:=n0_
   clear n0_
   clear hb
   refine hK.out _ _ (HS.out _ HU.out) (fun hHeld=>?_)
   clear hK K_
   refine norm_ (a':=?_) ?_ ?_
   rotate_left
   ·show Act.put _ (some 90) _=_
    simp only[Act.put,List.setIfInBounds_toArray,List.set_cons_zero,List.set_cons_succ,i64_w,i32_w]
    rfl
   refine pure_ (i:=14) (N:=some 91) (v:=?_) (a':=?_) #[true,true,true,true,true,true,true,true,true,true,true,true,true,true,true,false,false,false,false,false,false,false,false,false,false,false,false,false,false,false,false,false,false,false,false,false] rfl rfl (any_of HT_.out (by kernel_rfl)) (fun _ _ _ h=>h) (Or.inl ⟨zq64,?_⟩) ?_ ?_
   rotate_left
   ·intro w'
    go_simp
    with_reducible rfl
   rotate_left
   ·simp only[Act.put,List.setIfInBounds_toArray,List.set_cons_zero,List.set_cons_succ,i64_w,i32_w]
    rfl
   refine pure_ (i:=15) (N:=some 92) (v:=?_) (a':=?_) #[true,true,true,true,true,true,true,true,true,true,true,true,true,true,true,true,false,false,false,false,false,false,false,false,false,false,false,false,false,false,false,false,false,false,false,false] rfl rfl (any_of HT_.out (by kernel_rfl)) (fun _ _ _ h=>h) (Or.inl ⟨zq64,?_⟩) ?_ ?_
   rotate_left
   ·intro w'
    go_simp
    with_reducible rfl
   rotate_left
   ·simp only[Act.put,List.setIfInBounds_toArray,List.set_cons_zero,List.set_cons_succ,i64_w,i32_w]
    rfl
   refine pure_ (i:=16) (N:=some 93) (v:=?_) (a':=?_) #[true,true,true,true,true,true,true,true,true,true,true,true,true,true,true,true,true,false,false,false,false,false,false,false,false,false,false,false,false,false,false,false,false,false,false,false] rfl rfl (any_of HT_.out (by kernel_rfl)) (fun _ _ _ h=>h) (Or.inl ⟨zq64,?_⟩) ?_ ?_
   rotate_left
   ·intro w'
    go_simp
    with_reducible rfl
   rotate_left
   ·simp only[Act.put,List.setIfInBounds_toArray,List.set_cons_zero,List.set_cons_succ,i64_w,i32_w]
    rfl
   refine pure_ (i:=17) (N:=some 94) (v:=?_) (a':=?_) #[true,true,true,true,true,true,true,true,true,true,true,true,true,true,true,true,true,true,false,false,false,false,false,false,false,false,false,false,false,false,false,false,false,false,false,false] rfl rfl (any_of HT_.out (by kernel_rfl)) (fun _ _ _ h=>h) (Or.inl ⟨zq64,?_⟩) ?_ ?_
   rotate_left
   ·intro w'
    go_simp
    with_reducible rfl
   rotate_left
   ·simp only[Act.put,List.setIfInBounds_toArray,List.set_cons_zero,List.set_cons_succ,i64_w,i32_w]
    rfl
   refine pure_ (i:=18) (N:=some 95) (v:=?_) (a':=?_) #[true,true,true,true,true,true,true,true,true,true,true,true,true,true,true,true,true,true,true,false,false,false,false,false,false,false,false,false,false,false,false,false,false,false,false,false] rfl rfl (any_of HT_.out (by kernel_rfl)) (fun _ _ _ h=>h) (Or.inl ⟨zq64,?_⟩) ?_ ?_
   rotate_left
   ·intro w'
    go_simp
    with_reducible rfl
   rotate_left
   ·simp only[Act.put,List.setIfInBounds_toArray,List.set_cons_zero,List.set_cons_succ,i64_w,i32_w]
    rfl
   refine take_ (i:=19) (N:=some 96) (v:=?_) (a':=?_) #[true,true,true,true,true,true,true,true,true,true,true,true,true,true,true,true,true,true,true,true,false,false,false,false,false,false,false,false,false,false,false,false,false,false,false,false] rfl rfl (take_ofW HT_.out HW_.out (by kernel_rfl)) (fun _ _ _ h=>h) (Or.inl ⟨zq64,?_⟩) hHeld ?_ ?_
   rotate_left
   ·rintro w' ⟨s0,s1,s2,s3,s4,s5,s6⟩
    go_simp
    with_reducible rfl
   rotate_left
   ·simp only[Act.put,List.setIfInBounds_toArray,List.set_cons_zero,List.set_cons_succ,i64_w,i32_w]
    rfl
   refine pure_ (i:=20) (N:=some 97) (v:=?_) (a':=?_) #[true,true,true,true,true,true,true,true,true,true,true,true,true,true,true,true,true,true,true,true,true,false,false,false,false,false,false,false,false,false,false,false,false,false,false,false] rfl rfl (any_of HT_.out (by kernel_rfl)) (fun _ _ _ h=>h) (Or.inl ⟨zq64,?_⟩) ?_ ?_
   rotate_left
   ·intro w'
    go_simp
    with_reducible rfl
   rotate_left
   ·simp only[Act.put,List.setIfInBounds_toArray,List.set_cons_zero,List.set_cons_succ,i64_w,i32_w]
    rfl
   refine take_ (i:=21) (N:=some 98) (v:=?_) (a':=?_) #[true,true,true,true,true,true,true,true,true,true,true,true,true,true,true,true,true,true,true,true,true,true,false,false,false,false,false,false,false,false,false,false,false,false,false,false] rfl rfl (take_ofW HT_.out HW_.out (by kernel_rfl)) (fun _ _ _ h=>h) (Or.inl ⟨zq64,?_⟩) hHeld ?_ ?_
   rotate_left
   ·rintro w' ⟨s0,s1,s2,s3,s4,s5,s6⟩
    go_simp
    with_reducible rfl
   rotate_left
   ·simp only[Act.put,List.setIfInBounds_toArray,List.set_cons_zero,List.set_cons_succ,i64_w,i32_w]
    rfl
   refine pure_ (i:=22) (N:=some 99) (v:=?_) (a':=?_) #[true,true,true,true,true,true,true,true,true,true,true,true,true,true,true,true,true,true,true,true,true,true,true,false,false,false,false,false,false,false,false,false,false,false,false,false] rfl rfl (any_of HT_.out (by kernel_rfl)) (fun _ _ _ h=>h) (Or.inl ⟨zq64,?_⟩) ?_ ?_
   rotate_left
   ·intro w'
    go_simp
    with_reducible rfl
   rotate_left
   ·simp only[Act.put,List.setIfInBounds_toArray,List.set_cons_zero,List.set_cons_succ,i64_w,i32_w]
    rfl
   refine pure_ (i:=23) (N:=some 100) (v:=?_) (a':=?_) #[true,true,true,true,true,true,true,true,true,true,true,true,true,true,true,true,true,true,true,true,true,true,true,true,false,false,false,false,false,false,false,false,false,false,false,false] rfl rfl (any_of HT_.out (by kernel_rfl)) (fun _ _ _ h=>h) (Or.inl ⟨zq64,?_⟩) ?_ ?_
   rotate_left
   ·intro w'
    go_simp
    with_reducible rfl
   rotate_left
   ·simp only[Act.put,List.setIfInBounds_toArray,List.set_cons_zero,List.set_cons_succ,i64_w,i32_w]
    rfl
   refine pure_ (i:=24) (N:=some 101) (v:=?_) (a':=?_) #[true,true,true,true,true,true,true,true,true,true,true,true,true,true,true,true,true,true,true,true,true,true,true,true,true,false,false,false,false,false,false,false,false,false,false,false] rfl rfl (any_of HT_.out (by kernel_rfl)) (fun _ _ _ h=>h) (Or.inl ⟨zq64,?_⟩) ?_ ?_
   rotate_left
   ·intro w'
    go_simp
    with_reducible rfl
   rotate_left
   ·simp only[Act.put,List.setIfInBounds_toArray,List.set_cons_zero,List.set_cons_succ,i64_w,i32_w]
    rfl
   refine pure_ (i:=25) (N:=some 102) (v:=?_) (a':=?_) #[true,true,true,true,true,true,true,true,true,true,true,true,true,true,true,true,true,true,true,true,true,true,true,true,true,true,false,false,false,false,false,false,false,false,false,false] rfl rfl (any_of HT_.out (by kernel_rfl)) (fun _ _ _ h=>h) (Or.inl ⟨zq64,?_⟩) ?_ ?_
   rotate_left
   ·intro w'
    go_simp
    with_reducible rfl
   rotate_left
   ·simp only[Act.put,List.setIfInBounds_toArray,List.set_cons_zero,List.set_cons_succ,i64_w,i32_w]
    rfl
   refine take_ (i:=26) (N:=some 103) (v:=?_) (a':=?_) #[true,true,true,true,true,true,true,true,true,true,true,true,true,true,true,true,true,true,true,true,true,true,true,true,true,true,true,false,false,false,false,false,false,false,false,false] rfl rfl (take_ofW HT_.out HW_.out (by kernel_rfl)) (fun _ _ _ h=>h) (Or.inl ⟨zq64,?_⟩) hHeld ?_ ?_
   rotate_left
   ·rintro w' ⟨s0,s1,s2,s3,s4,s5,s6⟩
    go_simp
    with_reducible rfl
   rotate_left
   ·simp only[Act.put,List.setIfInBounds_toArray,List.set_cons_zero,List.set_cons_succ,i64_w,i32_w]
    rfl
   refine pure_ (i:=27) (N:=some 104) (v:=?_) (a':=?_) #[true,true,true,true,true,true,true,true,true,true,true,true,true,true,true,true,true,true,true,true,true,true,true,true,true,true,true,true,false,false,false,false,false,false,false,false] rfl rfl (any_of HT_.out (by kernel_rfl)) (fun _ _ _ h=>h) (Or.inl ⟨zq64,?_⟩) ?_ ?_
   rotate_left
   ·intro w'
    go_simp
    with_reducible rfl
   rotate_left
   ·simp only[Act.put,List.setIfInBounds_toArray,List.set_cons_zero,List.set_cons_succ,i64_w,i32_w]
    rfl
   refine take_ (i:=28) (N:=some 105) (v:=?_) (a':=?_) #[true,true,true,true,true,true,true,true,true,true,true,true,true,true,true,true,true,true,true,true,true,true,true,true,true,true,true,true,true,false,false,false,false,false,false,false] rfl rfl (take_ofW HT_.out HW_.out (by kernel_rfl)) (fun _ _ _ h=>h) (Or.inl ⟨zq64,?_⟩) hHeld ?_ ?_
   rotate_left
   ·rintro w' ⟨s0,s1,s2,s3,s4,s5,s6⟩
    go_simp
    with_reducible rfl
   rotate_left
   ·simp only[Act.put,List.setIfInBounds_toArray,List.set_cons_zero,List.set_cons_succ,i64_w,i32_w]
    rfl
   refine take_ (i:=31) (N:=some 108) (v:=?_) (a':=?_) #[true,true,true,true,true,true,true,true,true,true,true,true,true,true,true,true,true,true,true,true,true,true,true,true,true,true,true,true,true,false,false,true,false,false,false,false] rfl rfl (take_ofW HT_.out HW_.out (by kernel_rfl)) (fun _ _ _ h=>h) (Or.inl ⟨zq64,?_⟩) hHeld ?_ ?_
   rotate_left
   ·rintro w' ⟨s0,s1,s2,s3,s4,s5,s6⟩
    go_simp
    with_reducible rfl
   rotate_left
   ·simp only[Act.put,List.setIfInBounds_toArray,List.set_cons_zero,List.set_cons_succ,i64_w,i32_w]
    rfl
   refine one_ (i:=29) (N:=some 106) #[true,true,true,true,true,true,true,true,true,true,true,true,true,true,true,true,true,true,true,true,true,true,true,true,true,true,true,true,true,true,false,true,false,false,false,false] rfl rfl (one_of HT_.out (by kernel_rfl)) zq17 (fun K_ hK=>?_)
   clear hHeld
   refine goes_ Try.func48 (by kernel_rfl) rfl #[.agg #[.int .i64 x2,.slice Ax x3.length cx],.agg #[.int .i64 f2,.slice Af f3.length cf]] zq64 rfl rfl zq11 ?_
   with_reducible refine(impl_InstallKey.calls K x2 _ _ x3 f2 _ _ f3 z1 z2 z3 _ ?d16_0 ?d16_1 ?d16_2 ?d16_3 HXI.out).mono ?_
   (case d16_0=>exact(Kd.C_below Cx.out HU.out))
   (case d16_1=>exact Lx.out)
   (case d16_2=>exact(Kd.C_below Cf.out HU.out))
   (case d16_3=>exact Lf.out)
   rintro e w33 ⟨v_,rfl,ho,hb⟩
   refine⟨_,rfl,?_⟩
   have n0_:=zM (below_step HU.out hb)
   clear HU
   have HU:=n0_
   clear n0_
   clear hb
   obtain⟨Az,cz,ev_⟩:=Kd.S_slice ho
   subst ev_
   have Xz:=zM (Kd.S_reads' ho)
   clear ho
   refine hK.out _ _ (HS.out _ HU.out) (fun hHeld=>?_)
   clear hK K_
   refine norm_ (a':=?_) ?_ ?_
   rotate_left
   ·show Act.put _ (some 106) _=_
    simp only[Act.put,List.setIfInBounds_toArray,List.set_cons_zero,List.set_cons_succ,i64_w,i32_w]
    rfl
   refine pure_ (i:=30) (N:=some 107) (v:=?_) (a':=?_) #[true,true,true,true,true,true,true,true,true,true,true,true,true,true,true,true,true,true,true,true,true,true,true,true,true,true,true,true,true,true,true,true,false,false,false,false] rfl rfl (any_of HT_.out (by kernel_rfl)) (fun _ _ _ h=>h) (Or.inl ⟨zq64,?_⟩) ?_ ?_
   rotate_left
   ·intro w'
    go_simp
    with_reducible rfl
   rotate_left
   ·simp only[Act.put,List.setIfInBounds_toArray,List.set_cons_zero,List.set_cons_succ,i64_w,i32_w]
    rfl
   refine one_ (i:=32) (N:=some 109) #[true,true,true,true,true,true,true,true,true,true,true,true,true,true,true,true,true,true,true,true,true,true,true,true,true,true,true,true,true,true,true,true,true,false,false,false] rfl rfl (one_of HT_.out (by kernel_rfl)) zq17 (fun K_ hK=>?_)
   clear hHeld
   refine goes_ Try.func23 (by kernel_rfl) rfl #[.agg #[.int .i64 z2,.slice Az z3.length cz],.agg #[.int .i64 q,.slice An n.length cn]] zq64 rfl rfl zq11 ?_
   with_reducible refine(impl_SameRings.calls z2 _ _ z3 q _ _ n true _ ?d17_0 ?d17_1 ?d17_2 ?d17_3 HXS.out).mono ?_
   (case d17_0=>exact Xz.out.2.2)
   (case d17_1=>exact Xz.out.2.1)
   (case d17_2=>exact(Kd.C_below Cn.out HU.out))
   (case d17_3=>exact Ln.out)
   rintro e w34 ⟨rfl,hb⟩
   refine⟨_,rfl,?_⟩
   have n0_:=zM (below_step HU.out hb)
   clear HU
   have HU:=n0_
   clear n0_
   clear hb
   refine hK.out _ _ (HS.out _ HU.out) (fun hHeld=>?_)
   clear hK K_
   refine norm_ (a':=?_) ?_ ?_
   rotate_left
   ·show Act.put _ (some 109) _=_
    simp only[Act.put,List.setIfInBounds_toArray,List.set_cons_zero,List.set_cons_succ,i64_w,i32_w]
    rfl
   refine pure_ (i:=33) (N:=some 110) (v:=?_) (a':=?_) #[true,true,true,true,true,true,true,true,true,true,true,true,true,true,true,true,true,true,true,true,true,true,true,true,true,true,true,true,true,true,true,true,true,true,false,false] rfl rfl (any_of HT_.out (by kernel_rfl)) (fun _ _ _ h=>h) (Or.inl ⟨zq64,?_⟩) ?_ ?_
   rotate_left
   ·intro w'
    go_simp
    with_reducible rfl
   rotate_left
   ·simp only[Act.put,List.setIfInBounds_toArray,List.set_cons_zero,List.set_cons_succ,i64_w,i32_w]
    rfl
   refine pure_ (i:=34) (N:=some 111) (v:=?_) (a':=?_) #[true,true,true,true,true,true,true,true,true,true,true,true,true,true,true,true,true,true,true,true,true,true,true,true,true,true,true,true,true,true,true,true,true,true,true,false] rfl rfl (any_of HT_.out (by kernel_rfl)) (fun _ _ _ h=>h) (Or.inl ⟨zq64,?_⟩) ?_ ?_
   rotate_left
   ·intro w'
    go_simp
    with_reducible rfl
   rotate_left
   ·simp only[Act.put,List.setIfInBounds_toArray,List.set_cons_zero,List.set_cons_succ,i64_w,i32_w]
    rfl
   refine pure_ (i:=35) (N:=some 112) (v:=?_) (a':=?_) #[true,true,true,true,true,true,true,true,true,true,true,true,true,true,true,true,true,true,true,true,true,true,true,true,true,true,true,true,true,true,true,true,true,true,true,true] rfl rfl (any_of HT_.out (by kernel_rfl)) (fun _ _ _ h=>h) (Or.inl ⟨zq64,?_⟩) ?_ ?_
   rotate_left
   ·intro w'
    go_simp
    with_reducible rfl
   rotate_left
   ·simp only[Act.put,List.setIfInBounds_toArray,List.set_cons_zero,List.set_cons_succ,i64_w,i32_w]
    rfl
   refine done_ (done_of HT_.out (by kernel_rfl)) ?_
   try go_wp2
   go_meet
   case rel=>exact⟨rfl,HU⟩
 case rest=>
  clear HX_
  obtain⟨rfl,HU⟩:=hcut
  go_upto_region 13 with (fail)
  try simp only[Act.put,List.setIfInBounds_toArray,List.set_cons_zero,List.set_cons_succ]
  go_cut [136] (fun v136 wc136=>v136=.bool false∧Aside0 (Below w21.heap.size w21 wc136))
  case first=>
   rcases HU_.out with hn|hp
   ·have eu1:(u1 == 0)=false:=beq_eq_false_iff_ne.mpr hn
    clear hn
    have hc9_0:wc.cell? ⟨k9_,0,none⟩=some (.int .i64 u1):=(blk_cell (blk_below (g:=k9_) (o:=.cells #[.int .i64 u1,.int .i64 u2,.slice Au u3.length cu] 31 (0,0)) B9.out HU.out) 0).trans rfl
    have hc9_1:wc.cell? ⟨k9_,1,none⟩=some (.int .i64 u2):=(blk_cell (blk_below (g:=k9_) (o:=.cells #[.int .i64 u1,.int .i64 u2,.slice Au u3.length cu] 31 (0,0)) B9.out HU.out) 1).trans rfl
    have hc9_2:wc.cell? ⟨k9_,2,none⟩=some (.slice Au u3.length cu):=(blk_cell (blk_below (g:=k9_) (o:=.cells #[.int .i64 u1,.int .i64 u2,.slice Au u3.length cu] 31 (0,0)) B9.out HU.out) 2).trans rfl
    try go_wp2
    go_meet
    case rel=>exact⟨rfl,HU⟩
   ·obtain⟨hu1,ur,v1,v2,v3,huq,hur,hu0,hux,hv1⟩:=hp
    have HUR:=zM hur
    have HUX:=zM hux
    have eu1:(u1 == 0)=true:=beq_iff_eq.mpr hu1
    have euq:(u2 != id)=false:=bne_eq_false_iff_eq.mpr huq
    have eu0:(ur != 0)=false:=bne_eq_false_iff_eq.mpr hu0
    have ev1:(v1 != 8)=false:=bne_eq_false_iff_eq.mpr hv1
    clear hu1 huq hur hu0 hux hv1
    have hc9_0:wc.cell? ⟨k9_,0,none⟩=some (.int .i64 u1):=(blk_cell (blk_below (g:=k9_) (o:=.cells #[.int .i64 u1,.int .i64 u2,.slice Au u3.length cu] 31 (0,0)) B9.out HU.out) 0).trans rfl
    have hc9_1:wc.cell? ⟨k9_,1,none⟩=some (.int .i64 u2):=(blk_cell (blk_below (g:=k9_) (o:=.cells #[.int .i64 u1,.int .i64 u2,.slice Au u3.length cu] 31 (0,0)) B9.out HU.out) 1).trans rfl
    have hc9_2:wc.cell? ⟨k9_,2,none⟩=some (.slice Au u3.length cu):=(blk_cell (blk_below (g:=k9_) (o:=.cells #[.int .i64 u1,.int .i64 u2,.slice Au u3.length cu] 31 (0,0)) B9.out HU.out) 2).trans rfl
    go_wp2_with (first
      | (go_at_call 25;(with_reducible refine(impl_RingFault.calls K u2 _ _ u3 ur _ ?s18_0 ?s18_1 HUR.out).mono ?_);(case s18_0=>exact(Kd.C_below Cu.out HU.out));(case s18_1=>exact Lu.out);rintro e w35 ⟨rfl,hb⟩;have n0_:=zM (below_step HU.out hb);clear HU;have HU:=n0_;clear n0_;clear hb;clear hc9_0 hc9_1 hc9_2;have hc9_0:w35.cell? ⟨k9_,0,none⟩=some (.int .i64 u1):=(blk_cell (blk_below (g:=k9_) (o:=.cells #[.int .i64 u1,.int .i64 u2,.slice Au u3.length cu] 31 (0,0)) B9.out HU.out) 0).trans rfl;have hc9_1:w35.cell? ⟨k9_,1,none⟩=some (.int .i64 u2):=(blk_cell (blk_below (g:=k9_) (o:=.cells #[.int .i64 u1,.int .i64 u2,.slice Au u3.length cu] 31 (0,0)) B9.out HU.out) 1).trans rfl;have hc9_2:w35.cell? ⟨k9_,2,none⟩=some (.slice Au u3.length cu):=(blk_cell (blk_below (g:=k9_) (o:=.cells #[.int .i64 u1,.int .i64 u2,.slice Au u3.length cu] 31 (0,0)) B9.out HU.out) 2).trans rfl)
      | (go_at_call 46;(with_reducible refine(impl_RemoveKey.calls K u2 _ _ u3 id v1 v2 v3 _ ?s19_0 ?s19_1 HUX.out).mono ?_);(case s19_0=>exact(Kd.C_below Cu.out HU.out));(case s19_1=>exact Lu.out);rintro e w36 ⟨v_,rfl,ho,hb⟩;have n0_:=zM (below_step HU.out hb);clear HU;have HU:=n0_;clear n0_;clear hb;clear hc9_0 hc9_1 hc9_2))
    try go_wp2
    go_meet
    case rel=>exact⟨rfl,HU⟩
  case rest=>
   clear HU_
   obtain⟨rfl,HU⟩:=hcut
   rcases HI_.out with hn|hp
   ·have ei1:(i1 != 0)=true:=bne_iff_ne.mpr hn
    clear hn
    have hc5_0:wc.cell? ⟨k5_,0,none⟩=some (.int .i64 i1):=(blk_cell (blk_below (g:=k5_) (o:=.cells #[.int .i64 i1,.int .i64 i2,.slice Ai i3.length ci] 31 (0,0)) B5.out HU.out) 0).trans rfl
    have hc5_1:wc.cell? ⟨k5_,1,none⟩=some (.int .i64 i2):=(blk_cell (blk_below (g:=k5_) (o:=.cells #[.int .i64 i1,.int .i64 i2,.slice Ai i3.length ci] 31 (0,0)) B5.out HU.out) 1).trans rfl
    have hc5_2:wc.cell? ⟨k5_,2,none⟩=some (.slice Ai i3.length ci):=(blk_cell (blk_below (g:=k5_) (o:=.cells #[.int .i64 i1,.int .i64 i2,.slice Ai i3.length ci] 31 (0,0)) B5.out HU.out) 2).trans rfl
    go_wp2
    go_ret
    exact⟨rfl,below_step HW.out HU.out⟩
   ·obtain⟨hi1,g1,g2,g3,ir,h1,h2,h3,hg,hg1,hir,hi0,hgs,hip,hln,hix,his,hss⟩:=hp
    have HG:=zM hg
    have HIR:=zM hir
    have HGS:=zM hgs
    have HIX:=zM hix
    have HIS:=zM his
    have HSS:=zM hss
    have ei1:(i1 != 0)=false:=bne_eq_false_iff_eq.mpr hi1
    have eg1:(g1 == 0)=true:=beq_iff_eq.mpr hg1
    have eir:(ir == 0)=true:=beq_iff_eq.mpr hi0
    have eip:(i2 == p)=true:=beq_iff_eq.mpr hip
    have eln:((i3.length:Int) == wrap64 ((m.length:Int)+1))=true:=beq_iff_eq.mpr hln
    clear hi1 hg hg1 hir hi0 hgs hip hln hix his hss
    have hc5_0:wc.cell? ⟨k5_,0,none⟩=some (.int .i64 i1):=(blk_cell (blk_below (g:=k5_) (o:=.cells #[.int .i64 i1,.int .i64 i2,.slice Ai i3.length ci] 31 (0,0)) B5.out HU.out) 0).trans rfl
    have hc5_1:wc.cell? ⟨k5_,1,none⟩=some (.int .i64 i2):=(blk_cell (blk_below (g:=k5_) (o:=.cells #[.int .i64 i1,.int .i64 i2,.slice Ai i3.length ci] 31 (0,0)) B5.out HU.out) 1).trans rfl
    have hc5_2:wc.cell? ⟨k5_,2,none⟩=some (.slice Ai i3.length ci):=(blk_cell (blk_below (g:=k5_) (o:=.cells #[.int .i64 i1,.int .i64 i2,.slice Ai i3.length ci] 31 (0,0)) B5.out HU.out) 2).trans rfl
    have hc4_0:wc.cell? ⟨k4_,0,none⟩=some (.int .i64 a):=(blk_cell (blk_below (g:=k4_) (o:=.cells #[.int .i64 a,.slice Ab b.length cb] 25 (0,0)) B4.out HU.out) 0).trans rfl
    have hc4_1:wc.cell? ⟨k4_,1,none⟩=some (.slice Ab b.length cb):=(blk_cell (blk_below (g:=k4_) (o:=.cells #[.int .i64 a,.slice Ab b.length cb] 25 (0,0)) B4.out HU.out) 1).trans rfl
    go_wp2_with (first
      | ((with_reducible refine gate_callee (f:=39) rfl ?_);refine goesL_ (some 144) rfl rfl Try.func39 (by kernel_rfl) rfl #[.agg #[.int .i64 i2,.slice Ai i3.length ci],.int .i64 a] rfl zq11 ?_;(with_reducible refine(impl_FindKey.calls K i2 _ _ i3 a g1 g2 g3 _ ?s20_0 ?s20_1 HG.out).mono ?_);(case s20_0=>exact(Kd.C_below Ci.out HU.out));(case s20_1=>exact Li.out);rintro e w37 ⟨v_,rfl,ho,hb⟩;refine⟨_,rfl,?_⟩;have n0_:=zM (below_step HU.out hb);clear HU;have HU:=n0_;clear n0_;obtain⟨Ag,cg,ev_⟩:=Kd.R_slice ho;subst ev_;have n0_:=zM (below_step HW.out HU.out);have n1_:=zM (Kd.C_below Cm.out HU.out);have n2_:=zM (Kd.C_below Cb.out HU.out);have n3_:=zM (blk_below (g:=k3_) (o:=.cells #[.int .i64 p,.slice Am m.length cm] 29 (0,0)) B3.out HU.out);have n4_:=zM (blk_below (g:=k4_) (o:=.cells #[.int .i64 a,.slice Ab b.length cb] 25 (0,0)) B4.out HU.out);have n5_:=zM (Kd.C_below Ci.out HU.out);have n6_:=zM (blk_below (g:=k5_) (o:=.cells #[.int .i64 i1,.int .i64 i2,.slice Ai i3.length ci] 31 (0,0)) B5.out HU.out);have n7_:=zM (Kd.C_below Cn.out HU.out);have n8_:=zM (blk_below (g:=k6_) (o:=.cells #[.int .i64 q,.slice An n.length cn] 29 (0,0)) B6.out HU.out);have n9_:=zM (Kd.C_below Cx.out HU.out);have n10_:=zM (blk_below (g:=k8_) (o:=.cells #[.int .i64 x1,.int .i64 x2,.slice Ax x3.length cx] 31 (0,0)) B8.out HU.out);have n11_:=zM (Kd.C_below Cu.out HU.out);have n12_:=zM (blk_below (g:=k9_) (o:=.cells #[.int .i64 u1,.int .i64 u2,.slice Au u3.length cu] 31 (0,0)) B9.out HU.out);have n13_:=zM (Kd.C_below Cf.out HU.out);have n14_:=zM (blk_below (g:=k10_) (o:=.cells #[.int .i64 f1,.int .i64 f2,.slice Af f3.length cf] 58 (0,0)) B10.out HU.out);have n15_:=zM ((Kd.R_reads' ho).2.2);have n16_:=zM ((Kd.R_reads' ho).2.1);have n17_:=zM (Below.refl w37.heap.size w37);clear HW HU Cm Cb B3 B4 Ci B5 Cn B6 Cx B8 Cu B9 Cf B10;have HW:=n0_;have Cm:=n1_;have Cb:=n2_;have B3:=n3_;have B4:=n4_;have Ci:=n5_;have B5:=n6_;have Cn:=n7_;have B6:=n8_;have Cx:=n9_;have B8:=n10_;have Cu:=n11_;have B9:=n12_;have Cf:=n13_;have B10:=n14_;have Cg:=n15_;have Lg:=n16_;have HU:=n17_;clear n0_ n1_ n2_ n3_ n4_ n5_ n6_ n7_ n8_ n9_ n10_ n11_ n12_ n13_ n14_ n15_ n16_ n17_;clear hb ho;clear hc5_0 hc5_1 hc5_2 hc4_0 hc4_1)
      | ((with_reducible refine gate_dst (N:=11) rfl ?_);refine box_event ?hg (N:=11) ?hd (cs:=#[.int .i64 0,.int .i64 0,.slice none 0 0]) (t:=58) ?hr ?_;(case hd=>rfl);(case hg=>rfl);(case hr=>first|(go_simp;done)|(go_simp;rfl));intro k11_ hg w38 hbox hb;have G11:=zM (show w37.heap.size≤k11_ by rw[hg];exact below_size HU.out);have n0_:=zM (below_step HU.out hb);clear HU;have HU:=n0_;clear n0_;have M11:=zM hbox;clear hb hbox hg)
      | ((with_reducible refine gate_store (t:=58) (p:=11) rfl ?_);refine row_event ?hg (ty:=58) (p:=11) (y:=?yo11) ?ho ?hn (g:=k11_) (old:=#[.int .i64 0,.int .i64 0,.slice none 0 0]) (e:=58) (cells:=#[.int .i64 g1,.int .i64 g2,.slice Ag g3.length cg]) ?hx ?hy ?hk ?hi ?hd ?h1 ?_;(case ho=>rfl);(case hg=>rfl);(case hn=>rfl);(case hx=>rfl);(case hy=>rfl);(case hk=>exact M11.out);(case hi=>kernel_rfl);(case hd=>rfl);(case h1=>exact zq63);intro w39 hbk hgr;have n0_:=zM (below_grown1 HU.out hgr G11.out);have n1_:=zM (hbk);clear HU M11;have HU:=n0_;have M11:=n1_;clear n0_ n1_;clear hbk hgr;have n0_:=zM (below_step HW.out HU.out);have n1_:=zM (Kd.C_below Cm.out HU.out);have n2_:=zM (Kd.C_below Cb.out HU.out);have n3_:=zM (blk_below (g:=k3_) (o:=.cells #[.int .i64 p,.slice Am m.length cm] 29 (0,0)) B3.out HU.out);have n4_:=zM (blk_below (g:=k4_) (o:=.cells #[.int .i64 a,.slice Ab b.length cb] 25 (0,0)) B4.out HU.out);have n5_:=zM (Kd.C_below Ci.out HU.out);have n6_:=zM (blk_below (g:=k5_) (o:=.cells #[.int .i64 i1,.int .i64 i2,.slice Ai i3.length ci] 31 (0,0)) B5.out HU.out);have n7_:=zM (Kd.C_below Cn.out HU.out);have n8_:=zM (blk_below (g:=k6_) (o:=.cells #[.int .i64 q,.slice An n.length cn] 29 (0,0)) B6.out HU.out);have n9_:=zM (Kd.C_below Cx.out HU.out);have n10_:=zM (blk_below (g:=k8_) (o:=.cells #[.int .i64 x1,.int .i64 x2,.slice Ax x3.length cx] 31 (0,0)) B8.out HU.out);have n11_:=zM (Kd.C_below Cu.out HU.out);have n12_:=zM (blk_below (g:=k9_) (o:=.cells #[.int .i64 u1,.int .i64 u2,.slice Au u3.length cu] 31 (0,0)) B9.out HU.out);have n13_:=zM (Kd.C_below Cf.out HU.out);have n14_:=zM (blk_below (g:=k10_) (o:=.cells #[.int .i64 f1,.int .i64 f2,.slice Af f3.length cf] 58 (0,0)) B10.out HU.out);have n15_:=zM (Kd.C_below Cg.out HU.out);have n16_:=zM (M11.out);have n17_:=zM (Below.refl w39.heap.size w39);clear HW HU Cm Cb B3 B4 Ci B5 Cn B6 Cx B8 Cu B9 Cf B10 Cg M11 G11;have HW:=n0_;have Cm:=n1_;have Cb:=n2_;have B3:=n3_;have B4:=n4_;have Ci:=n5_;have B5:=n6_;have Cn:=n7_;have B6:=n8_;have Cx:=n9_;have B8:=n10_;have Cu:=n11_;have B9:=n12_;have Cf:=n13_;have B10:=n14_;have Cg:=n15_;have B11:=n16_;have HU:=n17_;clear n0_ n1_ n2_ n3_ n4_ n5_ n6_ n7_ n8_ n9_ n10_ n11_ n12_ n13_ n14_ n15_ n16_ n17_))
    have HS:Aside0 (∀ w',Below w39.heap.size w39 w'→(w'.cell? ⟨k5_,1,none⟩=some (.int .i64 i2)∧w'.cell? ⟨k5_,2,none⟩=some (.slice Ai i3.length ci)∧w'.cell? ⟨k11_,0,none⟩=some (.int .i64 g1)∧w'.cell? ⟨k11_,2,none⟩=some (.slice Ag g3.length cg)∧w'.cell? ⟨k4_,0,none⟩=some (.int .i64 a)∧w'.cell? ⟨k4_,1,none⟩=some (.slice Ab b.length cb)∧w'.cell? ⟨k3_,0,none⟩=some (.int .i64 p)∧w'.cell? ⟨k3_,1,none⟩=some (.slice Am m.length cm))):=⟨fun w' hb=>⟨(blk_cell (blk_below (g:=k5_) (o:=.cells #[.int .i64 i1,.int .i64 i2,.slice Ai i3.length ci] 31 (0,0)) B5.out hb) 1).trans rfl,(blk_cell (blk_below (g:=k5_) (o:=.cells #[.int .i64 i1,.int .i64 i2,.slice Ai i3.length ci] 31 (0,0)) B5.out hb) 2).trans rfl,(blk_cell (blk_below (g:=k11_) (o:=.cells #[.int .i64 g1,.int .i64 g2,.slice Ag g3.length cg] 58 (0,0)) B11.out hb) 0).trans rfl,(blk_cell (blk_below (g:=k11_) (o:=.cells #[.int .i64 g1,.int .i64 g2,.slice Ag g3.length cg] 58 (0,0)) B11.out hb) 2).trans rfl,(blk_cell (blk_below (g:=k4_) (o:=.cells #[.int .i64 a,.slice Ab b.length cb] 25 (0,0)) B4.out hb) 0).trans rfl,(blk_cell (blk_below (g:=k4_) (o:=.cells #[.int .i64 a,.slice Ab b.length cb] 25 (0,0)) B4.out hb) 1).trans rfl,(blk_cell (blk_below (g:=k3_) (o:=.cells #[.int .i64 p,.slice Am m.length cm] 29 (0,0)) B3.out hb) 0).trans rfl,(blk_cell (blk_below (g:=k3_) (o:=.cells #[.int .i64 p,.slice Am m.length cm] 29 (0,0)) B3.out hb) 1).trans rfl⟩⟩
    have n0_:=zM (below_drew1 HU.out)
    clear HU
    have HU:=n0_
    clear n0_
    refine start_ (n:=56) (S:=fun w'=>w'.cell? ⟨k5_,1,none⟩=some (.int .i64 i2)∧w'.cell? ⟨k5_,2,none⟩=some (.slice Ai i3.length ci)∧w'.cell? ⟨k11_,0,none⟩=some (.int .i64 g1)∧w'.cell? ⟨k11_,2,none⟩=some (.slice Ag g3.length cg)∧w'.cell? ⟨k4_,0,none⟩=some (.int .i64 a)∧w'.cell? ⟨k4_,1,none⟩=some (.slice Ab b.length cb)∧w'.cell? ⟨k3_,0,none⟩=some (.int .i64 p)∧w'.cell? ⟨k3_,1,none⟩=some (.slice Am m.length cm)) (ds:=[]) #[false,false,false,false,false,false,false,false,false,false,false,false,false,false,false,false,false,false,false,false,false,false,false,false,false,false,false,false,false,false,false,false,false,false,false,false,false,false,false,false,false,false,false,false,false,false,false,false,false,false,false,false,false,false,false,false] (by kernel_rfl) rfl rfl (HS.out _ HU.out) (fun hHeld=>?_)
    refine with_tabW laws_FnRings.tab18 laws_FnRings.bits18 (fun HT_ HW_=>?_)
    generalize w39.drew=w40 at HU hHeld ⊢
    refine pure_ (i:=0) (N:=some 145) (v:=?_) (a':=?_) #[true,false,false,false,false,false,false,false,false,false,false,false,false,false,false,false,false,false,false,false,false,false,false,false,false,false,false,false,false,false,false,false,false,false,false,false,false,false,false,false,false,false,false,false,false,false,false,false,false,false,false,false,false,false,false,false] rfl rfl (any_of HT_.out (by kernel_rfl)) (fun _ _ _ h=>h) (Or.inl ⟨zq64,?_⟩) ?_ ?_
    rotate_left
    ·intro w'
     go_simp
     with_reducible rfl
    rotate_left
    ·simp only[Act.put,List.setIfInBounds_toArray,List.set_cons_zero,List.set_cons_succ,i64_w,i32_w]
     rfl
    refine take_ (i:=1) (N:=some 146) (v:=?_) (a':=?_) #[true,true,false,false,false,false,false,false,false,false,false,false,false,false,false,false,false,false,false,false,false,false,false,false,false,false,false,false,false,false,false,false,false,false,false,false,false,false,false,false,false,false,false,false,false,false,false,false,false,false,false,false,false,false,false,false] rfl rfl (take_ofW HT_.out HW_.out (by kernel_rfl)) (fun _ _ _ h=>h) (Or.inl ⟨zq64,?_⟩) hHeld ?_ ?_
    rotate_left
    ·rintro w' ⟨s0,s1,s2,s3,s4,s5,s6,s7⟩
     go_simp
     with_reducible rfl
    rotate_left
    ·simp only[Act.put,List.setIfInBounds_toArray,List.set_cons_zero,List.set_cons_succ,i64_w,i32_w]
     rfl
    refine one_ (i:=2) (N:=some 147) #[true,true,true,false,false,false,false,false,false,false,false,false,false,false,false,false,false,false,false,false,false,false,false,false,false,false,false,false,false,false,false,false,false,false,false,false,false,false,false,false,false,false,false,false,false,false,false,false,false,false,false,false,false,false,false,false] rfl rfl (one_of HT_.out (by kernel_rfl)) zq17 (fun K_ hK=>?_)
    clear hHeld
    refine goes_ Try.func25 (by kernel_rfl) rfl #[.agg #[.int .i64 i2,.slice Ai i3.length ci]] zq64 rfl rfl zq11 ?_
    with_reducible refine(impl_RingFault.calls K i2 _ _ i3 ir _ ?d21_0 ?d21_1 HIR.out).mono ?_
    (case d21_0=>exact(Kd.C_below Ci.out HU.out))
    (case d21_1=>exact Li.out)
    rintro e w41 ⟨rfl,hb⟩
    refine⟨_,rfl,?_⟩
    have n0_:=zM (below_step HU.out hb)
    clear HU
    have HU:=n0_
    clear n0_
    clear hb
    refine hK.out _ _ (HS.out _ HU.out) (fun hHeld=>?_)
    clear hK K_
    refine norm_ (a':=?_) ?_ ?_
    rotate_left
    ·show Act.put _ (some 147) _=_
     simp only[Act.put,List.setIfInBounds_toArray,List.set_cons_zero,List.set_cons_succ,i64_w,i32_w]
     rfl
    refine pure_ (i:=3) (N:=some 148) (v:=?_) (a':=?_) #[true,true,true,true,false,false,false,false,false,false,false,false,false,false,false,false,false,false,false,false,false,false,false,false,false,false,false,false,false,false,false,false,false,false,false,false,false,false,false,false,false,false,false,false,false,false,false,false,false,false,false,false,false,false,false,false] rfl rfl (any_of HT_.out (by kernel_rfl)) (fun _ _ _ h=>h) (Or.inl ⟨zq64,?_⟩) ?_ ?_
    rotate_left
    ·intro w'
     go_simp
     with_reducible rfl
    rotate_left
    ·simp only[Act.put,List.setIfInBounds_toArray,List.set_cons_zero,List.set_cons_succ,i64_w,i32_w]
     rfl
    refine pure_ (i:=4) (N:=some 149) (v:=?_) (a':=?_) #[true,true,true,true,true,false,false,false,false,false,false,false,false,false,false,false,false,false,false,false,false,false,false,false,false,false,false,false,false,false,false,false,false,false,false,false,false,false,false,false,false,false,false,false,false,false,false,false,false,false,false,false,false,false,false,false] rfl rfl (any_of HT_.out (by kernel_rfl)) (fun _ _ _ h=>h) (Or.inl ⟨zq64,?_⟩) ?_ ?_
    rotate_left
    ·intro w'
     go_simp
     with_reducible rfl
    rotate_left
    ·simp only[Act.put,List.setIfInBounds_toArray,List.set_cons_zero,List.set_cons_succ,i64_w,i32_w]
     rfl
    refine pure_ (i:=5) (N:=some 150) (v:=?_) (a':=?_) #[true,true,true,true,true,true,false,false,false,false,false,false,false,false,false,false,false,false,false,false,false,false,false,false,false,false,false,false,false,false,false,false,false,false,false,false,false,false,false,false,false,false,false,false,false,false,false,false,false,false,false,false,false,false,false,false] rfl rfl (any_of HT_.out (by kernel_rfl)) (fun _ _ _ h=>h) (Or.inl ⟨zq64,?_⟩) ?_ ?_
    rotate_left
    ·intro w'
     go_simp
     with_reducible rfl
    rotate_left
    ·simp only[Act.put,List.setIfInBounds_toArray,List.set_cons_zero,List.set_cons_succ,i64_w,i32_w]
     rfl
    refine take_ (i:=6) (N:=some 151) (v:=?_) (a':=?_) #[true,true,true,true,true,true,true,false,false,false,false,false,false,false,false,false,false,false,false,false,false,false,false,false,false,false,false,false,false,false,false,false,false,false,false,false,false,false,false,false,false,false,false,false,false,false,false,false,false,false,false,false,false,false,false,false] rfl rfl (take_ofW HT_.out HW_.out (by kernel_rfl)) (fun _ _ _ h=>h) (Or.inl ⟨zq64,?_⟩) hHeld ?_ ?_
    rotate_left
    ·rintro w' ⟨s0,s1,s2,s3,s4,s5,s6,s7⟩
     go_simp
     with_reducible rfl
    rotate_left
    ·simp only[Act.put,List.setIfInBounds_toArray,List.set_cons_zero,List.set_cons_succ,i64_w,i32_w]
     rfl
    refine pure_ (i:=7) (N:=some 152) (v:=?_) (a':=?_) #[true,true,true,true,true,true,true,true,false,false,false,false,false,false,false,false,false,false,false,false,false,false,false,false,false,false,false,false,false,false,false,false,false,false,false,false,false,false,false,false,false,false,false,false,false,false,false,false,false,false,false,false,false,false,false,false] rfl rfl (any_of HT_.out (by kernel_rfl)) (fun _ _ _ h=>h) (Or.inl ⟨zq64,?_⟩) ?_ ?_
    rotate_left
    ·intro w'
     go_simp
     with_reducible rfl
    rotate_left
    ·simp only[Act.put,List.setIfInBounds_toArray,List.set_cons_zero,List.set_cons_succ,i64_w,i32_w]
     rfl
    refine pure_ (i:=8) (N:=some 153) (v:=?_) (a':=?_) #[true,true,true,true,true,true,true,true,true,false,false,false,false,false,false,false,false,false,false,false,false,false,false,false,false,false,false,false,false,false,false,false,false,false,false,false,false,false,false,false,false,false,false,false,false,false,false,false,false,false,false,false,false,false,false,false] rfl rfl (any_of HT_.out (by kernel_rfl)) (fun _ _ _ h=>h) (Or.inl ⟨zq64,?_⟩) ?_ ?_
    rotate_left
    ·intro w'
     go_simp
     with_reducible rfl
    rotate_left
    ·simp only[Act.put,List.setIfInBounds_toArray,List.set_cons_zero,List.set_cons_succ,i64_w,i32_w]
     rfl
    refine pure_ (i:=9) (N:=some 154) (v:=?_) (a':=?_) #[true,true,true,true,true,true,true,true,true,true,false,false,false,false,false,false,false,false,false,false,false,false,false,false,false,false,false,false,false,false,false,false,false,false,false,false,false,false,false,false,false,false,false,false,false,false,false,false,false,false,false,false,false,false,false,false] rfl rfl (any_of HT_.out (by kernel_rfl)) (fun _ _ _ h=>h) (Or.inl ⟨zq64,?_⟩) ?_ ?_
    rotate_left
    ·intro w'
     go_simp
     with_reducible rfl
    rotate_left
    ·simp only[Act.put,List.setIfInBounds_toArray,List.set_cons_zero,List.set_cons_succ,i64_w,i32_w]
     rfl
    refine pure_ (i:=10) (N:=some 155) (v:=?_) (a':=?_) #[true,true,true,true,true,true,true,true,true,true,true,false,false,false,false,false,false,false,false,false,false,false,false,false,false,false,false,false,false,false,false,false,false,false,false,false,false,false,false,false,false,false,false,false,false,false,false,false,false,false,false,false,false,false,false,false] rfl rfl (any_of HT_.out (by kernel_rfl)) (fun _ _ _ h=>h) (Or.inl ⟨zq64,?_⟩) ?_ ?_
    rotate_left
    ·intro w'
     go_simp
     with_reducible rfl
    rotate_left
    ·simp only[Act.put,List.setIfInBounds_toArray,List.set_cons_zero,List.set_cons_succ,i64_w,i32_w]
     rfl
    refine pure_ (i:=11) (N:=some 156) (v:=?_) (a':=?_) #[true,true,true,true,true,true,true,true,true,true,true,true,false,false,false,false,false,false,false,false,false,false,false,false,false,false,false,false,false,false,false,false,false,false,false,false,false,false,false,false,false,false,false,false,false,false,false,false,false,false,false,false,false,false,false,false] rfl rfl (any_of HT_.out (by kernel_rfl)) (fun _ _ _ h=>h) (Or.inl ⟨zq64,?_⟩) ?_ ?_
    rotate_left
    ·intro w'
     go_simp
     with_reducible rfl
    rotate_left
    ·simp only[Act.put,List.setIfInBounds_toArray,List.set_cons_zero,List.set_cons_succ,i64_w,i32_w]
     rfl
    refine take_ (i:=12) (N:=some 157) (v:=?_) (a':=?_) #[true,true,true,true,true,true,true,true,true,true,true,true,true,false,false,false,false,false,false,false,false,false,false,false,false,false,false,false,false,false,false,false,false,false,false,false,false,false,false,false,false,false,false,false,false,false,false,false,false,false,false,false,false,false,false,false] rfl rfl (take_ofW HT_.out HW_.out (by kernel_rfl)) (fun _ _ _ h=>h) (Or.inl ⟨zq64,?_⟩) hHeld ?_ ?_
    rotate_left
    ·rintro w' ⟨s0,s1,s2,s3,s4,s5,s6,s7⟩
     go_simp
     with_reducible rfl
    rotate_left
    ·simp only[Act.put,List.setIfInBounds_toArray,List.set_cons_zero,List.set_cons_succ,i64_w,i32_w]
     rfl
    refine pure_ (i:=13) (N:=some 158) (v:=?_) (a':=?_) #[true,true,true,true,true,true,true,true,true,true,true,true,true,true,false,false,false,false,false,false,false,false,false,false,false,false,false,false,false,false,false,false,false,false,false,false,false,false,false,false,false,false,false,false,false,false,false,false,false,false,false,false,false,false,false,false] rfl rfl (any_of HT_.out (by kernel_rfl)) (fun _ _ _ h=>h) (Or.inl ⟨zq64,?_⟩) ?_ ?_
    rotate_left
    ·intro w'
     go_simp
     with_reducible rfl
    rotate_left
    ·simp only[Act.put,List.setIfInBounds_toArray,List.set_cons_zero,List.set_cons_succ,i64_w,i32_w]
     rfl
    refine take_ (i:=14) (N:=some 159) (v:=?_) (a':=?_) #[true,true,true,true,true,true,true,true,true,true,true,true,true,true,true,false,false,false,false,false,false,false,false,false,false,false,false,false,false,false,false,false,false,false,false,false,false,false,false,false,false,false,false,false,false,false,false,false,false,false,false,false,false,false,false,false] rfl rfl (take_ofW HT_.out HW_.out (by kernel_rfl)) (fun _ _ _ h=>h) (Or.inl ⟨zq64,?_⟩) hHeld ?_ ?_
    rotate_left
    ·rintro w' ⟨s0,s1,s2,s3,s4,s5,s6,s7⟩
     go_simp
     with_reducible rfl
    rotate_left
    ·simp only[Act.put,List.setIfInBounds_toArray,List.set_cons_zero,List.set_cons_succ,i64_w,i32_w]
     rfl
    refine one_ (i:=15) (N:=some 160) #[true,true,true,true,true,true,true,true,true,true,true,true,true,true,true,true,false,false,false,false,false,false,false,false,false,false,false,false,false,false,false,false,false,false,false,false,false,false,false,false,false,false,false,false,false,false,false,false,false,false,false,false,false,false,false,false] rfl rfl (one_of HT_.out (by kernel_rfl)) zq17 (fun K_ hK=>?_)
    clear hHeld
    refine goes_ Try.func51 (by kernel_rfl) rfl #[.slice Ag g3.length cg,.slice Ab b.length cb] zq64 rfl rfl zq11 ?_
    with_reducible refine(laws_lwSame.calls _ _ g3 _ _ b true _ ?d22_0 ?d22_1 ?d22_2 ?d22_3 HGS.out).mono ?_
    (case d22_0=>exact(Kd.C_below Cg.out HU.out))
    (case d22_1=>exact Lg.out)
    (case d22_2=>exact(Kd.C_below Cb.out HU.out))
    (case d22_3=>exact Lb.out)
    rintro e w42 ⟨rfl,hd⟩
    refine⟨_,rfl,?_⟩
    have hb:=hd.below
    clear hd
    have n0_:=zM (below_step HU.out hb)
    clear HU
    have HU:=n0_
    clear n0_
    clear hb
    refine hK.out _ _ (HS.out _ HU.out) (fun hHeld=>?_)
    clear hK K_
    refine norm_ (a':=?_) ?_ ?_
    rotate_left
    ·show Act.put _ (some 160) _=_
     simp only[Act.put,List.setIfInBounds_toArray,List.set_cons_zero,List.set_cons_succ,i64_w,i32_w]
     rfl
    refine pure_ (i:=16) (N:=some 161) (v:=?_) (a':=?_) #[true,true,true,true,true,true,true,true,true,true,true,true,true,true,true,true,true,false,false,false,false,false,false,false,false,false,false,false,false,false,false,false,false,false,false,false,false,false,false,false,false,false,false,false,false,false,false,false,false,false,false,false,false,false,false,false] rfl rfl (any_of HT_.out (by kernel_rfl)) (fun _ _ _ h=>h) (Or.inl ⟨zq64,?_⟩) ?_ ?_
    rotate_left
    ·intro w'
     go_simp
     with_reducible rfl
    rotate_left
    ·simp only[Act.put,List.setIfInBounds_toArray,List.set_cons_zero,List.set_cons_succ,i64_w,i32_w]
     rfl
    refine pure_ (i:=17) (N:=some 162) (v:=?_) (a':=?_) #[true,true,true,true,true,true,true,true,true,true,true,true,true,true,true,true,true,true,false,false,false,false,false,false,false,false,false,false,false,false,false,false,false,false,false,false,false,false,false,false,false,false,false,false,false,false,false,false,false,false,false,false,false,false,false,false] rfl rfl (any_of HT_.out (by kernel_rfl)) (fun _ _ _ h=>h) (Or.inl ⟨zq64,?_⟩) ?_ ?_
    rotate_left
    ·intro w'
     go_simp
     with_reducible rfl
    rotate_left
    ·simp only[Act.put,List.setIfInBounds_toArray,List.set_cons_zero,List.set_cons_succ,i64_w,i32_w]
     rfl
    refine pure_ (i:=18) (N:=some 163) (v:=?_) (a':=?_) #[true,true,true,true,true,true,true,true,true,true,true,true,true,true,true,true,true,true,true,false,false,false,false,false,false,false,false,false,false,false,false,false,false,false,false,false,false,false,false,false,false,false,false,false,false,false,false,false,false,false,false,false,false,false,false,false] rfl rfl (any_of HT_.out (by kernel_rfl)) (fun _ _ _ h=>h) (Or.inl ⟨zq64,?_⟩) ?_ ?_
    rotate_left
    ·intro w'
     go_simp
     with_reducible rfl
    rotate_left
    ·simp only[Act.put,List.setIfInBounds_toArray,List.set_cons_zero,List.set_cons_succ,i64_w,i32_w]
     rfl
    refine pure_ (i:=19) (N:=some 164) (v:=?_) (a':=?_) #[true,true,true,true,true,true,true,true,true,true,true,true,true,true,true,true,true,true,true,true,false,false,false,false,false,false,false,false,false,false,false,false,false,false,false,false,false,false,false,false,false,false,false,false,false,false,false,false,false,false,false,false,false,false,false,false] rfl rfl (any_of HT_.out (by kernel_rfl)) (fun _ _ _ h=>h) (Or.inl ⟨zq64,?_⟩) ?_ ?_
    rotate_left
    ·intro w'
     go_simp
     with_reducible rfl
    rotate_left
    ·simp only[Act.put,List.setIfInBounds_toArray,List.set_cons_zero,List.set_cons_succ,i64_w,i32_w]
     rfl
    refine take_ (i:=20) (N:=some 165) (v:=?_) (a':=?_) #[true,true,true,true,true,true,true,true,true,true,true,true,true,true,true,true,true,true,true,true,true,false,false,false,false,false,false,false,false,false,false,false,false,false,false,false,false,false,false,false,false,false,false,false,false,false,false,false,false,false,false,false,false,false,false,false] rfl rfl (take_ofW HT_.out HW_.out (by kernel_rfl)) (fun _ _ _ h=>h) (Or.inl ⟨zq64,?_⟩) hHeld ?_ ?_
    rotate_left
    ·rintro w' ⟨s0,s1,s2,s3,s4,s5,s6,s7⟩
     go_simp
     with_reducible rfl
    rotate_left
    ·simp only[Act.put,List.setIfInBounds_toArray,List.set_cons_zero,List.set_cons_succ,i64_w,i32_w]
     rfl
    refine pure_ (i:=21) (N:=some 166) (v:=?_) (a':=?_) #[true,true,true,true,true,true,true,true,true,true,true,true,true,true,true,true,true,true,true,true,true,true,false,false,false,false,false,false,false,false,false,false,false,false,false,false,false,false,false,false,false,false,false,false,false,false,false,false,false,false,false,false,false,false,false,false] rfl rfl (any_of HT_.out (by kernel_rfl)) (fun _ _ _ h=>h) (Or.inl ⟨zq64,?_⟩) ?_ ?_
    rotate_left
    ·intro w'
     go_simp
     with_reducible rfl
    rotate_left
    ·simp only[Act.put,List.setIfInBounds_toArray,List.set_cons_zero,List.set_cons_succ,i64_w,i32_w]
     rfl
    refine take_ (i:=22) (N:=some 167) (v:=?_) (a':=?_) #[true,true,true,true,true,true,true,true,true,true,true,true,true,true,true,true,true,true,true,true,true,true,true,false,false,false,false,false,false,false,false,false,false,false,false,false,false,false,false,false,false,false,false,false,false,false,false,false,false,false,false,false,false,false,false,false] rfl rfl (take_ofW HT_.out HW_.out (by kernel_rfl)) (fun _ _ _ h=>h) (Or.inl ⟨zq64,?_⟩) hHeld ?_ ?_
    rotate_left
    ·rintro w' ⟨s0,s1,s2,s3,s4,s5,s6,s7⟩
     go_simp
     with_reducible rfl
    rotate_left
    ·simp only[Act.put,List.setIfInBounds_toArray,List.set_cons_zero,List.set_cons_succ,i64_w,i32_w]
     rfl
    refine pure_ (i:=23) (N:=some 168) (v:=?_) (a':=?_) #[true,true,true,true,true,true,true,true,true,true,true,true,true,true,true,true,true,true,true,true,true,true,true,true,false,false,false,false,false,false,false,false,false,false,false,false,false,false,false,false,false,false,false,false,false,false,false,false,false,false,false,false,false,false,false,false] rfl rfl (any_of HT_.out (by kernel_rfl)) (fun _ _ _ h=>h) (Or.inl ⟨zq64,?_⟩) ?_ ?_
    rotate_left
    ·intro w'
     go_simp
     with_reducible rfl
    rotate_left
    ·simp only[Act.put,List.setIfInBounds_toArray,List.set_cons_zero,List.set_cons_succ,i64_w,i32_w]
     rfl
    refine pure_ (i:=24) (N:=some 169) (v:=?_) (a':=?_) #[true,true,true,true,true,true,true,true,true,true,true,true,true,true,true,true,true,true,true,true,true,true,true,true,true,false,false,false,false,false,false,false,false,false,false,false,false,false,false,false,false,false,false,false,false,false,false,false,false,false,false,false,false,false,false,false] rfl rfl (any_of HT_.out (by kernel_rfl)) (fun _ _ _ h=>h) (Or.inl ⟨zq64,?_⟩) ?_ ?_
    rotate_left
    ·intro w'
     go_simp
     with_reducible rfl
    rotate_left
    ·simp only[Act.put,List.setIfInBounds_toArray,List.set_cons_zero,List.set_cons_succ,i64_w,i32_w]
     rfl
    refine pure_ (i:=25) (N:=some 170) (v:=?_) (a':=?_) #[true,true,true,true,true,true,true,true,true,true,true,true,true,true,true,true,true,true,true,true,true,true,true,true,true,true,false,false,false,false,false,false,false,false,false,false,false,false,false,false,false,false,false,false,false,false,false,false,false,false,false,false,false,false,false,false] rfl rfl (any_of HT_.out (by kernel_rfl)) (fun _ _ _ h=>h) (Or.inl ⟨zq64,?_⟩) ?_ ?_
    rotate_left
    ·intro w'
     go_simp
     with_reducible rfl
    rotate_left
    ·simp only[Act.put,List.setIfInBounds_toArray,List.set_cons_zero,List.set_cons_succ,i64_w,i32_w]
     rfl
    refine pure_ (i:=26) (N:=some 171) (v:=?_) (a':=?_) #[true,true,true,true,true,true,true,true,true,true,true,true,true,true,true,true,true,true,true,true,true,true,true,true,true,true,true,false,false,false,false,false,false,false,false,false,false,false,false,false,false,false,false,false,false,false,false,false,false,false,false,false,false,false,false,false] rfl rfl (any_of HT_.out (by kernel_rfl)) (fun _ _ _ h=>h) (Or.inl ⟨zq64,?_⟩) ?_ ?_
    rotate_left
    ·intro w'
     go_simp
     with_reducible rfl
    rotate_left
    ·simp only[Act.put,List.setIfInBounds_toArray,List.set_cons_zero,List.set_cons_succ,i64_w,i32_w]
     rfl
    refine pure_ (i:=27) (N:=some 172) (v:=?_) (a':=?_) #[true,true,true,true,true,true,true,true,true,true,true,true,true,true,true,true,true,true,true,true,true,true,true,true,true,true,true,true,false,false,false,false,false,false,false,false,false,false,false,false,false,false,false,false,false,false,false,false,false,false,false,false,false,false,false,false] rfl rfl (any_of HT_.out (by kernel_rfl)) (fun _ _ _ h=>h) (Or.inl ⟨zq64,?_⟩) ?_ ?_
    rotate_left
    ·intro w'
     go_simp
     with_reducible rfl
    rotate_left
    ·simp only[Act.put,List.setIfInBounds_toArray,List.set_cons_zero,List.set_cons_succ,i64_w,i32_w]
     rfl
    refine take_ (i:=28) (N:=some 173) (v:=?_) (a':=?_) #[true,true,true,true,true,true,true,true,true,true,true,true,true,true,true,true,true,true,true,true,true,true,true,true,true,true,true,true,true,false,false,false,false,false,false,false,false,false,false,false,false,false,false,false,false,false,false,false,false,false,false,false,false,false,false,false] rfl rfl (take_ofW HT_.out HW_.out (by kernel_rfl)) (fun _ _ _ h=>h) (Or.inl ⟨zq64,?_⟩) hHeld ?_ ?_
    rotate_left
    ·rintro w' ⟨s0,s1,s2,s3,s4,s5,s6,s7⟩
     go_simp
     with_reducible rfl
    rotate_left
    ·simp only[Act.put,List.setIfInBounds_toArray,List.set_cons_zero,List.set_cons_succ,i64_w,i32_w]
     rfl
    refine pure_ (i:=29) (N:=some 174) (v:=?_) (a':=?_) #[true,true,true,true,true,true,true,true,true,true,true,true,true,true,true,true,true,true,true,true,true,true,true,true,true,true,true,true,true,true,false,false,false,false,false,false,false,false,false,false,false,false,false,false,false,false,false,false,false,false,false,false,false,false,false,false] rfl rfl (any_of HT_.out (by kernel_rfl)) (fun _ _ _ h=>h) (Or.inl ⟨zq64,?_⟩) ?_ ?_
    rotate_left
    ·intro w'
     go_simp
     with_reducible rfl
    rotate_left
    ·simp only[Act.put,List.setIfInBounds_toArray,List.set_cons_zero,List.set_cons_succ,i64_w,i32_w]
     rfl
    refine pure_ (i:=30) (N:=some 175) (v:=?_) (a':=?_) #[true,true,true,true,true,true,true,true,true,true,true,true,true,true,true,true,true,true,true,true,true,true,true,true,true,true,true,true,true,true,true,false,false,false,false,false,false,false,false,false,false,false,false,false,false,false,false,false,false,false,false,false,false,false,false,false] rfl rfl (any_of HT_.out (by kernel_rfl)) (fun _ _ _ h=>h) (Or.inl ⟨zq64,?_⟩) ?_ ?_
    rotate_left
    ·intro w'
     go_simp
     with_reducible rfl
    rotate_left
    ·simp only[Act.put,List.setIfInBounds_toArray,List.set_cons_zero,List.set_cons_succ,i64_w,i32_w]
     rfl
    refine take_ (i:=31) (N:=some 176) (v:=?_) (a':=?_) #[true,true,true,true,true,true,true,true,true,true,true,true,true,true,true,true,true,true,true,true,true,true,true,true,true,true,true,true,true,true,true,true,false,false,false,false,false,false,false,false,false,false,false,false,false,false,false,false,false,false,false,false,false,false,false,false] rfl rfl (take_ofW HT_.out HW_.out (by kernel_rfl)) (fun _ _ _ h=>h) (Or.inl ⟨zq64,?_⟩) hHeld ?_ ?_
    rotate_left
    ·rintro w' ⟨s0,s1,s2,s3,s4,s5,s6,s7⟩
     go_simp
     with_reducible rfl
    rotate_left
    ·simp only[Act.put,List.setIfInBounds_toArray,List.set_cons_zero,List.set_cons_succ,i64_w,i32_w]
     rfl
    refine pure_ (i:=32) (N:=some 177) (v:=?_) (a':=?_) #[true,true,true,true,true,true,true,true,true,true,true,true,true,true,true,true,true,true,true,true,true,true,true,true,true,true,true,true,true,true,true,true,true,false,false,false,false,false,false,false,false,false,false,false,false,false,false,false,false,false,false,false,false,false,false,false] rfl rfl (any_of HT_.out (by kernel_rfl)) (fun _ _ _ h=>h) (Or.inl ⟨zq64,?_⟩) ?_ ?_
    rotate_left
    ·intro w'
     go_simp
     with_reducible rfl
    rotate_left
    ·simp only[Act.put,List.setIfInBounds_toArray,List.set_cons_zero,List.set_cons_succ,i64_w,i32_w]
     rfl
    refine pure_ (i:=33) (N:=some 178) (v:=?_) (a':=?_) #[true,true,true,true,true,true,true,true,true,true,true,true,true,true,true,true,true,true,true,true,true,true,true,true,true,true,true,true,true,true,true,true,true,true,false,false,false,false,false,false,false,false,false,false,false,false,false,false,false,false,false,false,false,false,false,false] rfl rfl (any_of HT_.out (by kernel_rfl)) (fun _ _ _ h=>h) (Or.inl ⟨zq64,?_⟩) ?_ ?_
    rotate_left
    ·intro w'
     go_simp
     with_reducible rfl
    rotate_left
    ·simp only[Act.put,List.setIfInBounds_toArray,List.set_cons_zero,List.set_cons_succ,i64_w,i32_w]
     rfl
    refine pure_ (i:=34) (N:=some 179) (v:=?_) (a':=?_) #[true,true,true,true,true,true,true,true,true,true,true,true,true,true,true,true,true,true,true,true,true,true,true,true,true,true,true,true,true,true,true,true,true,true,true,false,false,false,false,false,false,false,false,false,false,false,false,false,false,false,false,false,false,false,false,false] rfl rfl (any_of HT_.out (by kernel_rfl)) (fun _ _ _ h=>h) (Or.inl ⟨zq64,?_⟩) ?_ ?_
    rotate_left
    ·intro w'
     go_simp
     with_reducible rfl
    rotate_left
    ·simp only[Act.put,List.setIfInBounds_toArray,List.set_cons_zero,List.set_cons_succ,i64_w,i32_w]
     rfl
    refine pure_ (i:=35) (N:=some 180) (v:=?_) (a':=?_) #[true,true,true,true,true,true,true,true,true,true,true,true,true,true,true,true,true,true,true,true,true,true,true,true,true,true,true,true,true,true,true,true,true,true,true,true,false,false,false,false,false,false,false,false,false,false,false,false,false,false,false,false,false,false,false,false] rfl rfl (any_of HT_.out (by kernel_rfl)) (fun _ _ _ h=>h) (Or.inl ⟨zq64,?_⟩) ?_ ?_
    rotate_left
    ·intro w'
     go_simp
     with_reducible rfl
    rotate_left
    ·simp only[Act.put,List.setIfInBounds_toArray,List.set_cons_zero,List.set_cons_succ,i64_w,i32_w]
     rfl
    refine pure_ (i:=36) (N:=some 181) (v:=?_) (a':=?_) #[true,true,true,true,true,true,true,true,true,true,true,true,true,true,true,true,true,true,true,true,true,true,true,true,true,true,true,true,true,true,true,true,true,true,true,true,true,false,false,false,false,false,false,false,false,false,false,false,false,false,false,false,false,false,false,false] rfl rfl (any_of HT_.out (by kernel_rfl)) (fun _ _ _ h=>h) (Or.inl ⟨zq64,?_⟩) ?_ ?_
    rotate_left
    ·intro w'
     go_simp
     with_reducible rfl
    rotate_left
    ·simp only[Act.put,List.setIfInBounds_toArray,List.set_cons_zero,List.set_cons_succ,i64_w,i32_w]
     rfl
    refine pure_ (i:=37) (N:=some 182) (v:=?_) (a':=?_) #[true,true,true,true,true,true,true,true,true,true,true,true,true,true,true,true,true,true,true,true,true,true,true,true,true,true,true,true,true,true,true,true,true,true,true,true,true,true,false,false,false,false,false,false,false,false,false,false,false,false,false,false,false,false,false,false] rfl rfl (any_of HT_.out (by kernel_rfl)) (fun _ _ _ h=>h) (Or.inl ⟨zq64,?_⟩) ?_ ?_
    rotate_left
    ·intro w'
     go_simp
     with_reducible rfl
    rotate_left
    ·simp only[Act.put,List.setIfInBounds_toArray,List.set_cons_zero,List.set_cons_succ,i64_w,i32_w]
     rfl
    refine take_ (i:=38) (N:=some 183) (v:=?_) (a':=?_) #[true,true,true,true,true,true,true,true,true,true,true,true,true,true,true,true,true,true,true,true,true,true,true,true,true,true,true,true,true,true,true,true,true,true,true,true,true,true,true,false,false,false,false,false,false,false,false,false,false,false,false,false,false,false,false,false] rfl rfl (take_ofW HT_.out HW_.out (by kernel_rfl)) (fun _ _ _ h=>h) (Or.inl ⟨zq64,?_⟩) hHeld ?_ ?_
    rotate_left
    ·rintro w' ⟨s0,s1,s2,s3,s4,s5,s6,s7⟩
     go_simp
     with_reducible rfl
    rotate_left
    ·simp only[Act.put,List.setIfInBounds_toArray,List.set_cons_zero,List.set_cons_succ,i64_w,i32_w]
     rfl
    refine pure_ (i:=39) (N:=some 184) (v:=?_) (a':=?_) #[true,true,true,true,true,true,true,true,true,true,true,true,true,true,true,true,true,true,true,true,true,true,true,true,true,true,true,true,true,true,true,true,true,true,true,true,true,true,true,true,false,false,false,false,false,false,false,false,false,false,false,false,false,false,false,false] rfl rfl (any_of HT_.out (by kernel_rfl)) (fun _ _ _ h=>h) (Or.inl ⟨zq64,?_⟩) ?_ ?_
    rotate_left
    ·intro w'
     go_simp
     with_reducible rfl
    rotate_left
    ·simp only[Act.put,List.setIfInBounds_toArray,List.set_cons_zero,List.set_cons_succ,i64_w,i32_w]
     rfl
    refine take_ (i:=40) (N:=some 185) (v:=?_) (a':=?_) #[true,true,true,true,true,true,true,true,true,true,true,true,true,true,true,true,true,true,true,true,true,true,true,true,true,true,true,true,true,true,true,true,true,true,true,true,true,true,true,true,true,false,false,false,false,false,false,false,false,false,false,false,false,false,false,false] rfl rfl (take_ofW HT_.out HW_.out (by kernel_rfl)) (fun _ _ _ h=>h) (Or.inl ⟨zq64,?_⟩) hHeld ?_ ?_
    rotate_left
    ·rintro w' ⟨s0,s1,s2,s3,s4,s5,s6,s7⟩
     go_simp
     with_reducible rfl
    rotate_left
    ·simp only[Act.put,List.setIfInBounds_toArray,List.set_cons_zero,List.set_cons_succ,i64_w,i32_w]
     rfl
    refine take_ (i:=43) (N:=some 188) (v:=?_) (a':=?_) #[true,true,true,true,true,true,true,true,true,true,true,true,true,true,true,true,true,true,true,true,true,true,true,true,true,true,true,true,true,true,true,true,true,true,true,true,true,true,true,true,true,false,false,true,false,false,false,false,false,false,false,false,false,false,false,false] rfl rfl (take_ofW HT_.out HW_.out (by kernel_rfl)) (fun _ _ _ h=>h) (Or.inl ⟨zq64,?_⟩) hHeld ?_ ?_
    rotate_left
    ·rintro w' ⟨s0,s1,s2,s3,s4,s5,s6,s7⟩
     go_simp
     with_reducible rfl
    rotate_left
    ·simp only[Act.put,List.setIfInBounds_toArray,List.set_cons_zero,List.set_cons_succ,i64_w,i32_w]
     rfl
    refine one_ (i:=41) (N:=some 186) #[true,true,true,true,true,true,true,true,true,true,true,true,true,true,true,true,true,true,true,true,true,true,true,true,true,true,true,true,true,true,true,true,true,true,true,true,true,true,true,true,true,true,false,true,false,false,false,false,false,false,false,false,false,false,false,false] rfl rfl (one_of HT_.out (by kernel_rfl)) zq17 (fun K_ hK=>?_)
    clear hHeld
    refine goes_ Try.func46 (by kernel_rfl) rfl #[.agg #[.int .i64 i2,.slice Ai i3.length ci],.int .i64 a] zq64 rfl rfl zq11 ?_
    with_reducible refine(impl_RemoveKey.calls K i2 _ _ i3 a h1 h2 h3 _ ?d23_0 ?d23_1 HIX.out).mono ?_
    (case d23_0=>exact(Kd.C_below Ci.out HU.out))
    (case d23_1=>exact Li.out)
    rintro e w43 ⟨v_,rfl,ho,hb⟩
    refine⟨_,rfl,?_⟩
    have n0_:=zM (below_step HU.out hb)
    clear HU
    have HU:=n0_
    clear n0_
    clear hb
    obtain⟨Ah,ch,ev_⟩:=Kd.S_slice ho
    subst ev_
    have Xh:=zM (Kd.S_reads' ho)
    clear ho
    refine hK.out _ _ (HS.out _ HU.out) (fun hHeld=>?_)
    clear hK K_
    refine norm_ (a':=?_) ?_ ?_
    rotate_left
    ·show Act.put _ (some 186) _=_
     simp only[Act.put,List.setIfInBounds_toArray,List.set_cons_zero,List.set_cons_succ,i64_w,i32_w]
     rfl
    refine pure_ (i:=42) (N:=some 187) (v:=?_) (a':=?_) #[true,true,true,true,true,true,true,true,true,true,true,true,true,true,true,true,true,true,true,true,true,true,true,true,true,true,true,true,true,true,true,true,true,true,true,true,true,true,true,true,true,true,true,true,false,false,false,false,false,false,false,false,false,false,false,false] rfl rfl (any_of HT_.out (by kernel_rfl)) (fun _ _ _ h=>h) (Or.inl ⟨zq64,?_⟩) ?_ ?_
    rotate_left
    ·intro w'
     go_simp
     with_reducible rfl
    rotate_left
    ·simp only[Act.put,List.setIfInBounds_toArray,List.set_cons_zero,List.set_cons_succ,i64_w,i32_w]
     rfl
    refine one_ (i:=44) (N:=some 189) #[true,true,true,true,true,true,true,true,true,true,true,true,true,true,true,true,true,true,true,true,true,true,true,true,true,true,true,true,true,true,true,true,true,true,true,true,true,true,true,true,true,true,true,true,true,false,false,false,false,false,false,false,false,false,false,false] rfl rfl (one_of HT_.out (by kernel_rfl)) zq17 (fun K_ hK=>?_)
    clear hHeld
    refine goes_ Try.func23 (by kernel_rfl) rfl #[.agg #[.int .i64 h2,.slice Ah h3.length ch],.agg #[.int .i64 p,.slice Am m.length cm]] zq64 rfl rfl zq11 ?_
    with_reducible refine(impl_SameRings.calls h2 _ _ h3 p _ _ m true _ ?d24_0 ?d24_1 ?d24_2 ?d24_3 HIS.out).mono ?_
    (case d24_0=>exact Xh.out.2.2)
    (case d24_1=>exact Xh.out.2.1)
    (case d24_2=>exact(Kd.C_below Cm.out HU.out))
    (case d24_3=>exact Lm.out)
    rintro e w44 ⟨rfl,hb⟩
    refine⟨_,rfl,?_⟩
    have n0_:=zM (below_step HU.out hb)
    clear HU
    have HU:=n0_
    clear n0_
    clear hb
    refine hK.out _ _ (HS.out _ HU.out) (fun hHeld=>?_)
    clear hK K_
    refine norm_ (a':=?_) ?_ ?_
    rotate_left
    ·show Act.put _ (some 189) _=_
     simp only[Act.put,List.setIfInBounds_toArray,List.set_cons_zero,List.set_cons_succ,i64_w,i32_w]
     rfl
    refine pure_ (i:=45) (N:=some 190) (v:=?_) (a':=?_) #[true,true,true,true,true,true,true,true,true,true,true,true,true,true,true,true,true,true,true,true,true,true,true,true,true,true,true,true,true,true,true,true,true,true,true,true,true,true,true,true,true,true,true,true,true,true,false,false,false,false,false,false,false,false,false,false] rfl rfl (any_of HT_.out (by kernel_rfl)) (fun _ _ _ h=>h) (Or.inl ⟨zq64,?_⟩) ?_ ?_
    rotate_left
    ·intro w'
     go_simp
     with_reducible rfl
    rotate_left
    ·simp only[Act.put,List.setIfInBounds_toArray,List.set_cons_zero,List.set_cons_succ,i64_w,i32_w]
     rfl
    refine pure_ (i:=46) (N:=some 191) (v:=?_) (a':=?_) #[true,true,true,true,true,true,true,true,true,true,true,true,true,true,true,true,true,true,true,true,true,true,true,true,true,true,true,true,true,true,true,true,true,true,true,true,true,true,true,true,true,true,true,true,true,true,true,false,false,false,false,false,false,false,false,false] rfl rfl (any_of HT_.out (by kernel_rfl)) (fun _ _ _ h=>h) (Or.inl ⟨zq64,?_⟩) ?_ ?_
    rotate_left
    ·intro w'
     go_simp
     with_reducible rfl
    rotate_left
    ·simp only[Act.put,List.setIfInBounds_toArray,List.set_cons_zero,List.set_cons_succ,i64_w,i32_w]
     rfl
    refine pure_ (i:=47) (N:=some 192) (v:=?_) (a':=?_) #[true,true,true,true,true,true,true,true,true,true,true,true,true,true,true,true,true,true,true,true,true,true,true,true,true,true,true,true,true,true,true,true,true,true,true,true,true,true,true,true,true,true,true,true,true,true,true,true,false,false,false,false,false,false,false,false] rfl rfl (any_of HT_.out (by kernel_rfl)) (fun _ _ _ h=>h) (Or.inl ⟨zq64,?_⟩) ?_ ?_
    rotate_left
    ·intro w'
     go_simp
     with_reducible rfl
    rotate_left
    ·simp only[Act.put,List.setIfInBounds_toArray,List.set_cons_zero,List.set_cons_succ,i64_w,i32_w]
     rfl
    refine take_ (i:=48) (N:=some 193) (v:=?_) (a':=?_) #[true,true,true,true,true,true,true,true,true,true,true,true,true,true,true,true,true,true,true,true,true,true,true,true,true,true,true,true,true,true,true,true,true,true,true,true,true,true,true,true,true,true,true,true,true,true,true,true,true,false,false,false,false,false,false,false] rfl rfl (take_ofW HT_.out HW_.out (by kernel_rfl)) (fun _ _ _ h=>h) (Or.inl ⟨zq64,?_⟩) hHeld ?_ ?_
    rotate_left
    ·rintro w' ⟨s0,s1,s2,s3,s4,s5,s6,s7⟩
     go_simp
     with_reducible rfl
    rotate_left
    ·simp only[Act.put,List.setIfInBounds_toArray,List.set_cons_zero,List.set_cons_succ,i64_w,i32_w]
     rfl
    refine take_ (i:=49) (N:=some 194) (v:=?_) (a':=?_) #[true,true,true,true,true,true,true,true,true,true,true,true,true,true,true,true,true,true,true,true,true,true,true,true,true,true,true,true,true,true,true,true,true,true,true,true,true,true,true,true,true,true,true,true,true,true,true,true,true,true,false,false,false,false,false,false] rfl rfl (take_ofW HT_.out HW_.out (by kernel_rfl)) (fun _ _ _ h=>h) (Or.inl ⟨zq64,?_⟩) hHeld ?_ ?_
    rotate_left
    ·rintro w' ⟨s0,s1,s2,s3,s4,s5,s6,s7⟩
     go_simp
     with_reducible rfl
    rotate_left
    ·simp only[Act.put,List.setIfInBounds_toArray,List.set_cons_zero,List.set_cons_succ,i64_w,i32_w]
     rfl
    refine take_ (i:=50) (N:=some 195) (v:=?_) (a':=?_) #[true,true,true,true,true,true,true,true,true,true,true,true,true,true,true,true,true,true,true,true,true,true,true,true,true,true,true,true,true,true,true,true,true,true,true,true,true,true,true,true,true,true,true,true,true,true,true,true,true,true,true,false,false,false,false,false] rfl rfl (take_ofW HT_.out HW_.out (by kernel_rfl)) (fun _ _ _ h=>h) (Or.inl ⟨zq64,?_⟩) hHeld ?_ ?_
    rotate_left
    ·rintro w' ⟨s0,s1,s2,s3,s4,s5,s6,s7⟩
     go_simp
     with_reducible rfl
    rotate_left
    ·simp only[Act.put,List.setIfInBounds_toArray,List.set_cons_zero,List.set_cons_succ,i64_w,i32_w]
     rfl
    refine one_ (i:=51) (N:=some 196) #[true,true,true,true,true,true,true,true,true,true,true,true,true,true,true,true,true,true,true,true,true,true,true,true,true,true,true,true,true,true,true,true,true,true,true,true,true,true,true,true,true,true,true,true,true,true,true,true,true,true,true,true,false,false,false,false] rfl rfl (one_of HT_.out (by kernel_rfl)) zq17 (fun K_ hK=>?_)
    clear hHeld
    refine goes_ Try.func47 (by kernel_rfl) rfl #[.agg #[.int .i64 p,.slice Am m.length cm],.agg #[.int .i64 a,.slice Ab b.length cb]] zq64 rfl rfl zq11 ?_
    with_reducible refine(spec_InstallKey.calls p _ _ m a _ _ b i1 si2 si3 _ ?d25_0 ?d25_1 ?d25_2 ?d25_3 HSI.out).mono ?_
    (case d25_0=>exact(Kd.C_below Cm.out HU.out))
    (case d25_1=>exact Lm.out)
    (case d25_2=>exact(Kd.C_below Cb.out HU.out))
    (case d25_3=>exact Lb.out)
    rintro e w45 ⟨v_,rfl,ho,hb⟩
    refine⟨_,rfl,?_⟩
    have n0_:=zM (below_step HU.out hb)
    clear HU
    have HU:=n0_
    clear n0_
    clear hb
    obtain⟨Asi,csi,ev_⟩:=Kd.S_slice ho
    subst ev_
    have Xsi:=zM (Kd.S_reads' ho)
    clear ho
    refine hK.out _ _ (HS.out _ HU.out) (fun hHeld=>?_)
    clear hK K_
    refine norm_ (a':=?_) ?_ ?_
    rotate_left
    ·show Act.put _ (some 196) _=_
     simp only[Act.put,List.setIfInBounds_toArray,List.set_cons_zero,List.set_cons_succ,i64_w,i32_w]
     rfl
    refine pure_ (i:=52) (N:=some 197) (v:=?_) (a':=?_) #[true,true,true,true,true,true,true,true,true,true,true,true,true,true,true,true,true,true,true,true,true,true,true,true,true,true,true,true,true,true,true,true,true,true,true,true,true,true,true,true,true,true,true,true,true,true,true,true,true,true,true,true,true,false,false,false] rfl rfl (any_of HT_.out (by kernel_rfl)) (fun _ _ _ h=>h) (Or.inl ⟨zq64,?_⟩) ?_ ?_
    rotate_left
    ·intro w'
     go_simp
     with_reducible rfl
    rotate_left
    ·simp only[Act.put,List.setIfInBounds_toArray,List.set_cons_zero,List.set_cons_succ,i64_w,i32_w]
     rfl
    refine one_ (i:=53) (N:=some 198) #[true,true,true,true,true,true,true,true,true,true,true,true,true,true,true,true,true,true,true,true,true,true,true,true,true,true,true,true,true,true,true,true,true,true,true,true,true,true,true,true,true,true,true,true,true,true,true,true,true,true,true,true,true,true,false,false] rfl rfl (one_of HT_.out (by kernel_rfl)) zq17 (fun K_ hK=>?_)
    clear hHeld
    refine goes_ Try.func24 (by kernel_rfl) rfl #[.agg #[.int .i64 i2,.slice Ai i3.length ci],.agg #[.int .i64 si2,.slice Asi si3.length csi]] zq64 rfl rfl zq11 ?_
    with_reducible refine(spec_SameRings.calls i2 _ _ i3 si2 _ _ si3 true _ ?d26_0 ?d26_1 ?d26_2 ?d26_3 HSS.out).mono ?_
    (case d26_0=>exact(Kd.C_below Ci.out HU.out))
    (case d26_1=>exact Li.out)
    (case d26_2=>exact Xsi.out.2.2)
    (case d26_3=>exact Xsi.out.2.1)
    rintro e w46 ⟨rfl,hb⟩
    refine⟨_,rfl,?_⟩
    have n0_:=zM (below_step HU.out hb)
    clear HU
    have HU:=n0_
    clear n0_
    clear hb
    refine hK.out _ _ (HS.out _ HU.out) (fun hHeld=>?_)
    clear hK K_
    refine norm_ (a':=?_) ?_ ?_
    rotate_left
    ·show Act.put _ (some 198) _=_
     simp only[Act.put,List.setIfInBounds_toArray,List.set_cons_zero,List.set_cons_succ,i64_w,i32_w]
     rfl
    refine pure_ (i:=54) (N:=some 199) (v:=?_) (a':=?_) #[true,true,true,true,true,true,true,true,true,true,true,true,true,true,true,true,true,true,true,true,true,true,true,true,true,true,true,true,true,true,true,true,true,true,true,true,true,true,true,true,true,true,true,true,true,true,true,true,true,true,true,true,true,true,true,false] rfl rfl (any_of HT_.out (by kernel_rfl)) (fun _ _ _ h=>h) (Or.inl ⟨zq64,?_⟩) ?_ ?_
    rotate_left
    ·intro w'
     go_simp
     with_reducible rfl
    rotate_left
    ·simp only[Act.put,List.setIfInBounds_toArray,List.set_cons_zero,List.set_cons_succ,i64_w,i32_w]
     rfl
    refine pure_ (i:=55) (N:=some 2) (v:=?_) (a':=?_) #[true,true,true,true,true,true,true,true,true,true,true,true,true,true,true,true,true,true,true,true,true,true,true,true,true,true,true,true,true,true,true,true,true,true,true,true,true,true,true,true,true,true,true,true,true,true,true,true,true,true,true,true,true,true,true,true] rfl rfl (any_of HT_.out (by kernel_rfl)) (fun _ _ _ h=>h) (Or.inl ⟨zq64,?_⟩) ?_ ?_
    rotate_left
    ·intro w'
     go_simp
     with_reducible rfl
    rotate_left
    ·simp only[Act.put,List.setIfInBounds_toArray,List.set_cons_zero,List.set_cons_succ,i64_w,i32_w]
     rfl
    refine done_ (done_of HT_.out (by kernel_rfl)) ?_
    try go_wp2
    go_ret
    exact⟨rfl,below_step HW.out HU.out⟩
set_option maxHeartbeats 8000000 in
set_option maxRecDepth 100000 in
theorem laws_FnRings.big (A0:Option Addr) (c0:Nat) (l0:List Int) (w:World) (hr0:Kd.C (Kd.int .u8) w A0 l0.length l0) (hc0:l0.length≤c0) (hbig:laws_lwBig.f l0=some true) :
  Calls Try.prog 12 #[.slice A0 l0.length c0] w fun e w'=>e=.returned (.bool true)∧Below w.heap.size w w':=by
 go_enter Try.func12,Try.ntmps12
 go_wp2_with (first|(go_at_call 15;(with_reducible refine(laws_lwBig.calls _ _ l0 true _ hr0 hc0 hbig).mono ?_);rintro e w1 ⟨rfl,hd⟩))
 go_ret
 exact⟨rfl,hd.below⟩
def laws_FnRings.f (k:Nat) (l0:List Int) (r:Bool):Prop:=r=true∧(laws_lwBig.f l0=some true ∨ laws_lwBig.f l0=some false∧∃ (p a i1 i2 q id x1 x2 u1 u2 f1 f2 si2 sx2 su2 sf2 rf:Int) (m i3 n x3 u3 si3 sx3 su3:List S25) (b f3 sf3:List Int),spec_DrawInstallKey.f k l0=some (p,m,a,b)∧impl_InstallKey.f k p m a b=some (i1,i2,i3)∧spec_DrawRemoveKey.f k l0=some (q,n,id)∧impl_RemoveKey.f k q n id=some (x1,x2,x3)∧impl_UseKey.f k q n id=some (u1,u2,u3)∧impl_FindKey.f k q n id=some (f1,f2,f3)∧spec_InstallKey.f p m a b=some (i1,si2,si3)∧spec_RemoveKey.f q n id=some (x1,sx2,sx3)∧spec_UseKey.f q n id=some (u1,su2,su3)∧spec_FindKey.f q n id=some (f1,sf2,sf3)∧impl_RingFault.f k p m=some rf∧spec_RingFault.f p m=some rf∧(x1≠0 ∨ (x1=0∧∃ (y1 y2:Int) (y3:List Int) (yr z1 z2:Int) (z3:List S25),impl_FindKey.f k x2 x3 id=some (y1,y2,y3)∧impl_RingFault.f k x2 x3=some yr∧y1=4∧yr=0∧x2=q∧impl_InstallKey.f k x2 x3 f2 f3=some (z1,z2,z3)∧impl_SameRings.f z2 z3 q n=some true))∧(u1≠0 ∨ (u1=0∧∃ (ur v1 v2:Int) (v3:List S25),u2=id∧impl_RingFault.f k u2 u3=some ur∧ur=0∧impl_RemoveKey.f k u2 u3 id=some (v1,v2,v3)∧v1=8))∧(i1≠0 ∨ (i1=0∧∃ (g1 g2:Int) (g3:List Int) (ir h1 h2:Int) (h3:List S25),impl_FindKey.f k i2 i3 a=some (g1,g2,g3)∧g1=0∧impl_RingFault.f k i2 i3=some ir∧ir=0∧laws_lwSame.f g3 b=some true∧i2=p∧(i3.length:Int)=wrap64 ((m.length:Int)+1)∧impl_RemoveKey.f k i2 i3 a=some (h1,h2,h3)∧impl_SameRings.f h2 h3 p m=some true∧spec_SameRings.f i2 i3 si2 si3=some true)))
theorem laws_FnRings.calls (k:Nat) (A0:Option Addr) (c0:Nat) (l0:List Int) (r:Bool) (w:World) (hr0:Kd.C (Kd.int .u8) w A0 l0.length l0) (hc0:l0.length≤c0) (h:laws_FnRings.f k l0 r) :
  Calls Try.prog 12 #[.slice A0 l0.length c0] w fun e w'=>e=.returned (.bool r)∧Below w.heap.size w w':=by
 obtain⟨rfl,hbig|⟨hbig,p,a,i1,i2,q,id,x1,x2,u1,u2,f1,f2,si2,sx2,su2,sf2,rf,m,i3,n,x3,u3,si3,sx3,su3,b,f3,sf3,hd1,hi,hd2,hx,hu,hf,hsi,hsx,hsu,hsf,hrf,hsr,hxp,hup,hip⟩⟩:=h
 ·exact laws_FnRings.big A0 c0 l0 w hr0 hc0 hbig
 ·exact laws_FnRings.way k A0 c0 l0 p a i1 i2 q id x1 x2 u1 u2 f1 f2 si2 sx2 su2 sf2 rf m i3 n x3 u3 si3 sx3 su3 b f3 sf3 w hr0 hc0 hbig hd1 hi hd2 hx hu hf hsi hsx hsu hsf hrf hsr hxp hup hip
end Go.Proofs.Ytmnhddedcbkpoaa.All
