-- Laid by wip/shake.py of this repo out of this claim's texts. Not trusted: Lean checks it.
import Derived.Test.YtdbanjdnjhflcaaAb0s
import Derived.Test.YtdbanjdnjhflcaaAlgs
import Derived.Test.YtdbanjdnjhflcaaAllx60s
set_option linter.unusedSimpArgs false
set_option linter.unusedVariables false
namespace Go.Proofs.Ytdbanjdnjhflcaa.All
open Go.Proofs.YtdbanjdnjhflcaaW.PrintWords.Aside0 renaming mk→zM
open Go.RowKit Go.Proofs.YtdbanjdnjhflcaaW.PrintWords Go.Proofs.YtdbanjdnjhflcaaW.PrintLast Go.Proofs.YtdbanjdnjhflcaaW.PrintMore
attribute [local go_sem] max2_int min2_int max_two min_two max_three min_three max_four min_four
def laws_eqRing.f (k:Nat) (a0_0:Int) (l0_1:List (S54)) (a1_0:Int) (l1_1:List (S54)):Option (Bool):=if a0_0=a1_0 then ((laws_eqKeyS.f k l0_1 l1_1).bind fun t401=>(if t401=true then (some true) else (some false))) else (some false)
theorem laws_eqRing.mono:∀ a0 a1 a2 a3 k,LeO (laws_eqRing.f k a0 a1 a2 a3) (laws_eqRing.f (k+1) a0 a1 a2 a3):=by
 intro a0 a1 a2 a3 k
 unfold laws_eqRing.f
 repeat' first
   | (with_reducible exact laws_eqKeyS.mono _ _ _)
   | (with_reducible exact LeO.refl _)
   | (with_reducible exact LeO.none _)
   | (with_reducible refine LeO.ite ?_ ?_)
   | (with_reducible refine LeO.bind ?_ (fun _=>?_))
   | exact laws_eqKeyS.mono _ _ _
   | exact LeO.none _
   | refine LeO.ite ?_ ?_
   | refine LeO.bind ?_ (fun _=>?_)
set_option maxHeartbeats 8000000 in
set_option maxRecDepth 100000 in
theorem laws_eqRing.calls (k:Nat) (a0_0:Int) (A0_1:Option Addr) (c0_1:Nat) (l0_1:List (S54)) (a1_0:Int) (A1_1:Option Addr) (c1_1:Nat) (l1_1:List (S54)) (r:Bool) (w:World) (hr0_1:Kd.C k54 w A0_1 l0_1.length l0_1) (hc0_1:l0_1.length≤c0_1) (hr1_1:Kd.C k54 w A1_1 l1_1.length l1_1) (hc1_1:l1_1.length≤c1_1) (h:laws_eqRing.f k a0_0 l0_1 a1_0 l1_1=some r) :
  Calls Try.prog 11 #[.agg #[.int .i64 a0_0,.slice A0_1 l0_1.length c0_1],.agg #[.int .i64 a1_0,.slice A1_1 l1_1.length c1_1]] w fun e w'=>e=.returned (.bool r)∧Below w.heap.size w w':=by
 have hu35:=Try.underlying35
 have HR0_1:=zM hr0_1
 have HC0_1:=zM hc0_1
 clear hr0_1 hc0_1
 have HR1_1:=zM hr1_1
 have HC1_1:=zM hc1_1
 clear hr1_1 hc1_1
 have HB:=zM (Below.refl w.heap.size w)
 have H:(if a0_0=a1_0 then ((laws_eqKeyS.f k l0_1 l1_1).bind fun t401=>(if t401=true then (some true) else (some false))) else (some false))=some r:=h
 clear h
 by_cases c3:a0_0=a1_0
 ·rw[if_pos c3] at H
  have c3b0:(a0_0 == a1_0)=true:=beq_iff_eq.mpr c3
  have c3b1:(a0_0 != a1_0)=false:=bne_eq_false_iff_eq.mpr c3
  clear c3
  replace H:=Option.bind_eq_some_iff.mp H
  obtain⟨t401,A40,H⟩:=H
  replace H:(if t401=true then (some true) else (some false))=some r:=H
  have A4:=zM A40
  clear A40
  by_cases c5:t401=true
  ·subst c5
   have H1:(some true)=some r:=by rw[if_pos rfl] at H;exact H
   clear H
   have H:=H1
   clear H1
   obtain rfl:=Option.some.inj H
   go_enter Try.func11,Try.ntmps11
   go_wp2_with (first|((with_reducible refine gate_dst (N:=2) rfl ?_);refine box_event ?hg (N:=2) ?hd (cs:=#[.int .i64 a0_0,.slice A0_1 l0_1.length c0_1]) (t:=35) ?hr ?_;(case hd=>rfl);(case hg=>rfl);(case hr=>first|(go_simp;done)|(go_simp;rfl));intro gb399 hg w6 hbox hb;have n0_:=zM (below_step zq0 hb);have n1_:=zM (hbox);have n2_:=zM ((by rw[hg];exact(below_size zq0):w.heap.size≤gb399));have n3_:=zM ((by rw[hg];exact(below_size zq0):w.heap.size≤gb399));clear HB;have HB:=n0_;have BK399:=n1_;have GW399:=n2_;have GE399:=n3_;clear n0_ n1_ n2_ n3_;clear hb hbox hg)|((with_reducible refine gate_dst (N:=3) rfl ?_);refine box_event ?hg (N:=3) ?hd (cs:=#[.int .i64 a1_0,.slice A1_1 l1_1.length c1_1]) (t:=35) ?hr ?_;(case hd=>rfl);(case hg=>rfl);(case hr=>first|(go_simp;done)|(go_simp;rfl));intro gb400 hg w7 hbox hb;have n0_:=zM (blk_below (g:=gb399) (o:=.cells #[.int .i64 a0_0,.slice A0_1 l0_1.length c0_1] 35 (0,0)) zq38 hb);have n1_:=zM (below_step zq32 hb);have n2_:=zM (hbox);have n3_:=zM ((by rw[hg];exact(below_size zq32):w.heap.size≤gb400));have n4_:=zM ((by rw[hg];exact(below_size zq32):w.heap.size≤gb400));have n5_:=zM ((by rw[hg];exact Nat.ne_of_lt (blk_lt (g:=gb399) (o:=.cells #[.int .i64 a0_0,.slice A0_1 l0_1.length c0_1] 35 (0,0)) zq38):gb399≠gb400));have n6_:=zM ((by rw[hg];exact Nat.ne_of_gt (blk_lt (g:=gb399) (o:=.cells #[.int .i64 a0_0,.slice A0_1 l0_1.length c0_1] 35 (0,0)) zq38):gb400≠gb399));clear BK399;clear HB;have BK399:=n0_;have HB:=n1_;have BK400:=n2_;have GW400:=n3_;have GE400:=n4_;have NB399_400:=n5_;have NB400_399:=n6_;clear n0_ n1_ n2_ n3_ n4_ n5_ n6_;clear hb hbox hg;have hnb8:=NB399_400.out;have hnc8:=NB400_399.out;have hcz9_0:w7.cell? ⟨gb399,0,none⟩=some (.int .i64 a0_0):=(blk_cell BK399.out 0).trans rfl;have hcz9_1:w7.cell? ⟨gb399,1,none⟩=some (.slice A0_1 l0_1.length c0_1):=(blk_cell BK399.out 1).trans rfl;have hfz9_0:=blk_frozen BK399.out 0;have hfz9_1:=blk_frozen BK399.out 1;have hcz10_0:w7.cell? ⟨gb400,0,none⟩=some (.int .i64 a1_0):=(blk_cell BK400.out 0).trans rfl;have hcz10_1:w7.cell? ⟨gb400,1,none⟩=some (.slice A1_1 l1_1.length c1_1):=(blk_cell BK400.out 1).trans rfl;have hfz10_0:=blk_frozen BK400.out 0;have hfz10_1:=blk_frozen BK400.out 1)|((with_reducible refine gate_callee (f:=34) rfl ?_);refine goesL_ (some 14) rfl rfl Try.func34 (by kernel_rfl) rfl #[.slice A0_1 l0_1.length c0_1,.slice A1_1 l1_1.length c1_1] rfl zq1 ?_;(with_reducible refine(laws_eqKeyS.calls k _ _ l0_1 _ _ l1_1 true _ ?side1 ?side2 ?side3 ?side4 A4.out).mono ?_);(case side1=>exact zq11);(case side2=>exact HC0_1.out);(case side3=>exact zq58);(case side4=>exact HC1_1.out);rintro e w11 ⟨rfl,hb⟩;refine⟨_,rfl,?_⟩;have n0_:=zM (blk_below (g:=gb399) (o:=.cells #[.int .i64 a0_0,.slice A0_1 l0_1.length c0_1] 35 (0,0)) zq38 hb);have n1_:=zM (blk_below (g:=gb400) (o:=.cells #[.int .i64 a1_0,.slice A1_1 l1_1.length c1_1] 35 (0,0)) zq162 hb);have n2_:=zM (below_step zq100 hb);clear BK399;clear BK400;clear HB;have BK399:=n0_;have BK400:=n1_;have HB:=n2_;clear n0_ n1_ n2_;(try clear hb);(try clear hb2);(try clear hk);(try clear hi)))
   go_ret
   exact⟨zq3,zq100⟩
  ·replace c5:=Bool.eq_false_iff.mpr c5
   subst c5
   have H1:(some false)=some r:=by rw[if_neg (show ¬ (false=true) by decide)] at H;exact H
   clear H
   have H:=H1
   clear H1
   obtain rfl:=Option.some.inj H
   go_enter Try.func11,Try.ntmps11
   go_wp2_with (first|((with_reducible refine gate_dst (N:=2) rfl ?_);refine box_event ?hg (N:=2) ?hd (cs:=#[.int .i64 a0_0,.slice A0_1 l0_1.length c0_1]) (t:=35) ?hr ?_;(case hd=>rfl);(case hg=>rfl);(case hr=>first|(go_simp;done)|(go_simp;rfl));intro gb399 hg w12 hbox hb;have n0_:=zM (below_step zq0 hb);have n1_:=zM (hbox);have n2_:=zM ((by rw[hg];exact(below_size zq0):w.heap.size≤gb399));have n3_:=zM ((by rw[hg];exact(below_size zq0):w.heap.size≤gb399));clear HB;have HB:=n0_;have BK399:=n1_;have GW399:=n2_;have GE399:=n3_;clear n0_ n1_ n2_ n3_;clear hb hbox hg)|((with_reducible refine gate_dst (N:=3) rfl ?_);refine box_event ?hg (N:=3) ?hd (cs:=#[.int .i64 a1_0,.slice A1_1 l1_1.length c1_1]) (t:=35) ?hr ?_;(case hd=>rfl);(case hg=>rfl);(case hr=>first|(go_simp;done)|(go_simp;rfl));intro gb400 hg w13 hbox hb;have n0_:=zM (blk_below (g:=gb399) (o:=.cells #[.int .i64 a0_0,.slice A0_1 l0_1.length c0_1] 35 (0,0)) zq38 hb);have n1_:=zM (below_step zq32 hb);have n2_:=zM (hbox);have n3_:=zM ((by rw[hg];exact(below_size zq32):w.heap.size≤gb400));have n4_:=zM ((by rw[hg];exact(below_size zq32):w.heap.size≤gb400));have n5_:=zM ((by rw[hg];exact Nat.ne_of_lt (blk_lt (g:=gb399) (o:=.cells #[.int .i64 a0_0,.slice A0_1 l0_1.length c0_1] 35 (0,0)) zq38):gb399≠gb400));have n6_:=zM ((by rw[hg];exact Nat.ne_of_gt (blk_lt (g:=gb399) (o:=.cells #[.int .i64 a0_0,.slice A0_1 l0_1.length c0_1] 35 (0,0)) zq38):gb400≠gb399));clear BK399;clear HB;have BK399:=n0_;have HB:=n1_;have BK400:=n2_;have GW400:=n3_;have GE400:=n4_;have NB399_400:=n5_;have NB400_399:=n6_;clear n0_ n1_ n2_ n3_ n4_ n5_ n6_;clear hb hbox hg;have hnb14:=NB399_400.out;have hnc14:=NB400_399.out;have hcz15_0:w13.cell? ⟨gb399,0,none⟩=some (.int .i64 a0_0):=(blk_cell BK399.out 0).trans rfl;have hcz15_1:w13.cell? ⟨gb399,1,none⟩=some (.slice A0_1 l0_1.length c0_1):=(blk_cell BK399.out 1).trans rfl;have hfz15_0:=blk_frozen BK399.out 0;have hfz15_1:=blk_frozen BK399.out 1;have hcz16_0:w13.cell? ⟨gb400,0,none⟩=some (.int .i64 a1_0):=(blk_cell BK400.out 0).trans rfl;have hcz16_1:w13.cell? ⟨gb400,1,none⟩=some (.slice A1_1 l1_1.length c1_1):=(blk_cell BK400.out 1).trans rfl;have hfz16_0:=blk_frozen BK400.out 0;have hfz16_1:=blk_frozen BK400.out 1)|((with_reducible refine gate_callee (f:=34) rfl ?_);refine goesL_ (some 14) rfl rfl Try.func34 (by kernel_rfl) rfl #[.slice A0_1 l0_1.length c0_1,.slice A1_1 l1_1.length c1_1] rfl zq1 ?_;(with_reducible refine(laws_eqKeyS.calls k _ _ l0_1 _ _ l1_1 false _ ?side1 ?side2 ?side3 ?side4 A4.out).mono ?_);(case side1=>exact zq11);(case side2=>exact HC0_1.out);(case side3=>exact zq58);(case side4=>exact HC1_1.out);rintro e w17 ⟨rfl,hb⟩;refine⟨_,rfl,?_⟩;have n0_:=zM (blk_below (g:=gb399) (o:=.cells #[.int .i64 a0_0,.slice A0_1 l0_1.length c0_1] 35 (0,0)) zq38 hb);have n1_:=zM (blk_below (g:=gb400) (o:=.cells #[.int .i64 a1_0,.slice A1_1 l1_1.length c1_1] 35 (0,0)) zq162 hb);have n2_:=zM (below_step zq100 hb);clear BK399;clear BK400;clear HB;have BK399:=n0_;have BK400:=n1_;have HB:=n2_;clear n0_ n1_ n2_;(try clear hb);(try clear hb2);(try clear hk);(try clear hi)))
   go_ret
   exact⟨zq3,zq100⟩
 ·rw[if_neg c3] at H
  have c3b0:(a0_0 == a1_0)=false:=beq_eq_false_iff_ne.mpr c3
  have c3b1:(a0_0 != a1_0)=true:=bne_iff_ne.mpr c3
  obtain rfl:=Option.some.inj H
  go_enter Try.func11,Try.ntmps11
  go_wp2_with (first|((with_reducible refine gate_dst (N:=2) rfl ?_);refine box_event ?hg (N:=2) ?hd (cs:=#[.int .i64 a0_0,.slice A0_1 l0_1.length c0_1]) (t:=35) ?hr ?_;(case hd=>rfl);(case hg=>rfl);(case hr=>first|(go_simp;done)|(go_simp;rfl));intro gb399 hg w18 hbox hb;have n0_:=zM (below_step zq0 hb);have n1_:=zM (hbox);have n2_:=zM ((by rw[hg];exact(below_size zq0):w.heap.size≤gb399));have n3_:=zM ((by rw[hg];exact(below_size zq0):w.heap.size≤gb399));clear HB;have HB:=n0_;have BK399:=n1_;have GW399:=n2_;have GE399:=n3_;clear n0_ n1_ n2_ n3_;clear hb hbox hg)|((with_reducible refine gate_dst (N:=3) rfl ?_);refine box_event ?hg (N:=3) ?hd (cs:=#[.int .i64 a1_0,.slice A1_1 l1_1.length c1_1]) (t:=35) ?hr ?_;(case hd=>rfl);(case hg=>rfl);(case hr=>first|(go_simp;done)|(go_simp;rfl));intro gb400 hg w19 hbox hb;have n0_:=zM (blk_below (g:=gb399) (o:=.cells #[.int .i64 a0_0,.slice A0_1 l0_1.length c0_1] 35 (0,0)) zq38 hb);have n1_:=zM (below_step zq32 hb);have n2_:=zM (hbox);have n3_:=zM ((by rw[hg];exact(below_size zq32):w.heap.size≤gb400));have n4_:=zM ((by rw[hg];exact(below_size zq32):w.heap.size≤gb400));have n5_:=zM ((by rw[hg];exact Nat.ne_of_lt (blk_lt (g:=gb399) (o:=.cells #[.int .i64 a0_0,.slice A0_1 l0_1.length c0_1] 35 (0,0)) zq38):gb399≠gb400));have n6_:=zM ((by rw[hg];exact Nat.ne_of_gt (blk_lt (g:=gb399) (o:=.cells #[.int .i64 a0_0,.slice A0_1 l0_1.length c0_1] 35 (0,0)) zq38):gb400≠gb399));clear BK399;clear HB;have BK399:=n0_;have HB:=n1_;have BK400:=n2_;have GW400:=n3_;have GE400:=n4_;have NB399_400:=n5_;have NB400_399:=n6_;clear n0_ n1_ n2_ n3_ n4_ n5_ n6_;clear hb hbox hg;have hnb20:=NB399_400.out;have hnc20:=NB400_399.out;have hcz21_0:w19.cell? ⟨gb399,0,none⟩=some (.int .i64 a0_0):=(blk_cell BK399.out 0).trans rfl;have hcz21_1:w19.cell? ⟨gb399,1,none⟩=some (.slice A0_1 l0_1.length c0_1):=(blk_cell BK399.out 1).trans rfl;have hfz21_0:=blk_frozen BK399.out 0;have hfz21_1:=blk_frozen BK399.out 1;have hcz22_0:w19.cell? ⟨gb400,0,none⟩=some (.int .i64 a1_0):=(blk_cell BK400.out 0).trans rfl;have hcz22_1:w19.cell? ⟨gb400,1,none⟩=some (.slice A1_1 l1_1.length c1_1):=(blk_cell BK400.out 1).trans rfl;have hfz22_0:=blk_frozen BK400.out 0;have hfz22_1:=blk_frozen BK400.out 1))
  go_ret
  exact⟨zq3,zq100⟩
end Go.Proofs.Ytdbanjdnjhflcaa.All
