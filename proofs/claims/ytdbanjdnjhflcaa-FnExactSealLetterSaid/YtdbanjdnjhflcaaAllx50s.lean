-- Laid by wip/shake.py of this repo out of this claim's texts. Not trusted: Lean checks it.
import Derived.Test.YtdbanjdnjhflcaaAb0s
import Derived.Test.YtdbanjdnjhflcaaAlgs
import Derived.Test.YtdbanjdnjhflcaaAllx12s
set_option linter.unusedSimpArgs false
set_option linter.unusedVariables false
namespace Go.Proofs.Ytdbanjdnjhflcaa.All
open Go.Proofs.YtdbanjdnjhflcaaW.PrintWords.Aside0 renaming mk→zM
open Go.RowKit Go.Proofs.YtdbanjdnjhflcaaW.PrintWords Go.Proofs.YtdbanjdnjhflcaaW.PrintLast Go.Proofs.YtdbanjdnjhflcaaW.PrintMore
attribute [local go_sem] max2_int min2_int max_two min_two max_three min_three max_four min_four
def laws_eqLetter.f (k:Nat) (a0_0:Int) (a0_1:Int) (a0_2:Int) (l0_3:List Int) (a1_0:Int) (a1_1:Int) (a1_2:Int) (l1_3:List Int):Option (Bool):=if a0_0=a1_0 then (if a0_1=a1_1 then (if a0_2=a1_2 then ((laws_eqByteS.f k l0_3 l1_3).bind fun t404=>(if t404=true then (some true) else (some false))) else (some false)) else (some false)) else (some false)
theorem laws_eqLetter.mono:∀ a0 a1 a2 a3 a4 a5 a6 a7 k,LeO (laws_eqLetter.f k a0 a1 a2 a3 a4 a5 a6 a7) (laws_eqLetter.f (k+1) a0 a1 a2 a3 a4 a5 a6 a7):=by
 intro a0 a1 a2 a3 a4 a5 a6 a7 k
 unfold laws_eqLetter.f
 repeat' first
   | (with_reducible exact laws_eqByteS.mono _ _ _)
   | (with_reducible exact LeO.refl _)
   | (with_reducible exact LeO.none _)
   | (with_reducible refine LeO.ite ?_ ?_)
   | (with_reducible refine LeO.bind ?_ (fun _=>?_))
   | exact laws_eqByteS.mono _ _ _
   | exact LeO.none _
   | refine LeO.ite ?_ ?_
   | refine LeO.bind ?_ (fun _=>?_)
set_option maxHeartbeats 8000000 in
set_option maxRecDepth 100000 in
theorem laws_eqLetter.calls (k:Nat) (a0_0:Int) (a0_1:Int) (a0_2:Int) (A0_3:Option Addr) (c0_3:Nat) (l0_3:List Int) (a1_0:Int) (a1_1:Int) (a1_2:Int) (A1_3:Option Addr) (c1_3:Nat) (l1_3:List Int) (r:Bool) (w:World) (hr0_3:Kd.C (Kd.int .u8) w A0_3 l0_3.length l0_3) (hc0_3:l0_3.length≤c0_3) (hr1_3:Kd.C (Kd.int .u8) w A1_3 l1_3.length l1_3) (hc1_3:l1_3.length≤c1_3) (h:laws_eqLetter.f k a0_0 a0_1 a0_2 l0_3 a1_0 a1_1 a1_2 l1_3=some r) :
  Calls Try.prog 12 #[.agg #[.int .i64 a0_0,.int .i64 a0_1,.int .i64 a0_2,.slice A0_3 l0_3.length c0_3],.agg #[.int .i64 a1_0,.int .i64 a1_1,.int .i64 a1_2,.slice A1_3 l1_3.length c1_3]] w fun e w'=>e=.returned (.bool r)∧Below w.heap.size w w':=by
 have hu37:=Try.underlying37
 have HR0_3:=zM hr0_3
 have HC0_3:=zM hc0_3
 clear hr0_3 hc0_3
 have HR1_3:=zM hr1_3
 have HC1_3:=zM hc1_3
 clear hr1_3 hc1_3
 have HB:=zM (Below.refl w.heap.size w)
 have H:(if a0_0=a1_0 then (if a0_1=a1_1 then (if a0_2=a1_2 then ((laws_eqByteS.f k l0_3 l1_3).bind fun t404=>(if t404=true then (some true) else (some false))) else (some false)) else (some false)) else (some false))=some r:=h
 clear h
 by_cases c3:a0_0=a1_0
 ·rw[if_pos c3] at H
  have c3b0:(a0_0 == a1_0)=true:=beq_iff_eq.mpr c3
  have c3b1:(a0_0 != a1_0)=false:=bne_eq_false_iff_eq.mpr c3
  clear c3
  by_cases c4:a0_1=a1_1
  ·rw[if_pos c4] at H
   have c4b0:(a0_1 == a1_1)=true:=beq_iff_eq.mpr c4
   have c4b1:(a0_1 != a1_1)=false:=bne_eq_false_iff_eq.mpr c4
   clear c4
   by_cases c5:a0_2=a1_2
   ·rw[if_pos c5] at H
    have c5b0:(a0_2 == a1_2)=true:=beq_iff_eq.mpr c5
    have c5b1:(a0_2 != a1_2)=false:=bne_eq_false_iff_eq.mpr c5
    clear c5
    replace H:=Option.bind_eq_some_iff.mp H
    obtain⟨t404,A60,H⟩:=H
    replace H:(if t404=true then (some true) else (some false))=some r:=H
    have A6:=zM A60
    clear A60
    by_cases c7:t404=true
    ·subst c7
     have H1:(some true)=some r:=by rw[if_pos rfl] at H;exact H
     clear H
     have H:=H1
     clear H1
     obtain rfl:=Option.some.inj H
     go_enter Try.func12,Try.ntmps12
     go_wp2_with (first|((with_reducible refine gate_dst (N:=2) rfl ?_);refine box_event ?hg (N:=2) ?hd (cs:=#[.int .i64 a0_0,.int .i64 a0_1,.int .i64 a0_2,.slice A0_3 l0_3.length c0_3]) (t:=37) ?hr ?_;(case hd=>rfl);(case hg=>rfl);(case hr=>first|(go_simp;done)|(go_simp;rfl));intro gb402 hg w8 hbox hb;have n0_:=zM (below_step zq0 hb);have n1_:=zM (hbox);have n2_:=zM ((by rw[hg];exact(below_size zq0):w.heap.size≤gb402));have n3_:=zM ((by rw[hg];exact(below_size zq0):w.heap.size≤gb402));clear HB;have HB:=n0_;have BK402:=n1_;have GW402:=n2_;have GE402:=n3_;clear n0_ n1_ n2_ n3_;clear hb hbox hg)|((with_reducible refine gate_dst (N:=3) rfl ?_);refine box_event ?hg (N:=3) ?hd (cs:=#[.int .i64 a1_0,.int .i64 a1_1,.int .i64 a1_2,.slice A1_3 l1_3.length c1_3]) (t:=37) ?hr ?_;(case hd=>rfl);(case hg=>rfl);(case hr=>first|(go_simp;done)|(go_simp;rfl));intro gb403 hg w9 hbox hb;have n0_:=zM (blk_below (g:=gb402) (o:=.cells #[.int .i64 a0_0,.int .i64 a0_1,.int .i64 a0_2,.slice A0_3 l0_3.length c0_3] 37 (0,0)) zq24 hb);have n1_:=zM (below_step zq18 hb);have n2_:=zM (hbox);have n3_:=zM ((by rw[hg];exact(below_size zq18):w.heap.size≤gb403));have n4_:=zM ((by rw[hg];exact(below_size zq18):w.heap.size≤gb403));have n5_:=zM ((by rw[hg];exact Nat.ne_of_lt (blk_lt (g:=gb402) (o:=.cells #[.int .i64 a0_0,.int .i64 a0_1,.int .i64 a0_2,.slice A0_3 l0_3.length c0_3] 37 (0,0)) zq24):gb402≠gb403));have n6_:=zM ((by rw[hg];exact Nat.ne_of_gt (blk_lt (g:=gb402) (o:=.cells #[.int .i64 a0_0,.int .i64 a0_1,.int .i64 a0_2,.slice A0_3 l0_3.length c0_3] 37 (0,0)) zq24):gb403≠gb402));clear BK402;clear HB;have BK402:=n0_;have HB:=n1_;have BK403:=n2_;have GW403:=n3_;have GE403:=n4_;have NB402_403:=n5_;have NB403_402:=n6_;clear n0_ n1_ n2_ n3_ n4_ n5_ n6_;clear hb hbox hg;have hnb10:=NB402_403.out;have hnc10:=NB403_402.out;have hcz11_0:w9.cell? ⟨gb402,0,none⟩=some (.int .i64 a0_0):=(blk_cell BK402.out 0).trans rfl;have hcz11_1:w9.cell? ⟨gb402,1,none⟩=some (.int .i64 a0_1):=(blk_cell BK402.out 1).trans rfl;have hcz11_2:w9.cell? ⟨gb402,2,none⟩=some (.int .i64 a0_2):=(blk_cell BK402.out 2).trans rfl;have hcz11_3:w9.cell? ⟨gb402,3,none⟩=some (.slice A0_3 l0_3.length c0_3):=(blk_cell BK402.out 3).trans rfl;have hfz11_0:=blk_frozen BK402.out 0;have hfz11_1:=blk_frozen BK402.out 1;have hfz11_2:=blk_frozen BK402.out 2;have hfz11_3:=blk_frozen BK402.out 3;have hcz12_0:w9.cell? ⟨gb403,0,none⟩=some (.int .i64 a1_0):=(blk_cell BK403.out 0).trans rfl;have hcz12_1:w9.cell? ⟨gb403,1,none⟩=some (.int .i64 a1_1):=(blk_cell BK403.out 1).trans rfl;have hcz12_2:w9.cell? ⟨gb403,2,none⟩=some (.int .i64 a1_2):=(blk_cell BK403.out 2).trans rfl;have hcz12_3:w9.cell? ⟨gb403,3,none⟩=some (.slice A1_3 l1_3.length c1_3):=(blk_cell BK403.out 3).trans rfl;have hfz12_0:=blk_frozen BK403.out 0;have hfz12_1:=blk_frozen BK403.out 1;have hfz12_2:=blk_frozen BK403.out 2;have hfz12_3:=blk_frozen BK403.out 3)|((with_reducible refine gate_callee (f:=33) rfl ?_);refine goesL_ (some 24) rfl rfl Try.func33 (by kernel_rfl) rfl #[.slice A0_3 l0_3.length c0_3,.slice A1_3 l1_3.length c1_3] rfl zq1 ?_;(with_reducible refine(laws_eqByteS.calls k _ _ l0_3 _ _ l1_3 true _ ?side1 ?side2 ?side3 ?side4 A6.out).mono ?_);(case side1=>exact zq80);(case side2=>exact HC0_3.out);(case side3=>exact zq153);(case side4=>exact HC1_3.out);rintro e w' ⟨rfl,⟨nd,rfl⟩⟩;refine⟨_,rfl,?_⟩))
     go_ret
     exact⟨zq3,zq59⟩
    ·replace c7:=Bool.eq_false_iff.mpr c7
     subst c7
     have H1:(some false)=some r:=by rw[if_neg (show ¬ (false=true) by decide)] at H;exact H
     clear H
     have H:=H1
     clear H1
     obtain rfl:=Option.some.inj H
     go_enter Try.func12,Try.ntmps12
     go_wp2_with (first|((with_reducible refine gate_dst (N:=2) rfl ?_);refine box_event ?hg (N:=2) ?hd (cs:=#[.int .i64 a0_0,.int .i64 a0_1,.int .i64 a0_2,.slice A0_3 l0_3.length c0_3]) (t:=37) ?hr ?_;(case hd=>rfl);(case hg=>rfl);(case hr=>first|(go_simp;done)|(go_simp;rfl));intro gb402 hg w13 hbox hb;have n0_:=zM (below_step zq0 hb);have n1_:=zM (hbox);have n2_:=zM ((by rw[hg];exact(below_size zq0):w.heap.size≤gb402));have n3_:=zM ((by rw[hg];exact(below_size zq0):w.heap.size≤gb402));clear HB;have HB:=n0_;have BK402:=n1_;have GW402:=n2_;have GE402:=n3_;clear n0_ n1_ n2_ n3_;clear hb hbox hg)|((with_reducible refine gate_dst (N:=3) rfl ?_);refine box_event ?hg (N:=3) ?hd (cs:=#[.int .i64 a1_0,.int .i64 a1_1,.int .i64 a1_2,.slice A1_3 l1_3.length c1_3]) (t:=37) ?hr ?_;(case hd=>rfl);(case hg=>rfl);(case hr=>first|(go_simp;done)|(go_simp;rfl));intro gb403 hg w14 hbox hb;have n0_:=zM (blk_below (g:=gb402) (o:=.cells #[.int .i64 a0_0,.int .i64 a0_1,.int .i64 a0_2,.slice A0_3 l0_3.length c0_3] 37 (0,0)) zq24 hb);have n1_:=zM (below_step zq18 hb);have n2_:=zM (hbox);have n3_:=zM ((by rw[hg];exact(below_size zq18):w.heap.size≤gb403));have n4_:=zM ((by rw[hg];exact(below_size zq18):w.heap.size≤gb403));have n5_:=zM ((by rw[hg];exact Nat.ne_of_lt (blk_lt (g:=gb402) (o:=.cells #[.int .i64 a0_0,.int .i64 a0_1,.int .i64 a0_2,.slice A0_3 l0_3.length c0_3] 37 (0,0)) zq24):gb402≠gb403));have n6_:=zM ((by rw[hg];exact Nat.ne_of_gt (blk_lt (g:=gb402) (o:=.cells #[.int .i64 a0_0,.int .i64 a0_1,.int .i64 a0_2,.slice A0_3 l0_3.length c0_3] 37 (0,0)) zq24):gb403≠gb402));clear BK402;clear HB;have BK402:=n0_;have HB:=n1_;have BK403:=n2_;have GW403:=n3_;have GE403:=n4_;have NB402_403:=n5_;have NB403_402:=n6_;clear n0_ n1_ n2_ n3_ n4_ n5_ n6_;clear hb hbox hg;have hnb15:=NB402_403.out;have hnc15:=NB403_402.out;have hcz16_0:w14.cell? ⟨gb402,0,none⟩=some (.int .i64 a0_0):=(blk_cell BK402.out 0).trans rfl;have hcz16_1:w14.cell? ⟨gb402,1,none⟩=some (.int .i64 a0_1):=(blk_cell BK402.out 1).trans rfl;have hcz16_2:w14.cell? ⟨gb402,2,none⟩=some (.int .i64 a0_2):=(blk_cell BK402.out 2).trans rfl;have hcz16_3:w14.cell? ⟨gb402,3,none⟩=some (.slice A0_3 l0_3.length c0_3):=(blk_cell BK402.out 3).trans rfl;have hfz16_0:=blk_frozen BK402.out 0;have hfz16_1:=blk_frozen BK402.out 1;have hfz16_2:=blk_frozen BK402.out 2;have hfz16_3:=blk_frozen BK402.out 3;have hcz17_0:w14.cell? ⟨gb403,0,none⟩=some (.int .i64 a1_0):=(blk_cell BK403.out 0).trans rfl;have hcz17_1:w14.cell? ⟨gb403,1,none⟩=some (.int .i64 a1_1):=(blk_cell BK403.out 1).trans rfl;have hcz17_2:w14.cell? ⟨gb403,2,none⟩=some (.int .i64 a1_2):=(blk_cell BK403.out 2).trans rfl;have hcz17_3:w14.cell? ⟨gb403,3,none⟩=some (.slice A1_3 l1_3.length c1_3):=(blk_cell BK403.out 3).trans rfl;have hfz17_0:=blk_frozen BK403.out 0;have hfz17_1:=blk_frozen BK403.out 1;have hfz17_2:=blk_frozen BK403.out 2;have hfz17_3:=blk_frozen BK403.out 3)|((with_reducible refine gate_callee (f:=33) rfl ?_);refine goesL_ (some 24) rfl rfl Try.func33 (by kernel_rfl) rfl #[.slice A0_3 l0_3.length c0_3,.slice A1_3 l1_3.length c1_3] rfl zq1 ?_;(with_reducible refine(laws_eqByteS.calls k _ _ l0_3 _ _ l1_3 false _ ?side1 ?side2 ?side3 ?side4 A6.out).mono ?_);(case side1=>exact zq80);(case side2=>exact HC0_3.out);(case side3=>exact zq153);(case side4=>exact HC1_3.out);rintro e w' ⟨rfl,⟨nd,rfl⟩⟩;refine⟨_,rfl,?_⟩))
     go_ret
     exact⟨zq3,zq59⟩
   ·rw[if_neg c5] at H
    have c5b0:(a0_2 == a1_2)=false:=beq_eq_false_iff_ne.mpr c5
    have c5b1:(a0_2 != a1_2)=true:=bne_iff_ne.mpr c5
    obtain rfl:=Option.some.inj H
    go_enter Try.func12,Try.ntmps12
    go_wp2_with (first|((with_reducible refine gate_dst (N:=2) rfl ?_);refine box_event ?hg (N:=2) ?hd (cs:=#[.int .i64 a0_0,.int .i64 a0_1,.int .i64 a0_2,.slice A0_3 l0_3.length c0_3]) (t:=37) ?hr ?_;(case hd=>rfl);(case hg=>rfl);(case hr=>first|(go_simp;done)|(go_simp;rfl));intro gb402 hg w18 hbox hb;have n0_:=zM (below_step zq0 hb);have n1_:=zM (hbox);have n2_:=zM ((by rw[hg];exact(below_size zq0):w.heap.size≤gb402));have n3_:=zM ((by rw[hg];exact(below_size zq0):w.heap.size≤gb402));clear HB;have HB:=n0_;have BK402:=n1_;have GW402:=n2_;have GE402:=n3_;clear n0_ n1_ n2_ n3_;clear hb hbox hg)|((with_reducible refine gate_dst (N:=3) rfl ?_);refine box_event ?hg (N:=3) ?hd (cs:=#[.int .i64 a1_0,.int .i64 a1_1,.int .i64 a1_2,.slice A1_3 l1_3.length c1_3]) (t:=37) ?hr ?_;(case hd=>rfl);(case hg=>rfl);(case hr=>first|(go_simp;done)|(go_simp;rfl));intro gb403 hg w19 hbox hb;have n0_:=zM (blk_below (g:=gb402) (o:=.cells #[.int .i64 a0_0,.int .i64 a0_1,.int .i64 a0_2,.slice A0_3 l0_3.length c0_3] 37 (0,0)) zq24 hb);have n1_:=zM (below_step zq18 hb);have n2_:=zM (hbox);have n3_:=zM ((by rw[hg];exact(below_size zq18):w.heap.size≤gb403));have n4_:=zM ((by rw[hg];exact(below_size zq18):w.heap.size≤gb403));have n5_:=zM ((by rw[hg];exact Nat.ne_of_lt (blk_lt (g:=gb402) (o:=.cells #[.int .i64 a0_0,.int .i64 a0_1,.int .i64 a0_2,.slice A0_3 l0_3.length c0_3] 37 (0,0)) zq24):gb402≠gb403));have n6_:=zM ((by rw[hg];exact Nat.ne_of_gt (blk_lt (g:=gb402) (o:=.cells #[.int .i64 a0_0,.int .i64 a0_1,.int .i64 a0_2,.slice A0_3 l0_3.length c0_3] 37 (0,0)) zq24):gb403≠gb402));clear BK402;clear HB;have BK402:=n0_;have HB:=n1_;have BK403:=n2_;have GW403:=n3_;have GE403:=n4_;have NB402_403:=n5_;have NB403_402:=n6_;clear n0_ n1_ n2_ n3_ n4_ n5_ n6_;clear hb hbox hg;have hnb20:=NB402_403.out;have hnc20:=NB403_402.out;have hcz21_0:w19.cell? ⟨gb402,0,none⟩=some (.int .i64 a0_0):=(blk_cell BK402.out 0).trans rfl;have hcz21_1:w19.cell? ⟨gb402,1,none⟩=some (.int .i64 a0_1):=(blk_cell BK402.out 1).trans rfl;have hcz21_2:w19.cell? ⟨gb402,2,none⟩=some (.int .i64 a0_2):=(blk_cell BK402.out 2).trans rfl;have hcz21_3:w19.cell? ⟨gb402,3,none⟩=some (.slice A0_3 l0_3.length c0_3):=(blk_cell BK402.out 3).trans rfl;have hfz21_0:=blk_frozen BK402.out 0;have hfz21_1:=blk_frozen BK402.out 1;have hfz21_2:=blk_frozen BK402.out 2;have hfz21_3:=blk_frozen BK402.out 3;have hcz22_0:w19.cell? ⟨gb403,0,none⟩=some (.int .i64 a1_0):=(blk_cell BK403.out 0).trans rfl;have hcz22_1:w19.cell? ⟨gb403,1,none⟩=some (.int .i64 a1_1):=(blk_cell BK403.out 1).trans rfl;have hcz22_2:w19.cell? ⟨gb403,2,none⟩=some (.int .i64 a1_2):=(blk_cell BK403.out 2).trans rfl;have hcz22_3:w19.cell? ⟨gb403,3,none⟩=some (.slice A1_3 l1_3.length c1_3):=(blk_cell BK403.out 3).trans rfl;have hfz22_0:=blk_frozen BK403.out 0;have hfz22_1:=blk_frozen BK403.out 1;have hfz22_2:=blk_frozen BK403.out 2;have hfz22_3:=blk_frozen BK403.out 3))
    go_ret
    exact⟨zq3,zq59⟩
  ·rw[if_neg c4] at H
   have c4b0:(a0_1 == a1_1)=false:=beq_eq_false_iff_ne.mpr c4
   have c4b1:(a0_1 != a1_1)=true:=bne_iff_ne.mpr c4
   obtain rfl:=Option.some.inj H
   go_enter Try.func12,Try.ntmps12
   go_wp2_with (first|((with_reducible refine gate_dst (N:=2) rfl ?_);refine box_event ?hg (N:=2) ?hd (cs:=#[.int .i64 a0_0,.int .i64 a0_1,.int .i64 a0_2,.slice A0_3 l0_3.length c0_3]) (t:=37) ?hr ?_;(case hd=>rfl);(case hg=>rfl);(case hr=>first|(go_simp;done)|(go_simp;rfl));intro gb402 hg w23 hbox hb;have n0_:=zM (below_step zq0 hb);have n1_:=zM (hbox);have n2_:=zM ((by rw[hg];exact(below_size zq0):w.heap.size≤gb402));have n3_:=zM ((by rw[hg];exact(below_size zq0):w.heap.size≤gb402));clear HB;have HB:=n0_;have BK402:=n1_;have GW402:=n2_;have GE402:=n3_;clear n0_ n1_ n2_ n3_;clear hb hbox hg)|((with_reducible refine gate_dst (N:=3) rfl ?_);refine box_event ?hg (N:=3) ?hd (cs:=#[.int .i64 a1_0,.int .i64 a1_1,.int .i64 a1_2,.slice A1_3 l1_3.length c1_3]) (t:=37) ?hr ?_;(case hd=>rfl);(case hg=>rfl);(case hr=>first|(go_simp;done)|(go_simp;rfl));intro gb403 hg w24 hbox hb;have n0_:=zM (blk_below (g:=gb402) (o:=.cells #[.int .i64 a0_0,.int .i64 a0_1,.int .i64 a0_2,.slice A0_3 l0_3.length c0_3] 37 (0,0)) zq24 hb);have n1_:=zM (below_step zq18 hb);have n2_:=zM (hbox);have n3_:=zM ((by rw[hg];exact(below_size zq18):w.heap.size≤gb403));have n4_:=zM ((by rw[hg];exact(below_size zq18):w.heap.size≤gb403));have n5_:=zM ((by rw[hg];exact Nat.ne_of_lt (blk_lt (g:=gb402) (o:=.cells #[.int .i64 a0_0,.int .i64 a0_1,.int .i64 a0_2,.slice A0_3 l0_3.length c0_3] 37 (0,0)) zq24):gb402≠gb403));have n6_:=zM ((by rw[hg];exact Nat.ne_of_gt (blk_lt (g:=gb402) (o:=.cells #[.int .i64 a0_0,.int .i64 a0_1,.int .i64 a0_2,.slice A0_3 l0_3.length c0_3] 37 (0,0)) zq24):gb403≠gb402));clear BK402;clear HB;have BK402:=n0_;have HB:=n1_;have BK403:=n2_;have GW403:=n3_;have GE403:=n4_;have NB402_403:=n5_;have NB403_402:=n6_;clear n0_ n1_ n2_ n3_ n4_ n5_ n6_;clear hb hbox hg;have hnb25:=NB402_403.out;have hnc25:=NB403_402.out;have hcz26_0:w24.cell? ⟨gb402,0,none⟩=some (.int .i64 a0_0):=(blk_cell BK402.out 0).trans rfl;have hcz26_1:w24.cell? ⟨gb402,1,none⟩=some (.int .i64 a0_1):=(blk_cell BK402.out 1).trans rfl;have hcz26_2:w24.cell? ⟨gb402,2,none⟩=some (.int .i64 a0_2):=(blk_cell BK402.out 2).trans rfl;have hcz26_3:w24.cell? ⟨gb402,3,none⟩=some (.slice A0_3 l0_3.length c0_3):=(blk_cell BK402.out 3).trans rfl;have hfz26_0:=blk_frozen BK402.out 0;have hfz26_1:=blk_frozen BK402.out 1;have hfz26_2:=blk_frozen BK402.out 2;have hfz26_3:=blk_frozen BK402.out 3;have hcz27_0:w24.cell? ⟨gb403,0,none⟩=some (.int .i64 a1_0):=(blk_cell BK403.out 0).trans rfl;have hcz27_1:w24.cell? ⟨gb403,1,none⟩=some (.int .i64 a1_1):=(blk_cell BK403.out 1).trans rfl;have hcz27_2:w24.cell? ⟨gb403,2,none⟩=some (.int .i64 a1_2):=(blk_cell BK403.out 2).trans rfl;have hcz27_3:w24.cell? ⟨gb403,3,none⟩=some (.slice A1_3 l1_3.length c1_3):=(blk_cell BK403.out 3).trans rfl;have hfz27_0:=blk_frozen BK403.out 0;have hfz27_1:=blk_frozen BK403.out 1;have hfz27_2:=blk_frozen BK403.out 2;have hfz27_3:=blk_frozen BK403.out 3))
   go_ret
   exact⟨zq3,zq59⟩
 ·rw[if_neg c3] at H
  have c3b0:(a0_0 == a1_0)=false:=beq_eq_false_iff_ne.mpr c3
  have c3b1:(a0_0 != a1_0)=true:=bne_iff_ne.mpr c3
  obtain rfl:=Option.some.inj H
  go_enter Try.func12,Try.ntmps12
  go_wp2_with (first|((with_reducible refine gate_dst (N:=2) rfl ?_);refine box_event ?hg (N:=2) ?hd (cs:=#[.int .i64 a0_0,.int .i64 a0_1,.int .i64 a0_2,.slice A0_3 l0_3.length c0_3]) (t:=37) ?hr ?_;(case hd=>rfl);(case hg=>rfl);(case hr=>first|(go_simp;done)|(go_simp;rfl));intro gb402 hg w28 hbox hb;have n0_:=zM (below_step zq0 hb);have n1_:=zM (hbox);have n2_:=zM ((by rw[hg];exact(below_size zq0):w.heap.size≤gb402));have n3_:=zM ((by rw[hg];exact(below_size zq0):w.heap.size≤gb402));clear HB;have HB:=n0_;have BK402:=n1_;have GW402:=n2_;have GE402:=n3_;clear n0_ n1_ n2_ n3_;clear hb hbox hg)|((with_reducible refine gate_dst (N:=3) rfl ?_);refine box_event ?hg (N:=3) ?hd (cs:=#[.int .i64 a1_0,.int .i64 a1_1,.int .i64 a1_2,.slice A1_3 l1_3.length c1_3]) (t:=37) ?hr ?_;(case hd=>rfl);(case hg=>rfl);(case hr=>first|(go_simp;done)|(go_simp;rfl));intro gb403 hg w29 hbox hb;have n0_:=zM (blk_below (g:=gb402) (o:=.cells #[.int .i64 a0_0,.int .i64 a0_1,.int .i64 a0_2,.slice A0_3 l0_3.length c0_3] 37 (0,0)) zq24 hb);have n1_:=zM (below_step zq18 hb);have n2_:=zM (hbox);have n3_:=zM ((by rw[hg];exact(below_size zq18):w.heap.size≤gb403));have n4_:=zM ((by rw[hg];exact(below_size zq18):w.heap.size≤gb403));have n5_:=zM ((by rw[hg];exact Nat.ne_of_lt (blk_lt (g:=gb402) (o:=.cells #[.int .i64 a0_0,.int .i64 a0_1,.int .i64 a0_2,.slice A0_3 l0_3.length c0_3] 37 (0,0)) zq24):gb402≠gb403));have n6_:=zM ((by rw[hg];exact Nat.ne_of_gt (blk_lt (g:=gb402) (o:=.cells #[.int .i64 a0_0,.int .i64 a0_1,.int .i64 a0_2,.slice A0_3 l0_3.length c0_3] 37 (0,0)) zq24):gb403≠gb402));clear BK402;clear HB;have BK402:=n0_;have HB:=n1_;have BK403:=n2_;have GW403:=n3_;have GE403:=n4_;have NB402_403:=n5_;have NB403_402:=n6_;clear n0_ n1_ n2_ n3_ n4_ n5_ n6_;clear hb hbox hg;have hnb30:=NB402_403.out;have hnc30:=NB403_402.out;have hcz31_0:w29.cell? ⟨gb402,0,none⟩=some (.int .i64 a0_0):=(blk_cell BK402.out 0).trans rfl;have hcz31_1:w29.cell? ⟨gb402,1,none⟩=some (.int .i64 a0_1):=(blk_cell BK402.out 1).trans rfl;have hcz31_2:w29.cell? ⟨gb402,2,none⟩=some (.int .i64 a0_2):=(blk_cell BK402.out 2).trans rfl;have hcz31_3:w29.cell? ⟨gb402,3,none⟩=some (.slice A0_3 l0_3.length c0_3):=(blk_cell BK402.out 3).trans rfl;have hfz31_0:=blk_frozen BK402.out 0;have hfz31_1:=blk_frozen BK402.out 1;have hfz31_2:=blk_frozen BK402.out 2;have hfz31_3:=blk_frozen BK402.out 3;have hcz32_0:w29.cell? ⟨gb403,0,none⟩=some (.int .i64 a1_0):=(blk_cell BK403.out 0).trans rfl;have hcz32_1:w29.cell? ⟨gb403,1,none⟩=some (.int .i64 a1_1):=(blk_cell BK403.out 1).trans rfl;have hcz32_2:w29.cell? ⟨gb403,2,none⟩=some (.int .i64 a1_2):=(blk_cell BK403.out 2).trans rfl;have hcz32_3:w29.cell? ⟨gb403,3,none⟩=some (.slice A1_3 l1_3.length c1_3):=(blk_cell BK403.out 3).trans rfl;have hfz32_0:=blk_frozen BK403.out 0;have hfz32_1:=blk_frozen BK403.out 1;have hfz32_2:=blk_frozen BK403.out 2;have hfz32_3:=blk_frozen BK403.out 3))
  go_ret
  exact⟨zq3,zq59⟩
end Go.Proofs.Ytdbanjdnjhflcaa.All
