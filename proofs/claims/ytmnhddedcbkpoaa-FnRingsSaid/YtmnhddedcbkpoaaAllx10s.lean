-- Laid by wip/shake.py of this repo out of this claim's texts. Not trusted: Lean checks it.
import Derived.Test.YtmnhddedcbkpoaaAb0s
import Derived.Test.YtmnhddedcbkpoaaBytes
namespace Go.Proofs.Ytmnhddedcbkpoaa.All
open Go.Proofs.YtmnhddedcbkpoaaW.PrintWords.Aside0 renaming mk→zM
open Go.RowKit Go.Proofs.YtmnhddedcbkpoaaW.PrintWords Go.Proofs.YtmnhddedcbkpoaaW.PrintLast Go.Proofs.YtmnhddedcbkpoaaW.PrintMore
attribute [local go_sem] max2_int min2_int max_two min_two max_three min_three max_four min_four
set_option linter.unusedVariables false
set_option linter.unusedSimpArgs false
def bytes_Equal.f (l0:List Int) (l1:List Int):Option (Bool):=some ((strOfNums l0).toList == (strOfNums l1).toList)
set_option maxHeartbeats 8000000 in
set_option maxRecDepth 100000 in
theorem bytes_Equal.calls (A0:Option Addr) (c0:Nat) (l0:List Int) (A1:Option Addr) (c1:Nat) (l1:List Int) (r:Bool) (w:World) (hr0:Kd.C (Kd.int .u8) w A0 l0.length l0) (hc0:l0.length≤c0) (hr1:Kd.C (Kd.int .u8) w A1 l1.length l1) (hc1:l1.length≤c1) (h:bytes_Equal.f l0 l1=some r) :
  Calls Try.prog 91 #[.slice A0 l0.length c0,.slice A1 l1.length c1] w fun e w'=>e=.returned (.bool r)∧Drawn0 w w':=by
 have HR0:=zM hr0
 have HC0:=zM hc0
 clear hr0 hc0
 have HR1:=zM hr1
 have HC1:=zM hc1
 clear hr1 hc1
 have H:(some ((strOfNums l0).toList == (strOfNums l1).toList))=some r:=h
 clear h
 obtain rfl:=Option.some.inj H
 have hcv3:=Kd.C_string (P:=Try.prog) (A:=A0) (c:=c0) Try.underlying22 Try.underlying5 Try.underlying9 HR0.out
 have hcv4:=Kd.C_string (P:=Try.prog) (A:=A1) (c:=c1) Try.underlying22 Try.underlying5 Try.underlying9 HR1.out
 go_enter Try.func91,Try.ntmps91
 go_wp2
 go_ret
 exact⟨zq53,zq72⟩
def impl_sameKey.f (a0_0:Int) (l0_1:List Int) (a1_0:Int) (l1_1:List Int):Option (Bool):=if a0_0=a1_0 then ((bytes_Equal.f l0_1 l1_1).bind fun t316=>(some t316)) else (some false)
set_option maxHeartbeats 8000000 in
set_option maxRecDepth 100000 in
theorem impl_sameKey.calls (a0_0:Int) (A0_1:Option Addr) (c0_1:Nat) (l0_1:List Int) (a1_0:Int) (A1_1:Option Addr) (c1_1:Nat) (l1_1:List Int) (r:Bool) (w:World) (hr0_1:Kd.C (Kd.int .u8) w A0_1 l0_1.length l0_1) (hc0_1:l0_1.length≤c0_1) (hr1_1:Kd.C (Kd.int .u8) w A1_1 l1_1.length l1_1) (hc1_1:l1_1.length≤c1_1) (h:impl_sameKey.f a0_0 l0_1 a1_0 l1_1=some r) :
  Calls Try.prog 70 #[.agg #[.int .i64 a0_0,.slice A0_1 l0_1.length c0_1],.agg #[.int .i64 a1_0,.slice A1_1 l1_1.length c1_1]] w fun e w'=>e=.returned (.bool r)∧Below w.heap.size w w':=by
 have hu25:=Try.underlying25
 have HR0_1:=zM hr0_1
 have HC0_1:=zM hc0_1
 clear hr0_1 hc0_1
 have HR1_1:=zM hr1_1
 have HC1_1:=zM hc1_1
 clear hr1_1 hc1_1
 have HB:=zM (Below.refl w.heap.size w)
 have H:(if a0_0=a1_0 then ((bytes_Equal.f l0_1 l1_1).bind fun t316=>(some t316)) else (some false))=some r:=h
 clear h
 by_cases c3:a0_0=a1_0
 ·rw[if_pos c3] at H
  have c3b0:(a0_0 == a1_0)=true:=beq_iff_eq.mpr c3
  have c3b1:(a0_0 != a1_0)=false:=bne_eq_false_iff_eq.mpr c3
  clear c3
  replace H:=Option.bind_eq_some_iff.mp H
  obtain⟨t316,A40,H⟩:=H
  replace H:(some t316)=some r:=H
  have A4:=zM A40
  clear A40
  obtain rfl:=Option.some.inj H
  go_enter Try.func70,Try.ntmps70
  go_wp2_with (first|((with_reducible refine gate_dst (N:=2) rfl ?_);refine box_event ?hg (N:=2) ?hd (cs:=#[.int .i64 a0_0,.slice A0_1 l0_1.length c0_1]) (t:=25) ?hr ?_;(case hd=>rfl);(case hg=>rfl);(case hr=>first|(go_simp;done)|(go_simp;rfl));intro gb314 hg w5 hbox hb;have n0_:=zM (below_step zq0 hb);have n1_:=zM (hbox);have n2_:=zM ((by rw[hg];exact(below_size zq0):w.heap.size≤gb314));have n3_:=zM ((by rw[hg];exact(below_size zq0):w.heap.size≤gb314));clear HB;have HB:=n0_;have BK314:=n1_;have GW314:=n2_;have GE314:=n3_;clear n0_ n1_ n2_ n3_;clear hb hbox hg)|((with_reducible refine gate_dst (N:=3) rfl ?_);refine box_event ?hg (N:=3) ?hd (cs:=#[.int .i64 a1_0,.slice A1_1 l1_1.length c1_1]) (t:=25) ?hr ?_;(case hd=>rfl);(case hg=>rfl);(case hr=>first|(go_simp;done)|(go_simp;rfl));intro gb315 hg w6 hbox hb;have n0_:=zM (blk_below (g:=gb314) (o:=.cells #[.int .i64 a0_0,.slice A0_1 l0_1.length c0_1] 25 (0,0)) zq57 hb);have n1_:=zM (below_step zq46 hb);have n2_:=zM (hbox);have n3_:=zM ((by rw[hg];exact(below_size zq46):w.heap.size≤gb315));have n4_:=zM ((by rw[hg];exact(below_size zq46):w.heap.size≤gb315));have n5_:=zM ((by rw[hg];exact Nat.ne_of_lt (blk_lt (g:=gb314) (o:=.cells #[.int .i64 a0_0,.slice A0_1 l0_1.length c0_1] 25 (0,0)) zq57):gb314≠gb315));have n6_:=zM ((by rw[hg];exact Nat.ne_of_gt (blk_lt (g:=gb314) (o:=.cells #[.int .i64 a0_0,.slice A0_1 l0_1.length c0_1] 25 (0,0)) zq57):gb315≠gb314));clear BK314;clear HB;have BK314:=n0_;have HB:=n1_;have BK315:=n2_;have GW315:=n3_;have GE315:=n4_;have NB314_315:=n5_;have NB315_314:=n6_;clear n0_ n1_ n2_ n3_ n4_ n5_ n6_;clear hb hbox hg;have hnb7:=NB314_315.out;have hnc7:=NB315_314.out;have hcz8_0:w6.cell? ⟨gb314,0,none⟩=some (.int .i64 a0_0):=(blk_cell BK314.out 0).trans rfl;have hcz8_1:w6.cell? ⟨gb314,1,none⟩=some (.slice A0_1 l0_1.length c0_1):=(blk_cell BK314.out 1).trans rfl;have hfz8_0:=blk_frozen BK314.out 0;have hfz8_1:=blk_frozen BK314.out 1;have hcz9_0:w6.cell? ⟨gb315,0,none⟩=some (.int .i64 a1_0):=(blk_cell BK315.out 0).trans rfl;have hcz9_1:w6.cell? ⟨gb315,1,none⟩=some (.slice A1_1 l1_1.length c1_1):=(blk_cell BK315.out 1).trans rfl;have hfz9_0:=blk_frozen BK315.out 0;have hfz9_1:=blk_frozen BK315.out 1)|(go_at_call 91;(with_reducible refine(bytes_Equal.calls _ _ l0_1 _ _ l1_1 t316 _ ?side1 ?side2 ?side3 ?side4 A4.out).mono ?_);(case side1=>exact zq16);(case side2=>exact HC0_1.out);(case side3=>repeat (first|exact(Kd.C_below HR1_1.out HB.out)|(with_reducible refine Kd.C_alloc ?_ _)|(with_reducible refine Kd.C_drewN ?_ _)|(with_reducible refine Kd.C_drew ?_)));(case side4=>exact HC1_1.out);rintro e w' ⟨rfl,⟨nd,rfl⟩⟩))
  go_ret
  exact⟨zq10,zq97⟩
 ·rw[if_neg c3] at H
  have c3b0:(a0_0 == a1_0)=false:=beq_eq_false_iff_ne.mpr c3
  have c3b1:(a0_0 != a1_0)=true:=bne_iff_ne.mpr c3
  obtain rfl:=Option.some.inj H
  go_enter Try.func70,Try.ntmps70
  go_wp2_with (first|((with_reducible refine gate_dst (N:=2) rfl ?_);refine box_event ?hg (N:=2) ?hd (cs:=#[.int .i64 a0_0,.slice A0_1 l0_1.length c0_1]) (t:=25) ?hr ?_;(case hd=>rfl);(case hg=>rfl);(case hr=>first|(go_simp;done)|(go_simp;rfl));intro gb314 hg w10 hbox hb;have n0_:=zM (below_step zq0 hb);have n1_:=zM (hbox);have n2_:=zM ((by rw[hg];exact(below_size zq0):w.heap.size≤gb314));have n3_:=zM ((by rw[hg];exact(below_size zq0):w.heap.size≤gb314));clear HB;have HB:=n0_;have BK314:=n1_;have GW314:=n2_;have GE314:=n3_;clear n0_ n1_ n2_ n3_;clear hb hbox hg)|((with_reducible refine gate_dst (N:=3) rfl ?_);refine box_event ?hg (N:=3) ?hd (cs:=#[.int .i64 a1_0,.slice A1_1 l1_1.length c1_1]) (t:=25) ?hr ?_;(case hd=>rfl);(case hg=>rfl);(case hr=>first|(go_simp;done)|(go_simp;rfl));intro gb315 hg w11 hbox hb;have n0_:=zM (blk_below (g:=gb314) (o:=.cells #[.int .i64 a0_0,.slice A0_1 l0_1.length c0_1] 25 (0,0)) zq57 hb);have n1_:=zM (below_step zq46 hb);have n2_:=zM (hbox);have n3_:=zM ((by rw[hg];exact(below_size zq46):w.heap.size≤gb315));have n4_:=zM ((by rw[hg];exact(below_size zq46):w.heap.size≤gb315));have n5_:=zM ((by rw[hg];exact Nat.ne_of_lt (blk_lt (g:=gb314) (o:=.cells #[.int .i64 a0_0,.slice A0_1 l0_1.length c0_1] 25 (0,0)) zq57):gb314≠gb315));have n6_:=zM ((by rw[hg];exact Nat.ne_of_gt (blk_lt (g:=gb314) (o:=.cells #[.int .i64 a0_0,.slice A0_1 l0_1.length c0_1] 25 (0,0)) zq57):gb315≠gb314));clear BK314;clear HB;have BK314:=n0_;have HB:=n1_;have BK315:=n2_;have GW315:=n3_;have GE315:=n4_;have NB314_315:=n5_;have NB315_314:=n6_;clear n0_ n1_ n2_ n3_ n4_ n5_ n6_;clear hb hbox hg;have hnb12:=NB314_315.out;have hnc12:=NB315_314.out;have hcz13_0:w11.cell? ⟨gb314,0,none⟩=some (.int .i64 a0_0):=(blk_cell BK314.out 0).trans rfl;have hcz13_1:w11.cell? ⟨gb314,1,none⟩=some (.slice A0_1 l0_1.length c0_1):=(blk_cell BK314.out 1).trans rfl;have hfz13_0:=blk_frozen BK314.out 0;have hfz13_1:=blk_frozen BK314.out 1;have hcz14_0:w11.cell? ⟨gb315,0,none⟩=some (.int .i64 a1_0):=(blk_cell BK315.out 0).trans rfl;have hcz14_1:w11.cell? ⟨gb315,1,none⟩=some (.slice A1_1 l1_1.length c1_1):=(blk_cell BK315.out 1).trans rfl;have hfz14_0:=blk_frozen BK315.out 0;have hfz14_1:=blk_frozen BK315.out 1))
  go_ret
  exact⟨zq10,zq97⟩
end Go.Proofs.Ytmnhddedcbkpoaa.All
