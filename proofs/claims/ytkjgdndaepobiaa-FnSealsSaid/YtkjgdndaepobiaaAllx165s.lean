-- Laid by wip/shake.py of this repo out of this claim's texts. Not trusted: Lean checks it.
import Derived.Test.YtkjgdndaepobiaaAb0s
import Derived.Test.YtkjgdndaepobiaaAllx0s
import Derived.Test.YtkjgdndaepobiaaAllx164s
import Derived.Test.YtkjgdndaepobiaaAllx107s
namespace Go.Proofs.Ytkjgdndaepobiaa.All
open Go.Proofs.YtkjgdndaepobiaaW.PrintWords.Aside0 renaming mk→zM
open Go.RowKit Go.Proofs.YtkjgdndaepobiaaW.PrintWords Go.Proofs.YtkjgdndaepobiaaW.PrintLast Go.Proofs.YtkjgdndaepobiaaW.PrintMore
attribute [local go_sem] max2_int min2_int max_two min_two max_three min_three max_four min_four
set_option linter.unusedVariables false
set_option linter.unusedSimpArgs false
def spec_SealText.f (k:Nat) (l0:List Int) (l1:List Int) (l2:List Int) (l3:List Int):Option (Int × List Int):=(spec_l3Asked.f l0 l1 l2).bind fun t512=>(if t512=true then (if (l3.length:Int) > 600 then (some (2,([]:List Int))) else ((spec_l3Seal.f k l0 l1 l2 l3).bind fun t513=>(some (0,t513)))) else (some (2,([]:List Int))))
theorem spec_SealText.mono:∀ a0 a1 a2 a3 k,LeO (spec_SealText.f k a0 a1 a2 a3) (spec_SealText.f (k+1) a0 a1 a2 a3):=by
 intro a0 a1 a2 a3 k
 unfold spec_SealText.f
 repeat' first
   | (with_reducible exact spec_l3Seal.mono _ _ _ _ _)
   | (with_reducible exact LeO.refl _)
   | (with_reducible exact LeO.none _)
   | (with_reducible refine LeO.ite ?_ ?_)
   | (with_reducible refine LeO.bind ?_ (fun _=>?_))
   | exact spec_l3Seal.mono _ _ _ _ _
   | exact LeO.none _
   | refine LeO.ite ?_ ?_
   | refine LeO.bind ?_ (fun _=>?_)
set_option maxHeartbeats 8000000 in
set_option maxRecDepth 100000 in
theorem spec_SealText.calls (k:Nat) (A0:Option Addr) (c0:Nat) (l0:List Int) (A1:Option Addr) (c1:Nat) (l1:List Int) (A2:Option Addr) (c2:Nat) (l2:List Int) (A3:Option Addr) (c3:Nat) (l3:List Int) (r1:Int) (r2:List Int) (w:World) (hr0:Kd.C (Kd.int .u8) w A0 l0.length l0) (hc0:l0.length≤c0) (hr1:Kd.C (Kd.int .u8) w A1 l1.length l1) (hc1:l1.length≤c1) (hr2:Kd.C (Kd.int .u8) w A2 l2.length l2) (hc2:l2.length≤c2) (hr3:Kd.C (Kd.int .u8) w A3 l3.length l3) (hc3:l3.length≤c3) (h:spec_SealText.f k l0 l1 l2 l3=some (r1,r2)) :
  Calls Try.prog 26 #[.slice A0 l0.length c0,.slice A1 l1.length c1,.slice A2 l2.length c2,.slice A3 l3.length c3] w fun e w'=>∃ v1_:Value,e=.returned (.agg #[.int .i64 r1,v1_])∧Kd.R (Kd.int .u8) 5 w' w.heap.size (fun _=>True) v1_ r2∧Below w.heap.size w w':=by
 have hu42:=Try.underlying42
 have HR0:=zM hr0
 have HC0:=zM hc0
 clear hr0 hc0
 have HR1:=zM hr1
 have HC1:=zM hc1
 clear hr1 hc1
 have HR2:=zM hr2
 have HC2:=zM hc2
 clear hr2 hc2
 have HR3:=zM hr3
 have HC3:=zM hc3
 clear hr3 hc3
 have HB:=zM (Below.refl w.heap.size w)
 have H:((spec_l3Asked.f l0 l1 l2).bind fun t512=>(if t512=true then (if (l3.length:Int) > 600 then (some (2,([]:List Int))) else ((spec_l3Seal.f k l0 l1 l2 l3).bind fun t513=>(some (0,t513)))) else (some (2,([]:List Int)))))=some (r1,r2):=h
 clear h
 replace H:=Option.bind_eq_some_iff.mp H
 obtain⟨t512,A50,H⟩:=H
 replace H:(if t512=true then (if (l3.length:Int) > 600 then (some (2,([]:List Int))) else ((spec_l3Seal.f k l0 l1 l2 l3).bind fun t513=>(some (0,t513)))) else (some (2,([]:List Int))))=some (r1,r2):=H
 have A5:=zM A50
 clear A50
 by_cases c6:t512=true
 ·subst c6
  have H1:(if (l3.length:Int) > 600 then (some (2,([]:List Int))) else ((spec_l3Seal.f k l0 l1 l2 l3).bind fun t513=>(some (0,t513))))=some (r1,r2):=by rw[if_pos rfl] at H;exact H
  clear H
  have H:=H1
  clear H1
  by_cases c7:(l3.length:Int) > 600
  ·rw[if_pos c7] at H
   have c7b0:decide (600 < (l3.length:Int))=true:=decide_eq_true c7
   have c7b1:decide (600 < l3.length)=true:=decide_eq_true zq9
   clear c7
   simp only[Option.some.injEq,Prod.mk.injEq] at H
   obtain⟨rfl,rfl⟩:=H
   go_enter Try.func26,Try.ntmps26
   go_wp2_with (first|((with_reducible refine gate_dst (N:=8) rfl ?_);(try (refine gate_guard zq138 ?_;dsimp only));refine box_event ?hg (N:=8) ?hd (cs:=#[.int .i64 0,.slice none 0 0]) (t:=42) ?hr ?_;(case hd=>rfl);(case hg=>rfl);(case hr=>first|(go_simp;done)|(go_simp;rfl));intro gb511 hg w8 hbox hb;have n0_:=zM (below_step zq0 hb);have n1_:=zM (hbox);have n2_:=zM ((by rw[hg];exact(below_size zq0):w.heap.size≤gb511));have n3_:=zM ((by rw[hg];exact(below_size zq0):w.heap.size≤gb511));clear HB;have HB:=n0_;have BK511:=n1_;have GW511:=n2_;have GE511:=n3_;clear n0_ n1_ n2_ n3_;clear hb hbox hg)|((with_reducible refine gate_callee (f:=56) rfl ?_);refine goesL_ (some 12) rfl rfl Try.func56 (by kernel_rfl) rfl #[.slice A0 l0.length c0,.slice A1 l1.length c1,.slice A2 l2.length c2] rfl zq1 ?_;(with_reducible refine(spec_l3Asked.calls _ _ l0 _ _ l1 _ _ l2 true _ ?side1 ?side2 ?side3 ?side4 ?side5 ?side6 A5.out).mono ?_);(case side1=>exact zq26);(case side2=>exact HC0.out);(case side3=>exact zq28);(case side4=>exact HC1.out);(case side5=>exact zq29);(case side6=>exact HC2.out);rintro e w' ⟨rfl,⟨nd,rfl⟩⟩;refine⟨_,rfl,?_⟩;(try (rw[drewN_self w8];generalize hq_:World.drewN w8 _=w8;have n0_:Aside0 (w8.heap[gb511]?=some (.cells #[.int .i64 0,.slice none 0 0] 42 (0,0))):=⟨by rw[← hq_];exact zq152⟩;have n1_:Aside0 (Below w.heap.size w w8):=⟨by rw[← hq_];exact zq102⟩;clear BK511 HB hq_;have BK511:=n0_;have HB:=n1_;clear n0_ n1_));have hcz9_0:w8.cell? ⟨gb511,0,none⟩=some (.int .i64 0):=(blk_cell BK511.out 0).trans rfl;have hcz9_1:w8.cell? ⟨gb511,1,none⟩=some (.slice none 0 0):=(blk_cell BK511.out 1).trans rfl;have hfz9_0:=blk_frozen BK511.out 0;have hfz9_1:=blk_frozen BK511.out 1))
   refine bodyPost_ret (results_cell_row rfl _ _ gb511 42 #[.int .i64 2,.slice none 0 0] (0,0) _ rfl zq125 Try.underlying42 rfl (by kernel_rfl)) rfl ?_
   exact⟨_,zq14,zq100,zq102⟩
  ·rw[if_neg c7] at H
   have c7b0:decide (600 < (l3.length:Int))=false:=decide_eq_false c7
   have c7b1:decide (600 < l3.length)=false:=decide_eq_false zq9
   clear c7
   replace H:=Option.bind_eq_some_iff.mp H
   obtain⟨t513,A100,H⟩:=H
   replace H:(some (0,t513))=some (r1,r2):=H
   have A10:=zM A100
   clear A100
   simp only[Option.some.injEq,Prod.mk.injEq] at H
   obtain⟨rfl,rfl⟩:=H
   go_enter Try.func26,Try.ntmps26
   go_wp2_with (first|((with_reducible refine gate_dst (N:=8) rfl ?_);(try (refine gate_guard zq138 ?_;dsimp only));refine box_event ?hg (N:=8) ?hd (cs:=#[.int .i64 0,.slice none 0 0]) (t:=42) ?hr ?_;(case hd=>rfl);(case hg=>rfl);(case hr=>first|(go_simp;done)|(go_simp;rfl));intro gb511 hg w11 hbox hb;have n0_:=zM (below_step zq0 hb);have n1_:=zM (hbox);have n2_:=zM ((by rw[hg];exact(below_size zq0):w.heap.size≤gb511));have n3_:=zM ((by rw[hg];exact(below_size zq0):w.heap.size≤gb511));clear HB;have HB:=n0_;have BK511:=n1_;have GW511:=n2_;have GE511:=n3_;clear n0_ n1_ n2_ n3_;clear hb hbox hg)|((with_reducible refine gate_callee (f:=56) rfl ?_);refine goesL_ (some 12) rfl rfl Try.func56 (by kernel_rfl) rfl #[.slice A0 l0.length c0,.slice A1 l1.length c1,.slice A2 l2.length c2] rfl zq1 ?_;(with_reducible refine(spec_l3Asked.calls _ _ l0 _ _ l1 _ _ l2 true _ ?side1 ?side2 ?side3 ?side4 ?side5 ?side6 A5.out).mono ?_);(case side1=>exact zq26);(case side2=>exact HC0.out);(case side3=>exact zq28);(case side4=>exact HC1.out);(case side5=>exact zq29);(case side6=>exact HC2.out);rintro e w' ⟨rfl,⟨nd,rfl⟩⟩;refine⟨_,rfl,?_⟩;(try (rw[drewN_self w11];generalize hq_:World.drewN w11 _=w11;have n0_:Aside0 (w11.heap[gb511]?=some (.cells #[.int .i64 0,.slice none 0 0] 42 (0,0))):=⟨by rw[← hq_];exact zq152⟩;have n1_:Aside0 (Below w.heap.size w w11):=⟨by rw[← hq_];exact zq102⟩;clear BK511 HB hq_;have BK511:=n0_;have HB:=n1_;clear n0_ n1_)))|((with_reducible refine gate_callee (f:=53) rfl ?_);refine goesL_ (some 24) rfl rfl Try.func53 (by kernel_rfl) rfl #[.slice A0 l0.length c0,.slice A1 l1.length c1,.slice A2 l2.length c2,.slice A3 l3.length c3] rfl zq1 ?_;(with_reducible refine(spec_l3Seal.calls k _ _ l0 _ _ l1 _ _ l2 _ _ l3 t513 _ ?side1 ?side2 ?side3 ?side4 ?side5 ?side6 ?side7 ?side8 A10.out).mono ?_);(case side1=>exact zq26);(case side2=>exact HC0.out);(case side3=>exact zq28);(case side4=>exact HC1.out);(case side5=>exact zq29);(case side6=>exact HC2.out);(case side7=>exact zq167);(case side8=>exact HC3.out);rintro e w12 ⟨v514,rfl,ho0,hb⟩;refine⟨_,rfl,?_⟩;have n0_:=zM (Kd.R_lower ho0 (below_size zq102));have n1_:=zM (blk_below (g:=gb511) (o:=.cells #[.int .i64 0,.slice none 0 0] 42 (0,0)) zq152 hb);have n2_:=zM (below_step zq102 hb);clear BK511;clear HB;have HO515:=n0_;have BK511:=n1_;have HB:=n2_;clear n0_ n1_ n2_;(try clear hb);(try clear hb2);(try clear hk);(try clear hi);(try clear ho0);obtain⟨Ao13,co13,eo13⟩:=Kd.R_slice HO515.out;subst eo13;have hcz14_0:w12.cell? ⟨gb511,0,none⟩=some (.int .i64 0):=(blk_cell BK511.out 0).trans rfl;have hcz14_1:w12.cell? ⟨gb511,1,none⟩=some (.slice none 0 0):=(blk_cell BK511.out 1).trans rfl;have hfz14_0:=blk_frozen BK511.out 0;have hfz14_1:=blk_frozen BK511.out 1))
   refine bodyPost_ret (results_cell_row rfl _ _ gb511 42 #[.int .i64 0,.slice Ao13 t513.length co13] (0,0) _ rfl (by(with_reducible repeat (first|refine blk_drewN ?_ _|refine blk_drew ?_|refine blk_alloc ?_ _));refine blk_put (cs:=#[.int .i64 0,.slice none 0 0]) ?_ 1 _ rfl;(with_reducible repeat (first|refine blk_drewN ?_ _|refine blk_drew ?_|refine blk_alloc ?_ _));refine blk_put (cs:=#[.int .i64 0,.slice none 0 0]) ?_ 0 _ rfl;(with_reducible repeat (first|refine blk_drewN ?_ _|refine blk_drew ?_|refine blk_alloc ?_ _));exact BK511.out) Try.underlying42 rfl (by kernel_rfl)) rfl ?_
   exact⟨_,zq14,by(with_reducible repeat (first|apply Kd.R_alloc|apply Kd.R_drewN|apply Kd.R_drew));exact Kd.R_mono (Kd.R_far (p:=⟨gb511,1,none⟩) (Kd.R_far (p:=⟨gb511,0,none⟩) (Kd.R_types HO515.out BK511.out zq22) (fun _ hk=>hk.2) (.int .i64 0)) (fun _ hk=>hk.2) (.slice Ao13 t513.length co13)) (fun _ hk=>trivial),zq102⟩
 ·replace c6:=Bool.eq_false_iff.mpr c6
  subst c6
  have H1:(some (2,([]:List Int)))=some (r1,r2):=by rw[if_neg (show ¬ (false=true) by decide)] at H;exact H
  clear H
  have H:=H1
  clear H1
  simp only[Option.some.injEq,Prod.mk.injEq] at H
  obtain⟨rfl,rfl⟩:=H
  go_enter Try.func26,Try.ntmps26
  go_wp2_with (first|((with_reducible refine gate_dst (N:=8) rfl ?_);(try (refine gate_guard zq138 ?_;dsimp only));refine box_event ?hg (N:=8) ?hd (cs:=#[.int .i64 0,.slice none 0 0]) (t:=42) ?hr ?_;(case hd=>rfl);(case hg=>rfl);(case hr=>first|(go_simp;done)|(go_simp;rfl));intro gb511 hg w15 hbox hb;have n0_:=zM (below_step zq0 hb);have n1_:=zM (hbox);have n2_:=zM ((by rw[hg];exact(below_size zq0):w.heap.size≤gb511));have n3_:=zM ((by rw[hg];exact(below_size zq0):w.heap.size≤gb511));clear HB;have HB:=n0_;have BK511:=n1_;have GW511:=n2_;have GE511:=n3_;clear n0_ n1_ n2_ n3_;clear hb hbox hg)|((with_reducible refine gate_callee (f:=56) rfl ?_);refine goesL_ (some 12) rfl rfl Try.func56 (by kernel_rfl) rfl #[.slice A0 l0.length c0,.slice A1 l1.length c1,.slice A2 l2.length c2] rfl zq1 ?_;(with_reducible refine(spec_l3Asked.calls _ _ l0 _ _ l1 _ _ l2 false _ ?side1 ?side2 ?side3 ?side4 ?side5 ?side6 A5.out).mono ?_);(case side1=>exact zq26);(case side2=>exact HC0.out);(case side3=>exact zq28);(case side4=>exact HC1.out);(case side5=>exact zq29);(case side6=>exact HC2.out);rintro e w' ⟨rfl,⟨nd,rfl⟩⟩;refine⟨_,rfl,?_⟩;(try (rw[drewN_self w15];generalize hq_:World.drewN w15 _=w15;have n0_:Aside0 (w15.heap[gb511]?=some (.cells #[.int .i64 0,.slice none 0 0] 42 (0,0))):=⟨by rw[← hq_];exact zq152⟩;have n1_:Aside0 (Below w.heap.size w w15):=⟨by rw[← hq_];exact zq102⟩;clear BK511 HB hq_;have BK511:=n0_;have HB:=n1_;clear n0_ n1_));have hcz16_0:w15.cell? ⟨gb511,0,none⟩=some (.int .i64 0):=(blk_cell BK511.out 0).trans rfl;have hcz16_1:w15.cell? ⟨gb511,1,none⟩=some (.slice none 0 0):=(blk_cell BK511.out 1).trans rfl;have hfz16_0:=blk_frozen BK511.out 0;have hfz16_1:=blk_frozen BK511.out 1))
  refine bodyPost_ret (results_cell_row rfl _ _ gb511 42 #[.int .i64 2,.slice none 0 0] (0,0) _ rfl zq125 Try.underlying42 rfl (by kernel_rfl)) rfl ?_
  exact⟨_,zq14,zq100,zq102⟩
end Go.Proofs.Ytkjgdndaepobiaa.All
