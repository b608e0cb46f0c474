-- Laid by wip/shake.py of this repo out of this claim's texts. Not trusted: Lean checks it.
import Derived.Test.YtkjgdndaepobiaaAb0s
import Derived.Test.YtkjgdndaepobiaaAllx0s
import Derived.Test.YtkjgdndaepobiaaAllx107s
import Derived.Test.YtkjgdndaepobiaaAllx166s
namespace Go.Proofs.Ytkjgdndaepobiaa.All
open Go.Proofs.YtkjgdndaepobiaaW.PrintWords.Aside0 renaming mk→zM
open Go.RowKit Go.Proofs.YtkjgdndaepobiaaW.PrintWords Go.Proofs.YtkjgdndaepobiaaW.PrintLast Go.Proofs.YtkjgdndaepobiaaW.PrintMore
attribute [local go_sem] max2_int min2_int max_two min_two max_three min_three max_four min_four
set_option linter.unusedVariables false
set_option linter.unusedSimpArgs false
def spec_OpenText.j0:Nat→List Int→List Int→List Int→List Int→Bool→Option (Int × List Int)
 | 0,_,_,_,_,_=>none
 | k+1,x0,x1,x2,x3,x20=>if x20=true then (some (2,([]:List Int))) else ((spec_l3Open.f k x0 x1 x2 x3).bind fun bt536=>(if bt536.2=true then (some (0,bt536.1)) else (some (9,([]:List Int)))))
def spec_OpenText.f (k:Nat) (l0:List Int) (l1:List Int) (l2:List Int) (l3:List Int):Option (Int × List Int):=(spec_l3Asked.f l0 l1 l2).bind fun t535=>(if t535=true then (spec_OpenText.j0 k l0 l1 l2 l3 (decide ((l3.length:Int) > 616))) else (spec_OpenText.j0 k l0 l1 l2 l3 true))
theorem spec_OpenText.mono_l:∀ k,(∀ y0 y1 y2 y3 y4,LeO (spec_OpenText.j0 k y0 y1 y2 y3 y4) (spec_OpenText.j0 (k+1) y0 y1 y2 y3 y4))
 | 0=>fun _ _ _ _ _ r h=>by simp[spec_OpenText.j0] at h
 | k+1=>by
  have ih0:=spec_OpenText.mono_l k
  ·intro y0 y1 y2 y3 y4
   unfold spec_OpenText.j0
   repeat' first
   | (with_reducible exact ih0 _ _ _ _ _)
   | (with_reducible exact spec_l3Open.mono _ _ _ _ _)
   | (with_reducible exact LeO.refl _)
   | (with_reducible exact LeO.none _)
   | (with_reducible refine LeO.ite ?_ ?_)
   | (with_reducible refine LeO.bind ?_ (fun _=>?_))
   | exact ih0 _ _ _ _ _
   | exact spec_l3Open.mono _ _ _ _ _
   | exact LeO.none _
   | refine LeO.ite ?_ ?_
   | refine LeO.bind ?_ (fun _=>?_)
theorem spec_OpenText.mono:∀ a0 a1 a2 a3 k,LeO (spec_OpenText.f k a0 a1 a2 a3) (spec_OpenText.f (k+1) a0 a1 a2 a3):=by
 intro a0 a1 a2 a3 k
 have ih0:=spec_OpenText.mono_l k
 unfold spec_OpenText.f
 repeat' first
   | (with_reducible exact ih0 _ _ _ _ _)
   | (with_reducible exact spec_l3Open.mono _ _ _ _ _)
   | (with_reducible exact LeO.refl _)
   | (with_reducible exact LeO.none _)
   | (with_reducible refine LeO.ite ?_ ?_)
   | (with_reducible refine LeO.bind ?_ (fun _=>?_))
   | exact ih0 _ _ _ _ _
   | exact spec_l3Open.mono _ _ _ _ _
   | exact LeO.none _
   | refine LeO.ite ?_ ?_
   | refine LeO.bind ?_ (fun _=>?_)
set_option maxHeartbeats 8000000 in
set_option maxRecDepth 100000 in
theorem spec_OpenText.calls (k:Nat) (A0:Option Addr) (c0:Nat) (l0:List Int) (A1:Option Addr) (c1:Nat) (l1:List Int) (A2:Option Addr) (c2:Nat) (l2:List Int) (A3:Option Addr) (c3:Nat) (l3:List Int) (r1:Int) (r2:List Int) (w:World) (hr0:Kd.C (Kd.int .u8) w A0 l0.length l0) (hc0:l0.length≤c0) (hr1:Kd.C (Kd.int .u8) w A1 l1.length l1) (hc1:l1.length≤c1) (hr2:Kd.C (Kd.int .u8) w A2 l2.length l2) (hc2:l2.length≤c2) (hr3:Kd.C (Kd.int .u8) w A3 l3.length l3) (hc3:l3.length≤c3) (h:spec_OpenText.f k l0 l1 l2 l3=some (r1,r2)) :
  Calls Try.prog 27 #[.slice A0 l0.length c0,.slice A1 l1.length c1,.slice A2 l2.length c2,.slice A3 l3.length c3] w fun e w'=>∃ v1_:Value,e=.returned (.agg #[.int .i64 r1,v1_])∧Kd.R (Kd.int .u8) 5 w' w.heap.size (fun _=>True) v1_ r2∧Below w.heap.size w w':=by
 have hu42:=Try.underlying42
 have HR0:=zM hr0
 have HC0:=zM hc0
 clear hr0 hc0
 have HR1:=zM hr1
 have HC1:=zM hc1
 clear hr1 hc1
 have HR2:=zM hr2
 have HC2:=zM hc2
 clear hr2 hc2
 have HR3:=zM hr3
 have HC3:=zM hc3
 clear hr3 hc3
 have HB:=zM (Below.refl w.heap.size w)
 have H:((spec_l3Asked.f l0 l1 l2).bind fun t535=>(if t535=true then (spec_OpenText.j0 k l0 l1 l2 l3 (decide ((l3.length:Int) > 616))) else (spec_OpenText.j0 k l0 l1 l2 l3 true)))=some (r1,r2):=h
 clear h
 have HC5:=zM H
 clear H
 go_enter Try.func27,Try.ntmps27
 go_upto_region 1 with (first|((with_reducible refine gate_dst (N:=8) rfl ?_);(try (refine gate_guard zq138 ?_;dsimp only));refine box_event ?hg (N:=8) ?hd (cs:=#[.int .i64 0,.slice none 0 0]) (t:=42) ?hr ?_;(case hd=>rfl);(case hg=>rfl);(case hr=>first|(go_simp;done)|(go_simp;rfl));intro gb534 hg w6 hbox hb;have n0_:=zM (below_step zq0 hb);have n1_:=zM (hbox);have n2_:=zM ((by rw[hg];exact(below_size zq0):w.heap.size≤gb534));have n3_:=zM ((by rw[hg];exact(below_size zq0):w.heap.size≤gb534));clear HB;have HB:=n0_;have BK534:=n1_;have GW534:=n2_;have GE534:=n3_;clear n0_ n1_ n2_ n3_;clear hb hbox hg))
 (try simp only[Act.put,List.setIfInBounds_toArray,List.set_cons_zero,List.set_cons_succ])
 go_cut [20] (fun v20 wc=>∃ (kq:Nat) (x20_4:Bool),v20=.bool x20_4∧Aside0 (spec_OpenText.j0 kq l0 l1 l2 l3 x20_4=some (r1,r2))∧Aside0 (kq≤k)∧Aside0 (wc.heap[gb534]?=some (.cells #[.int .i64 0,(.slice none 0 0)] 42 (0,0)))∧Aside0 (Below w.heap.size w wc))
 case first=>
  have H:=HC5.out
  clear HC5
  replace H:=Option.bind_eq_some_iff.mp H
  obtain⟨t535,A70,H⟩:=H
  replace H:(if t535=true then (spec_OpenText.j0 k l0 l1 l2 l3 (decide ((l3.length:Int) > 616))) else (spec_OpenText.j0 k l0 l1 l2 l3 true))=some (r1,r2):=H
  have A7:=zM A70
  clear A70
  by_cases c8:t535=true
  ·subst c8
   have H1:(spec_OpenText.j0 k l0 l1 l2 l3 (decide ((l3.length:Int) > 616)))=some (r1,r2):=by rw[if_pos rfl] at H;exact H
   clear H
   have H:=H1
   clear H1
   have H':=zM H
   clear H
   go_wp2_with (first|((with_reducible refine gate_callee (f:=56) rfl ?_);refine goesL_ (some 14) rfl rfl Try.func56 (by kernel_rfl) rfl #[.slice A0 l0.length c0,.slice A1 l1.length c1,.slice A2 l2.length c2] rfl zq1 ?_;(with_reducible refine(spec_l3Asked.calls _ _ l0 _ _ l1 _ _ l2 true _ ?side1 ?side2 ?side3 ?side4 ?side5 ?side6 A7.out).mono ?_);(case side1=>exact zq26);(case side2=>exact HC0.out);(case side3=>exact zq28);(case side4=>exact HC1.out);(case side5=>exact zq29);(case side6=>exact HC2.out);rintro e w' ⟨rfl,⟨nd,rfl⟩⟩;refine⟨_,rfl,?_⟩))
   go_meet
   case rel=>exact⟨_,(decide ((l3.length:Int) > 616)),zq8,H',⟨zq176⟩,⟨zq206⟩,⟨zq103⟩⟩
  ·replace c8:=Bool.eq_false_iff.mpr c8
   subst c8
   have H1:(spec_OpenText.j0 k l0 l1 l2 l3 true)=some (r1,r2):=by rw[if_neg (show ¬ (false=true) by decide)] at H;exact H
   clear H
   have H:=H1
   clear H1
   have H':=zM H
   clear H
   go_wp2_with (first|((with_reducible refine gate_callee (f:=56) rfl ?_);refine goesL_ (some 14) rfl rfl Try.func56 (by kernel_rfl) rfl #[.slice A0 l0.length c0,.slice A1 l1.length c1,.slice A2 l2.length c2] rfl zq1 ?_;(with_reducible refine(spec_l3Asked.calls _ _ l0 _ _ l1 _ _ l2 false _ ?side1 ?side2 ?side3 ?side4 ?side5 ?side6 A7.out).mono ?_);(case side1=>exact zq26);(case side2=>exact HC0.out);(case side3=>exact zq28);(case side4=>exact HC1.out);(case side5=>exact zq29);(case side6=>exact HC2.out);rintro e w' ⟨rfl,⟨nd,rfl⟩⟩;refine⟨_,rfl,?_⟩))
   go_meet
   case rel=>exact⟨_,(true),zq8,H',⟨zq176⟩,⟨zq206⟩,⟨zq103⟩⟩
 case rest=>
  clear HC5
  try clear c1
  try clear c2
  try clear p2
  try clear c3
  try clear c5
  try clear c8
  obtain⟨kq,x20_4,rfl,HA,HJ4,BK534,HB⟩:=hcut
  cases kq with
  | zero=>exact absurd HA.out (by simp[spec_OpenText.j0])
  | succ kj4=>
   have H:=HA.out
   clear HA
   simp only[spec_OpenText.j0] at H
   by_cases c9:x20_4=true
   ·subst c9
    have H1:(some (2,([]:List Int)))=some (r1,r2):=by rw[if_pos rfl] at H;exact H
    clear H
    have H:=H1
    clear H1
    simp only[Option.some.injEq,Prod.mk.injEq] at H
    obtain⟨rfl,rfl⟩:=H
    have hcz10_0:wc.cell? ⟨gb534,0,none⟩=some (.int .i64 0):=(blk_cell BK534.out 0).trans rfl
    have hcz10_1:wc.cell? ⟨gb534,1,none⟩=some (.slice none 0 0):=(blk_cell BK534.out 1).trans rfl
    have hfz10_0:=blk_frozen BK534.out 0
    have hfz10_1:=blk_frozen BK534.out 1
    go_wp2
    refine bodyPost_ret (results_cell_row rfl _ _ gb534 42 #[.int .i64 2,.slice none 0 0] (0,0) _ rfl (by(with_reducible repeat (first|refine blk_drewN ?_ _|refine blk_drew ?_|refine blk_alloc ?_ _));refine blk_put (cs:=#[.int .i64 2,.slice none 0 0]) ?_ 1 _ rfl;(with_reducible repeat (first|refine blk_drewN ?_ _|refine blk_drew ?_|refine blk_alloc ?_ _));refine blk_put (cs:=#[.int .i64 0,.slice none 0 0]) ?_ 0 _ rfl;(with_reducible repeat (first|refine blk_drewN ?_ _|refine blk_drew ?_|refine blk_alloc ?_ _));exact BK534.out) Try.underlying42 rfl (by kernel_rfl)) rfl ?_
    exact⟨_,zq14,zq100,zq103⟩
   ·replace c9:=Bool.eq_false_iff.mpr c9
    subst c9
    have H1:((spec_l3Open.f kj4 l0 l1 l2 l3).bind fun bt536=>(if bt536.2=true then (some (0,bt536.1)) else (some (9,([]:List Int)))))=some (r1,r2):=by rw[if_neg (show ¬ (false=true) by decide)] at H;exact H
    clear H
    have H:=H1
    clear H1
    replace H:=Option.bind_eq_some_iff.mp H
    obtain⟨⟨t536,t537⟩,A110,H⟩:=H
    replace H:(if t537=true then (some (0,t536)) else (some (9,([]:List Int))))=some (r1,r2):=H
    have A11:=zM A110
    clear A110
    by_cases c12:t537=true
    ·subst c12
     have H1:(some (0,t536))=some (r1,r2):=by rw[if_pos rfl] at H;exact H
     clear H
     have H:=H1
     clear H1
     simp only[Option.some.injEq,Prod.mk.injEq] at H
     obtain⟨rfl,rfl⟩:=H
     go_wp2_with (first|((with_reducible refine gate_callee (f:=57) rfl ?_);refine goesL_ (some 27) rfl rfl Try.func57 (by kernel_rfl) rfl #[.slice A0 l0.length c0,.slice A1 l1.length c1,.slice A2 l2.length c2,.slice A3 l3.length c3] rfl zq1 ?_;(with_reducible refine(spec_l3Open.calls kj4 _ _ l0 _ _ l1 _ _ l2 _ _ l3 t536 true _ ?side1 ?side2 ?side3 ?side4 ?side5 ?side6 ?side7 ?side8 A11.out).mono ?_);(case side1=>exact zq26);(case side2=>exact HC0.out);(case side3=>exact zq28);(case side4=>exact HC1.out);(case side5=>exact zq29);(case side6=>exact HC2.out);(case side7=>exact zq167);(case side8=>exact HC3.out);rintro e w13 ⟨v538,rfl,ho0,hb⟩;refine⟨_,rfl,?_⟩;have n0_:=zM (Kd.R_lower ho0 (below_size zq103));have n1_:=zM (blk_below (g:=gb534) (o:=.cells #[.int .i64 0,.slice none 0 0] 42 (0,0)) zq206 hb);have n2_:=zM (below_step zq103 hb);clear BK534;clear HB;have HO539:=n0_;have BK534:=n1_;have HB:=n2_;clear n0_ n1_ n2_;(try clear hb);(try clear hb2);(try clear hk);(try clear hi);(try clear ho0);obtain⟨Ao14,co14,eo14⟩:=Kd.R_slice HO539.out;subst eo14;have hcz15_0:w13.cell? ⟨gb534,0,none⟩=some (.int .i64 0):=(blk_cell BK534.out 0).trans rfl;have hcz15_1:w13.cell? ⟨gb534,1,none⟩=some (.slice none 0 0):=(blk_cell BK534.out 1).trans rfl;have hfz15_0:=blk_frozen BK534.out 0;have hfz15_1:=blk_frozen BK534.out 1))
     refine bodyPost_ret (results_cell_row rfl _ _ gb534 42 #[.int .i64 0,.slice Ao14 t536.length co14] (0,0) _ rfl (by(with_reducible repeat (first|refine blk_drewN ?_ _|refine blk_drew ?_|refine blk_alloc ?_ _));refine blk_put (cs:=#[.int .i64 0,.slice none 0 0]) ?_ 1 _ rfl;(with_reducible repeat (first|refine blk_drewN ?_ _|refine blk_drew ?_|refine blk_alloc ?_ _));refine blk_put (cs:=#[.int .i64 0,.slice none 0 0]) ?_ 0 _ rfl;(with_reducible repeat (first|refine blk_drewN ?_ _|refine blk_drew ?_|refine blk_alloc ?_ _));exact BK534.out) Try.underlying42 rfl (by kernel_rfl)) rfl ?_
     exact⟨_,zq14,by(with_reducible repeat (first|apply Kd.R_alloc|apply Kd.R_drewN|apply Kd.R_drew));exact Kd.R_mono (Kd.R_far (p:=⟨gb534,1,none⟩) (Kd.R_far (p:=⟨gb534,0,none⟩) (Kd.R_types HO539.out BK534.out zq22) (fun _ hk=>hk.2) (.int .i64 0)) (fun _ hk=>hk.2) (.slice Ao14 t536.length co14)) (fun _ hk=>trivial),zq103⟩
    ·replace c12:=Bool.eq_false_iff.mpr c12
     subst c12
     have H1:(some (9,([]:List Int)))=some (r1,r2):=by rw[if_neg (show ¬ (false=true) by decide)] at H;exact H
     clear H
     have H:=H1
     clear H1
     simp only[Option.some.injEq,Prod.mk.injEq] at H
     obtain⟨rfl,rfl⟩:=H
     go_wp2_with (first|((with_reducible refine gate_callee (f:=57) rfl ?_);refine goesL_ (some 27) rfl rfl Try.func57 (by kernel_rfl) rfl #[.slice A0 l0.length c0,.slice A1 l1.length c1,.slice A2 l2.length c2,.slice A3 l3.length c3] rfl zq1 ?_;(with_reducible refine(spec_l3Open.calls kj4 _ _ l0 _ _ l1 _ _ l2 _ _ l3 t536 false _ ?side1 ?side2 ?side3 ?side4 ?side5 ?side6 ?side7 ?side8 A11.out).mono ?_);(case side1=>exact zq26);(case side2=>exact HC0.out);(case side3=>exact zq28);(case side4=>exact HC1.out);(case side5=>exact zq29);(case side6=>exact HC2.out);(case side7=>exact zq167);(case side8=>exact HC3.out);rintro e w16 ⟨v538,rfl,ho0,hb⟩;refine⟨_,rfl,?_⟩;have n0_:=zM (Kd.R_lower ho0 (below_size zq103));have n1_:=zM (blk_below (g:=gb534) (o:=.cells #[.int .i64 0,.slice none 0 0] 42 (0,0)) zq206 hb);have n2_:=zM (below_step zq103 hb);clear BK534;clear HB;have HO539:=n0_;have BK534:=n1_;have HB:=n2_;clear n0_ n1_ n2_;(try clear hb);(try clear hb2);(try clear hk);(try clear hi);(try clear ho0);have hcz17_0:w16.cell? ⟨gb534,0,none⟩=some (.int .i64 0):=(blk_cell BK534.out 0).trans rfl;have hcz17_1:w16.cell? ⟨gb534,1,none⟩=some (.slice none 0 0):=(blk_cell BK534.out 1).trans rfl;have hfz17_0:=blk_frozen BK534.out 0;have hfz17_1:=blk_frozen BK534.out 1))
     refine bodyPost_ret (results_cell_row rfl _ _ gb534 42 #[.int .i64 9,.slice none 0 0] (0,0) _ rfl (by(with_reducible repeat (first|refine blk_drewN ?_ _|refine blk_drew ?_|refine blk_alloc ?_ _));refine blk_put (cs:=#[.int .i64 9,.slice none 0 0]) ?_ 1 _ rfl;(with_reducible repeat (first|refine blk_drewN ?_ _|refine blk_drew ?_|refine blk_alloc ?_ _));refine blk_put (cs:=#[.int .i64 0,.slice none 0 0]) ?_ 0 _ rfl;(with_reducible repeat (first|refine blk_drewN ?_ _|refine blk_drew ?_|refine blk_alloc ?_ _));exact BK534.out) Try.underlying42 rfl (by kernel_rfl)) rfl ?_
     exact⟨_,zq14,zq100,zq103⟩
end Go.Proofs.Ytkjgdndaepobiaa.All
