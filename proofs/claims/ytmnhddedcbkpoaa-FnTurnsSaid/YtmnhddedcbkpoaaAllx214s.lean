-- Laid by wip/shake.py of this repo out of this claim's texts. Not trusted: Lean checks it.
import Derived.Test.YtmnhddedcbkpoaaAb0s
import Derived.Test.YtmnhddedcbkpoaaBytes
import Derived.Test.YtmnhddedcbkpoaaAllx24s
import Derived.Test.YtmnhddedcbkpoaaAllx202s
import Derived.Test.YtmnhddedcbkpoaaAllx205s
import Derived.Test.YtmnhddedcbkpoaaAllx564s
import Derived.Test.YtmnhddedcbkpoaaAllx567s
namespace Go.Proofs.Ytmnhddedcbkpoaa.All
open Go.Proofs.YtmnhddedcbkpoaaW.PrintWords.Aside0 renaming mk→zM
open Go.RowKit Go.Proofs.YtmnhddedcbkpoaaW.PrintWords Go.Proofs.YtmnhddedcbkpoaaW.PrintLast Go.Proofs.YtmnhddedcbkpoaaW.PrintMore
attribute [local go_sem] max2_int min2_int max_two min_two max_three min_three max_four min_four
set_option linter.unusedVariables false
set_option linter.unusedSimpArgs false
def impl_TurnRing.j0:Nat→Int→Bool→Int→List (S25)→Int→List Int→Option (Int × Int × (List (S25)))
 | 0,_,_,_,_,_,_=>none
 | k+1,x1,x26,x267000,x267001,x268000,x268001=>if x26=true then (some (1,0,([]:List (S25)))) else (if x1=1 then ((impl_InstallKey.f k x267000 x267001 x268000 x268001).bind fun bt271=>(some (bt271.1,bt271.2.1,bt271.2.2))) else (if x1=2 then ((impl_UseKey.f k x267000 x267001 x268000).bind fun bt276=>(some (bt276.1,bt276.2.1,bt276.2.2))) else ((impl_RemoveKey.f k x267000 x267001 x268000).bind fun bt281=>(some (bt281.1,bt281.2.1,bt281.2.2)))))
def impl_TurnRing.f (k:Nat) (a0_0:Int) (l0_1:List (S25)) (a1:Int) (a2_0:Int) (l2_1:List Int):Option (Int × Int × (List (S25))):=(impl_RingFault.f k a0_0 l0_1).bind fun t269=>(if t269=0 then ((impl_in.f a1 1 3).bind fun t270=>(if t270=true then (if a1=1 then (impl_TurnRing.j0 k a1 false a0_0 l0_1 a2_0 l2_1) else (impl_TurnRing.j0 k a1 (decide ((l2_1.length:Int) > 0)) a0_0 l0_1 a2_0 l2_1)) else (impl_TurnRing.j0 k a1 true a0_0 l0_1 a2_0 l2_1))) else (some (t269,0,([]:List (S25)))))
theorem impl_TurnRing.mono_l:∀ k,(∀ y0 y1 y2 y3 y4 y5,LeO (impl_TurnRing.j0 k y0 y1 y2 y3 y4 y5) (impl_TurnRing.j0 (k+1) y0 y1 y2 y3 y4 y5))
 | 0=>fun _ _ _ _ _ _ r h=>by simp[impl_TurnRing.j0] at h
 | k+1=>by
  have ih0:=impl_TurnRing.mono_l k
  ·intro y0 y1 y2 y3 y4 y5
   unfold impl_TurnRing.j0
   repeat' first
   | (with_reducible exact ih0 _ _ _ _ _ _)
   | (with_reducible exact impl_InstallKey.mono _ _ _ _ _)
   | (with_reducible exact impl_RemoveKey.mono _ _ _ _)
   | (with_reducible exact impl_RingFault.mono _ _ _)
   | (with_reducible exact impl_UseKey.mono _ _ _ _)
   | (with_reducible exact LeO.refl _)
   | (with_reducible exact LeO.none _)
   | (with_reducible refine LeO.ite ?_ ?_)
   | (with_reducible refine LeO.bind ?_ (fun _=>?_))
   | exact ih0 _ _ _ _ _ _
   | exact impl_InstallKey.mono _ _ _ _ _
   | exact impl_RemoveKey.mono _ _ _ _
   | exact impl_RingFault.mono _ _ _
   | exact impl_UseKey.mono _ _ _ _
   | exact LeO.none _
   | refine LeO.ite ?_ ?_
   | refine LeO.bind ?_ (fun _=>?_)
theorem impl_TurnRing.mono:∀ a0 a1 a2 a3 a4 k,LeO (impl_TurnRing.f k a0 a1 a2 a3 a4) (impl_TurnRing.f (k+1) a0 a1 a2 a3 a4):=by
 intro a0 a1 a2 a3 a4 k
 have ih0:=impl_TurnRing.mono_l k
 unfold impl_TurnRing.f
 repeat' first
   | (with_reducible exact ih0 _ _ _ _ _ _)
   | (with_reducible exact impl_InstallKey.mono _ _ _ _ _)
   | (with_reducible exact impl_RemoveKey.mono _ _ _ _)
   | (with_reducible exact impl_RingFault.mono _ _ _)
   | (with_reducible exact impl_UseKey.mono _ _ _ _)
   | (with_reducible exact LeO.refl _)
   | (with_reducible exact LeO.none _)
   | (with_reducible refine LeO.ite ?_ ?_)
   | (with_reducible refine LeO.bind ?_ (fun _=>?_))
   | exact ih0 _ _ _ _ _ _
   | exact impl_InstallKey.mono _ _ _ _ _
   | exact impl_RemoveKey.mono _ _ _ _
   | exact impl_RingFault.mono _ _ _
   | exact impl_UseKey.mono _ _ _ _
   | exact LeO.none _
   | refine LeO.ite ?_ ?_
   | refine LeO.bind ?_ (fun _=>?_)
set_option maxHeartbeats 8000000 in
set_option maxRecDepth 100000 in
theorem impl_TurnRing.calls (k:Nat) (a0_0:Int) (A0_1:Option Addr) (c0_1:Nat) (l0_1:List (S25)) (a1:Int) (a2_0:Int) (A2_1:Option Addr) (c2_1:Nat) (l2_1:List Int) (r1:Int) (r2:Int) (r3:List (S25)) (w:World) (hr0_1:Kd.C k25 w A0_1 l0_1.length l0_1) (hc0_1:l0_1.length≤c0_1) (hr2_1:Kd.C (Kd.int .u8) w A2_1 l2_1.length l2_1) (hc2_1:l2_1.length≤c2_1) (h:impl_TurnRing.f k a0_0 l0_1 a1 a2_0 l2_1=some (r1,r2,r3)) :
  Calls Try.prog 19 #[.agg #[.int .i64 a0_0,.slice A0_1 l0_1.length c0_1],.int .i64 a1,.agg #[.int .i64 a2_0,.slice A2_1 l2_1.length c2_1]] w fun e w'=>∃ v2_:Value,e=.returned (.agg #[.int .i64 r1,.int .i64 r2,v2_])∧Kd.S k25 25 w' w.heap.size (fun _=>True) v2_ r3∧Below w.heap.size w w':=by
 have hu29:=Try.underlying29
 have hu25:=Try.underlying25
 have hu31:=Try.underlying31
 have HR0_1:=zM hr0_1
 have HC0_1:=zM hc0_1
 clear hr0_1 hc0_1
 have HR2_1:=zM hr2_1
 have HC2_1:=zM hc2_1
 clear hr2_1 hc2_1
 have HB:=zM (Below.refl w.heap.size w)
 have H:((impl_RingFault.f k a0_0 l0_1).bind fun t269=>(if t269=0 then ((impl_in.f a1 1 3).bind fun t270=>(if t270=true then (if a1=1 then (impl_TurnRing.j0 k a1 false a0_0 l0_1 a2_0 l2_1) else (impl_TurnRing.j0 k a1 (decide ((l2_1.length:Int) > 0)) a0_0 l0_1 a2_0 l2_1)) else (impl_TurnRing.j0 k a1 true a0_0 l0_1 a2_0 l2_1))) else (some (t269,0,([]:List (S25))))))=some (r1,r2,r3):=h
 clear h
 replace H:=Option.bind_eq_some_iff.mp H
 obtain⟨t269,A40,H⟩:=H
 replace H:(if t269=0 then ((impl_in.f a1 1 3).bind fun t270=>(if t270=true then (if a1=1 then (impl_TurnRing.j0 k a1 false a0_0 l0_1 a2_0 l2_1) else (impl_TurnRing.j0 k a1 (decide ((l2_1.length:Int) > 0)) a0_0 l0_1 a2_0 l2_1)) else (impl_TurnRing.j0 k a1 true a0_0 l0_1 a2_0 l2_1))) else (some (t269,0,([]:List (S25)))))=some (r1,r2,r3):=H
 have A4:=zM A40
 clear A40
 by_cases c5:t269=0
 ·rw[if_pos c5] at H
  have c5b0:(t269 == 0)=true:=beq_iff_eq.mpr c5
  have c5b1:(t269 != 0)=false:=bne_eq_false_iff_eq.mpr c5
  clear c5
  have HC6:=zM H
  clear H
  go_enter Try.func19,Try.ntmps19
  go_upto_region 4 with (first|((with_reducible refine gate_dst (N:=3) rfl ?_);(try (refine gate_guard zq145 ?_;dsimp only));refine box_event ?hg (N:=3) ?hd (cs:=#[.int .i64 a0_0,.slice A0_1 l0_1.length c0_1]) (t:=29) ?hr ?_;(case hd=>rfl);(case hg=>rfl);(case hr=>first|(go_simp;done)|(go_simp;rfl));intro gb266 hg w7 hbox hb;have n0_:=zM (below_step zq0 hb);have n1_:=zM (hbox);have n2_:=zM ((by rw[hg];exact(below_size zq0):w.heap.size≤gb266));have n3_:=zM ((by rw[hg];exact(below_size zq0):w.heap.size≤gb266));clear HB;have HB:=n0_;have BK266:=n1_;have GW266:=n2_;have GE266:=n3_;clear n0_ n1_ n2_ n3_;clear hb hbox hg)|((with_reducible refine gate_dst (N:=5) rfl ?_);(try (refine gate_guard zq145 ?_;dsimp only));refine box_event ?hg (N:=5) ?hd (cs:=#[.int .i64 a2_0,.slice A2_1 l2_1.length c2_1]) (t:=25) ?hr ?_;(case hd=>rfl);(case hg=>rfl);(case hr=>first|(go_simp;done)|(go_simp;rfl));intro gb267 hg w8 hbox hb;have n0_:=zM (blk_below (g:=gb266) (o:=.cells #[.int .i64 a0_0,.slice A0_1 l0_1.length c0_1] 29 (0,0)) zq38 hb);have n1_:=zM (below_step zq106 hb);have n2_:=zM (hbox);have n3_:=zM ((by rw[hg];exact(below_size zq106):w.heap.size≤gb267));have n4_:=zM ((by rw[hg];exact(below_size zq106):w.heap.size≤gb267));have n5_:=zM ((by rw[hg];exact Nat.ne_of_lt (blk_lt (g:=gb266) (o:=.cells #[.int .i64 a0_0,.slice A0_1 l0_1.length c0_1] 29 (0,0)) zq38):gb266≠gb267));have n6_:=zM ((by rw[hg];exact Nat.ne_of_gt (blk_lt (g:=gb266) (o:=.cells #[.int .i64 a0_0,.slice A0_1 l0_1.length c0_1] 29 (0,0)) zq38):gb267≠gb266));clear BK266;clear HB;have BK266:=n0_;have HB:=n1_;have BK267:=n2_;have GW267:=n3_;have GE267:=n4_;have NB266_267:=n5_;have NB267_266:=n6_;clear n0_ n1_ n2_ n3_ n4_ n5_ n6_;clear hb hbox hg)|((with_reducible refine gate_dst (N:=6) rfl ?_);(try (refine gate_guard zq145 ?_;dsimp only));refine box_event ?hg (N:=6) ?hd (cs:=#[.int .i64 0,.int .i64 0,.slice none 0 0]) (t:=31) ?hr ?_;(case hd=>rfl);(case hg=>rfl);(case hr=>first|(go_simp;done)|(go_simp;rfl));intro gb268 hg w9 hbox hb;have n0_:=zM (blk_below (g:=gb266) (o:=.cells #[.int .i64 a0_0,.slice A0_1 l0_1.length c0_1] 29 (0,0)) zq38 hb);have n1_:=zM (blk_below (g:=gb267) (o:=.cells #[.int .i64 a2_0,.slice A2_1 l2_1.length c2_1] 25 (0,0)) zq52 hb);have n2_:=zM (below_step zq85 hb);have n3_:=zM (hbox);have n4_:=zM ((by rw[hg];exact(below_size zq85):w.heap.size≤gb268));have n5_:=zM ((by rw[hg];exact(below_size zq85):w.heap.size≤gb268));have n6_:=zM ((by rw[hg];exact Nat.ne_of_lt (blk_lt (g:=gb266) (o:=.cells #[.int .i64 a0_0,.slice A0_1 l0_1.length c0_1] 29 (0,0)) zq38):gb266≠gb268));have n7_:=zM ((by rw[hg];exact Nat.ne_of_gt (blk_lt (g:=gb266) (o:=.cells #[.int .i64 a0_0,.slice A0_1 l0_1.length c0_1] 29 (0,0)) zq38):gb268≠gb266));have n8_:=zM ((by rw[hg];exact Nat.ne_of_lt (blk_lt (g:=gb267) (o:=.cells #[.int .i64 a2_0,.slice A2_1 l2_1.length c2_1] 25 (0,0)) zq52):gb267≠gb268));have n9_:=zM ((by rw[hg];exact Nat.ne_of_gt (blk_lt (g:=gb267) (o:=.cells #[.int .i64 a2_0,.slice A2_1 l2_1.length c2_1] 25 (0,0)) zq52):gb268≠gb267));clear BK266;clear BK267;clear HB;have BK266:=n0_;have BK267:=n1_;have HB:=n2_;have BK268:=n3_;have GW268:=n4_;have GE268:=n5_;have NB266_268:=n6_;have NB268_266:=n7_;have NB267_268:=n8_;have NB268_267:=n9_;clear n0_ n1_ n2_ n3_ n4_ n5_ n6_ n7_ n8_ n9_;clear hb hbox hg;have hnb10:=NB266_267.out;have hnc10:=NB267_266.out;have hnb11:=NB266_268.out;have hnc11:=NB268_266.out;have hcz12_0:w9.cell? ⟨gb266,0,none⟩=some (.int .i64 a0_0):=(blk_cell BK266.out 0).trans rfl;have hcz12_1:w9.cell? ⟨gb266,1,none⟩=some (.slice A0_1 l0_1.length c0_1):=(blk_cell BK266.out 1).trans rfl;have hfz12_0:=blk_frozen BK266.out 0;have hfz12_1:=blk_frozen BK266.out 1)|((with_reducible refine gate_callee (f:=25) rfl ?_);refine goesL_ (some 9) rfl rfl Try.func25 (by kernel_rfl) rfl #[.agg #[.int .i64 a0_0,.slice A0_1 l0_1.length c0_1]] rfl zq4 ?_;(with_reducible refine(impl_RingFault.calls k a0_0 _ _ l0_1 t269 _ ?side1 ?side2 A4.out).mono ?_);(case side1=>exact zq12);(case side2=>exact HC0_1.out);rintro e w13 ⟨rfl,hb⟩;refine⟨_,rfl,?_⟩;have n0_:=zM (blk_below (g:=gb266) (o:=.cells #[.int .i64 a0_0,.slice A0_1 l0_1.length c0_1] 29 (0,0)) zq38 hb);have n1_:=zM (blk_below (g:=gb267) (o:=.cells #[.int .i64 a2_0,.slice A2_1 l2_1.length c2_1] 25 (0,0)) zq52 hb);have n2_:=zM (blk_below (g:=gb268) (o:=.cells #[.int .i64 0,.int .i64 0,.slice none 0 0] 31 (0,0)) zq142 hb);have n3_:=zM (below_step zq48 hb);clear BK266;clear BK267;clear BK268;clear HB;have BK266:=n0_;have BK267:=n1_;have BK268:=n2_;have HB:=n3_;clear n0_ n1_ n2_ n3_;(try clear hb);(try clear hb2);(try clear hk);(try clear hi)))
  (try simp only[Act.put,List.setIfInBounds_toArray,List.set_cons_zero,List.set_cons_succ])
  go_cut [26] (fun v26 wc=>∃ (kq:Nat) (x26_5:Bool),v26=.bool x26_5∧Aside0 (impl_TurnRing.j0 kq a1 x26_5 a0_0 l0_1 a2_0 l2_1=some (r1,r2,r3))∧Aside0 (kq≤k)∧Aside0 (wc.heap[gb266]?=some (.cells #[.int .i64 a0_0,(.slice A0_1 l0_1.length c0_1)] 29 (0,0)))∧Aside0 (wc.heap[gb267]?=some (.cells #[.int .i64 a2_0,(.slice A2_1 l2_1.length c2_1)] 25 (0,0)))∧Aside0 (wc.heap[gb268]?=some (.cells #[.int .i64 0,.int .i64 0,(.slice none 0 0)] 31 (0,0)))∧Aside0 (Below w.heap.size w wc))
  case first=>
   have H:=HC6.out
   clear HC6
   replace H:=Option.bind_eq_some_iff.mp H
   obtain⟨t270,A140,H⟩:=H
   replace H:(if t270=true then (if a1=1 then (impl_TurnRing.j0 k a1 false a0_0 l0_1 a2_0 l2_1) else (impl_TurnRing.j0 k a1 (decide ((l2_1.length:Int) > 0)) a0_0 l0_1 a2_0 l2_1)) else (impl_TurnRing.j0 k a1 true a0_0 l0_1 a2_0 l2_1))=some (r1,r2,r3):=H
   have A14:=zM A140
   clear A140
   by_cases c15:t270=true
   ·subst c15
    have H1:(if a1=1 then (impl_TurnRing.j0 k a1 false a0_0 l0_1 a2_0 l2_1) else (impl_TurnRing.j0 k a1 (decide ((l2_1.length:Int) > 0)) a0_0 l0_1 a2_0 l2_1))=some (r1,r2,r3):=by rw[if_pos rfl] at H;exact H
    clear H
    have H:=H1
    clear H1
    by_cases c16:a1=1
    ·rw[if_pos c16] at H
     have c16b0:(a1 == 1)=true:=beq_iff_eq.mpr c16
     have c16b1:(a1 != 1)=false:=bne_eq_false_iff_eq.mpr c16
     clear c16
     (first|rw[c16b0]|(simp only[i64_w,i32_w];rw[c16b0])|skip)
     have H':=zM H
     clear H
     go_wp2_with (first|((with_reducible refine gate_callee (f:=65) rfl ?_);refine goesL_ (some 15) rfl rfl Try.func65 (by kernel_rfl) rfl #[.int .i64 a1,.int .i64 1,.int .i64 3] rfl zq4 ?_;(with_reducible refine(impl_in.calls a1 1 3 true _ A14.out).mono ?_);rintro e w' ⟨rfl,⟨nd,rfl⟩⟩;refine⟨_,rfl,?_⟩))
     go_meet
     case rel=>exact⟨_,(false),zq89,H',⟨zq201⟩,⟨zq38⟩,⟨zq52⟩,⟨zq142⟩,⟨zq48⟩⟩
    ·rw[if_neg c16] at H
     have c16b0:(a1 == 1)=false:=beq_eq_false_iff_ne.mpr c16
     have c16b1:(a1 != 1)=true:=bne_iff_ne.mpr c16
     (first|rw[c16b0]|(simp only[i64_w,i32_w];rw[c16b0])|skip)
     have H':=zM H
     clear H
     go_wp2_with (first|((with_reducible refine gate_callee (f:=65) rfl ?_);refine goesL_ (some 15) rfl rfl Try.func65 (by kernel_rfl) rfl #[.int .i64 a1,.int .i64 1,.int .i64 3] rfl zq4 ?_;(with_reducible refine(impl_in.calls a1 1 3 true _ A14.out).mono ?_);rintro e w' ⟨rfl,⟨nd,rfl⟩⟩;refine⟨_,rfl,?_⟩;have hnb17:=NB267_266.out;have hnc17:=NB266_267.out;have hnb18:=NB267_268.out;have hnc18:=NB268_267.out;have hcz19_0:w13.cell? ⟨gb267,0,none⟩=some (.int .i64 a2_0):=(blk_cell BK267.out 0).trans rfl;have hcz19_1:w13.cell? ⟨gb267,1,none⟩=some (.slice A2_1 l2_1.length c2_1):=(blk_cell BK267.out 1).trans rfl;have hfz19_0:=blk_frozen BK267.out 0;have hfz19_1:=blk_frozen BK267.out 1))
     go_meet
     case rel=>exact⟨_,(decide ((l2_1.length:Int) > 0)),zq89,H',⟨zq201⟩,⟨zq38⟩,⟨zq52⟩,⟨zq142⟩,⟨zq48⟩⟩
   ·replace c15:=Bool.eq_false_iff.mpr c15
    subst c15
    have H1:(impl_TurnRing.j0 k a1 true a0_0 l0_1 a2_0 l2_1)=some (r1,r2,r3):=by rw[if_neg (show ¬ (false=true) by decide)] at H;exact H
    clear H
    have H:=H1
    clear H1
    have H':=zM H
    clear H
    go_wp2_with (first|((with_reducible refine gate_callee (f:=65) rfl ?_);refine goesL_ (some 15) rfl rfl Try.func65 (by kernel_rfl) rfl #[.int .i64 a1,.int .i64 1,.int .i64 3] rfl zq4 ?_;(with_reducible refine(impl_in.calls a1 1 3 false _ A14.out).mono ?_);rintro e w' ⟨rfl,⟨nd,rfl⟩⟩;refine⟨_,rfl,?_⟩))
    go_meet
    case rel=>exact⟨_,(true),zq89,H',⟨zq201⟩,⟨zq38⟩,⟨zq52⟩,⟨zq142⟩,⟨zq48⟩⟩
  case rest=>
   clear HC6
   try clear c1
   try clear c2
   try clear p2
   try clear c5
   try clear c5b0
   try clear c5b1
   try clear c6
   try clear c10
   try clear c11
   try clear c15
   try clear c16
   try clear c16b0
   try clear c16b1
   try clear c17
   try clear c18
   try clear c19
   try clear hcz12_0
   try clear hcz12_1
   try clear hcz19_0
   try clear hcz19_1
   try clear hfz12_0
   try clear hfz12_1
   try clear hfz19_0
   try clear hfz19_1
   obtain⟨kq,x26_5,rfl,HA,HJ5,BK266,BK267,BK268,HB⟩:=hcut
   cases kq with
   | zero=>exact absurd HA.out (by simp[impl_TurnRing.j0])
   | succ kj5=>
    have H:=HA.out
    clear HA
    simp only[impl_TurnRing.j0] at H
    by_cases c20:x26_5=true
    ·subst c20
     have H1:(some (1,0,([]:List (S25))))=some (r1,r2,r3):=by rw[if_pos rfl] at H;exact H
     clear H
     have H:=H1
     clear H1
     simp only[Option.some.injEq,Prod.mk.injEq] at H
     obtain⟨rfl,rfl,rfl⟩:=H
     have hnb21:=NB268_266.out
     have hnc21:=NB266_268.out
     have hnb22:=NB268_267.out
     have hnc22:=NB267_268.out
     have hcz23_0:wc.cell? ⟨gb268,0,none⟩=some (.int .i64 0):=(blk_cell BK268.out 0).trans rfl
     have hcz23_1:wc.cell? ⟨gb268,1,none⟩=some (.int .i64 0):=(blk_cell BK268.out 1).trans rfl
     have hcz23_2:wc.cell? ⟨gb268,2,none⟩=some (.slice none 0 0):=(blk_cell BK268.out 2).trans rfl
     have hfz23_0:=blk_frozen BK268.out 0
     have hfz23_1:=blk_frozen BK268.out 1
     have hfz23_2:=blk_frozen BK268.out 2
     go_wp2
     refine bodyPost_ret (results_cell_row rfl _ _ gb268 31 #[.int .i64 1,.int .i64 0,.slice none 0 0] (0,0) _ rfl (by(with_reducible repeat (first|refine blk_drewN ?_ _|refine blk_drew ?_|refine blk_alloc ?_ _));refine blk_put (cs:=#[.int .i64 1,.int .i64 0,.slice none 0 0]) ?_ 2 _ rfl;(with_reducible repeat (first|refine blk_drewN ?_ _|refine blk_drew ?_|refine blk_alloc ?_ _));refine blk_put (cs:=#[.int .i64 1,.int .i64 0,.slice none 0 0]) ?_ 1 _ rfl;(with_reducible repeat (first|refine blk_drewN ?_ _|refine blk_drew ?_|refine blk_alloc ?_ _));refine blk_put (cs:=#[.int .i64 0,.int .i64 0,.slice none 0 0]) ?_ 0 _ rfl;(with_reducible repeat (first|refine blk_drewN ?_ _|refine blk_drew ?_|refine blk_alloc ?_ _));exact BK268.out) Try.underlying31 rfl (by kernel_rfl)) rfl ?_
     exact⟨_,zq13,zq102,zq48⟩
    ·replace c20:=Bool.eq_false_iff.mpr c20
     subst c20
     have H1:(if a1=1 then ((impl_InstallKey.f kj5 a0_0 l0_1 a2_0 l2_1).bind fun bt271=>(some (bt271.1,bt271.2.1,bt271.2.2))) else (if a1=2 then ((impl_UseKey.f kj5 a0_0 l0_1 a2_0).bind fun bt276=>(some (bt276.1,bt276.2.1,bt276.2.2))) else ((impl_RemoveKey.f kj5 a0_0 l0_1 a2_0).bind fun bt281=>(some (bt281.1,bt281.2.1,bt281.2.2)))))=some (r1,r2,r3):=by rw[if_neg (show ¬ (false=true) by decide)] at H;exact H
     clear H
     have H:=H1
     clear H1
     by_cases c24:a1=1
     ·rw[if_pos c24] at H
      have c24b0:(a1 == 1)=true:=beq_iff_eq.mpr c24
      have c24b1:(a1 != 1)=false:=bne_eq_false_iff_eq.mpr c24
      clear c24
      replace H:=Option.bind_eq_some_iff.mp H
      obtain⟨⟨t271,t272,t273⟩,A250,H⟩:=H
      replace H:(some (t271,t272,t273))=some (r1,r2,r3):=H
      have A25:=zM A250
      clear A250
      simp only[Option.some.injEq,Prod.mk.injEq] at H
      obtain⟨rfl,rfl,rfl⟩:=H
      have hnb26:=NB266_267.out
      have hnc26:=NB267_266.out
      have hnb27:=NB266_268.out
      have hnc27:=NB268_266.out
      have hcz28_0:wc.cell? ⟨gb266,0,none⟩=some (.int .i64 a0_0):=(blk_cell BK266.out 0).trans rfl
      have hcz28_1:wc.cell? ⟨gb266,1,none⟩=some (.slice A0_1 l0_1.length c0_1):=(blk_cell BK266.out 1).trans rfl
      have hfz28_0:=blk_frozen BK266.out 0
      have hfz28_1:=blk_frozen BK266.out 1
      have hnb29:=NB267_268.out
      have hnc29:=NB268_267.out
      have hcz30_0:wc.cell? ⟨gb267,0,none⟩=some (.int .i64 a2_0):=(blk_cell BK267.out 0).trans rfl
      have hcz30_1:wc.cell? ⟨gb267,1,none⟩=some (.slice A2_1 l2_1.length c2_1):=(blk_cell BK267.out 1).trans rfl
      have hfz30_0:=blk_frozen BK267.out 0
      have hfz30_1:=blk_frozen BK267.out 1
      go_wp2_with (first|((with_reducible refine gate_callee (f:=48) rfl ?_);refine goesL_ (some 33) rfl rfl Try.func48 (by kernel_rfl) rfl #[.agg #[.int .i64 a0_0,.slice A0_1 l0_1.length c0_1],.agg #[.int .i64 a2_0,.slice A2_1 l2_1.length c2_1]] rfl zq4 ?_;(with_reducible refine(impl_InstallKey.calls kj5 a0_0 _ _ l0_1 a2_0 _ _ l2_1 t271 t272 t273 _ ?side1 ?side2 ?side3 ?side4 A25.out).mono ?_);(case side1=>exact zq12);(case side2=>exact HC0_1.out);(case side3=>exact zq207);(case side4=>exact HC2_1.out);rintro e w31 ⟨v274,rfl,ho0,hb⟩;refine⟨_,rfl,?_⟩;have n0_:=zM (Kd.S_lower (Kd.S_newB ho0 (g:=gb267) (o:=.cells #[.int .i64 a2_0,.slice A2_1 l2_1.length c2_1] 25 (0,0)) zq52) (below_size zq48));have n1_:=zM (blk_below (g:=gb266) (o:=.cells #[.int .i64 a0_0,.slice A0_1 l0_1.length c0_1] 29 (0,0)) zq38 hb);have n2_:=zM (blk_below (g:=gb267) (o:=.cells #[.int .i64 a2_0,.slice A2_1 l2_1.length c2_1] 25 (0,0)) zq52 hb);have n3_:=zM (blk_below (g:=gb268) (o:=.cells #[.int .i64 0,.int .i64 0,.slice none 0 0] 31 (0,0)) zq142 hb);have n4_:=zM (below_step zq48 hb);clear BK266;clear BK267;clear BK268;clear HB;have HO275:=n0_;have BK266:=n1_;have BK267:=n2_;have BK268:=n3_;have HB:=n4_;clear n0_ n1_ n2_ n3_ n4_;(try clear hb);(try clear hb2);(try clear hk);(try clear hi);(try clear ho0);have hcz32_0:w31.cell? ⟨gb268,0,none⟩=some (.int .i64 0):=(blk_cell BK268.out 0).trans rfl;have hcz32_1:w31.cell? ⟨gb268,1,none⟩=some (.int .i64 0):=(blk_cell BK268.out 1).trans rfl;have hcz32_2:w31.cell? ⟨gb268,2,none⟩=some (.slice none 0 0):=(blk_cell BK268.out 2).trans rfl;have hfz32_0:=blk_frozen BK268.out 0;have hfz32_1:=blk_frozen BK268.out 1;have hfz32_2:=blk_frozen BK268.out 2;obtain⟨Ao33,co33,eo33⟩:=Kd.S_slice HO275.out;subst eo33))
      refine bodyPost_ret (results_cell_row rfl _ _ gb268 31 #[.int .i64 t271,.int .i64 t272,.slice Ao33 t273.length co33] (0,0) _ rfl (by(with_reducible repeat (first|refine blk_drewN ?_ _|refine blk_drew ?_|refine blk_alloc ?_ _));refine blk_put (cs:=#[.int .i64 t271,.int .i64 t272,.slice none 0 0]) ?_ 2 _ rfl;(with_reducible repeat (first|refine blk_drewN ?_ _|refine blk_drew ?_|refine blk_alloc ?_ _));refine blk_put (cs:=#[.int .i64 t271,.int .i64 0,.slice none 0 0]) ?_ 1 _ rfl;(with_reducible repeat (first|refine blk_drewN ?_ _|refine blk_drew ?_|refine blk_alloc ?_ _));refine blk_put (cs:=#[.int .i64 0,.int .i64 0,.slice none 0 0]) ?_ 0 _ rfl;(with_reducible repeat (first|refine blk_drewN ?_ _|refine blk_drew ?_|refine blk_alloc ?_ _));exact BK268.out) Try.underlying31 rfl (by kernel_rfl)) rfl ?_
      exact⟨_,zq13,by(with_reducible repeat (first|apply Kd.S_alloc|apply Kd.S_drewN|apply Kd.S_drew));exact Kd.S_mono (Kd.S_far (p:=⟨gb268,2,none⟩) (Kd.S_far (p:=⟨gb268,1,none⟩) (Kd.S_far (p:=⟨gb268,0,none⟩) (Kd.S_types HO275.out BK268.out zq16) (fun _ hk=>hk.2) (.int .i64 t271)) (fun _ hk=>hk.2) (.int .i64 t272)) (fun _ hk=>hk.2) (.slice Ao33 t273.length co33)) (fun _ hk=>trivial),zq48⟩
     ·rw[if_neg c24] at H
      have c24b0:(a1 == 1)=false:=beq_eq_false_iff_ne.mpr c24
      have c24b1:(a1 != 1)=true:=bne_iff_ne.mpr c24
      by_cases c34:a1=2
      ·rw[if_pos c34] at H
       have c34b0:(a1 == 2)=true:=beq_iff_eq.mpr c34
       have c34b1:(a1 != 2)=false:=bne_eq_false_iff_eq.mpr c34
       clear c34
       replace H:=Option.bind_eq_some_iff.mp H
       obtain⟨⟨t276,t277,t278⟩,A350,H⟩:=H
       replace H:(some (t276,t277,t278))=some (r1,r2,r3):=H
       have A35:=zM A350
       clear A350
       simp only[Option.some.injEq,Prod.mk.injEq] at H
       obtain⟨rfl,rfl,rfl⟩:=H
       have hnb36:=NB266_267.out
       have hnc36:=NB267_266.out
       have hnb37:=NB266_268.out
       have hnc37:=NB268_266.out
       have hcz38_0:wc.cell? ⟨gb266,0,none⟩=some (.int .i64 a0_0):=(blk_cell BK266.out 0).trans rfl
       have hcz38_1:wc.cell? ⟨gb266,1,none⟩=some (.slice A0_1 l0_1.length c0_1):=(blk_cell BK266.out 1).trans rfl
       have hfz38_0:=blk_frozen BK266.out 0
       have hfz38_1:=blk_frozen BK266.out 1
       have hnb39:=NB267_268.out
       have hnc39:=NB268_267.out
       have hcz40_0:wc.cell? ⟨gb267,0,none⟩=some (.int .i64 a2_0):=(blk_cell BK267.out 0).trans rfl
       have hcz40_1:wc.cell? ⟨gb267,1,none⟩=some (.slice A2_1 l2_1.length c2_1):=(blk_cell BK267.out 1).trans rfl
       have hfz40_0:=blk_frozen BK267.out 0
       have hfz40_1:=blk_frozen BK267.out 1
       go_wp2_with (first|((with_reducible refine gate_callee (f:=44) rfl ?_);refine goesL_ (some 39) rfl rfl Try.func44 (by kernel_rfl) rfl #[.agg #[.int .i64 a0_0,.slice A0_1 l0_1.length c0_1],.int .i64 a2_0] rfl zq4 ?_;(with_reducible refine(impl_UseKey.calls kj5 a0_0 _ _ l0_1 a2_0 t276 t277 t278 _ ?side1 ?side2 A35.out).mono ?_);(case side1=>exact zq12);(case side2=>exact HC0_1.out);rintro e w41 ⟨v279,rfl,ho0,hb⟩;refine⟨_,rfl,?_⟩;have n0_:=zM (Kd.S_lower (Kd.S_newB ho0 (g:=gb267) (o:=.cells #[.int .i64 a2_0,.slice A2_1 l2_1.length c2_1] 25 (0,0)) zq52) (below_size zq48));have n1_:=zM (blk_below (g:=gb266) (o:=.cells #[.int .i64 a0_0,.slice A0_1 l0_1.length c0_1] 29 (0,0)) zq38 hb);have n2_:=zM (blk_below (g:=gb267) (o:=.cells #[.int .i64 a2_0,.slice A2_1 l2_1.length c2_1] 25 (0,0)) zq52 hb);have n3_:=zM (blk_below (g:=gb268) (o:=.cells #[.int .i64 0,.int .i64 0,.slice none 0 0] 31 (0,0)) zq142 hb);have n4_:=zM (below_step zq48 hb);clear BK266;clear BK267;clear BK268;clear HB;have HO280:=n0_;have BK266:=n1_;have BK267:=n2_;have BK268:=n3_;have HB:=n4_;clear n0_ n1_ n2_ n3_ n4_;(try clear hb);(try clear hb2);(try clear hk);(try clear hi);(try clear ho0);have hcz42_0:w41.cell? ⟨gb268,0,none⟩=some (.int .i64 0):=(blk_cell BK268.out 0).trans rfl;have hcz42_1:w41.cell? ⟨gb268,1,none⟩=some (.int .i64 0):=(blk_cell BK268.out 1).trans rfl;have hcz42_2:w41.cell? ⟨gb268,2,none⟩=some (.slice none 0 0):=(blk_cell BK268.out 2).trans rfl;have hfz42_0:=blk_frozen BK268.out 0;have hfz42_1:=blk_frozen BK268.out 1;have hfz42_2:=blk_frozen BK268.out 2;obtain⟨Ao43,co43,eo43⟩:=Kd.S_slice HO280.out;subst eo43))
       refine bodyPost_ret (results_cell_row rfl _ _ gb268 31 #[.int .i64 t276,.int .i64 t277,.slice Ao43 t278.length co43] (0,0) _ rfl (by(with_reducible repeat (first|refine blk_drewN ?_ _|refine blk_drew ?_|refine blk_alloc ?_ _));refine blk_put (cs:=#[.int .i64 t276,.int .i64 t277,.slice none 0 0]) ?_ 2 _ rfl;(with_reducible repeat (first|refine blk_drewN ?_ _|refine blk_drew ?_|refine blk_alloc ?_ _));refine blk_put (cs:=#[.int .i64 t276,.int .i64 0,.slice none 0 0]) ?_ 1 _ rfl;(with_reducible repeat (first|refine blk_drewN ?_ _|refine blk_drew ?_|refine blk_alloc ?_ _));refine blk_put (cs:=#[.int .i64 0,.int .i64 0,.slice none 0 0]) ?_ 0 _ rfl;(with_reducible repeat (first|refine blk_drewN ?_ _|refine blk_drew ?_|refine blk_alloc ?_ _));exact BK268.out) Try.underlying31 rfl (by kernel_rfl)) rfl ?_
       exact⟨_,zq13,by(with_reducible repeat (first|apply Kd.S_alloc|apply Kd.S_drewN|apply Kd.S_drew));exact Kd.S_mono (Kd.S_far (p:=⟨gb268,2,none⟩) (Kd.S_far (p:=⟨gb268,1,none⟩) (Kd.S_far (p:=⟨gb268,0,none⟩) (Kd.S_types HO280.out BK268.out zq16) (fun _ hk=>hk.2) (.int .i64 t276)) (fun _ hk=>hk.2) (.int .i64 t277)) (fun _ hk=>hk.2) (.slice Ao43 t278.length co43)) (fun _ hk=>trivial),zq48⟩
      ·rw[if_neg c34] at H
       have c34b0:(a1 == 2)=false:=beq_eq_false_iff_ne.mpr c34
       have c34b1:(a1 != 2)=true:=bne_iff_ne.mpr c34
       replace H:=Option.bind_eq_some_iff.mp H
       obtain⟨⟨t281,t282,t283⟩,A440,H⟩:=H
       replace H:(some (t281,t282,t283))=some (r1,r2,r3):=H
       have A44:=zM A440
       clear A440
       simp only[Option.some.injEq,Prod.mk.injEq] at H
       obtain⟨rfl,rfl,rfl⟩:=H
       have hnb45:=NB266_267.out
       have hnc45:=NB267_266.out
       have hnb46:=NB266_268.out
       have hnc46:=NB268_266.out
       have hcz47_0:wc.cell? ⟨gb266,0,none⟩=some (.int .i64 a0_0):=(blk_cell BK266.out 0).trans rfl
       have hcz47_1:wc.cell? ⟨gb266,1,none⟩=some (.slice A0_1 l0_1.length c0_1):=(blk_cell BK266.out 1).trans rfl
       have hfz47_0:=blk_frozen BK266.out 0
       have hfz47_1:=blk_frozen BK266.out 1
       have hnb48:=NB267_268.out
       have hnc48:=NB268_267.out
       have hcz49_0:wc.cell? ⟨gb267,0,none⟩=some (.int .i64 a2_0):=(blk_cell BK267.out 0).trans rfl
       have hcz49_1:wc.cell? ⟨gb267,1,none⟩=some (.slice A2_1 l2_1.length c2_1):=(blk_cell BK267.out 1).trans rfl
       have hfz49_0:=blk_frozen BK267.out 0
       have hfz49_1:=blk_frozen BK267.out 1
       go_wp2_with (first|((with_reducible refine gate_callee (f:=46) rfl ?_);refine goesL_ (some 43) rfl rfl Try.func46 (by kernel_rfl) rfl #[.agg #[.int .i64 a0_0,.slice A0_1 l0_1.length c0_1],.int .i64 a2_0] rfl zq4 ?_;(with_reducible refine(impl_RemoveKey.calls kj5 a0_0 _ _ l0_1 a2_0 t281 t282 t283 _ ?side1 ?side2 A44.out).mono ?_);(case side1=>exact zq12);(case side2=>exact HC0_1.out);rintro e w50 ⟨v284,rfl,ho0,hb⟩;refine⟨_,rfl,?_⟩;have n0_:=zM (Kd.S_lower (Kd.S_newB ho0 (g:=gb267) (o:=.cells #[.int .i64 a2_0,.slice A2_1 l2_1.length c2_1] 25 (0,0)) zq52) (below_size zq48));have n1_:=zM (blk_below (g:=gb266) (o:=.cells #[.int .i64 a0_0,.slice A0_1 l0_1.length c0_1] 29 (0,0)) zq38 hb);have n2_:=zM (blk_below (g:=gb267) (o:=.cells #[.int .i64 a2_0,.slice A2_1 l2_1.length c2_1] 25 (0,0)) zq52 hb);have n3_:=zM (blk_below (g:=gb268) (o:=.cells #[.int .i64 0,.int .i64 0,.slice none 0 0] 31 (0,0)) zq142 hb);have n4_:=zM (below_step zq48 hb);clear BK266;clear BK267;clear BK268;clear HB;have HO285:=n0_;have BK266:=n1_;have BK267:=n2_;have BK268:=n3_;have HB:=n4_;clear n0_ n1_ n2_ n3_ n4_;(try clear hb);(try clear hb2);(try clear hk);(try clear hi);(try clear ho0);have hcz51_0:w50.cell? ⟨gb268,0,none⟩=some (.int .i64 0):=(blk_cell BK268.out 0).trans rfl;have hcz51_1:w50.cell? ⟨gb268,1,none⟩=some (.int .i64 0):=(blk_cell BK268.out 1).trans rfl;have hcz51_2:w50.cell? ⟨gb268,2,none⟩=some (.slice none 0 0):=(blk_cell BK268.out 2).trans rfl;have hfz51_0:=blk_frozen BK268.out 0;have hfz51_1:=blk_frozen BK268.out 1;have hfz51_2:=blk_frozen BK268.out 2;obtain⟨Ao52,co52,eo52⟩:=Kd.S_slice HO285.out;subst eo52))
       refine bodyPost_ret (results_cell_row rfl _ _ gb268 31 #[.int .i64 t281,.int .i64 t282,.slice Ao52 t283.length co52] (0,0) _ rfl (by(with_reducible repeat (first|refine blk_drewN ?_ _|refine blk_drew ?_|refine blk_alloc ?_ _));refine blk_put (cs:=#[.int .i64 t281,.int .i64 t282,.slice none 0 0]) ?_ 2 _ rfl;(with_reducible repeat (first|refine blk_drewN ?_ _|refine blk_drew ?_|refine blk_alloc ?_ _));refine blk_put (cs:=#[.int .i64 t281,.int .i64 0,.slice none 0 0]) ?_ 1 _ rfl;(with_reducible repeat (first|refine blk_drewN ?_ _|refine blk_drew ?_|refine blk_alloc ?_ _));refine blk_put (cs:=#[.int .i64 0,.int .i64 0,.slice none 0 0]) ?_ 0 _ rfl;(with_reducible repeat (first|refine blk_drewN ?_ _|refine blk_drew ?_|refine blk_alloc ?_ _));exact BK268.out) Try.underlying31 rfl (by kernel_rfl)) rfl ?_
       exact⟨_,zq13,by(with_reducible repeat (first|apply Kd.S_alloc|apply Kd.S_drewN|apply Kd.S_drew));exact Kd.S_mono (Kd.S_far (p:=⟨gb268,2,none⟩) (Kd.S_far (p:=⟨gb268,1,none⟩) (Kd.S_far (p:=⟨gb268,0,none⟩) (Kd.S_types HO285.out BK268.out zq16) (fun _ hk=>hk.2) (.int .i64 t281)) (fun _ hk=>hk.2) (.int .i64 t282)) (fun _ hk=>hk.2) (.slice Ao52 t283.length co52)) (fun _ hk=>trivial),zq48⟩
 ·rw[if_neg c5] at H
  have c5b0:(t269 == 0)=false:=beq_eq_false_iff_ne.mpr c5
  have c5b1:(t269 != 0)=true:=bne_iff_ne.mpr c5
  simp only[Option.some.injEq,Prod.mk.injEq] at H
  obtain⟨rfl,rfl,rfl⟩:=H
  go_enter Try.func19,Try.ntmps19
  go_wp2_with (first|((with_reducible refine gate_dst (N:=3) rfl ?_);(try (refine gate_guard zq145 ?_;dsimp only));refine box_event ?hg (N:=3) ?hd (cs:=#[.int .i64 a0_0,.slice A0_1 l0_1.length c0_1]) (t:=29) ?hr ?_;(case hd=>rfl);(case hg=>rfl);(case hr=>first|(go_simp;done)|(go_simp;rfl));intro gb266 hg w53 hbox hb;have n0_:=zM (below_step zq0 hb);have n1_:=zM (hbox);have n2_:=zM ((by rw[hg];exact(below_size zq0):w.heap.size≤gb266));have n3_:=zM ((by rw[hg];exact(below_size zq0):w.heap.size≤gb266));clear HB;have HB:=n0_;have BK266:=n1_;have GW266:=n2_;have GE266:=n3_;clear n0_ n1_ n2_ n3_;clear hb hbox hg)|((with_reducible refine gate_dst (N:=5) rfl ?_);(try (refine gate_guard zq145 ?_;dsimp only));refine box_event ?hg (N:=5) ?hd (cs:=#[.int .i64 a2_0,.slice A2_1 l2_1.length c2_1]) (t:=25) ?hr ?_;(case hd=>rfl);(case hg=>rfl);(case hr=>first|(go_simp;done)|(go_simp;rfl));intro gb267 hg w54 hbox hb;have n0_:=zM (blk_below (g:=gb266) (o:=.cells #[.int .i64 a0_0,.slice A0_1 l0_1.length c0_1] 29 (0,0)) zq38 hb);have n1_:=zM (below_step zq106 hb);have n2_:=zM (hbox);have n3_:=zM ((by rw[hg];exact(below_size zq106):w.heap.size≤gb267));have n4_:=zM ((by rw[hg];exact(below_size zq106):w.heap.size≤gb267));have n5_:=zM ((by rw[hg];exact Nat.ne_of_lt (blk_lt (g:=gb266) (o:=.cells #[.int .i64 a0_0,.slice A0_1 l0_1.length c0_1] 29 (0,0)) zq38):gb266≠gb267));have n6_:=zM ((by rw[hg];exact Nat.ne_of_gt (blk_lt (g:=gb266) (o:=.cells #[.int .i64 a0_0,.slice A0_1 l0_1.length c0_1] 29 (0,0)) zq38):gb267≠gb266));clear BK266;clear HB;have BK266:=n0_;have HB:=n1_;have BK267:=n2_;have GW267:=n3_;have GE267:=n4_;have NB266_267:=n5_;have NB267_266:=n6_;clear n0_ n1_ n2_ n3_ n4_ n5_ n6_;clear hb hbox hg)|((with_reducible refine gate_dst (N:=6) rfl ?_);(try (refine gate_guard zq145 ?_;dsimp only));refine box_event ?hg (N:=6) ?hd (cs:=#[.int .i64 0,.int .i64 0,.slice none 0 0]) (t:=31) ?hr ?_;(case hd=>rfl);(case hg=>rfl);(case hr=>first|(go_simp;done)|(go_simp;rfl));intro gb268 hg w55 hbox hb;have n0_:=zM (blk_below (g:=gb266) (o:=.cells #[.int .i64 a0_0,.slice A0_1 l0_1.length c0_1] 29 (0,0)) zq38 hb);have n1_:=zM (blk_below (g:=gb267) (o:=.cells #[.int .i64 a2_0,.slice A2_1 l2_1.length c2_1] 25 (0,0)) zq52 hb);have n2_:=zM (below_step zq85 hb);have n3_:=zM (hbox);have n4_:=zM ((by rw[hg];exact(below_size zq85):w.heap.size≤gb268));have n5_:=zM ((by rw[hg];exact(below_size zq85):w.heap.size≤gb268));have n6_:=zM ((by rw[hg];exact Nat.ne_of_lt (blk_lt (g:=gb266) (o:=.cells #[.int .i64 a0_0,.slice A0_1 l0_1.length c0_1] 29 (0,0)) zq38):gb266≠gb268));have n7_:=zM ((by rw[hg];exact Nat.ne_of_gt (blk_lt (g:=gb266) (o:=.cells #[.int .i64 a0_0,.slice A0_1 l0_1.length c0_1] 29 (0,0)) zq38):gb268≠gb266));have n8_:=zM ((by rw[hg];exact Nat.ne_of_lt (blk_lt (g:=gb267) (o:=.cells #[.int .i64 a2_0,.slice A2_1 l2_1.length c2_1] 25 (0,0)) zq52):gb267≠gb268));have n9_:=zM ((by rw[hg];exact Nat.ne_of_gt (blk_lt (g:=gb267) (o:=.cells #[.int .i64 a2_0,.slice A2_1 l2_1.length c2_1] 25 (0,0)) zq52):gb268≠gb267));clear BK266;clear BK267;clear HB;have BK266:=n0_;have BK267:=n1_;have HB:=n2_;have BK268:=n3_;have GW268:=n4_;have GE268:=n5_;have NB266_268:=n6_;have NB268_266:=n7_;have NB267_268:=n8_;have NB268_267:=n9_;clear n0_ n1_ n2_ n3_ n4_ n5_ n6_ n7_ n8_ n9_;clear hb hbox hg;have hnb56:=NB266_267.out;have hnc56:=NB267_266.out;have hnb57:=NB266_268.out;have hnc57:=NB268_266.out;have hcz58_0:w55.cell? ⟨gb266,0,none⟩=some (.int .i64 a0_0):=(blk_cell BK266.out 0).trans rfl;have hcz58_1:w55.cell? ⟨gb266,1,none⟩=some (.slice A0_1 l0_1.length c0_1):=(blk_cell BK266.out 1).trans rfl;have hfz58_0:=blk_frozen BK266.out 0;have hfz58_1:=blk_frozen BK266.out 1)|((with_reducible refine gate_callee (f:=25) rfl ?_);refine goesL_ (some 9) rfl rfl Try.func25 (by kernel_rfl) rfl #[.agg #[.int .i64 a0_0,.slice A0_1 l0_1.length c0_1]] rfl zq4 ?_;(with_reducible refine(impl_RingFault.calls k a0_0 _ _ l0_1 t269 _ ?side1 ?side2 A4.out).mono ?_);(case side1=>exact zq12);(case side2=>exact HC0_1.out);rintro e w59 ⟨rfl,hb⟩;refine⟨_,rfl,?_⟩;have n0_:=zM (blk_below (g:=gb266) (o:=.cells #[.int .i64 a0_0,.slice A0_1 l0_1.length c0_1] 29 (0,0)) zq38 hb);have n1_:=zM (blk_below (g:=gb267) (o:=.cells #[.int .i64 a2_0,.slice A2_1 l2_1.length c2_1] 25 (0,0)) zq52 hb);have n2_:=zM (blk_below (g:=gb268) (o:=.cells #[.int .i64 0,.int .i64 0,.slice none 0 0] 31 (0,0)) zq142 hb);have n3_:=zM (below_step zq48 hb);clear BK266;clear BK267;clear BK268;clear HB;have BK266:=n0_;have BK267:=n1_;have BK268:=n2_;have HB:=n3_;clear n0_ n1_ n2_ n3_;(try clear hb);(try clear hb2);(try clear hk);(try clear hi);have hnb60:=NB268_267.out;have hnc60:=NB267_268.out;have hcz61_0:w59.cell? ⟨gb268,0,none⟩=some (.int .i64 0):=(blk_cell BK268.out 0).trans rfl;have hcz61_1:w59.cell? ⟨gb268,1,none⟩=some (.int .i64 0):=(blk_cell BK268.out 1).trans rfl;have hcz61_2:w59.cell? ⟨gb268,2,none⟩=some (.slice none 0 0):=(blk_cell BK268.out 2).trans rfl;have hfz61_0:=blk_frozen BK268.out 0;have hfz61_1:=blk_frozen BK268.out 1;have hfz61_2:=blk_frozen BK268.out 2))
  refine bodyPost_ret (results_cell_row rfl _ _ gb268 31 #[.int .i64 t269,.int .i64 0,.slice none 0 0] (0,0) _ rfl (by(with_reducible repeat (first|refine blk_drewN ?_ _|refine blk_drew ?_|refine blk_alloc ?_ _));refine blk_put (cs:=#[.int .i64 t269,.int .i64 0,.slice none 0 0]) ?_ 2 _ rfl;(with_reducible repeat (first|refine blk_drewN ?_ _|refine blk_drew ?_|refine blk_alloc ?_ _));refine blk_put (cs:=#[.int .i64 t269,.int .i64 0,.slice none 0 0]) ?_ 1 _ rfl;(with_reducible repeat (first|refine blk_drewN ?_ _|refine blk_drew ?_|refine blk_alloc ?_ _));refine blk_put (cs:=#[.int .i64 0,.int .i64 0,.slice none 0 0]) ?_ 0 _ rfl;(with_reducible repeat (first|refine blk_drewN ?_ _|refine blk_drew ?_|refine blk_alloc ?_ _));exact BK268.out) Try.underlying31 rfl (by kernel_rfl)) rfl ?_
  exact⟨_,zq13,zq102,zq48⟩
end Go.Proofs.Ytmnhddedcbkpoaa.All
