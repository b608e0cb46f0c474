-- Laid by wip/shake.py of this repo out of this claim's texts. Not trusted: Lean checks it.
import Derived.Test.YtdbanjdnjhflcaaAb0s
import Derived.Test.YtdbanjdnjhflcaaAlgs
set_option linter.unusedSimpArgs false
set_option linter.unusedVariables false
namespace Go.Proofs.Ytdbanjdnjhflcaa.All
open Go.Proofs.YtdbanjdnjhflcaaW.PrintWords.Aside0 renaming mk→zM
open Go.RowKit Go.Proofs.YtdbanjdnjhflcaaW.PrintWords Go.Proofs.YtdbanjdnjhflcaaW.PrintLast Go.Proofs.YtdbanjdnjhflcaaW.PrintMore
attribute [local go_sem] max2_int min2_int max_two min_two max_three min_three max_four min_four
def laws_toByteS.l0:Nat→List Int→List Int→Int→Option (List Int)
 | 0,_,_,_=>none
 | k+1,x0,x3,x4=>if x4 < (x0.length:Int) then (if 0≤x4 then (if x4 < (x3.length:Int) then (laws_toByteS.l0 k x0 (x3.set (x4:Int).toNat (rd x0 x4)) (wrap64 (x4+1))) else (none)) else (none)) else (some x3)
def laws_toByteS.f (k:Nat) (l0:List Int):Option (List Int):=if 0≤(l0.length:Int) then (if ((l0.length:Int):Int).toNat≤281474976710656 then (laws_toByteS.l0 k l0 (List.replicate ((l0.length:Int):Int).toNat 0) 0) else (none)) else (none)
theorem laws_toByteS.mono_l:∀ k,(∀ y0 y1 y2,LeO (laws_toByteS.l0 k y0 y1 y2) (laws_toByteS.l0 (k+1) y0 y1 y2))
 | 0=>fun _ _ _ r h=>by simp[laws_toByteS.l0] at h
 | k+1=>by
  have ih0:=laws_toByteS.mono_l k
  ·intro y0 y1 y2
   unfold laws_toByteS.l0
   repeat' first
   | (with_reducible exact ih0 _ _ _)
   | (with_reducible exact LeO.refl _)
   | (with_reducible exact LeO.none _)
   | (with_reducible refine LeO.ite ?_ ?_)
   | (with_reducible refine LeO.bind ?_ (fun _=>?_))
   | exact ih0 _ _ _
   | exact LeO.none _
   | refine LeO.ite ?_ ?_
   | refine LeO.bind ?_ (fun _=>?_)
theorem laws_toByteS.mono:∀ a0 k,LeO (laws_toByteS.f k a0) (laws_toByteS.f (k+1) a0):=by
 intro a0 k
 have ih0:=laws_toByteS.mono_l k
 unfold laws_toByteS.f
 repeat' first
   | (with_reducible exact ih0 _ _ _)
   | (with_reducible exact LeO.refl _)
   | (with_reducible exact LeO.none _)
   | (with_reducible refine LeO.ite ?_ ?_)
   | (with_reducible refine LeO.bind ?_ (fun _=>?_))
   | exact ih0 _ _ _
   | exact LeO.none _
   | refine LeO.ite ?_ ?_
   | refine LeO.bind ?_ (fun _=>?_)
set_option maxHeartbeats 8000000 in
set_option maxRecDepth 100000 in
theorem laws_toByteS.calls (k:Nat) (A0:Option Addr) (c0:Nat) (l0:List Int) (r:List Int) (w:World) (hr0:Kd.C (Kd.int .u8) w A0 l0.length l0) (hc0:l0.length≤c0) (h:laws_toByteS.f k l0=some r) :
  Calls Try.prog 24 #[.slice A0 l0.length c0] w fun e w'=>∃ v0_:Value,e=.returned (v0_)∧Kd.R (Kd.int .u8) 5 w' w.heap.size (fun _=>True) v0_ r∧Below w.heap.size w w':=by
 have HR0:=zM hr0
 have HC0:=zM hc0
 clear hr0 hc0
 have HB:=zM (Below.refl w.heap.size w)
 have H:(if 0≤(l0.length:Int) then (if ((l0.length:Int):Int).toNat≤281474976710656 then (laws_toByteS.l0 k l0 (List.replicate ((l0.length:Int):Int).toNat 0) 0) else (none)) else (none))=some r:=h
 clear h
 by_cases c2:0≤(l0.length:Int)
 ·rw[if_pos c2] at H
  have c2b0:=eq_true c2
  have c2b1:decide (0≤(l0.length:Int))=true:=decide_eq_true c2
  clear c2
  by_cases c3:((l0.length:Int):Int).toNat≤281474976710656
  ·rw[if_pos c3] at H
   have c3b0:=eq_true c3
   have c3b1:decide (((l0.length:Int):Int).toNat≤281474976710656)=true:=decide_eq_true c3
   clear c3
   obtain⟨y265,hy265⟩:∃ y_:List Int,y_=(List.replicate ((l0.length:Int):Int).toNat 0):=⟨_,rfl⟩
   replace H:(laws_toByteS.l0 k l0 y265 0)=some r:=by first|(rw[hy265];with_reducible exact H)|(have H2_:=(Option.bind_some _ _).symm.trans H;rw[hy265];with_reducible exact H2_)|(have H2_:=(Option.bind_some _ _).symm.trans H;with_reducible exact H2_)|with_reducible exact H|(rw[hy265];exact H)|exact H
   have Ny265:=zM hy265
   clear hy265
   have H':=zM H
   clear H
   go_enter Try.func24,Try.ntmps24
   go_wp2_with (first|((with_reducible refine gate_dst (N:=7) rfl ?_);refine Kd.R_make (Kd.int .u8) _ 5 rfl (N:=7) rfl 25 _ _ rfl (l0.length:Int) rfl rfl Try.underlying25 (.int .u8 0) 1 info5 rfl zq36 zq8 0 (ok:=fun _=>True) (okp:=fun _=>True) rfl (fun _ hk=>hk) trivial (of_decide_eq_true zq6) (Nat.le_trans (Nat.mul_le_mul_right _ (of_decide_eq_true zq6:(l0.length:Int).toNat≤281474976710656)) zq8) (Below.refl _ _) (Nat.le_refl _) ?_;intro v266 w4 ho5 hb hg_ hnew_;clear hg_ hnew_;(first|rw[← Ny265.out] at ho5|(simp only[Int.reduceToNat] at ho5;rw[← Ny265.out] at ho5));have n0_:=zM (Kd.R_lower ho5 (below_size zq0));have n1_:=zM (below_step zq0 hb);clear HB;have HO267:=n0_;have HB:=n1_;clear n0_ n1_;clear hb ho5))
   go_loopg [4] k (fun kq v4 w'=>∃ (x3_1:List Int) (x4_1:Int),v4=.int .i64 x4_1∧Aside0 (laws_toByteS.l0 kq l0 x3_1 x4_1=some r)∧Aside0 (kq≤k)∧Aside0 (Kd.R (Kd.int .u8) 5 w' w.heap.size (fun _=>True) v266 x3_1)∧Aside0 (Below w.heap.size w w'))
   case atStart=>exact⟨(y265),(0),zq7,H',⟨Nat.le_refl _⟩,⟨by(with_reducible repeat (first|apply Kd.R_alloc|apply Kd.R_drewN|apply Kd.R_drew));exact HO267.out⟩,⟨zq0⟩⟩
   case round=>
    clear H'
    try clear c2
    try clear c2b0
    try clear c2b1
    try clear p2
    try clear c3
    try clear c3b0
    try clear c3b1
    obtain⟨x3_1,x4_1,rfl,HA,HK1,HO_3,HB⟩:=hrel
    cases gk with
    | zero=>exact absurd HA.out (by simp[laws_toByteS.l0])
    | succ k1=>
     have H:=HA.out
     clear HA
     simp only[laws_toByteS.l0] at H
     by_cases c6:x4_1 < (l0.length:Int)
     ·rw[if_pos c6] at H
      have c6b0:decide (x4_1 < (l0.length:Int))=true:=decide_eq_true c6
      clear c6
      by_cases c7:0≤x4_1
      ·rw[if_pos c7] at H
       have c7b0:decide (0≤x4_1)=true:=decide_eq_true c7
       clear c7
       by_cases c8:x4_1 < (x3_1.length:Int)
       ·rw[if_pos c8] at H
        have c8b0:decide (x4_1 < (x3_1.length:Int))=true:=decide_eq_true c8
        clear c8
        obtain⟨y269,hy269⟩:∃ y_:List Int,y_=(x3_1.set (x4_1:Int).toNat (rd l0 x4_1)):=⟨_,rfl⟩
        replace H:(laws_toByteS.l0 k1 l0 y269 (wrap64 (x4_1+1)))=some r:=by first|(rw[hy269];with_reducible exact H)|(have H2_:=(Option.bind_some _ _).symm.trans H;rw[hy269];with_reducible exact H2_)|(have H2_:=(Option.bind_some _ _).symm.trans H;with_reducible exact H2_)|with_reducible exact H|(rw[hy269];exact H)|exact H
        have Ny269:=zM hy269
        clear hy269
        have H':=zM H
        clear H
        have p268:0≤(x4_1:Int):=of_decide_eq_true zq6
        have q268:x4_1 < (l0.length:Int):=of_decide_eq_true zq6
        obtain⟨ad268,e268,hx268_0⟩:=Kd.at_int HR0.out x4_1 p268 q268
        cases e268
        replace hx268_0:=(HB.out.cell (World.block_lt_of_cell? w _ hx268_0)).trans hx268_0
        replace p268:=eq_true p268
        replace q268:=eq_true q268
        have p9:0≤(x4_1:Int):=of_decide_eq_true zq6
        have q9:(x4_1:Int) < ((x3_1.length:Int):Int):=of_decide_eq_true zq6
        obtain⟨go9,co9,eo9,gb9,gl9,cl9,HG9⟩:=Kd.R_form HO_3.out zq8
        (first|cases eo9|(injection eo9 with ea_ en_ ec_;(first|subst ea_|(injection ea_ with ea_;subst ea_));subst ec_;clear en_))
        have GB9:=zM gb9
        have GG9:=zM HG9
        clear gb9 gl9 HG9
        obtain⟨hx9_0,hf9_0⟩:=Kd.R_celln 0 HO_3.out (x4_1:Int) p9 q9
        replace p9:=eq_true p9
        replace q9:=eq_true q9
        have HP10:=Kd.R_putg HO_3.out (x4_1:Int) (rd l0 x4_1)
        go_wp2_with (first|((with_reducible refine gate_store (t:=5) (p:=20) rfl ?_);refine store_event (t:=5) (p:=20) (v:=?vo_w11) (w1:=(wr.setCell ⟨go9,(x4_1:Int).toNat,none⟩ (.int .u8 (rd l0 x4_1)))) ?hg ?ho ?hn ?hr ?_;(case ho=>rfl);(case hg=>rfl);(case hn=>rfl);(case hr=>first|(go_simp;done)|(go_simp;rfl));intro w11 hw;have hg:wr.grownBy w11 (some go9):=(by rw[hw];exact HP10.2);have hp_:Kd.R (Kd.int .u8) 5 w11 w.heap.size (fun _=>True) (.slice (some ⟨go9,0,none⟩) x3_1.length co9) y269:=(by rw[hw,Ny269.out];exact HP10.1);clear HP10;have n0_:=zM (hp_);have n1_:=zM ((by rw[hw];exact below_set (HB.out) GB9.out:Below w.heap.size w w11));clear HO_3;clear HB;have HO_3:=n0_;have HB:=n1_;clear n0_ n1_;clear hg hw hp_))
        go_roundg k1
        case measure=>have:=HK1.out;omega
        case rel=>exact⟨(y269),(wrap64 (x4_1+1)),zq7,H',⟨zq79⟩,⟨zq138⟩,⟨zq0⟩⟩
       ·rw[if_neg c8] at H
        exact absurd H zq73
      ·rw[if_neg c7] at H
       exact absurd H zq73
     ·rw[if_neg c6] at H
      have c6b0:decide (x4_1 < (l0.length:Int))=false:=decide_eq_false c6
      clear c6
      obtain rfl:=Option.some.inj H
      go_wp2
      go_ret
      exact⟨_,zq3,zq138,zq0⟩
  ·rw[if_neg c3] at H
   exact absurd H zq73
 ·rw[if_neg c2] at H
  exact absurd H zq73
def laws_toKey.f (k:Nat) (a0_0:Int) (l0_1:List Int):Option (Int × List Int):=(laws_toByteS.f k l0_1).bind fun t273=>(some (a0_0,t273))
theorem laws_toKey.mono:∀ a0 a1 k,LeO (laws_toKey.f k a0 a1) (laws_toKey.f (k+1) a0 a1):=by
 intro a0 a1 k
 unfold laws_toKey.f
 repeat' first
   | (with_reducible exact laws_toByteS.mono _ _)
   | (with_reducible exact LeO.refl _)
   | (with_reducible exact LeO.none _)
   | (with_reducible refine LeO.ite ?_ ?_)
   | (with_reducible refine LeO.bind ?_ (fun _=>?_))
   | exact laws_toByteS.mono _ _
   | exact LeO.none _
   | refine LeO.ite ?_ ?_
   | refine LeO.bind ?_ (fun _=>?_)
set_option maxHeartbeats 8000000 in
set_option maxRecDepth 100000 in
theorem laws_toKey.calls (k:Nat) (a0_0:Int) (A0_1:Option Addr) (c0_1:Nat) (l0_1:List Int) (r1:Int) (r2:List Int) (w:World) (hr0_1:Kd.C (Kd.int .u8) w A0_1 l0_1.length l0_1) (hc0_1:l0_1.length≤c0_1) (h:laws_toKey.f k a0_0 l0_1=some (r1,r2)) :
  Calls Try.prog 45 #[.agg #[.int .i64 a0_0,.slice A0_1 l0_1.length c0_1]] w fun e w'=>∃ v1_:Value,e=.returned (.agg #[.int .i64 r1,v1_])∧Kd.R (Kd.int .u8) 5 w' w.heap.size (fun _=>True) v1_ r2∧Below w.heap.size w w':=by
 have hu70:=Try.underlying70
 have hu54:=Try.underlying54
 have HR0_1:=zM hr0_1
 have HC0_1:=zM hc0_1
 clear hr0_1 hc0_1
 have HB:=zM (Below.refl w.heap.size w)
 have H:((laws_toByteS.f k l0_1).bind fun t273=>(some (a0_0,t273)))=some (r1,r2):=h
 clear h
 replace H:=Option.bind_eq_some_iff.mp H
 obtain⟨t273,A20,H⟩:=H
 replace H:(some (a0_0,t273))=some (r1,r2):=H
 have A2:=zM A20
 clear A20
 simp only[Option.some.injEq,Prod.mk.injEq] at H
 obtain⟨rfl,rfl⟩:=H
 go_enter Try.func45,Try.ntmps45
 go_wp2_with (first|((with_reducible refine gate_dst (N:=1) rfl ?_);refine box_event ?hg (N:=1) ?hd (cs:=#[.int .i64 a0_0,.slice A0_1 l0_1.length c0_1]) (t:=70) ?hr ?_;(case hd=>rfl);(case hg=>rfl);(case hr=>first|(go_simp;done)|(go_simp;rfl));intro gb270 hg w3 hbox hb;have n0_:=zM (below_step zq0 hb);have n1_:=zM (hbox);have n2_:=zM ((by rw[hg];exact(below_size zq0):w.heap.size≤gb270));have n3_:=zM ((by rw[hg];exact(below_size zq0):w.heap.size≤gb270));clear HB;have HB:=n0_;have BK270:=n1_;have GW270:=n2_;have GE270:=n3_;clear n0_ n1_ n2_ n3_;clear hb hbox hg)|((with_reducible refine gate_dst (N:=2) rfl ?_);refine box_event ?hg (N:=2) ?hd (cs:=#[.int .i64 0,.slice none 0 0]) (t:=54) ?hr ?_;(case hd=>rfl);(case hg=>rfl);(case hr=>first|(go_simp;done)|(go_simp;rfl));intro gb271 hg w4 hbox hb;have n0_:=zM (blk_below (g:=gb270) (o:=.cells #[.int .i64 a0_0,.slice A0_1 l0_1.length c0_1] 70 (0,0)) zq71 hb);have n1_:=zM (below_step zq114 hb);have n2_:=zM (hbox);have n3_:=zM ((by rw[hg];exact(below_size zq114):w.heap.size≤gb271));have n4_:=zM ((by rw[hg];exact(below_size zq114):w.heap.size≤gb271));have n5_:=zM ((by rw[hg];exact Nat.ne_of_lt (blk_lt (g:=gb270) (o:=.cells #[.int .i64 a0_0,.slice A0_1 l0_1.length c0_1] 70 (0,0)) zq71):gb270≠gb271));have n6_:=zM ((by rw[hg];exact Nat.ne_of_gt (blk_lt (g:=gb270) (o:=.cells #[.int .i64 a0_0,.slice A0_1 l0_1.length c0_1] 70 (0,0)) zq71):gb271≠gb270));clear BK270;clear HB;have BK270:=n0_;have HB:=n1_;have BK271:=n2_;have GW271:=n3_;have GE271:=n4_;have NB270_271:=n5_;have NB271_270:=n6_;clear n0_ n1_ n2_ n3_ n4_ n5_ n6_;clear hb hbox hg)|((with_reducible refine gate_dst (N:=3) rfl ?_);refine box_event ?hg (N:=3) ?hd (cs:=#[.int .i64 0,.slice none 0 0]) (t:=54) ?hr ?_;(case hd=>rfl);(case hg=>rfl);(case hr=>first|(go_simp;done)|(go_simp;rfl));intro gb272 hg w5 hbox hb;have n0_:=zM (blk_below (g:=gb270) (o:=.cells #[.int .i64 a0_0,.slice A0_1 l0_1.length c0_1] 70 (0,0)) zq71 hb);have n1_:=zM (blk_below (g:=gb271) (o:=.cells #[.int .i64 0,.slice none 0 0] 54 (0,0)) zq129 hb);have n2_:=zM (below_step zq94 hb);have n3_:=zM (hbox);have n4_:=zM ((by rw[hg];exact(below_size zq94):w.heap.size≤gb272));have n5_:=zM ((by rw[hg];exact(below_size zq94):w.heap.size≤gb272));have n6_:=zM ((by rw[hg];exact Nat.ne_of_lt (blk_lt (g:=gb270) (o:=.cells #[.int .i64 a0_0,.slice A0_1 l0_1.length c0_1] 70 (0,0)) zq71):gb270≠gb272));have n7_:=zM ((by rw[hg];exact Nat.ne_of_gt (blk_lt (g:=gb270) (o:=.cells #[.int .i64 a0_0,.slice A0_1 l0_1.length c0_1] 70 (0,0)) zq71):gb272≠gb270));have n8_:=zM ((by rw[hg];exact Nat.ne_of_lt (blk_lt (g:=gb271) (o:=.cells #[.int .i64 0,.slice none 0 0] 54 (0,0)) zq129):gb271≠gb272));have n9_:=zM ((by rw[hg];exact Nat.ne_of_gt (blk_lt (g:=gb271) (o:=.cells #[.int .i64 0,.slice none 0 0] 54 (0,0)) zq129):gb272≠gb271));clear BK270;clear BK271;clear HB;have BK270:=n0_;have BK271:=n1_;have HB:=n2_;have BK272:=n3_;have GW272:=n4_;have GE272:=n5_;have NB270_272:=n6_;have NB272_270:=n7_;have NB271_272:=n8_;have NB272_271:=n9_;clear n0_ n1_ n2_ n3_ n4_ n5_ n6_ n7_ n8_ n9_;clear hb hbox hg;have hnb6:=NB270_271.out;have hnc6:=NB271_270.out;have hnb7:=NB270_272.out;have hnc7:=NB272_270.out;have hcz8_0:w5.cell? ⟨gb270,0,none⟩=some (.int .i64 a0_0):=(blk_cell BK270.out 0).trans rfl;have hcz8_1:w5.cell? ⟨gb270,1,none⟩=some (.slice A0_1 l0_1.length c0_1):=(blk_cell BK270.out 1).trans rfl;have hfz8_0:=blk_frozen BK270.out 0;have hfz8_1:=blk_frozen BK270.out 1;have hnb9:=NB272_271.out;have hnc9:=NB271_272.out;have hcz10_0:w5.cell? ⟨gb272,0,none⟩=some (.int .i64 0):=(blk_cell BK272.out 0).trans rfl;have hcz10_1:w5.cell? ⟨gb272,1,none⟩=some (.slice none 0 0):=(blk_cell BK272.out 1).trans rfl;have hfz10_0:=blk_frozen BK272.out 0;have hfz10_1:=blk_frozen BK272.out 1)|((with_reducible refine gate_callee (f:=24) rfl ?_);refine goesL_ (some 9) rfl rfl Try.func24 (by kernel_rfl) rfl #[.slice A0_1 l0_1.length c0_1] rfl zq1 ?_;(with_reducible refine(laws_toByteS.calls k _ _ l0_1 t273 _ ?side1 ?side2 A2.out).mono ?_);(case side1=>exact Kd.C_below HR0_1.out zq86);(case side2=>exact HC0_1.out);rintro e w11 ⟨v274,rfl,ho0,hb⟩;refine⟨_,rfl,?_⟩;have n0_:=zM (Kd.R_lower ho0 (below_size zq86));have n1_:=zM (blk_below (g:=gb270) (o:=.cells #[.int .i64 a0_0,.slice A0_1 l0_1.length c0_1] 70 (0,0)) (by(with_reducible repeat (first|refine blk_drewN ?_ _|refine blk_drew ?_|refine blk_alloc ?_ _));refine blk_far ?_ NB270_272.out _;(with_reducible repeat (first|refine blk_drewN ?_ _|refine blk_drew ?_|refine blk_alloc ?_ _));exact BK270.out) hb);have n2_:=zM (blk_below (g:=gb271) (o:=.cells #[.int .i64 0,.slice none 0 0] 54 (0,0)) (by(with_reducible repeat (first|refine blk_drewN ?_ _|refine blk_drew ?_|refine blk_alloc ?_ _));refine blk_far ?_ NB271_272.out _;(with_reducible repeat (first|refine blk_drewN ?_ _|refine blk_drew ?_|refine blk_alloc ?_ _));exact BK271.out) hb);have n3_:=zM (blk_below (g:=gb272) (o:=.cells #[.int .i64 a0_0,.slice none 0 0] 54 (0,0)) (by(with_reducible repeat (first|refine blk_drewN ?_ _|refine blk_drew ?_|refine blk_alloc ?_ _));refine blk_put (cs:=#[.int .i64 0,.slice none 0 0]) ?_ 0 _ rfl;(with_reducible repeat (first|refine blk_drewN ?_ _|refine blk_drew ?_|refine blk_alloc ?_ _));exact BK272.out) hb);have n4_:=zM (below_step zq86 hb);clear BK270;clear BK271;clear BK272;clear HB;have HO275:=n0_;have BK270:=n1_;have BK271:=n2_;have BK272:=n3_;have HB:=n4_;clear n0_ n1_ n2_ n3_ n4_;(try clear hb);(try clear hb2);(try clear hk);(try clear hi);(try clear ho0);obtain⟨Ao12,co12,eo12⟩:=Kd.R_slice HO275.out;subst eo12;have hcz13_0:w11.cell? ⟨gb272,0,none⟩=some (.int .i64 a0_0):=(blk_cell BK272.out 0).trans rfl;have hcz13_1:w11.cell? ⟨gb272,1,none⟩=some (.slice none 0 0):=(blk_cell BK272.out 1).trans rfl;have hfz13_0:=blk_frozen BK272.out 0;have hfz13_1:=blk_frozen BK272.out 1;have hcz14_0:w11.cell? ⟨gb271,0,none⟩=some (.int .i64 0):=(blk_cell BK271.out 0).trans rfl;have hcz14_1:w11.cell? ⟨gb271,1,none⟩=some (.slice none 0 0):=(blk_cell BK271.out 1).trans rfl;have hfz14_0:=blk_frozen BK271.out 0;have hfz14_1:=blk_frozen BK271.out 1))
 refine bodyPost_ret (results_cell_row rfl _ _ gb271 54 #[.int .i64 a0_0,.slice Ao12 t273.length co12] (0,0) _ rfl (by(with_reducible repeat (first|refine blk_drewN ?_ _|refine blk_drew ?_|refine blk_alloc ?_ _));refine blk_put (cs:=#[.int .i64 a0_0,.slice none 0 0]) ?_ 1 _ rfl;(with_reducible repeat (first|refine blk_drewN ?_ _|refine blk_drew ?_|refine blk_alloc ?_ _));refine blk_put (cs:=#[.int .i64 0,.slice none 0 0]) ?_ 0 _ rfl;(with_reducible repeat (first|refine blk_drewN ?_ _|refine blk_drew ?_|refine blk_alloc ?_ _));refine blk_far ?_ NB271_272.out _;(with_reducible repeat (first|refine blk_drewN ?_ _|refine blk_drew ?_|refine blk_alloc ?_ _));exact BK271.out) Try.underlying54 rfl (by kernel_rfl)) rfl ?_
 exact⟨_,zq3,by(with_reducible repeat (first|apply Kd.R_alloc|apply Kd.R_drewN|apply Kd.R_drew));exact Kd.R_mono (Kd.R_far (p:=⟨gb271,1,none⟩) (Kd.R_far (p:=⟨gb271,0,none⟩) (Kd.R_far (p:=⟨gb272,1,none⟩) (Kd.R_types (Kd.R_types HO275.out BK272.out zq36) BK271.out zq36) (fun _ hk=>hk.1.2) (.slice Ao12 t273.length co12)) (fun _ hk=>hk.2) (.int .i64 a0_0)) (fun _ hk=>hk.2) (.slice Ao12 t273.length co12)) (fun _ hk=>trivial),by repeat (first|(with_reducible first|exact HB.out|apply below_alloc|apply pw_below_drewN|apply below_drew1|refine below_set ?_ GE270.out|refine below_set ?_ GE271.out|refine below_set ?_ GE272.out)|exact HB.out)⟩
def laws_toKeyS.l0:Nat→List (S70)→List (S54)→Int→Option ((List (S54)))
 | 0,_,_,_=>none
 | k+1,x0,x3,x4=>if x4 < (x0.length:Int) then (if 0≤x4 then ((laws_toKey.f k ((rd_T70 x0 x4).f0) ((rd_T70 x0 x4).f1)).bind fun bt280=>(if x4 < (x3.length:Int) then (laws_toKeyS.l0 k x0 (x3.set (x4:Int).toNat (⟨bt280.1,bt280.2⟩:S54)) (wrap64 (x4+1))) else (none))) else (none)) else (some x3)
def laws_toKeyS.f (k:Nat) (l0:List (S70)):Option ((List (S54))):=if 0≤(l0.length:Int) then (if ((l0.length:Int):Int).toNat≤8796093022208 then (laws_toKeyS.l0 k l0 (List.replicate ((l0.length:Int):Int).toNat z54) 0) else (none)) else (none)
theorem laws_toKeyS.mono_l:∀ k,(∀ y0 y1 y2,LeO (laws_toKeyS.l0 k y0 y1 y2) (laws_toKeyS.l0 (k+1) y0 y1 y2))
 | 0=>fun _ _ _ r h=>by simp[laws_toKeyS.l0] at h
 | k+1=>by
  have ih0:=laws_toKeyS.mono_l k
  ·intro y0 y1 y2
   unfold laws_toKeyS.l0
   repeat' first
   | (with_reducible exact ih0 _ _ _)
   | (with_reducible exact laws_toKey.mono _ _ _)
   | (with_reducible exact LeO.refl _)
   | (with_reducible exact LeO.none _)
   | (with_reducible refine LeO.ite ?_ ?_)
   | (with_reducible refine LeO.bind ?_ (fun _=>?_))
   | exact ih0 _ _ _
   | exact laws_toKey.mono _ _ _
   | exact LeO.none _
   | refine LeO.ite ?_ ?_
   | refine LeO.bind ?_ (fun _=>?_)
theorem laws_toKeyS.mono:∀ a0 k,LeO (laws_toKeyS.f k a0) (laws_toKeyS.f (k+1) a0):=by
 intro a0 k
 have ih0:=laws_toKeyS.mono_l k
 unfold laws_toKeyS.f
 repeat' first
   | (with_reducible exact ih0 _ _ _)
   | (with_reducible exact laws_toKey.mono _ _ _)
   | (with_reducible exact LeO.refl _)
   | (with_reducible exact LeO.none _)
   | (with_reducible refine LeO.ite ?_ ?_)
   | (with_reducible refine LeO.bind ?_ (fun _=>?_))
   | exact ih0 _ _ _
   | exact laws_toKey.mono _ _ _
   | exact LeO.none _
   | refine LeO.ite ?_ ?_
   | refine LeO.bind ?_ (fun _=>?_)
set_option maxHeartbeats 8000000 in
set_option maxRecDepth 100000 in
theorem laws_toKeyS.calls (k:Nat) (A0:Option Addr) (c0:Nat) (l0:List (S70)) (r:List (S54)) (w:World) (hr0:Kd.C k70 w A0 l0.length l0) (hc0:l0.length≤c0) (h:laws_toKeyS.f k l0=some r) :
  Calls Try.prog 23 #[.slice A0 l0.length c0] w fun e w'=>∃ v0_:Value,e=.returned (v0_)∧Kd.S k54 54 w' w.heap.size (fun _=>True) v0_ r∧Below w.heap.size w w':=by
 have hu70:=Try.underlying70
 have hu54:=Try.underlying54
 have HR0:=zM hr0
 have HC0:=zM hc0
 clear hr0 hc0
 have HB:=zM (Below.refl w.heap.size w)
 have H:(if 0≤(l0.length:Int) then (if ((l0.length:Int):Int).toNat≤8796093022208 then (laws_toKeyS.l0 k l0 (List.replicate ((l0.length:Int):Int).toNat z54) 0) else (none)) else (none))=some r:=h
 clear h
 by_cases c2:0≤(l0.length:Int)
 ·rw[if_pos c2] at H
  have c2b0:=eq_true c2
  have c2b1:decide (0≤(l0.length:Int))=true:=decide_eq_true c2
  clear c2
  by_cases c3:((l0.length:Int):Int).toNat≤8796093022208
  ·rw[if_pos c3] at H
   have c3b0:=eq_true c3
   have c3b1:decide (((l0.length:Int):Int).toNat≤8796093022208)=true:=decide_eq_true c3
   clear c3
   obtain⟨y276,hy276⟩:∃ y_:List (S54),y_=(List.replicate ((l0.length:Int):Int).toNat z54):=⟨_,rfl⟩
   replace H:(laws_toKeyS.l0 k l0 y276 0)=some r:=by first|(rw[hy276];with_reducible exact H)|(have H2_:=(Option.bind_some _ _).symm.trans H;rw[hy276];with_reducible exact H2_)|(have H2_:=(Option.bind_some _ _).symm.trans H;with_reducible exact H2_)|with_reducible exact H|(rw[hy276];exact H)|exact H
   have Ny276:=zM hy276
   clear hy276
   have H':=zM H
   clear H
   go_enter Try.func23,Try.ntmps23
   go_wp2_with (first|((with_reducible refine gate_dst (N:=7) rfl ?_);refine Kd.S_make k54 _ 54 rfl (N:=7) rfl 33 _ _ rfl (l0.length:Int) rfl rfl Try.underlying33 (.agg #[(.int .i64 0),(.slice none 0 0)]) 32 info54 rfl zq36 zq8 z54 (ok:=fun _=>True) (okp:=fun _=>True) (k54_mkM _ _ _ z54 (Kd.R_nil _ _ _ _ _)) (fun _ hk=>hk) trivial (of_decide_eq_true zq6) (Nat.le_trans (Nat.mul_le_mul_right _ (of_decide_eq_true zq6:(l0.length:Int).toNat≤8796093022208)) zq8) (Below.refl _ _) (Nat.le_refl _) ?_;intro v277 w4 ho5 hb hg_ hnew_;clear hg_ hnew_;(first|rw[← Ny276.out] at ho5|(simp only[Int.reduceToNat] at ho5;rw[← Ny276.out] at ho5));have n0_:=zM (Kd.S_lower ho5 (below_size zq0));have n1_:=zM (below_step zq0 hb);clear HB;have HO278:=n0_;have HB:=n1_;clear n0_ n1_;clear hb ho5))
   go_loopg [4] k (fun kq v4 w'=>∃ (x3_1:List (S54)) (x4_1:Int),v4=.int .i64 x4_1∧Aside0 (laws_toKeyS.l0 kq l0 x3_1 x4_1=some r)∧Aside0 (kq≤k)∧Aside0 (Kd.S k54 54 w' w.heap.size (fun _=>True) v277 x3_1)∧Aside0 (Below w.heap.size w w'))
   case atStart=>exact⟨(y276),(0),zq7,H',⟨Nat.le_refl _⟩,⟨by(with_reducible repeat (first|apply Kd.S_alloc|apply Kd.S_drewN|apply Kd.S_drew));exact HO278.out⟩,⟨zq0⟩⟩
   case round=>
    clear H'
    try clear c2
    try clear c2b0
    try clear c2b1
    try clear p2
    try clear c3
    try clear c3b0
    try clear c3b1
    obtain⟨x3_1,x4_1,rfl,HA,HK1,HO_3,HB⟩:=hrel
    cases gk with
    | zero=>exact absurd HA.out (by simp[laws_toKeyS.l0])
    | succ k1=>
     have H:=HA.out
     clear HA
     simp only[laws_toKeyS.l0] at H
     by_cases c6:x4_1 < (l0.length:Int)
     ·rw[if_pos c6] at H
      have c6b0:decide (x4_1 < (l0.length:Int))=true:=decide_eq_true c6
      clear c6
      by_cases c7:0≤x4_1
      ·rw[if_pos c7] at H
       have c7b0:decide (0≤x4_1)=true:=decide_eq_true c7
       clear c7
       replace H:=Option.bind_eq_some_iff.mp H
       obtain⟨⟨t280,t281⟩,A80,H⟩:=H
       replace H:(if x4_1 < (x3_1.length:Int) then (laws_toKeyS.l0 k1 l0 (x3_1.set (x4_1:Int).toNat (⟨t280,t281⟩:S54)) (wrap64 (x4_1+1))) else (none))=some r:=H
       have A8:=zM A80
       clear A80
       by_cases c9:x4_1 < (x3_1.length:Int)
       ·rw[if_pos c9] at H
        have c9b0:decide (x4_1 < (x3_1.length:Int))=true:=decide_eq_true c9
        clear c9
        obtain⟨y284,hy284⟩:∃ y_:List (S54),y_=(x3_1.set (x4_1:Int).toNat (⟨t280,t281⟩:S54)):=⟨_,rfl⟩
        replace H:(laws_toKeyS.l0 k1 l0 y284 (wrap64 (x4_1+1)))=some r:=by first|(rw[hy284];with_reducible exact H)|(have H2_:=(Option.bind_some _ _).symm.trans H;rw[hy284];with_reducible exact H2_)|(have H2_:=(Option.bind_some _ _).symm.trans H;with_reducible exact H2_)|with_reducible exact H|(rw[hy284];exact H)|exact H
        have Ny284:=zM hy284
        clear hy284
        have H':=zM H
        clear H
        have p279:0≤(x4_1:Int):=of_decide_eq_true zq6
        have q279:x4_1 < (l0.length:Int):=of_decide_eq_true zq6
        obtain⟨ad279,A279_1,c279_1,e279,hx279_0,hx279_1,hl279_1,hi279_1⟩:=at_T70 HR0.out x4_1 p279 q279
        cases e279
        replace hx279_0:=(HB.out.cell (World.block_lt_of_cell? w _ hx279_0)).trans hx279_0
        replace hx279_1:=(HB.out.cell (World.block_lt_of_cell? w _ hx279_1)).trans hx279_1
        have HR279_1:=zM hi279_1
        have HC279_1:=zM hl279_1
        clear hi279_1 hl279_1
        replace p279:=eq_true p279
        replace q279:=eq_true q279
        go_wp2_with (first|((with_reducible refine gate_callee (f:=45) rfl ?_);refine goesL_ (some 20) rfl rfl Try.func45 (by kernel_rfl) rfl #[.agg #[.int .i64 ((rd_T70 l0 x4_1).f0),.slice A279_1 ((rd_T70 l0 x4_1).f1).length c279_1]] rfl zq1 ?_;(with_reducible refine(laws_toKey.calls k1 ((rd_T70 l0 x4_1).f0) _ _ ((rd_T70 l0 x4_1).f1) t280 t281 _ ?side1 ?side2 A8.out).mono ?_);(case side1=>repeat (first|exact(Kd.C_below HR279_1.out HB.out)|(with_reducible refine Kd.C_alloc ?_ _)|(with_reducible refine Kd.C_drewN ?_ _)|(with_reducible refine Kd.C_drew ?_)));(case side2=>exact HC279_1.out);rintro e w11 ⟨v282,rfl,ho0,hb⟩;refine⟨_,rfl,?_⟩;have n0_:=zM (Kd.S_elder' (by(with_reducible repeat (first|apply Kd.S_alloc|apply Kd.S_drewN|apply Kd.S_drew));exact HO_3.out) (Kd.R_base ho0) hb);have n1_:=zM (Kd.R_lower ho0 (below_size zq0));have n2_:=zM (below_step zq0 hb);clear HO_3;clear HB;have HO_3:=n0_;have HO283:=n1_;have HB:=n2_;clear n0_ n1_ n2_;(try clear hb);(try clear hb2);(try clear hk);(try clear hi);(try clear ho0);obtain⟨AoZ,coZ,eoZ⟩:=Kd.R_slice HO283.out;subst eoZ;have p10:0≤(x4_1:Int):=of_decide_eq_true zq6;have q10:(x4_1:Int) < ((x3_1.length:Int):Int):=of_decide_eq_true zq6;obtain⟨go10,co10,eo10,gb10,gl10,cl10,HG10⟩:=Kd.S_form HO_3.out zq8;(first|cases eo10|(injection eo10 with ea_ en_ ec_;(first|subst ea_|(injection ea_ with ea_;subst ea_));subst ec_;clear en_));have GB10:=zM gb10;have GG10:=zM HG10;clear gb10 gl10 HG10;obtain⟨_,ce10,hcl10,hM10,hcc10,hfr10,_,_⟩:=Kd.S_elem HO_3.out z54 (x4_1:Int) p10 q10;obtain⟨ve10_1,rfl,ge10_1⟩:=k54_openM hM10;have hx10_0:w11.cell? ⟨go10,(x4_1:Int).toNat*2,none⟩=some (.int .i64 ((rd_T54 x3_1 x4_1).f0)):=hcc10 0 _ rfl;have hx10_1:w11.cell? ⟨go10,(x4_1:Int).toNat*2+1,none⟩=some (ve10_1):=hcc10 1 _ rfl;have hf10_0:w11.frozen? ⟨go10,(x4_1:Int).toNat*2,none⟩=false:=hfr10 0;have hf10_1:w11.frozen? ⟨go10,(x4_1:Int).toNat*2+1,none⟩=false:=hfr10 1;clear hcl10 hcc10 hfr10 hM10;replace p10:=eq_true p10;replace q10:=eq_true q10;have n_:=zM (Kd.S_mono (ok':=(fun k_=>some k_≠(.slice AoZ t281.length coZ:Value).ownBlock)) HO_3.out (fun k_ hk=>hk.2));clear HO_3;have HO_3:=n_;clear n_;have HX12:=zM (show Kd.S k54 54 w11 w.heap.size (fun k_=>((fun _=>True)) k_∧¬ ((fun k_=>some k_=(.slice AoZ t281.length coZ:Value).ownBlock)) k_) (.slice (some ⟨go10,0,none⟩) x3_1.length co10) x3_1 from (by(with_reducible repeat (first|apply Kd.S_alloc|apply Kd.S_drewN|apply Kd.S_drew));exact Kd.S_mono HO_3.out (fun k_ hk=>⟨trivial,fun e_=>hk e_⟩)));obtain⟨oki12,ce12,hcl12,hM12,hcc12,hfr12,hoki12,hH12⟩:=Kd.S_elem HX12.out z54 (x4_1:Int) (of_decide_eq_true zq6) (by have h_:(x4_1:Int) < ((x3_1.length:Int):Int):=of_decide_eq_true zq6;first|exact h_|(have e_:=(Kd.S_reads' HO_3.out).1;omega)|simpa using h_);obtain⟨ve12_1,rfl,ge12_1⟩:=k54_openM hM12;have HP12:=Kd.S_seg hH12 (of_decide_eq_true zq6) (by have h_:(x4_1:Int) < ((x3_1.length:Int):Int):=of_decide_eq_true zq6;first|exact h_|(have e_:=(Kd.S_reads' HO_3.out).1;omega)|simpa using h_) (seg:=[.int .i64 t280,(.slice AoZ t281.length coZ)]) (j:=0) (show 2≤2 from by decide) (x':=(⟨t280,t281⟩:S54)) (k54_mkM _ _ _ (⟨t280,t281⟩:S54) (Kd.R_mono (Kd.R_tight rfl (Kd.R_mono (ok':=fun k_=>((fun _=>True)) k_∧k_≠go10) (Kd.R_apart' (HO283.out) (Kd.S_typed HO_3.out) zq36) (fun k_ hk=>⟨trivial,fun e_=>(hk.2) (by rw[e_];rfl)⟩))) (fun _ h_=>Or.inr (h_)))) (fun _ hk=>hk) (fun k_ hk_=>((Kd.R_mono (ok':=fun k_=>((fun _=>True)) k_∧k_≠go10) (Kd.R_apart' (HO283.out) (Kd.S_typed HO_3.out) zq36) (fun k_ hk=>⟨trivial,fun e_=>(hk.2) (by rw[e_];rfl)⟩))).1 k_ hk_.symm);have hx12_0:=hcc12 0 _ rfl;(try simp only[show (k54).sz=2 from rfl,Nat.mul_one,Nat.add_zero] at hx12_0);have hf12_0:=hfr12 0;(try simp only[show (k54).sz=2 from rfl,Nat.mul_one,Nat.add_zero] at hf12_0);have hx12_1:=hcc12 1 _ rfl;(try simp only[show (k54).sz=2 from rfl,Nat.mul_one,Nat.add_zero] at hx12_1);have hf12_1:=hfr12 1;(try simp only[show (k54).sz=2 from rfl,Nat.mul_one,Nat.add_zero] at hf12_1);clear hcl12 hcc12 hfr12 hM12 hoki12 hH12)|((with_reducible refine gate_store (t:=54) (p:=21) rfl ?_);refine store_event (t:=54) (p:=21) (v:=?vo_w13) (w1:=((w11.setCell ⟨go10,(x4_1:Int).toNat*2,none⟩ (.int .i64 t280)).setCell ⟨go10,(x4_1:Int).toNat*2+1,none⟩ ((.slice AoZ t281.length coZ)))) ?hg ?ho ?hn ?hr ?_;(case ho=>rfl);(case hg=>rfl);(case hn=>rfl);(case hr=>first|(go_simp;done)|(go_simp;rfl));intro w13 hw;have hg:w11.grownBy w13 (some go10):=(by rw[hw];exact HP12.2);have hp_:Kd.S k54 54 w13 w.heap.size (fun _=>True) (.slice (some ⟨go10,0,none⟩) x3_1.length co10) y284:=(by rw[hw,Ny284.out];exact HP12.1);clear HP12;have n0_:=zM (hp_);have n1_:=zM ((by rw[hw];exact below_set (below_set (HB.out) GB10.out) GB10.out:Below w.heap.size w w13));clear HO_3;clear HB;clear HO283;have HO_3:=n0_;have HB:=n1_;clear n0_ n1_;clear hg hw hp_))
        go_roundg k1
        case measure=>have:=HK1.out;omega
        case rel=>exact⟨(y284),(wrap64 (x4_1+1)),zq7,H',⟨zq79⟩,⟨zq184⟩,⟨zq0⟩⟩
       ·rw[if_neg c9] at H
        exact absurd H zq73
      ·rw[if_neg c7] at H
       exact absurd H zq73
     ·rw[if_neg c6] at H
      have c6b0:decide (x4_1 < (l0.length:Int))=false:=decide_eq_false c6
      clear c6
      obtain rfl:=Option.some.inj H
      go_wp2
      go_ret
      exact⟨_,zq3,zq184,zq0⟩
  ·rw[if_neg c3] at H
   exact absurd H zq73
 ·rw[if_neg c2] at H
  exact absurd H zq73
end Go.Proofs.Ytdbanjdnjhflcaa.All
