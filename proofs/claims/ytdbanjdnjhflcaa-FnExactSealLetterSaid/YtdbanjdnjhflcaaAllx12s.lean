-- Laid by wip/shake.py of this repo out of this claim's texts. Not trusted: Lean checks it.
import Derived.Test.YtdbanjdnjhflcaaAb0s
import Derived.Test.YtdbanjdnjhflcaaAlgs
set_option linter.unusedSimpArgs false
set_option linter.unusedVariables false
namespace Go.Proofs.Ytdbanjdnjhflcaa.All
open Go.Proofs.YtdbanjdnjhflcaaW.PrintWords.Aside0 renaming mk→zM
open Go.RowKit Go.Proofs.YtdbanjdnjhflcaaW.PrintWords Go.Proofs.YtdbanjdnjhflcaaW.PrintLast Go.Proofs.YtdbanjdnjhflcaaW.PrintMore
attribute [local go_sem] max2_int min2_int max_two min_two max_three min_three max_four min_four
def laws_eqByteS.l0:Nat→List Int→List Int→Int→Option (Bool)
 | 0,_,_,_=>none
 | k+1,x0,x1,x5=>if x5 < (x0.length:Int) then (if 0≤x5 then (if x5 < (x1.length:Int) then (if (rd x0 x5)=(rd x1 x5) then (laws_eqByteS.l0 k x0 x1 (wrap64 (x5+1))) else (some false)) else (none)) else (none)) else (some true)
def laws_eqByteS.f (k:Nat) (l0:List Int) (l1:List Int):Option (Bool):=if (l0.length:Int)=(l1.length:Int) then (laws_eqByteS.l0 k l0 l1 0) else (some false)
theorem laws_eqByteS.mono_l:∀ k,(∀ y0 y1 y2,LeO (laws_eqByteS.l0 k y0 y1 y2) (laws_eqByteS.l0 (k+1) y0 y1 y2))
 | 0=>fun _ _ _ r h=>by simp[laws_eqByteS.l0] at h
 | k+1=>by
  have ih0:=laws_eqByteS.mono_l k
  ·intro y0 y1 y2
   unfold laws_eqByteS.l0
   repeat' first
   | (with_reducible exact ih0 _ _ _)
   | (with_reducible exact LeO.refl _)
   | (with_reducible exact LeO.none _)
   | (with_reducible refine LeO.ite ?_ ?_)
   | (with_reducible refine LeO.bind ?_ (fun _=>?_))
   | exact ih0 _ _ _
   | exact LeO.none _
   | refine LeO.ite ?_ ?_
   | refine LeO.bind ?_ (fun _=>?_)
theorem laws_eqByteS.mono:∀ a0 a1 k,LeO (laws_eqByteS.f k a0 a1) (laws_eqByteS.f (k+1) a0 a1):=by
 intro a0 a1 k
 have ih0:=laws_eqByteS.mono_l k
 unfold laws_eqByteS.f
 repeat' first
   | (with_reducible exact ih0 _ _ _)
   | (with_reducible exact LeO.refl _)
   | (with_reducible exact LeO.none _)
   | (with_reducible refine LeO.ite ?_ ?_)
   | (with_reducible refine LeO.bind ?_ (fun _=>?_))
   | exact ih0 _ _ _
   | exact LeO.none _
   | refine LeO.ite ?_ ?_
   | refine LeO.bind ?_ (fun _=>?_)
set_option maxHeartbeats 8000000 in
set_option maxRecDepth 100000 in
theorem laws_eqByteS.calls (k:Nat) (A0:Option Addr) (c0:Nat) (l0:List Int) (A1:Option Addr) (c1:Nat) (l1:List Int) (r:Bool) (w:World) (hr0:Kd.C (Kd.int .u8) w A0 l0.length l0) (hc0:l0.length≤c0) (hr1:Kd.C (Kd.int .u8) w A1 l1.length l1) (hc1:l1.length≤c1) (h:laws_eqByteS.f k l0 l1=some r) :
  Calls Try.prog 33 #[.slice A0 l0.length c0,.slice A1 l1.length c1] w fun e w'=>e=.returned (.bool r)∧Drawn0 w w':=by
 have HR0:=zM hr0
 have HC0:=zM hc0
 clear hr0 hc0
 have HR1:=zM hr1
 have HC1:=zM hc1
 clear hr1 hc1
 have H:(if (l0.length:Int)=(l1.length:Int) then (laws_eqByteS.l0 k l0 l1 0) else (some false))=some r:=h
 clear h
 by_cases c3:(l0.length:Int)=(l1.length:Int)
 ·rw[if_pos c3] at H
  have c3b0:((l0.length:Int) == (l1.length:Int))=true:=beq_iff_eq.mpr c3
  have c3b1:((l0.length:Int) != (l1.length:Int))=false:=bne_eq_false_iff_eq.mpr c3
  have c3b2:(l0.length == l1.length)=true:=by first|simpa using c3|(simp at c3 ⊢;omega)
  clear c3
  have H':=zM H
  clear H
  go_enter Try.func33,Try.ntmps33
  go_wp2
  repeat (go_quiet (fail);try go_wp2)
  go_loopg [5] k (fun kq v5 w'=>∃ (x5_1:Int),v5=.int .i64 x5_1∧Aside0 (laws_eqByteS.l0 kq l0 l1 x5_1=some r)∧Aside0 (kq≤k)∧Drawn0 w w')
  case atStart=>exact⟨(0),zq7,H',⟨Nat.le_refl _⟩,zq25⟩
  case round=>
   clear H'
   try clear c1
   try clear p2
   try clear c3
   try clear c3b0
   try clear c3b1
   try clear c3b2
   obtain⟨x5_1,rfl,HA,HK1,⟨m1,rfl⟩⟩:=hrel
   cases gk with
   | zero=>exact absurd HA.out (by simp[laws_eqByteS.l0])
   | succ k1=>
    have H:=HA.out
    clear HA
    simp only[laws_eqByteS.l0] at H
    by_cases c4:x5_1 < (l0.length:Int)
    ·rw[if_pos c4] at H
     have c4b0:decide (x5_1 < (l0.length:Int))=true:=decide_eq_true c4
     clear c4
     by_cases c5:0≤x5_1
     ·rw[if_pos c5] at H
      have c5b0:decide (0≤x5_1)=true:=decide_eq_true c5
      clear c5
      by_cases c6:x5_1 < (l1.length:Int)
      ·rw[if_pos c6] at H
       have c6b0:decide (x5_1 < (l1.length:Int))=true:=decide_eq_true c6
       clear c6
       by_cases c7:(rd l0 x5_1)=(rd l1 x5_1)
       ·rw[if_pos c7] at H
        have c7b0:((rd l0 x5_1) == (rd l1 x5_1))=true:=beq_iff_eq.mpr c7
        have c7b1:((rd l0 x5_1) != (rd l1 x5_1))=false:=bne_eq_false_iff_eq.mpr c7
        clear c7
        have H':=zM H
        clear H
        have p388:0≤(x5_1:Int):=of_decide_eq_true zq6
        have q388:x5_1 < (l0.length:Int):=of_decide_eq_true zq6
        obtain⟨ad388,e388,hx388_0⟩:=Kd.at_int HR0.out x5_1 p388 q388
        cases e388
        replace p388:=eq_true p388
        replace q388:=eq_true q388
        have p389:0≤(x5_1:Int):=of_decide_eq_true zq6
        have q389:x5_1 < (l1.length:Int):=of_decide_eq_true zq6
        obtain⟨ad389,e389,hx389_0⟩:=Kd.at_int HR1.out x5_1 p389 q389
        cases e389
        replace p389:=eq_true p389
        replace q389:=eq_true q389
        go_wp2
        repeat (go_quiet (fail);try go_wp2)
        go_roundg k1
        case measure=>have:=HK1.out;omega
        case rel=>exact⟨(wrap64 (x5_1+1)),zq7,H',⟨zq79⟩,zq25⟩
       ·rw[if_neg c7] at H
        have c7b0:((rd l0 x5_1) == (rd l1 x5_1))=false:=beq_eq_false_iff_ne.mpr c7
        have c7b1:((rd l0 x5_1) != (rd l1 x5_1))=true:=bne_iff_ne.mpr c7
        obtain rfl:=Option.some.inj H
        have p388:0≤(x5_1:Int):=of_decide_eq_true zq6
        have q388:x5_1 < (l0.length:Int):=of_decide_eq_true zq6
        obtain⟨ad388,e388,hx388_0⟩:=Kd.at_int HR0.out x5_1 p388 q388
        cases e388
        replace p388:=eq_true p388
        replace q388:=eq_true q388
        have p389:0≤(x5_1:Int):=of_decide_eq_true zq6
        have q389:x5_1 < (l1.length:Int):=of_decide_eq_true zq6
        obtain⟨ad389,e389,hx389_0⟩:=Kd.at_int HR1.out x5_1 p389 q389
        cases e389
        replace p389:=eq_true p389
        replace q389:=eq_true q389
        go_wp2
        repeat (go_quiet (fail);try go_wp2)
        go_ret
        exact⟨zq7,zq25⟩
      ·rw[if_neg c6] at H
       exact absurd H zq73
     ·rw[if_neg c5] at H
      exact absurd H zq73
    ·rw[if_neg c4] at H
     have c4b0:decide (x5_1 < (l0.length:Int))=false:=decide_eq_false c4
     clear c4
     obtain rfl:=Option.some.inj H
     go_wp2
     repeat (go_quiet (fail);try go_wp2)
     go_ret
     exact⟨zq7,zq25⟩
 ·rw[if_neg c3] at H
  have c3b0:((l0.length:Int) == (l1.length:Int))=false:=beq_eq_false_iff_ne.mpr c3
  have c3b1:((l0.length:Int) != (l1.length:Int))=true:=bne_iff_ne.mpr c3
  have c3b2:(l0.length == l1.length)=false:=by first|simpa using c3|(simp at c3 ⊢;omega)
  obtain rfl:=Option.some.inj H
  go_enter Try.func33,Try.ntmps33
  go_wp2
  repeat (go_quiet (fail);try go_wp2)
  go_ret
  exact⟨zq7,zq25⟩
def laws_eqBytesResult.f (k:Nat) (a0_0:Int) (l0_1:List Int) (a1_0:Int) (l1_1:List Int):Option (Bool):=if a0_0=a1_0 then ((laws_eqByteS.f k l0_1 l1_1).bind fun t392=>(if t392=true then (some true) else (some false))) else (some false)
theorem laws_eqBytesResult.mono:∀ a0 a1 a2 a3 k,LeO (laws_eqBytesResult.f k a0 a1 a2 a3) (laws_eqBytesResult.f (k+1) a0 a1 a2 a3):=by
 intro a0 a1 a2 a3 k
 unfold laws_eqBytesResult.f
 repeat' first
   | (with_reducible exact laws_eqByteS.mono _ _ _)
   | (with_reducible exact LeO.refl _)
   | (with_reducible exact LeO.none _)
   | (with_reducible refine LeO.ite ?_ ?_)
   | (with_reducible refine LeO.bind ?_ (fun _=>?_))
   | exact laws_eqByteS.mono _ _ _
   | exact LeO.none _
   | refine LeO.ite ?_ ?_
   | refine LeO.bind ?_ (fun _=>?_)
set_option maxHeartbeats 8000000 in
set_option maxRecDepth 100000 in
theorem laws_eqBytesResult.calls (k:Nat) (a0_0:Int) (A0_1:Option Addr) (c0_1:Nat) (l0_1:List Int) (a1_0:Int) (A1_1:Option Addr) (c1_1:Nat) (l1_1:List Int) (r:Bool) (w:World) (hr0_1:Kd.C (Kd.int .u8) w A0_1 l0_1.length l0_1) (hc0_1:l0_1.length≤c0_1) (hr1_1:Kd.C (Kd.int .u8) w A1_1 l1_1.length l1_1) (hc1_1:l1_1.length≤c1_1) (h:laws_eqBytesResult.f k a0_0 l0_1 a1_0 l1_1=some r) :
  Calls Try.prog 10 #[.agg #[.int .i64 a0_0,.slice A0_1 l0_1.length c0_1],.agg #[.int .i64 a1_0,.slice A1_1 l1_1.length c1_1]] w fun e w'=>e=.returned (.bool r)∧Below w.heap.size w w':=by
 have hu31:=Try.underlying31
 have HR0_1:=zM hr0_1
 have HC0_1:=zM hc0_1
 clear hr0_1 hc0_1
 have HR1_1:=zM hr1_1
 have HC1_1:=zM hc1_1
 clear hr1_1 hc1_1
 have HB:=zM (Below.refl w.heap.size w)
 have H:(if a0_0=a1_0 then ((laws_eqByteS.f k l0_1 l1_1).bind fun t392=>(if t392=true then (some true) else (some false))) else (some false))=some r:=h
 clear h
 by_cases c3:a0_0=a1_0
 ·rw[if_pos c3] at H
  have c3b0:(a0_0 == a1_0)=true:=beq_iff_eq.mpr c3
  have c3b1:(a0_0 != a1_0)=false:=bne_eq_false_iff_eq.mpr c3
  clear c3
  replace H:=Option.bind_eq_some_iff.mp H
  obtain⟨t392,A40,H⟩:=H
  replace H:(if t392=true then (some true) else (some false))=some r:=H
  have A4:=zM A40
  clear A40
  by_cases c5:t392=true
  ·subst c5
   have H1:(some true)=some r:=by rw[if_pos rfl] at H;exact H
   clear H
   have H:=H1
   clear H1
   obtain rfl:=Option.some.inj H
   go_enter Try.func10,Try.ntmps10
   go_wp2_with (first|((with_reducible refine gate_dst (N:=2) rfl ?_);refine box_event ?hg (N:=2) ?hd (cs:=#[.int .i64 a0_0,.slice A0_1 l0_1.length c0_1]) (t:=31) ?hr ?_;(case hd=>rfl);(case hg=>rfl);(case hr=>first|(go_simp;done)|(go_simp;rfl));intro gb390 hg w6 hbox hb;have n0_:=zM (below_step zq0 hb);have n1_:=zM (hbox);have n2_:=zM ((by rw[hg];exact(below_size zq0):w.heap.size≤gb390));have n3_:=zM ((by rw[hg];exact(below_size zq0):w.heap.size≤gb390));clear HB;have HB:=n0_;have BK390:=n1_;have GW390:=n2_;have GE390:=n3_;clear n0_ n1_ n2_ n3_;clear hb hbox hg)|((with_reducible refine gate_dst (N:=3) rfl ?_);refine box_event ?hg (N:=3) ?hd (cs:=#[.int .i64 a1_0,.slice A1_1 l1_1.length c1_1]) (t:=31) ?hr ?_;(case hd=>rfl);(case hg=>rfl);(case hr=>first|(go_simp;done)|(go_simp;rfl));intro gb391 hg w7 hbox hb;have n0_:=zM (blk_below (g:=gb390) (o:=.cells #[.int .i64 a0_0,.slice A0_1 l0_1.length c0_1] 31 (0,0)) zq45 hb);have n1_:=zM (below_step zq29 hb);have n2_:=zM (hbox);have n3_:=zM ((by rw[hg];exact(below_size zq29):w.heap.size≤gb391));have n4_:=zM ((by rw[hg];exact(below_size zq29):w.heap.size≤gb391));have n5_:=zM ((by rw[hg];exact Nat.ne_of_lt (blk_lt (g:=gb390) (o:=.cells #[.int .i64 a0_0,.slice A0_1 l0_1.length c0_1] 31 (0,0)) zq45):gb390≠gb391));have n6_:=zM ((by rw[hg];exact Nat.ne_of_gt (blk_lt (g:=gb390) (o:=.cells #[.int .i64 a0_0,.slice A0_1 l0_1.length c0_1] 31 (0,0)) zq45):gb391≠gb390));clear BK390;clear HB;have BK390:=n0_;have HB:=n1_;have BK391:=n2_;have GW391:=n3_;have GE391:=n4_;have NB390_391:=n5_;have NB391_390:=n6_;clear n0_ n1_ n2_ n3_ n4_ n5_ n6_;clear hb hbox hg;have hnb8:=NB390_391.out;have hnc8:=NB391_390.out;have hcz9_0:w7.cell? ⟨gb390,0,none⟩=some (.int .i64 a0_0):=(blk_cell BK390.out 0).trans rfl;have hcz9_1:w7.cell? ⟨gb390,1,none⟩=some (.slice A0_1 l0_1.length c0_1):=(blk_cell BK390.out 1).trans rfl;have hfz9_0:=blk_frozen BK390.out 0;have hfz9_1:=blk_frozen BK390.out 1;have hcz10_0:w7.cell? ⟨gb391,0,none⟩=some (.int .i64 a1_0):=(blk_cell BK391.out 0).trans rfl;have hcz10_1:w7.cell? ⟨gb391,1,none⟩=some (.slice A1_1 l1_1.length c1_1):=(blk_cell BK391.out 1).trans rfl;have hfz10_0:=blk_frozen BK391.out 0;have hfz10_1:=blk_frozen BK391.out 1)|((with_reducible refine gate_callee (f:=33) rfl ?_);refine goesL_ (some 14) rfl rfl Try.func33 (by kernel_rfl) rfl #[.slice A0_1 l0_1.length c0_1,.slice A1_1 l1_1.length c1_1] rfl zq1 ?_;(with_reducible refine(laws_eqByteS.calls k _ _ l0_1 _ _ l1_1 true _ ?side1 ?side2 ?side3 ?side4 A4.out).mono ?_);(case side1=>exact zq11);(case side2=>exact HC0_1.out);(case side3=>exact zq58);(case side4=>exact HC1_1.out);rintro e w' ⟨rfl,⟨nd,rfl⟩⟩;refine⟨_,rfl,?_⟩))
   go_ret
   exact⟨zq3,zq98⟩
  ·replace c5:=Bool.eq_false_iff.mpr c5
   subst c5
   have H1:(some false)=some r:=by rw[if_neg (show ¬ (false=true) by decide)] at H;exact H
   clear H
   have H:=H1
   clear H1
   obtain rfl:=Option.some.inj H
   go_enter Try.func10,Try.ntmps10
   go_wp2_with (first|((with_reducible refine gate_dst (N:=2) rfl ?_);refine box_event ?hg (N:=2) ?hd (cs:=#[.int .i64 a0_0,.slice A0_1 l0_1.length c0_1]) (t:=31) ?hr ?_;(case hd=>rfl);(case hg=>rfl);(case hr=>first|(go_simp;done)|(go_simp;rfl));intro gb390 hg w11 hbox hb;have n0_:=zM (below_step zq0 hb);have n1_:=zM (hbox);have n2_:=zM ((by rw[hg];exact(below_size zq0):w.heap.size≤gb390));have n3_:=zM ((by rw[hg];exact(below_size zq0):w.heap.size≤gb390));clear HB;have HB:=n0_;have BK390:=n1_;have GW390:=n2_;have GE390:=n3_;clear n0_ n1_ n2_ n3_;clear hb hbox hg)|((with_reducible refine gate_dst (N:=3) rfl ?_);refine box_event ?hg (N:=3) ?hd (cs:=#[.int .i64 a1_0,.slice A1_1 l1_1.length c1_1]) (t:=31) ?hr ?_;(case hd=>rfl);(case hg=>rfl);(case hr=>first|(go_simp;done)|(go_simp;rfl));intro gb391 hg w12 hbox hb;have n0_:=zM (blk_below (g:=gb390) (o:=.cells #[.int .i64 a0_0,.slice A0_1 l0_1.length c0_1] 31 (0,0)) zq45 hb);have n1_:=zM (below_step zq29 hb);have n2_:=zM (hbox);have n3_:=zM ((by rw[hg];exact(below_size zq29):w.heap.size≤gb391));have n4_:=zM ((by rw[hg];exact(below_size zq29):w.heap.size≤gb391));have n5_:=zM ((by rw[hg];exact Nat.ne_of_lt (blk_lt (g:=gb390) (o:=.cells #[.int .i64 a0_0,.slice A0_1 l0_1.length c0_1] 31 (0,0)) zq45):gb390≠gb391));have n6_:=zM ((by rw[hg];exact Nat.ne_of_gt (blk_lt (g:=gb390) (o:=.cells #[.int .i64 a0_0,.slice A0_1 l0_1.length c0_1] 31 (0,0)) zq45):gb391≠gb390));clear BK390;clear HB;have BK390:=n0_;have HB:=n1_;have BK391:=n2_;have GW391:=n3_;have GE391:=n4_;have NB390_391:=n5_;have NB391_390:=n6_;clear n0_ n1_ n2_ n3_ n4_ n5_ n6_;clear hb hbox hg;have hnb13:=NB390_391.out;have hnc13:=NB391_390.out;have hcz14_0:w12.cell? ⟨gb390,0,none⟩=some (.int .i64 a0_0):=(blk_cell BK390.out 0).trans rfl;have hcz14_1:w12.cell? ⟨gb390,1,none⟩=some (.slice A0_1 l0_1.length c0_1):=(blk_cell BK390.out 1).trans rfl;have hfz14_0:=blk_frozen BK390.out 0;have hfz14_1:=blk_frozen BK390.out 1;have hcz15_0:w12.cell? ⟨gb391,0,none⟩=some (.int .i64 a1_0):=(blk_cell BK391.out 0).trans rfl;have hcz15_1:w12.cell? ⟨gb391,1,none⟩=some (.slice A1_1 l1_1.length c1_1):=(blk_cell BK391.out 1).trans rfl;have hfz15_0:=blk_frozen BK391.out 0;have hfz15_1:=blk_frozen BK391.out 1)|((with_reducible refine gate_callee (f:=33) rfl ?_);refine goesL_ (some 14) rfl rfl Try.func33 (by kernel_rfl) rfl #[.slice A0_1 l0_1.length c0_1,.slice A1_1 l1_1.length c1_1] rfl zq1 ?_;(with_reducible refine(laws_eqByteS.calls k _ _ l0_1 _ _ l1_1 false _ ?side1 ?side2 ?side3 ?side4 A4.out).mono ?_);(case side1=>exact zq11);(case side2=>exact HC0_1.out);(case side3=>exact zq58);(case side4=>exact HC1_1.out);rintro e w' ⟨rfl,⟨nd,rfl⟩⟩;refine⟨_,rfl,?_⟩))
   go_ret
   exact⟨zq3,zq98⟩
 ·rw[if_neg c3] at H
  have c3b0:(a0_0 == a1_0)=false:=beq_eq_false_iff_ne.mpr c3
  have c3b1:(a0_0 != a1_0)=true:=bne_iff_ne.mpr c3
  obtain rfl:=Option.some.inj H
  go_enter Try.func10,Try.ntmps10
  go_wp2_with (first|((with_reducible refine gate_dst (N:=2) rfl ?_);refine box_event ?hg (N:=2) ?hd (cs:=#[.int .i64 a0_0,.slice A0_1 l0_1.length c0_1]) (t:=31) ?hr ?_;(case hd=>rfl);(case hg=>rfl);(case hr=>first|(go_simp;done)|(go_simp;rfl));intro gb390 hg w16 hbox hb;have n0_:=zM (below_step zq0 hb);have n1_:=zM (hbox);have n2_:=zM ((by rw[hg];exact(below_size zq0):w.heap.size≤gb390));have n3_:=zM ((by rw[hg];exact(below_size zq0):w.heap.size≤gb390));clear HB;have HB:=n0_;have BK390:=n1_;have GW390:=n2_;have GE390:=n3_;clear n0_ n1_ n2_ n3_;clear hb hbox hg)|((with_reducible refine gate_dst (N:=3) rfl ?_);refine box_event ?hg (N:=3) ?hd (cs:=#[.int .i64 a1_0,.slice A1_1 l1_1.length c1_1]) (t:=31) ?hr ?_;(case hd=>rfl);(case hg=>rfl);(case hr=>first|(go_simp;done)|(go_simp;rfl));intro gb391 hg w17 hbox hb;have n0_:=zM (blk_below (g:=gb390) (o:=.cells #[.int .i64 a0_0,.slice A0_1 l0_1.length c0_1] 31 (0,0)) zq45 hb);have n1_:=zM (below_step zq29 hb);have n2_:=zM (hbox);have n3_:=zM ((by rw[hg];exact(below_size zq29):w.heap.size≤gb391));have n4_:=zM ((by rw[hg];exact(below_size zq29):w.heap.size≤gb391));have n5_:=zM ((by rw[hg];exact Nat.ne_of_lt (blk_lt (g:=gb390) (o:=.cells #[.int .i64 a0_0,.slice A0_1 l0_1.length c0_1] 31 (0,0)) zq45):gb390≠gb391));have n6_:=zM ((by rw[hg];exact Nat.ne_of_gt (blk_lt (g:=gb390) (o:=.cells #[.int .i64 a0_0,.slice A0_1 l0_1.length c0_1] 31 (0,0)) zq45):gb391≠gb390));clear BK390;clear HB;have BK390:=n0_;have HB:=n1_;have BK391:=n2_;have GW391:=n3_;have GE391:=n4_;have NB390_391:=n5_;have NB391_390:=n6_;clear n0_ n1_ n2_ n3_ n4_ n5_ n6_;clear hb hbox hg;have hnb18:=NB390_391.out;have hnc18:=NB391_390.out;have hcz19_0:w17.cell? ⟨gb390,0,none⟩=some (.int .i64 a0_0):=(blk_cell BK390.out 0).trans rfl;have hcz19_1:w17.cell? ⟨gb390,1,none⟩=some (.slice A0_1 l0_1.length c0_1):=(blk_cell BK390.out 1).trans rfl;have hfz19_0:=blk_frozen BK390.out 0;have hfz19_1:=blk_frozen BK390.out 1;have hcz20_0:w17.cell? ⟨gb391,0,none⟩=some (.int .i64 a1_0):=(blk_cell BK391.out 0).trans rfl;have hcz20_1:w17.cell? ⟨gb391,1,none⟩=some (.slice A1_1 l1_1.length c1_1):=(blk_cell BK391.out 1).trans rfl;have hfz20_0:=blk_frozen BK391.out 0;have hfz20_1:=blk_frozen BK391.out 1))
  go_ret
  exact⟨zq3,zq98⟩
def laws_eqKey.f (k:Nat) (a0_0:Int) (l0_1:List Int) (a1_0:Int) (l1_1:List Int):Option (Bool):=if a0_0=a1_0 then ((laws_eqByteS.f k l0_1 l1_1).bind fun t395=>(if t395=true then (some true) else (some false))) else (some false)
theorem laws_eqKey.mono:∀ a0 a1 a2 a3 k,LeO (laws_eqKey.f k a0 a1 a2 a3) (laws_eqKey.f (k+1) a0 a1 a2 a3):=by
 intro a0 a1 a2 a3 k
 unfold laws_eqKey.f
 repeat' first
   | (with_reducible exact laws_eqByteS.mono _ _ _)
   | (with_reducible exact LeO.refl _)
   | (with_reducible exact LeO.none _)
   | (with_reducible refine LeO.ite ?_ ?_)
   | (with_reducible refine LeO.bind ?_ (fun _=>?_))
   | exact laws_eqByteS.mono _ _ _
   | exact LeO.none _
   | refine LeO.ite ?_ ?_
   | refine LeO.bind ?_ (fun _=>?_)
set_option maxHeartbeats 8000000 in
set_option maxRecDepth 100000 in
theorem laws_eqKey.calls (k:Nat) (a0_0:Int) (A0_1:Option Addr) (c0_1:Nat) (l0_1:List Int) (a1_0:Int) (A1_1:Option Addr) (c1_1:Nat) (l1_1:List Int) (r:Bool) (w:World) (hr0_1:Kd.C (Kd.int .u8) w A0_1 l0_1.length l0_1) (hc0_1:l0_1.length≤c0_1) (hr1_1:Kd.C (Kd.int .u8) w A1_1 l1_1.length l1_1) (hc1_1:l1_1.length≤c1_1) (h:laws_eqKey.f k a0_0 l0_1 a1_0 l1_1=some r) :
  Calls Try.prog 58 #[.agg #[.int .i64 a0_0,.slice A0_1 l0_1.length c0_1],.agg #[.int .i64 a1_0,.slice A1_1 l1_1.length c1_1]] w fun e w'=>e=.returned (.bool r)∧Below w.heap.size w w':=by
 have hu54:=Try.underlying54
 have HR0_1:=zM hr0_1
 have HC0_1:=zM hc0_1
 clear hr0_1 hc0_1
 have HR1_1:=zM hr1_1
 have HC1_1:=zM hc1_1
 clear hr1_1 hc1_1
 have HB:=zM (Below.refl w.heap.size w)
 have H:(if a0_0=a1_0 then ((laws_eqByteS.f k l0_1 l1_1).bind fun t395=>(if t395=true then (some true) else (some false))) else (some false))=some r:=h
 clear h
 by_cases c3:a0_0=a1_0
 ·rw[if_pos c3] at H
  have c3b0:(a0_0 == a1_0)=true:=beq_iff_eq.mpr c3
  have c3b1:(a0_0 != a1_0)=false:=bne_eq_false_iff_eq.mpr c3
  clear c3
  replace H:=Option.bind_eq_some_iff.mp H
  obtain⟨t395,A40,H⟩:=H
  replace H:(if t395=true then (some true) else (some false))=some r:=H
  have A4:=zM A40
  clear A40
  by_cases c5:t395=true
  ·subst c5
   have H1:(some true)=some r:=by rw[if_pos rfl] at H;exact H
   clear H
   have H:=H1
   clear H1
   obtain rfl:=Option.some.inj H
   go_enter Try.func58,Try.ntmps58
   go_wp2_with (first|((with_reducible refine gate_dst (N:=2) rfl ?_);refine box_event ?hg (N:=2) ?hd (cs:=#[.int .i64 a0_0,.slice A0_1 l0_1.length c0_1]) (t:=54) ?hr ?_;(case hd=>rfl);(case hg=>rfl);(case hr=>first|(go_simp;done)|(go_simp;rfl));intro gb393 hg w6 hbox hb;have n0_:=zM (below_step zq0 hb);have n1_:=zM (hbox);have n2_:=zM ((by rw[hg];exact(below_size zq0):w.heap.size≤gb393));have n3_:=zM ((by rw[hg];exact(below_size zq0):w.heap.size≤gb393));clear HB;have HB:=n0_;have BK393:=n1_;have GW393:=n2_;have GE393:=n3_;clear n0_ n1_ n2_ n3_;clear hb hbox hg)|((with_reducible refine gate_dst (N:=3) rfl ?_);refine box_event ?hg (N:=3) ?hd (cs:=#[.int .i64 a1_0,.slice A1_1 l1_1.length c1_1]) (t:=54) ?hr ?_;(case hd=>rfl);(case hg=>rfl);(case hr=>first|(go_simp;done)|(go_simp;rfl));intro gb394 hg w7 hbox hb;have n0_:=zM (blk_below (g:=gb393) (o:=.cells #[.int .i64 a0_0,.slice A0_1 l0_1.length c0_1] 54 (0,0)) zq46 hb);have n1_:=zM (below_step zq30 hb);have n2_:=zM (hbox);have n3_:=zM ((by rw[hg];exact(below_size zq30):w.heap.size≤gb394));have n4_:=zM ((by rw[hg];exact(below_size zq30):w.heap.size≤gb394));have n5_:=zM ((by rw[hg];exact Nat.ne_of_lt (blk_lt (g:=gb393) (o:=.cells #[.int .i64 a0_0,.slice A0_1 l0_1.length c0_1] 54 (0,0)) zq46):gb393≠gb394));have n6_:=zM ((by rw[hg];exact Nat.ne_of_gt (blk_lt (g:=gb393) (o:=.cells #[.int .i64 a0_0,.slice A0_1 l0_1.length c0_1] 54 (0,0)) zq46):gb394≠gb393));clear BK393;clear HB;have BK393:=n0_;have HB:=n1_;have BK394:=n2_;have GW394:=n3_;have GE394:=n4_;have NB393_394:=n5_;have NB394_393:=n6_;clear n0_ n1_ n2_ n3_ n4_ n5_ n6_;clear hb hbox hg;have hnb8:=NB393_394.out;have hnc8:=NB394_393.out;have hcz9_0:w7.cell? ⟨gb393,0,none⟩=some (.int .i64 a0_0):=(blk_cell BK393.out 0).trans rfl;have hcz9_1:w7.cell? ⟨gb393,1,none⟩=some (.slice A0_1 l0_1.length c0_1):=(blk_cell BK393.out 1).trans rfl;have hfz9_0:=blk_frozen BK393.out 0;have hfz9_1:=blk_frozen BK393.out 1;have hcz10_0:w7.cell? ⟨gb394,0,none⟩=some (.int .i64 a1_0):=(blk_cell BK394.out 0).trans rfl;have hcz10_1:w7.cell? ⟨gb394,1,none⟩=some (.slice A1_1 l1_1.length c1_1):=(blk_cell BK394.out 1).trans rfl;have hfz10_0:=blk_frozen BK394.out 0;have hfz10_1:=blk_frozen BK394.out 1)|((with_reducible refine gate_callee (f:=33) rfl ?_);refine goesL_ (some 14) rfl rfl Try.func33 (by kernel_rfl) rfl #[.slice A0_1 l0_1.length c0_1,.slice A1_1 l1_1.length c1_1] rfl zq1 ?_;(with_reducible refine(laws_eqByteS.calls k _ _ l0_1 _ _ l1_1 true _ ?side1 ?side2 ?side3 ?side4 A4.out).mono ?_);(case side1=>exact zq11);(case side2=>exact HC0_1.out);(case side3=>exact zq58);(case side4=>exact HC1_1.out);rintro e w' ⟨rfl,⟨nd,rfl⟩⟩;refine⟨_,rfl,?_⟩))
   go_ret
   exact⟨zq3,zq99⟩
  ·replace c5:=Bool.eq_false_iff.mpr c5
   subst c5
   have H1:(some false)=some r:=by rw[if_neg (show ¬ (false=true) by decide)] at H;exact H
   clear H
   have H:=H1
   clear H1
   obtain rfl:=Option.some.inj H
   go_enter Try.func58,Try.ntmps58
   go_wp2_with (first|((with_reducible refine gate_dst (N:=2) rfl ?_);refine box_event ?hg (N:=2) ?hd (cs:=#[.int .i64 a0_0,.slice A0_1 l0_1.length c0_1]) (t:=54) ?hr ?_;(case hd=>rfl);(case hg=>rfl);(case hr=>first|(go_simp;done)|(go_simp;rfl));intro gb393 hg w11 hbox hb;have n0_:=zM (below_step zq0 hb);have n1_:=zM (hbox);have n2_:=zM ((by rw[hg];exact(below_size zq0):w.heap.size≤gb393));have n3_:=zM ((by rw[hg];exact(below_size zq0):w.heap.size≤gb393));clear HB;have HB:=n0_;have BK393:=n1_;have GW393:=n2_;have GE393:=n3_;clear n0_ n1_ n2_ n3_;clear hb hbox hg)|((with_reducible refine gate_dst (N:=3) rfl ?_);refine box_event ?hg (N:=3) ?hd (cs:=#[.int .i64 a1_0,.slice A1_1 l1_1.length c1_1]) (t:=54) ?hr ?_;(case hd=>rfl);(case hg=>rfl);(case hr=>first|(go_simp;done)|(go_simp;rfl));intro gb394 hg w12 hbox hb;have n0_:=zM (blk_below (g:=gb393) (o:=.cells #[.int .i64 a0_0,.slice A0_1 l0_1.length c0_1] 54 (0,0)) zq46 hb);have n1_:=zM (below_step zq30 hb);have n2_:=zM (hbox);have n3_:=zM ((by rw[hg];exact(below_size zq30):w.heap.size≤gb394));have n4_:=zM ((by rw[hg];exact(below_size zq30):w.heap.size≤gb394));have n5_:=zM ((by rw[hg];exact Nat.ne_of_lt (blk_lt (g:=gb393) (o:=.cells #[.int .i64 a0_0,.slice A0_1 l0_1.length c0_1] 54 (0,0)) zq46):gb393≠gb394));have n6_:=zM ((by rw[hg];exact Nat.ne_of_gt (blk_lt (g:=gb393) (o:=.cells #[.int .i64 a0_0,.slice A0_1 l0_1.length c0_1] 54 (0,0)) zq46):gb394≠gb393));clear BK393;clear HB;have BK393:=n0_;have HB:=n1_;have BK394:=n2_;have GW394:=n3_;have GE394:=n4_;have NB393_394:=n5_;have NB394_393:=n6_;clear n0_ n1_ n2_ n3_ n4_ n5_ n6_;clear hb hbox hg;have hnb13:=NB393_394.out;have hnc13:=NB394_393.out;have hcz14_0:w12.cell? ⟨gb393,0,none⟩=some (.int .i64 a0_0):=(blk_cell BK393.out 0).trans rfl;have hcz14_1:w12.cell? ⟨gb393,1,none⟩=some (.slice A0_1 l0_1.length c0_1):=(blk_cell BK393.out 1).trans rfl;have hfz14_0:=blk_frozen BK393.out 0;have hfz14_1:=blk_frozen BK393.out 1;have hcz15_0:w12.cell? ⟨gb394,0,none⟩=some (.int .i64 a1_0):=(blk_cell BK394.out 0).trans rfl;have hcz15_1:w12.cell? ⟨gb394,1,none⟩=some (.slice A1_1 l1_1.length c1_1):=(blk_cell BK394.out 1).trans rfl;have hfz15_0:=blk_frozen BK394.out 0;have hfz15_1:=blk_frozen BK394.out 1)|((with_reducible refine gate_callee (f:=33) rfl ?_);refine goesL_ (some 14) rfl rfl Try.func33 (by kernel_rfl) rfl #[.slice A0_1 l0_1.length c0_1,.slice A1_1 l1_1.length c1_1] rfl zq1 ?_;(with_reducible refine(laws_eqByteS.calls k _ _ l0_1 _ _ l1_1 false _ ?side1 ?side2 ?side3 ?side4 A4.out).mono ?_);(case side1=>exact zq11);(case side2=>exact HC0_1.out);(case side3=>exact zq58);(case side4=>exact HC1_1.out);rintro e w' ⟨rfl,⟨nd,rfl⟩⟩;refine⟨_,rfl,?_⟩))
   go_ret
   exact⟨zq3,zq99⟩
 ·rw[if_neg c3] at H
  have c3b0:(a0_0 == a1_0)=false:=beq_eq_false_iff_ne.mpr c3
  have c3b1:(a0_0 != a1_0)=true:=bne_iff_ne.mpr c3
  obtain rfl:=Option.some.inj H
  go_enter Try.func58,Try.ntmps58
  go_wp2_with (first|((with_reducible refine gate_dst (N:=2) rfl ?_);refine box_event ?hg (N:=2) ?hd (cs:=#[.int .i64 a0_0,.slice A0_1 l0_1.length c0_1]) (t:=54) ?hr ?_;(case hd=>rfl);(case hg=>rfl);(case hr=>first|(go_simp;done)|(go_simp;rfl));intro gb393 hg w16 hbox hb;have n0_:=zM (below_step zq0 hb);have n1_:=zM (hbox);have n2_:=zM ((by rw[hg];exact(below_size zq0):w.heap.size≤gb393));have n3_:=zM ((by rw[hg];exact(below_size zq0):w.heap.size≤gb393));clear HB;have HB:=n0_;have BK393:=n1_;have GW393:=n2_;have GE393:=n3_;clear n0_ n1_ n2_ n3_;clear hb hbox hg)|((with_reducible refine gate_dst (N:=3) rfl ?_);refine box_event ?hg (N:=3) ?hd (cs:=#[.int .i64 a1_0,.slice A1_1 l1_1.length c1_1]) (t:=54) ?hr ?_;(case hd=>rfl);(case hg=>rfl);(case hr=>first|(go_simp;done)|(go_simp;rfl));intro gb394 hg w17 hbox hb;have n0_:=zM (blk_below (g:=gb393) (o:=.cells #[.int .i64 a0_0,.slice A0_1 l0_1.length c0_1] 54 (0,0)) zq46 hb);have n1_:=zM (below_step zq30 hb);have n2_:=zM (hbox);have n3_:=zM ((by rw[hg];exact(below_size zq30):w.heap.size≤gb394));have n4_:=zM ((by rw[hg];exact(below_size zq30):w.heap.size≤gb394));have n5_:=zM ((by rw[hg];exact Nat.ne_of_lt (blk_lt (g:=gb393) (o:=.cells #[.int .i64 a0_0,.slice A0_1 l0_1.length c0_1] 54 (0,0)) zq46):gb393≠gb394));have n6_:=zM ((by rw[hg];exact Nat.ne_of_gt (blk_lt (g:=gb393) (o:=.cells #[.int .i64 a0_0,.slice A0_1 l0_1.length c0_1] 54 (0,0)) zq46):gb394≠gb393));clear BK393;clear HB;have BK393:=n0_;have HB:=n1_;have BK394:=n2_;have GW394:=n3_;have GE394:=n4_;have NB393_394:=n5_;have NB394_393:=n6_;clear n0_ n1_ n2_ n3_ n4_ n5_ n6_;clear hb hbox hg;have hnb18:=NB393_394.out;have hnc18:=NB394_393.out;have hcz19_0:w17.cell? ⟨gb393,0,none⟩=some (.int .i64 a0_0):=(blk_cell BK393.out 0).trans rfl;have hcz19_1:w17.cell? ⟨gb393,1,none⟩=some (.slice A0_1 l0_1.length c0_1):=(blk_cell BK393.out 1).trans rfl;have hfz19_0:=blk_frozen BK393.out 0;have hfz19_1:=blk_frozen BK393.out 1;have hcz20_0:w17.cell? ⟨gb394,0,none⟩=some (.int .i64 a1_0):=(blk_cell BK394.out 0).trans rfl;have hcz20_1:w17.cell? ⟨gb394,1,none⟩=some (.slice A1_1 l1_1.length c1_1):=(blk_cell BK394.out 1).trans rfl;have hfz20_0:=blk_frozen BK394.out 0;have hfz20_1:=blk_frozen BK394.out 1))
  go_ret
  exact⟨zq3,zq99⟩
end Go.Proofs.Ytdbanjdnjhflcaa.All
