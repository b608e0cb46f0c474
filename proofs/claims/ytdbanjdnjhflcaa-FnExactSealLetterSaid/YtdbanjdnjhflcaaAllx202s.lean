-- Laid by wip/shake.py of this repo out of this claim's texts. Not trusted: Lean checks it.
import Derived.Test.YtdbanjdnjhflcaaAb0s
import Derived.Test.YtdbanjdnjhflcaaAlgs
import Derived.Test.YtdbanjdnjhflcaaAllx26s
import Derived.Test.YtdbanjdnjhflcaaAllx35s
set_option linter.unusedSimpArgs false
set_option linter.unusedVariables false
namespace Go.Proofs.Ytdbanjdnjhflcaa.All
open Go.Proofs.YtdbanjdnjhflcaaW.PrintWords.Aside0 renaming mk→zM
open Go.RowKit Go.Proofs.YtdbanjdnjhflcaaW.PrintWords Go.Proofs.YtdbanjdnjhflcaaW.PrintLast Go.Proofs.YtdbanjdnjhflcaaW.PrintMore
attribute [local go_sem] max2_int min2_int max_two min_two max_three min_three max_four min_four
mutual
def impl_RingFault.l0:Nat→List (S54)→Int→Int→Int→List (S54)→Option (Int)
 | 0,_,_,_,_,_=>none
 | k+1,x13,x14,x15,x301000,x301001=>if x15 < x14 then (if 0≤x15 then (if x15 < (x13.length:Int) then ((impl_Key_fault.f ((rd_T54 x13 x15).f0) ((rd_T54 x13 x15).f1)).bind fun t304=>(if t304=0 then (impl_RingFault.l0 k x13 x14 (wrap64 (x15+1)) x301000 x301001) else (some t304))) else (none)) else (none)) else (impl_RingFault.l1 k 1 x301000 x301001)
def impl_RingFault.l1:Nat→Int→Int→List (S54)→Option (Int)
 | 0,_,_,_=>none
 | k+1,x6,x301000,x301001=>if x6 < (x301001.length:Int) then (if 0≤(wrap64 (x6 - 1)) then (if (wrap64 (x6 - 1)) < (x301001.length:Int) then (if 0≤x6 then (if ((rd_T54 x301001 (wrap64 (x6 - 1))).f0) ≥ ((rd_T54 x301001 x6).f0) then (some 1) else (impl_RingFault.l1 k (wrap64 (x6+1)) x301000 x301001)) else (none)) else (none)) else (none)) else ((impl_Ring_place.f x301000 x301001 x301000).bind fun t307=>(if t307 < 0 then (some 4) else (some 0)))
end
def impl_RingFault.f (k:Nat) (a0_0:Int) (l0_1:List (S54)):Option (Int):=(impl_in.f (l0_1.length:Int) 1 3).bind fun t301=>(if t301=true then (impl_RingFault.l0 k l0_1 (l0_1.length:Int) 0 a0_0 l0_1) else (some 2))
theorem impl_RingFault.mono_l:∀ k,(∀ y0 y1 y2 y3 y4,LeO (impl_RingFault.l0 k y0 y1 y2 y3 y4) (impl_RingFault.l0 (k+1) y0 y1 y2 y3 y4))∧(∀ y0 y1 y2,LeO (impl_RingFault.l1 k y0 y1 y2) (impl_RingFault.l1 (k+1) y0 y1 y2))
 | 0=>⟨fun _ _ _ _ _ r h=>by simp[impl_RingFault.l0] at h,fun _ _ _ r h=>by simp[impl_RingFault.l1] at h⟩
 | k+1=>by
  obtain⟨ih0,ih1⟩:=impl_RingFault.mono_l k
  refine⟨?_,?_⟩
  ·intro y0 y1 y2 y3 y4
   unfold impl_RingFault.l0
   repeat' first
   | (with_reducible exact ih0 _ _ _ _ _)
   | (with_reducible exact ih1 _ _ _)
   | (with_reducible exact LeO.refl _)
   | (with_reducible exact LeO.none _)
   | (with_reducible refine LeO.ite ?_ ?_)
   | (with_reducible refine LeO.bind ?_ (fun _=>?_))
   | exact ih0 _ _ _ _ _
   | exact ih1 _ _ _
   | exact LeO.none _
   | refine LeO.ite ?_ ?_
   | refine LeO.bind ?_ (fun _=>?_)
  ·intro y0 y1 y2
   unfold impl_RingFault.l1
   repeat' first
   | (with_reducible exact ih0 _ _ _ _ _)
   | (with_reducible exact ih1 _ _ _)
   | (with_reducible exact LeO.refl _)
   | (with_reducible exact LeO.none _)
   | (with_reducible refine LeO.ite ?_ ?_)
   | (with_reducible refine LeO.bind ?_ (fun _=>?_))
   | exact ih0 _ _ _ _ _
   | exact ih1 _ _ _
   | exact LeO.none _
   | refine LeO.ite ?_ ?_
   | refine LeO.bind ?_ (fun _=>?_)
theorem impl_RingFault.mono:∀ a0 a1 k,LeO (impl_RingFault.f k a0 a1) (impl_RingFault.f (k+1) a0 a1):=by
 intro a0 a1 k
 obtain⟨ih0,ih1⟩:=impl_RingFault.mono_l k
 unfold impl_RingFault.f
 repeat' first
   | (with_reducible exact ih0 _ _ _ _ _)
   | (with_reducible exact ih1 _ _ _)
   | (with_reducible exact LeO.refl _)
   | (with_reducible exact LeO.none _)
   | (with_reducible refine LeO.ite ?_ ?_)
   | (with_reducible refine LeO.bind ?_ (fun _=>?_))
   | exact ih0 _ _ _ _ _
   | exact ih1 _ _ _
   | exact LeO.none _
   | refine LeO.ite ?_ ?_
   | refine LeO.bind ?_ (fun _=>?_)
set_option maxHeartbeats 8000000 in
set_option maxRecDepth 100000 in
theorem impl_RingFault.calls (k:Nat) (a0_0:Int) (A0_1:Option Addr) (c0_1:Nat) (l0_1:List (S54)) (r:Int) (w:World) (hr0_1:Kd.C k54 w A0_1 l0_1.length l0_1) (hc0_1:l0_1.length≤c0_1) (h:impl_RingFault.f k a0_0 l0_1=some r) :
  Calls Try.prog 25 #[.agg #[.int .i64 a0_0,.slice A0_1 l0_1.length c0_1]] w fun e w'=>e=.returned (.int .i64 r)∧Below w.heap.size w w':=by
 have hu35:=Try.underlying35
 have hu54:=Try.underlying54
 have HR0_1:=zM hr0_1
 have HC0_1:=zM hc0_1
 clear hr0_1 hc0_1
 have HB:=zM (Below.refl w.heap.size w)
 have H:((impl_in.f (l0_1.length:Int) 1 3).bind fun t301=>(if t301=true then (impl_RingFault.l0 k l0_1 (l0_1.length:Int) 0 a0_0 l0_1) else (some 2)))=some r:=h
 clear h
 replace H:=Option.bind_eq_some_iff.mp H
 obtain⟨t301,A20,H⟩:=H
 replace H:(if t301=true then (impl_RingFault.l0 k l0_1 (l0_1.length:Int) 0 a0_0 l0_1) else (some 2))=some r:=H
 have A2:=zM A20
 clear A20
 by_cases c3:t301=true
 ·subst c3
  have H1:(impl_RingFault.l0 k l0_1 (l0_1.length:Int) 0 a0_0 l0_1)=some r:=by rw[if_pos rfl] at H;exact H
  clear H
  have H:=H1
  clear H1
  have H':=zM H
  clear H
  go_enter Try.func25,Try.ntmps25
  go_wp2_with (first|((with_reducible refine gate_dst (N:=1) rfl ?_);refine box_event ?hg (N:=1) ?hd (cs:=#[.int .i64 a0_0,.slice A0_1 l0_1.length c0_1]) (t:=35) ?hr ?_;(case hd=>rfl);(case hg=>rfl);(case hr=>first|(go_simp;done)|(go_simp;rfl));intro gb300 hg w4 hbox hb;have n0_:=zM (below_step zq0 hb);have n1_:=zM (hbox);have n2_:=zM ((by rw[hg];exact(below_size zq0):w.heap.size≤gb300));have n3_:=zM ((by rw[hg];exact(below_size zq0):w.heap.size≤gb300));clear HB;have HB:=n0_;have BK300:=n1_;have GW300:=n2_;have GE300:=n3_;clear n0_ n1_ n2_ n3_;clear hb hbox hg;have hcz5_0:w4.cell? ⟨gb300,0,none⟩=some (.int .i64 a0_0):=(blk_cell BK300.out 0).trans rfl;have hcz5_1:w4.cell? ⟨gb300,1,none⟩=some (.slice A0_1 l0_1.length c0_1):=(blk_cell BK300.out 1).trans rfl;have hfz5_0:=blk_frozen BK300.out 0;have hfz5_1:=blk_frozen BK300.out 1)|(go_at_call 46;(with_reducible refine(impl_in.calls (l0_1.length:Int) 1 3 true _ A2.out).mono ?_);rintro e w' ⟨rfl,⟨nd,rfl⟩⟩;(try first|exact⟨rfl,_,World.drewN_drewN _ _ _⟩|exact⟨rfl,_,Eq.trans (World.drewN_drewN _ _ _) (congrArg (World.drewN _) (Nat.add_assoc _ _ _))⟩)))
  repeat (go_quiet (first|((with_reducible refine gate_dst (N:=1) rfl ?_);refine box_event ?hg (N:=1) ?hd (cs:=#[.int .i64 a0_0,.slice A0_1 l0_1.length c0_1]) (t:=35) ?hr ?_;(case hd=>rfl);(case hg=>rfl);(case hr=>first|(go_simp;done)|(go_simp;rfl));intro gb300 hg w4 hbox hb;have n0_:=zM (below_step zq0 hb);have n1_:=zM (hbox);have n2_:=zM ((by rw[hg];exact(below_size zq0):w.heap.size≤gb300));have n3_:=zM ((by rw[hg];exact(below_size zq0):w.heap.size≤gb300));clear HB;have HB:=n0_;have BK300:=n1_;have GW300:=n2_;have GE300:=n3_;clear n0_ n1_ n2_ n3_;clear hb hbox hg;have hcz5_0:w4.cell? ⟨gb300,0,none⟩=some (.int .i64 a0_0):=(blk_cell BK300.out 0).trans rfl;have hcz5_1:w4.cell? ⟨gb300,1,none⟩=some (.slice A0_1 l0_1.length c0_1):=(blk_cell BK300.out 1).trans rfl;have hfz5_0:=blk_frozen BK300.out 0;have hfz5_1:=blk_frozen BK300.out 1)|(go_at_call 46;(with_reducible refine(impl_in.calls (l0_1.length:Int) 1 3 true _ A2.out).mono ?_);rintro e w' ⟨rfl,⟨nd,rfl⟩⟩;(try first|exact⟨rfl,_,World.drewN_drewN _ _ _⟩|exact⟨rfl,_,Eq.trans (World.drewN_drewN _ _ _) (congrArg (World.drewN _) (Nat.add_assoc _ _ _))⟩)));try go_wp2_with (first|((with_reducible refine gate_dst (N:=1) rfl ?_);refine box_event ?hg (N:=1) ?hd (cs:=#[.int .i64 a0_0,.slice A0_1 l0_1.length c0_1]) (t:=35) ?hr ?_;(case hd=>rfl);(case hg=>rfl);(case hr=>first|(go_simp;done)|(go_simp;rfl));intro gb300 hg w4 hbox hb;have n0_:=zM (below_step zq0 hb);have n1_:=zM (hbox);have n2_:=zM ((by rw[hg];exact(below_size zq0):w.heap.size≤gb300));have n3_:=zM ((by rw[hg];exact(below_size zq0):w.heap.size≤gb300));clear HB;have HB:=n0_;have BK300:=n1_;have GW300:=n2_;have GE300:=n3_;clear n0_ n1_ n2_ n3_;clear hb hbox hg;have hcz5_0:w4.cell? ⟨gb300,0,none⟩=some (.int .i64 a0_0):=(blk_cell BK300.out 0).trans rfl;have hcz5_1:w4.cell? ⟨gb300,1,none⟩=some (.slice A0_1 l0_1.length c0_1):=(blk_cell BK300.out 1).trans rfl;have hfz5_0:=blk_frozen BK300.out 0;have hfz5_1:=blk_frozen BK300.out 1)|(go_at_call 46;(with_reducible refine(impl_in.calls (l0_1.length:Int) 1 3 true _ A2.out).mono ?_);rintro e w' ⟨rfl,⟨nd,rfl⟩⟩;(try first|exact⟨rfl,_,World.drewN_drewN _ _ _⟩|exact⟨rfl,_,Eq.trans (World.drewN_drewN _ _ _) (congrArg (World.drewN _) (Nat.add_assoc _ _ _))⟩))))
  go_loopg [15] k (fun kq v15 w'=>∃ (x15_1:Int),v15=.int .i64 x15_1∧Aside0 (impl_RingFault.l0 kq l0_1 (l0_1.length:Int) x15_1 a0_0 l0_1=some r)∧Aside0 (kq≤k)∧Aside0 (w'.heap[gb300]?=some (.cells #[.int .i64 a0_0,(.slice A0_1 l0_1.length c0_1)] 35 (0,0)))∧Aside0 (Below w.heap.size w w'))
  case atStart=>exact⟨(0),zq7,H',⟨Nat.le_refl _⟩,⟨zq15⟩,⟨zq10⟩⟩
  case round=>
   clear H'
   try clear c2
   try clear p2
   try clear c3
   try clear hcz5_0
   try clear hcz5_1
   try clear hfz5_0
   try clear hfz5_1
   obtain⟨x15_1,rfl,HA,HK1,BK300,HB⟩:=hrel
   cases gk with
   | zero=>exact absurd HA.out (by simp[impl_RingFault.l0])
   | succ k1=>
    have H:=HA.out
    clear HA
    simp only[impl_RingFault.l0] at H
    by_cases c6:x15_1 < (l0_1.length:Int)
    ·rw[if_pos c6] at H
     have c6b0:decide (x15_1 < (l0_1.length:Int))=true:=decide_eq_true c6
     clear c6
     by_cases c7:0≤x15_1
     ·rw[if_pos c7] at H
      have c7b0:decide (0≤x15_1)=true:=decide_eq_true c7
      clear c7
      by_cases c8:x15_1 < (l0_1.length:Int)
      ·rw[if_pos c8] at H
       have c8b0:decide (x15_1 < (l0_1.length:Int))=true:=decide_eq_true c8
       clear c8
       replace H:=Option.bind_eq_some_iff.mp H
       obtain⟨t304,A90,H⟩:=H
       replace H:(if t304=0 then (impl_RingFault.l0 k1 l0_1 (l0_1.length:Int) (wrap64 (x15_1+1)) a0_0 l0_1) else (some t304))=some r:=H
       have A9:=zM A90
       clear A90
       by_cases c10:t304=0
       ·rw[if_pos c10] at H
        have c10b0:(t304 == 0)=true:=beq_iff_eq.mpr c10
        have c10b1:(t304 != 0)=false:=bne_eq_false_iff_eq.mpr c10
        clear c10
        have H':=zM H
        clear H
        have p302:0≤(x15_1:Int):=of_decide_eq_true zq6
        have q302:x15_1 < (l0_1.length:Int):=of_decide_eq_true zq6
        obtain⟨ad302,A302_1,c302_1,e302,hx302_0,hx302_1,hl302_1,hi302_1⟩:=at_T54 HR0_1.out x15_1 p302 q302
        cases e302
        replace hx302_0:=(HB.out.cell (World.block_lt_of_cell? w _ hx302_0)).trans hx302_0
        replace hx302_1:=(HB.out.cell (World.block_lt_of_cell? w _ hx302_1)).trans hx302_1
        have HR302_1:=zM hi302_1
        have HC302_1:=zM hl302_1
        clear hi302_1 hl302_1
        replace p302:=eq_true p302
        replace q302:=eq_true q302
        go_wp2_with (first|((with_reducible refine gate_dst (N:=4) rfl ?_);refine box_event ?hg (N:=4) ?hd (cs:=#[.int .i64 0,.slice none 0 0]) (t:=54) ?hr ?_;(case hd=>rfl);(case hg=>rfl);(case hr=>first|(go_simp;done)|(go_simp;rfl));intro gb303 hg w11 hbox hb;have n0_:=zM (blk_below (g:=gb300) (o:=.cells #[.int .i64 a0_0,.slice (some ad302) l0_1.length c0_1] 35 (0,0)) zq15 hb);have n1_:=zM (below_step zq10 hb);have n2_:=zM (hbox);have n3_:=zM ((by rw[hg];exact(below_size zq10):w.heap.size≤gb303));have n4_:=zM ((by rw[hg];exact(below_size zq10):w.heap.size≤gb303));have n5_:=zM ((by rw[hg];exact Nat.ne_of_lt (blk_lt (g:=gb300) (o:=.cells #[.int .i64 a0_0,.slice (some ad302) l0_1.length c0_1] 35 (0,0)) zq15):gb300≠gb303));have n6_:=zM ((by rw[hg];exact Nat.ne_of_gt (blk_lt (g:=gb300) (o:=.cells #[.int .i64 a0_0,.slice (some ad302) l0_1.length c0_1] 35 (0,0)) zq15):gb303≠gb300));clear BK300;clear HB;have BK300:=n0_;have HB:=n1_;have BK303:=n2_;have GW303:=n3_;have GE303:=n4_;have NB300_303:=n5_;have NB303_300:=n6_;clear n0_ n1_ n2_ n3_ n4_ n5_ n6_;clear hb hbox hg;have hnb12:=NB303_300.out;have hnc12:=NB300_303.out;have hcz13_0:w11.cell? ⟨gb303,0,none⟩=some (.int .i64 0):=(blk_cell BK303.out 0).trans rfl;have hcz13_1:w11.cell? ⟨gb303,1,none⟩=some (.slice none 0 0):=(blk_cell BK303.out 1).trans rfl;have hfz13_0:=blk_frozen BK303.out 0;have hfz13_1:=blk_frozen BK303.out 1)|(go_at_call 47;(with_reducible refine(impl_Key_fault.calls ((rd_T54 l0_1 x15_1).f0) _ _ ((rd_T54 l0_1 x15_1).f1) t304 _ ?side1 ?side2 A9.out).mono ?_);(case side1=>exact Kd.C_below HR302_1.out zq19);(case side2=>exact HC302_1.out);rintro e w14 ⟨rfl,hb⟩;have n0_:=zM (blk_below (g:=gb300) (o:=.cells #[.int .i64 a0_0,.slice (some ad302) l0_1.length c0_1] 35 (0,0)) zq21 hb);have n1_:=zM (blk_below (g:=gb303) (o:=.cells #[.int .i64 ((rd_T54 l0_1 x15_1).f0),.slice A302_1 ((rd_T54 l0_1 x15_1).f1).length c302_1] 54 (0,0)) zq16 hb);have n2_:=zM (below_step zq19 hb);clear BK300;clear BK303;clear HB;have BK300:=n0_;have BK303:=n1_;have HB:=n2_;clear n0_ n1_ n2_;(try clear hb);(try clear hb2);(try clear hk);(try clear hi)))
        repeat (go_quiet (first|((with_reducible refine gate_dst (N:=4) rfl ?_);refine box_event ?hg (N:=4) ?hd (cs:=#[.int .i64 0,.slice none 0 0]) (t:=54) ?hr ?_;(case hd=>rfl);(case hg=>rfl);(case hr=>first|(go_simp;done)|(go_simp;rfl));intro gb303 hg w11 hbox hb;have n0_:=zM (blk_below (g:=gb300) (o:=.cells #[.int .i64 a0_0,.slice (some ad302) l0_1.length c0_1] 35 (0,0)) zq15 hb);have n1_:=zM (below_step zq10 hb);have n2_:=zM (hbox);have n3_:=zM ((by rw[hg];exact(below_size zq10):w.heap.size≤gb303));have n4_:=zM ((by rw[hg];exact(below_size zq10):w.heap.size≤gb303));have n5_:=zM ((by rw[hg];exact Nat.ne_of_lt (blk_lt (g:=gb300) (o:=.cells #[.int .i64 a0_0,.slice (some ad302) l0_1.length c0_1] 35 (0,0)) zq15):gb300≠gb303));have n6_:=zM ((by rw[hg];exact Nat.ne_of_gt (blk_lt (g:=gb300) (o:=.cells #[.int .i64 a0_0,.slice (some ad302) l0_1.length c0_1] 35 (0,0)) zq15):gb303≠gb300));clear BK300;clear HB;have BK300:=n0_;have HB:=n1_;have BK303:=n2_;have GW303:=n3_;have GE303:=n4_;have NB300_303:=n5_;have NB303_300:=n6_;clear n0_ n1_ n2_ n3_ n4_ n5_ n6_;clear hb hbox hg;have hnb12:=NB303_300.out;have hnc12:=NB300_303.out;have hcz13_0:w11.cell? ⟨gb303,0,none⟩=some (.int .i64 0):=(blk_cell BK303.out 0).trans rfl;have hcz13_1:w11.cell? ⟨gb303,1,none⟩=some (.slice none 0 0):=(blk_cell BK303.out 1).trans rfl;have hfz13_0:=blk_frozen BK303.out 0;have hfz13_1:=blk_frozen BK303.out 1)|(go_at_call 47;(with_reducible refine(impl_Key_fault.calls ((rd_T54 l0_1 x15_1).f0) _ _ ((rd_T54 l0_1 x15_1).f1) t304 _ ?side1 ?side2 A9.out).mono ?_);(case side1=>exact Kd.C_below HR302_1.out zq19);(case side2=>exact HC302_1.out);rintro e w14 ⟨rfl,hb⟩;have n0_:=zM (blk_below (g:=gb300) (o:=.cells #[.int .i64 a0_0,.slice (some ad302) l0_1.length c0_1] 35 (0,0)) zq21 hb);have n1_:=zM (blk_below (g:=gb303) (o:=.cells #[.int .i64 ((rd_T54 l0_1 x15_1).f0),.slice A302_1 ((rd_T54 l0_1 x15_1).f1).length c302_1] 54 (0,0)) zq16 hb);have n2_:=zM (below_step zq19 hb);clear BK300;clear BK303;clear HB;have BK300:=n0_;have BK303:=n1_;have HB:=n2_;clear n0_ n1_ n2_;(try clear hb);(try clear hb2);(try clear hk);(try clear hi)));try go_wp2_with (first|((with_reducible refine gate_dst (N:=4) rfl ?_);refine box_event ?hg (N:=4) ?hd (cs:=#[.int .i64 0,.slice none 0 0]) (t:=54) ?hr ?_;(case hd=>rfl);(case hg=>rfl);(case hr=>first|(go_simp;done)|(go_simp;rfl));intro gb303 hg w11 hbox hb;have n0_:=zM (blk_below (g:=gb300) (o:=.cells #[.int .i64 a0_0,.slice (some ad302) l0_1.length c0_1] 35 (0,0)) zq15 hb);have n1_:=zM (below_step zq10 hb);have n2_:=zM (hbox);have n3_:=zM ((by rw[hg];exact(below_size zq10):w.heap.size≤gb303));have n4_:=zM ((by rw[hg];exact(below_size zq10):w.heap.size≤gb303));have n5_:=zM ((by rw[hg];exact Nat.ne_of_lt (blk_lt (g:=gb300) (o:=.cells #[.int .i64 a0_0,.slice (some ad302) l0_1.length c0_1] 35 (0,0)) zq15):gb300≠gb303));have n6_:=zM ((by rw[hg];exact Nat.ne_of_gt (blk_lt (g:=gb300) (o:=.cells #[.int .i64 a0_0,.slice (some ad302) l0_1.length c0_1] 35 (0,0)) zq15):gb303≠gb300));clear BK300;clear HB;have BK300:=n0_;have HB:=n1_;have BK303:=n2_;have GW303:=n3_;have GE303:=n4_;have NB300_303:=n5_;have NB303_300:=n6_;clear n0_ n1_ n2_ n3_ n4_ n5_ n6_;clear hb hbox hg;have hnb12:=NB303_300.out;have hnc12:=NB300_303.out;have hcz13_0:w11.cell? ⟨gb303,0,none⟩=some (.int .i64 0):=(blk_cell BK303.out 0).trans rfl;have hcz13_1:w11.cell? ⟨gb303,1,none⟩=some (.slice none 0 0):=(blk_cell BK303.out 1).trans rfl;have hfz13_0:=blk_frozen BK303.out 0;have hfz13_1:=blk_frozen BK303.out 1)|(go_at_call 47;(with_reducible refine(impl_Key_fault.calls ((rd_T54 l0_1 x15_1).f0) _ _ ((rd_T54 l0_1 x15_1).f1) t304 _ ?side1 ?side2 A9.out).mono ?_);(case side1=>exact Kd.C_below HR302_1.out zq19);(case side2=>exact HC302_1.out);rintro e w14 ⟨rfl,hb⟩;have n0_:=zM (blk_below (g:=gb300) (o:=.cells #[.int .i64 a0_0,.slice (some ad302) l0_1.length c0_1] 35 (0,0)) zq21 hb);have n1_:=zM (blk_below (g:=gb303) (o:=.cells #[.int .i64 ((rd_T54 l0_1 x15_1).f0),.slice A302_1 ((rd_T54 l0_1 x15_1).f1).length c302_1] 54 (0,0)) zq16 hb);have n2_:=zM (below_step zq19 hb);clear BK300;clear BK303;clear HB;have BK300:=n0_;have BK303:=n1_;have HB:=n2_;clear n0_ n1_ n2_;(try clear hb);(try clear hb2);(try clear hk);(try clear hi))))
        go_roundg k1
        case measure=>have:=HK1.out;omega
        case rel=>exact⟨(wrap64 (x15_1+1)),zq7,H',⟨zq79⟩,⟨zq15⟩,⟨zq19⟩⟩
       ·rw[if_neg c10] at H
        have c10b0:(t304 == 0)=false:=beq_eq_false_iff_ne.mpr c10
        have c10b1:(t304 != 0)=true:=bne_iff_ne.mpr c10
        obtain rfl:=Option.some.inj H
        have p302:0≤(x15_1:Int):=of_decide_eq_true zq6
        have q302:x15_1 < (l0_1.length:Int):=of_decide_eq_true zq6
        obtain⟨ad302,A302_1,c302_1,e302,hx302_0,hx302_1,hl302_1,hi302_1⟩:=at_T54 HR0_1.out x15_1 p302 q302
        cases e302
        replace hx302_0:=(HB.out.cell (World.block_lt_of_cell? w _ hx302_0)).trans hx302_0
        replace hx302_1:=(HB.out.cell (World.block_lt_of_cell? w _ hx302_1)).trans hx302_1
        have HR302_1:=zM hi302_1
        have HC302_1:=zM hl302_1
        clear hi302_1 hl302_1
        replace p302:=eq_true p302
        replace q302:=eq_true q302
        go_wp2_with (first|((with_reducible refine gate_dst (N:=4) rfl ?_);refine box_event ?hg (N:=4) ?hd (cs:=#[.int .i64 0,.slice none 0 0]) (t:=54) ?hr ?_;(case hd=>rfl);(case hg=>rfl);(case hr=>first|(go_simp;done)|(go_simp;rfl));intro gb303 hg w15 hbox hb;have n0_:=zM (blk_below (g:=gb300) (o:=.cells #[.int .i64 a0_0,.slice (some ad302) l0_1.length c0_1] 35 (0,0)) zq15 hb);have n1_:=zM (below_step zq10 hb);have n2_:=zM (hbox);have n3_:=zM ((by rw[hg];exact(below_size zq10):w.heap.size≤gb303));have n4_:=zM ((by rw[hg];exact(below_size zq10):w.heap.size≤gb303));have n5_:=zM ((by rw[hg];exact Nat.ne_of_lt (blk_lt (g:=gb300) (o:=.cells #[.int .i64 a0_0,.slice (some ad302) l0_1.length c0_1] 35 (0,0)) zq15):gb300≠gb303));have n6_:=zM ((by rw[hg];exact Nat.ne_of_gt (blk_lt (g:=gb300) (o:=.cells #[.int .i64 a0_0,.slice (some ad302) l0_1.length c0_1] 35 (0,0)) zq15):gb303≠gb300));clear BK300;clear HB;have BK300:=n0_;have HB:=n1_;have BK303:=n2_;have GW303:=n3_;have GE303:=n4_;have NB300_303:=n5_;have NB303_300:=n6_;clear n0_ n1_ n2_ n3_ n4_ n5_ n6_;clear hb hbox hg;have hnb16:=NB303_300.out;have hnc16:=NB300_303.out;have hcz17_0:w15.cell? ⟨gb303,0,none⟩=some (.int .i64 0):=(blk_cell BK303.out 0).trans rfl;have hcz17_1:w15.cell? ⟨gb303,1,none⟩=some (.slice none 0 0):=(blk_cell BK303.out 1).trans rfl;have hfz17_0:=blk_frozen BK303.out 0;have hfz17_1:=blk_frozen BK303.out 1)|(go_at_call 47;(with_reducible refine(impl_Key_fault.calls ((rd_T54 l0_1 x15_1).f0) _ _ ((rd_T54 l0_1 x15_1).f1) t304 _ ?side1 ?side2 A9.out).mono ?_);(case side1=>exact Kd.C_below HR302_1.out zq19);(case side2=>exact HC302_1.out);rintro e w18 ⟨rfl,hb⟩;have n0_:=zM (blk_below (g:=gb300) (o:=.cells #[.int .i64 a0_0,.slice (some ad302) l0_1.length c0_1] 35 (0,0)) zq21 hb);have n1_:=zM (blk_below (g:=gb303) (o:=.cells #[.int .i64 ((rd_T54 l0_1 x15_1).f0),.slice A302_1 ((rd_T54 l0_1 x15_1).f1).length c302_1] 54 (0,0)) zq16 hb);have n2_:=zM (below_step zq19 hb);clear BK300;clear BK303;clear HB;have BK300:=n0_;have BK303:=n1_;have HB:=n2_;clear n0_ n1_ n2_;(try clear hb);(try clear hb2);(try clear hk);(try clear hi)))
        repeat (go_quiet (first|((with_reducible refine gate_dst (N:=4) rfl ?_);refine box_event ?hg (N:=4) ?hd (cs:=#[.int .i64 0,.slice none 0 0]) (t:=54) ?hr ?_;(case hd=>rfl);(case hg=>rfl);(case hr=>first|(go_simp;done)|(go_simp;rfl));intro gb303 hg w15 hbox hb;have n0_:=zM (blk_below (g:=gb300) (o:=.cells #[.int .i64 a0_0,.slice (some ad302) l0_1.length c0_1] 35 (0,0)) zq15 hb);have n1_:=zM (below_step zq10 hb);have n2_:=zM (hbox);have n3_:=zM ((by rw[hg];exact(below_size zq10):w.heap.size≤gb303));have n4_:=zM ((by rw[hg];exact(below_size zq10):w.heap.size≤gb303));have n5_:=zM ((by rw[hg];exact Nat.ne_of_lt (blk_lt (g:=gb300) (o:=.cells #[.int .i64 a0_0,.slice (some ad302) l0_1.length c0_1] 35 (0,0)) zq15):gb300≠gb303));have n6_:=zM ((by rw[hg];exact Nat.ne_of_gt (blk_lt (g:=gb300) (o:=.cells #[.int .i64 a0_0,.slice (some ad302) l0_1.length c0_1] 35 (0,0)) zq15):gb303≠gb300));clear BK300;clear HB;have BK300:=n0_;have HB:=n1_;have BK303:=n2_;have GW303:=n3_;have GE303:=n4_;have NB300_303:=n5_;have NB303_300:=n6_;clear n0_ n1_ n2_ n3_ n4_ n5_ n6_;clear hb hbox hg;have hnb16:=NB303_300.out;have hnc16:=NB300_303.out;have hcz17_0:w15.cell? ⟨gb303,0,none⟩=some (.int .i64 0):=(blk_cell BK303.out 0).trans rfl;have hcz17_1:w15.cell? ⟨gb303,1,none⟩=some (.slice none 0 0):=(blk_cell BK303.out 1).trans rfl;have hfz17_0:=blk_frozen BK303.out 0;have hfz17_1:=blk_frozen BK303.out 1)|(go_at_call 47;(with_reducible refine(impl_Key_fault.calls ((rd_T54 l0_1 x15_1).f0) _ _ ((rd_T54 l0_1 x15_1).f1) t304 _ ?side1 ?side2 A9.out).mono ?_);(case side1=>exact Kd.C_below HR302_1.out zq19);(case side2=>exact HC302_1.out);rintro e w18 ⟨rfl,hb⟩;have n0_:=zM (blk_below (g:=gb300) (o:=.cells #[.int .i64 a0_0,.slice (some ad302) l0_1.length c0_1] 35 (0,0)) zq21 hb);have n1_:=zM (blk_below (g:=gb303) (o:=.cells #[.int .i64 ((rd_T54 l0_1 x15_1).f0),.slice A302_1 ((rd_T54 l0_1 x15_1).f1).length c302_1] 54 (0,0)) zq16 hb);have n2_:=zM (below_step zq19 hb);clear BK300;clear BK303;clear HB;have BK300:=n0_;have BK303:=n1_;have HB:=n2_;clear n0_ n1_ n2_;(try clear hb);(try clear hb2);(try clear hk);(try clear hi)));try go_wp2_with (first|((with_reducible refine gate_dst (N:=4) rfl ?_);refine box_event ?hg (N:=4) ?hd (cs:=#[.int .i64 0,.slice none 0 0]) (t:=54) ?hr ?_;(case hd=>rfl);(case hg=>rfl);(case hr=>first|(go_simp;done)|(go_simp;rfl));intro gb303 hg w15 hbox hb;have n0_:=zM (blk_below (g:=gb300) (o:=.cells #[.int .i64 a0_0,.slice (some ad302) l0_1.length c0_1] 35 (0,0)) zq15 hb);have n1_:=zM (below_step zq10 hb);have n2_:=zM (hbox);have n3_:=zM ((by rw[hg];exact(below_size zq10):w.heap.size≤gb303));have n4_:=zM ((by rw[hg];exact(below_size zq10):w.heap.size≤gb303));have n5_:=zM ((by rw[hg];exact Nat.ne_of_lt (blk_lt (g:=gb300) (o:=.cells #[.int .i64 a0_0,.slice (some ad302) l0_1.length c0_1] 35 (0,0)) zq15):gb300≠gb303));have n6_:=zM ((by rw[hg];exact Nat.ne_of_gt (blk_lt (g:=gb300) (o:=.cells #[.int .i64 a0_0,.slice (some ad302) l0_1.length c0_1] 35 (0,0)) zq15):gb303≠gb300));clear BK300;clear HB;have BK300:=n0_;have HB:=n1_;have BK303:=n2_;have GW303:=n3_;have GE303:=n4_;have NB300_303:=n5_;have NB303_300:=n6_;clear n0_ n1_ n2_ n3_ n4_ n5_ n6_;clear hb hbox hg;have hnb16:=NB303_300.out;have hnc16:=NB300_303.out;have hcz17_0:w15.cell? ⟨gb303,0,none⟩=some (.int .i64 0):=(blk_cell BK303.out 0).trans rfl;have hcz17_1:w15.cell? ⟨gb303,1,none⟩=some (.slice none 0 0):=(blk_cell BK303.out 1).trans rfl;have hfz17_0:=blk_frozen BK303.out 0;have hfz17_1:=blk_frozen BK303.out 1)|(go_at_call 47;(with_reducible refine(impl_Key_fault.calls ((rd_T54 l0_1 x15_1).f0) _ _ ((rd_T54 l0_1 x15_1).f1) t304 _ ?side1 ?side2 A9.out).mono ?_);(case side1=>exact Kd.C_below HR302_1.out zq19);(case side2=>exact HC302_1.out);rintro e w18 ⟨rfl,hb⟩;have n0_:=zM (blk_below (g:=gb300) (o:=.cells #[.int .i64 a0_0,.slice (some ad302) l0_1.length c0_1] 35 (0,0)) zq21 hb);have n1_:=zM (blk_below (g:=gb303) (o:=.cells #[.int .i64 ((rd_T54 l0_1 x15_1).f0),.slice A302_1 ((rd_T54 l0_1 x15_1).f1).length c302_1] 54 (0,0)) zq16 hb);have n2_:=zM (below_step zq19 hb);clear BK300;clear BK303;clear HB;have BK300:=n0_;have BK303:=n1_;have HB:=n2_;clear n0_ n1_ n2_;(try clear hb);(try clear hb2);(try clear hk);(try clear hi))))
        go_ret
        exact⟨zq3,zq19⟩
      ·rw[if_neg c8] at H
       exact absurd H zq73
     ·rw[if_neg c7] at H
      exact absurd H zq73
    ·rw[if_neg c6] at H
     have c6b0:decide (x15_1 < (l0_1.length:Int))=false:=decide_eq_false c6
     clear c6
     have H':=zM H
     clear H
     go_wp2
     repeat (go_quiet (fail);try go_wp2)
     go_loopg [6] k1 (fun kq v6 w'=>∃ (x6_2:Int),v6=.int .i64 x6_2∧Aside0 (impl_RingFault.l1 kq x6_2 a0_0 l0_1=some r)∧Aside0 (kq≤k1)∧Aside0 (w'.heap[gb300]?=some (.cells #[.int .i64 a0_0,(.slice A0_1 l0_1.length c0_1)] 35 (0,0)))∧Aside0 (Below w.heap.size w w'))
     case atStart=>exact⟨(1),zq7,H',⟨Nat.le_refl _⟩,⟨zq15⟩,⟨zq10⟩⟩
     case round=>
      clear H'
      try clear c1
      try clear c2
      try clear p2
      try clear c3
      try clear p3
      try clear q3
      try clear hx3
      try clear c6
      try clear c6b0
      try clear p6
      try clear c7
      try clear c7b0
      try clear c8
      try clear c8b0
      try clear c10
      try clear c10b0
      try clear c10b1
      try clear c12
      try clear c16
      try clear hcz13_0
      try clear hcz13_1
      try clear hcz17_0
      try clear hcz17_1
      try clear hcz5_0
      try clear hcz5_1
      try clear hfz13_0
      try clear hfz13_1
      try clear hfz17_0
      try clear hfz17_1
      try clear hfz5_0
      try clear hfz5_1
      try clear hx302_0
      try clear hx302_1
      try clear p2
      try clear p302
      try clear q302
      obtain⟨x6_2,rfl,HA,HK2,BK300,HB⟩:=hrel
      cases gk with
      | zero=>exact absurd HA.out (by simp[impl_RingFault.l1])
      | succ k2=>
       have H:=HA.out
       clear HA
       simp only[impl_RingFault.l1] at H
       by_cases c19:x6_2 < (l0_1.length:Int)
       ·rw[if_pos c19] at H
        have c19b0:decide (x6_2 < (l0_1.length:Int))=true:=decide_eq_true c19
        clear c19
        obtain⟨ji20,hji20⟩:∃ j_:Int,(wrap64 (x6_2 - 1))=j_:=⟨_,rfl⟩
        replace H:(if 0≤(ji20) then (if (ji20) < (l0_1.length:Int) then (if 0≤x6_2 then (if ((rd_T54 l0_1 (ji20)).f0) ≥ ((rd_T54 l0_1 x6_2).f0) then (some 1) else (impl_RingFault.l1 k2 (wrap64 (x6_2+1)) a0_0 l0_1)) else (none)) else (none)) else (none))=some r:=by first|(rw[hji20] at H;exact H)|(simp only[hji20] at H ⊢;exact H)
        have hji20w:(IntKind.i64.wrap (x6_2 - 1))=ji20:=(i64_w _).trans hji20
        by_cases c21:0≤(ji20)
        ·rw[if_pos c21] at H
         have c21b0:decide (0≤(ji20))=true:=decide_eq_true c21
         clear c21
         by_cases c22:(ji20) < (l0_1.length:Int)
         ·rw[if_pos c22] at H
          have c22b0:decide ((ji20) < (l0_1.length:Int))=true:=decide_eq_true c22
          clear c22
          by_cases c23:0≤x6_2
          ·rw[if_pos c23] at H
           have c23b0:decide (0≤x6_2)=true:=decide_eq_true c23
           clear c23
           by_cases c24:((rd_T54 l0_1 (ji20)).f0) ≥ ((rd_T54 l0_1 x6_2).f0)
           ·rw[if_pos c24] at H
            have c24b0:decide (((rd_T54 l0_1 x6_2).f0)≤((rd_T54 l0_1 (ji20)).f0))=true:=decide_eq_true c24
            clear c24
            obtain rfl:=Option.some.inj H
            have hcz25_0:wr.cell? ⟨gb300,0,none⟩=some (.int .i64 a0_0):=(blk_cell BK300.out 0).trans rfl
            have hcz25_1:wr.cell? ⟨gb300,1,none⟩=some (.slice A0_1 l0_1.length c0_1):=(blk_cell BK300.out 1).trans rfl
            have hfz25_0:=blk_frozen BK300.out 0
            have hfz25_1:=blk_frozen BK300.out 1
            have p305:0≤((ji20):Int):=of_decide_eq_true zq6
            have q305:(ji20) < (l0_1.length:Int):=of_decide_eq_true zq6
            obtain⟨ad305,A305_1,c305_1,e305,hx305_0,hx305_1,hl305_1,hi305_1⟩:=at_T54 HR0_1.out (ji20) p305 q305
            cases e305
            replace hx305_0:=(HB.out.cell (World.block_lt_of_cell? w _ hx305_0)).trans hx305_0
            replace hx305_1:=(HB.out.cell (World.block_lt_of_cell? w _ hx305_1)).trans hx305_1
            have HR305_1:=zM hi305_1
            have HC305_1:=zM hl305_1
            clear hi305_1 hl305_1
            replace p305:=eq_true p305
            replace q305:=eq_true q305
            have p306:0≤(x6_2:Int):=of_decide_eq_true zq6
            have q306:x6_2 < (l0_1.length:Int):=of_decide_eq_true zq6
            obtain⟨ad306,A306_1,c306_1,e306,hx306_0,hx306_1,hl306_1,hi306_1⟩:=at_T54 HR0_1.out x6_2 p306 q306
            obtain rfl:ad305=ad306:=(by injection e306)
            replace hx306_0:=(HB.out.cell (World.block_lt_of_cell? w _ hx306_0)).trans hx306_0
            replace hx306_1:=(HB.out.cell (World.block_lt_of_cell? w _ hx306_1)).trans hx306_1
            have HR306_1:=zM hi306_1
            have HC306_1:=zM hl306_1
            clear hi306_1 hl306_1
            replace p306:=eq_true p306
            replace q306:=eq_true q306
            go_wp2
            repeat (go_quiet (fail);try go_wp2)
            go_ret
            exact⟨by first|rfl|(simp[errW_none,errW_some] <;> rfl)|(simp only[← hji20];first|rfl|(simp[errW_none,errW_some] <;> rfl))|(simp[*,errW_none,errW_some] <;> rfl),zq10⟩
           ·rw[if_neg c24] at H
            have c24b0:decide (((rd_T54 l0_1 x6_2).f0)≤((rd_T54 l0_1 (ji20)).f0))=false:=decide_eq_false c24
            clear c24
            have H':=zM H
            clear H
            have hcz26_0:wr.cell? ⟨gb300,0,none⟩=some (.int .i64 a0_0):=(blk_cell BK300.out 0).trans rfl
            have hcz26_1:wr.cell? ⟨gb300,1,none⟩=some (.slice A0_1 l0_1.length c0_1):=(blk_cell BK300.out 1).trans rfl
            have hfz26_0:=blk_frozen BK300.out 0
            have hfz26_1:=blk_frozen BK300.out 1
            have p305:0≤((ji20):Int):=of_decide_eq_true zq6
            have q305:(ji20) < (l0_1.length:Int):=of_decide_eq_true zq6
            obtain⟨ad305,A305_1,c305_1,e305,hx305_0,hx305_1,hl305_1,hi305_1⟩:=at_T54 HR0_1.out (ji20) p305 q305
            cases e305
            replace hx305_0:=(HB.out.cell (World.block_lt_of_cell? w _ hx305_0)).trans hx305_0
            replace hx305_1:=(HB.out.cell (World.block_lt_of_cell? w _ hx305_1)).trans hx305_1
            have HR305_1:=zM hi305_1
            have HC305_1:=zM hl305_1
            clear hi305_1 hl305_1
            replace p305:=eq_true p305
            replace q305:=eq_true q305
            have p306:0≤(x6_2:Int):=of_decide_eq_true zq6
            have q306:x6_2 < (l0_1.length:Int):=of_decide_eq_true zq6
            obtain⟨ad306,A306_1,c306_1,e306,hx306_0,hx306_1,hl306_1,hi306_1⟩:=at_T54 HR0_1.out x6_2 p306 q306
            obtain rfl:ad305=ad306:=(by injection e306)
            replace hx306_0:=(HB.out.cell (World.block_lt_of_cell? w _ hx306_0)).trans hx306_0
            replace hx306_1:=(HB.out.cell (World.block_lt_of_cell? w _ hx306_1)).trans hx306_1
            have HR306_1:=zM hi306_1
            have HC306_1:=zM hl306_1
            clear hi306_1 hl306_1
            replace p306:=eq_true p306
            replace q306:=eq_true q306
            go_wp2
            repeat (go_quiet (fail);try go_wp2)
            go_roundg k2
            case measure=>have:=HK1.out;have:=HK2.out;omega
            case rel=>exact⟨(wrap64 (x6_2+1)),zq7,H',⟨zq132⟩,⟨zq15⟩,⟨zq10⟩⟩
          ·rw[if_neg c23] at H
           exact absurd H zq73
         ·rw[if_neg c22] at H
          exact absurd H zq73
        ·rw[if_neg c21] at H
         exact absurd H zq73
       ·rw[if_neg c19] at H
        have c19b0:decide (x6_2 < (l0_1.length:Int))=false:=decide_eq_false c19
        clear c19
        replace H:=Option.bind_eq_some_iff.mp H
        obtain⟨t307,A270,H⟩:=H
        replace H:(if t307 < 0 then (some 4) else (some 0))=some r:=H
        have A27:=zM A270
        clear A270
        by_cases c28:t307 < 0
        ·rw[if_pos c28] at H
         have c28b0:decide (t307 < 0)=true:=decide_eq_true c28
         clear c28
         obtain rfl:=Option.some.inj H
         have hcz29_0:wr.cell? ⟨gb300,0,none⟩=some (.int .i64 a0_0):=(blk_cell BK300.out 0).trans rfl
         have hcz29_1:wr.cell? ⟨gb300,1,none⟩=some (.slice A0_1 l0_1.length c0_1):=(blk_cell BK300.out 1).trans rfl
         have hfz29_0:=blk_frozen BK300.out 0
         have hfz29_1:=blk_frozen BK300.out 1
         go_wp2_with (first|(go_at_call 48;(with_reducible refine(impl_Ring_place.calls a0_0 _ _ l0_1 a0_0 t307 _ ?side1 ?side2 A27.out).mono ?_);(case side1=>exact zq11);(case side2=>exact HC0_1.out);rintro e w30 ⟨rfl,hb⟩;have n0_:=zM (blk_below (g:=gb300) (o:=.cells #[.int .i64 a0_0,.slice A0_1 l0_1.length c0_1] 35 (0,0)) zq15 hb);have n1_:=zM (below_step zq10 hb);clear BK300;clear HB;have BK300:=n0_;have HB:=n1_;clear n0_ n1_;(try clear hb);(try clear hb2);(try clear hk);(try clear hi)))
         repeat (go_quiet (first|(go_at_call 48;(with_reducible refine(impl_Ring_place.calls a0_0 _ _ l0_1 a0_0 t307 _ ?side1 ?side2 A27.out).mono ?_);(case side1=>exact zq11);(case side2=>exact HC0_1.out);rintro e w30 ⟨rfl,hb⟩;have n0_:=zM (blk_below (g:=gb300) (o:=.cells #[.int .i64 a0_0,.slice A0_1 l0_1.length c0_1] 35 (0,0)) zq15 hb);have n1_:=zM (below_step zq10 hb);clear BK300;clear HB;have BK300:=n0_;have HB:=n1_;clear n0_ n1_;(try clear hb);(try clear hb2);(try clear hk);(try clear hi)));try go_wp2_with (first|(go_at_call 48;(with_reducible refine(impl_Ring_place.calls a0_0 _ _ l0_1 a0_0 t307 _ ?side1 ?side2 A27.out).mono ?_);(case side1=>exact zq11);(case side2=>exact HC0_1.out);rintro e w30 ⟨rfl,hb⟩;have n0_:=zM (blk_below (g:=gb300) (o:=.cells #[.int .i64 a0_0,.slice A0_1 l0_1.length c0_1] 35 (0,0)) zq15 hb);have n1_:=zM (below_step zq10 hb);clear BK300;clear HB;have BK300:=n0_;have HB:=n1_;clear n0_ n1_;(try clear hb);(try clear hb2);(try clear hk);(try clear hi))))
         go_ret
         exact⟨zq3,zq10⟩
        ·rw[if_neg c28] at H
         have c28b0:decide (t307 < 0)=false:=decide_eq_false c28
         clear c28
         obtain rfl:=Option.some.inj H
         have hcz31_0:wr.cell? ⟨gb300,0,none⟩=some (.int .i64 a0_0):=(blk_cell BK300.out 0).trans rfl
         have hcz31_1:wr.cell? ⟨gb300,1,none⟩=some (.slice A0_1 l0_1.length c0_1):=(blk_cell BK300.out 1).trans rfl
         have hfz31_0:=blk_frozen BK300.out 0
         have hfz31_1:=blk_frozen BK300.out 1
         go_wp2_with (first|(go_at_call 48;(with_reducible refine(impl_Ring_place.calls a0_0 _ _ l0_1 a0_0 t307 _ ?side1 ?side2 A27.out).mono ?_);(case side1=>exact zq11);(case side2=>exact HC0_1.out);rintro e w32 ⟨rfl,hb⟩;have n0_:=zM (blk_below (g:=gb300) (o:=.cells #[.int .i64 a0_0,.slice A0_1 l0_1.length c0_1] 35 (0,0)) zq15 hb);have n1_:=zM (below_step zq10 hb);clear BK300;clear HB;have BK300:=n0_;have HB:=n1_;clear n0_ n1_;(try clear hb);(try clear hb2);(try clear hk);(try clear hi)))
         repeat (go_quiet (first|(go_at_call 48;(with_reducible refine(impl_Ring_place.calls a0_0 _ _ l0_1 a0_0 t307 _ ?side1 ?side2 A27.out).mono ?_);(case side1=>exact zq11);(case side2=>exact HC0_1.out);rintro e w32 ⟨rfl,hb⟩;have n0_:=zM (blk_below (g:=gb300) (o:=.cells #[.int .i64 a0_0,.slice A0_1 l0_1.length c0_1] 35 (0,0)) zq15 hb);have n1_:=zM (below_step zq10 hb);clear BK300;clear HB;have BK300:=n0_;have HB:=n1_;clear n0_ n1_;(try clear hb);(try clear hb2);(try clear hk);(try clear hi)));try go_wp2_with (first|(go_at_call 48;(with_reducible refine(impl_Ring_place.calls a0_0 _ _ l0_1 a0_0 t307 _ ?side1 ?side2 A27.out).mono ?_);(case side1=>exact zq11);(case side2=>exact HC0_1.out);rintro e w32 ⟨rfl,hb⟩;have n0_:=zM (blk_below (g:=gb300) (o:=.cells #[.int .i64 a0_0,.slice A0_1 l0_1.length c0_1] 35 (0,0)) zq15 hb);have n1_:=zM (below_step zq10 hb);clear BK300;clear HB;have BK300:=n0_;have HB:=n1_;clear n0_ n1_;(try clear hb);(try clear hb2);(try clear hk);(try clear hi))))
         go_ret
         exact⟨zq3,zq10⟩
 ·replace c3:=Bool.eq_false_iff.mpr c3
  subst c3
  have H1:(some 2)=some r:=by rw[if_neg (show ¬ (false=true) by decide)] at H;exact H
  clear H
  have H:=H1
  clear H1
  obtain rfl:=Option.some.inj H
  go_enter Try.func25,Try.ntmps25
  go_wp2_with (first|((with_reducible refine gate_dst (N:=1) rfl ?_);refine box_event ?hg (N:=1) ?hd (cs:=#[.int .i64 a0_0,.slice A0_1 l0_1.length c0_1]) (t:=35) ?hr ?_;(case hd=>rfl);(case hg=>rfl);(case hr=>first|(go_simp;done)|(go_simp;rfl));intro gb300 hg w33 hbox hb;have n0_:=zM (below_step zq0 hb);have n1_:=zM (hbox);have n2_:=zM ((by rw[hg];exact(below_size zq0):w.heap.size≤gb300));have n3_:=zM ((by rw[hg];exact(below_size zq0):w.heap.size≤gb300));clear HB;have HB:=n0_;have BK300:=n1_;have GW300:=n2_;have GE300:=n3_;clear n0_ n1_ n2_ n3_;clear hb hbox hg;have hcz34_0:w33.cell? ⟨gb300,0,none⟩=some (.int .i64 a0_0):=(blk_cell BK300.out 0).trans rfl;have hcz34_1:w33.cell? ⟨gb300,1,none⟩=some (.slice A0_1 l0_1.length c0_1):=(blk_cell BK300.out 1).trans rfl;have hfz34_0:=blk_frozen BK300.out 0;have hfz34_1:=blk_frozen BK300.out 1)|(go_at_call 46;(with_reducible refine(impl_in.calls (l0_1.length:Int) 1 3 false _ A2.out).mono ?_);rintro e w' ⟨rfl,⟨nd,rfl⟩⟩;(try first|exact⟨rfl,_,World.drewN_drewN _ _ _⟩|exact⟨rfl,_,Eq.trans (World.drewN_drewN _ _ _) (congrArg (World.drewN _) (Nat.add_assoc _ _ _))⟩)))
  repeat (go_quiet (first|((with_reducible refine gate_dst (N:=1) rfl ?_);refine box_event ?hg (N:=1) ?hd (cs:=#[.int .i64 a0_0,.slice A0_1 l0_1.length c0_1]) (t:=35) ?hr ?_;(case hd=>rfl);(case hg=>rfl);(case hr=>first|(go_simp;done)|(go_simp;rfl));intro gb300 hg w33 hbox hb;have n0_:=zM (below_step zq0 hb);have n1_:=zM (hbox);have n2_:=zM ((by rw[hg];exact(below_size zq0):w.heap.size≤gb300));have n3_:=zM ((by rw[hg];exact(below_size zq0):w.heap.size≤gb300));clear HB;have HB:=n0_;have BK300:=n1_;have GW300:=n2_;have GE300:=n3_;clear n0_ n1_ n2_ n3_;clear hb hbox hg;have hcz34_0:w33.cell? ⟨gb300,0,none⟩=some (.int .i64 a0_0):=(blk_cell BK300.out 0).trans rfl;have hcz34_1:w33.cell? ⟨gb300,1,none⟩=some (.slice A0_1 l0_1.length c0_1):=(blk_cell BK300.out 1).trans rfl;have hfz34_0:=blk_frozen BK300.out 0;have hfz34_1:=blk_frozen BK300.out 1)|(go_at_call 46;(with_reducible refine(impl_in.calls (l0_1.length:Int) 1 3 false _ A2.out).mono ?_);rintro e w' ⟨rfl,⟨nd,rfl⟩⟩;(try first|exact⟨rfl,_,World.drewN_drewN _ _ _⟩|exact⟨rfl,_,Eq.trans (World.drewN_drewN _ _ _) (congrArg (World.drewN _) (Nat.add_assoc _ _ _))⟩)));try go_wp2_with (first|((with_reducible refine gate_dst (N:=1) rfl ?_);refine box_event ?hg (N:=1) ?hd (cs:=#[.int .i64 a0_0,.slice A0_1 l0_1.length c0_1]) (t:=35) ?hr ?_;(case hd=>rfl);(case hg=>rfl);(case hr=>first|(go_simp;done)|(go_simp;rfl));intro gb300 hg w33 hbox hb;have n0_:=zM (below_step zq0 hb);have n1_:=zM (hbox);have n2_:=zM ((by rw[hg];exact(below_size zq0):w.heap.size≤gb300));have n3_:=zM ((by rw[hg];exact(below_size zq0):w.heap.size≤gb300));clear HB;have HB:=n0_;have BK300:=n1_;have GW300:=n2_;have GE300:=n3_;clear n0_ n1_ n2_ n3_;clear hb hbox hg;have hcz34_0:w33.cell? ⟨gb300,0,none⟩=some (.int .i64 a0_0):=(blk_cell BK300.out 0).trans rfl;have hcz34_1:w33.cell? ⟨gb300,1,none⟩=some (.slice A0_1 l0_1.length c0_1):=(blk_cell BK300.out 1).trans rfl;have hfz34_0:=blk_frozen BK300.out 0;have hfz34_1:=blk_frozen BK300.out 1)|(go_at_call 46;(with_reducible refine(impl_in.calls (l0_1.length:Int) 1 3 false _ A2.out).mono ?_);rintro e w' ⟨rfl,⟨nd,rfl⟩⟩;(try first|exact⟨rfl,_,World.drewN_drewN _ _ _⟩|exact⟨rfl,_,Eq.trans (World.drewN_drewN _ _ _) (congrArg (World.drewN _) (Nat.add_assoc _ _ _))⟩))))
  go_ret
  exact⟨zq3,zq10⟩
end Go.Proofs.Ytdbanjdnjhflcaa.All
