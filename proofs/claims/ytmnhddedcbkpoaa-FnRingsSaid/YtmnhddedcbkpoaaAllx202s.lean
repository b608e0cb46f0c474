-- Laid by wip/shake.py of this repo out of this claim's texts. Not trusted: Lean checks it.
import Derived.Test.YtmnhddedcbkpoaaAb0s
import Derived.Test.YtmnhddedcbkpoaaBytes
import Derived.Test.YtmnhddedcbkpoaaAllx24s
namespace Go.Proofs.Ytmnhddedcbkpoaa.All
open Go.Proofs.YtmnhddedcbkpoaaW.PrintWords.Aside0 renaming mk→zM
open Go.RowKit Go.Proofs.YtmnhddedcbkpoaaW.PrintWords Go.Proofs.YtmnhddedcbkpoaaW.PrintLast Go.Proofs.YtmnhddedcbkpoaaW.PrintMore
attribute [local go_sem] max2_int min2_int max_two min_two max_three min_three max_four min_four
set_option linter.unusedVariables false
set_option linter.unusedSimpArgs false
mutual
def impl_RingFault.l0:Nat→List (S25)→Int→Int→Int→List (S25)→Option (Int)
 | 0,_,_,_,_,_=>none
 | k+1,x13,x14,x15,x148000,x148001=>if x15 < x14 then (if 0≤x15 then (if x15 < (x13.length:Int) then ((impl_Key_fault.f ((rd_T25 x13 x15).f0) ((rd_T25 x13 x15).f1)).bind fun t151=>(if t151=0 then (impl_RingFault.l0 k x13 x14 (wrap64 (x15+1)) x148000 x148001) else (some t151))) else (none)) else (none)) else (impl_RingFault.l1 k 1 x148000 x148001)
def impl_RingFault.l1:Nat→Int→Int→List (S25)→Option (Int)
 | 0,_,_,_=>none
 | k+1,x6,x148000,x148001=>if x6 < (x148001.length:Int) then (if 0≤(wrap64 (x6 - 1)) then (if (wrap64 (x6 - 1)) < (x148001.length:Int) then (if 0≤x6 then (if ((rd_T25 x148001 (wrap64 (x6 - 1))).f0) ≥ ((rd_T25 x148001 x6).f0) then (some 1) else (impl_RingFault.l1 k (wrap64 (x6+1)) x148000 x148001)) else (none)) else (none)) else (none)) else ((impl_Ring_place.f x148000 x148001 x148000).bind fun t154=>(if t154 < 0 then (some 4) else (some 0)))
end
def impl_RingFault.f (k:Nat) (a0_0:Int) (l0_1:List (S25)):Option (Int):=(impl_in.f (l0_1.length:Int) 1 3).bind fun t148=>(if t148=true then (impl_RingFault.l0 k l0_1 (l0_1.length:Int) 0 a0_0 l0_1) else (some 2))
theorem impl_RingFault.mono_l:∀ k,(∀ y0 y1 y2 y3 y4,LeO (impl_RingFault.l0 k y0 y1 y2 y3 y4) (impl_RingFault.l0 (k+1) y0 y1 y2 y3 y4))∧(∀ y0 y1 y2,LeO (impl_RingFault.l1 k y0 y1 y2) (impl_RingFault.l1 (k+1) y0 y1 y2))
 | 0=>⟨fun _ _ _ _ _ r h=>by simp[impl_RingFault.l0] at h,fun _ _ _ r h=>by simp[impl_RingFault.l1] at h⟩
 | k+1=>by
  obtain⟨ih0,ih1⟩:=impl_RingFault.mono_l k
  refine⟨?_,?_⟩
  ·intro y0 y1 y2 y3 y4
   unfold impl_RingFault.l0
   repeat' first
   | (with_reducible exact ih0 _ _ _ _ _)
   | (with_reducible exact ih1 _ _ _)
   | (with_reducible exact LeO.refl _)
   | (with_reducible exact LeO.none _)
   | (with_reducible refine LeO.ite ?_ ?_)
   | (with_reducible refine LeO.bind ?_ (fun _=>?_))
   | exact ih0 _ _ _ _ _
   | exact ih1 _ _ _
   | exact LeO.none _
   | refine LeO.ite ?_ ?_
   | refine LeO.bind ?_ (fun _=>?_)
  ·intro y0 y1 y2
   unfold impl_RingFault.l1
   repeat' first
   | (with_reducible exact ih0 _ _ _ _ _)
   | (with_reducible exact ih1 _ _ _)
   | (with_reducible exact LeO.refl _)
   | (with_reducible exact LeO.none _)
   | (with_reducible refine LeO.ite ?_ ?_)
   | (with_reducible refine LeO.bind ?_ (fun _=>?_))
   | exact ih0 _ _ _ _ _
   | exact ih1 _ _ _
   | exact LeO.none _
   | refine LeO.ite ?_ ?_
   | refine LeO.bind ?_ (fun _=>?_)
theorem impl_RingFault.mono:∀ a0 a1 k,LeO (impl_RingFault.f k a0 a1) (impl_RingFault.f (k+1) a0 a1):=by
 intro a0 a1 k
 obtain⟨ih0,ih1⟩:=impl_RingFault.mono_l k
 unfold impl_RingFault.f
 repeat' first
   | (with_reducible exact ih0 _ _ _ _ _)
   | (with_reducible exact ih1 _ _ _)
   | (with_reducible exact LeO.refl _)
   | (with_reducible exact LeO.none _)
   | (with_reducible refine LeO.ite ?_ ?_)
   | (with_reducible refine LeO.bind ?_ (fun _=>?_))
   | exact ih0 _ _ _ _ _
   | exact ih1 _ _ _
   | exact LeO.none _
   | refine LeO.ite ?_ ?_
   | refine LeO.bind ?_ (fun _=>?_)
set_option maxHeartbeats 8000000 in
set_option maxRecDepth 100000 in
theorem impl_RingFault.calls (k:Nat) (a0_0:Int) (A0_1:Option Addr) (c0_1:Nat) (l0_1:List (S25)) (r:Int) (w:World) (hr0_1:Kd.C k25 w A0_1 l0_1.length l0_1) (hc0_1:l0_1.length≤c0_1) (h:impl_RingFault.f k a0_0 l0_1=some r) :
  Calls Try.prog 25 #[.agg #[.int .i64 a0_0,.slice A0_1 l0_1.length c0_1]] w fun e w'=>e=.returned (.int .i64 r)∧Below w.heap.size w w':=by
 have hu29:=Try.underlying29
 have hu25:=Try.underlying25
 have HR0_1:=zM hr0_1
 have HC0_1:=zM hc0_1
 clear hr0_1 hc0_1
 have HB:=zM (Below.refl w.heap.size w)
 have H:((impl_in.f (l0_1.length:Int) 1 3).bind fun t148=>(if t148=true then (impl_RingFault.l0 k l0_1 (l0_1.length:Int) 0 a0_0 l0_1) else (some 2)))=some r:=h
 clear h
 replace H:=Option.bind_eq_some_iff.mp H
 obtain⟨t148,A20,H⟩:=H
 replace H:(if t148=true then (impl_RingFault.l0 k l0_1 (l0_1.length:Int) 0 a0_0 l0_1) else (some 2))=some r:=H
 have A2:=zM A20
 clear A20
 by_cases c3:t148=true
 ·subst c3
  have H1:(impl_RingFault.l0 k l0_1 (l0_1.length:Int) 0 a0_0 l0_1)=some r:=by rw[if_pos rfl] at H;exact H
  clear H
  have H:=H1
  clear H1
  have H':=zM H
  clear H
  go_enter Try.func25,Try.ntmps25
  go_wp2_with (first|((with_reducible refine gate_dst (N:=1) rfl ?_);refine box_event ?hg (N:=1) ?hd (cs:=#[.int .i64 a0_0,.slice A0_1 l0_1.length c0_1]) (t:=29) ?hr ?_;(case hd=>rfl);(case hg=>rfl);(case hr=>first|(go_simp;done)|(go_simp;rfl));intro gb147 hg w4 hbox hb;have n0_:=zM (below_step zq0 hb);have n1_:=zM (hbox);have n2_:=zM ((by rw[hg];exact(below_size zq0):w.heap.size≤gb147));have n3_:=zM ((by rw[hg];exact(below_size zq0):w.heap.size≤gb147));clear HB;have HB:=n0_;have BK147:=n1_;have GW147:=n2_;have GE147:=n3_;clear n0_ n1_ n2_ n3_;clear hb hbox hg;have hcz5_0:w4.cell? ⟨gb147,0,none⟩=some (.int .i64 a0_0):=(blk_cell BK147.out 0).trans rfl;have hcz5_1:w4.cell? ⟨gb147,1,none⟩=some (.slice A0_1 l0_1.length c0_1):=(blk_cell BK147.out 1).trans rfl;have hfz5_0:=blk_frozen BK147.out 0;have hfz5_1:=blk_frozen BK147.out 1)|(go_at_call 65;(with_reducible refine(impl_in.calls (l0_1.length:Int) 1 3 true _ A2.out).mono ?_);rintro e w' ⟨rfl,⟨nd,rfl⟩⟩;(try first|exact⟨rfl,_,World.drewN_drewN _ _ _⟩|exact⟨rfl,_,Eq.trans (World.drewN_drewN _ _ _) (congrArg (World.drewN _) (Nat.add_assoc _ _ _))⟩)))
  repeat (go_quiet (first|((with_reducible refine gate_dst (N:=1) rfl ?_);refine box_event ?hg (N:=1) ?hd (cs:=#[.int .i64 a0_0,.slice A0_1 l0_1.length c0_1]) (t:=29) ?hr ?_;(case hd=>rfl);(case hg=>rfl);(case hr=>first|(go_simp;done)|(go_simp;rfl));intro gb147 hg w4 hbox hb;have n0_:=zM (below_step zq0 hb);have n1_:=zM (hbox);have n2_:=zM ((by rw[hg];exact(below_size zq0):w.heap.size≤gb147));have n3_:=zM ((by rw[hg];exact(below_size zq0):w.heap.size≤gb147));clear HB;have HB:=n0_;have BK147:=n1_;have GW147:=n2_;have GE147:=n3_;clear n0_ n1_ n2_ n3_;clear hb hbox hg;have hcz5_0:w4.cell? ⟨gb147,0,none⟩=some (.int .i64 a0_0):=(blk_cell BK147.out 0).trans rfl;have hcz5_1:w4.cell? ⟨gb147,1,none⟩=some (.slice A0_1 l0_1.length c0_1):=(blk_cell BK147.out 1).trans rfl;have hfz5_0:=blk_frozen BK147.out 0;have hfz5_1:=blk_frozen BK147.out 1)|(go_at_call 65;(with_reducible refine(impl_in.calls (l0_1.length:Int) 1 3 true _ A2.out).mono ?_);rintro e w' ⟨rfl,⟨nd,rfl⟩⟩;(try first|exact⟨rfl,_,World.drewN_drewN _ _ _⟩|exact⟨rfl,_,Eq.trans (World.drewN_drewN _ _ _) (congrArg (World.drewN _) (Nat.add_assoc _ _ _))⟩)));try go_wp2_with (first|((with_reducible refine gate_dst (N:=1) rfl ?_);refine box_event ?hg (N:=1) ?hd (cs:=#[.int .i64 a0_0,.slice A0_1 l0_1.length c0_1]) (t:=29) ?hr ?_;(case hd=>rfl);(case hg=>rfl);(case hr=>first|(go_simp;done)|(go_simp;rfl));intro gb147 hg w4 hbox hb;have n0_:=zM (below_step zq0 hb);have n1_:=zM (hbox);have n2_:=zM ((by rw[hg];exact(below_size zq0):w.heap.size≤gb147));have n3_:=zM ((by rw[hg];exact(below_size zq0):w.heap.size≤gb147));clear HB;have HB:=n0_;have BK147:=n1_;have GW147:=n2_;have GE147:=n3_;clear n0_ n1_ n2_ n3_;clear hb hbox hg;have hcz5_0:w4.cell? ⟨gb147,0,none⟩=some (.int .i64 a0_0):=(blk_cell BK147.out 0).trans rfl;have hcz5_1:w4.cell? ⟨gb147,1,none⟩=some (.slice A0_1 l0_1.length c0_1):=(blk_cell BK147.out 1).trans rfl;have hfz5_0:=blk_frozen BK147.out 0;have hfz5_1:=blk_frozen BK147.out 1)|(go_at_call 65;(with_reducible refine(impl_in.calls (l0_1.length:Int) 1 3 true _ A2.out).mono ?_);rintro e w' ⟨rfl,⟨nd,rfl⟩⟩;(try first|exact⟨rfl,_,World.drewN_drewN _ _ _⟩|exact⟨rfl,_,Eq.trans (World.drewN_drewN _ _ _) (congrArg (World.drewN _) (Nat.add_assoc _ _ _))⟩))))
  go_loopg [15] k (fun kq v15 w'=>∃ (x15_1:Int),v15=.int .i64 x15_1∧Aside0 (impl_RingFault.l0 kq l0_1 (l0_1.length:Int) x15_1 a0_0 l0_1=some r)∧Aside0 (kq≤k)∧Aside0 (w'.heap[gb147]?=some (.cells #[.int .i64 a0_0,(.slice A0_1 l0_1.length c0_1)] 29 (0,0)))∧Aside0 (Below w.heap.size w w'))
  case atStart=>exact⟨(0),zq53,H',⟨Nat.le_refl _⟩,⟨zq12⟩,⟨zq8⟩⟩
  case round=>
   clear H'
   try clear c2
   try clear p2
   try clear c3
   try clear hcz5_0
   try clear hcz5_1
   try clear hfz5_0
   try clear hfz5_1
   obtain⟨x15_1,rfl,HA,HK1,BK147,HB⟩:=hrel
   cases gk with
   | zero=>exact absurd HA.out (by simp[impl_RingFault.l0])
   | succ k1=>
    have H:=HA.out
    clear HA
    simp only[impl_RingFault.l0] at H
    by_cases c6:x15_1 < (l0_1.length:Int)
    ·rw[if_pos c6] at H
     have c6b0:decide (x15_1 < (l0_1.length:Int))=true:=decide_eq_true c6
     clear c6
     by_cases c7:0≤x15_1
     ·rw[if_pos c7] at H
      have c7b0:decide (0≤x15_1)=true:=decide_eq_true c7
      clear c7
      by_cases c8:x15_1 < (l0_1.length:Int)
      ·rw[if_pos c8] at H
       have c8b0:decide (x15_1 < (l0_1.length:Int))=true:=decide_eq_true c8
       clear c8
       replace H:=Option.bind_eq_some_iff.mp H
       obtain⟨t151,A90,H⟩:=H
       replace H:(if t151=0 then (impl_RingFault.l0 k1 l0_1 (l0_1.length:Int) (wrap64 (x15_1+1)) a0_0 l0_1) else (some t151))=some r:=H
       have A9:=zM A90
       clear A90
       by_cases c10:t151=0
       ·rw[if_pos c10] at H
        have c10b0:(t151 == 0)=true:=beq_iff_eq.mpr c10
        have c10b1:(t151 != 0)=false:=bne_eq_false_iff_eq.mpr c10
        clear c10
        have H':=zM H
        clear H
        have p149:0≤(x15_1:Int):=of_decide_eq_true zq23
        have q149:x15_1 < (l0_1.length:Int):=of_decide_eq_true zq23
        obtain⟨ad149,A149_1,c149_1,e149,hx149_0,hx149_1,hl149_1,hi149_1⟩:=at_T25 HR0_1.out x15_1 p149 q149
        cases e149
        replace hx149_0:=(HB.out.cell (World.block_lt_of_cell? w _ hx149_0)).trans hx149_0
        replace hx149_1:=(HB.out.cell (World.block_lt_of_cell? w _ hx149_1)).trans hx149_1
        have HR149_1:=zM hi149_1
        have HC149_1:=zM hl149_1
        clear hi149_1 hl149_1
        replace p149:=eq_true p149
        replace q149:=eq_true q149
        go_wp2_with (first|((with_reducible refine gate_dst (N:=4) rfl ?_);refine box_event ?hg (N:=4) ?hd (cs:=#[.int .i64 0,.slice none 0 0]) (t:=25) ?hr ?_;(case hd=>rfl);(case hg=>rfl);(case hr=>first|(go_simp;done)|(go_simp;rfl));intro gb150 hg w11 hbox hb;have n0_:=zM (blk_below (g:=gb147) (o:=.cells #[.int .i64 a0_0,.slice (some ad149) l0_1.length c0_1] 29 (0,0)) zq12 hb);have n1_:=zM (below_step zq8 hb);have n2_:=zM (hbox);have n3_:=zM ((by rw[hg];exact(below_size zq8):w.heap.size≤gb150));have n4_:=zM ((by rw[hg];exact(below_size zq8):w.heap.size≤gb150));have n5_:=zM ((by rw[hg];exact Nat.ne_of_lt (blk_lt (g:=gb147) (o:=.cells #[.int .i64 a0_0,.slice (some ad149) l0_1.length c0_1] 29 (0,0)) zq12):gb147≠gb150));have n6_:=zM ((by rw[hg];exact Nat.ne_of_gt (blk_lt (g:=gb147) (o:=.cells #[.int .i64 a0_0,.slice (some ad149) l0_1.length c0_1] 29 (0,0)) zq12):gb150≠gb147));clear BK147;clear HB;have BK147:=n0_;have HB:=n1_;have BK150:=n2_;have GW150:=n3_;have GE150:=n4_;have NB147_150:=n5_;have NB150_147:=n6_;clear n0_ n1_ n2_ n3_ n4_ n5_ n6_;clear hb hbox hg;have hnb12:=NB150_147.out;have hnc12:=NB147_150.out;have hcz13_0:w11.cell? ⟨gb150,0,none⟩=some (.int .i64 0):=(blk_cell BK150.out 0).trans rfl;have hcz13_1:w11.cell? ⟨gb150,1,none⟩=some (.slice none 0 0):=(blk_cell BK150.out 1).trans rfl;have hfz13_0:=blk_frozen BK150.out 0;have hfz13_1:=blk_frozen BK150.out 1)|(go_at_call 72;(with_reducible refine(impl_Key_fault.calls ((rd_T25 l0_1 x15_1).f0) _ _ ((rd_T25 l0_1 x15_1).f1) t151 _ ?side1 ?side2 A9.out).mono ?_);(case side1=>exact Kd.C_below HR149_1.out zq19);(case side2=>exact HC149_1.out);rintro e w14 ⟨rfl,hb⟩;have n0_:=zM (blk_below (g:=gb147) (o:=.cells #[.int .i64 a0_0,.slice (some ad149) l0_1.length c0_1] 29 (0,0)) zq24 hb);have n1_:=zM (blk_below (g:=gb150) (o:=.cells #[.int .i64 ((rd_T25 l0_1 x15_1).f0),.slice A149_1 ((rd_T25 l0_1 x15_1).f1).length c149_1] 25 (0,0)) zq14 hb);have n2_:=zM (below_step zq19 hb);clear BK147;clear BK150;clear HB;have BK147:=n0_;have BK150:=n1_;have HB:=n2_;clear n0_ n1_ n2_;(try clear hb);(try clear hb2);(try clear hk);(try clear hi)))
        repeat (go_quiet (first|((with_reducible refine gate_dst (N:=4) rfl ?_);refine box_event ?hg (N:=4) ?hd (cs:=#[.int .i64 0,.slice none 0 0]) (t:=25) ?hr ?_;(case hd=>rfl);(case hg=>rfl);(case hr=>first|(go_simp;done)|(go_simp;rfl));intro gb150 hg w11 hbox hb;have n0_:=zM (blk_below (g:=gb147) (o:=.cells #[.int .i64 a0_0,.slice (some ad149) l0_1.length c0_1] 29 (0,0)) zq12 hb);have n1_:=zM (below_step zq8 hb);have n2_:=zM (hbox);have n3_:=zM ((by rw[hg];exact(below_size zq8):w.heap.size≤gb150));have n4_:=zM ((by rw[hg];exact(below_size zq8):w.heap.size≤gb150));have n5_:=zM ((by rw[hg];exact Nat.ne_of_lt (blk_lt (g:=gb147) (o:=.cells #[.int .i64 a0_0,.slice (some ad149) l0_1.length c0_1] 29 (0,0)) zq12):gb147≠gb150));have n6_:=zM ((by rw[hg];exact Nat.ne_of_gt (blk_lt (g:=gb147) (o:=.cells #[.int .i64 a0_0,.slice (some ad149) l0_1.length c0_1] 29 (0,0)) zq12):gb150≠gb147));clear BK147;clear HB;have BK147:=n0_;have HB:=n1_;have BK150:=n2_;have GW150:=n3_;have GE150:=n4_;have NB147_150:=n5_;have NB150_147:=n6_;clear n0_ n1_ n2_ n3_ n4_ n5_ n6_;clear hb hbox hg;have hnb12:=NB150_147.out;have hnc12:=NB147_150.out;have hcz13_0:w11.cell? ⟨gb150,0,none⟩=some (.int .i64 0):=(blk_cell BK150.out 0).trans rfl;have hcz13_1:w11.cell? ⟨gb150,1,none⟩=some (.slice none 0 0):=(blk_cell BK150.out 1).trans rfl;have hfz13_0:=blk_frozen BK150.out 0;have hfz13_1:=blk_frozen BK150.out 1)|(go_at_call 72;(with_reducible refine(impl_Key_fault.calls ((rd_T25 l0_1 x15_1).f0) _ _ ((rd_T25 l0_1 x15_1).f1) t151 _ ?side1 ?side2 A9.out).mono ?_);(case side1=>exact Kd.C_below HR149_1.out zq19);(case side2=>exact HC149_1.out);rintro e w14 ⟨rfl,hb⟩;have n0_:=zM (blk_below (g:=gb147) (o:=.cells #[.int .i64 a0_0,.slice (some ad149) l0_1.length c0_1] 29 (0,0)) zq24 hb);have n1_:=zM (blk_below (g:=gb150) (o:=.cells #[.int .i64 ((rd_T25 l0_1 x15_1).f0),.slice A149_1 ((rd_T25 l0_1 x15_1).f1).length c149_1] 25 (0,0)) zq14 hb);have n2_:=zM (below_step zq19 hb);clear BK147;clear BK150;clear HB;have BK147:=n0_;have BK150:=n1_;have HB:=n2_;clear n0_ n1_ n2_;(try clear hb);(try clear hb2);(try clear hk);(try clear hi)));try go_wp2_with (first|((with_reducible refine gate_dst (N:=4) rfl ?_);refine box_event ?hg (N:=4) ?hd (cs:=#[.int .i64 0,.slice none 0 0]) (t:=25) ?hr ?_;(case hd=>rfl);(case hg=>rfl);(case hr=>first|(go_simp;done)|(go_simp;rfl));intro gb150 hg w11 hbox hb;have n0_:=zM (blk_below (g:=gb147) (o:=.cells #[.int .i64 a0_0,.slice (some ad149) l0_1.length c0_1] 29 (0,0)) zq12 hb);have n1_:=zM (below_step zq8 hb);have n2_:=zM (hbox);have n3_:=zM ((by rw[hg];exact(below_size zq8):w.heap.size≤gb150));have n4_:=zM ((by rw[hg];exact(below_size zq8):w.heap.size≤gb150));have n5_:=zM ((by rw[hg];exact Nat.ne_of_lt (blk_lt (g:=gb147) (o:=.cells #[.int .i64 a0_0,.slice (some ad149) l0_1.length c0_1] 29 (0,0)) zq12):gb147≠gb150));have n6_:=zM ((by rw[hg];exact Nat.ne_of_gt (blk_lt (g:=gb147) (o:=.cells #[.int .i64 a0_0,.slice (some ad149) l0_1.length c0_1] 29 (0,0)) zq12):gb150≠gb147));clear BK147;clear HB;have BK147:=n0_;have HB:=n1_;have BK150:=n2_;have GW150:=n3_;have GE150:=n4_;have NB147_150:=n5_;have NB150_147:=n6_;clear n0_ n1_ n2_ n3_ n4_ n5_ n6_;clear hb hbox hg;have hnb12:=NB150_147.out;have hnc12:=NB147_150.out;have hcz13_0:w11.cell? ⟨gb150,0,none⟩=some (.int .i64 0):=(blk_cell BK150.out 0).trans rfl;have hcz13_1:w11.cell? ⟨gb150,1,none⟩=some (.slice none 0 0):=(blk_cell BK150.out 1).trans rfl;have hfz13_0:=blk_frozen BK150.out 0;have hfz13_1:=blk_frozen BK150.out 1)|(go_at_call 72;(with_reducible refine(impl_Key_fault.calls ((rd_T25 l0_1 x15_1).f0) _ _ ((rd_T25 l0_1 x15_1).f1) t151 _ ?side1 ?side2 A9.out).mono ?_);(case side1=>exact Kd.C_below HR149_1.out zq19);(case side2=>exact HC149_1.out);rintro e w14 ⟨rfl,hb⟩;have n0_:=zM (blk_below (g:=gb147) (o:=.cells #[.int .i64 a0_0,.slice (some ad149) l0_1.length c0_1] 29 (0,0)) zq24 hb);have n1_:=zM (blk_below (g:=gb150) (o:=.cells #[.int .i64 ((rd_T25 l0_1 x15_1).f0),.slice A149_1 ((rd_T25 l0_1 x15_1).f1).length c149_1] 25 (0,0)) zq14 hb);have n2_:=zM (below_step zq19 hb);clear BK147;clear BK150;clear HB;have BK147:=n0_;have BK150:=n1_;have HB:=n2_;clear n0_ n1_ n2_;(try clear hb);(try clear hb2);(try clear hk);(try clear hi))))
        go_roundg k1
        case measure=>have:=HK1.out;omega
        case rel=>exact⟨(wrap64 (x15_1+1)),zq53,H',⟨by have:=HK1.out;omega⟩,⟨zq12⟩,⟨zq19⟩⟩
       ·rw[if_neg c10] at H
        have c10b0:(t151 == 0)=false:=beq_eq_false_iff_ne.mpr c10
        have c10b1:(t151 != 0)=true:=bne_iff_ne.mpr c10
        obtain rfl:=Option.some.inj H
        have p149:0≤(x15_1:Int):=of_decide_eq_true zq23
        have q149:x15_1 < (l0_1.length:Int):=of_decide_eq_true zq23
        obtain⟨ad149,A149_1,c149_1,e149,hx149_0,hx149_1,hl149_1,hi149_1⟩:=at_T25 HR0_1.out x15_1 p149 q149
        cases e149
        replace hx149_0:=(HB.out.cell (World.block_lt_of_cell? w _ hx149_0)).trans hx149_0
        replace hx149_1:=(HB.out.cell (World.block_lt_of_cell? w _ hx149_1)).trans hx149_1
        have HR149_1:=zM hi149_1
        have HC149_1:=zM hl149_1
        clear hi149_1 hl149_1
        replace p149:=eq_true p149
        replace q149:=eq_true q149
        go_wp2_with (first|((with_reducible refine gate_dst (N:=4) rfl ?_);refine box_event ?hg (N:=4) ?hd (cs:=#[.int .i64 0,.slice none 0 0]) (t:=25) ?hr ?_;(case hd=>rfl);(case hg=>rfl);(case hr=>first|(go_simp;done)|(go_simp;rfl));intro gb150 hg w15 hbox hb;have n0_:=zM (blk_below (g:=gb147) (o:=.cells #[.int .i64 a0_0,.slice (some ad149) l0_1.length c0_1] 29 (0,0)) zq12 hb);have n1_:=zM (below_step zq8 hb);have n2_:=zM (hbox);have n3_:=zM ((by rw[hg];exact(below_size zq8):w.heap.size≤gb150));have n4_:=zM ((by rw[hg];exact(below_size zq8):w.heap.size≤gb150));have n5_:=zM ((by rw[hg];exact Nat.ne_of_lt (blk_lt (g:=gb147) (o:=.cells #[.int .i64 a0_0,.slice (some ad149) l0_1.length c0_1] 29 (0,0)) zq12):gb147≠gb150));have n6_:=zM ((by rw[hg];exact Nat.ne_of_gt (blk_lt (g:=gb147) (o:=.cells #[.int .i64 a0_0,.slice (some ad149) l0_1.length c0_1] 29 (0,0)) zq12):gb150≠gb147));clear BK147;clear HB;have BK147:=n0_;have HB:=n1_;have BK150:=n2_;have GW150:=n3_;have GE150:=n4_;have NB147_150:=n5_;have NB150_147:=n6_;clear n0_ n1_ n2_ n3_ n4_ n5_ n6_;clear hb hbox hg;have hnb16:=NB150_147.out;have hnc16:=NB147_150.out;have hcz17_0:w15.cell? ⟨gb150,0,none⟩=some (.int .i64 0):=(blk_cell BK150.out 0).trans rfl;have hcz17_1:w15.cell? ⟨gb150,1,none⟩=some (.slice none 0 0):=(blk_cell BK150.out 1).trans rfl;have hfz17_0:=blk_frozen BK150.out 0;have hfz17_1:=blk_frozen BK150.out 1)|(go_at_call 72;(with_reducible refine(impl_Key_fault.calls ((rd_T25 l0_1 x15_1).f0) _ _ ((rd_T25 l0_1 x15_1).f1) t151 _ ?side1 ?side2 A9.out).mono ?_);(case side1=>exact Kd.C_below HR149_1.out zq19);(case side2=>exact HC149_1.out);rintro e w18 ⟨rfl,hb⟩;have n0_:=zM (blk_below (g:=gb147) (o:=.cells #[.int .i64 a0_0,.slice (some ad149) l0_1.length c0_1] 29 (0,0)) zq24 hb);have n1_:=zM (blk_below (g:=gb150) (o:=.cells #[.int .i64 ((rd_T25 l0_1 x15_1).f0),.slice A149_1 ((rd_T25 l0_1 x15_1).f1).length c149_1] 25 (0,0)) zq14 hb);have n2_:=zM (below_step zq19 hb);clear BK147;clear BK150;clear HB;have BK147:=n0_;have BK150:=n1_;have HB:=n2_;clear n0_ n1_ n2_;(try clear hb);(try clear hb2);(try clear hk);(try clear hi)))
        repeat (go_quiet (first|((with_reducible refine gate_dst (N:=4) rfl ?_);refine box_event ?hg (N:=4) ?hd (cs:=#[.int .i64 0,.slice none 0 0]) (t:=25) ?hr ?_;(case hd=>rfl);(case hg=>rfl);(case hr=>first|(go_simp;done)|(go_simp;rfl));intro gb150 hg w15 hbox hb;have n0_:=zM (blk_below (g:=gb147) (o:=.cells #[.int .i64 a0_0,.slice (some ad149) l0_1.length c0_1] 29 (0,0)) zq12 hb);have n1_:=zM (below_step zq8 hb);have n2_:=zM (hbox);have n3_:=zM ((by rw[hg];exact(below_size zq8):w.heap.size≤gb150));have n4_:=zM ((by rw[hg];exact(below_size zq8):w.heap.size≤gb150));have n5_:=zM ((by rw[hg];exact Nat.ne_of_lt (blk_lt (g:=gb147) (o:=.cells #[.int .i64 a0_0,.slice (some ad149) l0_1.length c0_1] 29 (0,0)) zq12):gb147≠gb150));have n6_:=zM ((by rw[hg];exact Nat.ne_of_gt (blk_lt (g:=gb147) (o:=.cells #[.int .i64 a0_0,.slice (some ad149) l0_1.length c0_1] 29 (0,0)) zq12):gb150≠gb147));clear BK147;clear HB;have BK147:=n0_;have HB:=n1_;have BK150:=n2_;have GW150:=n3_;have GE150:=n4_;have NB147_150:=n5_;have NB150_147:=n6_;clear n0_ n1_ n2_ n3_ n4_ n5_ n6_;clear hb hbox hg;have hnb16:=NB150_147.out;have hnc16:=NB147_150.out;have hcz17_0:w15.cell? ⟨gb150,0,none⟩=some (.int .i64 0):=(blk_cell BK150.out 0).trans rfl;have hcz17_1:w15.cell? ⟨gb150,1,none⟩=some (.slice none 0 0):=(blk_cell BK150.out 1).trans rfl;have hfz17_0:=blk_frozen BK150.out 0;have hfz17_1:=blk_frozen BK150.out 1)|(go_at_call 72;(with_reducible refine(impl_Key_fault.calls ((rd_T25 l0_1 x15_1).f0) _ _ ((rd_T25 l0_1 x15_1).f1) t151 _ ?side1 ?side2 A9.out).mono ?_);(case side1=>exact Kd.C_below HR149_1.out zq19);(case side2=>exact HC149_1.out);rintro e w18 ⟨rfl,hb⟩;have n0_:=zM (blk_below (g:=gb147) (o:=.cells #[.int .i64 a0_0,.slice (some ad149) l0_1.length c0_1] 29 (0,0)) zq24 hb);have n1_:=zM (blk_below (g:=gb150) (o:=.cells #[.int .i64 ((rd_T25 l0_1 x15_1).f0),.slice A149_1 ((rd_T25 l0_1 x15_1).f1).length c149_1] 25 (0,0)) zq14 hb);have n2_:=zM (below_step zq19 hb);clear BK147;clear BK150;clear HB;have BK147:=n0_;have BK150:=n1_;have HB:=n2_;clear n0_ n1_ n2_;(try clear hb);(try clear hb2);(try clear hk);(try clear hi)));try go_wp2_with (first|((with_reducible refine gate_dst (N:=4) rfl ?_);refine box_event ?hg (N:=4) ?hd (cs:=#[.int .i64 0,.slice none 0 0]) (t:=25) ?hr ?_;(case hd=>rfl);(case hg=>rfl);(case hr=>first|(go_simp;done)|(go_simp;rfl));intro gb150 hg w15 hbox hb;have n0_:=zM (blk_below (g:=gb147) (o:=.cells #[.int .i64 a0_0,.slice (some ad149) l0_1.length c0_1] 29 (0,0)) zq12 hb);have n1_:=zM (below_step zq8 hb);have n2_:=zM (hbox);have n3_:=zM ((by rw[hg];exact(below_size zq8):w.heap.size≤gb150));have n4_:=zM ((by rw[hg];exact(below_size zq8):w.heap.size≤gb150));have n5_:=zM ((by rw[hg];exact Nat.ne_of_lt (blk_lt (g:=gb147) (o:=.cells #[.int .i64 a0_0,.slice (some ad149) l0_1.length c0_1] 29 (0,0)) zq12):gb147≠gb150));have n6_:=zM ((by rw[hg];exact Nat.ne_of_gt (blk_lt (g:=gb147) (o:=.cells #[.int .i64 a0_0,.slice (some ad149) l0_1.length c0_1] 29 (0,0)) zq12):gb150≠gb147));clear BK147;clear HB;have BK147:=n0_;have HB:=n1_;have BK150:=n2_;have GW150:=n3_;have GE150:=n4_;have NB147_150:=n5_;have NB150_147:=n6_;clear n0_ n1_ n2_ n3_ n4_ n5_ n6_;clear hb hbox hg;have hnb16:=NB150_147.out;have hnc16:=NB147_150.out;have hcz17_0:w15.cell? ⟨gb150,0,none⟩=some (.int .i64 0):=(blk_cell BK150.out 0).trans rfl;have hcz17_1:w15.cell? ⟨gb150,1,none⟩=some (.slice none 0 0):=(blk_cell BK150.out 1).trans rfl;have hfz17_0:=blk_frozen BK150.out 0;have hfz17_1:=blk_frozen BK150.out 1)|(go_at_call 72;(with_reducible refine(impl_Key_fault.calls ((rd_T25 l0_1 x15_1).f0) _ _ ((rd_T25 l0_1 x15_1).f1) t151 _ ?side1 ?side2 A9.out).mono ?_);(case side1=>exact Kd.C_below HR149_1.out zq19);(case side2=>exact HC149_1.out);rintro e w18 ⟨rfl,hb⟩;have n0_:=zM (blk_below (g:=gb147) (o:=.cells #[.int .i64 a0_0,.slice (some ad149) l0_1.length c0_1] 29 (0,0)) zq24 hb);have n1_:=zM (blk_below (g:=gb150) (o:=.cells #[.int .i64 ((rd_T25 l0_1 x15_1).f0),.slice A149_1 ((rd_T25 l0_1 x15_1).f1).length c149_1] 25 (0,0)) zq14 hb);have n2_:=zM (below_step zq19 hb);clear BK147;clear BK150;clear HB;have BK147:=n0_;have BK150:=n1_;have HB:=n2_;clear n0_ n1_ n2_;(try clear hb);(try clear hb2);(try clear hk);(try clear hi))))
        go_ret
        exact⟨zq10,zq19⟩
      ·rw[if_neg c8] at H
       exact absurd H zq58
     ·rw[if_neg c7] at H
      exact absurd H zq58
    ·rw[if_neg c6] at H
     have c6b0:decide (x15_1 < (l0_1.length:Int))=false:=decide_eq_false c6
     clear c6
     have H':=zM H
     clear H
     go_wp2
     repeat (go_quiet (fail);try go_wp2)
     go_loopg [6] k1 (fun kq v6 w'=>∃ (x6_2:Int),v6=.int .i64 x6_2∧Aside0 (impl_RingFault.l1 kq x6_2 a0_0 l0_1=some r)∧Aside0 (kq≤k1)∧Aside0 (w'.heap[gb147]?=some (.cells #[.int .i64 a0_0,(.slice A0_1 l0_1.length c0_1)] 29 (0,0)))∧Aside0 (Below w.heap.size w w'))
     case atStart=>exact⟨(1),zq53,H',⟨Nat.le_refl _⟩,⟨zq12⟩,⟨zq8⟩⟩
     case round=>
      clear H'
      try clear c1
      try clear p1
      try clear q1
      try clear hx1
      try clear c2
      try clear p2
      try clear c3
      try clear c6
      try clear c6b0
      try clear p6
      try clear c7
      try clear c7b0
      try clear c8
      try clear c8b0
      try clear c10
      try clear c10b0
      try clear c10b1
      try clear c12
      try clear c14
      try clear p14
      try clear q14
      try clear hx14
      try clear c16
      try clear hcz13_0
      try clear hcz13_1
      try clear hcz17_0
      try clear hcz17_1
      try clear hcz5_0
      try clear hcz5_1
      try clear hfz13_0
      try clear hfz13_1
      try clear hfz17_0
      try clear hfz17_1
      try clear hfz5_0
      try clear hfz5_1
      try clear hx149_0
      try clear hx149_1
      try clear p149
      try clear p2
      try clear q149
      obtain⟨x6_2,rfl,HA,HK2,BK147,HB⟩:=hrel
      cases gk with
      | zero=>exact absurd HA.out (by simp[impl_RingFault.l1])
      | succ k2=>
       have H:=HA.out
       clear HA
       simp only[impl_RingFault.l1] at H
       by_cases c19:x6_2 < (l0_1.length:Int)
       ·rw[if_pos c19] at H
        have c19b0:decide (x6_2 < (l0_1.length:Int))=true:=decide_eq_true c19
        clear c19
        obtain⟨ji20,hji20⟩:∃ j_:Int,(wrap64 (x6_2 - 1))=j_:=⟨_,rfl⟩
        replace H:(if 0≤(ji20) then (if (ji20) < (l0_1.length:Int) then (if 0≤x6_2 then (if ((rd_T25 l0_1 (ji20)).f0) ≥ ((rd_T25 l0_1 x6_2).f0) then (some 1) else (impl_RingFault.l1 k2 (wrap64 (x6_2+1)) a0_0 l0_1)) else (none)) else (none)) else (none))=some r:=by first|(rw[hji20] at H;exact H)|(simp only[hji20] at H ⊢;exact H)
        have hji20w:(IntKind.i64.wrap (x6_2 - 1))=ji20:=(i64_w _).trans hji20
        by_cases c21:0≤(ji20)
        ·rw[if_pos c21] at H
         have c21b0:decide (0≤(ji20))=true:=decide_eq_true c21
         clear c21
         by_cases c22:(ji20) < (l0_1.length:Int)
         ·rw[if_pos c22] at H
          have c22b0:decide ((ji20) < (l0_1.length:Int))=true:=decide_eq_true c22
          clear c22
          by_cases c23:0≤x6_2
          ·rw[if_pos c23] at H
           have c23b0:decide (0≤x6_2)=true:=decide_eq_true c23
           clear c23
           by_cases c24:((rd_T25 l0_1 (ji20)).f0) ≥ ((rd_T25 l0_1 x6_2).f0)
           ·rw[if_pos c24] at H
            have c24b0:decide (((rd_T25 l0_1 x6_2).f0)≤((rd_T25 l0_1 (ji20)).f0))=true:=decide_eq_true c24
            clear c24
            obtain rfl:=Option.some.inj H
            have hcz25_0:wr.cell? ⟨gb147,0,none⟩=some (.int .i64 a0_0):=(blk_cell BK147.out 0).trans rfl
            have hcz25_1:wr.cell? ⟨gb147,1,none⟩=some (.slice A0_1 l0_1.length c0_1):=(blk_cell BK147.out 1).trans rfl
            have hfz25_0:=blk_frozen BK147.out 0
            have hfz25_1:=blk_frozen BK147.out 1
            have p152:0≤((ji20):Int):=of_decide_eq_true zq23
            have q152:(ji20) < (l0_1.length:Int):=of_decide_eq_true zq23
            obtain⟨ad152,A152_1,c152_1,e152,hx152_0,hx152_1,hl152_1,hi152_1⟩:=at_T25 HR0_1.out (ji20) p152 q152
            cases e152
            replace hx152_0:=(HB.out.cell (World.block_lt_of_cell? w _ hx152_0)).trans hx152_0
            replace hx152_1:=(HB.out.cell (World.block_lt_of_cell? w _ hx152_1)).trans hx152_1
            have HR152_1:=zM hi152_1
            have HC152_1:=zM hl152_1
            clear hi152_1 hl152_1
            replace p152:=eq_true p152
            replace q152:=eq_true q152
            have p153:0≤(x6_2:Int):=of_decide_eq_true zq23
            have q153:x6_2 < (l0_1.length:Int):=of_decide_eq_true zq23
            obtain⟨ad153,A153_1,c153_1,e153,hx153_0,hx153_1,hl153_1,hi153_1⟩:=at_T25 HR0_1.out x6_2 p153 q153
            obtain rfl:ad152=ad153:=(by injection e153)
            replace hx153_0:=(HB.out.cell (World.block_lt_of_cell? w _ hx153_0)).trans hx153_0
            replace hx153_1:=(HB.out.cell (World.block_lt_of_cell? w _ hx153_1)).trans hx153_1
            have HR153_1:=zM hi153_1
            have HC153_1:=zM hl153_1
            clear hi153_1 hl153_1
            replace p153:=eq_true p153
            replace q153:=eq_true q153
            go_wp2
            repeat (go_quiet (fail);try go_wp2)
            go_ret
            exact⟨by first|rfl|(simp[errW_none,errW_some] <;> rfl)|(simp only[← hji20];first|rfl|(simp[errW_none,errW_some] <;> rfl))|(simp[*,errW_none,errW_some] <;> rfl),zq8⟩
           ·rw[if_neg c24] at H
            have c24b0:decide (((rd_T25 l0_1 x6_2).f0)≤((rd_T25 l0_1 (ji20)).f0))=false:=decide_eq_false c24
            clear c24
            have H':=zM H
            clear H
            have hcz26_0:wr.cell? ⟨gb147,0,none⟩=some (.int .i64 a0_0):=(blk_cell BK147.out 0).trans rfl
            have hcz26_1:wr.cell? ⟨gb147,1,none⟩=some (.slice A0_1 l0_1.length c0_1):=(blk_cell BK147.out 1).trans rfl
            have hfz26_0:=blk_frozen BK147.out 0
            have hfz26_1:=blk_frozen BK147.out 1
            have p152:0≤((ji20):Int):=of_decide_eq_true zq23
            have q152:(ji20) < (l0_1.length:Int):=of_decide_eq_true zq23
            obtain⟨ad152,A152_1,c152_1,e152,hx152_0,hx152_1,hl152_1,hi152_1⟩:=at_T25 HR0_1.out (ji20) p152 q152
            cases e152
            replace hx152_0:=(HB.out.cell (World.block_lt_of_cell? w _ hx152_0)).trans hx152_0
            replace hx152_1:=(HB.out.cell (World.block_lt_of_cell? w _ hx152_1)).trans hx152_1
            have HR152_1:=zM hi152_1
            have HC152_1:=zM hl152_1
            clear hi152_1 hl152_1
            replace p152:=eq_true p152
            replace q152:=eq_true q152
            have p153:0≤(x6_2:Int):=of_decide_eq_true zq23
            have q153:x6_2 < (l0_1.length:Int):=of_decide_eq_true zq23
            obtain⟨ad153,A153_1,c153_1,e153,hx153_0,hx153_1,hl153_1,hi153_1⟩:=at_T25 HR0_1.out x6_2 p153 q153
            obtain rfl:ad152=ad153:=(by injection e153)
            replace hx153_0:=(HB.out.cell (World.block_lt_of_cell? w _ hx153_0)).trans hx153_0
            replace hx153_1:=(HB.out.cell (World.block_lt_of_cell? w _ hx153_1)).trans hx153_1
            have HR153_1:=zM hi153_1
            have HC153_1:=zM hl153_1
            clear hi153_1 hl153_1
            replace p153:=eq_true p153
            replace q153:=eq_true q153
            go_wp2
            repeat (go_quiet (fail);try go_wp2)
            go_roundg k2
            case measure=>have:=HK1.out;have:=HK2.out;omega
            case rel=>exact⟨(wrap64 (x6_2+1)),zq53,H',⟨by have:=HK1.out;have:=HK2.out;omega⟩,⟨zq12⟩,⟨zq8⟩⟩
          ·rw[if_neg c23] at H
           exact absurd H zq58
         ·rw[if_neg c22] at H
          exact absurd H zq58
        ·rw[if_neg c21] at H
         exact absurd H zq58
       ·rw[if_neg c19] at H
        have c19b0:decide (x6_2 < (l0_1.length:Int))=false:=decide_eq_false c19
        clear c19
        replace H:=Option.bind_eq_some_iff.mp H
        obtain⟨t154,A270,H⟩:=H
        replace H:(if t154 < 0 then (some 4) else (some 0))=some r:=H
        have A27:=zM A270
        clear A270
        by_cases c28:t154 < 0
        ·rw[if_pos c28] at H
         have c28b0:decide (t154 < 0)=true:=decide_eq_true c28
         clear c28
         obtain rfl:=Option.some.inj H
         have hcz29_0:wr.cell? ⟨gb147,0,none⟩=some (.int .i64 a0_0):=(blk_cell BK147.out 0).trans rfl
         have hcz29_1:wr.cell? ⟨gb147,1,none⟩=some (.slice A0_1 l0_1.length c0_1):=(blk_cell BK147.out 1).trans rfl
         have hfz29_0:=blk_frozen BK147.out 0
         have hfz29_1:=blk_frozen BK147.out 1
         go_wp2_with (first|(go_at_call 73;(with_reducible refine(impl_Ring_place.calls a0_0 _ _ l0_1 a0_0 t154 _ ?side1 ?side2 A27.out).mono ?_);(case side1=>exact zq16);(case side2=>exact HC0_1.out);rintro e w30 ⟨rfl,hb⟩;have n0_:=zM (blk_below (g:=gb147) (o:=.cells #[.int .i64 a0_0,.slice A0_1 l0_1.length c0_1] 29 (0,0)) zq12 hb);have n1_:=zM (below_step zq8 hb);clear BK147;clear HB;have BK147:=n0_;have HB:=n1_;clear n0_ n1_;(try clear hb);(try clear hb2);(try clear hk);(try clear hi)))
         repeat (go_quiet (first|(go_at_call 73;(with_reducible refine(impl_Ring_place.calls a0_0 _ _ l0_1 a0_0 t154 _ ?side1 ?side2 A27.out).mono ?_);(case side1=>exact zq16);(case side2=>exact HC0_1.out);rintro e w30 ⟨rfl,hb⟩;have n0_:=zM (blk_below (g:=gb147) (o:=.cells #[.int .i64 a0_0,.slice A0_1 l0_1.length c0_1] 29 (0,0)) zq12 hb);have n1_:=zM (below_step zq8 hb);clear BK147;clear HB;have BK147:=n0_;have HB:=n1_;clear n0_ n1_;(try clear hb);(try clear hb2);(try clear hk);(try clear hi)));try go_wp2_with (first|(go_at_call 73;(with_reducible refine(impl_Ring_place.calls a0_0 _ _ l0_1 a0_0 t154 _ ?side1 ?side2 A27.out).mono ?_);(case side1=>exact zq16);(case side2=>exact HC0_1.out);rintro e w30 ⟨rfl,hb⟩;have n0_:=zM (blk_below (g:=gb147) (o:=.cells #[.int .i64 a0_0,.slice A0_1 l0_1.length c0_1] 29 (0,0)) zq12 hb);have n1_:=zM (below_step zq8 hb);clear BK147;clear HB;have BK147:=n0_;have HB:=n1_;clear n0_ n1_;(try clear hb);(try clear hb2);(try clear hk);(try clear hi))))
         go_ret
         exact⟨zq10,zq8⟩
        ·rw[if_neg c28] at H
         have c28b0:decide (t154 < 0)=false:=decide_eq_false c28
         clear c28
         obtain rfl:=Option.some.inj H
         have hcz31_0:wr.cell? ⟨gb147,0,none⟩=some (.int .i64 a0_0):=(blk_cell BK147.out 0).trans rfl
         have hcz31_1:wr.cell? ⟨gb147,1,none⟩=some (.slice A0_1 l0_1.length c0_1):=(blk_cell BK147.out 1).trans rfl
         have hfz31_0:=blk_frozen BK147.out 0
         have hfz31_1:=blk_frozen BK147.out 1
         go_wp2_with (first|(go_at_call 73;(with_reducible refine(impl_Ring_place.calls a0_0 _ _ l0_1 a0_0 t154 _ ?side1 ?side2 A27.out).mono ?_);(case side1=>exact zq16);(case side2=>exact HC0_1.out);rintro e w32 ⟨rfl,hb⟩;have n0_:=zM (blk_below (g:=gb147) (o:=.cells #[.int .i64 a0_0,.slice A0_1 l0_1.length c0_1] 29 (0,0)) zq12 hb);have n1_:=zM (below_step zq8 hb);clear BK147;clear HB;have BK147:=n0_;have HB:=n1_;clear n0_ n1_;(try clear hb);(try clear hb2);(try clear hk);(try clear hi)))
         repeat (go_quiet (first|(go_at_call 73;(with_reducible refine(impl_Ring_place.calls a0_0 _ _ l0_1 a0_0 t154 _ ?side1 ?side2 A27.out).mono ?_);(case side1=>exact zq16);(case side2=>exact HC0_1.out);rintro e w32 ⟨rfl,hb⟩;have n0_:=zM (blk_below (g:=gb147) (o:=.cells #[.int .i64 a0_0,.slice A0_1 l0_1.length c0_1] 29 (0,0)) zq12 hb);have n1_:=zM (below_step zq8 hb);clear BK147;clear HB;have BK147:=n0_;have HB:=n1_;clear n0_ n1_;(try clear hb);(try clear hb2);(try clear hk);(try clear hi)));try go_wp2_with (first|(go_at_call 73;(with_reducible refine(impl_Ring_place.calls a0_0 _ _ l0_1 a0_0 t154 _ ?side1 ?side2 A27.out).mono ?_);(case side1=>exact zq16);(case side2=>exact HC0_1.out);rintro e w32 ⟨rfl,hb⟩;have n0_:=zM (blk_below (g:=gb147) (o:=.cells #[.int .i64 a0_0,.slice A0_1 l0_1.length c0_1] 29 (0,0)) zq12 hb);have n1_:=zM (below_step zq8 hb);clear BK147;clear HB;have BK147:=n0_;have HB:=n1_;clear n0_ n1_;(try clear hb);(try clear hb2);(try clear hk);(try clear hi))))
         go_ret
         exact⟨zq10,zq8⟩
 ·replace c3:=Bool.eq_false_iff.mpr c3
  subst c3
  have H1:(some 2)=some r:=by rw[if_neg (show ¬ (false=true) by decide)] at H;exact H
  clear H
  have H:=H1
  clear H1
  obtain rfl:=Option.some.inj H
  go_enter Try.func25,Try.ntmps25
  go_wp2_with (first|((with_reducible refine gate_dst (N:=1) rfl ?_);refine box_event ?hg (N:=1) ?hd (cs:=#[.int .i64 a0_0,.slice A0_1 l0_1.length c0_1]) (t:=29) ?hr ?_;(case hd=>rfl);(case hg=>rfl);(case hr=>first|(go_simp;done)|(go_simp;rfl));intro gb147 hg w33 hbox hb;have n0_:=zM (below_step zq0 hb);have n1_:=zM (hbox);have n2_:=zM ((by rw[hg];exact(below_size zq0):w.heap.size≤gb147));have n3_:=zM ((by rw[hg];exact(below_size zq0):w.heap.size≤gb147));clear HB;have HB:=n0_;have BK147:=n1_;have GW147:=n2_;have GE147:=n3_;clear n0_ n1_ n2_ n3_;clear hb hbox hg;have hcz34_0:w33.cell? ⟨gb147,0,none⟩=some (.int .i64 a0_0):=(blk_cell BK147.out 0).trans rfl;have hcz34_1:w33.cell? ⟨gb147,1,none⟩=some (.slice A0_1 l0_1.length c0_1):=(blk_cell BK147.out 1).trans rfl;have hfz34_0:=blk_frozen BK147.out 0;have hfz34_1:=blk_frozen BK147.out 1)|(go_at_call 65;(with_reducible refine(impl_in.calls (l0_1.length:Int) 1 3 false _ A2.out).mono ?_);rintro e w' ⟨rfl,⟨nd,rfl⟩⟩;(try first|exact⟨rfl,_,World.drewN_drewN _ _ _⟩|exact⟨rfl,_,Eq.trans (World.drewN_drewN _ _ _) (congrArg (World.drewN _) (Nat.add_assoc _ _ _))⟩)))
  repeat (go_quiet (first|((with_reducible refine gate_dst (N:=1) rfl ?_);refine box_event ?hg (N:=1) ?hd (cs:=#[.int .i64 a0_0,.slice A0_1 l0_1.length c0_1]) (t:=29) ?hr ?_;(case hd=>rfl);(case hg=>rfl);(case hr=>first|(go_simp;done)|(go_simp;rfl));intro gb147 hg w33 hbox hb;have n0_:=zM (below_step zq0 hb);have n1_:=zM (hbox);have n2_:=zM ((by rw[hg];exact(below_size zq0):w.heap.size≤gb147));have n3_:=zM ((by rw[hg];exact(below_size zq0):w.heap.size≤gb147));clear HB;have HB:=n0_;have BK147:=n1_;have GW147:=n2_;have GE147:=n3_;clear n0_ n1_ n2_ n3_;clear hb hbox hg;have hcz34_0:w33.cell? ⟨gb147,0,none⟩=some (.int .i64 a0_0):=(blk_cell BK147.out 0).trans rfl;have hcz34_1:w33.cell? ⟨gb147,1,none⟩=some (.slice A0_1 l0_1.length c0_1):=(blk_cell BK147.out 1).trans rfl;have hfz34_0:=blk_frozen BK147.out 0;have hfz34_1:=blk_frozen BK147.out 1)|(go_at_call 65;(with_reducible refine(impl_in.calls (l0_1.length:Int) 1 3 false _ A2.out).mono ?_);rintro e w' ⟨rfl,⟨nd,rfl⟩⟩;(try first|exact⟨rfl,_,World.drewN_drewN _ _ _⟩|exact⟨rfl,_,Eq.trans (World.drewN_drewN _ _ _) (congrArg (World.drewN _) (Nat.add_assoc _ _ _))⟩)));try go_wp2_with (first|((with_reducible refine gate_dst (N:=1) rfl ?_);refine box_event ?hg (N:=1) ?hd (cs:=#[.int .i64 a0_0,.slice A0_1 l0_1.length c0_1]) (t:=29) ?hr ?_;(case hd=>rfl);(case hg=>rfl);(case hr=>first|(go_simp;done)|(go_simp;rfl));intro gb147 hg w33 hbox hb;have n0_:=zM (below_step zq0 hb);have n1_:=zM (hbox);have n2_:=zM ((by rw[hg];exact(below_size zq0):w.heap.size≤gb147));have n3_:=zM ((by rw[hg];exact(below_size zq0):w.heap.size≤gb147));clear HB;have HB:=n0_;have BK147:=n1_;have GW147:=n2_;have GE147:=n3_;clear n0_ n1_ n2_ n3_;clear hb hbox hg;have hcz34_0:w33.cell? ⟨gb147,0,none⟩=some (.int .i64 a0_0):=(blk_cell BK147.out 0).trans rfl;have hcz34_1:w33.cell? ⟨gb147,1,none⟩=some (.slice A0_1 l0_1.length c0_1):=(blk_cell BK147.out 1).trans rfl;have hfz34_0:=blk_frozen BK147.out 0;have hfz34_1:=blk_frozen BK147.out 1)|(go_at_call 65;(with_reducible refine(impl_in.calls (l0_1.length:Int) 1 3 false _ A2.out).mono ?_);rintro e w' ⟨rfl,⟨nd,rfl⟩⟩;(try first|exact⟨rfl,_,World.drewN_drewN _ _ _⟩|exact⟨rfl,_,Eq.trans (World.drewN_drewN _ _ _) (congrArg (World.drewN _) (Nat.add_assoc _ _ _))⟩))))
  go_ret
  exact⟨zq10,zq8⟩
end Go.Proofs.Ytmnhddedcbkpoaa.All
