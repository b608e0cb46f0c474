-- Laid by wip/shake.py of this repo out of this claim's texts. Not trusted: Lean checks it.
import Derived.Test.YtmnhddedcbkpoaaAb0s
import Derived.Test.YtmnhddedcbkpoaaBytes
import Derived.Test.YtmnhddedcbkpoaaAllx516s
namespace Go.Proofs.Ytmnhddedcbkpoaa.All
open Go.Proofs.YtmnhddedcbkpoaaW.PrintWords.Aside0 renaming mk→zM
open Go.RowKit Go.Proofs.YtmnhddedcbkpoaaW.PrintWords Go.Proofs.YtmnhddedcbkpoaaW.PrintLast Go.Proofs.YtmnhddedcbkpoaaW.PrintMore
attribute [local go_sem] max2_int min2_int max_two min_two max_three min_three max_four min_four
set_option linter.unusedVariables false
set_option linter.unusedSimpArgs false
def impl_ownRing.l0:Nat→List (S25)→Int→Int→Int→List (S25)→Option (Int × (List (S25)))
 | 0,_,_,_,_,_=>none
 | k+1,x10,x11,x12,x163000,x163001=>if x12 < x11 then (if 0≤x12 then (if x12 < (x10.length:Int) then ((impl_ownKey.f ((rd_T25 x10 x12).f0) ((rd_T25 x10 x12).f1)).bind fun bt165=>(if x163001.length < 4398046511104 then (impl_ownRing.l0 k x10 x11 (wrap64 (x12+1)) x163000 (x163001 ++ [(⟨bt165.1,bt165.2⟩:S25)])) else (none))) else (none)) else (none)) else (some (x163000,x163001))
def impl_ownRing.f (k:Nat) (a0_0:Int) (l0_1:List (S25)):Option (Int × (List (S25))):=impl_ownRing.l0 k l0_1 (l0_1.length:Int) 0 a0_0 ([]:List (S25))
theorem impl_ownRing.mono_l:∀ k,(∀ y0 y1 y2 y3 y4,LeO (impl_ownRing.l0 k y0 y1 y2 y3 y4) (impl_ownRing.l0 (k+1) y0 y1 y2 y3 y4))
 | 0=>fun _ _ _ _ _ r h=>by simp[impl_ownRing.l0] at h
 | k+1=>by
  have ih0:=impl_ownRing.mono_l k
  ·intro y0 y1 y2 y3 y4
   unfold impl_ownRing.l0
   repeat' first
   | (with_reducible exact ih0 _ _ _ _ _)
   | (with_reducible exact LeO.refl _)
   | (with_reducible exact LeO.none _)
   | (with_reducible refine LeO.ite ?_ ?_)
   | (with_reducible refine LeO.bind ?_ (fun _=>?_))
   | exact ih0 _ _ _ _ _
   | exact LeO.none _
   | refine LeO.ite ?_ ?_
   | refine LeO.bind ?_ (fun _=>?_)
theorem impl_ownRing.mono:∀ a0 a1 k,LeO (impl_ownRing.f k a0 a1) (impl_ownRing.f (k+1) a0 a1):=by
 intro a0 a1 k
 have ih0:=impl_ownRing.mono_l k
 unfold impl_ownRing.f
 repeat' first
   | (with_reducible exact ih0 _ _ _ _ _)
   | (with_reducible exact LeO.refl _)
   | (with_reducible exact LeO.none _)
   | (with_reducible refine LeO.ite ?_ ?_)
   | (with_reducible refine LeO.bind ?_ (fun _=>?_))
   | exact ih0 _ _ _ _ _
   | exact LeO.none _
   | refine LeO.ite ?_ ?_
   | refine LeO.bind ?_ (fun _=>?_)
def impl_ownRing.T5:Bool × List (List Nat × List Nat):=(true,[([],[]),([0],[0]),([],[]),([2],[2]),([3],[3]),([1,4,3],[1,4]),([0,1,2,3,4,5],[]),([6,5,5,0,1,2,3,4,5],[5,6])])
def impl_ownRing.B5:List Nat:=[0,1,0,4,12,31,63,127]
theorem impl_ownRing.tab5:rtab .any (opsOf Try.f61 5)=impl_ownRing.T5:=by kernel_rfl
theorem impl_ownRing.bits5:waitsOk impl_ownRing.T5.2 impl_ownRing.B5=true:=by kernel_rfl
set_option maxHeartbeats 8000000 in
set_option maxRecDepth 100000 in
theorem impl_ownRing.calls (k:Nat) (a0_0:Int) (A0_1:Option Addr) (c0_1:Nat) (l0_1:List (S25)) (r1:Int) (r2:List (S25)) (w:World) (hr0_1:Kd.C k25 w A0_1 l0_1.length l0_1) (hc0_1:l0_1.length≤c0_1) (h:impl_ownRing.f k a0_0 l0_1=some (r1,r2)) :
  Calls Try.prog 61 #[.agg #[.int .i64 a0_0,.slice A0_1 l0_1.length c0_1]] w fun e w'=>∃ v1_:Value,e=.returned (.agg #[.int .i64 r1,v1_])∧Kd.S k25 25 w' w.heap.size (fun _=>True) v1_ r2∧Below w.heap.size w w':=by
 have hu29:=Try.underlying29
 have hu25:=Try.underlying25
 have HR0_1:=zM hr0_1
 have HC0_1:=zM hc0_1
 clear hr0_1 hc0_1
 have HB:=zM (Below.refl w.heap.size w)
 have H:(impl_ownRing.l0 k l0_1 (l0_1.length:Int) 0 a0_0 ([]:List (S25)))=some (r1,r2):=h
 clear h
 have H':=zM H
 clear H
 go_enter Try.func61,Try.ntmps61
 go_wp2_with (first|((with_reducible refine gate_dst (N:=1) rfl ?_);refine box_event ?hg (N:=1) ?hd (cs:=#[.int .i64 a0_0,.slice A0_1 l0_1.length c0_1]) (t:=29) ?hr ?_;(case hd=>rfl);(case hg=>rfl);(case hr=>first|(go_simp;done)|(go_simp;rfl));intro gb160 hg w2 hbox hb;have n0_:=zM (below_step zq0 hb);have n1_:=zM (hbox);have n2_:=zM ((by rw[hg];exact(below_size zq0):w.heap.size≤gb160));have n3_:=zM ((by rw[hg];exact(below_size zq0):w.heap.size≤gb160));clear HB;have HB:=n0_;have BK160:=n1_;have GW160:=n2_;have GE160:=n3_;clear n0_ n1_ n2_ n3_;clear hb hbox hg)|((with_reducible refine gate_dst (N:=2) rfl ?_);refine box_event ?hg (N:=2) ?hd (cs:=#[.int .i64 0,.slice none 0 0]) (t:=29) ?hr ?_;(case hd=>rfl);(case hg=>rfl);(case hr=>first|(go_simp;done)|(go_simp;rfl));intro gb161 hg w3 hbox hb;have n0_:=zM (blk_below (g:=gb160) (o:=.cells #[.int .i64 a0_0,.slice A0_1 l0_1.length c0_1] 29 (0,0)) zq35 hb);have n1_:=zM (below_step zq79 hb);have n2_:=zM (hbox);have n3_:=zM ((by rw[hg];exact(below_size zq79):w.heap.size≤gb161));have n4_:=zM ((by rw[hg];exact(below_size zq79):w.heap.size≤gb161));have n5_:=zM ((by rw[hg];exact Nat.ne_of_lt (blk_lt (g:=gb160) (o:=.cells #[.int .i64 a0_0,.slice A0_1 l0_1.length c0_1] 29 (0,0)) zq35):gb160≠gb161));have n6_:=zM ((by rw[hg];exact Nat.ne_of_gt (blk_lt (g:=gb160) (o:=.cells #[.int .i64 a0_0,.slice A0_1 l0_1.length c0_1] 29 (0,0)) zq35):gb161≠gb160));clear BK160;clear HB;have BK160:=n0_;have HB:=n1_;have BK161:=n2_;have GW161:=n3_;have GE161:=n4_;have NB160_161:=n5_;have NB161_160:=n6_;clear n0_ n1_ n2_ n3_ n4_ n5_ n6_;clear hb hbox hg;have hnb4:=NB160_161.out;have hnc4:=NB161_160.out;have hcz5_0:w3.cell? ⟨gb160,0,none⟩=some (.int .i64 a0_0):=(blk_cell BK160.out 0).trans rfl;have hcz5_1:w3.cell? ⟨gb160,1,none⟩=some (.slice A0_1 l0_1.length c0_1):=(blk_cell BK160.out 1).trans rfl;have hfz5_0:=blk_frozen BK160.out 0;have hfz5_1:=blk_frozen BK160.out 1)|((with_reducible refine gate_dst (N:=3) rfl ?_);refine box_event ?hg (N:=3) ?hd (cs:=#[.int .i64 0,.slice none 0 0]) (t:=29) ?hr ?_;(case hd=>rfl);(case hg=>rfl);(case hr=>first|(go_simp;done)|(go_simp;rfl));intro gb162 hg w6 hbox hb;have n0_:=zM (blk_below (g:=gb160) (o:=.cells #[.int .i64 a0_0,.slice A0_1 l0_1.length c0_1] 29 (0,0)) zq35 hb);have n1_:=zM (blk_below (g:=gb161) (o:=.cells #[.int .i64 0,.slice none 0 0] 29 (0,0)) zq45 hb);have n2_:=zM (below_step zq71 hb);have n3_:=zM (hbox);have n4_:=zM ((by rw[hg];exact(below_size zq71):w.heap.size≤gb162));have n5_:=zM ((by rw[hg];exact(below_size zq71):w.heap.size≤gb162));have n6_:=zM ((by rw[hg];exact Nat.ne_of_lt (blk_lt (g:=gb160) (o:=.cells #[.int .i64 a0_0,.slice A0_1 l0_1.length c0_1] 29 (0,0)) zq35):gb160≠gb162));have n7_:=zM ((by rw[hg];exact Nat.ne_of_gt (blk_lt (g:=gb160) (o:=.cells #[.int .i64 a0_0,.slice A0_1 l0_1.length c0_1] 29 (0,0)) zq35):gb162≠gb160));have n8_:=zM ((by rw[hg];exact Nat.ne_of_lt (blk_lt (g:=gb161) (o:=.cells #[.int .i64 0,.slice none 0 0] 29 (0,0)) zq45):gb161≠gb162));have n9_:=zM ((by rw[hg];exact Nat.ne_of_gt (blk_lt (g:=gb161) (o:=.cells #[.int .i64 0,.slice none 0 0] 29 (0,0)) zq45):gb162≠gb161));clear BK160;clear BK161;clear HB;have BK160:=n0_;have BK161:=n1_;have HB:=n2_;have BK162:=n3_;have GW162:=n4_;have GE162:=n5_;have NB160_162:=n6_;have NB162_160:=n7_;have NB161_162:=n8_;have NB162_161:=n9_;clear n0_ n1_ n2_ n3_ n4_ n5_ n6_ n7_ n8_ n9_;clear hb hbox hg;have hnb7:=NB162_160.out;have hnc7:=NB160_162.out;have hnb8:=NB162_161.out;have hnc8:=NB161_162.out;have hcz9_0:w6.cell? ⟨gb162,0,none⟩=some (.int .i64 0):=(blk_cell BK162.out 0).trans rfl;have hcz9_1:w6.cell? ⟨gb162,1,none⟩=some (.slice none 0 0):=(blk_cell BK162.out 1).trans rfl;have hfz9_0:=blk_frozen BK162.out 0;have hfz9_1:=blk_frozen BK162.out 1;have hcz10_0:w6.cell? ⟨gb160,0,none⟩=some (.int .i64 a0_0):=(blk_cell BK160.out 0).trans rfl;have hcz10_1:w6.cell? ⟨gb160,1,none⟩=some (.slice A0_1 l0_1.length c0_1):=(blk_cell BK160.out 1).trans rfl;have hfz10_0:=blk_frozen BK160.out 0;have hfz10_1:=blk_frozen BK160.out 1))
 go_loopg [12] k (fun kq v12 w'=>∃ (x12_1:Int) (x163001_1:List (S25)) (u163001:Value),v12=.int .i64 x12_1∧Aside0 (impl_ownRing.l0 kq l0_1 (l0_1.length:Int) x12_1 a0_0 x163001_1=some (r1,r2))∧Aside0 (kq≤k)∧Aside0 (Kd.S k25 25 w' w.heap.size (fun _=>True) u163001 x163001_1)∧Aside0 (w'.heap[gb160]?=some (.cells #[.int .i64 a0_0,(.slice A0_1 l0_1.length c0_1)] 29 (0,0)))∧Aside0 (w'.heap[gb161]?=some (.cells #[.int .i64 0,(.slice none 0 0)] 29 (0,0)))∧Aside0 (w'.heap[gb162]?=some (.cells #[.int .i64 a0_0,u163001] 29 (0,0)))∧Aside0 (Below w.heap.size w w'))
 case atStart=>exact⟨(0),(([]:List (S25))),(.slice none 0 0),zq53,H',⟨Nat.le_refl _⟩,⟨zq86⟩,⟨by(with_reducible repeat (first|refine blk_drewN ?_ _|refine blk_drew ?_|refine blk_alloc ?_ _));refine blk_far ?_ NB160_162.out _;(with_reducible repeat (first|refine blk_drewN ?_ _|refine blk_drew ?_|refine blk_alloc ?_ _));refine blk_far ?_ NB160_162.out _;(with_reducible repeat (first|refine blk_drewN ?_ _|refine blk_drew ?_|refine blk_alloc ?_ _));exact BK160.out⟩,⟨by(with_reducible repeat (first|refine blk_drewN ?_ _|refine blk_drew ?_|refine blk_alloc ?_ _));refine blk_far ?_ NB161_162.out _;(with_reducible repeat (first|refine blk_drewN ?_ _|refine blk_drew ?_|refine blk_alloc ?_ _));refine blk_far ?_ NB161_162.out _;(with_reducible repeat (first|refine blk_drewN ?_ _|refine blk_drew ?_|refine blk_alloc ?_ _));exact BK161.out⟩,⟨by(with_reducible repeat (first|refine blk_drewN ?_ _|refine blk_drew ?_|refine blk_alloc ?_ _));refine blk_put (cs:=#[.int .i64 a0_0,.slice none 0 0]) ?_ 1 _ rfl;(with_reducible repeat (first|refine blk_drewN ?_ _|refine blk_drew ?_|refine blk_alloc ?_ _));refine blk_put (cs:=#[.int .i64 0,.slice none 0 0]) ?_ 0 _ rfl;(with_reducible repeat (first|refine blk_drewN ?_ _|refine blk_drew ?_|refine blk_alloc ?_ _));exact BK162.out⟩,⟨zq67⟩⟩
 case round=>
  clear H'
  try clear p2
  try clear c4
  try clear c6
  try clear c7
  try clear c8
  try clear hcz10_0
  try clear hcz10_1
  try clear hcz5_0
  try clear hcz5_1
  try clear hcz9_0
  try clear hcz9_1
  try clear hfz10_0
  try clear hfz10_1
  try clear hfz5_0
  try clear hfz5_1
  try clear hfz9_0
  try clear hfz9_1
  obtain⟨x12_1,x163001_1,u163001,rfl,HA,HK1,HO_163001,BK160,BK161,BK162,HB⟩:=hrel
  cases gk with
  | zero=>exact absurd HA.out (by simp[impl_ownRing.l0])
  | succ k1=>
   have H:=HA.out
   clear HA
   simp only[impl_ownRing.l0] at H
   by_cases c11:x12_1 < (l0_1.length:Int)
   ·rw[if_pos c11] at H
    have c11b0:decide (x12_1 < (l0_1.length:Int))=true:=decide_eq_true c11
    clear c11
    by_cases c12:0≤x12_1
    ·rw[if_pos c12] at H
     have c12b0:decide (0≤x12_1)=true:=decide_eq_true c12
     clear c12
     by_cases c13:x12_1 < (l0_1.length:Int)
     ·rw[if_pos c13] at H
      have c13b0:decide (x12_1 < (l0_1.length:Int))=true:=decide_eq_true c13
      clear c13
      replace H:=Option.bind_eq_some_iff.mp H
      obtain⟨⟨t165,t166⟩,A140,H⟩:=H
      replace H:(if x163001_1.length < 4398046511104 then (impl_ownRing.l0 k1 l0_1 (l0_1.length:Int) (wrap64 (x12_1+1)) a0_0 (x163001_1 ++ [(⟨t165,t166⟩:S25)])) else (none))=some (r1,r2):=H
      have A14:=zM A140
      clear A140
      by_cases c15:x163001_1.length < 4398046511104
      ·rw[if_pos c15] at H
       have LMc15:=zM c15
       clear c15
       obtain⟨y169,hy169⟩:∃ y_:List (S25),y_=(x163001_1 ++ [(⟨t165,t166⟩:S25)]):=⟨_,rfl⟩
       replace H:(impl_ownRing.l0 k1 l0_1 (l0_1.length:Int) (wrap64 (x12_1+1)) a0_0 y169)=some (r1,r2):=by first|(rw[hy169];with_reducible exact H)|(have H2_:=(Option.bind_some _ _).symm.trans H;rw[hy169];with_reducible exact H2_)|(have H2_:=(Option.bind_some _ _).symm.trans H;with_reducible exact H2_)|with_reducible exact H|(rw[hy169];exact H)|exact H
       have Ny169:=zM hy169
       clear hy169
       have H':=zM H
       clear H
       have p163:0≤(x12_1:Int):=of_decide_eq_true zq23
       have q163:x12_1 < (l0_1.length:Int):=of_decide_eq_true zq23
       obtain⟨ad163,A163_1,c163_1,e163,hx163_0,hx163_1,hl163_1,hi163_1⟩:=at_T25 HR0_1.out x12_1 p163 q163
       cases e163
       replace hx163_0:=(HB.out.cell (World.block_lt_of_cell? w _ hx163_0)).trans hx163_0
       replace hx163_1:=(HB.out.cell (World.block_lt_of_cell? w _ hx163_1)).trans hx163_1
       have HR163_1:=zM hi163_1
       have HC163_1:=zM hl163_1
       clear hi163_1 hl163_1
       replace p163:=eq_true p163
       replace q163:=eq_true q163
       try go_wp2_with (first|((with_reducible refine gate_dst (N:=5) rfl ?_);refine box_event ?hg (N:=5) ?hd (cs:=#[.int .i64 0,.slice none 0 0]) (t:=25) ?hr ?_;(case hd=>rfl);(case hg=>rfl);(case hr=>first|(go_simp;done)|(go_simp;rfl));intro gb164 hg w16 hbox hb;have n0_:=zM (Kd.S_below (Kd.S_elderB zq109 gb164 (Nat.le_of_eq hg.symm)) hb);have n1_:=zM (blk_below (g:=gb160) (o:=.cells #[.int .i64 a0_0,.slice (some ad163) l0_1.length c0_1] 29 (0,0)) zq35 hb);have n2_:=zM (blk_below (g:=gb161) (o:=.cells #[.int .i64 0,.slice none 0 0] 29 (0,0)) zq45 hb);have n3_:=zM (blk_below (g:=gb162) (o:=.cells #[.int .i64 a0_0,u163001] 29 (0,0)) zq66 hb);have n4_:=zM (below_step zq67 hb);have n5_:=zM (hbox);have n6_:=zM ((by rw[hg];exact(below_size zq67):w.heap.size≤gb164));have n7_:=zM ((by rw[hg];exact(below_size zq67):w.heap.size≤gb164));have n8_:=zM ((by rw[hg];exact Nat.ne_of_lt (blk_lt (g:=gb160) (o:=.cells #[.int .i64 a0_0,.slice (some ad163) l0_1.length c0_1] 29 (0,0)) zq35):gb160≠gb164));have n9_:=zM ((by rw[hg];exact Nat.ne_of_gt (blk_lt (g:=gb160) (o:=.cells #[.int .i64 a0_0,.slice (some ad163) l0_1.length c0_1] 29 (0,0)) zq35):gb164≠gb160));have n10_:=zM ((by rw[hg];exact Nat.ne_of_lt (blk_lt (g:=gb161) (o:=.cells #[.int .i64 0,.slice none 0 0] 29 (0,0)) zq45):gb161≠gb164));have n11_:=zM ((by rw[hg];exact Nat.ne_of_gt (blk_lt (g:=gb161) (o:=.cells #[.int .i64 0,.slice none 0 0] 29 (0,0)) zq45):gb164≠gb161));have n12_:=zM ((by rw[hg];exact Nat.ne_of_lt (blk_lt (g:=gb162) (o:=.cells #[.int .i64 a0_0,u163001] 29 (0,0)) zq66):gb162≠gb164));have n13_:=zM ((by rw[hg];exact Nat.ne_of_gt (blk_lt (g:=gb162) (o:=.cells #[.int .i64 a0_0,u163001] 29 (0,0)) zq66):gb164≠gb162));clear HO_163001;clear BK160;clear BK161;clear BK162;clear HB;have HO_163001:=n0_;have BK160:=n1_;have BK161:=n2_;have BK162:=n3_;have HB:=n4_;have BK164:=n5_;have GW164:=n6_;have GE164:=n7_;have NB160_164:=n8_;have NB164_160:=n9_;have NB161_164:=n10_;have NB164_161:=n11_;have NB162_164:=n12_;have NB164_162:=n13_;clear n0_ n1_ n2_ n3_ n4_ n5_ n6_ n7_ n8_ n9_ n10_ n11_ n12_ n13_;clear hb hbox hg;have hnb17:=NB164_160.out;have hnc17:=NB160_164.out;have hnb18:=NB164_161.out;have hnc18:=NB161_164.out;have hnb19:=NB164_162.out;have hnc19:=NB162_164.out;have hcz20_0:w16.cell? ⟨gb164,0,none⟩=some (.int .i64 0):=(blk_cell BK164.out 0).trans rfl;have hcz20_1:w16.cell? ⟨gb164,1,none⟩=some (.slice none 0 0):=(blk_cell BK164.out 1).trans rfl;have hfz20_0:=blk_frozen BK164.out 0;have hfz20_1:=blk_frozen BK164.out 1))
       have n0_:Aside0 (Kd.S k25 25 ((w16.setCell ⟨gb164,0,none⟩ (.int .i64 ((rd_T25 l0_1 x12_1).f0))).setCell ⟨gb164,1,none⟩ (.slice A163_1 ((rd_T25 l0_1 x12_1).f1).length c163_1)) w.heap.size (fun k_=>k_≠gb164) u163001 x163001_1):=⟨by(with_reducible repeat (first|apply Kd.S_alloc|apply Kd.S_drewN|apply Kd.S_drew));exact Kd.S_mono (Kd.S_far (p:=⟨gb164,1,none⟩) (Kd.S_far (p:=⟨gb164,0,none⟩) (Kd.S_mono HO_163001.out (fun k_ hk=>(⟨hk,hk.2⟩:_∧k_≠gb164))) (fun _ hk=>hk.2) (.int .i64 ((rd_T25 l0_1 x12_1).f0))) (fun _ hk=>hk.2) (.slice A163_1 ((rd_T25 l0_1 x12_1).f1).length c163_1)) (fun _ hk=>hk.1.2)⟩
       have n1_:Aside0 (((w16.setCell ⟨gb164,0,none⟩ (.int .i64 ((rd_T25 l0_1 x12_1).f0))).setCell ⟨gb164,1,none⟩ (.slice A163_1 ((rd_T25 l0_1 x12_1).f1).length c163_1)).heap[gb160]?=some (.cells #[.int .i64 a0_0,.slice (some ad163) l0_1.length c0_1] 29 (0,0))):=⟨by(with_reducible repeat (first|refine blk_drewN ?_ _|refine blk_drew ?_|refine blk_alloc ?_ _));refine blk_far ?_ NB160_164.out _;(with_reducible repeat (first|refine blk_drewN ?_ _|refine blk_drew ?_|refine blk_alloc ?_ _));refine blk_far ?_ NB160_164.out _;(with_reducible repeat (first|refine blk_drewN ?_ _|refine blk_drew ?_|refine blk_alloc ?_ _));exact BK160.out⟩
       have n2_:Aside0 (((w16.setCell ⟨gb164,0,none⟩ (.int .i64 ((rd_T25 l0_1 x12_1).f0))).setCell ⟨gb164,1,none⟩ (.slice A163_1 ((rd_T25 l0_1 x12_1).f1).length c163_1)).heap[gb161]?=some (.cells #[.int .i64 0,.slice none 0 0] 29 (0,0))):=⟨by(with_reducible repeat (first|refine blk_drewN ?_ _|refine blk_drew ?_|refine blk_alloc ?_ _));refine blk_far ?_ NB161_164.out _;(with_reducible repeat (first|refine blk_drewN ?_ _|refine blk_drew ?_|refine blk_alloc ?_ _));refine blk_far ?_ NB161_164.out _;(with_reducible repeat (first|refine blk_drewN ?_ _|refine blk_drew ?_|refine blk_alloc ?_ _));exact BK161.out⟩
       have n3_:Aside0 (((w16.setCell ⟨gb164,0,none⟩ (.int .i64 ((rd_T25 l0_1 x12_1).f0))).setCell ⟨gb164,1,none⟩ (.slice A163_1 ((rd_T25 l0_1 x12_1).f1).length c163_1)).heap[gb162]?=some (.cells #[.int .i64 a0_0,u163001] 29 (0,0))):=⟨by(with_reducible repeat (first|refine blk_drewN ?_ _|refine blk_drew ?_|refine blk_alloc ?_ _));refine blk_far ?_ NB162_164.out _;(with_reducible repeat (first|refine blk_drewN ?_ _|refine blk_drew ?_|refine blk_alloc ?_ _));refine blk_far ?_ NB162_164.out _;(with_reducible repeat (first|refine blk_drewN ?_ _|refine blk_drew ?_|refine blk_alloc ?_ _));exact BK162.out⟩
       have n4_:Aside0 (((w16.setCell ⟨gb164,0,none⟩ (.int .i64 ((rd_T25 l0_1 x12_1).f0))).setCell ⟨gb164,1,none⟩ (.slice A163_1 ((rd_T25 l0_1 x12_1).f1).length c163_1)).heap[gb164]?=some (.cells #[.int .i64 ((rd_T25 l0_1 x12_1).f0),.slice A163_1 ((rd_T25 l0_1 x12_1).f1).length c163_1] 25 (0,0))):=⟨by(with_reducible repeat (first|refine blk_drewN ?_ _|refine blk_drew ?_|refine blk_alloc ?_ _));refine blk_put (cs:=#[.int .i64 ((rd_T25 l0_1 x12_1).f0),.slice none 0 0]) ?_ 1 _ rfl;(with_reducible repeat (first|refine blk_drewN ?_ _|refine blk_drew ?_|refine blk_alloc ?_ _));refine blk_put (cs:=#[.int .i64 0,.slice none 0 0]) ?_ 0 _ rfl;(with_reducible repeat (first|refine blk_drewN ?_ _|refine blk_drew ?_|refine blk_alloc ?_ _));exact BK164.out⟩
       have n5_:Aside0 (Below w.heap.size w ((w16.setCell ⟨gb164,0,none⟩ (.int .i64 ((rd_T25 l0_1 x12_1).f0))).setCell ⟨gb164,1,none⟩ (.slice A163_1 ((rd_T25 l0_1 x12_1).f1).length c163_1))):=⟨zq49⟩
       (try clear HO_163001)
       (try clear BK160)
       (try clear BK161)
       (try clear BK162)
       (try clear BK164)
       (try clear HB)
       generalize ((w16.setCell ⟨gb164,0,none⟩ (.int .i64 ((rd_T25 l0_1 x12_1).f0))).setCell ⟨gb164,1,none⟩ (.slice A163_1 ((rd_T25 l0_1 x12_1).f1).length c163_1))=w21 at n0_ n1_ n2_ n3_ n4_ n5_ ⊢
       have HO_163001:=n0_
       have BK160:=n1_
       have BK161:=n2_
       have BK162:=n3_
       have BK164:=n4_
       have HB:=n5_
       clear n0_ n1_ n2_ n3_ n4_ n5_
       have n0_:=zM (Kd.S_drew HO_163001.out)
       have n1_:=zM (blk_drew BK160.out)
       have n2_:=zM (blk_drew BK161.out)
       have n3_:=zM (blk_drew BK162.out)
       have n4_:=zM (blk_drew BK164.out)
       have n5_:=zM (below_drew1 HB.out)
       clear HO_163001
       clear BK160
       clear BK161
       clear BK162
       clear BK164
       clear HB
       have HO_163001:=n0_
       have BK160:=n1_
       have BK161:=n2_
       have BK162:=n3_
       have BK164:=n4_
       have HB:=n5_
       clear n0_ n1_ n2_ n3_ n4_ n5_
       refine start_ (n:=8) (S:=fun w'=>w'.cell? ⟨gb162,0,none⟩=some (.int .i64 a0_0)∧w'.cell? ⟨gb162,1,none⟩=some (u163001)∧w'.cell? ⟨gb164,0,none⟩=some (.int .i64 ((rd_T25 l0_1 x12_1).f0))∧w'.cell? ⟨gb164,1,none⟩=some (.slice A163_1 ((rd_T25 l0_1 x12_1).f1).length c163_1)) (ds:=[7]) #[false,false,false,false,false,false,false,false] (by kernel_rfl) rfl rfl ⟨(blk_cell BK162.out 0).trans rfl,(blk_cell BK162.out 1).trans rfl,(blk_cell BK164.out 0).trans rfl,(blk_cell BK164.out 1).trans rfl⟩ (fun hHeld=>?_);refine with_tabW impl_ownRing.tab5 impl_ownRing.bits5 (fun HT_ HW_=>?_)
       generalize w21.drew=w22 at HO_163001 BK160 BK161 BK162 BK164 HB hHeld ⊢
       refine pure_ (i:=0) (N:=some 16) (v:=?_) (a':=?_) #[true,false,false,false,false,false,false,false] rfl rfl (any_of HT_.out (by kernel_rfl)) (fun _ _ _ h=>h) (Or.inl ⟨zq64,?_⟩) ?_ ?_
       rotate_left
       ·intro w'
        go_simp
        with_reducible rfl
       rotate_left
       ·simp only[Act.put,List.setIfInBounds_toArray,List.set_cons_zero,List.set_cons_succ,i64_w,i32_w]
        rfl
       refine take_ (i:=1) (N:=some 17) (v:=?_) (a':=?_) #[true,true,false,false,false,false,false,false] rfl rfl (take_ofW HT_.out HW_.out (by kernel_rfl)) (fun _ _ _ h=>h) (Or.inl ⟨zq64,?_⟩) hHeld ?_ ?_
       rotate_left
       ·rintro w' ⟨s0,s1,s2,s3⟩
        go_simp
        with_reducible rfl
       rotate_left
       ·simp only[Act.put,List.setIfInBounds_toArray,List.set_cons_zero,List.set_cons_succ,i64_w,i32_w]
        rfl
       refine take_ (i:=2) (N:=some 18) (v:=?_) (a':=?_) #[true,true,true,false,false,false,false,false] rfl rfl (take_ofW HT_.out HW_.out (by kernel_rfl)) (fun _ _ _ h=>h) (Or.inl ⟨zq64,?_⟩) hHeld ?_ ?_
       rotate_left
       ·rintro w' ⟨s0,s1,s2,s3⟩
        go_simp
        with_reducible rfl
       rotate_left
       ·simp only[Act.put,List.setIfInBounds_toArray,List.set_cons_zero,List.set_cons_succ,i64_w,i32_w]
        rfl
       refine one_ (i:=3) (N:=some 19) #[true,true,true,true,false,false,false,false] rfl rfl (one_of HT_.out (by kernel_rfl)) zq17 (fun K hK=>?_)
       refine goes_ Try.func85 (by kernel_rfl) rfl #[.agg #[.int .i64 ((rd_T25 l0_1 x12_1).f0),.slice A163_1 ((rd_T25 l0_1 x12_1).f1).length c163_1]] zq64 rfl rfl zq5 ?_
       with_reducible refine(impl_ownKey.calls ((rd_T25 l0_1 x12_1).f0) _ _ ((rd_T25 l0_1 x12_1).f1) t165 t166 _ ?side1 ?side2 A14.out).mono ?_
       (case side1=>repeat (first|exact(Kd.C_below HR163_1.out HB.out)|(with_reducible refine Kd.C_alloc ?_ _)|(with_reducible refine Kd.C_drewN ?_ _)|(with_reducible refine Kd.C_drew ?_)))
       (case side2=>exact HC163_1.out)
       rintro e w23 ⟨v167,rfl,ho0,hb⟩
       refine⟨_,rfl,?_⟩
       have n0_:=zM (Kd.S_elder' zq109 (Kd.R_base ho0) hb)
       have n1_:=zM (Kd.R_lower ho0 (below_size zq49))
       have n2_:=zM (blk_below (g:=gb160) (o:=.cells #[.int .i64 a0_0,.slice (some ad163) l0_1.length c0_1] 29 (0,0)) zq35 hb)
       have n3_:=zM (blk_below (g:=gb161) (o:=.cells #[.int .i64 0,.slice none 0 0] 29 (0,0)) zq45 hb)
       have n4_:=zM (blk_below (g:=gb162) (o:=.cells #[.int .i64 a0_0,u163001] 29 (0,0)) zq66 hb)
       have n5_:=zM (blk_below (g:=gb164) (o:=.cells #[.int .i64 ((rd_T25 l0_1 x12_1).f0),.slice A163_1 ((rd_T25 l0_1 x12_1).f1).length c163_1] 25 (0,0)) zq88 hb)
       have n6_:=zM (below_step zq49 hb)
       clear HO_163001
       clear BK160
       clear BK161
       clear BK162
       clear BK164
       clear HB
       have HO_163001:=n0_
       have HO168:=n1_
       have BK160:=n2_
       have BK161:=n3_
       have BK162:=n4_
       have BK164:=n5_
       have HB:=n6_
       clear n0_ n1_ n2_ n3_ n4_ n5_ n6_
       (try clear hb)
       (try clear hb2)
       (try clear hk)
       (try clear hi)
       (try clear ho0)
       obtain⟨Ao25,co25,eo25⟩:=Kd.R_slice HO168.out
       (first|subst eo25|(injection eo25 with f1_ f2_ f3_;have f4_:=f1_.symm;have f5_:=f3_.symm;clear f1_ f2_ f3_;subst f4_;subst f5_))
       refine hK.out _ _ ⟨(blk_cell BK162.out 0).trans rfl,(blk_cell BK162.out 1).trans rfl,(blk_cell BK164.out 0).trans rfl,(blk_cell BK164.out 1).trans rfl⟩ (fun hHeld=>?_)
       clear hK K
       refine norm_ (a':=?_) ?_ ?_
       rotate_left
       ·show Act.put _ (some 19) _=_
        simp only[Act.put,List.setIfInBounds_toArray,List.set_cons_zero,List.set_cons_succ,i64_w,i32_w]
        rfl
       refine one_ (i:=4) (N:=some 20) #[true,true,true,true,true,false,false,false] rfl rfl (one_of HT_.out (by kernel_rfl)) zq17 (fun K hK=>?_)
       refine value_ (w1:=?_) (v:=?_) zq64 rfl ?_ ?_
       rotate_left 2
       ·go_simp
        constructor
        ·rfl
        ·rfl
       refine hK.out _ _ ⟨(blk_cell (blk_alloc BK162.out _) 0).trans rfl,(blk_cell (blk_alloc BK162.out _) 1).trans rfl,(blk_cell (blk_alloc BK164.out _) 0).trans rfl,(blk_cell (blk_alloc BK164.out _) 1).trans rfl⟩ (fun hHeld=>?_)
       clear hK K
       refine norm_ (a':=?_) ?_ ?_
       rotate_left
       ·show Act.put _ (some 20) _=_
        simp only[Act.put,List.setIfInBounds_toArray,List.set_cons_zero,List.set_cons_succ,i64_w,i32_w]
        rfl
       refine one_ (i:=5) (N:=some 21) #[true,true,true,true,true,true,false,false] rfl rfl (one_of HT_.out (by kernel_rfl)) zq17 (fun K hK=>?_)
       refine Kd.S_append_step k25 (w0:=w) w.heap.size zq64 (.tmp 17) (.tmp 20) 27 25 (.agg #[(.int .i64 0),(.slice none 0 0)]) 32 rfl Try.underlying27 info25 rfl zq17 zq21 u163001 x163001_1 (⟨t165,t166⟩:S25) [.int .i64 t165,.slice Ao25 t166.length co25] (fun k_=>k_≠gb164) (fun k_=>some k_=(.slice Ao25 t166.length co25:Value).ownBlock) rfl rfl ?aP (fun k_ hk_=>((Kd.R_mono (ok':=fun k_=>((fun k_=>k_≠gb164)) k_∧some k_≠(u163001:Value).ownBlock) (Kd.R_types (Kd.R_apart' (HO168.out) (Kd.S_typed HO_163001.out) zq17) BK164.out zq17) (fun k_ hk=>⟨hk.2,hk.1.2⟩))).1 k_ hk_.symm) ?aF ?aO ?aB ?aS ?aL ?_
       (case aP=>exact k25_mkM _ _ _ (⟨t165,t166⟩:S25) (Kd.R_mono (Kd.R_tight rfl (Kd.R_mono (ok':=fun k_=>((fun k_=>k_≠gb164)) k_∧some k_≠(u163001:Value).ownBlock) (Kd.R_types (Kd.R_apart' (HO168.out) (Kd.S_typed HO_163001.out) zq17) BK164.out zq17) (fun k_ hk=>⟨hk.2,hk.1.2⟩))) (fun _ h_=>h_)))
       (case aB=>exact zq49)
       (case aF=>exact(fun k_ hk=>Kd.freshB (g:=gb164) (o:=.cells #[.int .i64 ((rd_T25 l0_1 x12_1).f0),.slice A163_1 ((rd_T25 l0_1 x12_1).f1).length c163_1] 25 (0,0)) zq88 k_ hk))
       (case aO=>exact(by(with_reducible repeat (first|apply Kd.S_alloc|apply Kd.S_drewN|apply Kd.S_drew));exact Kd.S_mono HO_163001.out (fun k_ hk=>⟨hk.1,fun e_=>hk.2 e_⟩)))
       (case aS=>exact(below_size zq49))
       (case aL=>have:=LMc15.out;omega)
       intro v170 w24 ho hb hg hat
       rw[← Ny169.out] at ho
       have n0_:=zM (blk_grown (g:=gb160) (o:=.cells #[.int .i64 a0_0,.slice (some ad163) l0_1.length c0_1] 29 (0,0)) zq35 hg (Kd.S_ne HO_163001.out BK160.out zq17))
       have n1_:=zM (blk_grown (g:=gb161) (o:=.cells #[.int .i64 0,.slice none 0 0] 29 (0,0)) zq45 hg (Kd.S_ne HO_163001.out BK161.out zq17))
       have n2_:=zM (blk_grown (g:=gb162) (o:=.cells #[.int .i64 a0_0,u163001] 29 (0,0)) zq66 hg (Kd.S_ne HO_163001.out BK162.out zq17))
       have n3_:=zM (blk_grown (g:=gb164) (o:=.cells #[.int .i64 ((rd_T25 l0_1 x12_1).f0),.slice A163_1 ((rd_T25 l0_1 x12_1).f1).length c163_1] 25 (0,0)) zq88 hg (Kd.S_away HO_163001.out (fun _ hk=>hk.1)))
       have n4_:=zM (hb)
       have n5_:=zM (ho)
       clear BK160
       clear BK161
       clear BK162
       clear BK164
       clear HB
       clear HO_163001
       clear HO168
       have BK160:=n0_
       have BK161:=n1_
       have BK162:=n2_
       have BK164:=n3_
       have HB:=n4_
       have HO171:=n5_
       clear n0_ n1_ n2_ n3_ n4_ n5_
       clear ho hb hg hat
       obtain⟨Ao26,co26,eo26⟩:=Kd.S_slice HO171.out
       (first|subst eo26|(injection eo26 with f1_ f2_ f3_;have f4_:=f1_.symm;have f5_:=f3_.symm;clear f1_ f2_ f3_;subst f4_;subst f5_))
       refine hK.out _ _ ⟨(blk_cell BK162.out 0).trans rfl,(blk_cell BK162.out 1).trans rfl,(blk_cell BK164.out 0).trans rfl,(blk_cell BK164.out 1).trans rfl⟩ (fun hHeld=>?_)
       clear hK K
       refine norm_ (a':=?_) ?_ ?_
       rotate_left
       ·show Act.put _ (some 21) _=_
        simp only[Act.put,List.setIfInBounds_toArray,List.set_cons_zero,List.set_cons_succ,i64_w,i32_w]
        rfl
       refine pure_ (i:=6) (N:=some 22) (v:=?_) (a':=?_) #[true,true,true,true,true,true,true,false] rfl rfl (any_of HT_.out (by kernel_rfl)) (fun _ _ _ h=>h) (Or.inl ⟨zq64,?_⟩) ?_ ?_
       rotate_left
       ·intro w'
        go_simp
        with_reducible rfl
       rotate_left
       ·simp only[Act.put,List.setIfInBounds_toArray,List.set_cons_zero,List.set_cons_succ,i64_w,i32_w]
        rfl
       refine last_ (i:=7) (N:=none) #[true,true,true,true,true,true,true,true] rfl rfl (one_of HT_.out (by kernel_rfl)) zq17 (fun K hK=>?_)
       have hs27:w24.cell? ⟨gb162,1,none⟩=some (u163001):=(blk_cell BK162.out 1).trans rfl
       have hfs27:=blk_frozen BK162.out 1
       have hns27_0:=NB160_162.out
       have hns27_1:=NB161_162.out
       have hns27_3:=NB164_162.out
       have hms27_0:=NB162_160.out
       have hms27_1:=NB162_161.out
       have hms27_3:=NB162_164.out
       refine skip_ (w1:=?_) zq64 rfl ?_ ?_
       rotate_left
       ·go_simp
        rfl
       refine hK.out _ _ ?_
       clear hK K
       refine done_ (done_of HT_.out (by kernel_rfl)) ?_
       try go_wp2
       go_roundg k1
       case measure=>have:=HK1.out;omega
       case rel=>exact⟨(wrap64 (x12_1+1)),(y169),(.slice Ao26 y169.length co26),zq53,H',⟨by have:=HK1.out;omega⟩,⟨by(with_reducible repeat (first|apply Kd.S_alloc|apply Kd.S_drewN|apply Kd.S_drew));exact Kd.S_mono (Kd.S_far (p:=⟨gb162,1,none⟩) (Kd.S_types HO171.out BK162.out zq17) (fun _ hk=>hk.2) (.slice Ao26 y169.length co26)) (fun _ hk=>trivial)⟩,⟨by(with_reducible repeat (first|refine blk_drewN ?_ _|refine blk_drew ?_|refine blk_alloc ?_ _));refine blk_far ?_ NB160_162.out _;(with_reducible repeat (first|refine blk_drewN ?_ _|refine blk_drew ?_|refine blk_alloc ?_ _));exact BK160.out⟩,⟨by(with_reducible repeat (first|refine blk_drewN ?_ _|refine blk_drew ?_|refine blk_alloc ?_ _));refine blk_far ?_ NB161_162.out _;(with_reducible repeat (first|refine blk_drewN ?_ _|refine blk_drew ?_|refine blk_alloc ?_ _));exact BK161.out⟩,⟨by(with_reducible repeat (first|refine blk_drewN ?_ _|refine blk_drew ?_|refine blk_alloc ?_ _));refine blk_put (cs:=#[.int .i64 a0_0,u163001]) ?_ 1 _ rfl;(with_reducible repeat (first|refine blk_drewN ?_ _|refine blk_drew ?_|refine blk_alloc ?_ _));exact BK162.out⟩,⟨zq49⟩⟩
      ·rw[if_neg c15] at H
       exact absurd H zq58
     ·rw[if_neg c13] at H
      exact absurd H zq58
    ·rw[if_neg c12] at H
     exact absurd H zq58
   ·rw[if_neg c11] at H
    have c11b0:decide (x12_1 < (l0_1.length:Int))=false:=decide_eq_false c11
    clear c11
    simp only[Option.some.injEq,Prod.mk.injEq] at H
    obtain⟨rfl,rfl⟩:=H
    have hnb28:=NB162_160.out
    have hnc28:=NB160_162.out
    have hnb29:=NB162_161.out
    have hnc29:=NB161_162.out
    have hcz30_0:wr.cell? ⟨gb162,0,none⟩=some (.int .i64 a0_0):=(blk_cell BK162.out 0).trans rfl
    have hcz30_1:wr.cell? ⟨gb162,1,none⟩=some (u163001):=(blk_cell BK162.out 1).trans rfl
    have hfz30_0:=blk_frozen BK162.out 0
    have hfz30_1:=blk_frozen BK162.out 1
    have hnb31:=NB161_160.out
    have hnc31:=NB160_161.out
    have hcz32_0:wr.cell? ⟨gb161,0,none⟩=some (.int .i64 0):=(blk_cell BK161.out 0).trans rfl
    have hcz32_1:wr.cell? ⟨gb161,1,none⟩=some (.slice none 0 0):=(blk_cell BK161.out 1).trans rfl
    have hfz32_0:=blk_frozen BK161.out 0
    have hfz32_1:=blk_frozen BK161.out 1
    obtain⟨Ao33,co33,eo33⟩:=Kd.S_slice HO_163001.out
    subst eo33
    go_wp2
    refine bodyPost_ret (results_cell_row rfl _ _ gb161 29 #[.int .i64 a0_0,.slice Ao33 x163001_1.length co33] (0,0) _ rfl (by(with_reducible repeat (first|refine blk_drewN ?_ _|refine blk_drew ?_|refine blk_alloc ?_ _));refine blk_put (cs:=#[.int .i64 a0_0,.slice none 0 0]) ?_ 1 _ rfl;(with_reducible repeat (first|refine blk_drewN ?_ _|refine blk_drew ?_|refine blk_alloc ?_ _));refine blk_put (cs:=#[.int .i64 0,.slice none 0 0]) ?_ 0 _ rfl;(with_reducible repeat (first|refine blk_drewN ?_ _|refine blk_drew ?_|refine blk_alloc ?_ _));exact BK161.out) Try.underlying29 rfl (by kernel_rfl)) rfl ?_
    exact⟨_,zq10,by(with_reducible repeat (first|apply Kd.S_alloc|apply Kd.S_drewN|apply Kd.S_drew));exact Kd.S_mono (Kd.S_far (p:=⟨gb161,1,none⟩) (Kd.S_far (p:=⟨gb161,0,none⟩) (Kd.S_types HO_163001.out BK161.out zq17) (fun _ hk=>hk.2) (.int .i64 a0_0)) (fun _ hk=>hk.2) (.slice Ao33 x163001_1.length co33)) (fun _ hk=>trivial),zq67⟩
end Go.Proofs.Ytmnhddedcbkpoaa.All
