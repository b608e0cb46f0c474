-- Laid by wip/shake.py of this repo out of this claim's texts. Not trusted: Lean checks it.
import Derived.Test.YtmnhddedcbkpoaaAb0s
import Derived.Test.YtmnhddedcbkpoaaBytes
import Derived.Test.YtmnhddedcbkpoaaAllx6s
import Derived.Test.YtmnhddedcbkpoaaAllx24s
import Derived.Test.YtmnhddedcbkpoaaAllx29s
import Derived.Test.YtmnhddedcbkpoaaAllx571s
import Derived.Test.YtmnhddedcbkpoaaAllx31s
import Derived.Test.YtmnhddedcbkpoaaAllx553s
import Derived.Test.YtmnhddedcbkpoaaAllx550s
import Derived.Test.YtmnhddedcbkpoaaAllx27s
namespace Go.Proofs.Ytmnhddedcbkpoaa.All
open Go.Proofs.YtmnhddedcbkpoaaW.PrintWords.Aside0 renaming mk→zM
open Go.RowKit Go.Proofs.YtmnhddedcbkpoaaW.PrintWords Go.Proofs.YtmnhddedcbkpoaaW.PrintLast Go.Proofs.YtmnhddedcbkpoaaW.PrintMore
attribute [local go_sem] max2_int min2_int max_two min_two max_three min_three max_four min_four
set_option linter.unusedVariables false
set_option linter.unusedSimpArgs false
def spec_DrawSameRings.T4:Bool × List (List Nat × List Nat):=(true,[([],[]),([],[]),([0,1,0],[0]),([1,2,0,1,2],[1])])
def spec_DrawSameRings.B4:List Nat:=[0,0,3,7]
theorem spec_DrawSameRings.tab4:rtab .any (opsOf Try.f20 4)=spec_DrawSameRings.T4:=by kernel_rfl
theorem spec_DrawSameRings.bits4:waitsOk spec_DrawSameRings.T4.2 spec_DrawSameRings.B4=true:=by kernel_rfl
def spec_DrawSameRings.T5:Bool × List (List Nat × List Nat):=(true,[([],[]),([],[]),([1],[1]),([2,2],[2]),([0,3,0],[0]),([3,4,0,1,2,3,4],[3])])
def spec_DrawSameRings.B5:List Nat:=[0,0,2,6,15,31]
theorem spec_DrawSameRings.tab5:rtab .any (opsOf Try.f20 5)=spec_DrawSameRings.T5:=by kernel_rfl
theorem spec_DrawSameRings.bits5:waitsOk spec_DrawSameRings.T5.2 spec_DrawSameRings.B5=true:=by kernel_rfl
set_option maxHeartbeats 4000000 in
set_option maxRecDepth 100000 in
theorem spec_DrawSameRings.c1 (k:Nat) (A0:Option Addr) (c0:Nat) (l0:List Int) (w:World) (HR:Aside0 (Kd.C (Kd.int .u8) w A0 l0.length l0)) (HC:Aside0 (l0.length≤c0)) (HB:Aside0 (Below w.heap.size w w)) (l0s:List Int) (n0 p s1 s2:Int) (l:List S25) (HSR:Aside0 (spec_l1Source.f l0=some (l0s,n0))) (HD:Aside0 (spec_l4Draw.f k l0s n0=some (p,l,s1))) (HH:Aside0 (spec_l1Chance.f l0s s1 2=some (true,s2))) (HM:Aside0 (l.length < 1000000000000∧∀ x ∈ l,x.f1.length < 1000000000000)) :
  Calls Try.prog 20 #[.slice A0 l0.length c0] w fun e w'=>∃ v1_ v3_:Value,e=.returned (.tuple #[.agg #[.int .i64 p,v1_],.agg #[.int .i64 p,v3_]])∧Kd.V k25 25 w' w.heap.size (fun k_=>(w.heap.size≤k_)) v1_ l∧Kd.V k25 25 w' w.heap.size (fun k_=>(w.heap.size≤k_)) v3_ l∧Below w.heap.size w w':=by
 go_enter Try.func20,Try.ntmps20
 go_wp2_with (first
   | ((with_reducible refine gate_dst (N:=2) rfl ?_);refine box_event ?hg (N:=2) ?hd (cs:=#[.int .i64 0,.slice none 0 0]) (t:=29) ?hr ?_;(case hd=>rfl);(case hg=>rfl);(case hr=>first|(go_simp;done)|(go_simp;rfl));intro g2 hg w2 hbox hb;have n0_:=zM (show w.heap.size≤g2 by rw[hg];exact HB.out.size);have n1_:=zM (below_step HB.out hb);have n2_:=zM hbox;clear HB;have GE2:=n0_;have HB:=n1_;have BK2:=n2_;clear n0_ n1_ n2_;clear hb hbox hg)
   | ((with_reducible refine gate_dst (N:=3) rfl ?_);refine box_event ?hg (N:=3) ?hd (cs:=#[.int .i64 0,.slice none 0 0]) (t:=29) ?hr ?_;(case hd=>rfl);(case hg=>rfl);(case hr=>first|(go_simp;done)|(go_simp;rfl));intro g3 hg w3 hbox hb;have n0_:=zM (show g2≠g3 by rw[hg];exact Nat.ne_of_lt (blk_lt (g:=g2) (o:=.cells #[.int .i64 0,.slice none 0 0] 29 (0,0)) BK2.out));have n1_:=zM (show g3≠g2 by rw[hg];exact Nat.ne_of_gt (blk_lt (g:=g2) (o:=.cells #[.int .i64 0,.slice none 0 0] 29 (0,0)) BK2.out));have n2_:=zM (show w.heap.size≤g3 by rw[hg];exact HB.out.size);have n3_:=zM (blk_below (g:=g2) (o:=.cells #[.int .i64 0,.slice none 0 0] 29 (0,0)) BK2.out hb);have n4_:=zM (below_step HB.out hb);have n5_:=zM hbox;clear BK2 HB;have NE2_3:=n0_;have NE3_2:=n1_;have GE3:=n2_;have BK2:=n3_;have HB:=n4_;have BK3:=n5_;clear n0_ n1_ n2_ n3_ n4_ n5_;clear hb hbox hg)
   | (go_at_call 60;refine(spec_l1Source.calls A0 c0 l0 l0s n0 w _ HB.out HR.out HC.out HSR.out).mono ?_;rintro e ws ⟨g4,rfl,hi_,hb_,hb⟩;have n0_:=zM (blk_below (g:=g2) (o:=.cells #[.int .i64 0,.slice none 0 0] 29 (0,0)) BK2.out hb);have n1_:=zM (blk_below (g:=g3) (o:=.cells #[.int .i64 0,.slice none 0 0] 29 (0,0)) BK3.out hb);have n2_:=zM hi_;have n3_:=zM hb_;clear BK2 BK3 HB;have BK2:=n0_;have BK3:=n1_;have HI:=n2_;have HB:=n3_;clear n0_ n1_ n2_ n3_;clear hi_ hb_ hb)
   | (go_at_call 66;refine(spec_l4Draw.calls k g4 l0s n0 p l s1 w _ HI.out HB.out HD.out).mono ?_;rintro e wd ⟨v_,rfl,ho_,hi_,hb_,hk_⟩;have hs_:=IsS112.apartS hi_ ho_ zq16;have n0_:=zM (KeepBut.blk (row:=none) hk_ (g':=g2) (o:=.cells #[.int .i64 0,.slice none 0 0] 29 (0,0)) BK2.out (fun e_=>IsS112.ne_blk HI.out BK2.out zq16 e_.symm) zq101);have n1_:=zM (KeepBut.blk (row:=none) hk_ (g':=g3) (o:=.cells #[.int .i64 0,.slice none 0 0] 29 (0,0)) BK3.out (fun e_=>IsS112.ne_blk HI.out BK3.out zq16 e_.symm) zq101);have n2_:=zM (Kd.S_mono (Kd.S_lower hs_ HB.out.size) (ok':=fun k_=>k_≠g4) (fun k_ h_=>h_.2));have n3_:=zM hi_;have n4_:=zM hb_;clear BK2 BK3 HI HB;have BK2:=n0_;have BK3:=n1_;have HO:=n2_;have HI:=n3_;have HB:=n4_;clear n0_ n1_ n2_ n3_ n4_;clear hi_ hb_ hk_ ho_ hs_;obtain⟨Al,cl,ev_⟩:=Kd.S_slice HO.out;subst ev_)
   | ((with_reducible refine gate_dst (N:=5) rfl ?_);refine box_event ?hg (N:=5) ?hd (cs:=#[.int .i64 0,.slice none 0 0]) (t:=29) ?hr ?_;(case hd=>rfl);(case hg=>rfl);(case hr=>first|(go_simp;done)|(go_simp;rfl));intro g5 hg w5 hbox hb;have n0_:=zM (show g2≠g5 by rw[hg];exact Nat.ne_of_lt (blk_lt (g:=g2) (o:=.cells #[.int .i64 0,.slice none 0 0] 29 (0,0)) BK2.out));have n1_:=zM (show g5≠g2 by rw[hg];exact Nat.ne_of_gt (blk_lt (g:=g2) (o:=.cells #[.int .i64 0,.slice none 0 0] 29 (0,0)) BK2.out));have n2_:=zM (show g3≠g5 by rw[hg];exact Nat.ne_of_lt (blk_lt (g:=g3) (o:=.cells #[.int .i64 0,.slice none 0 0] 29 (0,0)) BK3.out));have n3_:=zM (show g5≠g3 by rw[hg];exact Nat.ne_of_gt (blk_lt (g:=g3) (o:=.cells #[.int .i64 0,.slice none 0 0] 29 (0,0)) BK3.out));have n4_:=zM (show w.heap.size≤g5 by rw[hg];exact HB.out.size);have n5_:=zM (blk_below (g:=g2) (o:=.cells #[.int .i64 0,.slice none 0 0] 29 (0,0)) BK2.out hb);have n6_:=zM (blk_below (g:=g3) (o:=.cells #[.int .i64 0,.slice none 0 0] 29 (0,0)) BK3.out hb);have n7_:=zM (IsS112.below HI.out hb);have n8_:=zM (Kd.S_below HO.out hb);have n9_:=zM (below_step HB.out hb);have n10_:=zM hbox;clear BK2 BK3 HI HO HB;have NE2_5:=n0_;have NE5_2:=n1_;have NE3_5:=n2_;have NE5_3:=n3_;have GE5:=n4_;have BK2:=n5_;have BK3:=n6_;have HI:=n7_;have HO:=n8_;have HB:=n9_;have BK5:=n10_;clear n0_ n1_ n2_ n3_ n4_ n5_ n6_ n7_ n8_ n9_ n10_;clear hb hbox hg)
   | ((with_reducible refine gate_store (t:=29) (p:=5) rfl ?_);refine row_event ?hg (ty:=29) (p:=5) (y:=?yo_231) ?ho ?hn (g:=g5) (old:=#[.int .i64 0,.slice none 0 0]) (e:=29) (cells:=#[.int .i64 p,.slice Al l.length cl]) ?hx ?hy ?hk ?hi ?hd ?h1 ?_;(case ho=>rfl);(case hg=>rfl);(case hn=>rfl);(case hx=>rfl);(case hy=>rfl);(case hk=>exact BK5.out);(case hi=>kernel_rfl);(case hd=>rfl);(case h1=>exact zq133);intro w6 hbk hgr;have n0_:=zM (Kd.S_mono (Kd.S_grown (Kd.S_types HO.out BK5.out zq16) hgr (fun k_ h_ e_=>h_.2 (Option.some.inj e_))) (fun _ h_=>h_.1));have n1_:=zM (IsS112.grown HI.out hgr (fun e_=>IsS112.ne_blk HI.out BK5.out zq16 (Option.some.inj e_)));have n2_:=zM (below_grown1 HB.out hgr GE5.out);have n3_:=zM (blk_grown1 (g':=g2) (ob:=.cells #[.int .i64 0,.slice none 0 0] 29 (0,0)) BK2.out hgr NE2_5.out);have n4_:=zM (blk_grown1 (g':=g3) (ob:=.cells #[.int .i64 0,.slice none 0 0] 29 (0,0)) BK3.out hgr NE3_5.out);have n5_:=zM hbk;clear HO HI HB BK2 BK3 BK5;have HO:=n0_;have HI:=n1_;have HB:=n2_;have BK2:=n3_;have BK3:=n4_;have BK5:=n5_;clear n0_ n1_ n2_ n3_ n4_ n5_;clear hbk hgr;(try clear hp0 hp1);have hp9:=ringFault_box _ _ _ _ _ _ BK5.out;obtain⟨hp0,hp1⟩:=hp9)
   | (go_at_call 64;refine(spec_l1Chance.calls g4 l0s s1 2 true s2 w _ HI.out HB.out HH.out).mono ?_;rintro e wn ⟨rfl,hi_,hb_,hk_⟩;have n0_:=zM (KeepBut.blk (row:=none) hk_ (g':=g2) (o:=.cells #[.int .i64 0,.slice none 0 0] 29 (0,0)) BK2.out (fun e_=>IsS112.ne_blk HI.out BK2.out zq16 e_.symm) zq101);have n1_:=zM (KeepBut.blk (row:=none) hk_ (g':=g3) (o:=.cells #[.int .i64 0,.slice none 0 0] 29 (0,0)) BK3.out (fun e_=>IsS112.ne_blk HI.out BK3.out zq16 e_.symm) zq101);have n2_:=zM (KeepBut.blk (row:=none) hk_ (g':=g5) (o:=.cells #[.int .i64 p,.slice Al l.length cl] 29 (0,0)) BK5.out (fun e_=>IsS112.ne_blk HI.out BK5.out zq16 e_.symm) zq101);have n3_:=zM (Kd.S_keep HO.out hk_ (fun k_ h_=>h_));have n4_:=zM hi_;have n5_:=zM hb_;clear BK2 BK3 BK5 HO HI HB;have BK2:=n0_;have BK3:=n1_;have BK5:=n2_;have HO:=n3_;have HI:=n4_;have HB:=n5_;clear n0_ n1_ n2_ n3_ n4_ n5_;clear hi_ hb_ hk_;(try clear hp0 hp1);have hp9:=ringFault_box _ _ _ _ _ _ BK5.out;obtain⟨hp0,hp1⟩:=hp9))
 go_wp2_with fail
 clear hp0 hp1
 obtain⟨wx,hwx⟩:∃ wx,wx=wn:=⟨_,rfl⟩
 subst hwx
 have n0_:=zM (below_drew1 HB.out)
 have n1_:=zM (blk_drew BK2.out)
 have n2_:=zM (blk_drew BK3.out)
 have n3_:=zM (blk_drew BK5.out)
 have n4_:=zM (Kd.S_drew HO.out)
 have n5_:=zM (IsS112.drew HI.out)
 clear HB BK2 BK3 BK5 HO HI
 have HB:=n0_
 have BK2:=n1_
 have BK3:=n2_
 have BK5:=n3_
 have HO:=n4_
 have HI:=n5_
 clear n0_ n1_ n2_ n3_ n4_ n5_
 refine start_ (n:=4) (S:=fun w'=>w'.cell? ⟨g5,0,none⟩=some (.int .i64 p)∧w'.cell? ⟨g5,1,none⟩=some (.slice Al l.length cl)) (ds:=[2,3]) #[false,false,false,false] (by kernel_rfl) rfl rfl ⟨(blk_cell BK5.out 0).trans rfl,(blk_cell BK5.out 1).trans rfl⟩ (fun hHeld=>?_);refine with_tabW spec_DrawSameRings.tab4 spec_DrawSameRings.bits4 (fun HT_ HW_=>?_)
 generalize wx.drew=w9 at HB BK2 BK3 BK5 HO HI hHeld ⊢
 refine take_ (i:=0) (N:=some 12) (v:=?_) (a':=?_) #[true,false,false,false] rfl rfl (take_ofW HT_.out HW_.out (by kernel_rfl)) (fun _ _ _ h=>h) (Or.inl ⟨zq145,?_⟩) hHeld ?_ ?_
 rotate_left
 ·rintro w' ⟨s0,s1⟩
  go_simp
  with_reducible rfl
 rotate_left
 ·simp only[Act.put,List.setIfInBounds_toArray,List.set_cons_zero,List.set_cons_succ,i64_w,i32_w]
  rfl
 refine one_ (i:=1) (N:=some 13) #[true,true,false,false] rfl rfl (one_of HT_.out (by kernel_rfl)) zq16 (fun K hK=>?_)
 refine goes_ Try.func67 (by kernel_rfl) rfl #[.pointer (some ⟨g5,0,none⟩)] zq145 rfl rfl zq84 ?_
 with_reducible refine(l4Copy_at g5 p l Al cl _ BK5.out (Kd.S_reads' HO.out).2.2 HM.out).mono ?_
 rintro e w10 ⟨vb,rfl,hob,hb⟩
 refine⟨_,rfl,?_⟩
 have hz_:=Kd.S_lower hob HB.out.size
 have n0_:=zM (blk_below (g:=g2) (o:=.cells #[.int .i64 0,.slice none 0 0] 29 (0,0)) BK2.out hb)
 have n1_:=zM (blk_below (g:=g3) (o:=.cells #[.int .i64 0,.slice none 0 0] 29 (0,0)) BK3.out hb)
 have n2_:=zM (blk_below (g:=g5) (o:=.cells #[.int .i64 p,.slice Al l.length cl] 29 (0,0)) BK5.out hb)
 have n3_:=zM (Kd.S_below HO.out hb)
 have n4_:=zM (below_step HB.out hb)
 have n5_:=zM hz_
 clear BK2 BK3 BK5 HO HB
 have BK2:=n0_
 have BK3:=n1_
 have BK5:=n2_
 have HO:=n3_
 have HB:=n4_
 have HOb:=n5_
 clear n0_ n1_ n2_ n3_ n4_ n5_
 clear hb hob hz_ HI
 have HVa:=zM (Kd.V_mono (Kd.S_V (base':=w.heap.size) (Kd.S_bound (Kd.S_types (Kd.S_types HO.out BK2.out zq16) BK3.out zq16))) (ok':=fun k_=>w.heap.size≤k_∧k_≠g2∧k_≠g3) (fun k_ h_=>⟨h_.2.1,h_.1.1.2,h_.1.2⟩))
 have HVb:=zM (Kd.V_mono (Kd.S_V (base':=w.heap.size) (Kd.S_bound (Kd.S_types (Kd.S_types HOb.out BK2.out zq16) BK3.out zq16))) (ok':=fun k_=>w.heap.size≤k_∧k_≠g2∧k_≠g3) (fun k_ h_=>⟨h_.2.1,h_.1.1.2,h_.1.2⟩))
 clear HO HOb
 obtain⟨Ab,cb,eb_,_,_⟩:=HVb.out
 subst eb_
 refine hK.out _ _ ⟨(blk_cell BK5.out 0).trans rfl,(blk_cell BK5.out 1).trans rfl⟩ (fun hHeld=>?_)
 clear hK K
 refine norm_ (a':=?_) ?_ ?_
 rotate_left
 ·show Act.put _ (some 13) _=_
  simp only[Act.put,List.setIfInBounds_toArray,List.set_cons_zero,List.set_cons_succ,i64_w,i32_w]
  rfl
 clear BK5
 refine last_ (i:=2) (N:=none) #[true,true,true,false] rfl rfl (one_of HT_.out (by kernel_rfl)) zq16 (fun K hK=>?_)
 rw[if_pos zq145]
 refine wp_store_row 29 (.tmp 2) (.tmp 12) rfl g2 #[.int .i64 p,.slice Al l.length cl] rfl rfl 29 #[.int .i64 0,.slice none 0 0] BK2.out (by kernel_rfl) rfl zq133 ?_
 have hgr:=grown_setRow w10 g2 #[.int .i64 p,.slice Al l.length cl]
 have hbk:=setRow_heap w10 g2 _ #[.int .i64 p,.slice Al l.length cl] 29 (0,0) BK2.out
 generalize w10.setRow g2 #[.int .i64 p,.slice Al l.length cl]=w12 at hgr hbk ⊢
 have n0_:=zM (below_grown1 HB.out hgr GE2.out)
 have n1_:=zM (blk_grown1 (g':=g3) (ob:=.cells #[.int .i64 0,.slice none 0 0] 29 (0,0)) BK3.out hgr NE3_2.out)
 have n2_:=zM hbk
 have n3_:=zM (Kd.V_grown HVa.out hgr (fun k_ h_ e_=>absurd (Option.some.inj e_) h_.2.1))
 have n4_:=zM (Kd.V_grown HVb.out hgr (fun k_ h_ e_=>absurd (Option.some.inj e_) h_.2.1))
 clear HB BK3 BK2 HVa HVb
 have HB:=n0_
 have BK3:=n1_
 have BK2:=n2_
 have HVa:=n3_
 have HVb:=n4_
 clear n0_ n1_ n2_ n3_ n4_
 clear hbk hgr
 refine hK.out _ _ ?_
 clear hK K
 refine last_ (i:=3) (N:=none) #[true,true,true,true] rfl rfl (one_of HT_.out (by kernel_rfl)) zq16 (fun K hK=>?_)
 rw[if_pos zq145]
 refine wp_store_row 29 (.tmp 3) (.tmp 13) rfl g3 #[.int .i64 p,.slice Ab l.length cb] rfl rfl 29 #[.int .i64 0,.slice none 0 0] BK3.out (by kernel_rfl) rfl zq133 ?_
 have hgr:=grown_setRow w12 g3 #[.int .i64 p,.slice Ab l.length cb]
 have hbk:=setRow_heap w12 g3 _ #[.int .i64 p,.slice Ab l.length cb] 29 (0,0) BK3.out
 generalize w12.setRow g3 #[.int .i64 p,.slice Ab l.length cb]=w13 at hgr hbk ⊢
 have n0_:=zM (below_grown1 HB.out hgr GE3.out)
 have n1_:=zM (blk_grown1 (g':=g2) (ob:=.cells #[.int .i64 p,.slice Al l.length cl] 29 (0,0)) BK2.out hgr NE2_3.out)
 have n2_:=zM hbk
 have n3_:=zM (Kd.V_grown HVa.out hgr (fun k_ h_ e_=>absurd (Option.some.inj e_) h_.2.2))
 have n4_:=zM (Kd.V_grown HVb.out hgr (fun k_ h_ e_=>absurd (Option.some.inj e_) h_.2.2))
 clear HB BK2 BK3 HVa HVb
 have HB:=n0_
 have BK2:=n1_
 have BK3:=n2_
 have HVa:=n3_
 have HVb:=n4_
 clear n0_ n1_ n2_ n3_ n4_
 clear hbk hgr
 refine hK.out _ _ ?_
 clear hK K
 refine done_ (done_of HT_.out (by kernel_rfl)) ?_
 go_wp2_with fail
 refine bodyPost_ret (results_cc rfl _ _ g2 g3 29 29 #[.int .i64 p,.slice Al l.length cl] #[.int .i64 p,.slice Ab l.length cb] (0,0) (0,0) _ _ rfl BK2.out Try.underlying29 rfl (by kernel_rfl) rfl BK3.out Try.underlying29 rfl (by kernel_rfl)) rfl ?_
 exact⟨_,_,rfl,Kd.V_mono HVa.out (fun _ h_=>h_.1),Kd.V_mono HVb.out (fun _ h_=>h_.1),HB.out⟩
set_option maxHeartbeats 4000000 in
set_option maxRecDepth 100000 in
theorem spec_DrawSameRings.c2 (k:Nat) (A0:Option Addr) (c0:Nat) (l0:List Int) (w:World) (HR:Aside0 (Kd.C (Kd.int .u8) w A0 l0.length l0)) (HC:Aside0 (l0.length≤c0)) (HB:Aside0 (Below w.heap.size w w)) (l0s:List Int) (n0 p s1 s2:Int) (l:List S25) (HSR:Aside0 (spec_l1Source.f l0=some (l0s,n0))) (HD:Aside0 (spec_l4Draw.f k l0s n0=some (p,l,s1))) (HH:Aside0 (spec_l1Chance.f l0s s1 2=some (false,s2))) (p2:Int) (l2:List S25) (s3:Int) (HBe:Aside0 (spec_l4Bent.f k l0s n0=some (p2,l2,s3))) :
  Calls Try.prog 20 #[.slice A0 l0.length c0] w fun e w'=>∃ v1_ v3_:Value,e=.returned (.tuple #[.agg #[.int .i64 p,v1_],.agg #[.int .i64 p2,v3_]])∧Kd.V k25 25 w' w.heap.size (fun k_=>(w.heap.size≤k_)) v1_ l∧Kd.V k25 25 w' w.heap.size (fun k_=>(w.heap.size≤k_)) v3_ l2∧Below w.heap.size w w':=by
 go_enter Try.func20,Try.ntmps20
 go_wp2_with (first
   | ((with_reducible refine gate_dst (N:=2) rfl ?_);refine box_event ?hg (N:=2) ?hd (cs:=#[.int .i64 0,.slice none 0 0]) (t:=29) ?hr ?_;(case hd=>rfl);(case hg=>rfl);(case hr=>first|(go_simp;done)|(go_simp;rfl));intro g2 hg w2 hbox hb;have n0_:=zM (show w.heap.size≤g2 by rw[hg];exact HB.out.size);have n1_:=zM (below_step HB.out hb);have n2_:=zM hbox;clear HB;have GE2:=n0_;have HB:=n1_;have BK2:=n2_;clear n0_ n1_ n2_;clear hb hbox hg)
   | ((with_reducible refine gate_dst (N:=3) rfl ?_);refine box_event ?hg (N:=3) ?hd (cs:=#[.int .i64 0,.slice none 0 0]) (t:=29) ?hr ?_;(case hd=>rfl);(case hg=>rfl);(case hr=>first|(go_simp;done)|(go_simp;rfl));intro g3 hg w3 hbox hb;have n0_:=zM (show g2≠g3 by rw[hg];exact Nat.ne_of_lt (blk_lt (g:=g2) (o:=.cells #[.int .i64 0,.slice none 0 0] 29 (0,0)) BK2.out));have n1_:=zM (show g3≠g2 by rw[hg];exact Nat.ne_of_gt (blk_lt (g:=g2) (o:=.cells #[.int .i64 0,.slice none 0 0] 29 (0,0)) BK2.out));have n2_:=zM (show w.heap.size≤g3 by rw[hg];exact HB.out.size);have n3_:=zM (blk_below (g:=g2) (o:=.cells #[.int .i64 0,.slice none 0 0] 29 (0,0)) BK2.out hb);have n4_:=zM (below_step HB.out hb);have n5_:=zM hbox;clear BK2 HB;have NE2_3:=n0_;have NE3_2:=n1_;have GE3:=n2_;have BK2:=n3_;have HB:=n4_;have BK3:=n5_;clear n0_ n1_ n2_ n3_ n4_ n5_;clear hb hbox hg)
   | (go_at_call 60;refine(spec_l1Source.calls A0 c0 l0 l0s n0 w _ HB.out HR.out HC.out HSR.out).mono ?_;rintro e ws ⟨g4,rfl,hi_,hb_,hb⟩;have n0_:=zM (blk_below (g:=g2) (o:=.cells #[.int .i64 0,.slice none 0 0] 29 (0,0)) BK2.out hb);have n1_:=zM (blk_below (g:=g3) (o:=.cells #[.int .i64 0,.slice none 0 0] 29 (0,0)) BK3.out hb);have n2_:=zM hi_;have n3_:=zM hb_;clear BK2 BK3 HB;have BK2:=n0_;have BK3:=n1_;have HI:=n2_;have HB:=n3_;clear n0_ n1_ n2_ n3_;clear hi_ hb_ hb)
   | (go_at_call 66;refine(spec_l4Draw.calls k g4 l0s n0 p l s1 w _ HI.out HB.out HD.out).mono ?_;rintro e wd ⟨v_,rfl,ho_,hi_,hb_,hk_⟩;have hs_:=IsS112.apartS hi_ ho_ zq16;have n0_:=zM (KeepBut.blk (row:=none) hk_ (g':=g2) (o:=.cells #[.int .i64 0,.slice none 0 0] 29 (0,0)) BK2.out (fun e_=>IsS112.ne_blk HI.out BK2.out zq16 e_.symm) zq101);have n1_:=zM (KeepBut.blk (row:=none) hk_ (g':=g3) (o:=.cells #[.int .i64 0,.slice none 0 0] 29 (0,0)) BK3.out (fun e_=>IsS112.ne_blk HI.out BK3.out zq16 e_.symm) zq101);have n2_:=zM (Kd.S_mono (Kd.S_lower hs_ HB.out.size) (ok':=fun k_=>k_≠g4) (fun k_ h_=>h_.2));have n3_:=zM hi_;have n4_:=zM hb_;clear BK2 BK3 HI HB;have BK2:=n0_;have BK3:=n1_;have HO:=n2_;have HI:=n3_;have HB:=n4_;clear n0_ n1_ n2_ n3_ n4_;clear hi_ hb_ hk_ ho_ hs_;obtain⟨Al,cl,ev_⟩:=Kd.S_slice HO.out;subst ev_)
   | ((with_reducible refine gate_dst (N:=5) rfl ?_);refine box_event ?hg (N:=5) ?hd (cs:=#[.int .i64 0,.slice none 0 0]) (t:=29) ?hr ?_;(case hd=>rfl);(case hg=>rfl);(case hr=>first|(go_simp;done)|(go_simp;rfl));intro g5 hg w5 hbox hb;have n0_:=zM (show g2≠g5 by rw[hg];exact Nat.ne_of_lt (blk_lt (g:=g2) (o:=.cells #[.int .i64 0,.slice none 0 0] 29 (0,0)) BK2.out));have n1_:=zM (show g5≠g2 by rw[hg];exact Nat.ne_of_gt (blk_lt (g:=g2) (o:=.cells #[.int .i64 0,.slice none 0 0] 29 (0,0)) BK2.out));have n2_:=zM (show g3≠g5 by rw[hg];exact Nat.ne_of_lt (blk_lt (g:=g3) (o:=.cells #[.int .i64 0,.slice none 0 0] 29 (0,0)) BK3.out));have n3_:=zM (show g5≠g3 by rw[hg];exact Nat.ne_of_gt (blk_lt (g:=g3) (o:=.cells #[.int .i64 0,.slice none 0 0] 29 (0,0)) BK3.out));have n4_:=zM (show w.heap.size≤g5 by rw[hg];exact HB.out.size);have n5_:=zM (blk_below (g:=g2) (o:=.cells #[.int .i64 0,.slice none 0 0] 29 (0,0)) BK2.out hb);have n6_:=zM (blk_below (g:=g3) (o:=.cells #[.int .i64 0,.slice none 0 0] 29 (0,0)) BK3.out hb);have n7_:=zM (IsS112.below HI.out hb);have n8_:=zM (Kd.S_below HO.out hb);have n9_:=zM (below_step HB.out hb);have n10_:=zM hbox;clear BK2 BK3 HI HO HB;have NE2_5:=n0_;have NE5_2:=n1_;have NE3_5:=n2_;have NE5_3:=n3_;have GE5:=n4_;have BK2:=n5_;have BK3:=n6_;have HI:=n7_;have HO:=n8_;have HB:=n9_;have BK5:=n10_;clear n0_ n1_ n2_ n3_ n4_ n5_ n6_ n7_ n8_ n9_ n10_;clear hb hbox hg)
   | ((with_reducible refine gate_store (t:=29) (p:=5) rfl ?_);refine row_event ?hg (ty:=29) (p:=5) (y:=?yo_238) ?ho ?hn (g:=g5) (old:=#[.int .i64 0,.slice none 0 0]) (e:=29) (cells:=#[.int .i64 p,.slice Al l.length cl]) ?hx ?hy ?hk ?hi ?hd ?h1 ?_;(case ho=>rfl);(case hg=>rfl);(case hn=>rfl);(case hx=>rfl);(case hy=>rfl);(case hk=>exact BK5.out);(case hi=>kernel_rfl);(case hd=>rfl);(case h1=>exact zq133);intro w6 hbk hgr;have n0_:=zM (Kd.S_mono (Kd.S_grown (Kd.S_types HO.out BK5.out zq16) hgr (fun k_ h_ e_=>h_.2 (Option.some.inj e_))) (fun _ h_=>h_.1));have n1_:=zM (IsS112.grown HI.out hgr (fun e_=>IsS112.ne_blk HI.out BK5.out zq16 (Option.some.inj e_)));have n2_:=zM (below_grown1 HB.out hgr GE5.out);have n3_:=zM (blk_grown1 (g':=g2) (ob:=.cells #[.int .i64 0,.slice none 0 0] 29 (0,0)) BK2.out hgr NE2_5.out);have n4_:=zM (blk_grown1 (g':=g3) (ob:=.cells #[.int .i64 0,.slice none 0 0] 29 (0,0)) BK3.out hgr NE3_5.out);have n5_:=zM hbk;clear HO HI HB BK2 BK3 BK5;have HO:=n0_;have HI:=n1_;have HB:=n2_;have BK2:=n3_;have BK3:=n4_;have BK5:=n5_;clear n0_ n1_ n2_ n3_ n4_ n5_;clear hbk hgr;(try clear hp0 hp1);have hp9:=ringFault_box _ _ _ _ _ _ BK5.out;obtain⟨hp0,hp1⟩:=hp9)
   | (go_at_call 64;refine(spec_l1Chance.calls g4 l0s s1 2 false s2 w _ HI.out HB.out HH.out).mono ?_;rintro e wn ⟨rfl,hi_,hb_,hk_⟩;have n0_:=zM (KeepBut.blk (row:=none) hk_ (g':=g2) (o:=.cells #[.int .i64 0,.slice none 0 0] 29 (0,0)) BK2.out (fun e_=>IsS112.ne_blk HI.out BK2.out zq16 e_.symm) zq101);have n1_:=zM (KeepBut.blk (row:=none) hk_ (g':=g3) (o:=.cells #[.int .i64 0,.slice none 0 0] 29 (0,0)) BK3.out (fun e_=>IsS112.ne_blk HI.out BK3.out zq16 e_.symm) zq101);have n2_:=zM (KeepBut.blk (row:=none) hk_ (g':=g5) (o:=.cells #[.int .i64 p,.slice Al l.length cl] 29 (0,0)) BK5.out (fun e_=>IsS112.ne_blk HI.out BK5.out zq16 e_.symm) zq101);have n3_:=zM (Kd.S_keep HO.out hk_ (fun k_ h_=>h_));have n4_:=zM hi_;have n5_:=zM hb_;clear BK2 BK3 BK5 HO HI HB;have BK2:=n0_;have BK3:=n1_;have BK5:=n2_;have HO:=n3_;have HI:=n4_;have HB:=n5_;clear n0_ n1_ n2_ n3_ n4_ n5_;clear hi_ hb_ hk_;(try clear hp0 hp1);have hp9:=ringFault_box _ _ _ _ _ _ BK5.out;obtain⟨hp0,hp1⟩:=hp9))
 go_wp2_with fail
 clear hp0 hp1
 obtain⟨wx,hwx⟩:∃ wx,wx=wn:=⟨_,rfl⟩
 subst hwx
 have n0_:=zM (below_drew1 HB.out)
 have n1_:=zM (blk_drew BK2.out)
 have n2_:=zM (blk_drew BK3.out)
 have n3_:=zM (blk_drew BK5.out)
 have n4_:=zM (Kd.S_drew HO.out)
 have n5_:=zM (IsS112.drew HI.out)
 clear HB BK2 BK3 BK5 HO HI
 have HB:=n0_
 have BK2:=n1_
 have BK3:=n2_
 have BK5:=n3_
 have HO:=n4_
 have HI:=n5_
 clear n0_ n1_ n2_ n3_ n4_ n5_
 refine start_ (n:=6) (S:=fun w'=>w'.cell? ⟨g5,0,none⟩=some (.int .i64 p)∧w'.cell? ⟨g5,1,none⟩=some (.slice Al l.length cl)) (ds:=[4,5]) #[false,false,false,false,false,false] (by kernel_rfl) rfl rfl ⟨(blk_cell BK5.out 0).trans rfl,(blk_cell BK5.out 1).trans rfl⟩ (fun hHeld=>?_);refine with_tabW spec_DrawSameRings.tab5 spec_DrawSameRings.bits5 (fun HT_ HW_=>?_)
 generalize wx.drew=w9 at HB BK2 BK3 BK5 HO HI hHeld ⊢
 refine take_ (i:=0) (N:=some 14) (v:=?_) (a':=?_) #[true,false,false,false,false,false] rfl rfl (take_ofW HT_.out HW_.out (by kernel_rfl)) (fun _ _ _ h=>h) (Or.inl ⟨zq145,?_⟩) hHeld ?_ ?_
 rotate_left
 ·rintro w' ⟨s0,s1⟩
  go_simp
  with_reducible rfl
 rotate_left
 ·simp only[Act.put,List.setIfInBounds_toArray,List.set_cons_zero,List.set_cons_succ,i64_w,i32_w]
  rfl
 refine pure_ (i:=1) (N:=some 15) (v:=?_) (a':=?_) #[true,true,false,false,false,false] rfl rfl (any_of HT_.out (by kernel_rfl)) (fun _ _ _ h=>h) (Or.inl ⟨zq145,?_⟩) ?_ ?_
 rotate_left
 ·intro w'
  go_simp
  with_reducible rfl
 rotate_left
 ·simp only[Act.put,List.setIfInBounds_toArray,List.set_cons_zero,List.set_cons_succ,i64_w,i32_w]
  rfl
 refine one_ (i:=2) (N:=some 16) #[true,true,true,false,false,false] rfl rfl (one_of HT_.out (by kernel_rfl)) zq16 (fun K hK=>?_)
 refine goes_ Try.func60 (by kernel_rfl) rfl #[.slice A0 l0.length c0] zq145 rfl rfl zq84 ?_
 with_reducible refine(spec_l1Source.calls A0 c0 l0 l0s n0 w _ HB.out HR.out HC.out HSR.out).mono ?_
 rintro e w10 ⟨gn,rfl,hi_,hb_,hb⟩
 refine⟨_,rfl,?_⟩
 have n0_:=zM (blk_below (g:=g2) (o:=.cells #[.int .i64 0,.slice none 0 0] 29 (0,0)) BK2.out hb)
 have n1_:=zM (blk_below (g:=g3) (o:=.cells #[.int .i64 0,.slice none 0 0] 29 (0,0)) BK3.out hb)
 have n2_:=zM (blk_below (g:=g5) (o:=.cells #[.int .i64 p,.slice Al l.length cl] 29 (0,0)) BK5.out hb)
 have n3_:=zM (Kd.S_below HO.out hb)
 have n4_:=zM hb_
 have n5_:=zM hi_
 clear BK2 BK3 BK5 HO HB HI
 have BK2:=n0_
 have BK3:=n1_
 have BK5:=n2_
 have HO:=n3_
 have HB:=n4_
 have HI:=n5_
 clear n0_ n1_ n2_ n3_ n4_ n5_
 clear hb hb_ hi_
 refine hK.out _ _ ⟨(blk_cell BK5.out 0).trans rfl,(blk_cell BK5.out 1).trans rfl⟩ (fun hHeld=>?_)
 clear hK K
 refine norm_ (a':=?_) ?_ ?_
 rotate_left
 ·show Act.put _ (some 16) _=_
  simp only[Act.put,List.setIfInBounds_toArray,List.set_cons_zero,List.set_cons_succ,i64_w,i32_w]
  rfl
 refine one_ (i:=3) (N:=some 17) #[true,true,true,true,false,false] rfl rfl (one_of HT_.out (by kernel_rfl)) zq16 (fun K hK=>?_)
 refine goes_ Try.func62 (by kernel_rfl) rfl #[.pointer (some ⟨gn,0,none⟩)] zq145 rfl rfl zq84 ?_
 with_reducible refine(spec_l4Bent.calls k gn l0s n0 p2 l2 s3 w _ HI.out HB.out HBe.out).mono ?_
 rintro e w11 ⟨vb,rfl,hob,hi_,hb_,hk_⟩
 refine⟨_,rfl,?_⟩
 have hz_:=Kd.V_mono (Kd.V_bound hob) (ok':=fun k_=>w.heap.size≤k_∧k_≠g2∧k_≠g3) (fun k_ h_=>⟨Nat.le_trans HB.out.size h_.1,fun e_=>by have:=blk_lt BK2.out;have:=h_.1;omega,fun e_=>by have:=blk_lt BK3.out;have:=h_.1;omega⟩)
 have ha_:=Kd.S_keep (IsS112.apartS HI.out HO.out zq16) hk_ (fun k_ h_=>h_.2)
 have n0_:=zM (KeepBut.blk (row:=none) hk_ (g':=g2) (o:=.cells #[.int .i64 0,.slice none 0 0] 29 (0,0)) BK2.out (fun e_=>IsS112.ne_blk HI.out BK2.out zq16 e_.symm) zq101)
 have n1_:=zM (KeepBut.blk (row:=none) hk_ (g':=g3) (o:=.cells #[.int .i64 0,.slice none 0 0] 29 (0,0)) BK3.out (fun e_=>IsS112.ne_blk HI.out BK3.out zq16 e_.symm) zq101)
 have n2_:=zM (KeepBut.blk (row:=none) hk_ (g':=g5) (o:=.cells #[.int .i64 p,.slice Al l.length cl] 29 (0,0)) BK5.out (fun e_=>IsS112.ne_blk HI.out BK5.out zq16 e_.symm) zq101)
 have n3_:=zM (Kd.S_mono ha_ (fun _ h_=>h_.1))
 have n4_:=zM hb_
 have n5_:=zM hz_
 clear BK2 BK3 BK5 HO HB
 have BK2:=n0_
 have BK3:=n1_
 have BK5:=n2_
 have HO:=n3_
 have HB:=n4_
 have HVb:=n5_
 clear n0_ n1_ n2_ n3_ n4_ n5_
 clear hi_ hb_ hk_ hob hz_ ha_ HI
 have HVa:=zM (Kd.V_mono (Kd.S_V (base':=w.heap.size) (Kd.S_bound (Kd.S_types (Kd.S_types HO.out BK2.out zq16) BK3.out zq16))) (ok':=fun k_=>w.heap.size≤k_∧k_≠g2∧k_≠g3) (fun k_ h_=>⟨h_.2.1,h_.1.1.2,h_.1.2⟩))
 clear HO
 obtain⟨Ab,cb,eb_,_,_⟩:=HVb.out
 subst eb_
 refine hK.out _ _ ⟨(blk_cell BK5.out 0).trans rfl,(blk_cell BK5.out 1).trans rfl⟩ (fun hHeld=>?_)
 clear hK K
 refine norm_ (a':=?_) ?_ ?_
 rotate_left
 ·show Act.put _ (some 17) _=_
  simp only[Act.put,List.setIfInBounds_toArray,List.set_cons_zero,List.set_cons_succ,i64_w,i32_w]
  rfl
 clear BK5
 refine last_ (i:=4) (N:=none) #[true,true,true,true,true,false] rfl rfl (one_of HT_.out (by kernel_rfl)) zq16 (fun K hK=>?_)
 rw[if_pos zq145]
 refine wp_store_row 29 (.tmp 2) (.tmp 14) rfl g2 #[.int .i64 p,.slice Al l.length cl] rfl rfl 29 #[.int .i64 0,.slice none 0 0] BK2.out (by kernel_rfl) rfl zq133 ?_
 have hgr:=grown_setRow w11 g2 #[.int .i64 p,.slice Al l.length cl]
 have hbk:=setRow_heap w11 g2 _ #[.int .i64 p,.slice Al l.length cl] 29 (0,0) BK2.out
 generalize w11.setRow g2 #[.int .i64 p,.slice Al l.length cl]=w12 at hgr hbk ⊢
 have n0_:=zM (below_grown1 HB.out hgr GE2.out)
 have n1_:=zM (blk_grown1 (g':=g3) (ob:=.cells #[.int .i64 0,.slice none 0 0] 29 (0,0)) BK3.out hgr NE3_2.out)
 have n2_:=zM hbk
 have n3_:=zM (Kd.V_grown HVa.out hgr (fun k_ h_ e_=>absurd (Option.some.inj e_) h_.2.1))
 have n4_:=zM (Kd.V_grown HVb.out hgr (fun k_ h_ e_=>absurd (Option.some.inj e_) h_.2.1))
 clear HB BK3 BK2 HVa HVb
 have HB:=n0_
 have BK3:=n1_
 have BK2:=n2_
 have HVa:=n3_
 have HVb:=n4_
 clear n0_ n1_ n2_ n3_ n4_
 clear hbk hgr
 refine hK.out _ _ ?_
 clear hK K
 refine last_ (i:=5) (N:=none) #[true,true,true,true,true,true] rfl rfl (one_of HT_.out (by kernel_rfl)) zq16 (fun K hK=>?_)
 rw[if_pos zq145]
 refine wp_store_row 29 (.tmp 3) (.tmp 17) rfl g3 #[.int .i64 p2,.slice Ab l2.length cb] rfl rfl 29 #[.int .i64 0,.slice none 0 0] BK3.out (by kernel_rfl) rfl zq133 ?_
 have hgr:=grown_setRow w12 g3 #[.int .i64 p2,.slice Ab l2.length cb]
 have hbk:=setRow_heap w12 g3 _ #[.int .i64 p2,.slice Ab l2.length cb] 29 (0,0) BK3.out
 generalize w12.setRow g3 #[.int .i64 p2,.slice Ab l2.length cb]=w13 at hgr hbk ⊢
 have n0_:=zM (below_grown1 HB.out hgr GE3.out)
 have n1_:=zM (blk_grown1 (g':=g2) (ob:=.cells #[.int .i64 p,.slice Al l.length cl] 29 (0,0)) BK2.out hgr NE2_3.out)
 have n2_:=zM hbk
 have n3_:=zM (Kd.V_grown HVa.out hgr (fun k_ h_ e_=>absurd (Option.some.inj e_) h_.2.2))
 have n4_:=zM (Kd.V_grown HVb.out hgr (fun k_ h_ e_=>absurd (Option.some.inj e_) h_.2.2))
 clear HB BK2 BK3 HVa HVb
 have HB:=n0_
 have BK2:=n1_
 have BK3:=n2_
 have HVa:=n3_
 have HVb:=n4_
 clear n0_ n1_ n2_ n3_ n4_
 clear hbk hgr
 refine hK.out _ _ ?_
 clear hK K
 refine done_ (done_of HT_.out (by kernel_rfl)) ?_
 go_wp2_with fail
 refine bodyPost_ret (results_cc rfl _ _ g2 g3 29 29 #[.int .i64 p,.slice Al l.length cl] #[.int .i64 p2,.slice Ab l2.length cb] (0,0) (0,0) _ _ rfl BK2.out Try.underlying29 rfl (by kernel_rfl) rfl BK3.out Try.underlying29 rfl (by kernel_rfl)) rfl ?_
 exact⟨_,_,rfl,Kd.V_mono HVa.out (fun _ h_=>h_.1),Kd.V_mono HVb.out (fun _ h_=>h_.1),HB.out⟩
def spec_DrawSameRings.f (k:Nat) (l0:List Int):Option (Int × List S25 × Int × List S25):=(spec_l1Source.f l0).bind fun t=>(spec_l4Draw.f k t.1 t.2).bind fun u=>(spec_l1Chance.f t.1 u.2.2 2).bind fun c=>if c.1=true then (if okL u.2.1 then some (u.1,u.2.1,u.1,u.2.1) else none) else (spec_l4Bent.f k t.1 t.2).bind fun b=>some (u.1,u.2.1,b.1,b.2.1)
theorem spec_DrawSameRings.mono:∀ a0 k,LeO (spec_DrawSameRings.f k a0) (spec_DrawSameRings.f (k+1) a0):=by
 intro a0 k
 unfold spec_DrawSameRings.f
 repeat' first
  | (with_reducible exact LeO.refl _)
  | (with_reducible exact LeO.none _)
  | (with_reducible exact spec_l4Draw.mono _ _ _)
  | (with_reducible exact spec_l4Bent.mono _ _ _)
  | (with_reducible refine LeO.ite ?_ ?_)
  | (with_reducible refine LeO.bind ?_ (fun _=>?_))
theorem spec_DrawSameRings.calls (k:Nat) (A0:Option Addr) (c0:Nat) (l0:List Int) (r1:Int) (r2:List S25) (r3:Int) (r4:List S25) (w:World) (hr0:Kd.C (Kd.int .u8) w A0 l0.length l0) (hc0:l0.length≤c0) (h:spec_DrawSameRings.f k l0=some (r1,r2,r3,r4)) :
  Calls Try.prog 20 #[.slice A0 l0.length c0] w fun e w'=>∃ v1_ v3_:Value,e=.returned (.tuple #[.agg #[.int .i64 r1,v1_],.agg #[.int .i64 r3,v3_]])∧Kd.V k25 25 w' w.heap.size (fun k_=>(w.heap.size≤k_)) v1_ r2∧Kd.V k25 25 w' w.heap.size (fun k_=>(w.heap.size≤k_)) v3_ r4∧Below w.heap.size w w':=by
 unfold spec_DrawSameRings.f at h
 have HR:=zM hr0
 have HC:=zM hc0
 have HB:=zM (Below.refl w.heap.size w)
 obtain⟨⟨l0s,n0⟩,hs,h⟩:=Option.bind_eq_some_iff.mp h
 obtain⟨⟨p,l,s1⟩,hd,h⟩:=Option.bind_eq_some_iff.mp h
 obtain⟨⟨b,s2⟩,hc,h⟩:=Option.bind_eq_some_iff.mp h
 simp only at h
 cases b with
 | true=>
  rw[if_pos rfl] at h
  by_cases hm:okL l
  case neg=>rw[if_neg hm] at h;cases h
  rw[if_pos hm] at h
  simp only[Option.some.injEq,Prod.mk.injEq] at h
  obtain⟨rfl,rfl,rfl,rfl⟩:=h
  exact spec_DrawSameRings.c1 k A0 c0 l0 w HR HC HB l0s n0 p s1 s2 l ⟨hs⟩ ⟨hd⟩ ⟨hc⟩ ⟨hm⟩
 | false=>
  rw[if_neg zq16] at h
  obtain⟨⟨p2,l2,s3⟩,hb,h⟩:=Option.bind_eq_some_iff.mp h
  simp only[Option.some.injEq,Prod.mk.injEq] at h
  obtain⟨rfl,rfl,rfl,rfl⟩:=h
  exact spec_DrawSameRings.c2 k A0 c0 l0 w HR HC HB l0s n0 p s1 s2 l ⟨hs⟩ ⟨hd⟩ ⟨hc⟩ p2 l2 s3 ⟨hb⟩
end Go.Proofs.Ytmnhddedcbkpoaa.All
