-- Laid by wip/shake.py of this repo out of this claim's texts. Not trusted: Lean checks it.
import Derived.Test.YtmnhddedcbkpoaaAb0s
import Derived.Test.YtmnhddedcbkpoaaBytes
import Derived.Test.YtmnhddedcbkpoaaAllx24s
import Derived.Test.YtmnhddedcbkpoaaAllx553s
import Derived.Test.YtmnhddedcbkpoaaAllx550s
import Derived.Lib.SliceRun
namespace Go.Proofs.Ytmnhddedcbkpoaa.All
open Go.Proofs.YtmnhddedcbkpoaaW.PrintWords.Aside0 renaming mk→zM
open Go.RowKit Go.Proofs.YtmnhddedcbkpoaaW.PrintWords Go.Proofs.YtmnhddedcbkpoaaW.PrintLast Go.Proofs.YtmnhddedcbkpoaaW.PrintMore
attribute [local go_sem] max2_int min2_int max_two min_two max_three min_three max_four min_four
set_option linter.unusedVariables false
set_option linter.unusedSimpArgs false
def spec_UseKey.f (a0_0:Int) (l0_1:List S25) (a1:Int):Option (Int × Int × List S25):=if okL l0_1 then (if ringFaultL a0_0 l0_1=0 then (if placeL a1 l0_1 0 < 0 then some (4,0,[]) else some (0,a1,l0_1)) else some (ringFaultL a0_0 l0_1,0,[])) else none
set_option maxHeartbeats 4000000 in
set_option maxRecDepth 100000 in
theorem spec_UseKey.calls (a0_0:Int) (A0_1:Option Addr) (c0_1:Nat) (l0_1:List S25) (a1:Int) (r1:Int) (r2:Int) (r3:List S25) (w:World) (hr0_1:Kd.C k25 w A0_1 l0_1.length l0_1) (hc0_1:l0_1.length≤c0_1) (h:spec_UseKey.f a0_0 l0_1 a1=some (r1,r2,r3)) :
  Calls Try.prog 43 #[.agg #[.int .i64 a0_0,.slice A0_1 l0_1.length c0_1],.int .i64 a1] w fun e w'=>∃ v2_:Value,e=.returned (.agg #[.int .i64 r1,.int .i64 r2,v2_])∧Kd.S k25 25 w' w.heap.size (fun _=>True) v2_ r3∧Below w.heap.size w w':=by
 unfold spec_UseKey.f at h
 by_cases hm:okL l0_1
 ·rw[if_pos hm] at h
  have HM:=zM hm
  have HLB:Aside0 (l0_1.length < 140737488355328):=⟨by have:=hm.1;omega⟩
  clear hm
  have HR:=zM hr0_1
  have HC:=zM hc0_1
  clear hr0_1 hc0_1
  have HB:=zM (Below.refl w.heap.size w)
  by_cases hf:ringFaultL a0_0 l0_1=0
  ·have HF:Aside0 (spec_RingFault.f a0_0 l0_1=some 0):=⟨by unfold spec_RingFault.f;rw[hf]⟩
   rw[if_pos hf] at h
   clear hf
   by_cases hq:placeL a1 l0_1 0 < 0
   ·rw[if_pos hq] at h
    simp only[Option.some.injEq,Prod.mk.injEq] at h
    obtain⟨rfl,rfl,rfl⟩:=h
    obtain⟨q,HQ⟩:∃ q,Aside0 (placeL a1 l0_1 0=q):=⟨_,⟨rfl⟩⟩
    rw[HQ.out] at hq
    have hd:=decide_eq_true hq
    clear hq
    go_enter Try.func43,Try.ntmps43
    go_wp2_with (first
      | ((with_reducible refine gate_dst (N:=2) rfl ?_);refine box_event ?hg (N:=2) ?hd (cs:=#[.int .i64 a0_0,.slice A0_1 l0_1.length c0_1]) (t:=29) ?hr ?_;(case hd=>rfl);(case hg=>rfl);(case hr=>first|(go_simp;done)|(go_simp;rfl));intro g2 hg w2 hbox hb;have n0_:=zM (below_step zq0 hb);have n1_:=zM hbox;have n2_:=zM (by rw[hg];exact below_size zq0:w.heap.size≤g2);clear HB;have HB:=n0_;have BK2:=n1_;have GE2:=n2_;clear n0_ n1_ n2_;clear hb hbox hg;(try clear hr0 hr1);have hr9:=ringFault_box _ _ _ _ _ _ BK2.out;obtain⟨hr0,hr1⟩:=hr9)
      | ((with_reducible refine gate_dst (N:=4) rfl ?_);refine box_event ?hg (N:=4) ?hd (cs:=#[.int .i64 0,.int .i64 0,.slice none 0 0]) (t:=31) ?hr ?_;(case hd=>rfl);(case hg=>rfl);(case hr=>first|(go_simp;done)|(go_simp;rfl));intro g4 hg w4 hbox hb;have n0_:=zM (below_step zq0 hb);have n1_:=zM (blk_below (g:=g2) (o:=.cells #[.int .i64 a0_0,.slice A0_1 l0_1.length c0_1] 29 (0,0)) zq1 hb);have n2_:=zM hbox;have n3_:=zM (by rw[hg];exact below_size zq0:w.heap.size≤g4);clear HB BK2;have HB:=n0_;have BK2:=n1_;have BK4:=n2_;have GE4:=n3_;clear n0_ n1_ n2_ n3_;clear hb hbox hg;(try clear hr0 hr1);have hr9:=ringFault_box _ _ _ _ _ _ BK2.out;obtain⟨hr0,hr1⟩:=hr9)
      | (go_at_call 37;refine(spec_RingFault.calls a0_0 A0_1 c0_1 l0_1 0 _ (Kd.C_below HR.out zq0) HC.out HF.out).mono ?_;rintro e wk ⟨rfl,hb⟩;have n0_:=zM (below_step zq0 hb);have n1_:=zM (blk_below (g:=g2) (o:=.cells #[.int .i64 a0_0,.slice A0_1 l0_1.length c0_1] 29 (0,0)) zq1 hb);have n2_:=zM (blk_below (g:=g4) (o:=.cells #[.int .i64 0,.int .i64 0,.slice none 0 0] 31 (0,0)) zq2 hb);clear HB BK2 BK4;have HB:=n0_;have BK2:=n1_;have BK4:=n2_;clear n0_ n1_ n2_;clear hb;(try clear hr0 hr1);have hr9:=ringFault_box _ _ _ _ _ _ BK2.out;obtain⟨hr0,hr1⟩:=hr9)
      | (go_at_call 84;refine(l4Find_as a1 a0_0 A0_1 c0_1 g2 l0_1 q HQ.out _ zq1 (Kd.C_below HR.out zq0) HLB.out).mono ?_;rintro e wk ⟨rfl,hb⟩;have n0_:=zM (below_step zq0 hb);have n1_:=zM (blk_below (g:=g2) (o:=.cells #[.int .i64 a0_0,.slice A0_1 l0_1.length c0_1] 29 (0,0)) zq1 hb);have n2_:=zM (blk_below (g:=g4) (o:=.cells #[.int .i64 0,.int .i64 0,.slice none 0 0] 31 (0,0)) zq2 hb);clear HB BK2 BK4;have HB:=n0_;have BK2:=n1_;have BK4:=n2_;clear n0_ n1_ n2_;clear hb;(try clear hr0 hr1);have hr9:=ringFault_box _ _ _ _ _ _ BK2.out;obtain⟨hr0,hr1⟩:=hr9)
      | ((with_reducible refine gate_store (t:=31) (p:=4) rfl ?_);refine row_event ?hg (ty:=31) (p:=4) (y:=?yo_22) ?ho ?hn (g:=g4) (old:=#[.int .i64 0,.int .i64 0,.slice none 0 0]) (e:=31) (cells:=#[.int .i64 4,.int .i64 0,.slice none 0 0]) ?hx ?hy ?hk ?hi ?hd ?h1 ?_;(case ho=>rfl);(case hg=>rfl);(case hn=>rfl);(case hx=>rfl);(case hy=>rfl);(case hk=>exact zq2);(case hi=>kernel_rfl);(case hd=>rfl);(case h1=>exact zq63);intro wr_ hbk hgr;have n0_:=zM (below_grown1 zq0 hgr GE4.out);have n1_:=zM (blk_grown1 (g':=g2) (ob:=.cells #[.int .i64 a0_0,.slice A0_1 l0_1.length c0_1] 29 (0,0)) zq1 hgr (blk_ne zq1 zq2 zq17));have n2_:=zM hbk;clear HB BK2 BK4;have HB:=n0_;have BK2:=n1_;have BK4:=n2_;clear n0_ n1_ n2_;clear hbk hgr))
    refine bodyPost_ret (results_cell_row rfl _ _ g4 31 #[.int .i64 4,.int .i64 0,.slice none 0 0] (0,0) _ rfl zq2 Try.underlying31 rfl (by kernel_rfl)) rfl ?_
    exact⟨_,rfl,Kd.S_nil _ _ _ _ _,HB.out⟩
   ·rw[if_neg hq] at h
    obtain⟨q,HQ⟩:∃ q,Aside0 (placeL a1 l0_1 0=q):=⟨_,⟨rfl⟩⟩
    rw[HQ.out] at hq
    (try rw[HQ.out] at h)
    have hd:=decide_eq_false hq
    simp only[Option.some.injEq,Prod.mk.injEq] at h
    obtain⟨rfl,rfl,rfl⟩:=h
    clear hq
    go_enter Try.func43,Try.ntmps43
    go_wp2_with (first
      | ((with_reducible refine gate_dst (N:=2) rfl ?_);refine box_event ?hg (N:=2) ?hd (cs:=#[.int .i64 a0_0,.slice A0_1 l0_1.length c0_1]) (t:=29) ?hr ?_;(case hd=>rfl);(case hg=>rfl);(case hr=>first|(go_simp;done)|(go_simp;rfl));intro g2 hg w2 hbox hb;have n0_:=zM (below_step zq0 hb);have n1_:=zM hbox;have n2_:=zM (by rw[hg];exact below_size zq0:w.heap.size≤g2);clear HB;have HB:=n0_;have BK2:=n1_;have GE2:=n2_;clear n0_ n1_ n2_;clear hb hbox hg;(try clear hr0 hr1);have hr9:=ringFault_box _ _ _ _ _ _ BK2.out;obtain⟨hr0,hr1⟩:=hr9)
      | ((with_reducible refine gate_dst (N:=4) rfl ?_);refine box_event ?hg (N:=4) ?hd (cs:=#[.int .i64 0,.int .i64 0,.slice none 0 0]) (t:=31) ?hr ?_;(case hd=>rfl);(case hg=>rfl);(case hr=>first|(go_simp;done)|(go_simp;rfl));intro g4 hg w4 hbox hb;have n0_:=zM (below_step zq0 hb);have n1_:=zM (blk_below (g:=g2) (o:=.cells #[.int .i64 a0_0,.slice A0_1 l0_1.length c0_1] 29 (0,0)) zq1 hb);have n2_:=zM hbox;have n3_:=zM (by rw[hg];exact below_size zq0:w.heap.size≤g4);clear HB BK2;have HB:=n0_;have BK2:=n1_;have BK4:=n2_;have GE4:=n3_;clear n0_ n1_ n2_ n3_;clear hb hbox hg;(try clear hr0 hr1);have hr9:=ringFault_box _ _ _ _ _ _ BK2.out;obtain⟨hr0,hr1⟩:=hr9)
      | (go_at_call 37;refine(spec_RingFault.calls a0_0 A0_1 c0_1 l0_1 0 _ (Kd.C_below HR.out zq0) HC.out HF.out).mono ?_;rintro e wk ⟨rfl,hb⟩;have n0_:=zM (below_step zq0 hb);have n1_:=zM (blk_below (g:=g2) (o:=.cells #[.int .i64 a0_0,.slice A0_1 l0_1.length c0_1] 29 (0,0)) zq1 hb);have n2_:=zM (blk_below (g:=g4) (o:=.cells #[.int .i64 0,.int .i64 0,.slice none 0 0] 31 (0,0)) zq2 hb);clear HB BK2 BK4;have HB:=n0_;have BK2:=n1_;have BK4:=n2_;clear n0_ n1_ n2_;clear hb;(try clear hr0 hr1);have hr9:=ringFault_box _ _ _ _ _ _ BK2.out;obtain⟨hr0,hr1⟩:=hr9)
      | (go_at_call 84;refine(l4Find_as a1 a0_0 A0_1 c0_1 g2 l0_1 q HQ.out _ zq1 (Kd.C_below HR.out zq0) HLB.out).mono ?_;rintro e wk ⟨rfl,hb⟩;have n0_:=zM (below_step zq0 hb);have n1_:=zM (blk_below (g:=g2) (o:=.cells #[.int .i64 a0_0,.slice A0_1 l0_1.length c0_1] 29 (0,0)) zq1 hb);have n2_:=zM (blk_below (g:=g4) (o:=.cells #[.int .i64 0,.int .i64 0,.slice none 0 0] 31 (0,0)) zq2 hb);clear HB BK2 BK4;have HB:=n0_;have BK2:=n1_;have BK4:=n2_;clear n0_ n1_ n2_;clear hb;(try clear hr0 hr1);have hr9:=ringFault_box _ _ _ _ _ _ BK2.out;obtain⟨hr0,hr1⟩:=hr9)
      | (go_at_call 67;refine(l4Copy_at g2 a0_0 l0_1 A0_1 c0_1 _ zq1 (Kd.C_below HR.out zq0) HM.out).mono ?_;rintro e wk ⟨vc,rfl,ho,hb⟩;have hown:=Kd.S_lower ho (below_size zq0);clear ho;have n0_:=zM (below_step zq0 hb);have n1_:=zM (blk_below (g:=g2) (o:=.cells #[.int .i64 a0_0,.slice A0_1 l0_1.length c0_1] 29 (0,0)) zq1 hb);have n2_:=zM (blk_below (g:=g4) (o:=.cells #[.int .i64 0,.int .i64 0,.slice none 0 0] 31 (0,0)) zq2 hb);clear HB BK2 BK4;have HB:=n0_;have BK2:=n1_;have BK4:=n2_;clear n0_ n1_ n2_;clear hb;obtain⟨Ac,cc,ec⟩:=Kd.S_slice hown;subst ec;have HOo:=zM hown;clear hown)
      | ((with_reducible refine gate_dst (N:=6) rfl ?_);refine box_event ?hg (N:=6) ?hd (cs:=#[.int .i64 0,.slice none 0 0]) (t:=29) ?hr ?_;(case hd=>rfl);(case hg=>rfl);(case hr=>first|(go_simp;done)|(go_simp;rfl));intro g6 hg w6 hbox hb;have n0_:=zM (below_step zq0 hb);have n1_:=zM (blk_below (g:=g2) (o:=.cells #[.int .i64 a0_0,.slice A0_1 l0_1.length c0_1] 29 (0,0)) zq1 hb);have n2_:=zM (blk_below (g:=g4) (o:=.cells #[.int .i64 0,.int .i64 0,.slice none 0 0] 31 (0,0)) zq2 hb);have n3_:=zM (Kd.S_below zq29 hb);have n4_:=zM hbox;have n5_:=zM (by rw[hg];exact below_size zq0:w.heap.size≤g6);have n6_:=zM (by rw[hg];exact Nat.ne_of_lt (blk_lt (g:=g2) (o:=.cells #[.int .i64 a0_0,.slice A0_1 l0_1.length c0_1] 29 (0,0)) zq1):g2≠g6);have n7_:=zM (by rw[hg];exact Nat.ne_of_gt (blk_lt (g:=g2) (o:=.cells #[.int .i64 a0_0,.slice A0_1 l0_1.length c0_1] 29 (0,0)) zq1):g6≠g2);clear HB BK2 BK4 HOo;have HB:=n0_;have BK2:=n1_;have BK4:=n2_;have HOo:=n3_;have BK6:=n4_;have GE6:=n5_;have NE2_6:=n6_;have NE6_2:=n7_;clear n0_ n1_ n2_ n3_ n4_ n5_ n6_ n7_;clear hb hbox hg)
      | ((with_reducible refine gate_store (t:=29) (p:=6) rfl ?_);refine row_event ?hg (ty:=29) (p:=6) (y:=?yo_29) ?ho ?hn (g:=g6) (old:=#[.int .i64 0,.slice none 0 0]) (e:=29) (cells:=#[.int .i64 a0_0,.slice Ac l0_1.length cc]) ?hx ?hy ?hk ?hi ?hd ?h1 ?_;(case ho=>rfl);(case hg=>rfl);(case hn=>rfl);(case hx=>rfl);(case hy=>rfl);(case hk=>exact zq9);(case hi=>kernel_rfl);(case hd=>rfl);(case h1=>exact zq63);intro wr_ hbk hgr;have n0_:=zM (below_grown1 zq0 hgr GE6.out);have n1_:=zM (blk_grown1 (g':=g2) (ob:=.cells #[.int .i64 a0_0,.slice A0_1 l0_1.length c0_1] 29 (0,0)) zq1 hgr NE2_6.out);have n2_:=zM (blk_grown1 (g':=g4) (ob:=.cells #[.int .i64 0,.int .i64 0,.slice none 0 0] 31 (0,0)) zq2 hgr (blk_ne zq2 zq9 zq17));have n3_:=zM (S_grown_types zq29 zq9 zq17 hgr);have n4_:=zM hbk;clear HB BK2 BK4 HOo BK6;have HB:=n0_;have BK2:=n1_;have BK4:=n2_;have HOo:=n3_;have BK6:=n4_;clear n0_ n1_ n2_ n3_ n4_;clear hbk hgr;have hs0:=ringFault_box _ _ _ _ _ _ BK6.out;obtain⟨hs0,hs1⟩:=hs0;have hfz:=blk_frozen BK6.out 0)
      | ((with_reducible refine gate_store (t:=2) (p:=19) rfl ?_);refine cell_event ?hg (t:=2) (p:=19) (v:=?vo_30) ?ho ?hn (i:=0) (x:=(.int .i64 a1)) (cs:=#[.int .i64 a0_0,.slice Ac l0_1.length cc]) (g:=g6) (e:=29) ?hk ?hr (cs':=#[.int .i64 a1,.slice Ac l0_1.length cc]) ?hc ?_;(case ho=>rfl);(case hg=>rfl);(case hn=>rfl);(case hk=>exact zq9);(case hr=>first|(go_simp;done)|(go_simp;rfl));(case hc=>rfl);intro wc hbk hgr;have n0_:=zM (below_grown1 zq0 hgr GE6.out);have n1_:=zM (blk_grown1 (g':=g2) (ob:=.cells #[.int .i64 a0_0,.slice A0_1 l0_1.length c0_1] 29 (0,0)) zq1 hgr NE2_6.out);have n2_:=zM (blk_grown1 (g':=g4) (ob:=.cells #[.int .i64 0,.int .i64 0,.slice none 0 0] 31 (0,0)) zq2 hgr (blk_ne zq2 zq9 zq17));have n3_:=zM (S_grown_types zq29 zq9 zq17 hgr);have n4_:=zM hbk;clear HB BK2 BK4 HOo BK6;have HB:=n0_;have BK2:=n1_;have BK4:=n2_;have HOo:=n3_;have BK6:=n4_;clear n0_ n1_ n2_ n3_ n4_;clear hbk hgr;clear hs0 hs1 hfz;have hs0:=ringFault_box _ _ _ _ _ _ BK6.out;obtain⟨hs0,hs1⟩:=hs0)
      | ((with_reducible refine gate_store (t:=31) (p:=4) rfl ?_);refine row_event ?hg (ty:=31) (p:=4) (y:=?yo_31) ?ho ?hn (g:=g4) (old:=#[.int .i64 0,.int .i64 0,.slice none 0 0]) (e:=31) (cells:=#[.int .i64 0,.int .i64 a1,.slice Ac l0_1.length cc]) ?hx ?hy ?hk ?hi ?hd ?h1 ?_;(case ho=>rfl);(case hg=>rfl);(case hn=>rfl);(case hx=>rfl);(case hy=>rfl);(case hk=>exact zq2);(case hi=>kernel_rfl);(case hd=>rfl);(case h1=>exact zq63);intro wr_ hbk hgr;have n0_:=zM (below_grown1 zq0 hgr GE4.out);have n1_:=zM (blk_grown1 (g':=g2) (ob:=.cells #[.int .i64 a0_0,.slice A0_1 l0_1.length c0_1] 29 (0,0)) zq1 hgr (blk_ne zq1 zq2 zq17));have n2_:=zM (blk_grown1 (g':=g6) (ob:=.cells #[.int .i64 a1,.slice Ac l0_1.length cc] 29 (0,0)) zq9 hgr (blk_ne zq9 zq2 zq17));have n3_:=zM (S_grown_types zq29 zq2 zq17 hgr);have n4_:=zM hbk;clear HB BK2 BK6 HOo BK4;have HB:=n0_;have BK2:=n1_;have BK6:=n2_;have HOo:=n3_;have BK4:=n4_;clear n0_ n1_ n2_ n3_ n4_;clear hbk hgr))
    refine bodyPost_ret (results_cell_row rfl _ _ g4 31 #[.int .i64 0,.int .i64 a1,.slice Ac l0_1.length cc] (0,0) _ rfl zq2 Try.underlying31 rfl (by kernel_rfl)) rfl ?_
    exact⟨_,rfl,HOo.out,HB.out⟩
  ·obtain⟨t,ht⟩:∃ t,t=ringFaultL a0_0 l0_1:=⟨_,rfl⟩
   rw[if_neg hf] at h
   rw[← ht] at h hf
   simp only[Option.some.injEq,Prod.mk.injEq] at h
   obtain⟨rfl,rfl,rfl⟩:=h
   have HF:Aside0 (spec_RingFault.f a0_0 l0_1=some t):=⟨by unfold spec_RingFault.f;rw[ht]⟩
   have ht1:(t == 0)=false:=beq_eq_false_iff_ne.mpr hf
   have ht2:(t != 0)=true:=bne_iff_ne.mpr hf
   clear hf ht
   go_enter Try.func43,Try.ntmps43
   go_wp2_with (first
     | ((with_reducible refine gate_dst (N:=2) rfl ?_);refine box_event ?hg (N:=2) ?hd (cs:=#[.int .i64 a0_0,.slice A0_1 l0_1.length c0_1]) (t:=29) ?hr ?_;(case hd=>rfl);(case hg=>rfl);(case hr=>first|(go_simp;done)|(go_simp;rfl));intro g2 hg w2 hbox hb;have n0_:=zM (below_step zq0 hb);have n1_:=zM hbox;have n2_:=zM (by rw[hg];exact below_size zq0:w.heap.size≤g2);clear HB;have HB:=n0_;have BK2:=n1_;have GE2:=n2_;clear n0_ n1_ n2_;clear hb hbox hg;(try clear hr0 hr1);have hr9:=ringFault_box _ _ _ _ _ _ BK2.out;obtain⟨hr0,hr1⟩:=hr9)
     | ((with_reducible refine gate_dst (N:=4) rfl ?_);refine box_event ?hg (N:=4) ?hd (cs:=#[.int .i64 0,.int .i64 0,.slice none 0 0]) (t:=31) ?hr ?_;(case hd=>rfl);(case hg=>rfl);(case hr=>first|(go_simp;done)|(go_simp;rfl));intro g4 hg w4 hbox hb;have n0_:=zM (below_step zq0 hb);have n1_:=zM (blk_below (g:=g2) (o:=.cells #[.int .i64 a0_0,.slice A0_1 l0_1.length c0_1] 29 (0,0)) zq1 hb);have n2_:=zM hbox;have n3_:=zM (by rw[hg];exact below_size zq0:w.heap.size≤g4);clear HB BK2;have HB:=n0_;have BK2:=n1_;have BK4:=n2_;have GE4:=n3_;clear n0_ n1_ n2_ n3_;clear hb hbox hg;(try clear hr0 hr1);have hr9:=ringFault_box _ _ _ _ _ _ BK2.out;obtain⟨hr0,hr1⟩:=hr9)
     | (go_at_call 37;refine(spec_RingFault.calls a0_0 A0_1 c0_1 l0_1 t _ (Kd.C_below HR.out zq0) HC.out HF.out).mono ?_;rintro e wk ⟨rfl,hb⟩;have n0_:=zM (below_step zq0 hb);have n1_:=zM (blk_below (g:=g2) (o:=.cells #[.int .i64 a0_0,.slice A0_1 l0_1.length c0_1] 29 (0,0)) zq1 hb);have n2_:=zM (blk_below (g:=g4) (o:=.cells #[.int .i64 0,.int .i64 0,.slice none 0 0] 31 (0,0)) zq2 hb);clear HB BK2 BK4;have HB:=n0_;have BK2:=n1_;have BK4:=n2_;clear n0_ n1_ n2_;clear hb;(try clear hr0 hr1);have hr9:=ringFault_box _ _ _ _ _ _ BK2.out;obtain⟨hr0,hr1⟩:=hr9)
     | ((with_reducible refine gate_store (t:=31) (p:=4) rfl ?_);refine row_event ?hg (ty:=31) (p:=4) (y:=?yo_35) ?ho ?hn (g:=g4) (old:=#[.int .i64 0,.int .i64 0,.slice none 0 0]) (e:=31) (cells:=#[.int .i64 t,.int .i64 0,.slice none 0 0]) ?hx ?hy ?hk ?hi ?hd ?h1 ?_;(case ho=>rfl);(case hg=>rfl);(case hn=>rfl);(case hx=>rfl);(case hy=>rfl);(case hk=>exact zq2);(case hi=>kernel_rfl);(case hd=>rfl);(case h1=>exact zq63);intro wr_ hbk hgr;have n0_:=zM (below_grown1 zq0 hgr GE4.out);have n1_:=zM (blk_grown1 (g':=g2) (ob:=.cells #[.int .i64 a0_0,.slice A0_1 l0_1.length c0_1] 29 (0,0)) zq1 hgr (blk_ne zq1 zq2 zq17));have n2_:=zM hbk;clear HB BK2 BK4;have HB:=n0_;have BK2:=n1_;have BK4:=n2_;clear n0_ n1_ n2_;clear hbk hgr))
   refine bodyPost_ret (results_cell_row rfl _ _ g4 31 #[.int .i64 t,.int .i64 0,.slice none 0 0] (0,0) _ rfl zq2 Try.underlying31 rfl (by kernel_rfl)) rfl ?_
   exact⟨_,rfl,Kd.S_nil _ _ _ _ _,HB.out⟩
 ·rw[if_neg hm] at h
  cases h
end Go.Proofs.Ytmnhddedcbkpoaa.All
