-- Laid by wip/shake.py of this repo out of this claim's texts. Not trusted: Lean checks it.
import Derived.Test.YtkjgdndaepobiaaAb0s
import Derived.Test.YtkjgdndaepobiaaAllx0s
namespace Go.Proofs.Ytkjgdndaepobiaa.All
open Go.Proofs.YtkjgdndaepobiaaW.PrintWords.Aside0 renaming mk→zM
open Go.RowKit Go.Proofs.YtkjgdndaepobiaaW.PrintWords Go.Proofs.YtkjgdndaepobiaaW.PrintLast Go.Proofs.YtkjgdndaepobiaaW.PrintMore
attribute [local go_sem] max2_int min2_int max_two min_two max_three min_three max_four min_four
set_option linter.unusedVariables false
set_option linter.unusedSimpArgs false
set_option maxHeartbeats 4000000 in
set_option maxRecDepth 100000 in
theorem impl_block_element.calls (m:List (BitVec 8)) (hm0:m.length=16) (w:World) :
  Calls Try.prog 73 #[.agg (cB m)] w fun e w'=>e=.returned (.agg (cE (hiN m) (loN m)))∧Below w.heap.size w w':=by
 have hm:=zM hm0
 clear hm0
 have HB:=zM (Below.refl w.heap.size w)
 go_enter Try.func73,Try.ntmps73
 go_wp2_with (first
  | ((with_reducible refine gate_dst (N:=1) rfl ?_);refine box_event ?hg (N:=1) ?hd (cs:=(cB m)) (t:=61) ?hr ?_;(case hd=>rfl);(case hg=>rfl);(case hr=>first|(go_simp;done)|(go_simp;rfl));intro g1 hg w1 hbox hb;have n0_:=zM (below_step zq0 hb);have n1_:=zM hbox;have n2_:=zM (by rw[hg];exact below_size zq0:w.heap.size≤g1);clear HB;have HB:=n0_;have BK1:=n1_;have GE1:=n2_;clear n0_ n1_ n2_;clear hb hbox hg)
  | ((with_reducible refine gate_dst (N:=2) rfl ?_);refine box_event ?hg (N:=2) ?hd (cs:=(cE 0 0)) (t:=87) ?hr ?_;(case hd=>rfl);(case hg=>rfl);(case hr=>first|(go_simp;done)|(go_simp;rfl));intro g2 hg w2 hbox hb;have n0_:=zM (below_step zq0 hb);have n1_:=zM (blk_below (g:=g1) (o:=.cells (cB m) 61 (0,0)) zq4 hb);have n2_:=zM hbox;have n3_:=zM (by rw[hg];exact below_size zq0:w.heap.size≤g2);clear HB BK1;have HB:=n0_;have BK1:=n1_;have BK2:=n2_;have GE2:=n3_;clear n0_ n1_ n2_ n3_;clear hb hbox hg)
  | ((with_reducible refine gate_dst (N:=3) rfl ?_);refine box_event ?hg (N:=3) ?hd (cs:=(cE 0 0)) (t:=87) ?hr ?_;(case hd=>rfl);(case hg=>rfl);(case hr=>first|(go_simp;done)|(go_simp;rfl));intro g3 hg w3 hbox hb;have n0_:=zM (below_step zq0 hb);have n1_:=zM (blk_below (g:=g1) (o:=.cells (cB m) 61 (0,0)) zq4 hb);have n2_:=zM (blk_below (g:=g2) (o:=.cells (cE 0 0) 87 (0,0)) zq3 hb);have n3_:=zM hbox;have n4_:=zM (by rw[hg];exact below_size zq0:w.heap.size≤g3);have n5_:=zM (by rw[hg];exact Nat.ne_of_lt (blk_lt (g:=g2) (o:=.cells (cE 0 0) 87 (0,0)) zq3):g2≠g3);have n6_:=zM (by rw[hg];exact Nat.ne_of_gt (blk_lt (g:=g2) (o:=.cells (cE 0 0) 87 (0,0)) zq3):g3≠g2);clear HB BK1 BK2;have HB:=n0_;have BK1:=n1_;have BK2:=n2_;have BK3:=n3_;have GE3:=n4_;have NE2_3:=n5_;have NE3_2:=n6_;clear n0_ n1_ n2_ n3_ n4_ n5_ n6_;clear hb hbox hg)
  | ((with_reducible refine gate_store (t:=87) (p:=3) rfl ?_);refine row_event ?hg (ty:=87) (p:=3) (y:=?yo_94) ?ho ?hn (g:=g3) (old:=(cE 0 0)) (e:=87) (cells:=(cE 0 0)) ?hx ?hy ?hk ?hi ?hd ?h1 ?_;(case ho=>rfl);(case hg=>rfl);(case hn=>rfl);(case hx=>rfl);(case hy=>rfl);(case hk=>exact zq10);(case hi=>kernel_rfl);(case hd=>rfl);(case h1=>exact cE_one _ _);intro wr_ hbk hgr;have n0_:=zM (below_grown1 zq0 hgr GE3.out);have n1_:=zM (blk_grown1 (g':=g1) (ob:=.cells (cB m) 61 (0,0)) zq4 hgr (blk_ne zq4 zq10 zq22));have n2_:=zM (blk_grown1 (g':=g2) (ob:=.cells (cE 0 0) 87 (0,0)) zq3 hgr NE2_3.out);have n3_:=zM hbk;clear HB BK1 BK2 BK3;have HB:=n0_;have BK1:=n1_;have BK2:=n2_;have BK3:=n3_;clear n0_ n1_ n2_ n3_;clear hbk hgr))
 go_loopw [6] (fun v6 W=>∃ i:Nat,i≤8∧v6=.int .i64 i∧Aside0 (W.heap[g1]?=some (.cells (cB m) 61 (0,0)))∧Aside0 (W.heap[g2]?=some (.cells (cE 0 0) 87 (0,0)))∧Aside0 (W.heap[g3]?=some (.cells (cE (numN 0 (m.take i)) (numN 0 ((m.drop 8).take i))) 87 (0,0)))∧Aside0 (Below w.heap.size w W)) (fun v6 _=>8 - (intOf v6).toNat)
 case atStart=>exact⟨0,zq9,rfl,BK1,BK2,BK3,HB⟩
 case round=>
  clear BK1 BK2 BK3 HB
  obtain⟨i,hi,rfl,BK1,BK2,BK3,HB⟩:=hrel
  by_cases hl:i < 8
  ·have hlt:=zM hl
   have hc0:wr.cell? ⟨g1,i,none⟩=some (.int .u8 (bI (by_ m i))):=by rw[blk_cell BK1.out,cB_get _ _ (by rw[hm.out];omega)]
   have hx0:wr.cell? ⟨g3,0,none⟩=some (.int .u64 (numN 0 (m.take i):Nat)):=by rw[blk_cell BK3.out];rfl
   have hf:=blk_frozen BK3.out 0
   have i1:=eq_true (show (0:Int)≤(i:Int) by omega)
   have i2:=eq_true (show (i:Int) < 16 by omega)
   go_wp2_with fail
   refine wp_region_tail 9 (by kernel_rfl) (by kernel_rfl) ?_
   simp only[List.take_succ_cons,List.take_zero,List.drop_succ_cons,List.drop_zero]
   repeat still_step
   refine wpStill_nil ?_
   go_wp2_with (first
     | ((with_reducible refine gate_store (t:=85) (p:=17) rfl ?_);refine cell_event ?hg (t:=85) (p:=17) (v:=?vo_95) ?ho ?hn (i:=0) (x:=(.int .u64 (Go.bits .or .u64 (IntKind.u64.wrap (((numN 0 (m.take i):Nat):Int)*256)) (IntKind.u64.wrap (bI (by_ m i)))))) (cs:=(cE (numN 0 (m.take i)) (numN 0 ((m.drop 8).take i)))) (g:=g3) (e:=87) ?hk ?hr (cs':=(cE (numN 0 (m.take (i+1))) (numN 0 ((m.drop 8).take i)))) ?hc ?_;(case ho=>rfl);(case hg=>rfl);(case hn=>rfl);(case hk=>exact zq10);(case hr=>first|(go_simp;done)|(go_simp;rfl));(case hc=>rw[word_step _ _ (numN_take_lt _ _ hlt.out),← numN_take _ _ (by rw[hm.out];have:=hlt.out;omega),cE_set0]);intro wc hbk hgr;have n0_:=zM (below_grown1 zq0 hgr GE3.out);have n1_:=zM (blk_grown1 (g':=g1) (ob:=.cells (cB m) 61 (0,0)) zq4 hgr (blk_ne zq4 zq10 zq22));have n2_:=zM (blk_grown1 (g':=g2) (ob:=.cells (cE 0 0) 87 (0,0)) zq3 hgr NE2_3.out);have n3_:=zM hbk;clear HB BK1 BK2 BK3;have HB:=n0_;have BK1:=n1_;have BK2:=n2_;have BK3:=n3_;clear n0_ n1_ n2_ n3_;clear hbk hgr))
   clear hc0 hx0 hf i1 i2
   have hc1:wc.cell? ⟨g1,8+i,none⟩=some (.int .u8 (bI (by_ m (8+i)))):=by rw[blk_cell BK1.out,cB_get _ _ (by rw[hm.out];omega)]
   have hx1:wc.cell? ⟨g3,1,none⟩=some (.int .u64 (numN 0 ((m.drop 8).take i):Nat)):=by rw[blk_cell BK3.out];rfl
   have hf1:=blk_frozen BK3.out 1
   have i1:=eq_true (show (0:Int)≤(i:Int)+8 by omega)
   have i2:=eq_true (show (i:Int)+8 < 16 by omega)
   have s1:Value.int .i64 (IntKind.i64.wrap ((i:Int)+8))=.int .i64 ((i:Int)+8):=by rw[IntWalk.i64_in _ zq9]
   have n1:∀ g:Nat,(⟨g,((i:Int)+8).toNat,none⟩:Addr)=⟨g,8+i,none⟩:=fun g=>by rw[show ((i:Int)+8).toNat=8+i by omega]
   refine wp_region_tail 10 (by kernel_rfl) (by kernel_rfl) ?_
   simp only[List.take_succ_cons,List.take_zero,List.drop_succ_cons,List.drop_zero]
   repeat still_step
   refine wpStill_nil ?_
   clear s1 n1
   go_wp2_with (first
     | ((with_reducible refine gate_store (t:=85) (p:=27) rfl ?_);refine cell_event ?hg (t:=85) (p:=27) (v:=?vo_96) ?ho ?hn (i:=1) (x:=(.int .u64 (Go.bits .or .u64 (IntKind.u64.wrap (((numN 0 ((m.drop 8).take i):Nat):Int)*256)) (IntKind.u64.wrap (bI (by_ m (8+i))))))) (cs:=(cE (numN 0 (m.take (i+1))) (numN 0 ((m.drop 8).take i)))) (g:=g3) (e:=87) ?hk ?hr (cs':=(cE (numN 0 (m.take (i+1))) (numN 0 ((m.drop 8).take (i+1))))) ?hc ?_;(case ho=>rfl);(case hg=>rfl);(case hn=>rfl);(case hk=>exact zq10);(case hr=>first|(go_simp;done)|(go_simp;rfl));(case hc=>rw[← by_drop,word_step _ _ (numN_take_lt _ _ hlt.out),← numN_take _ _ (by rw[List.length_drop,hm.out];have:=hlt.out;omega),cE_set1]);intro wc hbk hgr;have n0_:=zM (below_grown1 zq0 hgr GE3.out);have n1_:=zM (blk_grown1 (g':=g1) (ob:=.cells (cB m) 61 (0,0)) zq4 hgr (blk_ne zq4 zq10 zq22));have n2_:=zM (blk_grown1 (g':=g2) (ob:=.cells (cE 0 0) 87 (0,0)) zq3 hgr NE2_3.out);have n3_:=zM hbk;clear HB BK1 BK2 BK3;have HB:=n0_;have BK1:=n1_;have BK2:=n2_;have BK3:=n3_;clear n0_ n1_ n2_ n3_;clear hbk hgr))
   go_roundw
   case rel=>exact⟨i+1,zq9,by go_num,BK1,BK2,BK3,HB⟩
   case measure=>simp[intOf];omega
  ·obtain rfl:i=8:=by omega
   rw[show (cE (numN 0 (m.take 8)) (numN 0 ((m.drop 8).take 8)))=(cE (hiN m) (loN m)) from rfl] at BK3
   go_wp2_with (first
     | ((with_reducible refine gate_dst (N:=29) rfl ?_);refine wpList_load_row ?hg 87 (.tmp 3) ?ho g3 ?hx 87 (cE (hiN m) (loN m)) (0,0) _ ?hk Try.underlying87 rfl ?hi ?_;(case hg=>rfl);(case ho=>rfl);(case hx=>rfl);(case hk=>exact zq10);(case hi=>kernel_rfl))
     | ((with_reducible refine gate_store (t:=87) (p:=2) rfl ?_);refine row_event ?hg (ty:=87) (p:=2) (y:=?yo_98) ?ho ?hn (g:=g2) (old:=(cE 0 0)) (e:=87) (cells:=(cE (hiN m) (loN m))) ?hx ?hy ?hk ?hi ?hd ?h1 ?_;(case ho=>rfl);(case hg=>rfl);(case hn=>rfl);(case hx=>rfl);(case hy=>rfl);(case hk=>exact zq3);(case hi=>kernel_rfl);(case hd=>rfl);(case h1=>exact cE_one _ _);intro wr_ hbk hgr;have n0_:=zM (below_grown1 zq0 hgr GE2.out);have n1_:=zM (blk_grown1 (g':=g1) (ob:=.cells (cB m) 61 (0,0)) zq4 hgr (blk_ne zq4 zq3 zq22));have n2_:=zM (blk_grown1 (g':=g3) (ob:=.cells (cE (hiN m) (loN m)) 87 (0,0)) zq10 hgr NE3_2.out);have n3_:=zM hbk;clear HB BK1 BK3 BK2;have HB:=n0_;have BK1:=n1_;have BK3:=n2_;have BK2:=n3_;clear n0_ n1_ n2_ n3_;clear hbk hgr))
   refine bodyPost_ret (results_cell_row rfl _ _ g2 87 (cE (hiN m) (loN m)) (0,0) _ rfl zq3 Try.underlying87 rfl (by kernel_rfl)) rfl ?_
   exact⟨rfl,HB.out⟩
end Go.Proofs.Ytkjgdndaepobiaa.All
