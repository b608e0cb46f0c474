-- Laid by wip/shake.py of this repo out of this claim's texts. Not trusted: Lean checks it.
import Derived.Test.YtkjgdndaepobiaaAb0s
import Derived.Test.YtkjgdndaepobiaaAllx0s
namespace Go.Proofs.Ytkjgdndaepobiaa.All
open Go.Proofs.YtkjgdndaepobiaaW.PrintWords.Aside0 renaming mk→zM
open Go.RowKit Go.Proofs.YtkjgdndaepobiaaW.PrintWords Go.Proofs.YtkjgdndaepobiaaW.PrintLast Go.Proofs.YtkjgdndaepobiaaW.PrintMore
attribute [local go_sem] max2_int min2_int max_two min_two max_three min_three max_four min_four
set_option linter.unusedVariables false
set_option linter.unusedSimpArgs false
set_option maxHeartbeats 4000000 in
set_option maxRecDepth 100000 in
theorem impl_cipher_add.calls (gK r:Nat) (ks xs:List (BitVec 8)) (hk0:ks.length=176) (hx0:xs.length=16) (hr0:r≤10) (w:World) (hb0:w.heap[gK]?=some (.cells (cB ks) 79 (0,0))) :
  Calls Try.prog 69 #[.pointer (some ⟨gK,0,none⟩),.agg (cB xs),.int .i64 r] w fun e w'=>e=.returned (.agg (cB (addL ks r xs)))∧Below w.heap.size w w':=by
 have hk:=zM hk0
 have hx:=zM hx0
 have hr:=zM hr0
 have hb:=zM hb0
 clear hk0 hx0 hr0 hb0
 have HB:=zM (Below.refl w.heap.size w)
 go_enter Try.func69,Try.ntmps69
 go_wp2_with (first
  | ((with_reducible refine gate_dst (N:=4) rfl ?_);refine box_event ?hg (N:=4) ?hd (cs:=(cB xs)) (t:=61) ?hr ?_;(case hd=>rfl);(case hg=>rfl);(case hr=>first|(go_simp;done)|(go_simp;rfl));intro g4 hg w4 hbox hb;have n0_:=zM (below_step zq0 hb);have n1_:=zM hbox;have n2_:=zM (by rw[hg];exact below_size zq0:w.heap.size≤g4);clear HB;have HB:=n0_;have BK4:=n1_;have GE4:=n2_;clear n0_ n1_ n2_;clear hb hbox hg)
  | ((with_reducible refine gate_dst (N:=6) rfl ?_);refine box_event ?hg (N:=6) ?hd (cs:=#[.int .u8 0,.int .u8 0,.int .u8 0,.int .u8 0,.int .u8 0,.int .u8 0,.int .u8 0,.int .u8 0,.int .u8 0,.int .u8 0,.int .u8 0,.int .u8 0,.int .u8 0,.int .u8 0,.int .u8 0,.int .u8 0]) (t:=61) ?hr ?_;(case hd=>rfl);(case hg=>rfl);(case hr=>first|(go_simp;done)|(go_simp;rfl));intro g6 hg w6 hbox hb;have n0_:=zM (below_step zq0 hb);have n1_:=zM (blk_below (g:=g4) (o:=.cells (cB xs) 61 (0,0)) zq6 hb);have n2_:=zM hbox;have n3_:=zM (by rw[hg];exact below_size zq0:w.heap.size≤g6);have n4_:=zM (by rw[hg];exact Nat.ne_of_lt (blk_lt (g:=g4) (o:=.cells (cB xs) 61 (0,0)) zq6):g4≠g6);have n5_:=zM (by rw[hg];exact Nat.ne_of_gt (blk_lt (g:=g4) (o:=.cells (cB xs) 61 (0,0)) zq6):g6≠g4);clear HB BK4;have HB:=n0_;have BK4:=n1_;have BK6:=n2_;have GE6:=n3_;have NE4_6:=n4_;have NE6_4:=n5_;clear n0_ n1_ n2_ n3_ n4_ n5_;clear hb hbox hg))
 go_loopw [8] (fun v8 W=>∃ i:Nat,i≤16∧v8=.int .i64 i∧Aside0 (W.heap[g4]?=some (.cells (cB (fillL 16 (fun j=>by_ xs j ^^^ by_ ks (16*r+j)) (by_ xs) i)) 61 (0,0)))∧Aside0 (W.heap[g6]?=some (.cells #[.int .u8 0,.int .u8 0,.int .u8 0,.int .u8 0,.int .u8 0,.int .u8 0,.int .u8 0,.int .u8 0,.int .u8 0,.int .u8 0,.int .u8 0,.int .u8 0,.int .u8 0,.int .u8 0,.int .u8 0,.int .u8 0] 61 (0,0)))∧Aside0 (Below w.heap.size w W)) (fun v8 _=>16 - (intOf v8).toNat)
 case atStart=>exact⟨0,zq9,rfl,⟨by rw[fillL_zero,← hx.out,tab_self];exact BK4.out⟩,BK6,HB⟩
 case round=>
  clear BK4 BK6 HB
  obtain⟨i,hi,rfl,BK4,BK6,HB⟩:=hrel
  by_cases hl:i < 16
  ·have hlt:=zM hl
   have hc0:wr.cell? ⟨g4,i,none⟩=some (.int .u8 (bI (by_ xs i))):=by
    rw[blk_cell BK4.out,cB_get _ _ zq201,fillL_get _ _ _ _ _ hl,if_neg zq9]
   have hc1:wr.cell? ⟨gK,16*r+i,none⟩=some (.int .u8 (bI (by_ ks (16*r+i)))):=by
    rw[blk_cell ((HB.out.block gK (blk_lt hb.out)).trans hb.out),cB_get _ _ (by rw[hk.out];have:=hr.out;omega)]
   have hf:=blk_frozen BK4.out i
   have i1:=eq_true (show (0:Int)≤16*(r:Int)+(i:Int) by omega)
   have i2:=eq_true (show 16*(r:Int)+(i:Int) < 176 by have:=hr.out;omega)
   have i3:=eq_true (show (0:Int)≤(i:Int) by omega)
   have i4:=eq_true (show (i:Int) < 16 by omega)
   have s1:Value.int .i64 (IntKind.i64.wrap (16*(r:Int)))=.int .i64 (16*(r:Int)):=by rw[IntWalk.i64_in _ (by have:=hr.out;omega)]
   have s2:Value.int .i64 (IntKind.i64.wrap (16*(r:Int)+(i:Int)))=.int .i64 (16*(r:Int)+(i:Int)):=by rw[IntWalk.i64_in _ (by have:=hr.out;omega)]
   have n1:∀ g:Nat,(⟨g,(16*(r:Int)+(i:Int)).toNat,none⟩:Addr)=⟨g,16*r+i,none⟩:=fun g=>by rw[show (16*(r:Int)+(i:Int)).toNat=16*r+i by omega]
   clear hl
   go_wp2_with fail
   refine wp_region_tail 14 (by kernel_rfl) (by kernel_rfl) ?_
   simp only[List.take_succ_cons,List.take_zero,List.drop_succ_cons,List.drop_zero]
   repeat still_step
   refine wpStill_nil ?_
   clear s1 s2 n1
   go_wp2_with (first
     | ((with_reducible refine gate_store (t:=5) (p:=24) rfl ?_);refine cell_event ?hg (t:=5) (p:=24) (v:=?vo_219) ?ho ?hn (i:=i) (x:=(.int .u8 (Go.bits .xor .u8 (bI (by_ xs i)) (bI (by_ ks (16*r+i)))))) (cs:=(cB (fillL 16 (fun j=>by_ xs j ^^^ by_ ks (16*r+j)) (by_ xs) i))) (g:=g4) (e:=61) ?hk ?hr (cs':=(cB (fillL 16 (fun j=>by_ xs j ^^^ by_ ks (16*r+j)) (by_ xs) (i+1)))) ?hc ?_;(case ho=>rfl);(case hg=>rfl);(case hn=>rfl);(case hk=>exact zq6);(case hr=>first|(go_simp;done)|(go_simp;rfl));(case hc=>rw[bI_xor,cB_set];exact congrArg cB (fillL_set 16 (fun j=>by_ xs j ^^^ by_ ks (16*r+j)) (by_ xs) i hlt.out));intro wc hbk hgr;have n0_:=zM (below_grown1 zq0 hgr GE4.out);have n1_:=zM (blk_grown1 (g':=g6) (ob:=.cells #[.int .u8 0,.int .u8 0,.int .u8 0,.int .u8 0,.int .u8 0,.int .u8 0,.int .u8 0,.int .u8 0,.int .u8 0,.int .u8 0,.int .u8 0,.int .u8 0,.int .u8 0,.int .u8 0,.int .u8 0,.int .u8 0] 61 (0,0)) zq11 hgr NE6_4.out);have n2_:=zM hbk;clear HB BK6 BK4;have HB:=n0_;have BK6:=n1_;have BK4:=n2_;clear n0_ n1_ n2_;clear hbk hgr))
   go_roundw
   case rel=>exact⟨i+1,by have:=hlt.out;omega,by go_num,BK4,BK6,HB⟩
   case measure=>simp[intOf];have:=hlt.out;omega
  ·obtain rfl:i=16:=by omega
   rw[show fillL 16 (fun j=>by_ xs j ^^^ by_ ks (16*r+j)) (by_ xs) 16=addL ks r xs from fillL_all _ _ _] at BK4
   go_wp2_with (first
     | ((with_reducible refine gate_dst (N:=26) rfl ?_);refine wpList_load_row ?hg 61 (.tmp 4) ?ho g4 ?hx 61 (cB (addL ks r xs)) (0,0) _ ?hk Try.underlying61 rfl ?hi ?_;(case hg=>rfl);(case ho=>rfl);(case hx=>rfl);(case hk=>exact zq6);(case hi=>rw[cB_size,addL_length];kernel_rfl))
     | ((with_reducible refine gate_store (t:=61) (p:=6) rfl ?_);refine row_event ?hg (ty:=61) (p:=6) (y:=?yo_221) ?ho ?hn (g:=g6) (old:=#[.int .u8 0,.int .u8 0,.int .u8 0,.int .u8 0,.int .u8 0,.int .u8 0,.int .u8 0,.int .u8 0,.int .u8 0,.int .u8 0,.int .u8 0,.int .u8 0,.int .u8 0,.int .u8 0,.int .u8 0,.int .u8 0]) (e:=61) (cells:=(cB (addL ks r xs))) ?hx ?hy ?hk ?hi ?hd ?h1 ?_;(case ho=>rfl);(case hg=>rfl);(case hn=>rfl);(case hx=>rfl);(case hy=>rfl);(case hk=>exact zq11);(case hi=>rw[cB_size,addL_length];kernel_rfl);(case hd=>rw[cB_size,addL_length];rfl);(case h1=>exact cB_one _);intro wr_ hbk hgr;have n0_:=zM (below_grown1 zq0 hgr GE6.out);have n1_:=zM (blk_grown1 (g':=g4) (ob:=.cells (cB (addL ks r xs)) 61 (0,0)) zq6 hgr NE4_6.out);have n2_:=zM hbk;clear HB BK4 BK6;have HB:=n0_;have BK4:=n1_;have BK6:=n2_;clear n0_ n1_ n2_;clear hbk hgr))
   refine bodyPost_ret (results_cell_row rfl _ _ g6 61 (cB (addL ks r xs)) (0,0) _ rfl zq11 Try.underlying61 rfl (by rw[cB_size,addL_length];kernel_rfl)) rfl ?_
   exact⟨rfl,HB.out⟩
set_option maxHeartbeats 4000000 in
set_option maxRecDepth 100000 in
theorem impl_block_subBytes.calls (m:List (BitVec 8)) (hm0:m.length=16) (w:World) :
  Calls Try.prog 70 #[.agg (cB m)] w fun e w'=>e=.returned (.agg (cB (subL m)))∧Below w.heap.size w w':=by
 have hm:=zM hm0
 clear hm0
 have HB:=zM (Below.refl w.heap.size w)
 go_enter Try.func70,Try.ntmps70
 go_wp2_with (first
  | ((with_reducible refine gate_dst (N:=1) rfl ?_);refine box_event ?hg (N:=1) ?hd (cs:=(cB m)) (t:=61) ?hr ?_;(case hd=>rfl);(case hg=>rfl);(case hr=>first|(go_simp;done)|(go_simp;rfl));intro g1 hg w1 hbox hb;have n0_:=zM (below_step zq0 hb);have n1_:=zM hbox;have n2_:=zM (by rw[hg];exact below_size zq0:w.heap.size≤g1);clear HB;have HB:=n0_;have BK1:=n1_;have GE1:=n2_;clear n0_ n1_ n2_;clear hb hbox hg)
  | ((with_reducible refine gate_dst (N:=2) rfl ?_);refine box_event ?hg (N:=2) ?hd (cs:=#[.int .u8 0,.int .u8 0,.int .u8 0,.int .u8 0,.int .u8 0,.int .u8 0,.int .u8 0,.int .u8 0,.int .u8 0,.int .u8 0,.int .u8 0,.int .u8 0,.int .u8 0,.int .u8 0,.int .u8 0,.int .u8 0]) (t:=61) ?hr ?_;(case hd=>rfl);(case hg=>rfl);(case hr=>first|(go_simp;done)|(go_simp;rfl));intro g2 hg w2 hbox hb;have n0_:=zM (below_step zq0 hb);have n1_:=zM (blk_below (g:=g1) (o:=.cells (cB m) 61 (0,0)) zq4 hb);have n2_:=zM hbox;have n3_:=zM (by rw[hg];exact below_size zq0:w.heap.size≤g2);have n4_:=zM (by rw[hg];exact Nat.ne_of_lt (blk_lt (g:=g1) (o:=.cells (cB m) 61 (0,0)) zq4):g1≠g2);have n5_:=zM (by rw[hg];exact Nat.ne_of_gt (blk_lt (g:=g1) (o:=.cells (cB m) 61 (0,0)) zq4):g2≠g1);clear HB BK1;have HB:=n0_;have BK1:=n1_;have BK2:=n2_;have GE2:=n3_;have NE1_2:=n4_;have NE2_1:=n5_;clear n0_ n1_ n2_ n3_ n4_ n5_;clear hb hbox hg)
  | ((with_reducible refine gate_dst (N:=5) rfl ?_);refine wpList_load_row ?hg 61 (.tmp 1) ?ho g1 ?hx 61 (cB m) (0,0) _ ?hk Try.underlying61 rfl ?hi ?_;(case hg=>rfl);(case ho=>rfl);(case hx=>rfl);(case hk=>exact zq4);(case hi=>rw[cB_size,hm.out];kernel_rfl)))
 go_loopw [6] (fun v6 W=>∃ i:Nat,i≤16∧v6=.int .i64 i∧Aside0 (W.heap[g1]?=some (.cells (cB (fillL 16 (fun j=>SB (by_ m j)) (by_ m) i)) 61 (0,0)))∧Aside0 (W.heap[g2]?=some (.cells #[.int .u8 0,.int .u8 0,.int .u8 0,.int .u8 0,.int .u8 0,.int .u8 0,.int .u8 0,.int .u8 0,.int .u8 0,.int .u8 0,.int .u8 0,.int .u8 0,.int .u8 0,.int .u8 0,.int .u8 0,.int .u8 0] 61 (0,0)))∧Aside0 (Below w.heap.size w W)) (fun v6 _=>16 - (intOf v6).toNat)
 case atStart=>exact⟨0,zq9,rfl,⟨by rw[fillL_zero,← hm.out,tab_self];exact BK1.out⟩,BK2,HB⟩
 case round=>
  clear BK1 BK2 HB
  obtain⟨i,hi,rfl,BK1,BK2,HB⟩:=hrel
  by_cases hl:i < 16
  ·have hlt:=zM hl
   have hix:=run_index_arr (P:=Try.prog) 61 5 16 Try.underlying61 (by kernel_rfl) Try.underlying5 m hm.out i hl
   have hc1:∀ W:World,W.heap[g1]?=some (.cells (cB (fillL 16 (fun j=>SB (by_ m j)) (by_ m) i)) 61 (0,0))→W.cell? ⟨g1,i,none⟩=some (.int .u8 (bI (by_ m i))):=fun W h=>by
    rw[blk_cell h,cB_get _ _ zq201,fillL_get _ _ _ _ _ hl,if_neg zq9]
   have hc:=hc1 _ BK1.out
   have hf:=blk_frozen BK1.out i
   clear hc1
   go_wp2_with (first
    | ((with_reducible refine gate_dst (N:=12) rfl ?_);refine wp_index_box ?hg 9 ?s_4 (.tmp 11) ?ho Try.underlying9 ?hs (by_ m i) ?hi ?_;(case hg=>rfl);(case ho=>rfl);(case hs=>kernel_rfl);(case hi=>rfl))
    | ((with_reducible refine gate_store (t:=5) (p:=13) rfl ?_);refine cell_event ?hg (t:=5) (p:=13) (v:=?vo_5) ?ho ?hn (i:=i) (x:=(.int .u8 (bI (SB (by_ m i))))) (cs:=(cB (fillL 16 (fun j=>SB (by_ m j)) (by_ m) i))) (g:=g1) (e:=61) ?hk ?hr (cs':=(cB (fillL 16 (fun j=>SB (by_ m j)) (by_ m) (i+1)))) ?hc ?_;(case ho=>rfl);(case hg=>rfl);(case hn=>rfl);(case hk=>exact zq4);(case hr=>first|(go_simp;done)|(go_simp;rfl));(case hc=>rw[cB_set,fillL_set _ _ _ _ hlt.out]);intro wc hbk hgr;have n0_:=zM (below_grown1 zq0 hgr GE1.out);have n1_:=zM (blk_grown1 (g':=g2) (ob:=.cells #[.int .u8 0,.int .u8 0,.int .u8 0,.int .u8 0,.int .u8 0,.int .u8 0,.int .u8 0,.int .u8 0,.int .u8 0,.int .u8 0,.int .u8 0,.int .u8 0,.int .u8 0,.int .u8 0,.int .u8 0,.int .u8 0] 61 (0,0)) zq3 hgr NE2_1.out);have n2_:=zM hbk;clear HB BK2 BK1;have HB:=n0_;have BK2:=n1_;have BK1:=n2_;clear n0_ n1_ n2_;clear hbk hgr))
   go_roundw
   case rel=>exact⟨i+1,zq9,by go_num,BK1,BK2,HB⟩
   case measure=>simp[intOf];omega
  ·obtain rfl:i=16:=by omega
   rw[show fillL 16 (fun j=>SB (by_ m j)) (by_ m) 16=subL m from fillL_all _ _ _] at BK1
   go_wp2_with (first
    | ((with_reducible refine gate_dst (N:=15) rfl ?_);refine wpList_load_row ?hg 61 (.tmp 1) ?ho g1 ?hx 61 (cB (subL m)) (0,0) _ ?hk Try.underlying61 rfl ?hi ?_;(case hg=>rfl);(case ho=>rfl);(case hx=>rfl);(case hk=>exact zq4);(case hi=>rw[cB_size,subL_length];kernel_rfl))
    | ((with_reducible refine gate_store (t:=61) (p:=2) rfl ?_);refine row_event ?hg (ty:=61) (p:=2) (y:=?yo_7) ?ho ?hn (g:=g2) (old:=#[.int .u8 0,.int .u8 0,.int .u8 0,.int .u8 0,.int .u8 0,.int .u8 0,.int .u8 0,.int .u8 0,.int .u8 0,.int .u8 0,.int .u8 0,.int .u8 0,.int .u8 0,.int .u8 0,.int .u8 0,.int .u8 0]) (e:=61) (cells:=(cB (subL m))) ?hx ?hy ?hk ?hi ?hd ?h1 ?_;(case ho=>rfl);(case hg=>rfl);(case hn=>rfl);(case hx=>rfl);(case hy=>rfl);(case hk=>exact zq3);(case hi=>rw[cB_size,subL_length];kernel_rfl);(case hd=>rw[cB_size,subL_length];rfl);(case h1=>exact cB_one _);intro wr_ hbk hgr;have n0_:=zM (below_grown1 zq0 hgr GE2.out);have n1_:=zM (blk_grown1 (g':=g1) (ob:=.cells (cB (subL m)) 61 (0,0)) zq4 hgr NE1_2.out);have n2_:=zM hbk;clear HB BK1 BK2;have HB:=n0_;have BK1:=n1_;have BK2:=n2_;clear n0_ n1_ n2_;clear hbk hgr))
   refine bodyPost_ret (results_cell_row rfl _ _ g2 61 (cB (subL m)) (0,0) _ rfl zq3 Try.underlying61 rfl (by rw[cB_size,subL_length];kernel_rfl)) rfl ?_
   exact⟨rfl,HB.out⟩
set_option maxHeartbeats 4000000 in
set_option maxRecDepth 100000 in
theorem impl_block_shiftRows.calls (m:List (BitVec 8)) (hm0:m.length=16) (w:World) :
  Calls Try.prog 71 #[.agg (cB m)] w fun e w'=>e=.returned (.agg (cB (shiftL m)))∧Below w.heap.size w w':=by
 have hm:=zM hm0
 clear hm0
 have HB:=zM (Below.refl w.heap.size w)
 go_enter Try.func71,Try.ntmps71
 go_wp2_with (first
  | ((with_reducible refine gate_dst (N:=1) rfl ?_);refine box_event ?hg (N:=1) ?hd (cs:=(cB m)) (t:=61) ?hr ?_;(case hd=>rfl);(case hg=>rfl);(case hr=>first|(go_simp;done)|(go_simp;rfl));intro g1 hg w1 hbox hb;have n0_:=zM (below_step zq0 hb);have n1_:=zM hbox;have n2_:=zM (by rw[hg];exact below_size zq0:w.heap.size≤g1);clear HB;have HB:=n0_;have BK1:=n1_;have GE1:=n2_;clear n0_ n1_ n2_;clear hb hbox hg)
  | ((with_reducible refine gate_dst (N:=2) rfl ?_);refine box_event ?hg (N:=2) ?hd (cs:=#[.int .u8 0,.int .u8 0,.int .u8 0,.int .u8 0,.int .u8 0,.int .u8 0,.int .u8 0,.int .u8 0,.int .u8 0,.int .u8 0,.int .u8 0,.int .u8 0,.int .u8 0,.int .u8 0,.int .u8 0,.int .u8 0]) (t:=61) ?hr ?_;(case hd=>rfl);(case hg=>rfl);(case hr=>first|(go_simp;done)|(go_simp;rfl));intro g2 hg w2 hbox hb;have n0_:=zM (below_step zq0 hb);have n1_:=zM (blk_below (g:=g1) (o:=.cells (cB m) 61 (0,0)) zq4 hb);have n2_:=zM hbox;have n3_:=zM (by rw[hg];exact below_size zq0:w.heap.size≤g2);have n4_:=zM (by rw[hg];exact Nat.ne_of_lt (blk_lt (g:=g1) (o:=.cells (cB m) 61 (0,0)) zq4):g1≠g2);have n5_:=zM (by rw[hg];exact Nat.ne_of_gt (blk_lt (g:=g1) (o:=.cells (cB m) 61 (0,0)) zq4):g2≠g1);clear HB BK1;have HB:=n0_;have BK1:=n1_;have BK2:=n2_;have GE2:=n3_;have NE1_2:=n4_;have NE2_1:=n5_;clear n0_ n1_ n2_ n3_ n4_ n5_;clear hb hbox hg)
  | ((with_reducible refine gate_dst (N:=3) rfl ?_);refine box_event ?hg (N:=3) ?hd (cs:=#[.int .u8 0,.int .u8 0,.int .u8 0,.int .u8 0,.int .u8 0,.int .u8 0,.int .u8 0,.int .u8 0,.int .u8 0,.int .u8 0,.int .u8 0,.int .u8 0,.int .u8 0,.int .u8 0,.int .u8 0,.int .u8 0]) (t:=61) ?hr ?_;(case hd=>rfl);(case hg=>rfl);(case hr=>first|(go_simp;done)|(go_simp;rfl));intro g3 hg w3 hbox hb;have n0_:=zM (below_step zq0 hb);have n1_:=zM (blk_below (g:=g1) (o:=.cells (cB m) 61 (0,0)) zq4 hb);have n2_:=zM (blk_below (g:=g2) (o:=.cells #[.int .u8 0,.int .u8 0,.int .u8 0,.int .u8 0,.int .u8 0,.int .u8 0,.int .u8 0,.int .u8 0,.int .u8 0,.int .u8 0,.int .u8 0,.int .u8 0,.int .u8 0,.int .u8 0,.int .u8 0,.int .u8 0] 61 (0,0)) zq3 hb);have n3_:=zM hbox;have n4_:=zM (by rw[hg];exact below_size zq0:w.heap.size≤g3);have n5_:=zM (by rw[hg];exact Nat.ne_of_lt (blk_lt (g:=g1) (o:=.cells (cB m) 61 (0,0)) zq4):g1≠g3);have n6_:=zM (by rw[hg];exact Nat.ne_of_gt (blk_lt (g:=g1) (o:=.cells (cB m) 61 (0,0)) zq4):g3≠g1);have n7_:=zM (by rw[hg];exact Nat.ne_of_lt (blk_lt (g:=g2) (o:=.cells #[.int .u8 0,.int .u8 0,.int .u8 0,.int .u8 0,.int .u8 0,.int .u8 0,.int .u8 0,.int .u8 0,.int .u8 0,.int .u8 0,.int .u8 0,.int .u8 0,.int .u8 0,.int .u8 0,.int .u8 0,.int .u8 0] 61 (0,0)) zq3):g2≠g3);have n8_:=zM (by rw[hg];exact Nat.ne_of_gt (blk_lt (g:=g2) (o:=.cells #[.int .u8 0,.int .u8 0,.int .u8 0,.int .u8 0,.int .u8 0,.int .u8 0,.int .u8 0,.int .u8 0,.int .u8 0,.int .u8 0,.int .u8 0,.int .u8 0,.int .u8 0,.int .u8 0,.int .u8 0,.int .u8 0] 61 (0,0)) zq3):g3≠g2);clear HB BK1 BK2;have HB:=n0_;have BK1:=n1_;have BK2:=n2_;have BK3:=n3_;have GE3:=n4_;have NE1_3:=n5_;have NE3_1:=n6_;have NE2_3:=n7_;have NE3_2:=n8_;clear n0_ n1_ n2_ n3_ n4_ n5_ n6_ n7_ n8_;clear hb hbox hg)
  | ((with_reducible refine gate_store (t:=61) (p:=3) rfl ?_);refine row_event ?hg (ty:=61) (p:=3) (y:=?yo_11) ?ho ?hn (g:=g3) (old:=#[.int .u8 0,.int .u8 0,.int .u8 0,.int .u8 0,.int .u8 0,.int .u8 0,.int .u8 0,.int .u8 0,.int .u8 0,.int .u8 0,.int .u8 0,.int .u8 0,.int .u8 0,.int .u8 0,.int .u8 0,.int .u8 0]) (e:=61) (cells:=(cB (tab 16 fun _=>0#8))) ?hx ?hy ?hk ?hi ?hd ?h1 ?_;(case ho=>rfl);(case hg=>rfl);(case hn=>rfl);(case hx=>rfl);(case hy=>rfl);(case hk=>exact zq10);(case hi=>rw[cB_size,tab_length];kernel_rfl);(case hd=>exact zq207);(case h1=>exact cB_one _);intro wr_ hbk hgr;have n0_:=zM (below_grown1 zq0 hgr GE3.out);have n1_:=zM (blk_grown1 (g':=g1) (ob:=.cells (cB m) 61 (0,0)) zq4 hgr NE1_3.out);have n2_:=zM (blk_grown1 (g':=g2) (ob:=.cells #[.int .u8 0,.int .u8 0,.int .u8 0,.int .u8 0,.int .u8 0,.int .u8 0,.int .u8 0,.int .u8 0,.int .u8 0,.int .u8 0,.int .u8 0,.int .u8 0,.int .u8 0,.int .u8 0,.int .u8 0,.int .u8 0] 61 (0,0)) zq3 hgr NE2_3.out);have n3_:=zM hbk;clear HB BK1 BK2 BK3;have HB:=n0_;have BK1:=n1_;have BK2:=n2_;have BK3:=n3_;clear n0_ n1_ n2_ n3_;clear hbk hgr))
 go_loopw [8] (fun v8 W=>∃ i:Nat,i≤16∧v8=.int .i64 i∧Aside0 (W.heap[g1]?=some (.cells (cB m) 61 (0,0)))∧Aside0 (W.heap[g2]?=some (.cells #[.int .u8 0,.int .u8 0,.int .u8 0,.int .u8 0,.int .u8 0,.int .u8 0,.int .u8 0,.int .u8 0,.int .u8 0,.int .u8 0,.int .u8 0,.int .u8 0,.int .u8 0,.int .u8 0,.int .u8 0,.int .u8 0] 61 (0,0)))∧Aside0 (W.heap[g3]?=some (.cells (cB (fillL 16 (fun j=>by_ m (j % 4+4*((j / 4+j) % 4))) (fun _=>0#8) i)) 61 (0,0)))∧Aside0 (Below w.heap.size w W)) (fun v8 _=>16 - (intOf v8).toNat)
 case atStart=>exact⟨0,zq9,rfl,BK1,BK2,⟨by rw[fillL_zero];exact BK3.out⟩,HB⟩
 case round=>
  clear BK1 BK2 BK3 HB
  obtain⟨i,hi,rfl,BK1,BK2,BK3,HB⟩:=hrel
  by_cases hl:i < 16
  ·have hlt:=zM hl
   have hb:i % 4+4*((i / 4+i) % 4) < 16:=by omega
   have hc:wr.cell? ⟨g1,i % 4+4*((i / 4+i) % 4),none⟩=some (.int .u8 (bI (by_ m (i % 4+4*((i / 4+i) % 4))))):=by
    rw[blk_cell BK1.out,cB_get _ _ (by rw[hm.out];exact hb)]
   have hq:(wr.cell? ⟨g3,i,none⟩).isSome=true:=by
    rw[blk_cell BK3.out,cB_get _ _ zq201]
    rfl
   obtain⟨old,hold⟩:=Option.isSome_iff_exists.1 hq
   clear hq
   have hf:=blk_frozen BK3.out i
   go_wp2_with (first
    | ((with_reducible refine gate_store (t:=5) (p:=25) rfl ?_);refine cell_event ?hg (t:=5) (p:=25) (v:=?vo_12) ?ho ?hn (i:=i) (x:=(.int .u8 (bI (by_ m (i % 4+4*((i / 4+i) % 4)))))) (cs:=(cB (fillL 16 (fun j=>by_ m (j % 4+4*((j / 4+j) % 4))) (fun _=>0#8) i))) (g:=g3) (e:=61) ?hk ?hr (cs':=(cB (fillL 16 (fun j=>by_ m (j % 4+4*((j / 4+j) % 4))) (fun _=>0#8) (i+1)))) ?hc ?_;(case ho=>rfl);(case hg=>rfl);(case hn=>rfl);(case hk=>exact zq10);(case hr=>first|(go_simp;done)|(go_simp;rfl));(case hc=>rw[cB_set];exact congrArg cB (fillL_set 16 (fun j=>by_ m (j % 4+4*((j / 4+j) % 4))) (fun _=>0#8) i hlt.out));intro wc hbk hgr;have n0_:=zM (below_grown1 zq0 hgr GE3.out);have n1_:=zM (blk_grown1 (g':=g1) (ob:=.cells (cB m) 61 (0,0)) zq4 hgr NE1_3.out);have n2_:=zM (blk_grown1 (g':=g2) (ob:=.cells #[.int .u8 0,.int .u8 0,.int .u8 0,.int .u8 0,.int .u8 0,.int .u8 0,.int .u8 0,.int .u8 0,.int .u8 0,.int .u8 0,.int .u8 0,.int .u8 0,.int .u8 0,.int .u8 0,.int .u8 0,.int .u8 0] 61 (0,0)) zq3 hgr NE2_3.out);have n3_:=zM hbk;clear HB BK1 BK2 BK3;have HB:=n0_;have BK1:=n1_;have BK2:=n2_;have BK3:=n3_;clear n0_ n1_ n2_ n3_;clear hbk hgr))
   go_roundw
   case rel=>exact⟨i+1,zq9,by go_num,BK1,BK2,BK3,HB⟩
   case measure=>simp[intOf];omega
  ·obtain rfl:i=16:=by omega
   rw[show fillL 16 (fun j=>by_ m (j % 4+4*((j / 4+j) % 4))) (fun _=>0#8) 16=shiftL m from (fillL_all _ _ _).trans (tab_congr fun j _=>by rw[show (j / 4+j) % 4=(j / 4+j % 4) % 4 by omega])] at BK3
   go_wp2_with (first
    | ((with_reducible refine gate_dst (N:=27) rfl ?_);refine wpList_load_row ?hg 61 (.tmp 3) ?ho g3 ?hx 61 (cB (shiftL m)) (0,0) _ ?hk Try.underlying61 rfl ?hi ?_;(case hg=>rfl);(case ho=>rfl);(case hx=>rfl);(case hk=>exact zq10);(case hi=>rw[cB_size,shiftL_length];kernel_rfl))
    | ((with_reducible refine gate_store (t:=61) (p:=2) rfl ?_);refine row_event ?hg (ty:=61) (p:=2) (y:=?yo_14) ?ho ?hn (g:=g2) (old:=#[.int .u8 0,.int .u8 0,.int .u8 0,.int .u8 0,.int .u8 0,.int .u8 0,.int .u8 0,.int .u8 0,.int .u8 0,.int .u8 0,.int .u8 0,.int .u8 0,.int .u8 0,.int .u8 0,.int .u8 0,.int .u8 0]) (e:=61) (cells:=(cB (shiftL m))) ?hx ?hy ?hk ?hi ?hd ?h1 ?_;(case ho=>rfl);(case hg=>rfl);(case hn=>rfl);(case hx=>rfl);(case hy=>rfl);(case hk=>exact zq3);(case hi=>rw[cB_size,shiftL_length];kernel_rfl);(case hd=>rw[cB_size,shiftL_length];rfl);(case h1=>exact cB_one _);intro wr_ hbk hgr;have n0_:=zM (below_grown1 zq0 hgr GE2.out);have n1_:=zM (blk_grown1 (g':=g1) (ob:=.cells (cB m) 61 (0,0)) zq4 hgr NE1_2.out);have n2_:=zM (blk_grown1 (g':=g3) (ob:=.cells (cB (shiftL m)) 61 (0,0)) zq10 hgr NE3_2.out);have n3_:=zM hbk;clear HB BK1 BK3 BK2;have HB:=n0_;have BK1:=n1_;have BK3:=n2_;have BK2:=n3_;clear n0_ n1_ n2_ n3_;clear hbk hgr))
   refine bodyPost_ret (results_cell_row rfl _ _ g2 61 (cB (shiftL m)) (0,0) _ rfl zq3 Try.underlying61 rfl (by rw[cB_size,shiftL_length];kernel_rfl)) rfl ?_
   exact⟨rfl,HB.out⟩
set_option maxHeartbeats 4000000 in
set_option maxRecDepth 100000 in
theorem twice_mix (a:BitVec 8) (w:World):Calls Try.prog 38 #[.int .u8 (bI a)] w fun e w'=>e=.returned (.int .u8 (bI (xt a)))∧w'=w:=by
 have hx:=bI_xt a
 have h0:=bI_lo a
 have h1:=bI_hi a
 by_cases h:bI a ≥ 128
 ·rw[if_pos h,Option.some.injEq] at hx
  have X:=zM hx
  clear hx
  go_enter Try.func38,Try.ntmps38
  go_wp2
  go_ret
  exact⟨by rw[X.out];rfl,rfl⟩
 ·rw[if_neg h,Option.some.injEq] at hx
  have X:=zM hx
  clear hx
  go_enter Try.func38,Try.ntmps38
  go_wp2
  go_ret
  exact⟨congrArg (fun z=>Ending.returned (.int .u8 z)) (show bI a*2=bI (xt a) by have:=X.out;omega),rfl⟩
set_option maxHeartbeats 4000000 in
set_option maxRecDepth 100000 in
theorem impl_block_mixColumns.calls (m:List (BitVec 8)) (hm0:m.length=16) (w:World) :
  Calls Try.prog 72 #[.agg (cB m)] w fun e w'=>e=.returned (.agg (cB (mixL m)))∧Below w.heap.size w w':=by
 have hm:=zM hm0
 clear hm0
 have HB:=zM (Below.refl w.heap.size w)
 go_enter Try.func72,Try.ntmps72
 go_wp2_with (first
  | ((with_reducible refine gate_dst (N:=1) rfl ?_);refine box_event ?hg (N:=1) ?hd (cs:=(cB m)) (t:=61) ?hr ?_;(case hd=>rfl);(case hg=>rfl);(case hr=>first|(go_simp;done)|(go_simp;rfl));intro g1 hg w1 hbox hb;have n0_:=zM (below_step zq0 hb);have n1_:=zM hbox;have n2_:=zM (by rw[hg];exact below_size zq0:w.heap.size≤g1);clear HB;have HB:=n0_;have BK1:=n1_;have GE1:=n2_;clear n0_ n1_ n2_;clear hb hbox hg)
  | ((with_reducible refine gate_dst (N:=2) rfl ?_);refine box_event ?hg (N:=2) ?hd (cs:=#[.int .u8 0,.int .u8 0,.int .u8 0,.int .u8 0,.int .u8 0,.int .u8 0,.int .u8 0,.int .u8 0,.int .u8 0,.int .u8 0,.int .u8 0,.int .u8 0,.int .u8 0,.int .u8 0,.int .u8 0,.int .u8 0]) (t:=61) ?hr ?_;(case hd=>rfl);(case hg=>rfl);(case hr=>first|(go_simp;done)|(go_simp;rfl));intro g2 hg w2 hbox hb;have n0_:=zM (below_step zq0 hb);have n1_:=zM (blk_below (g:=g1) (o:=.cells (cB m) 61 (0,0)) zq4 hb);have n2_:=zM hbox;have n3_:=zM (by rw[hg];exact below_size zq0:w.heap.size≤g2);have n4_:=zM (by rw[hg];exact Nat.ne_of_lt (blk_lt (g:=g1) (o:=.cells (cB m) 61 (0,0)) zq4):g1≠g2);have n5_:=zM (by rw[hg];exact Nat.ne_of_gt (blk_lt (g:=g1) (o:=.cells (cB m) 61 (0,0)) zq4):g2≠g1);clear HB BK1;have HB:=n0_;have BK1:=n1_;have BK2:=n2_;have GE2:=n3_;have NE1_2:=n4_;have NE2_1:=n5_;clear n0_ n1_ n2_ n3_ n4_ n5_;clear hb hbox hg)
  | ((with_reducible refine gate_dst (N:=3) rfl ?_);refine box_event ?hg (N:=3) ?hd (cs:=#[.int .u8 0,.int .u8 0,.int .u8 0,.int .u8 0,.int .u8 0,.int .u8 0,.int .u8 0,.int .u8 0,.int .u8 0,.int .u8 0,.int .u8 0,.int .u8 0,.int .u8 0,.int .u8 0,.int .u8 0,.int .u8 0]) (t:=61) ?hr ?_;(case hd=>rfl);(case hg=>rfl);(case hr=>first|(go_simp;done)|(go_simp;rfl));intro g3 hg w3 hbox hb;have n0_:=zM (below_step zq0 hb);have n1_:=zM (blk_below (g:=g1) (o:=.cells (cB m) 61 (0,0)) zq4 hb);have n2_:=zM (blk_below (g:=g2) (o:=.cells #[.int .u8 0,.int .u8 0,.int .u8 0,.int .u8 0,.int .u8 0,.int .u8 0,.int .u8 0,.int .u8 0,.int .u8 0,.int .u8 0,.int .u8 0,.int .u8 0,.int .u8 0,.int .u8 0,.int .u8 0,.int .u8 0] 61 (0,0)) zq3 hb);have n3_:=zM hbox;have n4_:=zM (by rw[hg];exact below_size zq0:w.heap.size≤g3);have n5_:=zM (by rw[hg];exact Nat.ne_of_lt (blk_lt (g:=g1) (o:=.cells (cB m) 61 (0,0)) zq4):g1≠g3);have n6_:=zM (by rw[hg];exact Nat.ne_of_gt (blk_lt (g:=g1) (o:=.cells (cB m) 61 (0,0)) zq4):g3≠g1);have n7_:=zM (by rw[hg];exact Nat.ne_of_lt (blk_lt (g:=g2) (o:=.cells #[.int .u8 0,.int .u8 0,.int .u8 0,.int .u8 0,.int .u8 0,.int .u8 0,.int .u8 0,.int .u8 0,.int .u8 0,.int .u8 0,.int .u8 0,.int .u8 0,.int .u8 0,.int .u8 0,.int .u8 0,.int .u8 0] 61 (0,0)) zq3):g2≠g3);have n8_:=zM (by rw[hg];exact Nat.ne_of_gt (blk_lt (g:=g2) (o:=.cells #[.int .u8 0,.int .u8 0,.int .u8 0,.int .u8 0,.int .u8 0,.int .u8 0,.int .u8 0,.int .u8 0,.int .u8 0,.int .u8 0,.int .u8 0,.int .u8 0,.int .u8 0,.int .u8 0,.int .u8 0,.int .u8 0] 61 (0,0)) zq3):g3≠g2);clear HB BK1 BK2;have HB:=n0_;have BK1:=n1_;have BK2:=n2_;have BK3:=n3_;have GE3:=n4_;have NE1_3:=n5_;have NE3_1:=n6_;have NE2_3:=n7_;have NE3_2:=n8_;clear n0_ n1_ n2_ n3_ n4_ n5_ n6_ n7_ n8_;clear hb hbox hg)
  | ((with_reducible refine gate_store (t:=61) (p:=3) rfl ?_);refine row_event ?hg (ty:=61) (p:=3) (y:=?yo_18) ?ho ?hn (g:=g3) (old:=#[.int .u8 0,.int .u8 0,.int .u8 0,.int .u8 0,.int .u8 0,.int .u8 0,.int .u8 0,.int .u8 0,.int .u8 0,.int .u8 0,.int .u8 0,.int .u8 0,.int .u8 0,.int .u8 0,.int .u8 0,.int .u8 0]) (e:=61) (cells:=(cB (tab 16 fun _=>0#8))) ?hx ?hy ?hk ?hi ?hd ?h1 ?_;(case ho=>rfl);(case hg=>rfl);(case hn=>rfl);(case hx=>rfl);(case hy=>rfl);(case hk=>exact zq10);(case hi=>rw[cB_size,tab_length];kernel_rfl);(case hd=>exact zq207);(case h1=>exact cB_one _);intro wr_ hbk hgr;have n0_:=zM (below_grown1 zq0 hgr GE3.out);have n1_:=zM (blk_grown1 (g':=g1) (ob:=.cells (cB m) 61 (0,0)) zq4 hgr NE1_3.out);have n2_:=zM (blk_grown1 (g':=g2) (ob:=.cells #[.int .u8 0,.int .u8 0,.int .u8 0,.int .u8 0,.int .u8 0,.int .u8 0,.int .u8 0,.int .u8 0,.int .u8 0,.int .u8 0,.int .u8 0,.int .u8 0,.int .u8 0,.int .u8 0,.int .u8 0,.int .u8 0] 61 (0,0)) zq3 hgr NE2_3.out);have n3_:=zM hbk;clear HB BK1 BK2 BK3;have HB:=n0_;have BK1:=n1_;have BK2:=n2_;have BK3:=n3_;clear n0_ n1_ n2_ n3_;clear hbk hgr))
 go_loopw [4] (fun v4 W=>∃ c:Nat,c % 4=0∧c≤16∧v4=.int .i64 c∧Aside0 (W.heap[g1]?=some (.cells (cB m) 61 (0,0)))∧Aside0 (W.heap[g2]?=some (.cells #[.int .u8 0,.int .u8 0,.int .u8 0,.int .u8 0,.int .u8 0,.int .u8 0,.int .u8 0,.int .u8 0,.int .u8 0,.int .u8 0,.int .u8 0,.int .u8 0,.int .u8 0,.int .u8 0,.int .u8 0,.int .u8 0] 61 (0,0)))∧Aside0 (W.heap[g3]?=some (.cells (cB (fillL 16 (mixAt m) (fun _=>0#8) (c))) 61 (0,0)))∧Aside0 (Below w.heap.size w W)) (fun v4 _=>16 - (intOf v4).toNat)
 case atStart=>exact⟨0,zq9,zq9,rfl,BK1,BK2,⟨by rw[fillL_zero];exact BK3.out⟩,HB⟩
 case round=>
  clear BK1 BK2 BK3 HB
  obtain⟨c,hc4,hc,rfl,BK1,BK2,BK3,HB⟩:=hrel
  by_cases hl:c < 16
  ·obtain⟨wo,rfl⟩:∃ wo:World,wo=wr:=⟨_,rfl⟩
   have hd:decide ((c:Int) < 16)=true:=decide_eq_true zq9
   go_wp2_with fail
   go_loopw [13] (fun v13 W=>∃ r:Nat,r≤4∧v13=.int .i64 r∧Aside0 (W.heap[g1]?=some (.cells (cB m) 61 (0,0)))∧Aside0 (W.heap[g2]?=some (.cells #[.int .u8 0,.int .u8 0,.int .u8 0,.int .u8 0,.int .u8 0,.int .u8 0,.int .u8 0,.int .u8 0,.int .u8 0,.int .u8 0,.int .u8 0,.int .u8 0,.int .u8 0,.int .u8 0,.int .u8 0,.int .u8 0] 61 (0,0)))∧Aside0 (W.heap[g3]?=some (.cells (cB (fillL 16 (mixAt m) (fun _=>0#8) (c+r))) 61 (0,0)))∧Aside0 (Below w.heap.size w W)) (fun v13 _=>4 - (intOf v13).toNat)
   case atStart=>exact⟨0,zq9,rfl,BK1,BK2,BK3,HB⟩
   case round=>
    clear BK1 BK2 BK3 HB
    obtain⟨r,hr,rfl,BK1,BK2,BK3,HB⟩:=hrel
    by_cases hr4:r < 4
    ·have hb0:c+r < 16:=by omega
     have hlt:=zM hb0
     have hb1:c+(r+1) % 4 < 16:=by omega
     have hb2:c+(r+2) % 4 < 16:=by omega
     have hb3:c+(r+3) % 4 < 16:=by omega
     have hc0:wr.cell? ⟨g1,c+r,none⟩=some (.int .u8 (bI (by_ m (c+r)))):=by rw[blk_cell BK1.out,cB_get _ _ (by rw[hm.out];exact hb0)]
     have hc1:wr.cell? ⟨g1,c+(r+1) % 4,none⟩=some (.int .u8 (bI (by_ m (c+(r+1) % 4)))):=by rw[blk_cell BK1.out,cB_get _ _ (by rw[hm.out];exact hb1)]
     have hc2:wr.cell? ⟨g1,c+(r+2) % 4,none⟩=some (.int .u8 (bI (by_ m (c+(r+2) % 4)))):=by rw[blk_cell BK1.out,cB_get _ _ (by rw[hm.out];exact hb2)]
     have hc3:wr.cell? ⟨g1,c+(r+3) % 4,none⟩=some (.int .u8 (bI (by_ m (c+(r+3) % 4)))):=by rw[blk_cell BK1.out,cB_get _ _ (by rw[hm.out];exact hb3)]
     obtain⟨old,hold⟩:=Option.isSome_iff_exists.1 (show (wr.cell? ⟨g3,c+r,none⟩).isSome=true by
      rw[blk_cell BK3.out,cB_get _ _ (by rw[fillL_length];exact hb0)];rfl)
     have hf:=blk_frozen BK3.out (c+r)
     have i1:=eq_true (show (0:Int)≤(c:Int)+(r:Int) by omega)
     have i2:=eq_true (show (c:Int)+(r:Int) < 16 by omega)
     have i3:=eq_true (show (0:Int)≤(c:Int)+((r:Int)+1) % 4 by omega)
     have i4:=eq_true (show (c:Int)+((r:Int)+1) % 4 < 16 by omega)
     have i5:=eq_true (show (0:Int)≤(c:Int)+((r:Int)+2) % 4 by omega)
     have i6:=eq_true (show (c:Int)+((r:Int)+2) % 4 < 16 by omega)
     have i7:=eq_true (show (0:Int)≤(c:Int)+((r:Int)+3) % 4 by omega)
     have i8:=eq_true (show (c:Int)+((r:Int)+3) % 4 < 16 by omega)
     have s1:Value.int .i64 (IntKind.i64.wrap ((c:Int)+(r:Int)))=.int .i64 ((c:Int)+(r:Int)):=by rw[IntWalk.i64_in _ zq9]
     have s2:Value.int .i64 (IntKind.i64.wrap ((r:Int)+2))=.int .i64 ((r:Int)+2):=by rw[IntWalk.i64_in _ zq9]
     have s3:Value.int .i64 (IntKind.i64.wrap ((r:Int)+3))=.int .i64 ((r:Int)+3):=by rw[IntWalk.i64_in _ zq9]
     have t2:Value.int .i64 (Int.tmod ((r:Int)+2) 4)=.int .i64 (((r:Int)+2) % 4):=by rw[Int.tmod_eq_emod_of_nonneg zq9]
     have t3:Value.int .i64 (Int.tmod ((r:Int)+3) 4)=.int .i64 (((r:Int)+3) % 4):=by rw[Int.tmod_eq_emod_of_nonneg zq9]
     have s4:Value.int .i64 (IntKind.i64.wrap ((c:Int)+((r:Int)+2) % 4))=.int .i64 ((c:Int)+((r:Int)+2) % 4):=by rw[IntWalk.i64_in _ zq9]
     have s5:Value.int .i64 (IntKind.i64.wrap ((c:Int)+((r:Int)+3) % 4))=.int .i64 ((c:Int)+((r:Int)+3) % 4):=by rw[IntWalk.i64_in _ zq9]
     have n1:∀ g:Nat,(⟨g,((c:Int)+(r:Int)).toNat,none⟩:Addr)=⟨g,c+r,none⟩:=fun g=>by rw[show ((c:Int)+(r:Int)).toNat=c+r by omega]
     have n2:∀ g:Nat,(⟨g,((c:Int)+((r:Int)+2) % 4).toNat,none⟩:Addr)=⟨g,c+(r+2) % 4,none⟩:=fun g=>by rw[show ((c:Int)+((r:Int)+2) % 4).toNat=c+(r+2) % 4 by omega]
     have n3:∀ g:Nat,(⟨g,((c:Int)+((r:Int)+3) % 4).toNat,none⟩:Addr)=⟨g,c+(r+3) % 4,none⟩:=fun g=>by rw[show ((c:Int)+((r:Int)+3) % 4).toNat=c+(r+3) % 4 by omega]
     clear hb0 hb1 hb2 hb3
     have hval:=zM (mixAt_eq m c r hc4 hr4)
     go_wp2_with fail
     go_quiet (fail)
     go_wp2_with fail
     refine wp_region_tail 27 (by kernel_rfl) (by kernel_rfl) ?_
     simp only[List.take_succ_cons,List.take_zero,List.drop_succ_cons,List.drop_zero]
     repeat still_step
     still_call (twice_mix _ _)
     repeat still_step
     still_call (twice_mix _ _)
     repeat still_step
     refine wpStill_nil ?_
     clear s1 s2 s3 t2 t3 s4 s5 n1 n2 n3
     go_wp2_with (first
       | ((with_reducible refine gate_store (t:=5) (p:=54) rfl ?_);refine cell_event ?hg (t:=5) (p:=54) (v:=?vo_19) ?ho ?hn (i:=c+r) (x:=(.int .u8 (Go.bits .xor .u8 (Go.bits .xor .u8 (Go.bits .xor .u8 (Go.bits .xor .u8 (bI (xt (by_ m (c+r)))) (bI (xt (by_ m (c+(r+1) % 4))))) (bI (by_ m (c+(r+1) % 4)))) (bI (by_ m (c+(r+2) % 4)))) (bI (by_ m (c+(r+3) % 4)))))) (cs:=(cB (fillL 16 (mixAt m) (fun _=>0#8) (c+r)))) (g:=g3) (e:=61) ?hk ?hr (cs':=(cB (fillL 16 (mixAt m) (fun _=>0#8) (c+r+1)))) ?hc ?_;(case ho=>rfl);(case hg=>rfl);(case hn=>rfl);(case hk=>exact zq10);(case hr=>first|(go_simp;done)|(go_simp;rfl));(case hc=>rw[bI_xor,bI_xor,bI_xor,bI_xor,← hval.out,cB_set];exact congrArg cB (fillL_set 16 (mixAt m) (fun _=>0#8) (c+r) hlt.out));intro wc hbk hgr;have n0_:=zM (below_grown1 zq0 hgr GE3.out);have n1_:=zM (blk_grown1 (g':=g1) (ob:=.cells (cB m) 61 (0,0)) zq4 hgr NE1_3.out);have n2_:=zM (blk_grown1 (g':=g2) (ob:=.cells #[.int .u8 0,.int .u8 0,.int .u8 0,.int .u8 0,.int .u8 0,.int .u8 0,.int .u8 0,.int .u8 0,.int .u8 0,.int .u8 0,.int .u8 0,.int .u8 0,.int .u8 0,.int .u8 0,.int .u8 0,.int .u8 0] 61 (0,0)) zq3 hgr NE2_3.out);have n3_:=zM hbk;clear HB BK1 BK2 BK3;have HB:=n0_;have BK1:=n1_;have BK2:=n2_;have BK3:=n3_;clear n0_ n1_ n2_ n3_;clear hbk hgr))
     go_roundw
     case rel=>exact⟨r+1,zq9,by go_num,BK1,BK2,BK3,HB⟩
     case measure=>simp[intOf];omega
    ·obtain rfl:r=4:=by omega
     go_wp2
     go_roundw
     case rel=>exact⟨c+4,zq9,zq9,by go_num,BK1,BK2,BK3,HB⟩
     case measure=>simp[intOf];omega
  ·obtain rfl:c=16:=by omega
   rw[show fillL 16 (mixAt m) (fun _=>0#8) 16=mixL m from fillL_all _ _ _] at BK3
   go_wp2_with (first
    | ((with_reducible refine gate_dst (N:=56) rfl ?_);refine wpList_load_row ?hg 61 (.tmp 3) ?ho g3 ?hx 61 (cB (mixL m)) (0,0) _ ?hk Try.underlying61 rfl ?hi ?_;(case hg=>rfl);(case ho=>rfl);(case hx=>rfl);(case hk=>exact zq10);(case hi=>rw[cB_size,mixL_length];kernel_rfl))
    | ((with_reducible refine gate_store (t:=61) (p:=2) rfl ?_);refine row_event ?hg (ty:=61) (p:=2) (y:=?yo_21) ?ho ?hn (g:=g2) (old:=#[.int .u8 0,.int .u8 0,.int .u8 0,.int .u8 0,.int .u8 0,.int .u8 0,.int .u8 0,.int .u8 0,.int .u8 0,.int .u8 0,.int .u8 0,.int .u8 0,.int .u8 0,.int .u8 0,.int .u8 0,.int .u8 0]) (e:=61) (cells:=(cB (mixL m))) ?hx ?hy ?hk ?hi ?hd ?h1 ?_;(case ho=>rfl);(case hg=>rfl);(case hn=>rfl);(case hx=>rfl);(case hy=>rfl);(case hk=>exact zq3);(case hi=>rw[cB_size,mixL_length];kernel_rfl);(case hd=>rw[cB_size,mixL_length];rfl);(case h1=>exact cB_one _);intro wr_ hbk hgr;have n0_:=zM (below_grown1 zq0 hgr GE2.out);have n1_:=zM (blk_grown1 (g':=g1) (ob:=.cells (cB m) 61 (0,0)) zq4 hgr NE1_2.out);have n2_:=zM (blk_grown1 (g':=g3) (ob:=.cells (cB (mixL m)) 61 (0,0)) zq10 hgr NE3_2.out);have n3_:=zM hbk;clear HB BK1 BK3 BK2;have HB:=n0_;have BK1:=n1_;have BK3:=n2_;have BK2:=n3_;clear n0_ n1_ n2_ n3_;clear hbk hgr))
   refine bodyPost_ret (results_cell_row rfl _ _ g2 61 (cB (mixL m)) (0,0) _ rfl zq3 Try.underlying61 rfl (by rw[cB_size,mixL_length];kernel_rfl)) rfl ?_
   exact⟨rfl,HB.out⟩
set_option maxHeartbeats 4000000 in
set_option maxRecDepth 100000 in
theorem impl_cipher_encrypt.calls (gK:Nat) (ks xs:List (BitVec 8)) (hk0:ks.length=176) (hx0:xs.length=16) (w:World) (hb0:w.heap[gK]?=some (.cells (cB ks) 79 (0,0))) :
  Calls Try.prog 60 #[.pointer (some ⟨gK,0,none⟩),.agg (cB xs)] w fun e w'=>e=.returned (.agg (cB (encL ks xs)))∧Below w.heap.size w w':=by
 have hk:=zM hk0
 have hx:=zM hx0
 have hb:=zM hb0
 clear hk0 hx0 hb0
 have HB:=zM (Below.refl w.heap.size w)
 go_enter Try.func60,Try.ntmps60
 go_wp2_with (first
  | ((with_reducible refine gate_dst (N:=3) rfl ?_);refine box_event ?hg (N:=3) ?hd (cs:=(cB xs)) (t:=61) ?hr ?_;(case hd=>rfl);(case hg=>rfl);(case hr=>first|(go_simp;done)|(go_simp;rfl));intro g3 hg w3 hbox hb;have n0_:=zM (below_step zq0 hb);have n1_:=zM hbox;have n2_:=zM (by rw[hg];exact below_size zq0:w.heap.size≤g3);clear HB;have HB:=n0_;have BK3:=n1_;have GE3:=n2_;clear n0_ n1_ n2_;clear hb hbox hg)
  | ((with_reducible refine gate_dst (N:=4) rfl ?_);refine box_event ?hg (N:=4) ?hd (cs:=#[.int .u8 0,.int .u8 0,.int .u8 0,.int .u8 0,.int .u8 0,.int .u8 0,.int .u8 0,.int .u8 0,.int .u8 0,.int .u8 0,.int .u8 0,.int .u8 0,.int .u8 0,.int .u8 0,.int .u8 0,.int .u8 0]) (t:=61) ?hr ?_;(case hd=>rfl);(case hg=>rfl);(case hr=>first|(go_simp;done)|(go_simp;rfl));intro g4 hg w4 hbox hb;have n0_:=zM (below_step zq0 hb);have n1_:=zM (blk_below (g:=g3) (o:=.cells (cB xs) 61 (0,0)) zq10 hb);have n2_:=zM hbox;have n3_:=zM (by rw[hg];exact below_size zq0:w.heap.size≤g4);have n4_:=zM (by rw[hg];exact Nat.ne_of_lt (blk_lt (g:=g3) (o:=.cells (cB xs) 61 (0,0)) zq10):g3≠g4);have n5_:=zM (by rw[hg];exact Nat.ne_of_gt (blk_lt (g:=g3) (o:=.cells (cB xs) 61 (0,0)) zq10):g4≠g3);clear HB BK3;have HB:=n0_;have BK3:=n1_;have BK4:=n2_;have GE4:=n3_;have NE3_4:=n4_;have NE4_3:=n5_;clear n0_ n1_ n2_ n3_ n4_ n5_;clear hb hbox hg)
  | ((with_reducible refine gate_dst (N:=7) rfl ?_);refine wpList_load_row ?hg 61 (.tmp 3) ?ho g3 ?hx 61 (cB xs) (0,0) _ ?hk Try.underlying61 rfl ?hi ?_;(case hg=>rfl);(case ho=>rfl);(case hx=>rfl);(case hk=>exact zq10);(case hi=>rw[cB_size,hx.out];kernel_rfl))
  | (go_at_call 69;(refine(impl_cipher_add.calls gK 0 ks xs hk.out hx.out zq9 _ ((Below.block (B:=w.heap.size) (w:=w) zq0 gK (blk_lt hb.out)).trans hb.out)).mono ?_);rintro e wk ⟨rfl,hb9⟩;have n0_:=zM (below_step zq0 hb9);have n1_:=zM (blk_below (g:=g3) (o:=.cells (cB xs) 61 (0,0)) zq10 hb9);have n2_:=zM (blk_below (g:=g4) (o:=.cells #[.int .u8 0,.int .u8 0,.int .u8 0,.int .u8 0,.int .u8 0,.int .u8 0,.int .u8 0,.int .u8 0,.int .u8 0,.int .u8 0,.int .u8 0,.int .u8 0,.int .u8 0,.int .u8 0,.int .u8 0,.int .u8 0] 61 (0,0)) zq6 hb9);clear HB BK3 BK4;have HB:=n0_;have BK3:=n1_;have BK4:=n2_;clear n0_ n1_ n2_;clear hb9)
  | ((with_reducible refine gate_store (t:=61) (p:=3) rfl ?_);refine row_event ?hg (ty:=61) (p:=3) (y:=?yo_226) ?ho ?hn (g:=g3) (old:=(cB xs)) (e:=61) (cells:=(cB (encTo ks xs 0))) ?hx ?hy ?hk ?hi ?hd ?h1 ?_;(case ho=>rfl);(case hg=>rfl);(case hn=>rfl);(case hx=>rfl);(case hy=>rfl);(case hk=>exact zq10);(case hi=>rw[cB_size,encTo_length];kernel_rfl);(case hd=>simp only[cB_size,encTo_length,hx.out]);(case h1=>exact cB_one _);intro wr_ hbk hgr;have n0_:=zM (below_grown1 zq0 hgr GE3.out);have n1_:=zM (blk_grown1 (g':=g4) (ob:=.cells #[.int .u8 0,.int .u8 0,.int .u8 0,.int .u8 0,.int .u8 0,.int .u8 0,.int .u8 0,.int .u8 0,.int .u8 0,.int .u8 0,.int .u8 0,.int .u8 0,.int .u8 0,.int .u8 0,.int .u8 0,.int .u8 0] 61 (0,0)) zq6 hgr NE4_3.out);have n2_:=zM hbk;clear HB BK4 BK3;have HB:=n0_;have BK4:=n1_;have BK3:=n2_;clear n0_ n1_ n2_;clear hbk hgr))
 try simp only[Act.put,List.setIfInBounds_toArray,List.set_cons_zero,List.set_cons_succ]
 go_loopw [5] (fun v5 W=>∃ r:Nat,r≤9∧v5=.int .i64 ((r:Int)+1)∧Aside0 (W.heap[g3]?=some (.cells (cB (encTo ks xs r)) 61 (0,0)))∧Aside0 (W.heap[g4]?=some (.cells #[.int .u8 0,.int .u8 0,.int .u8 0,.int .u8 0,.int .u8 0,.int .u8 0,.int .u8 0,.int .u8 0,.int .u8 0,.int .u8 0,.int .u8 0,.int .u8 0,.int .u8 0,.int .u8 0,.int .u8 0,.int .u8 0] 61 (0,0)))∧Aside0 (Below w.heap.size w W)) (fun v5 _=>11 - (intOf v5).toNat)
 case atStart=>exact⟨0,zq9,rfl,BK3,BK4,HB⟩
 case round=>
  clear BK3 BK4 HB
  obtain⟨r,hr,rfl,BK3,BK4,HB⟩:=hrel
  by_cases hl:r < 9
  ·have hrl:=zM (show r+1≤10 by omega)
   have hlt:decide ((r:Int)+1 < 10)=true:=decide_eq_true zq9
   have hcast:Value.int .i64 ((r:Int)+1)=.int .i64 ((r+1:Nat):Int):=by rfl
   rw[hcast]
   have hlt2:decide (((r+1:Nat):Int) < 10)=true:=decide_eq_true zq9
   go_wp2_with (first
     | ((with_reducible refine gate_dst (N:=14) rfl ?_);refine wpList_load_row ?hg 61 (.tmp 3) ?ho g3 ?hx 61 (cB (encTo ks xs r)) (0,0) _ ?hk Try.underlying61 rfl ?hi ?_;(case hg=>rfl);(case ho=>rfl);(case hx=>rfl);(case hk=>exact zq10);(case hi=>rw[cB_size,encTo_length];kernel_rfl))
     | (go_at_call 70;refine(impl_block_subBytes.calls (encTo ks xs r) (encTo_length _ _ _) _).mono ?_;rintro e wk ⟨rfl,hb⟩;have n0_:=zM (below_step zq0 hb);have n1_:=zM (blk_below (g:=g3) (o:=.cells (cB (encTo ks xs r)) 61 (0,0)) zq10 hb);have n2_:=zM (blk_below (g:=g4) (o:=.cells #[.int .u8 0,.int .u8 0,.int .u8 0,.int .u8 0,.int .u8 0,.int .u8 0,.int .u8 0,.int .u8 0,.int .u8 0,.int .u8 0,.int .u8 0,.int .u8 0,.int .u8 0,.int .u8 0,.int .u8 0,.int .u8 0] 61 (0,0)) zq6 hb);clear HB BK3 BK4;have HB:=n0_;have BK3:=n1_;have BK4:=n2_;clear n0_ n1_ n2_;clear hb)
     | (go_at_call 71;refine(impl_block_shiftRows.calls (subL (encTo ks xs r)) (subL_length _) _).mono ?_;rintro e wk ⟨rfl,hb⟩;have n0_:=zM (below_step zq0 hb);have n1_:=zM (blk_below (g:=g3) (o:=.cells (cB (encTo ks xs r)) 61 (0,0)) zq10 hb);have n2_:=zM (blk_below (g:=g4) (o:=.cells #[.int .u8 0,.int .u8 0,.int .u8 0,.int .u8 0,.int .u8 0,.int .u8 0,.int .u8 0,.int .u8 0,.int .u8 0,.int .u8 0,.int .u8 0,.int .u8 0,.int .u8 0,.int .u8 0,.int .u8 0,.int .u8 0] 61 (0,0)) zq6 hb);clear HB BK3 BK4;have HB:=n0_;have BK3:=n1_;have BK4:=n2_;clear n0_ n1_ n2_;clear hb)
     | (go_at_call 72;refine(impl_block_mixColumns.calls (shiftL (subL (encTo ks xs r))) (shiftL_length _) _).mono ?_;rintro e wk ⟨rfl,hb⟩;have n0_:=zM (below_step zq0 hb);have n1_:=zM (blk_below (g:=g3) (o:=.cells (cB (encTo ks xs r)) 61 (0,0)) zq10 hb);have n2_:=zM (blk_below (g:=g4) (o:=.cells #[.int .u8 0,.int .u8 0,.int .u8 0,.int .u8 0,.int .u8 0,.int .u8 0,.int .u8 0,.int .u8 0,.int .u8 0,.int .u8 0,.int .u8 0,.int .u8 0,.int .u8 0,.int .u8 0,.int .u8 0,.int .u8 0] 61 (0,0)) zq6 hb);clear HB BK3 BK4;have HB:=n0_;have BK3:=n1_;have BK4:=n2_;clear n0_ n1_ n2_;clear hb)
     | (go_at_call 69;(refine(impl_cipher_add.calls gK (r+1) ks (mixL (shiftL (subL (encTo ks xs r)))) hk.out (mixL_length _) hrl.out _ ((Below.block (B:=w.heap.size) (w:=w) zq0 gK (blk_lt hb.out)).trans hb.out)).mono ?_);rintro e wk ⟨rfl,hb9⟩;have n0_:=zM (below_step zq0 hb9);have n1_:=zM (blk_below (g:=g3) (o:=.cells (cB (encTo ks xs r)) 61 (0,0)) zq10 hb9);have n2_:=zM (blk_below (g:=g4) (o:=.cells #[.int .u8 0,.int .u8 0,.int .u8 0,.int .u8 0,.int .u8 0,.int .u8 0,.int .u8 0,.int .u8 0,.int .u8 0,.int .u8 0,.int .u8 0,.int .u8 0,.int .u8 0,.int .u8 0,.int .u8 0,.int .u8 0] 61 (0,0)) zq6 hb9);clear HB BK3 BK4;have HB:=n0_;have BK3:=n1_;have BK4:=n2_;clear n0_ n1_ n2_;clear hb9)
     | ((with_reducible refine gate_store (t:=61) (p:=3) rfl ?_);refine row_event ?hg (ty:=61) (p:=3) (y:=?yo_232) ?ho ?hn (g:=g3) (old:=(cB (encTo ks xs r))) (e:=61) (cells:=(cB (encTo ks xs (r+1)))) ?hx ?hy ?hk ?hi ?hd ?h1 ?_;(case ho=>rfl);(case hg=>rfl);(case hn=>rfl);(case hx=>rfl);(case hy=>rfl);(case hk=>exact zq10);(case hi=>rw[cB_size,encTo_length];kernel_rfl);(case hd=>simp only[cB_size,encTo_length]);(case h1=>exact cB_one _);intro wr_ hbk hgr;have n0_:=zM (below_grown1 zq0 hgr GE3.out);have n1_:=zM (blk_grown1 (g':=g4) (ob:=.cells #[.int .u8 0,.int .u8 0,.int .u8 0,.int .u8 0,.int .u8 0,.int .u8 0,.int .u8 0,.int .u8 0,.int .u8 0,.int .u8 0,.int .u8 0,.int .u8 0,.int .u8 0,.int .u8 0,.int .u8 0,.int .u8 0] 61 (0,0)) zq6 hgr NE4_3.out);have n2_:=zM hbk;clear HB BK4 BK3;have HB:=n0_;have BK4:=n1_;have BK3:=n2_;clear n0_ n1_ n2_;clear hbk hgr))
   go_roundw
   case rel=>exact⟨r+1,zq9,by go_num,BK3,BK4,HB⟩
   case measure=>simp[intOf];omega
  ·obtain rfl:r=9:=by omega
   go_wp2_with (first
     | ((with_reducible refine gate_dst (N:=21) rfl ?_);refine wpList_load_row ?hg 61 (.tmp 3) ?ho g3 ?hx 61 (cB (encTo ks xs 9)) (0,0) _ ?hk Try.underlying61 rfl ?hi ?_;(case hg=>rfl);(case ho=>rfl);(case hx=>rfl);(case hk=>exact zq10);(case hi=>rw[cB_size,encTo_length];kernel_rfl))
     | (go_at_call 70;refine(impl_block_subBytes.calls (encTo ks xs 9) (encTo_length _ _ _) _).mono ?_;rintro e wk ⟨rfl,hb⟩;have n0_:=zM (below_step zq0 hb);have n1_:=zM (blk_below (g:=g3) (o:=.cells (cB (encTo ks xs 9)) 61 (0,0)) zq10 hb);have n2_:=zM (blk_below (g:=g4) (o:=.cells #[.int .u8 0,.int .u8 0,.int .u8 0,.int .u8 0,.int .u8 0,.int .u8 0,.int .u8 0,.int .u8 0,.int .u8 0,.int .u8 0,.int .u8 0,.int .u8 0,.int .u8 0,.int .u8 0,.int .u8 0,.int .u8 0] 61 (0,0)) zq6 hb);clear HB BK3 BK4;have HB:=n0_;have BK3:=n1_;have BK4:=n2_;clear n0_ n1_ n2_;clear hb)
     | (go_at_call 71;refine(impl_block_shiftRows.calls (subL (encTo ks xs 9)) (subL_length _) _).mono ?_;rintro e wk ⟨rfl,hb⟩;have n0_:=zM (below_step zq0 hb);have n1_:=zM (blk_below (g:=g3) (o:=.cells (cB (encTo ks xs 9)) 61 (0,0)) zq10 hb);have n2_:=zM (blk_below (g:=g4) (o:=.cells #[.int .u8 0,.int .u8 0,.int .u8 0,.int .u8 0,.int .u8 0,.int .u8 0,.int .u8 0,.int .u8 0,.int .u8 0,.int .u8 0,.int .u8 0,.int .u8 0,.int .u8 0,.int .u8 0,.int .u8 0,.int .u8 0] 61 (0,0)) zq6 hb);clear HB BK3 BK4;have HB:=n0_;have BK3:=n1_;have BK4:=n2_;clear n0_ n1_ n2_;clear hb)
     | (go_at_call 69;(refine(impl_cipher_add.calls gK 10 ks (shiftL (subL (encTo ks xs 9))) hk.out (shiftL_length _) zq9 _ ((Below.block (B:=w.heap.size) (w:=w) zq0 gK (blk_lt hb.out)).trans hb.out)).mono ?_);rintro e wk ⟨rfl,hb9⟩;have n0_:=zM (below_step zq0 hb9);have n1_:=zM (blk_below (g:=g3) (o:=.cells (cB (encTo ks xs 9)) 61 (0,0)) zq10 hb9);have n2_:=zM (blk_below (g:=g4) (o:=.cells #[.int .u8 0,.int .u8 0,.int .u8 0,.int .u8 0,.int .u8 0,.int .u8 0,.int .u8 0,.int .u8 0,.int .u8 0,.int .u8 0,.int .u8 0,.int .u8 0,.int .u8 0,.int .u8 0,.int .u8 0,.int .u8 0] 61 (0,0)) zq6 hb9);clear HB BK3 BK4;have HB:=n0_;have BK3:=n1_;have BK4:=n2_;clear n0_ n1_ n2_;clear hb9)
     | ((with_reducible refine gate_store (t:=61) (p:=4) rfl ?_);refine row_event ?hg (ty:=61) (p:=4) (y:=?yo_237) ?ho ?hn (g:=g4) (old:=#[.int .u8 0,.int .u8 0,.int .u8 0,.int .u8 0,.int .u8 0,.int .u8 0,.int .u8 0,.int .u8 0,.int .u8 0,.int .u8 0,.int .u8 0,.int .u8 0,.int .u8 0,.int .u8 0,.int .u8 0,.int .u8 0]) (e:=61) (cells:=(cB (encL ks xs))) ?hx ?hy ?hk ?hi ?hd ?h1 ?_;(case ho=>rfl);(case hg=>rfl);(case hn=>rfl);(case hx=>rfl);(case hy=>rfl);(case hk=>exact zq6);(case hi=>rw[cB_size,encL_length];kernel_rfl);(case hd=>rw[cB_size,encL_length];rfl);(case h1=>exact cB_one _);intro wr_ hbk hgr;have n0_:=zM (below_grown1 zq0 hgr GE4.out);have n1_:=zM (blk_grown1 (g':=g3) (ob:=.cells (cB (encTo ks xs 9)) 61 (0,0)) zq10 hgr NE3_4.out);have n2_:=zM hbk;clear HB BK3 BK4;have HB:=n0_;have BK3:=n1_;have BK4:=n2_;clear n0_ n1_ n2_;clear hbk hgr))
   refine bodyPost_ret (results_cell_row rfl _ _ g4 61 (cB (encL ks xs)) (0,0) _ rfl zq6 Try.underlying61 rfl (by rw[cB_size,encL_length];kernel_rfl)) rfl ?_
   exact⟨rfl,HB.out⟩
end Go.Proofs.Ytkjgdndaepobiaa.All
