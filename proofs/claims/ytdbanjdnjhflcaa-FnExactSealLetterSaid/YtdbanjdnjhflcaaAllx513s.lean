-- Laid by wip/shake.py of this repo out of this claim's texts. Not trusted: Lean checks it.
import Derived.Test.YtdbanjdnjhflcaaAb0s
import Derived.Test.YtdbanjdnjhflcaaAlgs
import Derived.Test.YtdbanjdnjhflcaaAllx119s
set_option linter.unusedSimpArgs false
set_option linter.unusedVariables false
namespace Go.Proofs.Ytdbanjdnjhflcaa.All
open Go.Proofs.YtdbanjdnjhflcaaW.PrintWords.Aside0 renaming mk→zM
open Go.RowKit Go.Proofs.YtdbanjdnjhflcaaW.PrintWords Go.Proofs.YtdbanjdnjhflcaaW.PrintLast Go.Proofs.YtdbanjdnjhflcaaW.PrintMore
attribute [local go_sem] max2_int min2_int max_two min_two max_three min_three max_four min_four
set_option maxHeartbeats 4000000 in
set_option maxRecDepth 100000 in
theorem twice_mix (a:BitVec 8) (w:World):Calls Try.prog 80 #[.int .u8 (bI a)] w fun e w'=>e=.returned (.int .u8 (bI (xt a)))∧w'=w:=by
 have hx:=bI_xt a
 have h0:=bI_lo a
 have h1:=bI_hi a
 by_cases h:bI a ≥ 128
 ·rw[if_pos h,Option.some.injEq] at hx
  have X:=zM hx
  clear hx
  go_enter Try.func80,Try.ntmps80
  go_wp2
  go_ret
  exact⟨by rw[X.out];rfl,rfl⟩
 ·rw[if_neg h,Option.some.injEq] at hx
  have X:=zM hx
  clear hx
  go_enter Try.func80,Try.ntmps80
  go_wp2
  go_ret
  exact⟨congrArg (fun z=>Ending.returned (.int .u8 z)) (show bI a*2=bI (xt a) by have:=X.out;omega),rfl⟩
set_option maxHeartbeats 4000000 in
set_option maxRecDepth 100000 in
theorem impl_block_mixColumns.calls (m:List (BitVec 8)) (hm0:m.length=16) (w:World) :
  Calls Try.prog 84 #[.agg (cB m)] w fun e w'=>e=.returned (.agg (cB (mixL m)))∧Below w.heap.size w w':=by
 have hm:=zM hm0
 clear hm0
 have HB:=zM (Below.refl w.heap.size w)
 go_enter Try.func84,Try.ntmps84
 go_wp2_with (first
  | ((with_reducible refine gate_dst (N:=1) rfl ?_);refine box_event ?hg (N:=1) ?hd (cs:=(cB m)) (t:=88) ?hr ?_;(case hd=>rfl);(case hg=>rfl);(case hr=>first|(go_simp;done)|(go_simp;rfl));intro g1 hg w1 hbox hb;have n0_:=zM (below_step zq0 hb);have n1_:=zM hbox;have n2_:=zM (by rw[hg];exact below_size zq0:w.heap.size≤g1);clear HB;have HB:=n0_;have BK1:=n1_;have GE1:=n2_;clear n0_ n1_ n2_;clear hb hbox hg)
  | ((with_reducible refine gate_dst (N:=2) rfl ?_);refine box_event ?hg (N:=2) ?hd (cs:=#[.int .u8 0,.int .u8 0,.int .u8 0,.int .u8 0,.int .u8 0,.int .u8 0,.int .u8 0,.int .u8 0,.int .u8 0,.int .u8 0,.int .u8 0,.int .u8 0,.int .u8 0,.int .u8 0,.int .u8 0,.int .u8 0]) (t:=88) ?hr ?_;(case hd=>rfl);(case hg=>rfl);(case hr=>first|(go_simp;done)|(go_simp;rfl));intro g2 hg w2 hbox hb;have n0_:=zM (below_step zq0 hb);have n1_:=zM (blk_below (g:=g1) (o:=.cells (cB m) 88 (0,0)) zq4 hb);have n2_:=zM hbox;have n3_:=zM (by rw[hg];exact below_size zq0:w.heap.size≤g2);have n4_:=zM (by rw[hg];exact Nat.ne_of_lt (blk_lt (g:=g1) (o:=.cells (cB m) 88 (0,0)) zq4):g1≠g2);have n5_:=zM (by rw[hg];exact Nat.ne_of_gt (blk_lt (g:=g1) (o:=.cells (cB m) 88 (0,0)) zq4):g2≠g1);clear HB BK1;have HB:=n0_;have BK1:=n1_;have BK2:=n2_;have GE2:=n3_;have NE1_2:=n4_;have NE2_1:=n5_;clear n0_ n1_ n2_ n3_ n4_ n5_;clear hb hbox hg)
  | ((with_reducible refine gate_dst (N:=3) rfl ?_);refine box_event ?hg (N:=3) ?hd (cs:=#[.int .u8 0,.int .u8 0,.int .u8 0,.int .u8 0,.int .u8 0,.int .u8 0,.int .u8 0,.int .u8 0,.int .u8 0,.int .u8 0,.int .u8 0,.int .u8 0,.int .u8 0,.int .u8 0,.int .u8 0,.int .u8 0]) (t:=88) ?hr ?_;(case hd=>rfl);(case hg=>rfl);(case hr=>first|(go_simp;done)|(go_simp;rfl));intro g3 hg w3 hbox hb;have n0_:=zM (below_step zq0 hb);have n1_:=zM (blk_below (g:=g1) (o:=.cells (cB m) 88 (0,0)) zq4 hb);have n2_:=zM (blk_below (g:=g2) (o:=.cells #[.int .u8 0,.int .u8 0,.int .u8 0,.int .u8 0,.int .u8 0,.int .u8 0,.int .u8 0,.int .u8 0,.int .u8 0,.int .u8 0,.int .u8 0,.int .u8 0,.int .u8 0,.int .u8 0,.int .u8 0,.int .u8 0] 88 (0,0)) zq2 hb);have n3_:=zM hbox;have n4_:=zM (by rw[hg];exact below_size zq0:w.heap.size≤g3);have n5_:=zM (by rw[hg];exact Nat.ne_of_lt (blk_lt (g:=g1) (o:=.cells (cB m) 88 (0,0)) zq4):g1≠g3);have n6_:=zM (by rw[hg];exact Nat.ne_of_gt (blk_lt (g:=g1) (o:=.cells (cB m) 88 (0,0)) zq4):g3≠g1);have n7_:=zM (by rw[hg];exact Nat.ne_of_lt (blk_lt (g:=g2) (o:=.cells #[.int .u8 0,.int .u8 0,.int .u8 0,.int .u8 0,.int .u8 0,.int .u8 0,.int .u8 0,.int .u8 0,.int .u8 0,.int .u8 0,.int .u8 0,.int .u8 0,.int .u8 0,.int .u8 0,.int .u8 0,.int .u8 0] 88 (0,0)) zq2):g2≠g3);have n8_:=zM (by rw[hg];exact Nat.ne_of_gt (blk_lt (g:=g2) (o:=.cells #[.int .u8 0,.int .u8 0,.int .u8 0,.int .u8 0,.int .u8 0,.int .u8 0,.int .u8 0,.int .u8 0,.int .u8 0,.int .u8 0,.int .u8 0,.int .u8 0,.int .u8 0,.int .u8 0,.int .u8 0,.int .u8 0] 88 (0,0)) zq2):g3≠g2);clear HB BK1 BK2;have HB:=n0_;have BK1:=n1_;have BK2:=n2_;have BK3:=n3_;have GE3:=n4_;have NE1_3:=n5_;have NE3_1:=n6_;have NE2_3:=n7_;have NE3_2:=n8_;clear n0_ n1_ n2_ n3_ n4_ n5_ n6_ n7_ n8_;clear hb hbox hg)
  | ((with_reducible refine gate_store (t:=88) (p:=3) rfl ?_);refine row_event ?hg (ty:=88) (p:=3) (y:=?yo_18) ?ho ?hn (g:=g3) (old:=#[.int .u8 0,.int .u8 0,.int .u8 0,.int .u8 0,.int .u8 0,.int .u8 0,.int .u8 0,.int .u8 0,.int .u8 0,.int .u8 0,.int .u8 0,.int .u8 0,.int .u8 0,.int .u8 0,.int .u8 0,.int .u8 0]) (e:=88) (cells:=(cB (tab 16 fun _=>0#8))) ?hx ?hy ?hk ?hi ?hd ?h1 ?_;(case ho=>rfl);(case hg=>rfl);(case hn=>rfl);(case hx=>rfl);(case hy=>rfl);(case hk=>exact zq9);(case hi=>rw[cB_size,tab_length];kernel_rfl);(case hd=>exact zq163);(case h1=>exact cB_one _);intro wr_ hbk hgr;have n0_:=zM (below_grown1 zq0 hgr GE3.out);have n1_:=zM (blk_grown1 (g':=g1) (ob:=.cells (cB m) 88 (0,0)) zq4 hgr NE1_3.out);have n2_:=zM (blk_grown1 (g':=g2) (ob:=.cells #[.int .u8 0,.int .u8 0,.int .u8 0,.int .u8 0,.int .u8 0,.int .u8 0,.int .u8 0,.int .u8 0,.int .u8 0,.int .u8 0,.int .u8 0,.int .u8 0,.int .u8 0,.int .u8 0,.int .u8 0,.int .u8 0] 88 (0,0)) zq2 hgr NE2_3.out);have n3_:=zM hbk;clear HB BK1 BK2 BK3;have HB:=n0_;have BK1:=n1_;have BK2:=n2_;have BK3:=n3_;clear n0_ n1_ n2_ n3_;clear hbk hgr))
 go_loopw [4] (fun v4 W=>∃ c:Nat,c % 4=0∧c≤16∧v4=.int .i64 c∧Aside0 (W.heap[g1]?=some (.cells (cB m) 88 (0,0)))∧Aside0 (W.heap[g2]?=some (.cells #[.int .u8 0,.int .u8 0,.int .u8 0,.int .u8 0,.int .u8 0,.int .u8 0,.int .u8 0,.int .u8 0,.int .u8 0,.int .u8 0,.int .u8 0,.int .u8 0,.int .u8 0,.int .u8 0,.int .u8 0,.int .u8 0] 88 (0,0)))∧Aside0 (W.heap[g3]?=some (.cells (cB (fillL 16 (mixAt m) (fun _=>0#8) (c))) 88 (0,0)))∧Aside0 (Below w.heap.size w W)) (fun v4 _=>16 - (intOf v4).toNat)
 case atStart=>exact⟨0,zq8,zq8,rfl,BK1,BK2,⟨by rw[fillL_zero];exact BK3.out⟩,HB⟩
 case round=>
  clear BK1 BK2 BK3 HB
  obtain⟨c,hc4,hc,rfl,BK1,BK2,BK3,HB⟩:=hrel
  by_cases hl:c < 16
  ·obtain⟨wo,rfl⟩:∃ wo:World,wo=wr:=⟨_,rfl⟩
   have hd:decide ((c:Int) < 16)=true:=decide_eq_true zq8
   go_wp2_with fail
   go_loopw [13] (fun v13 W=>∃ r:Nat,r≤4∧v13=.int .i64 r∧Aside0 (W.heap[g1]?=some (.cells (cB m) 88 (0,0)))∧Aside0 (W.heap[g2]?=some (.cells #[.int .u8 0,.int .u8 0,.int .u8 0,.int .u8 0,.int .u8 0,.int .u8 0,.int .u8 0,.int .u8 0,.int .u8 0,.int .u8 0,.int .u8 0,.int .u8 0,.int .u8 0,.int .u8 0,.int .u8 0,.int .u8 0] 88 (0,0)))∧Aside0 (W.heap[g3]?=some (.cells (cB (fillL 16 (mixAt m) (fun _=>0#8) (c+r))) 88 (0,0)))∧Aside0 (Below w.heap.size w W)) (fun v13 _=>4 - (intOf v13).toNat)
   case atStart=>exact⟨0,zq8,rfl,BK1,BK2,BK3,HB⟩
   case round=>
    clear BK1 BK2 BK3 HB
    obtain⟨r,hr,rfl,BK1,BK2,BK3,HB⟩:=hrel
    by_cases hr4:r < 4
    ·have hb0:c+r < 16:=by omega
     have hlt:=zM hb0
     have hb1:c+(r+1) % 4 < 16:=by omega
     have hb2:c+(r+2) % 4 < 16:=by omega
     have hb3:c+(r+3) % 4 < 16:=by omega
     have hc0:wr.cell? ⟨g1,c+r,none⟩=some (.int .u8 (bI (by_ m (c+r)))):=by rw[blk_cell BK1.out,cB_get _ _ (by rw[hm.out];exact hb0)]
     have hc1:wr.cell? ⟨g1,c+(r+1) % 4,none⟩=some (.int .u8 (bI (by_ m (c+(r+1) % 4)))):=by rw[blk_cell BK1.out,cB_get _ _ (by rw[hm.out];exact hb1)]
     have hc2:wr.cell? ⟨g1,c+(r+2) % 4,none⟩=some (.int .u8 (bI (by_ m (c+(r+2) % 4)))):=by rw[blk_cell BK1.out,cB_get _ _ (by rw[hm.out];exact hb2)]
     have hc3:wr.cell? ⟨g1,c+(r+3) % 4,none⟩=some (.int .u8 (bI (by_ m (c+(r+3) % 4)))):=by rw[blk_cell BK1.out,cB_get _ _ (by rw[hm.out];exact hb3)]
     obtain⟨old,hold⟩:=Option.isSome_iff_exists.1 (show (wr.cell? ⟨g3,c+r,none⟩).isSome=true by
      rw[blk_cell BK3.out,cB_get _ _ (by rw[fillL_length];exact hb0)];rfl)
     have hf:=blk_frozen BK3.out (c+r)
     have i1:=eq_true (show (0:Int)≤(c:Int)+(r:Int) by omega)
     have i2:=eq_true (show (c:Int)+(r:Int) < 16 by omega)
     have i3:=eq_true (show (0:Int)≤(c:Int)+((r:Int)+1) % 4 by omega)
     have i4:=eq_true (show (c:Int)+((r:Int)+1) % 4 < 16 by omega)
     have i5:=eq_true (show (0:Int)≤(c:Int)+((r:Int)+2) % 4 by omega)
     have i6:=eq_true (show (c:Int)+((r:Int)+2) % 4 < 16 by omega)
     have i7:=eq_true (show (0:Int)≤(c:Int)+((r:Int)+3) % 4 by omega)
     have i8:=eq_true (show (c:Int)+((r:Int)+3) % 4 < 16 by omega)
     have s1:Value.int .i64 (IntKind.i64.wrap ((c:Int)+(r:Int)))=.int .i64 ((c:Int)+(r:Int)):=by rw[IntWalk.i64_in _ zq8]
     have s2:Value.int .i64 (IntKind.i64.wrap ((r:Int)+2))=.int .i64 ((r:Int)+2):=by rw[IntWalk.i64_in _ zq8]
     have s3:Value.int .i64 (IntKind.i64.wrap ((r:Int)+3))=.int .i64 ((r:Int)+3):=by rw[IntWalk.i64_in _ zq8]
     have t2:Value.int .i64 (Int.tmod ((r:Int)+2) 4)=.int .i64 (((r:Int)+2) % 4):=by rw[Int.tmod_eq_emod_of_nonneg zq8]
     have t3:Value.int .i64 (Int.tmod ((r:Int)+3) 4)=.int .i64 (((r:Int)+3) % 4):=by rw[Int.tmod_eq_emod_of_nonneg zq8]
     have s4:Value.int .i64 (IntKind.i64.wrap ((c:Int)+((r:Int)+2) % 4))=.int .i64 ((c:Int)+((r:Int)+2) % 4):=by rw[IntWalk.i64_in _ zq8]
     have s5:Value.int .i64 (IntKind.i64.wrap ((c:Int)+((r:Int)+3) % 4))=.int .i64 ((c:Int)+((r:Int)+3) % 4):=by rw[IntWalk.i64_in _ zq8]
     have n1:∀ g:Nat,(⟨g,((c:Int)+(r:Int)).toNat,none⟩:Addr)=⟨g,c+r,none⟩:=fun g=>by rw[show ((c:Int)+(r:Int)).toNat=c+r by omega]
     have n2:∀ g:Nat,(⟨g,((c:Int)+((r:Int)+2) % 4).toNat,none⟩:Addr)=⟨g,c+(r+2) % 4,none⟩:=fun g=>by rw[show ((c:Int)+((r:Int)+2) % 4).toNat=c+(r+2) % 4 by omega]
     have n3:∀ g:Nat,(⟨g,((c:Int)+((r:Int)+3) % 4).toNat,none⟩:Addr)=⟨g,c+(r+3) % 4,none⟩:=fun g=>by rw[show ((c:Int)+((r:Int)+3) % 4).toNat=c+(r+3) % 4 by omega]
     clear hb0 hb1 hb2 hb3
     have hval:=zM (mixAt_eq m c r hc4 hr4)
     go_wp2_with fail
     go_quiet (fail)
     go_wp2_with fail
     refine wp_region_tail 27 (by kernel_rfl) (by kernel_rfl) ?_
     simp only[List.take_succ_cons,List.take_zero,List.drop_succ_cons,List.drop_zero]
     repeat still_step
     still_call (twice_mix _ _)
     repeat still_step
     still_call (twice_mix _ _)
     repeat still_step
     refine wpStill_nil ?_
     clear s1 s2 s3 t2 t3 s4 s5 n1 n2 n3
     go_wp2_with (first
       | ((with_reducible refine gate_store (t:=5) (p:=54) rfl ?_);refine cell_event ?hg (t:=5) (p:=54) (v:=?vo_19) ?ho ?hn (i:=c+r) (x:=(.int .u8 (Go.bits .xor .u8 (Go.bits .xor .u8 (Go.bits .xor .u8 (Go.bits .xor .u8 (bI (xt (by_ m (c+r)))) (bI (xt (by_ m (c+(r+1) % 4))))) (bI (by_ m (c+(r+1) % 4)))) (bI (by_ m (c+(r+2) % 4)))) (bI (by_ m (c+(r+3) % 4)))))) (cs:=(cB (fillL 16 (mixAt m) (fun _=>0#8) (c+r)))) (g:=g3) (e:=88) ?hk ?hr (cs':=(cB (fillL 16 (mixAt m) (fun _=>0#8) (c+r+1)))) ?hc ?_;(case ho=>rfl);(case hg=>rfl);(case hn=>rfl);(case hk=>exact zq9);(case hr=>first|(go_simp;done)|(go_simp;rfl));(case hc=>rw[bI_xor,bI_xor,bI_xor,bI_xor,← hval.out,cB_set];exact congrArg cB (fillL_set 16 (mixAt m) (fun _=>0#8) (c+r) hlt.out));intro wc hbk hgr;have n0_:=zM (below_grown1 zq0 hgr GE3.out);have n1_:=zM (blk_grown1 (g':=g1) (ob:=.cells (cB m) 88 (0,0)) zq4 hgr NE1_3.out);have n2_:=zM (blk_grown1 (g':=g2) (ob:=.cells #[.int .u8 0,.int .u8 0,.int .u8 0,.int .u8 0,.int .u8 0,.int .u8 0,.int .u8 0,.int .u8 0,.int .u8 0,.int .u8 0,.int .u8 0,.int .u8 0,.int .u8 0,.int .u8 0,.int .u8 0,.int .u8 0] 88 (0,0)) zq2 hgr NE2_3.out);have n3_:=zM hbk;clear HB BK1 BK2 BK3;have HB:=n0_;have BK1:=n1_;have BK2:=n2_;have BK3:=n3_;clear n0_ n1_ n2_ n3_;clear hbk hgr))
     go_roundw
     case rel=>exact⟨r+1,zq8,by go_num,BK1,BK2,BK3,HB⟩
     case measure=>simp[intOf];omega
    ·obtain rfl:r=4:=by omega
     go_wp2
     go_roundw
     case rel=>exact⟨c+4,zq8,zq8,by go_num,BK1,BK2,BK3,HB⟩
     case measure=>simp[intOf];omega
  ·obtain rfl:c=16:=by omega
   rw[show fillL 16 (mixAt m) (fun _=>0#8) 16=mixL m from fillL_all _ _ _] at BK3
   go_wp2_with (first
    | ((with_reducible refine gate_dst (N:=56) rfl ?_);refine wpList_load_row ?hg 88 (.tmp 3) ?ho g3 ?hx 88 (cB (mixL m)) (0,0) _ ?hk Try.underlying88 rfl ?hi ?_;(case hg=>rfl);(case ho=>rfl);(case hx=>rfl);(case hk=>exact zq9);(case hi=>rw[cB_size,mixL_length];kernel_rfl))
    | ((with_reducible refine gate_store (t:=88) (p:=2) rfl ?_);refine row_event ?hg (ty:=88) (p:=2) (y:=?yo_21) ?ho ?hn (g:=g2) (old:=#[.int .u8 0,.int .u8 0,.int .u8 0,.int .u8 0,.int .u8 0,.int .u8 0,.int .u8 0,.int .u8 0,.int .u8 0,.int .u8 0,.int .u8 0,.int .u8 0,.int .u8 0,.int .u8 0,.int .u8 0,.int .u8 0]) (e:=88) (cells:=(cB (mixL m))) ?hx ?hy ?hk ?hi ?hd ?h1 ?_;(case ho=>rfl);(case hg=>rfl);(case hn=>rfl);(case hx=>rfl);(case hy=>rfl);(case hk=>exact zq2);(case hi=>rw[cB_size,mixL_length];kernel_rfl);(case hd=>rw[cB_size,mixL_length];rfl);(case h1=>exact cB_one _);intro wr_ hbk hgr;have n0_:=zM (below_grown1 zq0 hgr GE2.out);have n1_:=zM (blk_grown1 (g':=g1) (ob:=.cells (cB m) 88 (0,0)) zq4 hgr NE1_2.out);have n2_:=zM (blk_grown1 (g':=g3) (ob:=.cells (cB (mixL m)) 88 (0,0)) zq9 hgr NE3_2.out);have n3_:=zM hbk;clear HB BK1 BK3 BK2;have HB:=n0_;have BK1:=n1_;have BK3:=n2_;have BK2:=n3_;clear n0_ n1_ n2_ n3_;clear hbk hgr))
   refine bodyPost_ret (results_cell_row rfl _ _ g2 88 (cB (mixL m)) (0,0) _ rfl zq2 Try.underlying88 rfl (by rw[cB_size,mixL_length];kernel_rfl)) rfl ?_
   exact⟨rfl,HB.out⟩
set_option maxHeartbeats 4000000 in
set_option maxRecDepth 100000 in
theorem impl_cipher_encrypt.calls (gK:Nat) (ks xs:List (BitVec 8)) (hk0:ks.length=176) (hx0:xs.length=16) (w:World) (hb0:w.heap[gK]?=some (.cells (cB ks) 100 (0,0))) :
  Calls Try.prog 70 #[.pointer (some ⟨gK,0,none⟩),.agg (cB xs)] w fun e w'=>e=.returned (.agg (cB (encL ks xs)))∧Below w.heap.size w w':=by
 have hk:=zM hk0
 have hx:=zM hx0
 have hb:=zM hb0
 clear hk0 hx0 hb0
 have HB:=zM (Below.refl w.heap.size w)
 go_enter Try.func70,Try.ntmps70
 go_wp2_with (first
  | ((with_reducible refine gate_dst (N:=3) rfl ?_);refine box_event ?hg (N:=3) ?hd (cs:=(cB xs)) (t:=88) ?hr ?_;(case hd=>rfl);(case hg=>rfl);(case hr=>first|(go_simp;done)|(go_simp;rfl));intro g3 hg w3 hbox hb;have n0_:=zM (below_step zq0 hb);have n1_:=zM hbox;have n2_:=zM (by rw[hg];exact below_size zq0:w.heap.size≤g3);clear HB;have HB:=n0_;have BK3:=n1_;have GE3:=n2_;clear n0_ n1_ n2_;clear hb hbox hg)
  | ((with_reducible refine gate_dst (N:=4) rfl ?_);refine box_event ?hg (N:=4) ?hd (cs:=#[.int .u8 0,.int .u8 0,.int .u8 0,.int .u8 0,.int .u8 0,.int .u8 0,.int .u8 0,.int .u8 0,.int .u8 0,.int .u8 0,.int .u8 0,.int .u8 0,.int .u8 0,.int .u8 0,.int .u8 0,.int .u8 0]) (t:=88) ?hr ?_;(case hd=>rfl);(case hg=>rfl);(case hr=>first|(go_simp;done)|(go_simp;rfl));intro g4 hg w4 hbox hb;have n0_:=zM (below_step zq0 hb);have n1_:=zM (blk_below (g:=g3) (o:=.cells (cB xs) 88 (0,0)) zq9 hb);have n2_:=zM hbox;have n3_:=zM (by rw[hg];exact below_size zq0:w.heap.size≤g4);have n4_:=zM (by rw[hg];exact Nat.ne_of_lt (blk_lt (g:=g3) (o:=.cells (cB xs) 88 (0,0)) zq9):g3≠g4);have n5_:=zM (by rw[hg];exact Nat.ne_of_gt (blk_lt (g:=g3) (o:=.cells (cB xs) 88 (0,0)) zq9):g4≠g3);clear HB BK3;have HB:=n0_;have BK3:=n1_;have BK4:=n2_;have GE4:=n3_;have NE3_4:=n4_;have NE4_3:=n5_;clear n0_ n1_ n2_ n3_ n4_ n5_;clear hb hbox hg)
  | ((with_reducible refine gate_dst (N:=7) rfl ?_);refine wpList_load_row ?hg 88 (.tmp 3) ?ho g3 ?hx 88 (cB xs) (0,0) _ ?hk Try.underlying88 rfl ?hi ?_;(case hg=>rfl);(case ho=>rfl);(case hx=>rfl);(case hk=>exact zq9);(case hi=>rw[cB_size,hx.out];kernel_rfl))
  | (go_at_call 81;(refine(impl_cipher_add.calls gK 0 ks xs hk.out hx.out zq8 _ ((Below.block (B:=w.heap.size) (w:=w) zq0 gK (blk_lt hb.out)).trans hb.out)).mono ?_);rintro e wk ⟨rfl,hb9⟩;have n0_:=zM (below_step zq0 hb9);have n1_:=zM (blk_below (g:=g3) (o:=.cells (cB xs) 88 (0,0)) zq9 hb9);have n2_:=zM (blk_below (g:=g4) (o:=.cells #[.int .u8 0,.int .u8 0,.int .u8 0,.int .u8 0,.int .u8 0,.int .u8 0,.int .u8 0,.int .u8 0,.int .u8 0,.int .u8 0,.int .u8 0,.int .u8 0,.int .u8 0,.int .u8 0,.int .u8 0,.int .u8 0] 88 (0,0)) zq5 hb9);clear HB BK3 BK4;have HB:=n0_;have BK3:=n1_;have BK4:=n2_;clear n0_ n1_ n2_;clear hb9)
  | ((with_reducible refine gate_store (t:=88) (p:=3) rfl ?_);refine row_event ?hg (ty:=88) (p:=3) (y:=?yo_226) ?ho ?hn (g:=g3) (old:=(cB xs)) (e:=88) (cells:=(cB (encTo ks xs 0))) ?hx ?hy ?hk ?hi ?hd ?h1 ?_;(case ho=>rfl);(case hg=>rfl);(case hn=>rfl);(case hx=>rfl);(case hy=>rfl);(case hk=>exact zq9);(case hi=>rw[cB_size,encTo_length];kernel_rfl);(case hd=>simp only[cB_size,encTo_length,hx.out]);(case h1=>exact cB_one _);intro wr_ hbk hgr;have n0_:=zM (below_grown1 zq0 hgr GE3.out);have n1_:=zM (blk_grown1 (g':=g4) (ob:=.cells #[.int .u8 0,.int .u8 0,.int .u8 0,.int .u8 0,.int .u8 0,.int .u8 0,.int .u8 0,.int .u8 0,.int .u8 0,.int .u8 0,.int .u8 0,.int .u8 0,.int .u8 0,.int .u8 0,.int .u8 0,.int .u8 0] 88 (0,0)) zq5 hgr NE4_3.out);have n2_:=zM hbk;clear HB BK4 BK3;have HB:=n0_;have BK4:=n1_;have BK3:=n2_;clear n0_ n1_ n2_;clear hbk hgr))
 try simp only[Act.put,List.setIfInBounds_toArray,List.set_cons_zero,List.set_cons_succ]
 go_loopw [5] (fun v5 W=>∃ r:Nat,r≤9∧v5=.int .i64 ((r:Int)+1)∧Aside0 (W.heap[g3]?=some (.cells (cB (encTo ks xs r)) 88 (0,0)))∧Aside0 (W.heap[g4]?=some (.cells #[.int .u8 0,.int .u8 0,.int .u8 0,.int .u8 0,.int .u8 0,.int .u8 0,.int .u8 0,.int .u8 0,.int .u8 0,.int .u8 0,.int .u8 0,.int .u8 0,.int .u8 0,.int .u8 0,.int .u8 0,.int .u8 0] 88 (0,0)))∧Aside0 (Below w.heap.size w W)) (fun v5 _=>11 - (intOf v5).toNat)
 case atStart=>exact⟨0,zq8,rfl,BK3,BK4,HB⟩
 case round=>
  clear BK3 BK4 HB
  obtain⟨r,hr,rfl,BK3,BK4,HB⟩:=hrel
  by_cases hl:r < 9
  ·have hrl:=zM (show r+1≤10 by omega)
   have hlt:decide ((r:Int)+1 < 10)=true:=decide_eq_true zq8
   have hcast:Value.int .i64 ((r:Int)+1)=.int .i64 ((r+1:Nat):Int):=by rfl
   rw[hcast]
   have hlt2:decide (((r+1:Nat):Int) < 10)=true:=decide_eq_true zq8
   go_wp2_with (first
     | ((with_reducible refine gate_dst (N:=14) rfl ?_);refine wpList_load_row ?hg 88 (.tmp 3) ?ho g3 ?hx 88 (cB (encTo ks xs r)) (0,0) _ ?hk Try.underlying88 rfl ?hi ?_;(case hg=>rfl);(case ho=>rfl);(case hx=>rfl);(case hk=>exact zq9);(case hi=>rw[cB_size,encTo_length];kernel_rfl))
     | (go_at_call 82;refine(impl_block_subBytes.calls (encTo ks xs r) (encTo_length _ _ _) _).mono ?_;rintro e wk ⟨rfl,hb⟩;have n0_:=zM (below_step zq0 hb);have n1_:=zM (blk_below (g:=g3) (o:=.cells (cB (encTo ks xs r)) 88 (0,0)) zq9 hb);have n2_:=zM (blk_below (g:=g4) (o:=.cells #[.int .u8 0,.int .u8 0,.int .u8 0,.int .u8 0,.int .u8 0,.int .u8 0,.int .u8 0,.int .u8 0,.int .u8 0,.int .u8 0,.int .u8 0,.int .u8 0,.int .u8 0,.int .u8 0,.int .u8 0,.int .u8 0] 88 (0,0)) zq5 hb);clear HB BK3 BK4;have HB:=n0_;have BK3:=n1_;have BK4:=n2_;clear n0_ n1_ n2_;clear hb)
     | (go_at_call 83;refine(impl_block_shiftRows.calls (subL (encTo ks xs r)) (subL_length _) _).mono ?_;rintro e wk ⟨rfl,hb⟩;have n0_:=zM (below_step zq0 hb);have n1_:=zM (blk_below (g:=g3) (o:=.cells (cB (encTo ks xs r)) 88 (0,0)) zq9 hb);have n2_:=zM (blk_below (g:=g4) (o:=.cells #[.int .u8 0,.int .u8 0,.int .u8 0,.int .u8 0,.int .u8 0,.int .u8 0,.int .u8 0,.int .u8 0,.int .u8 0,.int .u8 0,.int .u8 0,.int .u8 0,.int .u8 0,.int .u8 0,.int .u8 0,.int .u8 0] 88 (0,0)) zq5 hb);clear HB BK3 BK4;have HB:=n0_;have BK3:=n1_;have BK4:=n2_;clear n0_ n1_ n2_;clear hb)
     | (go_at_call 84;refine(impl_block_mixColumns.calls (shiftL (subL (encTo ks xs r))) (shiftL_length _) _).mono ?_;rintro e wk ⟨rfl,hb⟩;have n0_:=zM (below_step zq0 hb);have n1_:=zM (blk_below (g:=g3) (o:=.cells (cB (encTo ks xs r)) 88 (0,0)) zq9 hb);have n2_:=zM (blk_below (g:=g4) (o:=.cells #[.int .u8 0,.int .u8 0,.int .u8 0,.int .u8 0,.int .u8 0,.int .u8 0,.int .u8 0,.int .u8 0,.int .u8 0,.int .u8 0,.int .u8 0,.int .u8 0,.int .u8 0,.int .u8 0,.int .u8 0,.int .u8 0] 88 (0,0)) zq5 hb);clear HB BK3 BK4;have HB:=n0_;have BK3:=n1_;have BK4:=n2_;clear n0_ n1_ n2_;clear hb)
     | (go_at_call 81;(refine(impl_cipher_add.calls gK (r+1) ks (mixL (shiftL (subL (encTo ks xs r)))) hk.out (mixL_length _) hrl.out _ ((Below.block (B:=w.heap.size) (w:=w) zq0 gK (blk_lt hb.out)).trans hb.out)).mono ?_);rintro e wk ⟨rfl,hb9⟩;have n0_:=zM (below_step zq0 hb9);have n1_:=zM (blk_below (g:=g3) (o:=.cells (cB (encTo ks xs r)) 88 (0,0)) zq9 hb9);have n2_:=zM (blk_below (g:=g4) (o:=.cells #[.int .u8 0,.int .u8 0,.int .u8 0,.int .u8 0,.int .u8 0,.int .u8 0,.int .u8 0,.int .u8 0,.int .u8 0,.int .u8 0,.int .u8 0,.int .u8 0,.int .u8 0,.int .u8 0,.int .u8 0,.int .u8 0] 88 (0,0)) zq5 hb9);clear HB BK3 BK4;have HB:=n0_;have BK3:=n1_;have BK4:=n2_;clear n0_ n1_ n2_;clear hb9)
     | ((with_reducible refine gate_store (t:=88) (p:=3) rfl ?_);refine row_event ?hg (ty:=88) (p:=3) (y:=?yo_232) ?ho ?hn (g:=g3) (old:=(cB (encTo ks xs r))) (e:=88) (cells:=(cB (encTo ks xs (r+1)))) ?hx ?hy ?hk ?hi ?hd ?h1 ?_;(case ho=>rfl);(case hg=>rfl);(case hn=>rfl);(case hx=>rfl);(case hy=>rfl);(case hk=>exact zq9);(case hi=>rw[cB_size,encTo_length];kernel_rfl);(case hd=>simp only[cB_size,encTo_length]);(case h1=>exact cB_one _);intro wr_ hbk hgr;have n0_:=zM (below_grown1 zq0 hgr GE3.out);have n1_:=zM (blk_grown1 (g':=g4) (ob:=.cells #[.int .u8 0,.int .u8 0,.int .u8 0,.int .u8 0,.int .u8 0,.int .u8 0,.int .u8 0,.int .u8 0,.int .u8 0,.int .u8 0,.int .u8 0,.int .u8 0,.int .u8 0,.int .u8 0,.int .u8 0,.int .u8 0] 88 (0,0)) zq5 hgr NE4_3.out);have n2_:=zM hbk;clear HB BK4 BK3;have HB:=n0_;have BK4:=n1_;have BK3:=n2_;clear n0_ n1_ n2_;clear hbk hgr))
   go_roundw
   case rel=>exact⟨r+1,zq8,by go_num,BK3,BK4,HB⟩
   case measure=>simp[intOf];omega
  ·obtain rfl:r=9:=by omega
   go_wp2_with (first
     | ((with_reducible refine gate_dst (N:=21) rfl ?_);refine wpList_load_row ?hg 88 (.tmp 3) ?ho g3 ?hx 88 (cB (encTo ks xs 9)) (0,0) _ ?hk Try.underlying88 rfl ?hi ?_;(case hg=>rfl);(case ho=>rfl);(case hx=>rfl);(case hk=>exact zq9);(case hi=>rw[cB_size,encTo_length];kernel_rfl))
     | (go_at_call 82;refine(impl_block_subBytes.calls (encTo ks xs 9) (encTo_length _ _ _) _).mono ?_;rintro e wk ⟨rfl,hb⟩;have n0_:=zM (below_step zq0 hb);have n1_:=zM (blk_below (g:=g3) (o:=.cells (cB (encTo ks xs 9)) 88 (0,0)) zq9 hb);have n2_:=zM (blk_below (g:=g4) (o:=.cells #[.int .u8 0,.int .u8 0,.int .u8 0,.int .u8 0,.int .u8 0,.int .u8 0,.int .u8 0,.int .u8 0,.int .u8 0,.int .u8 0,.int .u8 0,.int .u8 0,.int .u8 0,.int .u8 0,.int .u8 0,.int .u8 0] 88 (0,0)) zq5 hb);clear HB BK3 BK4;have HB:=n0_;have BK3:=n1_;have BK4:=n2_;clear n0_ n1_ n2_;clear hb)
     | (go_at_call 83;refine(impl_block_shiftRows.calls (subL (encTo ks xs 9)) (subL_length _) _).mono ?_;rintro e wk ⟨rfl,hb⟩;have n0_:=zM (below_step zq0 hb);have n1_:=zM (blk_below (g:=g3) (o:=.cells (cB (encTo ks xs 9)) 88 (0,0)) zq9 hb);have n2_:=zM (blk_below (g:=g4) (o:=.cells #[.int .u8 0,.int .u8 0,.int .u8 0,.int .u8 0,.int .u8 0,.int .u8 0,.int .u8 0,.int .u8 0,.int .u8 0,.int .u8 0,.int .u8 0,.int .u8 0,.int .u8 0,.int .u8 0,.int .u8 0,.int .u8 0] 88 (0,0)) zq5 hb);clear HB BK3 BK4;have HB:=n0_;have BK3:=n1_;have BK4:=n2_;clear n0_ n1_ n2_;clear hb)
     | (go_at_call 81;(refine(impl_cipher_add.calls gK 10 ks (shiftL (subL (encTo ks xs 9))) hk.out (shiftL_length _) zq8 _ ((Below.block (B:=w.heap.size) (w:=w) zq0 gK (blk_lt hb.out)).trans hb.out)).mono ?_);rintro e wk ⟨rfl,hb9⟩;have n0_:=zM (below_step zq0 hb9);have n1_:=zM (blk_below (g:=g3) (o:=.cells (cB (encTo ks xs 9)) 88 (0,0)) zq9 hb9);have n2_:=zM (blk_below (g:=g4) (o:=.cells #[.int .u8 0,.int .u8 0,.int .u8 0,.int .u8 0,.int .u8 0,.int .u8 0,.int .u8 0,.int .u8 0,.int .u8 0,.int .u8 0,.int .u8 0,.int .u8 0,.int .u8 0,.int .u8 0,.int .u8 0,.int .u8 0] 88 (0,0)) zq5 hb9);clear HB BK3 BK4;have HB:=n0_;have BK3:=n1_;have BK4:=n2_;clear n0_ n1_ n2_;clear hb9)
     | ((with_reducible refine gate_store (t:=88) (p:=4) rfl ?_);refine row_event ?hg (ty:=88) (p:=4) (y:=?yo_237) ?ho ?hn (g:=g4) (old:=#[.int .u8 0,.int .u8 0,.int .u8 0,.int .u8 0,.int .u8 0,.int .u8 0,.int .u8 0,.int .u8 0,.int .u8 0,.int .u8 0,.int .u8 0,.int .u8 0,.int .u8 0,.int .u8 0,.int .u8 0,.int .u8 0]) (e:=88) (cells:=(cB (encL ks xs))) ?hx ?hy ?hk ?hi ?hd ?h1 ?_;(case ho=>rfl);(case hg=>rfl);(case hn=>rfl);(case hx=>rfl);(case hy=>rfl);(case hk=>exact zq5);(case hi=>rw[cB_size,encL_length];kernel_rfl);(case hd=>rw[cB_size,encL_length];rfl);(case h1=>exact cB_one _);intro wr_ hbk hgr;have n0_:=zM (below_grown1 zq0 hgr GE4.out);have n1_:=zM (blk_grown1 (g':=g3) (ob:=.cells (cB (encTo ks xs 9)) 88 (0,0)) zq9 hgr NE3_4.out);have n2_:=zM hbk;clear HB BK3 BK4;have HB:=n0_;have BK3:=n1_;have BK4:=n2_;clear n0_ n1_ n2_;clear hbk hgr))
   refine bodyPost_ret (results_cell_row rfl _ _ g4 88 (cB (encL ks xs)) (0,0) _ rfl zq5 Try.underlying88 rfl (by rw[cB_size,encL_length];kernel_rfl)) rfl ?_
   exact⟨rfl,HB.out⟩
def startL (m:List (BitVec 8)):List (BitVec 8):=(pad16 m).set 15 1#8
theorem startL_length (m:List (BitVec 8)):(startL m).length=16:=by unfold startL;rw[List.length_set,pad16_length]
set_option maxHeartbeats 4000000 in
set_option maxRecDepth 100000 in
theorem impl_start.calls (A:Option Addr) (c:Nat) (m:List (BitVec 8)) (w:World) (hr0:Kd.C (Kd.int .u8) w A m.length (bL m)) :
  Calls Try.prog 54 #[.slice A m.length c] w fun e w'=>e=.returned (.agg (cB (startL m)))∧Below w.heap.size w w':=by
 have HR:=zM hr0
 clear hr0
 have HB:=zM (Below.refl w.heap.size w)
 go_enter Try.func54,Try.ntmps54
 go_wp2_with (first
  | ((with_reducible refine gate_dst (N:=2) rfl ?_);refine box_event ?hg (N:=2) ?hd (cs:=#[.int .u8 0,.int .u8 0,.int .u8 0,.int .u8 0,.int .u8 0,.int .u8 0,.int .u8 0,.int .u8 0,.int .u8 0,.int .u8 0,.int .u8 0,.int .u8 0,.int .u8 0,.int .u8 0,.int .u8 0,.int .u8 0]) (t:=88) ?hr ?_;(case hd=>rfl);(case hg=>rfl);(case hr=>first|(go_simp;done)|(go_simp;rfl));intro g2 hg w2 hbox hb;have n0_:=zM (below_step zq0 hb);have n1_:=zM hbox;have n2_:=zM (by rw[hg];exact below_size zq0:w.heap.size≤g2);clear HB;have HB:=n0_;have BK2:=n1_;have GE2:=n2_;clear n0_ n1_ n2_;clear hb hbox hg)
  | ((with_reducible refine gate_dst (N:=3) rfl ?_);refine box_event ?hg (N:=3) ?hd (cs:=#[.int .u8 0,.int .u8 0,.int .u8 0,.int .u8 0,.int .u8 0,.int .u8 0,.int .u8 0,.int .u8 0,.int .u8 0,.int .u8 0,.int .u8 0,.int .u8 0,.int .u8 0,.int .u8 0,.int .u8 0,.int .u8 0]) (t:=88) ?hr ?_;(case hd=>rfl);(case hg=>rfl);(case hr=>first|(go_simp;done)|(go_simp;rfl));intro g3 hg w3 hbox hb;have n0_:=zM (below_step zq0 hb);have n1_:=zM (blk_below (g:=g2) (o:=.cells #[.int .u8 0,.int .u8 0,.int .u8 0,.int .u8 0,.int .u8 0,.int .u8 0,.int .u8 0,.int .u8 0,.int .u8 0,.int .u8 0,.int .u8 0,.int .u8 0,.int .u8 0,.int .u8 0,.int .u8 0,.int .u8 0] 88 (0,0)) zq2 hb);have n2_:=zM hbox;have n3_:=zM (by rw[hg];exact below_size zq0:w.heap.size≤g3);have n4_:=zM (by rw[hg];exact Nat.ne_of_lt (blk_lt (g:=g2) (o:=.cells #[.int .u8 0,.int .u8 0,.int .u8 0,.int .u8 0,.int .u8 0,.int .u8 0,.int .u8 0,.int .u8 0,.int .u8 0,.int .u8 0,.int .u8 0,.int .u8 0,.int .u8 0,.int .u8 0,.int .u8 0,.int .u8 0] 88 (0,0)) zq2):g2≠g3);have n5_:=zM (by rw[hg];exact Nat.ne_of_gt (blk_lt (g:=g2) (o:=.cells #[.int .u8 0,.int .u8 0,.int .u8 0,.int .u8 0,.int .u8 0,.int .u8 0,.int .u8 0,.int .u8 0,.int .u8 0,.int .u8 0,.int .u8 0,.int .u8 0,.int .u8 0,.int .u8 0,.int .u8 0,.int .u8 0] 88 (0,0)) zq2):g3≠g2);clear HB BK2;have HB:=n0_;have BK2:=n1_;have BK3:=n2_;have GE3:=n3_;have NE2_3:=n4_;have NE3_2:=n5_;clear n0_ n1_ n2_ n3_ n4_ n5_;clear hb hbox hg)
  | ((with_reducible refine gate_store (t:=88) (p:=3) rfl ?_);refine row_event ?hg (ty:=88) (p:=3) (y:=?yo_333) ?ho ?hn (g:=g3) (old:=#[.int .u8 0,.int .u8 0,.int .u8 0,.int .u8 0,.int .u8 0,.int .u8 0,.int .u8 0,.int .u8 0,.int .u8 0,.int .u8 0,.int .u8 0,.int .u8 0,.int .u8 0,.int .u8 0,.int .u8 0,.int .u8 0]) (e:=88) (cells:=(cB (tab 16 fun _=>0#8))) ?hx ?hy ?hk ?hi ?hd ?h1 ?_;(case ho=>rfl);(case hg=>rfl);(case hn=>rfl);(case hx=>rfl);(case hy=>rfl);(case hk=>exact zq9);(case hi=>rw[cB_size,tab_length];kernel_rfl);(case hd=>exact zq163);(case h1=>exact cB_one _);intro wr_ hbk hgr;have n0_:=zM (below_grown1 zq0 hgr GE3.out);have n1_:=zM (blk_grown1 (g':=g2) (ob:=.cells #[.int .u8 0,.int .u8 0,.int .u8 0,.int .u8 0,.int .u8 0,.int .u8 0,.int .u8 0,.int .u8 0,.int .u8 0,.int .u8 0,.int .u8 0,.int .u8 0,.int .u8 0,.int .u8 0,.int .u8 0,.int .u8 0] 88 (0,0)) zq2 hgr NE2_3.out);have n2_:=zM hbk;clear HB BK2 BK3;have HB:=n0_;have BK2:=n1_;have BK3:=n2_;clear n0_ n1_ n2_;clear hbk hgr)
  | ((with_reducible refine gate_dst (N:=7) rfl ?_);refine copy_event ?hg (.tmp 5) (.tmp 6) 25 5 ?ho Try.underlying25 (by kernel_rfl) (g:=g3) (old:=(tab 16 fun _=>0#8)) (new:=m) (bt:=88) (cap:=?cap_334) (A:=?Ad_334) (c:=?cc_334) ?hx ?hy ?hk ?hr ?_;(case hg=>rfl);(case ho=>rfl);(case hx=>rfl);(case hy=>rfl);(case hk=>exact zq9);(case hr=>exact zq146);intro wp_ vv hbk0 hgr;have hbk:wp_.heap[g3]?=some (.cells (cB (pad16 m)) 88 (0,0)):=(by rw[← pad16_cp];exact hbk0);clear hbk0;have n0_:=zM (below_grown1 zq0 hgr GE3.out);have n1_:=zM (blk_grown1 (g':=g2) (ob:=.cells #[.int .u8 0,.int .u8 0,.int .u8 0,.int .u8 0,.int .u8 0,.int .u8 0,.int .u8 0,.int .u8 0,.int .u8 0,.int .u8 0,.int .u8 0,.int .u8 0,.int .u8 0,.int .u8 0,.int .u8 0,.int .u8 0] 88 (0,0)) zq2 hgr NE2_3.out);have n2_:=zM hbk;clear HB BK2 BK3;have HB:=n0_;have BK2:=n1_;have BK3:=n2_;clear n0_ n1_ n2_;clear hbk hgr;have hx3:wp_.cell? ⟨g3,15,none⟩=some (.int .u8 (bI (by_ (pad16 m) 15))):=(by rw[blk_cell BK3.out,cB_get _ _ (by rw[pad16_length];omega)]);have hf3:=blk_frozen BK3.out 15)
  | ((with_reducible refine gate_store (t:=5) (p:=8) rfl ?_);refine cell_event ?hg (t:=5) (p:=8) (v:=?vo_335) ?ho ?hn (i:=15) (x:=(.int .u8 1)) (cs:=(cB (pad16 m))) (g:=g3) (e:=88) ?hk ?hr (cs':=(cB (startL m))) ?hc ?_;(case ho=>rfl);(case hg=>rfl);(case hn=>rfl);(case hk=>exact zq9);(case hr=>first|(go_simp;done)|(go_simp;rfl));(case hc=>rw[show (Value.int .u8 1)=.int .u8 (bI 1#8) from rfl,cB_set];rfl);intro wc hbk hgr;have n0_:=zM (below_grown1 zq0 hgr GE3.out);have n1_:=zM (blk_grown1 (g':=g2) (ob:=.cells #[.int .u8 0,.int .u8 0,.int .u8 0,.int .u8 0,.int .u8 0,.int .u8 0,.int .u8 0,.int .u8 0,.int .u8 0,.int .u8 0,.int .u8 0,.int .u8 0,.int .u8 0,.int .u8 0,.int .u8 0,.int .u8 0] 88 (0,0)) zq2 hgr NE2_3.out);have n2_:=zM hbk;clear HB BK2 BK3;have HB:=n0_;have BK2:=n1_;have BK3:=n2_;clear n0_ n1_ n2_;clear hbk hgr)
  | ((with_reducible refine gate_dst (N:=9) rfl ?_);refine wpList_load_row ?hg 88 (.tmp 3) ?ho g3 ?hx 88 (cB (startL m)) (0,0) _ ?hk Try.underlying88 rfl ?hi ?_;(case hg=>rfl);(case ho=>rfl);(case hx=>rfl);(case hk=>exact zq9);(case hi=>rw[cB_size,startL_length];kernel_rfl))
  | ((with_reducible refine gate_store (t:=88) (p:=2) rfl ?_);refine row_event ?hg (ty:=88) (p:=2) (y:=?yo_337) ?ho ?hn (g:=g2) (old:=#[.int .u8 0,.int .u8 0,.int .u8 0,.int .u8 0,.int .u8 0,.int .u8 0,.int .u8 0,.int .u8 0,.int .u8 0,.int .u8 0,.int .u8 0,.int .u8 0,.int .u8 0,.int .u8 0,.int .u8 0,.int .u8 0]) (e:=88) (cells:=(cB (startL m))) ?hx ?hy ?hk ?hi ?hd ?h1 ?_;(case ho=>rfl);(case hg=>rfl);(case hn=>rfl);(case hx=>rfl);(case hy=>rfl);(case hk=>exact zq2);(case hi=>rw[cB_size,startL_length];kernel_rfl);(case hd=>rw[cB_size,startL_length];rfl);(case h1=>exact cB_one _);intro wq_ hbk hgr;have n0_:=zM (below_grown1 zq0 hgr GE2.out);have n1_:=zM (blk_grown1 (g':=g3) (ob:=.cells (cB (startL m)) 88 (0,0)) zq9 hgr NE3_2.out);have n2_:=zM hbk;clear HB BK3 BK2;have HB:=n0_;have BK3:=n1_;have BK2:=n2_;clear n0_ n1_ n2_;clear hbk hgr))
 refine bodyPost_ret (results_cell_row rfl _ _ g2 88 (cB (startL m)) (0,0) _ rfl zq2 Try.underlying88 rfl (by rw[cB_size,startL_length];kernel_rfl)) rfl ?_
 exact⟨rfl,HB.out⟩
set_option maxHeartbeats 4000000 in
set_option maxRecDepth 100000 in
theorem impl_block_element.calls (m:List (BitVec 8)) (hm0:m.length=16) (w:World) :
  Calls Try.prog 85 #[.agg (cB m)] w fun e w'=>e=.returned (.agg (cE (hiN m) (loN m)))∧Below w.heap.size w w':=by
 have hm:=zM hm0
 clear hm0
 have HB:=zM (Below.refl w.heap.size w)
 go_enter Try.func85,Try.ntmps85
 go_wp2_with (first
  | ((with_reducible refine gate_dst (N:=1) rfl ?_);refine box_event ?hg (N:=1) ?hd (cs:=(cB m)) (t:=88) ?hr ?_;(case hd=>rfl);(case hg=>rfl);(case hr=>first|(go_simp;done)|(go_simp;rfl));intro g1 hg w1 hbox hb;have n0_:=zM (below_step zq0 hb);have n1_:=zM hbox;have n2_:=zM (by rw[hg];exact below_size zq0:w.heap.size≤g1);clear HB;have HB:=n0_;have BK1:=n1_;have GE1:=n2_;clear n0_ n1_ n2_;clear hb hbox hg)
  | ((with_reducible refine gate_dst (N:=2) rfl ?_);refine box_event ?hg (N:=2) ?hd (cs:=(cE 0 0)) (t:=111) ?hr ?_;(case hd=>rfl);(case hg=>rfl);(case hr=>first|(go_simp;done)|(go_simp;rfl));intro g2 hg w2 hbox hb;have n0_:=zM (below_step zq0 hb);have n1_:=zM (blk_below (g:=g1) (o:=.cells (cB m) 88 (0,0)) zq4 hb);have n2_:=zM hbox;have n3_:=zM (by rw[hg];exact below_size zq0:w.heap.size≤g2);clear HB BK1;have HB:=n0_;have BK1:=n1_;have BK2:=n2_;have GE2:=n3_;clear n0_ n1_ n2_ n3_;clear hb hbox hg)
  | ((with_reducible refine gate_dst (N:=3) rfl ?_);refine box_event ?hg (N:=3) ?hd (cs:=(cE 0 0)) (t:=111) ?hr ?_;(case hd=>rfl);(case hg=>rfl);(case hr=>first|(go_simp;done)|(go_simp;rfl));intro g3 hg w3 hbox hb;have n0_:=zM (below_step zq0 hb);have n1_:=zM (blk_below (g:=g1) (o:=.cells (cB m) 88 (0,0)) zq4 hb);have n2_:=zM (blk_below (g:=g2) (o:=.cells (cE 0 0) 111 (0,0)) zq2 hb);have n3_:=zM hbox;have n4_:=zM (by rw[hg];exact below_size zq0:w.heap.size≤g3);have n5_:=zM (by rw[hg];exact Nat.ne_of_lt (blk_lt (g:=g2) (o:=.cells (cE 0 0) 111 (0,0)) zq2):g2≠g3);have n6_:=zM (by rw[hg];exact Nat.ne_of_gt (blk_lt (g:=g2) (o:=.cells (cE 0 0) 111 (0,0)) zq2):g3≠g2);clear HB BK1 BK2;have HB:=n0_;have BK1:=n1_;have BK2:=n2_;have BK3:=n3_;have GE3:=n4_;have NE2_3:=n5_;have NE3_2:=n6_;clear n0_ n1_ n2_ n3_ n4_ n5_ n6_;clear hb hbox hg)
  | ((with_reducible refine gate_store (t:=111) (p:=3) rfl ?_);refine row_event ?hg (ty:=111) (p:=3) (y:=?yo_94) ?ho ?hn (g:=g3) (old:=(cE 0 0)) (e:=111) (cells:=(cE 0 0)) ?hx ?hy ?hk ?hi ?hd ?h1 ?_;(case ho=>rfl);(case hg=>rfl);(case hn=>rfl);(case hx=>rfl);(case hy=>rfl);(case hk=>exact zq9);(case hi=>kernel_rfl);(case hd=>rfl);(case h1=>exact cE_one _ _);intro wr_ hbk hgr;have n0_:=zM (below_grown1 zq0 hgr GE3.out);have n1_:=zM (blk_grown1 (g':=g1) (ob:=.cells (cB m) 88 (0,0)) zq4 hgr (blk_ne zq4 zq9 zq36));have n2_:=zM (blk_grown1 (g':=g2) (ob:=.cells (cE 0 0) 111 (0,0)) zq2 hgr NE2_3.out);have n3_:=zM hbk;clear HB BK1 BK2 BK3;have HB:=n0_;have BK1:=n1_;have BK2:=n2_;have BK3:=n3_;clear n0_ n1_ n2_ n3_;clear hbk hgr))
 go_loopw [6] (fun v6 W=>∃ i:Nat,i≤8∧v6=.int .i64 i∧Aside0 (W.heap[g1]?=some (.cells (cB m) 88 (0,0)))∧Aside0 (W.heap[g2]?=some (.cells (cE 0 0) 111 (0,0)))∧Aside0 (W.heap[g3]?=some (.cells (cE (numN 0 (m.take i)) (numN 0 ((m.drop 8).take i))) 111 (0,0)))∧Aside0 (Below w.heap.size w W)) (fun v6 _=>8 - (intOf v6).toNat)
 case atStart=>exact⟨0,zq8,rfl,BK1,BK2,BK3,HB⟩
 case round=>
  clear BK1 BK2 BK3 HB
  obtain⟨i,hi,rfl,BK1,BK2,BK3,HB⟩:=hrel
  by_cases hl:i < 8
  ·have hlt:=zM hl
   have hc0:wr.cell? ⟨g1,i,none⟩=some (.int .u8 (bI (by_ m i))):=by rw[blk_cell BK1.out,cB_get _ _ (by rw[hm.out];omega)]
   have hx0:wr.cell? ⟨g3,0,none⟩=some (.int .u64 (numN 0 (m.take i):Nat)):=by rw[blk_cell BK3.out];rfl
   have hf:=blk_frozen BK3.out 0
   have i1:=eq_true (show (0:Int)≤(i:Int) by omega)
   have i2:=eq_true (show (i:Int) < 16 by omega)
   go_wp2_with fail
   refine wp_region_tail 9 (by kernel_rfl) (by kernel_rfl) ?_
   simp only[List.take_succ_cons,List.take_zero,List.drop_succ_cons,List.drop_zero]
   repeat still_step
   refine wpStill_nil ?_
   go_wp2_with (first
     | ((with_reducible refine gate_store (t:=109) (p:=17) rfl ?_);refine cell_event ?hg (t:=109) (p:=17) (v:=?vo_95) ?ho ?hn (i:=0) (x:=(.int .u64 (Go.bits .or .u64 (IntKind.u64.wrap (((numN 0 (m.take i):Nat):Int)*256)) (IntKind.u64.wrap (bI (by_ m i)))))) (cs:=(cE (numN 0 (m.take i)) (numN 0 ((m.drop 8).take i)))) (g:=g3) (e:=111) ?hk ?hr (cs':=(cE (numN 0 (m.take (i+1))) (numN 0 ((m.drop 8).take i)))) ?hc ?_;(case ho=>rfl);(case hg=>rfl);(case hn=>rfl);(case hk=>exact zq9);(case hr=>first|(go_simp;done)|(go_simp;rfl));(case hc=>rw[word_step _ _ (numN_take_lt _ _ hlt.out),← numN_take _ _ (by rw[hm.out];have:=hlt.out;omega),cE_set0]);intro wc hbk hgr;have n0_:=zM (below_grown1 zq0 hgr GE3.out);have n1_:=zM (blk_grown1 (g':=g1) (ob:=.cells (cB m) 88 (0,0)) zq4 hgr (blk_ne zq4 zq9 zq36));have n2_:=zM (blk_grown1 (g':=g2) (ob:=.cells (cE 0 0) 111 (0,0)) zq2 hgr NE2_3.out);have n3_:=zM hbk;clear HB BK1 BK2 BK3;have HB:=n0_;have BK1:=n1_;have BK2:=n2_;have BK3:=n3_;clear n0_ n1_ n2_ n3_;clear hbk hgr))
   clear hc0 hx0 hf i1 i2
   have hc1:wc.cell? ⟨g1,8+i,none⟩=some (.int .u8 (bI (by_ m (8+i)))):=by rw[blk_cell BK1.out,cB_get _ _ (by rw[hm.out];omega)]
   have hx1:wc.cell? ⟨g3,1,none⟩=some (.int .u64 (numN 0 ((m.drop 8).take i):Nat)):=by rw[blk_cell BK3.out];rfl
   have hf1:=blk_frozen BK3.out 1
   have i1:=eq_true (show (0:Int)≤(i:Int)+8 by omega)
   have i2:=eq_true (show (i:Int)+8 < 16 by omega)
   have s1:Value.int .i64 (IntKind.i64.wrap ((i:Int)+8))=.int .i64 ((i:Int)+8):=by rw[IntWalk.i64_in _ zq8]
   have n1:∀ g:Nat,(⟨g,((i:Int)+8).toNat,none⟩:Addr)=⟨g,8+i,none⟩:=fun g=>by rw[show ((i:Int)+8).toNat=8+i by omega]
   refine wp_region_tail 10 (by kernel_rfl) (by kernel_rfl) ?_
   simp only[List.take_succ_cons,List.take_zero,List.drop_succ_cons,List.drop_zero]
   repeat still_step
   refine wpStill_nil ?_
   clear s1 n1
   go_wp2_with (first
     | ((with_reducible refine gate_store (t:=109) (p:=27) rfl ?_);refine cell_event ?hg (t:=109) (p:=27) (v:=?vo_96) ?ho ?hn (i:=1) (x:=(.int .u64 (Go.bits .or .u64 (IntKind.u64.wrap (((numN 0 ((m.drop 8).take i):Nat):Int)*256)) (IntKind.u64.wrap (bI (by_ m (8+i))))))) (cs:=(cE (numN 0 (m.take (i+1))) (numN 0 ((m.drop 8).take i)))) (g:=g3) (e:=111) ?hk ?hr (cs':=(cE (numN 0 (m.take (i+1))) (numN 0 ((m.drop 8).take (i+1))))) ?hc ?_;(case ho=>rfl);(case hg=>rfl);(case hn=>rfl);(case hk=>exact zq9);(case hr=>first|(go_simp;done)|(go_simp;rfl));(case hc=>rw[← by_drop,word_step _ _ (numN_take_lt _ _ hlt.out),← numN_take _ _ (by rw[List.length_drop,hm.out];have:=hlt.out;omega),cE_set1]);intro wc hbk hgr;have n0_:=zM (below_grown1 zq0 hgr GE3.out);have n1_:=zM (blk_grown1 (g':=g1) (ob:=.cells (cB m) 88 (0,0)) zq4 hgr (blk_ne zq4 zq9 zq36));have n2_:=zM (blk_grown1 (g':=g2) (ob:=.cells (cE 0 0) 111 (0,0)) zq2 hgr NE2_3.out);have n3_:=zM hbk;clear HB BK1 BK2 BK3;have HB:=n0_;have BK1:=n1_;have BK2:=n2_;have BK3:=n3_;clear n0_ n1_ n2_ n3_;clear hbk hgr))
   go_roundw
   case rel=>exact⟨i+1,zq8,by go_num,BK1,BK2,BK3,HB⟩
   case measure=>simp[intOf];omega
  ·obtain rfl:i=8:=by omega
   rw[show (cE (numN 0 (m.take 8)) (numN 0 ((m.drop 8).take 8)))=(cE (hiN m) (loN m)) from rfl] at BK3
   go_wp2_with (first
     | ((with_reducible refine gate_dst (N:=29) rfl ?_);refine wpList_load_row ?hg 111 (.tmp 3) ?ho g3 ?hx 111 (cE (hiN m) (loN m)) (0,0) _ ?hk Try.underlying111 rfl ?hi ?_;(case hg=>rfl);(case ho=>rfl);(case hx=>rfl);(case hk=>exact zq9);(case hi=>kernel_rfl))
     | ((with_reducible refine gate_store (t:=111) (p:=2) rfl ?_);refine row_event ?hg (ty:=111) (p:=2) (y:=?yo_98) ?ho ?hn (g:=g2) (old:=(cE 0 0)) (e:=111) (cells:=(cE (hiN m) (loN m))) ?hx ?hy ?hk ?hi ?hd ?h1 ?_;(case ho=>rfl);(case hg=>rfl);(case hn=>rfl);(case hx=>rfl);(case hy=>rfl);(case hk=>exact zq2);(case hi=>kernel_rfl);(case hd=>rfl);(case h1=>exact cE_one _ _);intro wr_ hbk hgr;have n0_:=zM (below_grown1 zq0 hgr GE2.out);have n1_:=zM (blk_grown1 (g':=g1) (ob:=.cells (cB m) 88 (0,0)) zq4 hgr (blk_ne zq4 zq2 zq36));have n2_:=zM (blk_grown1 (g':=g3) (ob:=.cells (cE (hiN m) (loN m)) 111 (0,0)) zq9 hgr NE3_2.out);have n3_:=zM hbk;clear HB BK1 BK3 BK2;have HB:=n0_;have BK1:=n1_;have BK3:=n2_;have BK2:=n3_;clear n0_ n1_ n2_ n3_;clear hbk hgr))
   refine bodyPost_ret (results_cell_row rfl _ _ g2 111 (cE (hiN m) (loN m)) (0,0) _ rfl zq2 Try.underlying111 rfl (by kernel_rfl)) rfl ?_
   exact⟨rfl,HB.out⟩
set_option maxHeartbeats 4000000 in
set_option maxRecDepth 100000 in
theorem impl_asBlock.calls (A:Option Addr) (c:Nat) (m:List (BitVec 8)) (w:World) (hr0:Kd.C (Kd.int .u8) w A m.length (bL m)) :
  Calls Try.prog 86 #[.slice A m.length c] w fun e w'=>e=.returned (.tuple #[.agg (cB (pad16 m)),.bool (decide (m.length=16))])∧Below w.heap.size w w':=by
 have HR:=zM hr0
 have hmx:=zM (Kd.C_max hr0)
 clear hr0
 have HB:=zM (Below.refl w.heap.size w)
 by_cases h16:m.length=16
 all_goals
  have hd:=zM h16
  clear h16
  go_enter Try.func86,Try.ntmps86
  go_wp2_with (first
   | ((with_reducible refine gate_dst (N:=2) rfl ?_);refine box_event ?hg (N:=2) ?hd (cs:=#[.int .u8 0,.int .u8 0,.int .u8 0,.int .u8 0,.int .u8 0,.int .u8 0,.int .u8 0,.int .u8 0,.int .u8 0,.int .u8 0,.int .u8 0,.int .u8 0,.int .u8 0,.int .u8 0,.int .u8 0,.int .u8 0]) (t:=88) ?hr ?_;(case hd=>rfl);(case hg=>rfl);(case hr=>first|(go_simp;done)|(go_simp;rfl));intro g2 hg w2 hbox hb;have n0_:=zM (below_step zq0 hb);have n1_:=zM hbox;have n2_:=zM (by rw[hg];exact below_size zq0:w.heap.size≤g2);clear HB;have HB:=n0_;have BK2:=n1_;have GE2:=n2_;clear n0_ n1_ n2_;clear hb hbox hg)
   | ((with_reducible refine gate_dst (N:=4) rfl ?_);refine box_event ?hg (N:=4) ?hd (cs:=#[.int .u8 0,.int .u8 0,.int .u8 0,.int .u8 0,.int .u8 0,.int .u8 0,.int .u8 0,.int .u8 0,.int .u8 0,.int .u8 0,.int .u8 0,.int .u8 0,.int .u8 0,.int .u8 0,.int .u8 0,.int .u8 0]) (t:=88) ?hr ?_;(case hd=>rfl);(case hg=>rfl);(case hr=>first|(go_simp;done)|(go_simp;rfl));intro g4 hg w4 hbox hb;have n0_:=zM (below_step zq0 hb);have n1_:=zM (blk_below (g:=g2) (o:=.cells #[.int .u8 0,.int .u8 0,.int .u8 0,.int .u8 0,.int .u8 0,.int .u8 0,.int .u8 0,.int .u8 0,.int .u8 0,.int .u8 0,.int .u8 0,.int .u8 0,.int .u8 0,.int .u8 0,.int .u8 0,.int .u8 0] 88 (0,0)) zq2 hb);have n2_:=zM hbox;have n3_:=zM (by rw[hg];exact below_size zq0:w.heap.size≤g4);have n4_:=zM (by rw[hg];exact Nat.ne_of_lt (blk_lt (g:=g2) (o:=.cells #[.int .u8 0,.int .u8 0,.int .u8 0,.int .u8 0,.int .u8 0,.int .u8 0,.int .u8 0,.int .u8 0,.int .u8 0,.int .u8 0,.int .u8 0,.int .u8 0,.int .u8 0,.int .u8 0,.int .u8 0,.int .u8 0] 88 (0,0)) zq2):g2≠g4);have n5_:=zM (by rw[hg];exact Nat.ne_of_gt (blk_lt (g:=g2) (o:=.cells #[.int .u8 0,.int .u8 0,.int .u8 0,.int .u8 0,.int .u8 0,.int .u8 0,.int .u8 0,.int .u8 0,.int .u8 0,.int .u8 0,.int .u8 0,.int .u8 0,.int .u8 0,.int .u8 0,.int .u8 0,.int .u8 0] 88 (0,0)) zq2):g4≠g2);clear HB BK2;have HB:=n0_;have BK2:=n1_;have BK4:=n2_;have GE4:=n3_;have NE2_4:=n4_;have NE4_2:=n5_;clear n0_ n1_ n2_ n3_ n4_ n5_;clear hb hbox hg)
   | ((with_reducible refine gate_store (t:=88) (p:=4) rfl ?_);refine row_event ?hg (ty:=88) (p:=4) (y:=?yo_24) ?ho ?hn (g:=g4) (old:=#[.int .u8 0,.int .u8 0,.int .u8 0,.int .u8 0,.int .u8 0,.int .u8 0,.int .u8 0,.int .u8 0,.int .u8 0,.int .u8 0,.int .u8 0,.int .u8 0,.int .u8 0,.int .u8 0,.int .u8 0,.int .u8 0]) (e:=88) (cells:=(cB (tab 16 fun _=>0#8))) ?hx ?hy ?hk ?hi ?hd ?h1 ?_;(case ho=>rfl);(case hg=>rfl);(case hn=>rfl);(case hx=>rfl);(case hy=>rfl);(case hk=>exact zq5);(case hi=>rw[cB_size,tab_length];kernel_rfl);(case hd=>exact zq163);(case h1=>exact cB_one _);intro wr_ hbk hgr;have n0_:=zM (below_grown1 zq0 hgr GE4.out);have n1_:=zM (blk_grown1 (g':=g2) (ob:=.cells #[.int .u8 0,.int .u8 0,.int .u8 0,.int .u8 0,.int .u8 0,.int .u8 0,.int .u8 0,.int .u8 0,.int .u8 0,.int .u8 0,.int .u8 0,.int .u8 0,.int .u8 0,.int .u8 0,.int .u8 0,.int .u8 0] 88 (0,0)) zq2 hgr NE2_4.out);have n2_:=zM hbk;clear HB BK2 BK4;have HB:=n0_;have BK2:=n1_;have BK4:=n2_;clear n0_ n1_ n2_;clear hbk hgr)
   | ((with_reducible refine gate_dst (N:=8) rfl ?_);refine copy_event ?hg (.tmp 6) (.tmp 7) 25 5 ?ho Try.underlying25 (by kernel_rfl) (g:=g4) (old:=(tab 16 fun _=>0#8)) (new:=m) (bt:=88) (cap:=?cap_25) (A:=?Ad_25) (c:=?cc_25) ?hx ?hy ?hk ?hr ?_;(case hg=>rfl);(case ho=>rfl);(case hx=>rfl);(case hy=>rfl);(case hk=>exact zq5);(case hr=>exact zq146);intro wp_ vv hbk0 hgr;have hbk:wp_.heap[g4]?=some (.cells (cB (pad16 m)) 88 (0,0)):=(by rw[← pad16_cp];exact hbk0);clear hbk0;have n0_:=zM (below_grown1 zq0 hgr GE4.out);have n1_:=zM (blk_grown1 (g':=g2) (ob:=.cells #[.int .u8 0,.int .u8 0,.int .u8 0,.int .u8 0,.int .u8 0,.int .u8 0,.int .u8 0,.int .u8 0,.int .u8 0,.int .u8 0,.int .u8 0,.int .u8 0,.int .u8 0,.int .u8 0,.int .u8 0,.int .u8 0] 88 (0,0)) zq2 hgr NE2_4.out);have n2_:=zM hbk;clear HB BK2 BK4;have HB:=n0_;have BK2:=n1_;have BK4:=n2_;clear n0_ n1_ n2_;clear hbk hgr)
   | ((with_reducible refine gate_dst (N:=9) rfl ?_);refine wpList_load_row ?hg 88 (.tmp 4) ?ho g4 ?hx 88 (cB (pad16 m)) (0,0) _ ?hk Try.underlying88 rfl ?hi ?_;(case hg=>rfl);(case ho=>rfl);(case hx=>rfl);(case hk=>exact zq5);(case hi=>rw[cB_size,pad16_length];kernel_rfl))
   | ((with_reducible refine gate_store (t:=88) (p:=2) rfl ?_);refine row_event ?hg (ty:=88) (p:=2) (y:=?yo_27) ?ho ?hn (g:=g2) (old:=#[.int .u8 0,.int .u8 0,.int .u8 0,.int .u8 0,.int .u8 0,.int .u8 0,.int .u8 0,.int .u8 0,.int .u8 0,.int .u8 0,.int .u8 0,.int .u8 0,.int .u8 0,.int .u8 0,.int .u8 0,.int .u8 0]) (e:=88) (cells:=(cB (pad16 m))) ?hx ?hy ?hk ?hi ?hd ?h1 ?_;(case ho=>rfl);(case hg=>rfl);(case hn=>rfl);(case hx=>rfl);(case hy=>rfl);(case hk=>exact zq2);(case hi=>rw[cB_size,pad16_length];kernel_rfl);(case hd=>rw[cB_size,pad16_length];rfl);(case h1=>exact cB_one _);intro wr_ hbk hgr;have n0_:=zM (below_grown1 zq0 hgr GE2.out);have n1_:=zM (blk_grown1 (g':=g4) (ob:=.cells (cB (pad16 m)) 88 (0,0)) zq5 hgr NE4_2.out);have n2_:=zM hbk;clear HB BK4 BK2;have HB:=n0_;have BK4:=n1_;have BK2:=n2_;clear n0_ n1_ n2_;clear hbk hgr))
  refine bodyPost_ret (results_list (rs:=[.cell 2 88,.tmp 3]) rfl zq73 (.cell g2 88 (cB (pad16 m)) (0,0) _ rfl zq2 Try.underlying88 rfl (by rw[cB_size,pad16_length];kernel_rfl) (.tmp .nil))) rfl ⟨?_,HB.out⟩
  refine congrArg (fun b=>Ending.returned (.tuple #[.agg (cB (pad16 m)),.bool b])) ?_
  have h9:=hd.out
  exact beq_16 m.length
end Go.Proofs.Ytdbanjdnjhflcaa.All
