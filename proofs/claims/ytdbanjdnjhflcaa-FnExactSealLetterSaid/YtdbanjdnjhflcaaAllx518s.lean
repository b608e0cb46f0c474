-- Laid by wip/shake.py of this repo out of this claim's texts. Not trusted: Lean checks it.
import Derived.Test.YtdbanjdnjhflcaaAb0s
import Derived.Test.YtdbanjdnjhflcaaAlgs
set_option linter.unusedSimpArgs false
set_option linter.unusedVariables false
namespace Go.Proofs.Ytdbanjdnjhflcaa.All
open Go.Proofs.YtdbanjdnjhflcaaW.PrintWords.Aside0 renaming mk→zM
open Go.RowKit Go.Proofs.YtdbanjdnjhflcaaW.PrintWords Go.Proofs.YtdbanjdnjhflcaaW.PrintLast Go.Proofs.YtdbanjdnjhflcaaW.PrintMore
attribute [local go_sem] max2_int min2_int max_two min_two max_three min_three max_four min_four
set_option maxHeartbeats 4000000 in
set_option maxRecDepth 100000 in
theorem impl_element_block.calls (h l:Nat) (hh0:h < 18446744073709551616) (hl0:l < 18446744073709551616) (w:World) :
  Calls Try.prog 89 #[.agg (cE h l)] w fun e w'=>e=.returned (.agg (cB (outL h l 8)))∧Below w.heap.size w w':=by
 have hh:=zM hh0
 have hl:=zM hl0
 clear hh0 hl0
 have HB:=zM (Below.refl w.heap.size w)
 go_enter Try.func89,Try.ntmps89
 go_wp2_with (first
  | ((with_reducible refine gate_dst (N:=1) rfl ?_);refine box_event ?hg (N:=1) ?hd (cs:=(cE h l)) (t:=111) ?hr ?_;(case hd=>rfl);(case hg=>rfl);(case hr=>first|(go_simp;done)|(go_simp;rfl));intro g1 hg w1 hbox hb;have n0_:=zM (below_step zq0 hb);have n1_:=zM hbox;have n2_:=zM (by rw[hg];exact below_size zq0:w.heap.size≤g1);clear HB;have HB:=n0_;have BK1:=n1_;have GE1:=n2_;clear n0_ n1_ n2_;clear hb hbox hg)
  | ((with_reducible refine gate_dst (N:=2) rfl ?_);refine box_event ?hg (N:=2) ?hd (cs:=#[.int .u8 0,.int .u8 0,.int .u8 0,.int .u8 0,.int .u8 0,.int .u8 0,.int .u8 0,.int .u8 0,.int .u8 0,.int .u8 0,.int .u8 0,.int .u8 0,.int .u8 0,.int .u8 0,.int .u8 0,.int .u8 0]) (t:=88) ?hr ?_;(case hd=>rfl);(case hg=>rfl);(case hr=>first|(go_simp;done)|(go_simp;rfl));intro g2 hg w2 hbox hb;have n0_:=zM (below_step zq0 hb);have n1_:=zM (blk_below (g:=g1) (o:=.cells (cE h l) 111 (0,0)) zq4 hb);have n2_:=zM hbox;have n3_:=zM (by rw[hg];exact below_size zq0:w.heap.size≤g2);clear HB BK1;have HB:=n0_;have BK1:=n1_;have BK2:=n2_;have GE2:=n3_;clear n0_ n1_ n2_ n3_;clear hb hbox hg)
  | ((with_reducible refine gate_dst (N:=3) rfl ?_);refine box_event ?hg (N:=3) ?hd (cs:=#[.int .u8 0,.int .u8 0,.int .u8 0,.int .u8 0,.int .u8 0,.int .u8 0,.int .u8 0,.int .u8 0,.int .u8 0,.int .u8 0,.int .u8 0,.int .u8 0,.int .u8 0,.int .u8 0,.int .u8 0,.int .u8 0]) (t:=88) ?hr ?_;(case hd=>rfl);(case hg=>rfl);(case hr=>first|(go_simp;done)|(go_simp;rfl));intro g3 hg w3 hbox hb;have n0_:=zM (below_step zq0 hb);have n1_:=zM (blk_below (g:=g1) (o:=.cells (cE h l) 111 (0,0)) zq4 hb);have n2_:=zM (blk_below (g:=g2) (o:=.cells #[.int .u8 0,.int .u8 0,.int .u8 0,.int .u8 0,.int .u8 0,.int .u8 0,.int .u8 0,.int .u8 0,.int .u8 0,.int .u8 0,.int .u8 0,.int .u8 0,.int .u8 0,.int .u8 0,.int .u8 0,.int .u8 0] 88 (0,0)) zq2 hb);have n3_:=zM hbox;have n4_:=zM (by rw[hg];exact below_size zq0:w.heap.size≤g3);have n5_:=zM (by rw[hg];exact Nat.ne_of_lt (blk_lt (g:=g2) (o:=.cells #[.int .u8 0,.int .u8 0,.int .u8 0,.int .u8 0,.int .u8 0,.int .u8 0,.int .u8 0,.int .u8 0,.int .u8 0,.int .u8 0,.int .u8 0,.int .u8 0,.int .u8 0,.int .u8 0,.int .u8 0,.int .u8 0] 88 (0,0)) zq2):g2≠g3);have n6_:=zM (by rw[hg];exact Nat.ne_of_gt (blk_lt (g:=g2) (o:=.cells #[.int .u8 0,.int .u8 0,.int .u8 0,.int .u8 0,.int .u8 0,.int .u8 0,.int .u8 0,.int .u8 0,.int .u8 0,.int .u8 0,.int .u8 0,.int .u8 0,.int .u8 0,.int .u8 0,.int .u8 0,.int .u8 0] 88 (0,0)) zq2):g3≠g2);clear HB BK1 BK2;have HB:=n0_;have BK1:=n1_;have BK2:=n2_;have BK3:=n3_;have GE3:=n4_;have NE2_3:=n5_;have NE3_2:=n6_;clear n0_ n1_ n2_ n3_ n4_ n5_ n6_;clear hb hbox hg)
  | ((with_reducible refine gate_store (t:=88) (p:=3) rfl ?_);refine row_event ?hg (ty:=88) (p:=3) (y:=?yo_102) ?ho ?hn (g:=g3) (old:=#[.int .u8 0,.int .u8 0,.int .u8 0,.int .u8 0,.int .u8 0,.int .u8 0,.int .u8 0,.int .u8 0,.int .u8 0,.int .u8 0,.int .u8 0,.int .u8 0,.int .u8 0,.int .u8 0,.int .u8 0,.int .u8 0]) (e:=88) (cells:=(cB (tab 16 fun _=>0#8))) ?hx ?hy ?hk ?hi ?hd ?h1 ?_;(case ho=>rfl);(case hg=>rfl);(case hn=>rfl);(case hx=>rfl);(case hy=>rfl);(case hk=>exact zq9);(case hi=>rw[cB_size,tab_length];kernel_rfl);(case hd=>exact zq163);(case h1=>exact cB_one _);intro wr_ hbk hgr;have n0_:=zM (below_grown1 zq0 hgr GE3.out);have n1_:=zM (blk_grown1 (g':=g1) (ob:=.cells (cE h l) 111 (0,0)) zq4 hgr (blk_ne zq4 zq9 zq36));have n2_:=zM (blk_grown1 (g':=g2) (ob:=.cells #[.int .u8 0,.int .u8 0,.int .u8 0,.int .u8 0,.int .u8 0,.int .u8 0,.int .u8 0,.int .u8 0,.int .u8 0,.int .u8 0,.int .u8 0,.int .u8 0,.int .u8 0,.int .u8 0,.int .u8 0,.int .u8 0] 88 (0,0)) zq2 hgr NE2_3.out);have n3_:=zM hbk;clear HB BK1 BK2 BK3;have HB:=n0_;have BK1:=n1_;have BK2:=n2_;have BK3:=n3_;clear n0_ n1_ n2_ n3_;clear hbk hgr))
 go_loopw [4] (fun v4 W=>∃ n:Nat,n≤8∧v4=.int .i64 (7 - (n:Int))∧Aside0 (W.heap[g1]?=some (.cells (cE (h / 256 ^ n) (l / 256 ^ n)) 111 (0,0)))∧Aside0 (W.heap[g2]?=some (.cells #[.int .u8 0,.int .u8 0,.int .u8 0,.int .u8 0,.int .u8 0,.int .u8 0,.int .u8 0,.int .u8 0,.int .u8 0,.int .u8 0,.int .u8 0,.int .u8 0,.int .u8 0,.int .u8 0,.int .u8 0,.int .u8 0] 88 (0,0)))∧Aside0 (W.heap[g3]?=some (.cells (cB (outL h l n)) 88 (0,0)))∧Aside0 (Below w.heap.size w W)) (fun v4 _=>(intOf v4+1).toNat)
 case atStart=>exact⟨0,zq8,rfl,⟨by rw[show h / 256 ^ 0=h from Nat.div_one h,show l / 256 ^ 0=l from Nat.div_one l];exact BK1.out⟩,BK2,⟨by rw[outL_zero];exact BK3.out⟩,HB⟩
 case round=>
  clear BK1 BK2 BK3 HB
  obtain⟨n,hn,rfl,BK1,BK2,BK3,HB⟩:=hrel
  by_cases hl9:n < 8
  ·have hlt:=zM hl9
   have hge:decide ((7:Int) - (n:Int) ≥ 0)=true:=decide_eq_true zq8
   have hx0:wr.cell? ⟨g1,0,none⟩=some (.int .u64 (h / 256 ^ n:Nat)):=by rw[blk_cell BK1.out];rfl
   have hx1:wr.cell? ⟨g1,1,none⟩=some (.int .u64 (l / 256 ^ n:Nat)):=by rw[blk_cell BK1.out];rfl
   have e7:((7:Int) - (n:Int)).toNat=7 - n:=by omega
   have e8:((7:Int) - (n:Int)+8).toNat=7 - n+8:=by omega
   have s1:Value.int .i64 (IntKind.i64.wrap ((7:Int) - (n:Int)+8))=.int .i64 ((7:Int) - (n:Int)+8):=by rw[IntWalk.i64_in _ zq8]
   have s2:Value.int .i64 (IntKind.i64.wrap ((7:Int) - (n:Int) - 1))=.int .i64 ((7:Int) - ((n+1:Nat):Int)):=by rw[IntWalk.i64_in _ zq8];exact congrArg (Value.int .i64) zq8
   have n1:∀ g:Nat,(⟨g,((7:Int) - (n:Int)).toNat,none⟩:Addr)=⟨g,7 - n,none⟩:=fun g=>by rw[e7]
   have n2:∀ g:Nat,(⟨g,((7:Int) - (n:Int)+8).toNat,none⟩:Addr)=⟨g,7 - n+8,none⟩:=fun g=>by rw[e8]
   have i1:=eq_true (show (0:Int)≤(7:Int) - (n:Int) by omega)
   have i2:=eq_true (show (7:Int) - (n:Int) < 16 by omega)
   have i3:=eq_true (show (0:Int)≤(7:Int) - (n:Int)+8 by omega)
   have i4:=eq_true (show (7:Int) - (n:Int)+8 < 16 by omega)
   clear e7 e8
   have hq:(wr.cell? ⟨g3,7 - n,none⟩).isSome=true:=by
    rw[blk_cell BK3.out,cB_get _ _ (by rw[outL_length];omega)]
    rfl
   obtain⟨old,hold⟩:=Option.isSome_iff_exists.1 hq
   clear hq
   have hf:=blk_frozen BK3.out (7 - n)
   go_wp2_with (first
     | ((with_reducible refine gate_store (t:=5) (p:=14) rfl ?_);refine cell_event ?hg (t:=5) (p:=14) (v:=?vo_103) ?ho ?hn (i:=7 - n) (x:=(.int .u8 (((h / 256 ^ n:Nat):Int) % 256))) (cs:=(cB (outL h l n))) (g:=g3) (e:=88) ?hk ?hr (cs':=(cB ((outL h l n).set (7 - n) (BitVec.ofNat 8 (h / 256 ^ n))))) ?hc ?_;(case ho=>rfl);(case hg=>rfl);(case hn=>rfl);(case hk=>exact zq9);(case hr=>first|(go_simp;done)|(go_simp;rfl));(case hc=>rw[byte_of,cB_set]);intro wa hbk hgr;have n0_:=zM (below_grown1 zq0 hgr GE3.out);have n1_:=zM (blk_grown1 (g':=g1) (ob:=.cells (cE (h / 256 ^ n) (l / 256 ^ n)) 111 (0,0)) zq4 hgr (blk_ne zq4 zq9 zq36));have n2_:=zM (blk_grown1 (g':=g2) (ob:=.cells #[.int .u8 0,.int .u8 0,.int .u8 0,.int .u8 0,.int .u8 0,.int .u8 0,.int .u8 0,.int .u8 0,.int .u8 0,.int .u8 0,.int .u8 0,.int .u8 0,.int .u8 0,.int .u8 0,.int .u8 0,.int .u8 0] 88 (0,0)) zq2 hgr NE2_3.out);have n3_:=zM hbk;clear HB BK1 BK2 BK3;have HB:=n0_;have BK1:=n1_;have BK2:=n2_;have BK3:=n3_;clear n0_ n1_ n2_ n3_;clear hbk hgr;have hy1:wa.cell? ⟨g1,1,none⟩=some (.int .u64 (l / 256 ^ n:Nat)):=zq159;have hold2:wa.cell? ⟨g3,7 - n+8,none⟩=some (.int .u8 (bI (by_ ((outL h l n).set (7 - n) (BitVec.ofNat 8 (h / 256 ^ n))) (7 - n+8)))):=(by rw[blk_cell BK3.out,cB_get _ _ (by rw[List.length_set,outL_length];have:=hlt.out;omega)]);have hf2:=blk_frozen BK3.out (7 - n+8))
     | ((with_reducible refine gate_store (t:=5) (p:=20) rfl ?_);refine cell_event ?hg (t:=5) (p:=20) (v:=?vo_104) ?ho ?hn (i:=7 - n+8) (x:=(.int .u8 (((l / 256 ^ n:Nat):Int) % 256))) (cs:=(cB ((outL h l n).set (7 - n) (BitVec.ofNat 8 (h / 256 ^ n))))) (g:=g3) (e:=88) ?hk ?hr (cs':=(cB (outL h l (n+1)))) ?hc ?_;(case ho=>rfl);(case hg=>rfl);(case hn=>rfl);(case hk=>exact zq9);(case hr=>first|(go_simp;done)|(go_simp;rfl));(case hc=>rw[byte_of,cB_set,outL_set _ _ _ hlt.out]);intro wb hbk hgr;have n0_:=zM (below_grown1 zq0 hgr GE3.out);have n1_:=zM (blk_grown1 (g':=g1) (ob:=.cells (cE (h / 256 ^ n) (l / 256 ^ n)) 111 (0,0)) zq4 hgr (blk_ne zq4 zq9 zq36));have n2_:=zM (blk_grown1 (g':=g2) (ob:=.cells #[.int .u8 0,.int .u8 0,.int .u8 0,.int .u8 0,.int .u8 0,.int .u8 0,.int .u8 0,.int .u8 0,.int .u8 0,.int .u8 0,.int .u8 0,.int .u8 0,.int .u8 0,.int .u8 0,.int .u8 0,.int .u8 0] 88 (0,0)) zq2 hgr NE2_3.out);have n3_:=zM hbk;clear HB BK1 BK2 BK3;have HB:=n0_;have BK1:=n1_;have BK2:=n2_;have BK3:=n3_;clear n0_ n1_ n2_ n3_;clear hbk hgr;have hz0:wb.cell? ⟨g1,0,none⟩=some (.int .u64 (h / 256 ^ n:Nat)):=zq159;have hz1:wb.cell? ⟨g1,1,none⟩=some (.int .u64 (l / 256 ^ n:Nat)):=zq159)
     | ((with_reducible refine gate_store (t:=111) (p:=1) rfl ?_);refine row_event ?hg (ty:=111) (p:=1) (y:=?yo_105) ?ho ?hn (g:=g1) (old:=(cE (h / 256 ^ n) (l / 256 ^ n))) (e:=111) (cells:=#[.int .u64 (((h / 256 ^ n:Nat):Int) / 256),.int .u64 (((l / 256 ^ n:Nat):Int) / 256)]) ?hx ?hy ?hk ?hi ?hd ?h1 ?_;(case ho=>rfl);(case hg=>rfl);(case hn=>rfl);(case hx=>rfl);(case hy=>rfl);(case hk=>exact zq4);(case hi=>kernel_rfl);(case hd=>rfl);(case h1=>exact zq135);intro wr_ hbk hgr;have n0_:=zM (below_grown1 zq0 hgr GE1.out);have n1_:=zM (blk_grown1 (g':=g2) (ob:=.cells #[.int .u8 0,.int .u8 0,.int .u8 0,.int .u8 0,.int .u8 0,.int .u8 0,.int .u8 0,.int .u8 0,.int .u8 0,.int .u8 0,.int .u8 0,.int .u8 0,.int .u8 0,.int .u8 0,.int .u8 0,.int .u8 0] 88 (0,0)) zq2 hgr (blk_ne zq2 zq4 zq36));have n2_:=zM (blk_grown1 (g':=g3) (ob:=.cells (cB (outL h l (n+1))) 88 (0,0)) zq9 hgr (blk_ne zq9 zq4 zq36));have n3_:=zM hbk;clear HB BK2 BK3 BK1;have HB:=n0_;have BK2:=n1_;have BK3:=n2_;have BK1:=n3_;clear n0_ n1_ n2_ n3_;clear hbk hgr))
   rw[cE_shift] at BK1
   go_roundw
   case rel=>exact⟨n+1,zq8,by go_num,BK1,BK2,BK3,HB⟩
   case measure=>simp[intOf];omega
  ·obtain rfl:n=8:=by omega
   have hge:decide ((7:Int) - ((8:Nat):Int) ≥ 0)=false:=decide_eq_false zq8
   go_wp2_with (first
     | ((with_reducible refine gate_dst (N:=28) rfl ?_);refine wpList_load_row ?hg 88 (.tmp 3) ?ho g3 ?hx 88 (cB (outL h l 8)) (0,0) _ ?hk Try.underlying88 rfl ?hi ?_;(case hg=>rfl);(case ho=>rfl);(case hx=>rfl);(case hk=>exact zq9);(case hi=>rw[cB_size,outL_length];kernel_rfl))
     | ((with_reducible refine gate_store (t:=88) (p:=2) rfl ?_);refine row_event ?hg (ty:=88) (p:=2) (y:=?yo_107) ?ho ?hn (g:=g2) (old:=#[.int .u8 0,.int .u8 0,.int .u8 0,.int .u8 0,.int .u8 0,.int .u8 0,.int .u8 0,.int .u8 0,.int .u8 0,.int .u8 0,.int .u8 0,.int .u8 0,.int .u8 0,.int .u8 0,.int .u8 0,.int .u8 0]) (e:=88) (cells:=(cB (outL h l 8))) ?hx ?hy ?hk ?hi ?hd ?h1 ?_;(case ho=>rfl);(case hg=>rfl);(case hn=>rfl);(case hx=>rfl);(case hy=>rfl);(case hk=>exact zq2);(case hi=>rw[cB_size,outL_length];kernel_rfl);(case hd=>rw[cB_size,outL_length];rfl);(case h1=>exact cB_one _);intro wr_ hbk hgr;have n0_:=zM (below_grown1 zq0 hgr GE2.out);have n1_:=zM (blk_grown1 (g':=g1) (ob:=.cells (cE (h / 256 ^ 8) (l / 256 ^ 8)) 111 (0,0)) zq4 hgr (blk_ne zq4 zq2 zq36));have n2_:=zM (blk_grown1 (g':=g3) (ob:=.cells (cB (outL h l 8)) 88 (0,0)) zq9 hgr NE3_2.out);have n3_:=zM hbk;clear HB BK1 BK3 BK2;have HB:=n0_;have BK1:=n1_;have BK3:=n2_;have BK2:=n3_;clear n0_ n1_ n2_ n3_;clear hbk hgr))
   refine bodyPost_ret (results_cell_row rfl _ _ g2 88 (cB (outL h l 8)) (0,0) _ rfl zq2 Try.underlying88 rfl (by rw[cB_size,outL_length];kernel_rfl)) rfl ?_
   exact⟨rfl,HB.out⟩
end Go.Proofs.Ytdbanjdnjhflcaa.All
