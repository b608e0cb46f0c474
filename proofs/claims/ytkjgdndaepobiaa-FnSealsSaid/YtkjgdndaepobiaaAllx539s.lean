-- Laid by wip/shake.py of this repo out of this claim's texts. Not trusted: Lean checks it.
import Derived.Test.YtkjgdndaepobiaaAb0s
import Derived.Test.YtkjgdndaepobiaaAllx0s
section
namespace Go.Proofs.Ytkjgdndaepobiaa.All
open Go.Proofs.YtkjgdndaepobiaaW.PrintWords.Aside0 renaming mk→zM
open Go.RowKit Go.Proofs.YtkjgdndaepobiaaW.PrintWords Go.Proofs.YtkjgdndaepobiaaW.PrintLast Go.Proofs.YtkjgdndaepobiaaW.PrintMore
attribute [local go_sem] max2_int min2_int max_two min_two max_three min_three max_four min_four
set_option linter.unusedVariables false
set_option linter.unusedSimpArgs false
def startL (m:List (BitVec 8)):List (BitVec 8):=(pad16 m).set 15 1#8
theorem startL_length (m:List (BitVec 8)):(startL m).length=16:=by unfold startL;rw[List.length_set,pad16_length]
set_option maxHeartbeats 4000000 in
set_option maxRecDepth 100000 in
theorem impl_start.calls (A:Option Addr) (c:Nat) (m:List (BitVec 8)) (w:World) (hr0:Kd.C (Kd.int .u8) w A m.length (bL m)) :
  Calls Try.prog 48 #[.slice A m.length c] w fun e w'=>e=.returned (.agg (cB (startL m)))∧Below w.heap.size w w':=by
 have HR:=zM hr0
 clear hr0
 have HB:=zM (Below.refl w.heap.size w)
 go_enter Try.func48,Try.ntmps48
 go_wp2_with (first
  | ((with_reducible refine gate_dst (N:=2) rfl ?_);refine box_event ?hg (N:=2) ?hd (cs:=#[.int .u8 0,.int .u8 0,.int .u8 0,.int .u8 0,.int .u8 0,.int .u8 0,.int .u8 0,.int .u8 0,.int .u8 0,.int .u8 0,.int .u8 0,.int .u8 0,.int .u8 0,.int .u8 0,.int .u8 0,.int .u8 0]) (t:=61) ?hr ?_;(case hd=>rfl);(case hg=>rfl);(case hr=>first|(go_simp;done)|(go_simp;rfl));intro g2 hg w2 hbox hb;have n0_:=zM (below_step zq0 hb);have n1_:=zM hbox;have n2_:=zM (by rw[hg];exact below_size zq0:w.heap.size≤g2);clear HB;have HB:=n0_;have BK2:=n1_;have GE2:=n2_;clear n0_ n1_ n2_;clear hb hbox hg)
  | ((with_reducible refine gate_dst (N:=3) rfl ?_);refine box_event ?hg (N:=3) ?hd (cs:=#[.int .u8 0,.int .u8 0,.int .u8 0,.int .u8 0,.int .u8 0,.int .u8 0,.int .u8 0,.int .u8 0,.int .u8 0,.int .u8 0,.int .u8 0,.int .u8 0,.int .u8 0,.int .u8 0,.int .u8 0,.int .u8 0]) (t:=61) ?hr ?_;(case hd=>rfl);(case hg=>rfl);(case hr=>first|(go_simp;done)|(go_simp;rfl));intro g3 hg w3 hbox hb;have n0_:=zM (below_step zq0 hb);have n1_:=zM (blk_below (g:=g2) (o:=.cells #[.int .u8 0,.int .u8 0,.int .u8 0,.int .u8 0,.int .u8 0,.int .u8 0,.int .u8 0,.int .u8 0,.int .u8 0,.int .u8 0,.int .u8 0,.int .u8 0,.int .u8 0,.int .u8 0,.int .u8 0,.int .u8 0] 61 (0,0)) zq3 hb);have n2_:=zM hbox;have n3_:=zM (by rw[hg];exact below_size zq0:w.heap.size≤g3);have n4_:=zM (by rw[hg];exact Nat.ne_of_lt (blk_lt (g:=g2) (o:=.cells #[.int .u8 0,.int .u8 0,.int .u8 0,.int .u8 0,.int .u8 0,.int .u8 0,.int .u8 0,.int .u8 0,.int .u8 0,.int .u8 0,.int .u8 0,.int .u8 0,.int .u8 0,.int .u8 0,.int .u8 0,.int .u8 0] 61 (0,0)) zq3):g2≠g3);have n5_:=zM (by rw[hg];exact Nat.ne_of_gt (blk_lt (g:=g2) (o:=.cells #[.int .u8 0,.int .u8 0,.int .u8 0,.int .u8 0,.int .u8 0,.int .u8 0,.int .u8 0,.int .u8 0,.int .u8 0,.int .u8 0,.int .u8 0,.int .u8 0,.int .u8 0,.int .u8 0,.int .u8 0,.int .u8 0] 61 (0,0)) zq3):g3≠g2);clear HB BK2;have HB:=n0_;have BK2:=n1_;have BK3:=n2_;have GE3:=n3_;have NE2_3:=n4_;have NE3_2:=n5_;clear n0_ n1_ n2_ n3_ n4_ n5_;clear hb hbox hg)
  | ((with_reducible refine gate_store (t:=61) (p:=3) rfl ?_);refine row_event ?hg (ty:=61) (p:=3) (y:=?yo_333) ?ho ?hn (g:=g3) (old:=#[.int .u8 0,.int .u8 0,.int .u8 0,.int .u8 0,.int .u8 0,.int .u8 0,.int .u8 0,.int .u8 0,.int .u8 0,.int .u8 0,.int .u8 0,.int .u8 0,.int .u8 0,.int .u8 0,.int .u8 0,.int .u8 0]) (e:=61) (cells:=(cB (tab 16 fun _=>0#8))) ?hx ?hy ?hk ?hi ?hd ?h1 ?_;(case ho=>rfl);(case hg=>rfl);(case hn=>rfl);(case hx=>rfl);(case hy=>rfl);(case hk=>exact zq10);(case hi=>rw[cB_size,tab_length];kernel_rfl);(case hd=>exact zq207);(case h1=>exact cB_one _);intro wr_ hbk hgr;have n0_:=zM (below_grown1 zq0 hgr GE3.out);have n1_:=zM (blk_grown1 (g':=g2) (ob:=.cells #[.int .u8 0,.int .u8 0,.int .u8 0,.int .u8 0,.int .u8 0,.int .u8 0,.int .u8 0,.int .u8 0,.int .u8 0,.int .u8 0,.int .u8 0,.int .u8 0,.int .u8 0,.int .u8 0,.int .u8 0,.int .u8 0] 61 (0,0)) zq3 hgr NE2_3.out);have n2_:=zM hbk;clear HB BK2 BK3;have HB:=n0_;have BK2:=n1_;have BK3:=n2_;clear n0_ n1_ n2_;clear hbk hgr)
  | ((with_reducible refine gate_dst (N:=7) rfl ?_);refine copy_event ?hg (.tmp 5) (.tmp 6) 22 5 ?ho Try.underlying22 (by kernel_rfl) (g:=g3) (old:=(tab 16 fun _=>0#8)) (new:=m) (bt:=61) (cap:=?cap_334) (A:=?Ad_334) (c:=?cc_334) ?hx ?hy ?hk ?hr ?_;(case hg=>rfl);(case ho=>rfl);(case hx=>rfl);(case hy=>rfl);(case hk=>exact zq10);(case hr=>exact zq190);intro wp_ vv hbk0 hgr;have hbk:wp_.heap[g3]?=some (.cells (cB (pad16 m)) 61 (0,0)):=(by rw[← pad16_cp];exact hbk0);clear hbk0;have n0_:=zM (below_grown1 zq0 hgr GE3.out);have n1_:=zM (blk_grown1 (g':=g2) (ob:=.cells #[.int .u8 0,.int .u8 0,.int .u8 0,.int .u8 0,.int .u8 0,.int .u8 0,.int .u8 0,.int .u8 0,.int .u8 0,.int .u8 0,.int .u8 0,.int .u8 0,.int .u8 0,.int .u8 0,.int .u8 0,.int .u8 0] 61 (0,0)) zq3 hgr NE2_3.out);have n2_:=zM hbk;clear HB BK2 BK3;have HB:=n0_;have BK2:=n1_;have BK3:=n2_;clear n0_ n1_ n2_;clear hbk hgr;have hx3:wp_.cell? ⟨g3,15,none⟩=some (.int .u8 (bI (by_ (pad16 m) 15))):=(by rw[blk_cell BK3.out,cB_get _ _ (by rw[pad16_length];omega)]);have hf3:=blk_frozen BK3.out 15)
  | ((with_reducible refine gate_store (t:=5) (p:=8) rfl ?_);refine cell_event ?hg (t:=5) (p:=8) (v:=?vo_335) ?ho ?hn (i:=15) (x:=(.int .u8 1)) (cs:=(cB (pad16 m))) (g:=g3) (e:=61) ?hk ?hr (cs':=(cB (startL m))) ?hc ?_;(case ho=>rfl);(case hg=>rfl);(case hn=>rfl);(case hk=>exact zq10);(case hr=>first|(go_simp;done)|(go_simp;rfl));(case hc=>rw[show (Value.int .u8 1)=.int .u8 (bI 1#8) from rfl,cB_set];rfl);intro wc hbk hgr;have n0_:=zM (below_grown1 zq0 hgr GE3.out);have n1_:=zM (blk_grown1 (g':=g2) (ob:=.cells #[.int .u8 0,.int .u8 0,.int .u8 0,.int .u8 0,.int .u8 0,.int .u8 0,.int .u8 0,.int .u8 0,.int .u8 0,.int .u8 0,.int .u8 0,.int .u8 0,.int .u8 0,.int .u8 0,.int .u8 0,.int .u8 0] 61 (0,0)) zq3 hgr NE2_3.out);have n2_:=zM hbk;clear HB BK2 BK3;have HB:=n0_;have BK2:=n1_;have BK3:=n2_;clear n0_ n1_ n2_;clear hbk hgr)
  | ((with_reducible refine gate_dst (N:=9) rfl ?_);refine wpList_load_row ?hg 61 (.tmp 3) ?ho g3 ?hx 61 (cB (startL m)) (0,0) _ ?hk Try.underlying61 rfl ?hi ?_;(case hg=>rfl);(case ho=>rfl);(case hx=>rfl);(case hk=>exact zq10);(case hi=>rw[cB_size,startL_length];kernel_rfl))
  | ((with_reducible refine gate_store (t:=61) (p:=2) rfl ?_);refine row_event ?hg (ty:=61) (p:=2) (y:=?yo_337) ?ho ?hn (g:=g2) (old:=#[.int .u8 0,.int .u8 0,.int .u8 0,.int .u8 0,.int .u8 0,.int .u8 0,.int .u8 0,.int .u8 0,.int .u8 0,.int .u8 0,.int .u8 0,.int .u8 0,.int .u8 0,.int .u8 0,.int .u8 0,.int .u8 0]) (e:=61) (cells:=(cB (startL m))) ?hx ?hy ?hk ?hi ?hd ?h1 ?_;(case ho=>rfl);(case hg=>rfl);(case hn=>rfl);(case hx=>rfl);(case hy=>rfl);(case hk=>exact zq3);(case hi=>rw[cB_size,startL_length];kernel_rfl);(case hd=>rw[cB_size,startL_length];rfl);(case h1=>exact cB_one _);intro wq_ hbk hgr;have n0_:=zM (below_grown1 zq0 hgr GE2.out);have n1_:=zM (blk_grown1 (g':=g3) (ob:=.cells (cB (startL m)) 61 (0,0)) zq10 hgr NE3_2.out);have n2_:=zM hbk;clear HB BK3 BK2;have HB:=n0_;have BK3:=n1_;have BK2:=n2_;clear n0_ n1_ n2_;clear hbk hgr))
 refine bodyPost_ret (results_cell_row rfl _ _ g2 61 (cB (startL m)) (0,0) _ rfl zq3 Try.underlying61 rfl (by rw[cB_size,startL_length];kernel_rfl)) rfl ?_
 exact⟨rfl,HB.out⟩
end Go.Proofs.Ytkjgdndaepobiaa.All
end
section
namespace Go.Proofs.Ytkjgdndaepobiaa.All
open Go.Proofs.YtkjgdndaepobiaaW.PrintWords.Aside0 renaming mk→zM
open Go.RowKit Go.Proofs.YtkjgdndaepobiaaW.PrintWords Go.Proofs.YtkjgdndaepobiaaW.PrintLast Go.Proofs.YtkjgdndaepobiaaW.PrintMore
attribute [local go_sem] max2_int min2_int max_two min_two max_three min_three max_four min_four
set_option linter.unusedVariables false
set_option linter.unusedSimpArgs false
set_option maxHeartbeats 4000000 in
set_option maxRecDepth 100000 in
theorem slices_Grow.calls (n:Nat) (hn0:n≤5000) (w:World) :
  Calls Try.prog 61 #[.slice none 0 0,.int .i64 n] w fun e w'=>∃ v0_:Value,e=.returned v0_∧Kd.R (Kd.int .u8) 5 w' w.heap.size (fun _=>True) v0_ ([]:List Int)∧Below w.heap.size w w':=by
 have HB:=zM (Below.refl w.heap.size w)
 by_cases h0:n=0
 ·subst h0
  rw[show ((0:Nat):Int)=0 from rfl]
  go_enter Try.func61,Try.ntmps61
  go_wp2
  go_ret
  exact⟨_,rfl,Kd.R_nil _ _ _ _ _,HB.out⟩
 ·have hn:=zM hn0
  have t1:decide ((n:Int) < 0)=false:=decide_eq_false zq9
  have t2:decide ((n:Int) > 0)=true:=decide_eq_true zq9
  have t3:decide (0 < (n:Int))=true:=decide_eq_true zq9
  have t4:decide (0 < n)=true:=decide_eq_true zq9
  clear h0
  go_enter Try.func61,Try.ntmps61
  go_wp2_with (first
    | ((with_reducible refine gate_builtin (b:=.append) (xs:=#[.tmp 20,.tmp 21]) rfl ?_);at_builtin;refine Kd.R_append_zeros (Kd.int .u8) (w0:=w) w.heap.size rfl (.tmp 20) (.tmp 21) 22 3 5 (.int .u8 0) 1 rfl Try.underlying22 Try.underlying3 info5 rfl zq22 zq9 (.slice none 0 0) ([]:List Int) 0 (n:Int) (fun _=>True) rfl rfl rfl ?aF ?aO zq9 ?aB ?aS ?aL ?_;(case aB=>exact zq0);(case aF=>exact(fun _ _=>trivial));(case aO=>exact Kd.R_nil _ _ _ _ _);(case aS=>exact(below_size zq0));(case aL=>simp;have:=hn.out;omega);intro v1 w5 ho hb hg hat;obtain⟨As,cs_,es_⟩:=Kd.R_slice ho;rw[show (([]:List Int) ++ List.replicate ((n:Int)).toNat (0:Int)).length=n by simp] at es_;subst es_;have n0_:=zM hb;have n1_:=zM (Kd.R_take (m:=0) ho (Nat.zero_le _));clear HB;have HB:=n0_;have HO2:=n1_;clear n0_ n1_;clear ho hb hg hat))
  go_ret
  exact⟨_,rfl,by have h9:=HO2.out;rw[List.take_zero] at h9;exact h9,HB.out⟩
end Go.Proofs.Ytkjgdndaepobiaa.All
end
section
namespace Go.Proofs.Ytkjgdndaepobiaa.All
open Go.Proofs.YtkjgdndaepobiaaW.PrintWords.Aside0 renaming mk→zM
open Go.RowKit Go.Proofs.YtkjgdndaepobiaaW.PrintWords Go.Proofs.YtkjgdndaepobiaaW.PrintLast Go.Proofs.YtkjgdndaepobiaaW.PrintMore
attribute [local go_sem] max2_int min2_int max_two min_two max_three min_three max_four min_four
set_option linter.unusedVariables false
set_option linter.unusedSimpArgs false
def xsN (xss:List (List Int)) (i:Nat):List Int:=xss.getD i []
def flatN (xss:List (List Int)) (i:Nat):List Int:=(xss.take i).flatten
theorem flatN_succ (xss:List (List Int)) (i:Nat) (h:i < xss.length):flatN xss (i+1)=flatN xss i ++ xsN xss i:=by
 unfold flatN xsN
 rw[List.take_succ_eq_append_getElem h,List.flatten_append,List.getD_eq_getElem?_getD,List.getElem?_eq_getElem h]
 simp
theorem flatN_all (xss:List (List Int)):flatN xss xss.length=xss.flatten:=by unfold flatN;rw[List.take_length]
theorem flat_le (xss:List (List Int)) (i:Nat) (h:i < xss.length):(flatN xss i).length+(xsN xss i).length≤xss.flatten.length:=by
 have e:=flatN_succ xss i h
 have e2:(flatN xss (i+1)).length≤xss.flatten.length:=by
  have e3:xss.flatten=flatN xss (i+1) ++ (xss.drop (i+1)).flatten:=by unfold flatN;rw[← List.flatten_append,List.take_append_drop]
  rw[e3,List.length_append]
  omega
 rw[e,List.length_append] at e2
 exact e2
set_option maxHeartbeats 4000000 in
set_option maxRecDepth 100000 in
theorem slices_Concat.calls (go cap:Nat) (xss:List (List Int)) (hfl0:xss.flatten.length≤5000) (hn0:xss.length≤100) (w:World)
  (hg0:∀ i,i < xss.length→∃ (A:Option Addr) (c:Nat),w.cell? ⟨go,i,none⟩=some (.slice A (xsN xss i).length c)∧(xsN xss i).length≤c∧Kd.C (Kd.int .u8) w A (xsN xss i).length (xsN xss i)) :
  Calls Try.prog 50 #[.slice (some ⟨go,0,none⟩) xss.length cap] w fun e w'=>∃ v0_:Value,e=.returned v0_∧Kd.R (Kd.int .u8) 5 w' w.heap.size (fun _=>True) v0_ xss.flatten∧Below w.heap.size w w':=by
 have hfl:=zM hfl0
 have hg:=zM hg0
 obtain⟨n,hn⟩:∃ n,xss.length=n:=⟨_,rfl⟩
 rw[hn] at hn0 ⊢
 have hN:=zM hn
 clear hfl0 hg0 hn
 have HB:=zM (Below.refl w.heap.size w)
 go_enter Try.func50,Try.ntmps50
 go_wp2
 go_loopw [3,11] (fun v3 v11 W=>∃ i S:Nat,i≤n∧Aside0 (S=(flatN xss i).length)∧S≤5000∧v11=.int .i64 i∧v3=.int .i64 S∧Aside0 (Below w.heap.size w W)) (fun _ v11 _=>200 - (intOf v11).toNat)
 case atStart=>exact⟨0,0,zq9,⟨rfl⟩,zq9,rfl,rfl,HB⟩
 case round=>
  clear HB
  obtain⟨i,S,hi,hS,hS5,rfl,rfl,HB⟩:=hrel
  by_cases hl:i < n
  ·have hlt:=zM (show i < xss.length by rw[hN.out];exact hl)
   obtain⟨A,c,hc0,hle,hC0⟩:=hg.out i hlt.out
   have hc:wr.cell? ⟨go,i,none⟩=some (.slice A (xsN xss i).length c):=(HB.out.cell (World.block_lt_of_cell? w _ hc0)).trans hc0
   clear hc0 hC0
   have hsum:=flat_le xss i hlt.out
   have hf5:=hfl.out
   have hS':=hS.out
   obtain⟨m,hm⟩:∃ m,(xsN xss i).length=m:=⟨_,rfl⟩
   rw[hm] at hc hle hsum
   have hM:=zM hm
   have hb5:S+m≤5000:=by omega
   clear hm hS' hsum hf5
   have t1:decide ((S:Int)+(m:Int) < 0)=false:=decide_eq_false zq9
   have t2:decide (i < n)=true:=decide_eq_true hl
   have p1:=eq_true (show (0:Int)≤(i:Int) by omega)
   have p2:=eq_true (show (i:Int) < (n:Int) by omega)
   go_wp2
   go_roundw
   case rel=>exact⟨i+1,S+m,zq9,⟨by rw[flatN_succ xss i hlt.out,List.length_append,hM.out,← hS.out]⟩,zq9,by go_num,by go_num,HB⟩
   case measure=>simp[intOf];omega
  ·obtain rfl:i=n:=by omega
   have t2:decide (i < i)=false:=decide_eq_false zq9
   clear hl
   go_wp2_with (go_at_call 61;refine(slices_Grow.calls S hS5 _).mono ?_;rintro e wk ⟨v6_,rfl,ho6,hb⟩;have n0_:=zM (Kd.R_lower ho6 (below_size zq0));have n1_:=zM (below_step zq0 hb);clear HB;have HO6:=n0_;have HB:=n1_;clear n0_ n1_ ho6 hb)
   go_loopw [6,27] (fun v6 v27 W=>∃ (j:Nat),j≤i∧v27=.int .i64 j∧Aside0 (Kd.R (Kd.int .u8) 5 W w.heap.size (fun _=>True) v6 (flatN xss j))∧Aside0 (Below w.heap.size w W)) (fun _ v27 _=>200 - (intOf v27).toNat)
   case atStart=>exact⟨0,zq9,rfl,HO6,HB⟩
   case round=>
    clear HO6 HB
    obtain⟨j,hj,rfl,HO6,HB⟩:=hrel
    by_cases hl:j < i
    ·have hlt:=zM (show j < xss.length by rw[hN.out];exact hl)
     obtain⟨A,c,hc0,hle,hC0⟩:=hg.out j hlt.out
     have hc:wr.cell? ⟨go,j,none⟩=some (.slice A (xsN xss j).length c):=(HB.out.cell (World.block_lt_of_cell? w _ hc0)).trans hc0
     have hC:=zM hC0
     clear hc0 hC0
     have t2:decide (j < i)=true:=decide_eq_true hl
     have p1:=eq_true (show (0:Int)≤(j:Int) by omega)
     have p2:=eq_true (show (j:Int) < (i:Int) by omega)
     go_wp2_with (first
       | ((with_reducible refine gate_builtin (b:=.append) (xs:=#[.tmp 31,.tmp 32]) rfl ?_);at_builtin;refine Kd.R_append_rows (Kd.int .u8) (w0:=w) w.heap.size rfl (.tmp 31) (.tmp 32) 22 5 (.int .u8 0) 1 rfl Try.underlying22 info5 rfl zq22 zq9 _ (flatN xss j) (xsN xss j) _ _ _ (fun _=>True) (fun _=>False) rfl rfl ?aO ?aR (fun _ _ h=>h) (fun _ h=>h.elim) ?aF ?aB ?aS ?aL ?_;(case aR=>exact Kd.C_below hC.out zq0);(case aB=>exact zq0);(case aF=>exact(fun _ _=>trivial));(case aO=>exact HO6.out);(case aS=>exact(below_size zq0));(case aL=>have:=hfl.out;have:=flat_le xss j hlt.out;omega);intro v2 w5 ho hb hg hat;have n0_:=zM hb;have n1_:=zM ho;clear HB HO6;have HB:=n0_;have HO6:=n1_;clear n0_ n1_;clear ho hb hg hat))
     go_roundw
     case rel=>exact⟨j+1,zq9,by go_num,⟨by rw[flatN_succ xss j hlt.out];exact HO6.out⟩,HB⟩
     case measure=>simp[intOf];omega
    ·obtain rfl:j=i:=by omega
     have t2:decide (j < j)=false:=decide_eq_false zq9
     go_wp2
     go_ret
     refine⟨_,rfl,?_,HB.out⟩
     have h9:=HO6.out
     rw[← hN.out,flatN_all] at h9
     exact h9
end Go.Proofs.Ytkjgdndaepobiaa.All
end
section
namespace Go.Proofs.Ytkjgdndaepobiaa.All
open Go.Proofs.YtkjgdndaepobiaaW.PrintWords.Aside0 renaming mk→zM
open Go.RowKit Go.Proofs.YtkjgdndaepobiaaW.PrintWords Go.Proofs.YtkjgdndaepobiaaW.PrintLast Go.Proofs.YtkjgdndaepobiaaW.PrintMore
attribute [local go_sem] max2_int min2_int max_two min_two max_three min_three max_four min_four
set_option linter.unusedVariables false
set_option linter.unusedSimpArgs false
def impl_word.l0:Nat→Int→List Int→Int→Option (List Int)
 | 0,_,_,_=>none
 | k+1,x0,x5,x6=>if x6 ≥ 0 then (if 0≤x6 then (if x6 < (x5.length:Int) then (impl_word.l0 k (wrap64 (Int.tdiv x0 256)) (x5.set (x6:Int).toNat ((Int.tmod x0 256) % 256)) (wrap64 (x6 - 1))) else (none)) else (none)) else (some x5)
def impl_word.f (k:Nat) (a0:Int) (a1:Int):Option (List Int):=if 0≤a1 then (if (a1:Int).toNat≤281474976710656 then (impl_word.l0 k a0 (List.replicate (a1:Int).toNat 0) (wrap64 (a1 - 1))) else (none)) else (none)
theorem impl_word.mono_l:∀ k,(∀ y0 y1 y2,LeO (impl_word.l0 k y0 y1 y2) (impl_word.l0 (k+1) y0 y1 y2))
 | 0=>fun _ _ _ r h=>by simp[impl_word.l0] at h
 | k+1=>by
  have ih0:=impl_word.mono_l k
  ·intro y0 y1 y2
   unfold impl_word.l0
   repeat' first
   | (with_reducible exact ih0 _ _ _)
   | (with_reducible exact LeO.refl _)
   | (with_reducible exact LeO.none _)
   | (with_reducible refine LeO.ite ?_ ?_)
   | (with_reducible refine LeO.bind ?_ (fun _=>?_))
   | exact ih0 _ _ _
   | exact LeO.none _
   | refine LeO.ite ?_ ?_
   | refine LeO.bind ?_ (fun _=>?_)
theorem impl_word.mono:∀ a0 a1 k,LeO (impl_word.f k a0 a1) (impl_word.f (k+1) a0 a1):=by
 intro a0 a1 k
 have ih0:=impl_word.mono_l k
 unfold impl_word.f
 repeat' first
   | (with_reducible exact ih0 _ _ _)
   | (with_reducible exact LeO.refl _)
   | (with_reducible exact LeO.none _)
   | (with_reducible refine LeO.ite ?_ ?_)
   | (with_reducible refine LeO.bind ?_ (fun _=>?_))
   | exact ih0 _ _ _
   | exact LeO.none _
   | refine LeO.ite ?_ ?_
   | refine LeO.bind ?_ (fun _=>?_)
set_option maxHeartbeats 8000000 in
set_option maxRecDepth 100000 in
theorem impl_word.calls (k:Nat) (a0:Int) (a1:Int) (r:List Int) (w:World) (h:impl_word.f k a0 a1=some r) :
  Calls Try.prog 62 #[.int .i64 a0,.int .i64 a1] w fun e w'=>∃ v0_:Value,e=.returned (v0_)∧Kd.R (Kd.int .u8) 5 w' w.heap.size (fun _=>True) v0_ r∧Below w.heap.size w w':=by
 have HB:=zM (Below.refl w.heap.size w)
 have H:(if 0≤a1 then (if (a1:Int).toNat≤281474976710656 then (impl_word.l0 k a0 (List.replicate (a1:Int).toNat 0) (wrap64 (a1 - 1))) else (none)) else (none))=some r:=h
 clear h
 by_cases c3:0≤a1
 ·rw[if_pos c3] at H
  have c3b0:=eq_true c3
  have c3b1:decide (0≤a1)=true:=decide_eq_true c3
  clear c3
  by_cases c4:(a1:Int).toNat≤281474976710656
  ·rw[if_pos c4] at H
   have c4b0:=eq_true c4
   have c4b1:decide ((a1:Int).toNat≤281474976710656)=true:=decide_eq_true c4
   clear c4
   obtain⟨y308,hy308⟩:∃ y_:List Int,y_=(List.replicate (a1:Int).toNat 0):=⟨_,rfl⟩
   replace H:(impl_word.l0 k a0 y308 (wrap64 (a1 - 1)))=some r:=by first|(rw[hy308];with_reducible exact H)|(have H2_:=(Option.bind_some _ _).symm.trans H;rw[hy308];with_reducible exact H2_)|(have H2_:=(Option.bind_some _ _).symm.trans H;with_reducible exact H2_)|with_reducible exact H|(rw[hy308];exact H)|exact H
   have Ny308:=zM hy308
   clear hy308
   have H':=zM H
   clear H
   go_enter Try.func62,Try.ntmps62
   go_wp2_with (first|((with_reducible refine gate_dst (N:=8) rfl ?_);refine Kd.R_make (Kd.int .u8) _ 5 rfl (N:=8) rfl 22 _ _ rfl a1 rfl rfl Try.underlying22 (.int .u8 0) 1 info5 rfl zq22 zq9 0 (ok:=fun _=>True) (okp:=fun _=>True) rfl (fun _ hk=>hk) trivial (of_decide_eq_true zq7) (Nat.le_trans (Nat.mul_le_mul_right _ (of_decide_eq_true zq7:a1.toNat≤281474976710656)) zq9) (Below.refl _ _) (Nat.le_refl _) ?_;intro v309 w5 ho6 hb hg_ hnew_;clear hg_ hnew_;(first|rw[← Ny308.out] at ho6|(simp only[Int.reduceToNat] at ho6;rw[← Ny308.out] at ho6));have n0_:=zM (Kd.R_lower ho6 (below_size zq0));have n1_:=zM (below_step zq0 hb);clear HB;have HO310:=n0_;have HB:=n1_;clear n0_ n1_;clear hb ho6))
   go_loopg [0,6] k (fun kq v0 v6 w'=>∃ (x0_1:Int) (x5_1:List Int) (x6_1:Int),v0=.int .i64 x0_1∧v6=.int .i64 x6_1∧Aside0 (impl_word.l0 kq x0_1 x5_1 x6_1=some r)∧Aside0 (kq≤k)∧Aside0 (Kd.R (Kd.int .u8) 5 w' w.heap.size (fun _=>True) v309 x5_1)∧Aside0 (Below w.heap.size w w'))
   case atStart=>exact⟨(a0),(y308),(wrap64 (a1 - 1)),zq8,zq8,H',⟨Nat.le_refl _⟩,⟨by(with_reducible repeat (first|apply Kd.R_alloc|apply Kd.R_drewN|apply Kd.R_drew));exact HO310.out⟩,⟨zq0⟩⟩
   case round=>
    clear H'
    try clear p2
    try clear c3
    try clear c3b0
    try clear c3b1
    try clear c4
    try clear c4b0
    try clear c4b1
    try clear c6
    try clear p6
    obtain⟨x0_1,x5_1,x6_1,rfl,rfl,HA,HK1,HO_5,HB⟩:=hrel
    cases gk with
    | zero=>exact absurd HA.out (by simp[impl_word.l0])
    | succ k1=>
     have H:=HA.out
     clear HA
     simp only[impl_word.l0] at H
     by_cases c7:x6_1 ≥ 0
     ·rw[if_pos c7] at H
      have c7b0:decide (0≤x6_1)=true:=decide_eq_true c7
      clear c7
      by_cases c8:0≤x6_1
      ·rw[if_pos c8] at H
       have c8b0:decide (0≤x6_1)=true:=decide_eq_true c8
       clear c8
       by_cases c9:x6_1 < (x5_1.length:Int)
       ·rw[if_pos c9] at H
        have c9b0:decide (x6_1 < (x5_1.length:Int))=true:=decide_eq_true c9
        clear c9
        obtain⟨y311,hy311⟩:∃ y_:List Int,y_=(x5_1.set (x6_1:Int).toNat ((Int.tmod x0_1 256) % 256)):=⟨_,rfl⟩
        replace H:(impl_word.l0 k1 (wrap64 (Int.tdiv x0_1 256)) y311 (wrap64 (x6_1 - 1)))=some r:=by first|(rw[hy311];with_reducible exact H)|(have H2_:=(Option.bind_some _ _).symm.trans H;rw[hy311];with_reducible exact H2_)|(have H2_:=(Option.bind_some _ _).symm.trans H;with_reducible exact H2_)|with_reducible exact H|(rw[hy311];exact H)|exact H
        have Ny311:=zM hy311
        clear hy311
        have H':=zM H
        clear H
        have p10:0≤(x6_1:Int):=of_decide_eq_true zq7
        have q10:(x6_1:Int) < ((x5_1.length:Int):Int):=of_decide_eq_true zq7
        obtain⟨go10,co10,eo10,gb10,gl10,cl10,HG10⟩:=Kd.R_form HO_5.out zq9
        (first|cases eo10|(injection eo10 with ea_ en_ ec_;(first|subst ea_|(injection ea_ with ea_;subst ea_));subst ec_;clear en_))
        have GB10:=zM gb10
        have GG10:=zM HG10
        clear gb10 gl10 HG10
        obtain⟨hx10_0,hf10_0⟩:=Kd.R_celln 0 HO_5.out (x6_1:Int) p10 q10
        replace p10:=eq_true p10
        replace q10:=eq_true q10
        have HP11:=Kd.R_putg HO_5.out (x6_1:Int) ((Int.tmod x0_1 256) % 256)
        go_wp2_with (first|((with_reducible refine gate_store (t:=5) (p:=20) rfl ?_);refine store_event (t:=5) (p:=20) (v:=?vo_w12) (w1:=(wr.setCell ⟨go10,(x6_1:Int).toNat,none⟩ (.int .u8 ((Int.tmod x0_1 256) % 256)))) ?hg ?ho ?hn ?hr ?_;(case ho=>rfl);(case hg=>rfl);(case hn=>rfl);(case hr=>first|(go_simp;done)|(go_simp;rfl));intro w12 hw;have hg:wr.grownBy w12 (some go10):=(by rw[hw];exact HP11.2);have hp_:Kd.R (Kd.int .u8) 5 w12 w.heap.size (fun _=>True) (.slice (some ⟨go10,0,none⟩) x5_1.length co10) y311:=(by rw[hw,Ny311.out];exact HP11.1);clear HP11;have n0_:=zM (hp_);have n1_:=zM ((by rw[hw];exact below_set (HB.out) GB10.out:Below w.heap.size w w12));clear HO_5;clear HB;have HO_5:=n0_;have HB:=n1_;clear n0_ n1_;clear hg hw hp_))
        go_roundg k1
        case measure=>have:=HK1.out;omega
        case rel=>exact⟨(wrap64 (Int.tdiv x0_1 256)),(y311),(wrap64 (x6_1 - 1)),zq8,zq8,H',⟨zq153⟩,⟨zq93⟩,⟨zq0⟩⟩
       ·rw[if_neg c9] at H
        exact absurd H zq101
      ·rw[if_neg c8] at H
       exact absurd H zq101
     ·rw[if_neg c7] at H
      have c7b0:decide (0≤x6_1)=false:=decide_eq_false c7
      clear c7
      obtain rfl:=Option.some.inj H
      go_wp2
      go_ret
      exact⟨_,zq14,zq93,zq0⟩
  ·rw[if_neg c4] at H
   exact absurd H zq101
 ·rw[if_neg c3] at H
  exact absurd H zq101
end Go.Proofs.Ytkjgdndaepobiaa.All
end
