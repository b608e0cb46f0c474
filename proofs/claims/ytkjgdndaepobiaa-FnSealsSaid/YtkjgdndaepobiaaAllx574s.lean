-- Laid by wip/shake.py of this repo out of this claim's texts. Not trusted: Lean checks it.
import Derived.Test.YtkjgdndaepobiaaAb0s
import Derived.Test.YtkjgdndaepobiaaAllx0s
import Derived.Lib.SliceRun
namespace Go.Proofs.Ytkjgdndaepobiaa.All
open Go.Proofs.YtkjgdndaepobiaaW.PrintWords.Aside0 renaming mk→zM
open Go.RowKit Go.Proofs.YtkjgdndaepobiaaW.PrintWords Go.Proofs.YtkjgdndaepobiaaW.PrintLast Go.Proofs.YtkjgdndaepobiaaW.PrintMore
attribute [local go_sem] max2_int min2_int max_two min_two max_three min_three max_four min_four
set_option linter.unusedVariables false
set_option linter.unusedSimpArgs false
theorem nil_yes (w:World) (n c:Nat):(binOp .eql 22 (.slice none n c) (.slice none 0 0)).run Try.prog w=.ok (.bool true) w:=Go.Lib.run_eql_slice_nil w _ 5 none n c 0 0 Try.underlying22
theorem nil_no (w:World) (a:Addr) (n c:Nat):(binOp .eql 22 (.slice (some a) n c) (.slice none 0 0)).run Try.prog w=.ok (.bool false) w:=Go.Lib.run_eql_slice_nil w _ 5 (some a) n c 0 0 Try.underlying22
attribute [local go_sem] nil_yes nil_no
def bytes_Clone.f (l0:List Int):Option (List Int):=if l0.length < 140737488355328 then some l0 else none
set_option maxHeartbeats 4000000 in
set_option maxRecDepth 100000 in
theorem bytes_Clone.calls (A0:Option Addr) (c0:Nat) (l0:List Int) (r:List Int) (w:World) (hr0:Kd.C (Kd.int .u8) w A0 l0.length l0) (hc0:l0.length≤c0) (h:bytes_Clone.f l0=some r) :
  Calls Try.prog 33 #[.slice A0 l0.length c0] w fun e w'=>∃ v0_:Value,e=.returned (v0_)∧Kd.R (Kd.int .u8) 5 w' w.heap.size (fun _=>True) v0_ r∧Below w.heap.size w w':=by
 unfold bytes_Clone.f at h
 by_cases c2:l0.length < 140737488355328
 ·rw[if_pos c2,Option.some.injEq] at h
  subst h
  have LM:=zM c2
  clear c2
  have HB:=zM (Below.refl w.heap.size w)
  cases A0 with
  | none=>
   have e:l0=[]:=by
    have h3:=hr0.2.2
    cases l0 with
    | nil=>rfl
    | cons x l=>
     obtain⟨a,ha,_⟩:=h3 zq101
     cases ha
   subst e
   clear hr0 hc0
   go_enter Try.func33,Try.ntmps33
   go_wp2
   go_ret
   exact⟨_,rfl,Kd.R_nil _ _ _ _ _,HB.out⟩
  | some a0=>
   have HR0:=zM hr0
   clear hr0 hc0
   go_enter Try.func33,Try.ntmps33
   go_wp2_with (first
     | ((with_reducible refine gate_dst (N:=5) rfl ?_);refine Kd.R_lit (Kd.int .u8) _ 5 ?hg (N:=5) ?hd (xs:=([]:List Int)) (inner:=[]) (ok:=fun _=>True) (okp:=fun _=>True) ?hr ?hp (fun _ hk=>hk) trivial (Below.refl _ _) (Nat.le_refl _) zq101 ?_;(case hd=>rfl);(case hg=>rfl);(case hr=>first|(go_simp;done)|(go_simp;rfl));(case hp=>exact(Reps.none _ _));intro v1 w3 ho4 hb hg_ hnew_;clear hg_ hnew_;have n0_:=zM (Kd.R_lower ho4 (below_size zq0));have n1_:=zM (below_step zq0 hb);clear HB;have HO1:=n0_;have HB:=n1_;clear n0_ n1_;clear hb ho4)
     | ((with_reducible refine gate_builtin (b:=.append) (xs:=#[.tmp 5,.tmp 6]) rfl ?_);at_builtin;refine Kd.R_append_rows (Kd.int .u8) (w0:=w) w.heap.size rfl (.tmp 5) (.tmp 6) 22 5 (.int .u8 0) 1 rfl Try.underlying22 info5 rfl zq22 zq9 v1 ([]:List Int) l0 _ _ _ (fun _=>True) (fun _=>False) rfl rfl ?aO ?aR (fun _ _ h=>h) (fun _ h=>h.elim) ?aF ?aB ?aS ?aL ?_;(case aR=>exact zq26);(case aB=>exact zq0);(case aF=>exact(fun _ _=>trivial));(case aO=>exact(by(with_reducible repeat (first|apply Kd.R_alloc|apply Kd.R_drewN|apply Kd.R_drew));exact HO1.out));(case aS=>exact(below_size zq0));(case aL=>have:=LM.out;simp;omega);intro v2 w5 ho hb hg hat;have n0_:=zM (hb);have n1_:=zM (ho);clear HB;clear HO1;have HB:=n0_;have HO2:=n1_;clear n0_ n1_;clear ho hb hg hat))
   go_ret
   exact⟨_,rfl,by(with_reducible repeat (first|apply Kd.R_alloc|apply Kd.R_drewN|apply Kd.R_drew));exact HO2.out,zq0⟩
 ·rw[if_neg c2] at h
  cases h
set_option maxHeartbeats 4000000 in
set_option maxRecDepth 100000 in
theorem impl_block_up.calls (m:List (BitVec 8)) (hm0:m.length=16) (w:World) :
  Calls Try.prog 49 #[.agg (cB m)] w fun e w'=>e=.returned (.agg (cB (upL m)))∧Below w.heap.size w w':=by
 have hm:=zM hm0
 clear hm0
 have HB:=zM (Below.refl w.heap.size w)
 go_enter Try.func49,Try.ntmps49
 go_wp2_with (first
  | ((with_reducible refine gate_dst (N:=1) rfl ?_);refine box_event ?hg (N:=1) ?hd (cs:=(cB m)) (t:=61) ?hr ?_;(case hd=>rfl);(case hg=>rfl);(case hr=>first|(go_simp;done)|(go_simp;rfl));intro g1 hg w1 hbox hb;have n0_:=zM (below_step zq0 hb);have n1_:=zM hbox;have n2_:=zM (by rw[hg];exact below_size zq0:w.heap.size≤g1);clear HB;have HB:=n0_;have BK1:=n1_;have GE1:=n2_;clear n0_ n1_ n2_;clear hb hbox hg)
  | ((with_reducible refine gate_dst (N:=2) rfl ?_);refine box_event ?hg (N:=2) ?hd (cs:=#[.int .u8 0,.int .u8 0,.int .u8 0,.int .u8 0,.int .u8 0,.int .u8 0,.int .u8 0,.int .u8 0,.int .u8 0,.int .u8 0,.int .u8 0,.int .u8 0,.int .u8 0,.int .u8 0,.int .u8 0,.int .u8 0]) (t:=61) ?hr ?_;(case hd=>rfl);(case hg=>rfl);(case hr=>first|(go_simp;done)|(go_simp;rfl));intro g2 hg w2 hbox hb;have n0_:=zM (below_step zq0 hb);have n1_:=zM (blk_below (g:=g1) (o:=.cells (cB m) 61 (0,0)) zq4 hb);have n2_:=zM hbox;have n3_:=zM (by rw[hg];exact below_size zq0:w.heap.size≤g2);have n4_:=zM (by rw[hg];exact Nat.ne_of_lt (blk_lt (g:=g1) (o:=.cells (cB m) 61 (0,0)) zq4):g1≠g2);have n5_:=zM (by rw[hg];exact Nat.ne_of_gt (blk_lt (g:=g1) (o:=.cells (cB m) 61 (0,0)) zq4):g2≠g1);clear HB BK1;have HB:=n0_;have BK1:=n1_;have BK2:=n2_;have GE2:=n3_;have NE1_2:=n4_;have NE2_1:=n5_;clear n0_ n1_ n2_ n3_ n4_ n5_;clear hb hbox hg))
 go_loopw [3] (fun v3 W=>∃ (n i:Nat) (xs:List (BitVec 8)),i=11+n∧n≤4∧v3=.int .i64 i∧Aside0 (xs.length=16)∧Aside0 (upTo xs n i=upL m)∧Aside0 (W.heap[g1]?=some (.cells (cB xs) 61 (0,0)))∧Aside0 (W.heap[g2]?=some (.cells #[.int .u8 0,.int .u8 0,.int .u8 0,.int .u8 0,.int .u8 0,.int .u8 0,.int .u8 0,.int .u8 0,.int .u8 0,.int .u8 0,.int .u8 0,.int .u8 0,.int .u8 0,.int .u8 0,.int .u8 0,.int .u8 0] 61 (0,0)))∧Aside0 (Below w.heap.size w W)) (fun v3 _=>(intOf v3).toNat)
 case atStart=>exact⟨4,15,m,zq9,zq9,rfl,hm,⟨rfl⟩,BK1,BK2,HB⟩
 case round=>
  clear BK1 BK2 HB
  obtain⟨n,i,xs,hin0,hn0,rfl,hx,hu,BK1,BK2,HB⟩:=hrel
  have hin:=zM hin0
  have hn4:=zM hn0
  clear hin0 hn0
  cases n with
  | zero=>
   obtain rfl:i=11:=by have:=hin.out;omega
   have e:xs=upL m:=hu.out
   subst e
   go_wp2_with (first
     | ((with_reducible refine gate_dst (N:=17) rfl ?_);refine wpList_load_row ?hg 61 (.tmp 1) ?ho g1 ?hx 61 (cB (upL m)) (0,0) _ ?hk Try.underlying61 rfl ?hi ?_;(case hg=>rfl);(case ho=>rfl);(case hx=>rfl);(case hk=>exact zq4);(case hi=>rw[cB_size,upL_length',hm.out];kernel_rfl))
     | ((with_reducible refine gate_store (t:=61) (p:=2) rfl ?_);refine row_event ?hg (ty:=61) (p:=2) (y:=?yo_51) ?ho ?hn (g:=g2) (old:=#[.int .u8 0,.int .u8 0,.int .u8 0,.int .u8 0,.int .u8 0,.int .u8 0,.int .u8 0,.int .u8 0,.int .u8 0,.int .u8 0,.int .u8 0,.int .u8 0,.int .u8 0,.int .u8 0,.int .u8 0,.int .u8 0]) (e:=61) (cells:=(cB (upL m))) ?hx ?hy ?hk ?hi ?hd ?h1 ?_;(case ho=>rfl);(case hg=>rfl);(case hn=>rfl);(case hx=>rfl);(case hy=>rfl);(case hk=>exact zq3);(case hi=>rw[cB_size,upL_length',hm.out];kernel_rfl);(case hd=>rw[cB_size,upL_length',hm.out];rfl);(case h1=>exact cB_one _);intro wr_ hbk hgr;have n0_:=zM (below_grown1 zq0 hgr GE2.out);have n1_:=zM (blk_grown1 (g':=g1) (ob:=.cells (cB (upL m)) 61 (0,0)) zq4 hgr NE1_2.out);have n2_:=zM hbk;clear HB BK1 BK2;have HB:=n0_;have BK1:=n1_;have BK2:=n2_;clear n0_ n1_ n2_;clear hbk hgr))
   refine bodyPost_ret (results_cell_row rfl _ _ g2 61 (cB (upL m)) (0,0) _ rfl zq3 Try.underlying61 rfl (by rw[cB_size,upL_length',hm.out];kernel_rfl)) rfl ?_
   exact⟨rfl,HB.out⟩
  | succ n=>
   have hi16:=zM (show i < 16 by have:=hin.out;have:=hn4.out;omega)
   have hb1:12≤i:=by have:=hin.out;omega
   have hb2:i≤15:=by have:=hin.out;have:=hn4.out;omega
   have hc:wr.cell? ⟨g1,i,none⟩=some (.int .u8 (bI (by_ xs i))):=by rw[blk_cell BK1.out,cB_get _ _ (by rw[hx.out];exact hi16.out)]
   have hf:=blk_frozen BK1.out i
   have hge:decide ((i:Int) ≥ 12)=true:=decide_eq_true zq9
   by_cases hz:by_ xs i+1#8=0#8
   ·have hq:((bI (by_ xs i)+1) % 256 != 0)=false:=by rw[bI_succ,hz];rfl
    have hz2:=zM hz
    clear hz
    go_wp2_with (first
      | ((with_reducible refine gate_store (t:=5) (p:=12) rfl ?_);refine cell_event ?hg (t:=5) (p:=12) (v:=?vo_52) ?ho ?hn (i:=i) (x:=(.int .u8 ((bI (by_ xs i)+1) % 256))) (cs:=(cB xs)) (g:=g1) (e:=61) ?hk ?hr (cs':=(cB (xs.set i (by_ xs i+1#8)))) ?hc ?_;(case ho=>rfl);(case hg=>rfl);(case hn=>rfl);(case hk=>exact zq4);(case hr=>first|(go_simp;done)|(go_simp;rfl));(case hc=>rw[bI_succ,cB_set]);intro wc hbk hgr;have n0_:=zM (below_grown1 zq0 hgr GE1.out);have n1_:=zM (blk_grown1 (g':=g2) (ob:=.cells #[.int .u8 0,.int .u8 0,.int .u8 0,.int .u8 0,.int .u8 0,.int .u8 0,.int .u8 0,.int .u8 0,.int .u8 0,.int .u8 0,.int .u8 0,.int .u8 0,.int .u8 0,.int .u8 0,.int .u8 0,.int .u8 0] 61 (0,0)) zq3 hgr NE2_1.out);have n2_:=zM hbk;clear HB BK2 BK1;have HB:=n0_;have BK2:=n1_;have BK1:=n2_;clear n0_ n1_ n2_;clear hbk hgr;have hcn:wc.cell? ⟨g1,i,none⟩=some (.int .u8 ((bI (by_ xs i)+1) % 256)):=zq195))
    go_roundw
    case rel=>exact⟨n,i - 1,xs.set i (by_ xs i+1#8),by have:=hin.out;omega,by have:=hn4.out;omega,by(have h9:((i - 1:Nat):Int)=(i:Int) - 1:=by omega);rw[h9],⟨by rw[List.length_set];exact hx.out⟩,⟨by have h9:=hu.out;unfold upTo at h9;rw[if_neg (fun h=>h hz2.out)] at h9;exact h9⟩,BK1,BK2,HB⟩
    case measure=>simp[intOf];omega
   ·have hq:((bI (by_ xs i)+1) % 256 != 0)=true:=by
     rw[bI_succ,bne_iff_ne]
     exact fun h=>hz (bI_inj h)
    have e:Aside0 (xs.set i (by_ xs i+1#8)=upL m):=⟨by have h9:=hu.out;unfold upTo at h9;rw[if_pos hz] at h9;exact h9⟩
    clear hz
    go_wp2_with (first
      | ((with_reducible refine gate_store (t:=5) (p:=12) rfl ?_);refine cell_event ?hg (t:=5) (p:=12) (v:=?vo_53) ?ho ?hn (i:=i) (x:=(.int .u8 ((bI (by_ xs i)+1) % 256))) (cs:=(cB xs)) (g:=g1) (e:=61) ?hk ?hr (cs':=(cB (xs.set i (by_ xs i+1#8)))) ?hc ?_;(case ho=>rfl);(case hg=>rfl);(case hn=>rfl);(case hk=>exact zq4);(case hr=>first|(go_simp;done)|(go_simp;rfl));(case hc=>rw[bI_succ,cB_set]);intro wc hbk hgr;have n0_:=zM (below_grown1 zq0 hgr GE1.out);have n1_:=zM (blk_grown1 (g':=g2) (ob:=.cells #[.int .u8 0,.int .u8 0,.int .u8 0,.int .u8 0,.int .u8 0,.int .u8 0,.int .u8 0,.int .u8 0,.int .u8 0,.int .u8 0,.int .u8 0,.int .u8 0,.int .u8 0,.int .u8 0,.int .u8 0,.int .u8 0] 61 (0,0)) zq3 hgr NE2_1.out);have n2_:=zM hbk;clear HB BK2 BK1;have HB:=n0_;have BK2:=n1_;have BK1:=n2_;clear n0_ n1_ n2_;clear hbk hgr;have hcn:wc.cell? ⟨g1,i,none⟩=some (.int .u8 ((bI (by_ xs i)+1) % 256)):=zq195)
      | ((with_reducible refine gate_dst (N:=17) rfl ?_);refine wpList_load_row ?hg 61 (.tmp 1) ?ho g1 ?hx 61 (cB (xs.set i (by_ xs i+1#8))) (0,0) _ ?hk Try.underlying61 rfl ?hi ?_;(case hg=>rfl);(case ho=>rfl);(case hx=>rfl);(case hk=>exact zq4);(case hi=>rw[cB_size,List.length_set,hx.out];kernel_rfl))
      | ((with_reducible refine gate_store (t:=61) (p:=2) rfl ?_);refine row_event ?hg (ty:=61) (p:=2) (y:=?yo_55) ?ho ?hn (g:=g2) (old:=#[.int .u8 0,.int .u8 0,.int .u8 0,.int .u8 0,.int .u8 0,.int .u8 0,.int .u8 0,.int .u8 0,.int .u8 0,.int .u8 0,.int .u8 0,.int .u8 0,.int .u8 0,.int .u8 0,.int .u8 0,.int .u8 0]) (e:=61) (cells:=(cB (xs.set i (by_ xs i+1#8)))) ?hx ?hy ?hk ?hi ?hd ?h1 ?_;(case ho=>rfl);(case hg=>rfl);(case hn=>rfl);(case hx=>rfl);(case hy=>rfl);(case hk=>exact zq3);(case hi=>rw[cB_size,List.length_set,hx.out];kernel_rfl);(case hd=>rw[cB_size,List.length_set,hx.out];rfl);(case h1=>exact cB_one _);intro wr_ hbk hgr;have n0_:=zM (below_grown1 zq0 hgr GE2.out);have n1_:=zM (blk_grown1 (g':=g1) (ob:=.cells (cB (xs.set i (by_ xs i+1#8))) 61 (0,0)) zq4 hgr NE1_2.out);have n2_:=zM hbk;clear HB BK1 BK2;have HB:=n0_;have BK1:=n1_;have BK2:=n2_;clear n0_ n1_ n2_;clear hbk hgr))
    rw[e.out] at BK2
    refine bodyPost_ret (results_cell_row rfl _ _ g2 61 (cB (upL m)) (0,0) _ rfl zq3 Try.underlying61 rfl (by rw[cB_size,upL_length',hm.out];kernel_rfl)) rfl ?_
    exact⟨rfl,HB.out⟩
set_option maxHeartbeats 4000000 in
set_option maxRecDepth 100000 in
theorem impl_asBlock.calls (A:Option Addr) (c:Nat) (m:List (BitVec 8)) (w:World) (hr0:Kd.C (Kd.int .u8) w A m.length (bL m)) :
  Calls Try.prog 74 #[.slice A m.length c] w fun e w'=>e=.returned (.tuple #[.agg (cB (pad16 m)),.bool (decide (m.length=16))])∧Below w.heap.size w w':=by
 have HR:=zM hr0
 have hmx:=zM (Kd.C_max hr0)
 clear hr0
 have HB:=zM (Below.refl w.heap.size w)
 by_cases h16:m.length=16
 all_goals
  have hd:=zM h16
  clear h16
  go_enter Try.func74,Try.ntmps74
  go_wp2_with (first
   | ((with_reducible refine gate_dst (N:=2) rfl ?_);refine box_event ?hg (N:=2) ?hd (cs:=#[.int .u8 0,.int .u8 0,.int .u8 0,.int .u8 0,.int .u8 0,.int .u8 0,.int .u8 0,.int .u8 0,.int .u8 0,.int .u8 0,.int .u8 0,.int .u8 0,.int .u8 0,.int .u8 0,.int .u8 0,.int .u8 0]) (t:=61) ?hr ?_;(case hd=>rfl);(case hg=>rfl);(case hr=>first|(go_simp;done)|(go_simp;rfl));intro g2 hg w2 hbox hb;have n0_:=zM (below_step zq0 hb);have n1_:=zM hbox;have n2_:=zM (by rw[hg];exact below_size zq0:w.heap.size≤g2);clear HB;have HB:=n0_;have BK2:=n1_;have GE2:=n2_;clear n0_ n1_ n2_;clear hb hbox hg)
   | ((with_reducible refine gate_dst (N:=4) rfl ?_);refine box_event ?hg (N:=4) ?hd (cs:=#[.int .u8 0,.int .u8 0,.int .u8 0,.int .u8 0,.int .u8 0,.int .u8 0,.int .u8 0,.int .u8 0,.int .u8 0,.int .u8 0,.int .u8 0,.int .u8 0,.int .u8 0,.int .u8 0,.int .u8 0,.int .u8 0]) (t:=61) ?hr ?_;(case hd=>rfl);(case hg=>rfl);(case hr=>first|(go_simp;done)|(go_simp;rfl));intro g4 hg w4 hbox hb;have n0_:=zM (below_step zq0 hb);have n1_:=zM (blk_below (g:=g2) (o:=.cells #[.int .u8 0,.int .u8 0,.int .u8 0,.int .u8 0,.int .u8 0,.int .u8 0,.int .u8 0,.int .u8 0,.int .u8 0,.int .u8 0,.int .u8 0,.int .u8 0,.int .u8 0,.int .u8 0,.int .u8 0,.int .u8 0] 61 (0,0)) zq3 hb);have n2_:=zM hbox;have n3_:=zM (by rw[hg];exact below_size zq0:w.heap.size≤g4);have n4_:=zM (by rw[hg];exact Nat.ne_of_lt (blk_lt (g:=g2) (o:=.cells #[.int .u8 0,.int .u8 0,.int .u8 0,.int .u8 0,.int .u8 0,.int .u8 0,.int .u8 0,.int .u8 0,.int .u8 0,.int .u8 0,.int .u8 0,.int .u8 0,.int .u8 0,.int .u8 0,.int .u8 0,.int .u8 0] 61 (0,0)) zq3):g2≠g4);have n5_:=zM (by rw[hg];exact Nat.ne_of_gt (blk_lt (g:=g2) (o:=.cells #[.int .u8 0,.int .u8 0,.int .u8 0,.int .u8 0,.int .u8 0,.int .u8 0,.int .u8 0,.int .u8 0,.int .u8 0,.int .u8 0,.int .u8 0,.int .u8 0,.int .u8 0,.int .u8 0,.int .u8 0,.int .u8 0] 61 (0,0)) zq3):g4≠g2);clear HB BK2;have HB:=n0_;have BK2:=n1_;have BK4:=n2_;have GE4:=n3_;have NE2_4:=n4_;have NE4_2:=n5_;clear n0_ n1_ n2_ n3_ n4_ n5_;clear hb hbox hg)
   | ((with_reducible refine gate_store (t:=61) (p:=4) rfl ?_);refine row_event ?hg (ty:=61) (p:=4) (y:=?yo_24) ?ho ?hn (g:=g4) (old:=#[.int .u8 0,.int .u8 0,.int .u8 0,.int .u8 0,.int .u8 0,.int .u8 0,.int .u8 0,.int .u8 0,.int .u8 0,.int .u8 0,.int .u8 0,.int .u8 0,.int .u8 0,.int .u8 0,.int .u8 0,.int .u8 0]) (e:=61) (cells:=(cB (tab 16 fun _=>0#8))) ?hx ?hy ?hk ?hi ?hd ?h1 ?_;(case ho=>rfl);(case hg=>rfl);(case hn=>rfl);(case hx=>rfl);(case hy=>rfl);(case hk=>exact zq6);(case hi=>rw[cB_size,tab_length];kernel_rfl);(case hd=>exact zq207);(case h1=>exact cB_one _);intro wr_ hbk hgr;have n0_:=zM (below_grown1 zq0 hgr GE4.out);have n1_:=zM (blk_grown1 (g':=g2) (ob:=.cells #[.int .u8 0,.int .u8 0,.int .u8 0,.int .u8 0,.int .u8 0,.int .u8 0,.int .u8 0,.int .u8 0,.int .u8 0,.int .u8 0,.int .u8 0,.int .u8 0,.int .u8 0,.int .u8 0,.int .u8 0,.int .u8 0] 61 (0,0)) zq3 hgr NE2_4.out);have n2_:=zM hbk;clear HB BK2 BK4;have HB:=n0_;have BK2:=n1_;have BK4:=n2_;clear n0_ n1_ n2_;clear hbk hgr)
   | ((with_reducible refine gate_dst (N:=8) rfl ?_);refine copy_event ?hg (.tmp 6) (.tmp 7) 22 5 ?ho Try.underlying22 (by kernel_rfl) (g:=g4) (old:=(tab 16 fun _=>0#8)) (new:=m) (bt:=61) (cap:=?cap_25) (A:=?Ad_25) (c:=?cc_25) ?hx ?hy ?hk ?hr ?_;(case hg=>rfl);(case ho=>rfl);(case hx=>rfl);(case hy=>rfl);(case hk=>exact zq6);(case hr=>exact zq190);intro wp_ vv hbk0 hgr;have hbk:wp_.heap[g4]?=some (.cells (cB (pad16 m)) 61 (0,0)):=(by rw[← pad16_cp];exact hbk0);clear hbk0;have n0_:=zM (below_grown1 zq0 hgr GE4.out);have n1_:=zM (blk_grown1 (g':=g2) (ob:=.cells #[.int .u8 0,.int .u8 0,.int .u8 0,.int .u8 0,.int .u8 0,.int .u8 0,.int .u8 0,.int .u8 0,.int .u8 0,.int .u8 0,.int .u8 0,.int .u8 0,.int .u8 0,.int .u8 0,.int .u8 0,.int .u8 0] 61 (0,0)) zq3 hgr NE2_4.out);have n2_:=zM hbk;clear HB BK2 BK4;have HB:=n0_;have BK2:=n1_;have BK4:=n2_;clear n0_ n1_ n2_;clear hbk hgr)
   | ((with_reducible refine gate_dst (N:=9) rfl ?_);refine wpList_load_row ?hg 61 (.tmp 4) ?ho g4 ?hx 61 (cB (pad16 m)) (0,0) _ ?hk Try.underlying61 rfl ?hi ?_;(case hg=>rfl);(case ho=>rfl);(case hx=>rfl);(case hk=>exact zq6);(case hi=>rw[cB_size,pad16_length];kernel_rfl))
   | ((with_reducible refine gate_store (t:=61) (p:=2) rfl ?_);refine row_event ?hg (ty:=61) (p:=2) (y:=?yo_27) ?ho ?hn (g:=g2) (old:=#[.int .u8 0,.int .u8 0,.int .u8 0,.int .u8 0,.int .u8 0,.int .u8 0,.int .u8 0,.int .u8 0,.int .u8 0,.int .u8 0,.int .u8 0,.int .u8 0,.int .u8 0,.int .u8 0,.int .u8 0,.int .u8 0]) (e:=61) (cells:=(cB (pad16 m))) ?hx ?hy ?hk ?hi ?hd ?h1 ?_;(case ho=>rfl);(case hg=>rfl);(case hn=>rfl);(case hx=>rfl);(case hy=>rfl);(case hk=>exact zq3);(case hi=>rw[cB_size,pad16_length];kernel_rfl);(case hd=>rw[cB_size,pad16_length];rfl);(case h1=>exact cB_one _);intro wr_ hbk hgr;have n0_:=zM (below_grown1 zq0 hgr GE2.out);have n1_:=zM (blk_grown1 (g':=g4) (ob:=.cells (cB (pad16 m)) 61 (0,0)) zq6 hgr NE4_2.out);have n2_:=zM hbk;clear HB BK4 BK2;have HB:=n0_;have BK4:=n1_;have BK2:=n2_;clear n0_ n1_ n2_;clear hbk hgr))
  refine bodyPost_ret (results_list (rs:=[.cell 2 61,.tmp 3]) rfl zq101 (.cell g2 61 (cB (pad16 m)) (0,0) _ rfl zq3 Try.underlying61 rfl (by rw[cB_size,pad16_length];kernel_rfl) (.tmp .nil))) rfl ⟨?_,HB.out⟩
  refine congrArg (fun b=>Ending.returned (.tuple #[.agg (cB (pad16 m)),.bool b])) ?_
  have h9:=hd.out
  exact beq_16 m.length
end Go.Proofs.Ytkjgdndaepobiaa.All
