-- Laid by wip/shake.py of this repo out of this claim's texts. Not trusted: Lean checks it.
import Derived.Test.YtdbanjdnjhflcaaAb0s
import Derived.Test.YtdbanjdnjhflcaaAlgs
import Derived.Test.YtdbanjdnjhflcaaAllx513s
import Derived.Test.YtdbanjdnjhflcaaAllx98s
import Derived.Test.YtdbanjdnjhflcaaAllx99s
import Derived.Test.YtdbanjdnjhflcaaAllx518s
import Derived.Test.YtdbanjdnjhflcaaLemGroups
import Derived.Test.YtdbanjdnjhflcaaDrawns
set_option linter.unusedSimpArgs false
set_option linter.unusedVariables false
namespace Go.Proofs.Ytdbanjdnjhflcaa.All
open Go.Proofs.YtdbanjdnjhflcaaW.PrintWords.Aside0 renaming mk→zM
open Go.RowKit Go.Proofs.YtdbanjdnjhflcaaW.PrintWords Go.Proofs.YtdbanjdnjhflcaaW.PrintLast Go.Proofs.YtdbanjdnjhflcaaW.PrintMore
attribute [local go_sem] max2_int min2_int max_two min_two max_three min_three max_four min_four
def vE (v:BitVec 128):Array Value:=#[.int .u64 (wH v),.int .u64 (wL v)]
theorem vE_zero:vE 0#128=cE 0 0:=by
 unfold vE cE
 rw[w_zero.1,w_zero.2]
 rfl
theorem vE_cE (v:BitVec 128):vE v=cE (hiW v).toNat (loW v).toNat:=by
 unfold vE cE wH wL
 rfl
theorem vE_one (v:BitVec 128):(vE v).all (·.oneCell')=true:=by simp[vE,Value.oneCell']
def hv (h:BitVec 128):Nat→List (BitVec 8)→BitVec 128→BitVec 128
 | 0,_,s=>s
 | n+1,d,s=>hv h n (d.drop 16) (gM (s ^^^ vB (d.take 16)) h)
theorem asBlock16 (A:Option Addr) (c:Nat) (m:List (BitVec 8)) (w:World) (h:m.length=16) (hr:Kd.C (Kd.int .u8) w A 16 (bL m)) :
  Calls Try.prog 86 #[.slice A 16 c] w fun e w'=>e=.returned (.tuple #[.agg (cB (pad16 m)),.bool true])∧Below w.heap.size w w':=by
 have h2:=impl_asBlock.calls A c m w (by rw[h];exact hr)
 rw[h] at h2
 exact h2
set_option maxHeartbeats 4000000 in
set_option maxRecDepth 100000 in
theorem impl_hashAll.calls (m:List (BitVec 8)) (hm0:m.length=16) (A:Option Addr) (c n0:Nat) (d:List (BitVec 8)) (hd0:d.length=16*n0) (hn0:n0≤100) (w:World) (hr0:Kd.C (Kd.int .u8) w A d.length (bL d)) (hc0:d.length≤c) :
  Calls Try.prog 71 #[.agg (cB m),.slice A d.length c] w fun e w'=>e=.returned (.agg (cB (bV (hv (vB m) n0 d 0#128))))∧Below w.heap.size w w':=by
 have hm:=zM hm0
 clear hm0
 have HR:=zM hr0
 have hD:=zM hd0
 clear hr0 hd0
 have HB:=zM (Below.refl w.heap.size w)
 generalize hT0:hv (vB m) n0 d 0#128=T
 have hT:=zM hT0
 clear hT0
 go_enter Try.func71,Try.ntmps71
 go_wp2_with (first
  | ((with_reducible refine gate_dst (N:=2) rfl ?_);refine box_event ?hg (N:=2) ?hd (cs:=(cB m)) (t:=88) ?hr ?_;(case hd=>rfl);(case hg=>rfl);(case hr=>first|(go_simp;done)|(go_simp;rfl));intro g2 hg w2 hbox hb;have n0_:=zM (below_step zq0 hb);have n1_:=zM hbox;have n2_:=zM (by rw[hg];exact below_size zq0:w.heap.size≤g2);clear HB;have HB:=n0_;have BK2:=n1_;have GE2:=n2_;clear n0_ n1_ n2_;clear hb hbox hg)
  | ((with_reducible refine gate_dst (N:=4) rfl ?_);refine box_event ?hg (N:=4) ?hd (cs:=#[.int .u8 0,.int .u8 0,.int .u8 0,.int .u8 0,.int .u8 0,.int .u8 0,.int .u8 0,.int .u8 0,.int .u8 0,.int .u8 0,.int .u8 0,.int .u8 0,.int .u8 0,.int .u8 0,.int .u8 0,.int .u8 0]) (t:=88) ?hr ?_;(case hd=>rfl);(case hg=>rfl);(case hr=>first|(go_simp;done)|(go_simp;rfl));intro g4 hg w4 hbox hb;have n0_:=zM (below_step zq0 hb);have n1_:=zM (blk_below (g:=g2) (o:=.cells (cB m) 88 (0,0)) zq2 hb);have n2_:=zM hbox;have n3_:=zM (by rw[hg];exact below_size zq0:w.heap.size≤g4);have n4_:=zM (by rw[hg];exact Nat.ne_of_lt (blk_lt (g:=g2) (o:=.cells (cB m) 88 (0,0)) zq2):g2≠g4);have n5_:=zM (by rw[hg];exact Nat.ne_of_gt (blk_lt (g:=g2) (o:=.cells (cB m) 88 (0,0)) zq2):g4≠g2);clear HB BK2;have HB:=n0_;have BK2:=n1_;have BK4:=n2_;have GE4:=n3_;have NE2_4:=n4_;have NE4_2:=n5_;clear n0_ n1_ n2_ n3_ n4_ n5_;clear hb hbox hg)
  | ((with_reducible refine gate_dst (N:=10) rfl ?_);refine wpList_load_row ?hg 88 (.tmp 2) ?ho g2 ?hx 88 (cB m) (0,0) _ ?hk Try.underlying88 rfl ?hi ?_;(case hg=>rfl);(case ho=>rfl);(case hx=>rfl);(case hk=>exact zq2);(case hi=>rw[cB_size,hm.out];kernel_rfl))
  | (go_at_call 85;refine(impl_block_element.calls m hm.out _).mono ?_;rintro e wk ⟨rfl,hb⟩;have n0_:=zM (below_step zq0 hb);have n1_:=zM (blk_below (g:=g2) (o:=.cells (cB m) 88 (0,0)) zq2 hb);have n2_:=zM (blk_below (g:=g4) (o:=.cells #[.int .u8 0,.int .u8 0,.int .u8 0,.int .u8 0,.int .u8 0,.int .u8 0,.int .u8 0,.int .u8 0,.int .u8 0,.int .u8 0,.int .u8 0,.int .u8 0,.int .u8 0,.int .u8 0,.int .u8 0,.int .u8 0] 88 (0,0)) zq5 hb);clear HB BK2 BK4;have HB:=n0_;have BK2:=n1_;have BK4:=n2_;clear n0_ n1_ n2_;clear hb)
  | ((with_reducible refine gate_dst (N:=5) rfl ?_);refine box_event ?hg (N:=5) ?hd (cs:=(cE 0 0)) (t:=111) ?hr ?_;(case hd=>rfl);(case hg=>rfl);(case hr=>first|(go_simp;done)|(go_simp;rfl));intro g5 hg w5 hbox hb;have n0_:=zM (below_step zq0 hb);have n1_:=zM (blk_below (g:=g2) (o:=.cells (cB m) 88 (0,0)) zq2 hb);have n2_:=zM (blk_below (g:=g4) (o:=.cells #[.int .u8 0,.int .u8 0,.int .u8 0,.int .u8 0,.int .u8 0,.int .u8 0,.int .u8 0,.int .u8 0,.int .u8 0,.int .u8 0,.int .u8 0,.int .u8 0,.int .u8 0,.int .u8 0,.int .u8 0,.int .u8 0] 88 (0,0)) zq5 hb);have n3_:=zM hbox;have n4_:=zM (by rw[hg];exact below_size zq0:w.heap.size≤g5);clear HB BK2 BK4;have HB:=n0_;have BK2:=n1_;have BK4:=n2_;have BK5:=n3_;have GE5:=n4_;clear n0_ n1_ n2_ n3_ n4_;clear hb hbox hg)
  | ((with_reducible refine gate_dst (N:=6) rfl ?_);refine box_event ?hg (N:=6) ?hd (cs:=(cE 0 0)) (t:=111) ?hr ?_;(case hd=>rfl);(case hg=>rfl);(case hr=>first|(go_simp;done)|(go_simp;rfl));intro g6 hg w6 hbox hb;have n0_:=zM (below_step zq0 hb);have n1_:=zM (blk_below (g:=g2) (o:=.cells (cB m) 88 (0,0)) zq2 hb);have n2_:=zM (blk_below (g:=g4) (o:=.cells #[.int .u8 0,.int .u8 0,.int .u8 0,.int .u8 0,.int .u8 0,.int .u8 0,.int .u8 0,.int .u8 0,.int .u8 0,.int .u8 0,.int .u8 0,.int .u8 0,.int .u8 0,.int .u8 0,.int .u8 0,.int .u8 0] 88 (0,0)) zq5 hb);have n3_:=zM (blk_below (g:=g5) (o:=.cells (cE 0 0) 111 (0,0)) zq14 hb);have n4_:=zM hbox;have n5_:=zM (by rw[hg];exact below_size zq0:w.heap.size≤g6);have n6_:=zM (by rw[hg];exact Nat.ne_of_lt (blk_lt (g:=g5) (o:=.cells (cE 0 0) 111 (0,0)) zq14):g5≠g6);have n7_:=zM (by rw[hg];exact Nat.ne_of_gt (blk_lt (g:=g5) (o:=.cells (cE 0 0) 111 (0,0)) zq14):g6≠g5);clear HB BK2 BK4 BK5;have HB:=n0_;have BK2:=n1_;have BK4:=n2_;have BK5:=n3_;have BK6:=n4_;have GE6:=n5_;have NE5_6:=n6_;have NE6_5:=n7_;clear n0_ n1_ n2_ n3_ n4_ n5_ n6_ n7_;clear hb hbox hg)
  | ((with_reducible refine gate_store (t:=111) (p:=5) rfl ?_);refine row_event ?hg (ty:=111) (p:=5) (y:=?yo_133) ?ho ?hn (g:=g5) (old:=(cE 0 0)) (e:=111) (cells:=(cE 0 0)) ?hx ?hy ?hk ?hi ?hd ?h1 ?_;(case ho=>rfl);(case hg=>rfl);(case hn=>rfl);(case hx=>rfl);(case hy=>rfl);(case hk=>exact zq14);(case hi=>kernel_rfl);(case hd=>rfl);(case h1=>exact cE_one _ _);intro wr_ hbk hgr;have n0_:=zM (below_grown1 zq0 hgr GE5.out);have n1_:=zM (blk_grown1 (g':=g2) (ob:=.cells (cB m) 88 (0,0)) zq2 hgr (blk_ne zq2 zq14 zq36));have n2_:=zM (blk_grown1 (g':=g4) (ob:=.cells #[.int .u8 0,.int .u8 0,.int .u8 0,.int .u8 0,.int .u8 0,.int .u8 0,.int .u8 0,.int .u8 0,.int .u8 0,.int .u8 0,.int .u8 0,.int .u8 0,.int .u8 0,.int .u8 0,.int .u8 0,.int .u8 0] 88 (0,0)) zq5 hgr (blk_ne zq5 zq14 zq36));have n3_:=zM (blk_grown1 (g':=g6) (ob:=.cells (cE 0 0) 111 (0,0)) zq12 hgr NE6_5.out);have n4_:=zM hbk;clear HB BK2 BK4 BK6 BK5;have HB:=n0_;have BK2:=n1_;have BK4:=n2_;have BK6:=n3_;have BK5:=n4_;clear n0_ n1_ n2_ n3_ n4_;clear hbk hgr)
  | ((with_reducible refine gate_store (t:=111) (p:=6) rfl ?_);refine row_event ?hg (ty:=111) (p:=6) (y:=?yo_134) ?ho ?hn (g:=g6) (old:=(cE 0 0)) (e:=111) (cells:=(cE (hiN m) (loN m))) ?hx ?hy ?hk ?hi ?hd ?h1 ?_;(case ho=>rfl);(case hg=>rfl);(case hn=>rfl);(case hx=>rfl);(case hy=>rfl);(case hk=>exact zq12);(case hi=>kernel_rfl);(case hd=>rfl);(case h1=>exact cE_one _ _);intro wr_ hbk hgr;have n0_:=zM (below_grown1 zq0 hgr GE6.out);have n1_:=zM (blk_grown1 (g':=g2) (ob:=.cells (cB m) 88 (0,0)) zq2 hgr (blk_ne zq2 zq12 zq36));have n2_:=zM (blk_grown1 (g':=g4) (ob:=.cells #[.int .u8 0,.int .u8 0,.int .u8 0,.int .u8 0,.int .u8 0,.int .u8 0,.int .u8 0,.int .u8 0,.int .u8 0,.int .u8 0,.int .u8 0,.int .u8 0,.int .u8 0,.int .u8 0,.int .u8 0,.int .u8 0] 88 (0,0)) zq5 hgr (blk_ne zq5 zq12 zq36));have n3_:=zM (blk_grown1 (g':=g5) (ob:=.cells (cE 0 0) 111 (0,0)) zq14 hgr NE5_6.out);have n4_:=zM hbk;clear HB BK2 BK4 BK5 BK6;have HB:=n0_;have BK2:=n1_;have BK4:=n2_;have BK5:=n3_;have BK6:=n4_;clear n0_ n1_ n2_ n3_ n4_;clear hbk hgr))
 simp only[Act.put,List.setIfInBounds_toArray,List.set_cons_zero,List.set_cons_succ]
 go_loopw [1] (fun v1 W=>∃ (n:Nat) (A1:Option Addr) (c1:Nat) (d1:List (BitVec 8)) (s:BitVec 128),Aside0 (d1.length=16*n)∧n≤100∧d1.length≤c1∧v1=.slice A1 d1.length c1∧Aside0 (Kd.C (Kd.int .u8) w A1 d1.length (bL d1))∧Aside0 (hv (vB m) n d1 s=T)∧Aside0 (W.heap[g2]?=some (.cells (cB m) 88 (0,0)))∧Aside0 (W.heap[g4]?=some (.cells #[.int .u8 0,.int .u8 0,.int .u8 0,.int .u8 0,.int .u8 0,.int .u8 0,.int .u8 0,.int .u8 0,.int .u8 0,.int .u8 0,.int .u8 0,.int .u8 0,.int .u8 0,.int .u8 0,.int .u8 0,.int .u8 0] 88 (0,0)))∧Aside0 (W.heap[g5]?=some (.cells (vE s) 111 (0,0)))∧Aside0 (W.heap[g6]?=some (.cells (cE (hiN m) (loN m)) 111 (0,0)))∧Aside0 (Below w.heap.size w W)) (fun v1 _=>match v1 with|.slice _ n _=>n|_=>0)
 case atStart=>exact⟨n0,A,c,d,0#128,hD,hn0,hc0,rfl,HR,hT,BK2,BK4,⟨by rw[vE_zero];exact BK5.out⟩,BK6,HB⟩
 case round=>
  clear BK2 BK4 BK5 BK6 HB hD hn0 hc0 HR hT
  obtain⟨n,A1,c1,d1,s,hD1,hn1,hc1,rfl,HR1,hT,BK2,BK4,BK5,BK6,HB⟩:=hrel
  cases n with
  | zero=>
   obtain rfl:d1=[]:=List.eq_nil_of_length_eq_zero (by have:=hD1.out;omega)
   have e:=zM (show s=T from hT.out)
   rw[vE_cE] at BK5
   clear hn1 hc1
   go_wp2_with (first
     | ((with_reducible refine gate_dst (N:=29) rfl ?_);refine wpList_load_row ?hg 111 (.tmp 5) ?ho g5 ?hx 111 (cE (hiW s).toNat (loW s).toNat) (0,0) _ ?hk Try.underlying111 rfl ?hi ?_;(case hg=>rfl);(case ho=>rfl);(case hx=>rfl);(case hk=>exact zq14);(case hi=>kernel_rfl))
     | (go_at_call 89;refine(impl_element_block.calls (hiW s).toNat (loW s).toNat (hiW s).isLt (loW s).isLt _).mono ?_;rintro e wk ⟨rfl,hb⟩;have n0_:=zM (below_step zq0 hb);have n1_:=zM (blk_below (g:=g2) (o:=.cells (cB m) 88 (0,0)) zq2 hb);have n2_:=zM (blk_below (g:=g4) (o:=.cells #[.int .u8 0,.int .u8 0,.int .u8 0,.int .u8 0,.int .u8 0,.int .u8 0,.int .u8 0,.int .u8 0,.int .u8 0,.int .u8 0,.int .u8 0,.int .u8 0,.int .u8 0,.int .u8 0,.int .u8 0,.int .u8 0] 88 (0,0)) zq5 hb);have n3_:=zM (blk_below (g:=g5) (o:=.cells (cE (hiW s).toNat (loW s).toNat) 111 (0,0)) zq14 hb);have n4_:=zM (blk_below (g:=g6) (o:=.cells (cE (hiN m) (loN m)) 111 (0,0)) zq12 hb);clear HB BK2 BK4 BK5 BK6;have HB:=n0_;have BK2:=n1_;have BK4:=n2_;have BK5:=n3_;have BK6:=n4_;clear n0_ n1_ n2_ n3_ n4_;clear hb)
     | ((with_reducible refine gate_store (t:=88) (p:=4) rfl ?_);refine row_event ?hg (ty:=88) (p:=4) (y:=?yo_137) ?ho ?hn (g:=g4) (old:=#[.int .u8 0,.int .u8 0,.int .u8 0,.int .u8 0,.int .u8 0,.int .u8 0,.int .u8 0,.int .u8 0,.int .u8 0,.int .u8 0,.int .u8 0,.int .u8 0,.int .u8 0,.int .u8 0,.int .u8 0,.int .u8 0]) (e:=88) (cells:=(cB (outL (hiW s).toNat (loW s).toNat 8))) ?hx ?hy ?hk ?hi ?hd ?h1 ?_;(case ho=>rfl);(case hg=>rfl);(case hn=>rfl);(case hx=>rfl);(case hy=>rfl);(case hk=>exact zq5);(case hi=>rw[cB_size,outL_length];kernel_rfl);(case hd=>rw[cB_size,outL_length];rfl);(case h1=>exact cB_one _);intro wr_ hbk hgr;have n0_:=zM (below_grown1 zq0 hgr GE4.out);have n1_:=zM (blk_grown1 (g':=g2) (ob:=.cells (cB m) 88 (0,0)) zq2 hgr NE2_4.out);have n2_:=zM (blk_grown1 (g':=g5) (ob:=.cells (cE (hiW s).toNat (loW s).toNat) 111 (0,0)) zq14 hgr (blk_ne zq14 zq5 zq36));have n3_:=zM (blk_grown1 (g':=g6) (ob:=.cells (cE (hiN m) (loN m)) 111 (0,0)) zq12 hgr (blk_ne zq12 zq5 zq36));have n4_:=zM hbk;clear HB BK2 BK5 BK6 BK4;have HB:=n0_;have BK2:=n1_;have BK5:=n2_;have BK6:=n3_;have BK4:=n4_;clear n0_ n1_ n2_ n3_ n4_;clear hbk hgr))
   refine bodyPost_ret (results_cell_row rfl _ _ g4 88 (cB (outL (hiW s).toNat (loW s).toNat 8)) (0,0) _ rfl zq5 Try.underlying88 rfl (by rw[cB_size,outL_length];kernel_rfl)) rfl ?_
   exact⟨by rw[← e.out];rfl,HB.out⟩
  | succ n=>
   have hgt:decide ((d1.length:Int) > 0)=true:=decide_eq_true (by have:=hD1.out;omega)
   have hgt2:decide (0 < d1.length)=true:=decide_eq_true (by have:=hD1.out;omega)
   have hgt3:0 < d1.length:=by have:=hD1.out;omega
   have hne:d1≠[]:=fun q=>by rw[q] at hgt3;simp at hgt3
   have ht16:(d1.take 16).length=16:=by rw[List.length_take];have:=hD1.out;omega
   obtain⟨i0,hi0,_,hsz0,_⟩:=info_parts info5
   obtain⟨hcut1,hA1,hC1⟩:=print_take_of (P:=Try.prog) (Value.int .u8) 0 25 5 .i64 Try.underlying25 hi0 hsz0 A1 c1 (bL d1) 16 zq8 (by rw[bL_length];have:=hD1.out;omega) (by rw[bL_length];exact hc1)
   obtain⟨A2,hcut2,hA2,hC2⟩:=print_drop_of (P:=Try.prog) (Value.int .u8) 0 25 5 .i64 Try.underlying25 hi0 hsz0 A1 c1 (bL d1) 16 zq8 (by rw[bL_length];have:=hD1.out;omega) (by rw[bL_length];exact hc1)
   have hL16:=zM ht16
   rw[show (16:Int).toNat=16 from rfl,bL_take,bL_length] at hC1
   simp only[show (16:Int).toNat=16 from rfl,bL_take,bL_drop,bL_length] at hcut1 hcut2 hA1 hA2 hC2
   rw[ht16] at hA1
   rw[ht16] at hcut1
   have q1:=hA1 w (Kd.reads_of_C HR1.out)
   have q2:=hA2 w (Kd.reads_of_C HR1.out)
   clear hA1 hA2 hi0 hsz0
   have HR2:=HR1
   clear HR1
   have HR1:=zM (Kd.C_of_reads (h1:=fun _=>rfl) q1)
   have hA2:=zM (Kd.C_of_reads (h1:=fun _=>rfl) q2)
   clear q1 q2 HR2
   have hP1:Aside0 (impl_element_plus.f (wH s) (wL s) (hiN (pad16 (d1.take 16))) (loN (pad16 (d1.take 16)))=some (wH (s ^^^ vB (pad16 (d1.take 16))),wL (s ^^^ vB (pad16 (d1.take 16))))):=⟨by rw[← wH_vB,← wL_vB];exact plus_at _ _⟩
   have hP2:Aside0 (impl_element_times.f 200 (wH (s ^^^ vB (pad16 (d1.take 16)))) (wL (s ^^^ vB (pad16 (d1.take 16)))) (hiN m) (loN m)=some (wH (gM (s ^^^ vB (pad16 (d1.take 16))) (vB m)),wL (gM (s ^^^ vB (pad16 (d1.take 16))) (vB m)))):=⟨by rw[← wH_vB,← wL_vB];exact times_at 200 zq8 _ _⟩
   have hHV:Aside0 (hv (vB m) n (d1.drop 16) (gM (s ^^^ vB (pad16 (d1.take 16))) (vB m))=T):=⟨by rw[pad16_self _ ht16];exact hT.out⟩
   have hQ2:=zM hC2
   clear hC1 hC2 hT ht16 hc1
   go_wp2_with (first
     | (go_at_call 86;(with_reducible refine(asBlock16 A1 c1 (d1.take 16) _ hL16.out ?hC_138).mono ?_);(case hC_138=>(first|exact Kd.C_below HR1.out zq0|exact(Kd.C_below HR1.out HB.out)));rintro e wk ⟨rfl,hb⟩;have n0_:=zM (below_step zq0 hb);have n1_:=zM (blk_below (g:=g2) (o:=.cells (cB m) 88 (0,0)) zq2 hb);have n2_:=zM (blk_below (g:=g4) (o:=.cells #[.int .u8 0,.int .u8 0,.int .u8 0,.int .u8 0,.int .u8 0,.int .u8 0,.int .u8 0,.int .u8 0,.int .u8 0,.int .u8 0,.int .u8 0,.int .u8 0,.int .u8 0,.int .u8 0,.int .u8 0,.int .u8 0] 88 (0,0)) zq5 hb);have n3_:=zM (blk_below (g:=g5) (o:=.cells (vE s) 111 (0,0)) zq14 hb);have n4_:=zM (blk_below (g:=g6) (o:=.cells (cE (hiN m) (loN m)) 111 (0,0)) zq12 hb);clear HB BK2 BK4 BK5 BK6;have HB:=n0_;have BK2:=n1_;have BK4:=n2_;have BK5:=n3_;have BK6:=n4_;clear n0_ n1_ n2_ n3_ n4_;clear hb)
     | ((with_reducible refine gate_dst (N:=7) rfl ?_);refine box_event ?hg (N:=7) ?hd (cs:=#[.int .u8 0,.int .u8 0,.int .u8 0,.int .u8 0,.int .u8 0,.int .u8 0,.int .u8 0,.int .u8 0,.int .u8 0,.int .u8 0,.int .u8 0,.int .u8 0,.int .u8 0,.int .u8 0,.int .u8 0,.int .u8 0]) (t:=88) ?hr ?_;(case hd=>rfl);(case hg=>rfl);(case hr=>first|(go_simp;done)|(go_simp;rfl));intro g7 hg w7 hbox hb;have n0_:=zM (below_step zq0 hb);have n1_:=zM (blk_below (g:=g2) (o:=.cells (cB m) 88 (0,0)) zq2 hb);have n2_:=zM (blk_below (g:=g4) (o:=.cells #[.int .u8 0,.int .u8 0,.int .u8 0,.int .u8 0,.int .u8 0,.int .u8 0,.int .u8 0,.int .u8 0,.int .u8 0,.int .u8 0,.int .u8 0,.int .u8 0,.int .u8 0,.int .u8 0,.int .u8 0,.int .u8 0] 88 (0,0)) zq5 hb);have n3_:=zM (blk_below (g:=g5) (o:=.cells (vE s) 111 (0,0)) zq14 hb);have n4_:=zM (blk_below (g:=g6) (o:=.cells (cE (hiN m) (loN m)) 111 (0,0)) zq12 hb);have n5_:=zM hbox;have n6_:=zM (by rw[hg];exact below_size zq0:w.heap.size≤g7);have n7_:=zM (by rw[hg];exact Nat.ne_of_lt (blk_lt (g:=g2) (o:=.cells (cB m) 88 (0,0)) zq2):g2≠g7);have n8_:=zM (by rw[hg];exact Nat.ne_of_gt (blk_lt (g:=g2) (o:=.cells (cB m) 88 (0,0)) zq2):g7≠g2);have n9_:=zM (by rw[hg];exact Nat.ne_of_lt (blk_lt (g:=g4) (o:=.cells #[.int .u8 0,.int .u8 0,.int .u8 0,.int .u8 0,.int .u8 0,.int .u8 0,.int .u8 0,.int .u8 0,.int .u8 0,.int .u8 0,.int .u8 0,.int .u8 0,.int .u8 0,.int .u8 0,.int .u8 0,.int .u8 0] 88 (0,0)) zq5):g4≠g7);have n10_:=zM (by rw[hg];exact Nat.ne_of_gt (blk_lt (g:=g4) (o:=.cells #[.int .u8 0,.int .u8 0,.int .u8 0,.int .u8 0,.int .u8 0,.int .u8 0,.int .u8 0,.int .u8 0,.int .u8 0,.int .u8 0,.int .u8 0,.int .u8 0,.int .u8 0,.int .u8 0,.int .u8 0,.int .u8 0] 88 (0,0)) zq5):g7≠g4);clear HB BK2 BK4 BK5 BK6;have HB:=n0_;have BK2:=n1_;have BK4:=n2_;have BK5:=n3_;have BK6:=n4_;have BK7:=n5_;have GE7:=n6_;have NE2_7:=n7_;have NE7_2:=n8_;have NE4_7:=n9_;have NE7_4:=n10_;clear n0_ n1_ n2_ n3_ n4_ n5_ n6_ n7_ n8_ n9_ n10_;clear hb hbox hg)
     | ((with_reducible refine gate_store (t:=88) (p:=7) rfl ?_);refine row_event ?hg (ty:=88) (p:=7) (y:=?yo_140) ?ho ?hn (g:=g7) (old:=#[.int .u8 0,.int .u8 0,.int .u8 0,.int .u8 0,.int .u8 0,.int .u8 0,.int .u8 0,.int .u8 0,.int .u8 0,.int .u8 0,.int .u8 0,.int .u8 0,.int .u8 0,.int .u8 0,.int .u8 0,.int .u8 0]) (e:=88) (cells:=(cB (pad16 (d1.take 16)))) ?hx ?hy ?hk ?hi ?hd ?h1 ?_;(case ho=>rfl);(case hg=>rfl);(case hn=>rfl);(case hx=>rfl);(case hy=>rfl);(case hk=>(with_reducible repeat (first|refine blk_drewN ?_ _|refine blk_drew ?_|refine blk_alloc ?_ _));exact BK7.out);(case hi=>rw[cB_size,pad16_length];kernel_rfl);(case hd=>rw[cB_size,pad16_length];rfl);(case h1=>exact cB_one _);intro wr_ hbk hgr;have n0_:=zM (below_grown1 zq0 hgr GE7.out);have n1_:=zM (blk_grown1 (g':=g2) (ob:=.cells (cB m) 88 (0,0)) zq2 hgr NE2_7.out);have n2_:=zM (blk_grown1 (g':=g4) (ob:=.cells #[.int .u8 0,.int .u8 0,.int .u8 0,.int .u8 0,.int .u8 0,.int .u8 0,.int .u8 0,.int .u8 0,.int .u8 0,.int .u8 0,.int .u8 0,.int .u8 0,.int .u8 0,.int .u8 0,.int .u8 0,.int .u8 0] 88 (0,0)) zq5 hgr NE4_7.out);have n3_:=zM (blk_grown1 (g':=g5) (ob:=.cells (vE s) 111 (0,0)) zq14 hgr (blk_ne zq14 zq47 zq36));have n4_:=zM (blk_grown1 (g':=g6) (ob:=.cells (cE (hiN m) (loN m)) 111 (0,0)) zq12 hgr (blk_ne zq12 zq47 zq36));have n5_:=zM hbk;clear HB BK2 BK4 BK5 BK6 BK7;have HB:=n0_;have BK2:=n1_;have BK4:=n2_;have BK5:=n3_;have BK6:=n4_;have BK7:=n5_;clear n0_ n1_ n2_ n3_ n4_ n5_;clear hbk hgr))
   refine' leaf_cut0 (A:=fun wz=>∃ wX,Below wr_.heap.size wr_ wX∧wX.grownBy wz (some g5)∧wz.heap[g5]?=some (.cells (vE (gM (s ^^^ vB (pad16 (d1.take 16))) (vB m))) 111 (0,0))) _ (fun leaf=>?main) ?leaf
   case main=>
    have hB:=zM (below_drew1 (Below.refl wr_.heap.size wr_))
    refine wp_region_held_drew (S:=(fun w'=>w'.rangeAt g6 0 (cE (hiN m) (loN m)).toList∧w'.rangeAt g7 0 (cB (pad16 (d1.take 16))).toList∧True)) (by kernel_rfl) ⟨rangeW BK6.out hB.out,rangeW BK7.out hB.out,trivial⟩ (fun hHeld=>?_)
    generalize wr_.drew=wd at hB hHeld ⊢
    refine wpAnyH_take (i:=1) rfl (by kernel_rfl) (by kernel_rfl) (by kernel_rfl) (fun _ _ _ h=>h) (yieldsIf_load_mid zq125 88 _ rfl g7 0 rfl (cB (pad16 (d1.take 16))).toList _ (fun w h=>h.2.1) Try.underlying88 rfl (by rw[Array.length_toList,cB_size,pad16_length];kernel_rfl)) hHeld ?_
    try simp only[Act.put,List.setIfInBounds_toArray,List.set_cons_zero,List.set_cons_succ]
    refine wpAnyH_take (i:=4) rfl (by kernel_rfl) (by kernel_rfl) (by kernel_rfl) (fun _ _ _ h=>h) (yieldsIf_load_mid zq125 111 _ rfl g6 0 rfl (cE (hiN m) (loN m)).toList _ (fun w h=>h.1) Try.underlying111 rfl (by kernel_rfl)) hHeld ?_
    try simp only[Act.put,List.setIfInBounds_toArray,List.set_cons_zero,List.set_cons_succ]
    refine wpAnyH_ready (rs:=[0,2]) (by kernel_rfl) zq73 ?_
    refine AllReadyH.cons rfl (fun K hK=>?_) ?_
    ·rw[if_pos zq125]
     refine wp_load_row 111 _ rfl g5 rfl 111 (vE s) (0,0) _ (blk_below (g:=g5) (o:=.cells (vE s) 111 (0,0)) zq14 hB.out) Try.underlying111 rfl (by kernel_rfl) ?_
     refine hK.out _ _ ⟨rangeW BK6.out hB.out,rangeW BK7.out hB.out,trivial⟩ (fun hHeld=>?_)
     clear hK K
     try simp only[Act.put,List.setIfInBounds_toArray,List.set_cons_zero,List.set_cons_succ]
     refine wpAnyH_ready (rs:=[2]) (by kernel_rfl) zq73 ?_
     refine AllReadyH.cons rfl (fun K hK=>?_) ?_
     ·go_simp
      go_at_call 85
      refine(impl_block_element.calls (pad16 (d1.take 16)) (pad16_length _) _).mono ?_
      rintro e wk2 ⟨rfl,hbl⟩
      try go_wp2_with fail
      have n0_:=zM (below_step hB.out hbl);have hB:=n0_;clear n0_;
      skip
      refine hK.out _ _ ⟨rangeW BK6.out hB.out,rangeW BK7.out hB.out,trivial⟩ (fun hHeld=>?_)
      clear hK K
      try simp only[Act.put,List.setIfInBounds_toArray,List.set_cons_zero,List.set_cons_succ]
      refine wpAnyH_ready (rs:=[3]) (by kernel_rfl) zq73 ?_
      refine AllReadyH.cons rfl (fun K hK=>?_) ?_
      ·go_simp
       go_at_call 87
       refine(impl_element_plus.calls (wH s) (wL s) (hiN (pad16 (d1.take 16))) (loN (pad16 (d1.take 16))) _ _ _ hP1.out).mono ?_
       rintro e wk3 ⟨rfl,hbl⟩
       try go_wp2_with fail
       have n0_:=zM (below_step hB.out hbl);have hB:=n0_;clear n0_;
       skip
       refine hK.out _ _ ⟨rangeW BK6.out hB.out,rangeW BK7.out hB.out,trivial⟩ (fun hHeld=>?_)
       clear hK K
       try simp only[Act.put,List.setIfInBounds_toArray,List.set_cons_zero,List.set_cons_succ]
       refine wpAnyH_ready (rs:=[5]) (by kernel_rfl) zq73 ?_
       refine AllReadyH.cons rfl (fun K hK=>?_) ?_
       ·go_simp
        go_at_call 88
        refine(impl_element_times.calls 200 _ _ (hiN m) (loN m) _ _ _ hP2.out).mono ?_
        rintro e wk4 ⟨rfl,hbl⟩
        try go_wp2_with fail
        have n0_:=zM (below_step hB.out hbl);have hB:=n0_;clear n0_;
        skip
        refine hK.out _ _ ⟨rangeW BK6.out hB.out,rangeW BK7.out hB.out,trivial⟩ (fun hHeld=>?_)
        clear hK K
        try simp only[Act.put,List.setIfInBounds_toArray,List.set_cons_zero,List.set_cons_succ]
        refine wpAnyH_ready (rs:=[6]) (by kernel_rfl) zq73 ?_
        refine AllReadyH.cons rfl (fun K hK=>?_) ?_
        ·rw[if_pos zq125]
         have hI:=zM (blk_below (g:=g5) (o:=.cells (vE s) 111 (0,0)) zq14 hB.out)
         refine wp_store_row 111 _ (.tmp 28) rfl g5 (vE (gM (s ^^^ vB (pad16 (d1.take 16))) (vB m))) rfl rfl 111 (vE s) hI.out (by kernel_rfl) zq125 (by exact vE_one _) ?_
         have hY:=zM (grown_setRow wk4 g5 (vE (gM (s ^^^ vB (pad16 (d1.take 16))) (vB m))))
         have hZ:=zM (setRow_heap wk4 g5 _ (vE (gM (s ^^^ vB (pad16 (d1.take 16))) (vB m))) 111 (0,0) hI.out)
         have hX:=hB
         clear hHeld
         generalize wk4.setRow g5 (vE (gM (s ^^^ vB (pad16 (d1.take 16))) (vB m)))=wk5 at hY hZ ⊢
         refine hK.out _ _ ⟨rangeB (blk_grown1 (g':=g6) (ob:=.cells (cE (hiN m) (loN m)) 111 (0,0)) (blk_below (g:=g6) (o:=.cells (cE (hiN m) (loN m)) 111 (0,0)) zq12 hB.out) hY.out NE6_5.out),rangeB (blk_grown1 (g':=g7) (ob:=.cells (cB (pad16 (d1.take 16))) 88 (0,0)) (blk_below (g:=g7) (o:=.cells (cB (pad16 (d1.take 16))) 88 (0,0)) zq47 hB.out) hY.out (blk_ne zq47 zq14 zq36)),trivial⟩ (fun hHeld=>?_)
         clear hK K
         try simp only[Act.put,List.setIfInBounds_toArray,List.set_cons_zero,List.set_cons_succ]
         refine wpAnyH_done (by kernel_rfl) ?_ _
         exact leaf wk5 ⟨_,hX.out,hY.out,hZ.out⟩
        exact AllReadyH.nil
       exact AllReadyH.nil
      exact AllReadyH.nil
     exact AllReadyH.nil
    refine AllReadyH.cons rfl (fun K hK=>?_) ?_
    ·go_simp
     go_at_call 85
     refine(impl_block_element.calls (pad16 (d1.take 16)) (pad16_length _) _).mono ?_
     rintro e wk6 ⟨rfl,hbl⟩
     try go_wp2_with fail
     have n0_:=zM (below_step hB.out hbl);have hB:=n0_;clear n0_;
     skip
     refine hK.out _ _ ⟨rangeW BK6.out hB.out,rangeW BK7.out hB.out,trivial⟩ (fun hHeld=>?_)
     clear hK K
     try simp only[Act.put,List.setIfInBounds_toArray,List.set_cons_zero,List.set_cons_succ]
     refine wpAnyH_ready (rs:=[0]) (by kernel_rfl) zq73 ?_
     refine AllReadyH.cons rfl (fun K hK=>?_) ?_
     ·rw[if_pos zq125]
      refine wp_load_row 111 _ rfl g5 rfl 111 (vE s) (0,0) _ (blk_below (g:=g5) (o:=.cells (vE s) 111 (0,0)) zq14 hB.out) Try.underlying111 rfl (by kernel_rfl) ?_
      refine hK.out _ _ ⟨rangeW BK6.out hB.out,rangeW BK7.out hB.out,trivial⟩ (fun hHeld=>?_)
      clear hK K
      try simp only[Act.put,List.setIfInBounds_toArray,List.set_cons_zero,List.set_cons_succ]
      refine wpAnyH_ready (rs:=[3]) (by kernel_rfl) zq73 ?_
      refine AllReadyH.cons rfl (fun K hK=>?_) ?_
      ·go_simp
       go_at_call 87
       refine(impl_element_plus.calls (wH s) (wL s) (hiN (pad16 (d1.take 16))) (loN (pad16 (d1.take 16))) _ _ _ hP1.out).mono ?_
       rintro e wk8 ⟨rfl,hbl⟩
       try go_wp2_with fail
       have n0_:=zM (below_step hB.out hbl);have hB:=n0_;clear n0_;
       skip
       refine hK.out _ _ ⟨rangeW BK6.out hB.out,rangeW BK7.out hB.out,trivial⟩ (fun hHeld=>?_)
       clear hK K
       try simp only[Act.put,List.setIfInBounds_toArray,List.set_cons_zero,List.set_cons_succ]
       refine wpAnyH_ready (rs:=[5]) (by kernel_rfl) zq73 ?_
       refine AllReadyH.cons rfl (fun K hK=>?_) ?_
       ·go_simp
        go_at_call 88
        refine(impl_element_times.calls 200 _ _ (hiN m) (loN m) _ _ _ hP2.out).mono ?_
        rintro e wk9 ⟨rfl,hbl⟩
        try go_wp2_with fail
        have n0_:=zM (below_step hB.out hbl);have hB:=n0_;clear n0_;
        skip
        refine hK.out _ _ ⟨rangeW BK6.out hB.out,rangeW BK7.out hB.out,trivial⟩ (fun hHeld=>?_)
        clear hK K
        try simp only[Act.put,List.setIfInBounds_toArray,List.set_cons_zero,List.set_cons_succ]
        refine wpAnyH_ready (rs:=[6]) (by kernel_rfl) zq73 ?_
        refine AllReadyH.cons rfl (fun K hK=>?_) ?_
        ·rw[if_pos zq125]
         have hI:=zM (blk_below (g:=g5) (o:=.cells (vE s) 111 (0,0)) zq14 hB.out)
         refine wp_store_row 111 _ (.tmp 28) rfl g5 (vE (gM (s ^^^ vB (pad16 (d1.take 16))) (vB m))) rfl rfl 111 (vE s) hI.out (by kernel_rfl) zq125 (by exact vE_one _) ?_
         have hY:=zM (grown_setRow wk9 g5 (vE (gM (s ^^^ vB (pad16 (d1.take 16))) (vB m))))
         have hZ:=zM (setRow_heap wk9 g5 _ (vE (gM (s ^^^ vB (pad16 (d1.take 16))) (vB m))) 111 (0,0) hI.out)
         have hX:=hB
         clear hHeld
         generalize wk9.setRow g5 (vE (gM (s ^^^ vB (pad16 (d1.take 16))) (vB m)))=wk10 at hY hZ ⊢
         refine hK.out _ _ ⟨rangeB (blk_grown1 (g':=g6) (ob:=.cells (cE (hiN m) (loN m)) 111 (0,0)) (blk_below (g:=g6) (o:=.cells (cE (hiN m) (loN m)) 111 (0,0)) zq12 hB.out) hY.out NE6_5.out),rangeB (blk_grown1 (g':=g7) (ob:=.cells (cB (pad16 (d1.take 16))) 88 (0,0)) (blk_below (g:=g7) (o:=.cells (cB (pad16 (d1.take 16))) 88 (0,0)) zq47 hB.out) hY.out (blk_ne zq47 zq14 zq36)),trivial⟩ (fun hHeld=>?_)
         clear hK K
         try simp only[Act.put,List.setIfInBounds_toArray,List.set_cons_zero,List.set_cons_succ]
         refine wpAnyH_done (by kernel_rfl) ?_ _
         exact leaf wk10 ⟨_,hX.out,hY.out,hZ.out⟩
        exact AllReadyH.nil
       exact AllReadyH.nil
      exact AllReadyH.nil
     exact AllReadyH.nil
    exact AllReadyH.nil
   rintro wz ⟨wX,hb,hgr,hbk⟩
   have n0_:=zM (below_step zq0 hb);have n1_:=zM (blk_below (g:=g2) (o:=.cells (cB m) 88 (0,0)) zq2 hb);have n2_:=zM (blk_below (g:=g4) (o:=.cells #[.int .u8 0,.int .u8 0,.int .u8 0,.int .u8 0,.int .u8 0,.int .u8 0,.int .u8 0,.int .u8 0,.int .u8 0,.int .u8 0,.int .u8 0,.int .u8 0,.int .u8 0,.int .u8 0,.int .u8 0,.int .u8 0] 88 (0,0)) zq5 hb);have n3_:=zM (blk_below (g:=g5) (o:=.cells (vE s) 111 (0,0)) zq14 hb);have n4_:=zM (blk_below (g:=g6) (o:=.cells (cE (hiN m) (loN m)) 111 (0,0)) zq12 hb);have n5_:=zM (blk_below (g:=g7) (o:=.cells (cB (pad16 (d1.take 16))) 88 (0,0)) zq47 hb);clear HB BK2 BK4 BK5 BK6 BK7;have HB:=n0_;have BK2:=n1_;have BK4:=n2_;have BK5:=n3_;have BK6:=n4_;have BK7:=n5_;clear n0_ n1_ n2_ n3_ n4_ n5_;
   clear hb
   have n0_:=zM (below_grown1 zq0 hgr GE5.out);have n1_:=zM (blk_grown1 (g':=g2) (ob:=.cells (cB m) 88 (0,0)) zq2 hgr (blk_ne zq2 zq14 zq36));have n2_:=zM (blk_grown1 (g':=g4) (ob:=.cells #[.int .u8 0,.int .u8 0,.int .u8 0,.int .u8 0,.int .u8 0,.int .u8 0,.int .u8 0,.int .u8 0,.int .u8 0,.int .u8 0,.int .u8 0,.int .u8 0,.int .u8 0,.int .u8 0,.int .u8 0,.int .u8 0] 88 (0,0)) zq5 hgr (blk_ne zq5 zq14 zq36));have n3_:=zM (blk_grown1 (g':=g6) (ob:=.cells (cE (hiN m) (loN m)) 111 (0,0)) zq12 hgr NE6_5.out);have n4_:=zM (blk_grown1 (g':=g7) (ob:=.cells (cB (pad16 (d1.take 16))) 88 (0,0)) zq47 hgr (blk_ne zq47 zq14 zq36));have n5_:=zM hbk;clear HB BK2 BK4 BK6 BK7 BK5;have HB:=n0_;have BK2:=n1_;have BK4:=n2_;have BK6:=n3_;have BK7:=n4_;have BK5:=n5_;clear n0_ n1_ n2_ n3_ n4_ n5_;
   clear hgr hbk
   go_wp2
   go_roundw
   case rel=>exact⟨n,A2,c1 - 16,d1.drop 16,(gM (s ^^^ vB (pad16 (d1.take 16))) (vB m)),⟨by rw[List.length_drop];have:=hD1.out;omega⟩,zq8,hQ2.out,(by rw[List.length_drop]),hA2,hHV,BK2,BK4,BK5,BK6,HB⟩
   case measure=>simp only[List.length_drop];have:=hD1.out;omega
end Go.Proofs.Ytdbanjdnjhflcaa.All
