-- Laid by wip/shake.py of this repo out of this claim's texts. Not trusted: Lean checks it.
import Derived.Test.YtdbanjdnjhflcaaAb0s
import Derived.Test.YtdbanjdnjhflcaaAlgs
import Derived.Test.YtdbanjdnjhflcaaAllx52s
import Derived.Test.YtdbanjdnjhflcaaAllx529s
import Derived.Test.YtdbanjdnjhflcaaAllx513s
import Derived.Test.YtdbanjdnjhflcaaAllx130s
set_option linter.unusedSimpArgs false
set_option linter.unusedVariables false
namespace Go.Proofs.Ytdbanjdnjhflcaa.All
open Go.Proofs.YtdbanjdnjhflcaaW.PrintWords.Aside0 renaming mk→zM
open Go.RowKit Go.Proofs.YtdbanjdnjhflcaaW.PrintWords Go.Proofs.YtdbanjdnjhflcaaW.PrintLast Go.Proofs.YtdbanjdnjhflcaaW.PrintMore
attribute [local go_sem] max2_int min2_int max_two min_two max_three min_three max_four min_four
def upN (m:List (BitVec 8)):Nat→List (BitVec 8)
 | 0=>m
 | q+1=>upL (upN m q)
theorem upN_length (m:List (BitVec 8)):∀ q,m.length=16→(upN m q).length=16
 | 0,h=>h
 | q+1,h=>by rw[upN,upL_length',upN_length m q h]
def padL (ks m:List (BitVec 8)) (j:Nat):BitVec 8:=by_ (encL ks (upN m (j / 16))) (j % 16)
def streamL (ks m d:List (BitVec 8)):List (BitVec 8):=tab d.length fun j=>by_ d j ^^^ padL ks m j
theorem streamL_length (ks m d:List (BitVec 8)):(streamL ks m d).length=d.length:=tab_length _ _
theorem pad_at (ks m:List (BitVec 8)) (q i k:Nat) (hi:i=16*q) (h1:i≤k) (h2:k < i+16):by_ (encL ks (upN m q)) (k - i)=padL ks m k:=by
 subst hi
 unfold padL
 rw[show k / 16=q by omega,show k % 16=k - 16*q by omega]
theorem fill_upto (n:Nat) (f g:Nat→BitVec 8) (k k2:Nat) (hk:n≤k) (hk2:n≤k2):fillL n f g k=fillL n f g k2:=tab_congr fun j hj=>by rw[if_pos zq8,if_pos zq8]
set_option maxHeartbeats 4000000 in
set_option maxRecDepth 100000 in
theorem impl_cipher_stream.calls (gK:Nat) (ks m d:List (BitVec 8)) (n:Nat) (hk0:ks.length=176) (hm0:m.length=16) (hd0:d.length=n) (hn0:n≤700) (A:Option Addr) (c:Nat) (w:World) (hb0:w.heap[gK]?=some (.cells (cB ks) 100 (0,0)))
  (hr0:Kd.C (Kd.int .u8) w A (bL d).length (bL d)) (hc0:(bL d).length≤c) :
  Calls Try.prog 53 #[.pointer (some ⟨gK,0,none⟩),.agg (cB m),.slice A (bL d).length c] w fun e w'=>∃ v0_:Value,e=.returned v0_∧Kd.R (Kd.int .u8) 5 w' w.heap.size (fun _=>True) v0_ (bL (streamL ks m d))∧Below w.heap.size w w':=by
 have hk:=zM hk0
 have hm:=zM hm0
 have hd:=zM hd0
 have hb:=zM hb0
 have HR:=zM hr0
 have hLC:=zM hc0
 have hcl:Aside0 (bytes_Clone.f (bL d)=some (bL d)):=⟨by unfold bytes_Clone.f;rw[if_pos zq121]⟩
 clear hk0 hm0 hd0 hb0 hr0 hc0
 have HB:=zM (Below.refl w.heap.size w)
 go_enter Try.func53,Try.ntmps53
 go_wp2_with (first
  | ((with_reducible refine gate_dst (N:=4) rfl ?_);refine box_event ?hg (N:=4) ?hd (cs:=(cB m)) (t:=88) ?hr ?_;(case hd=>rfl);(case hg=>rfl);(case hr=>first|(go_simp;done)|(go_simp;rfl));intro g4 hg w4 hbox hb;have n0_:=zM (below_step zq0 hb);have n1_:=zM hbox;have n2_:=zM (by rw[hg];exact below_size zq0:w.heap.size≤g4);clear HB;have HB:=n0_;have BK4:=n1_;have GE4:=n2_;clear n0_ n1_ n2_;clear hb hbox hg)
  | (go_at_call 68;(with_reducible refine(bytes_Clone.calls A c (bL d) (bL d) _ ?hC_295 ?hL ?hF).mono ?_);(case hC_295=>first|exact Kd.C_below HR.out zq0|exact(Kd.C_below HR.out HB.out));(case hL=>exact hLC.out);(case hF=>exact hcl.out);rintro e wk ⟨v7,rfl,ho7,hb⟩;have n0_:=zM (Kd.R_lower ho7 (below_size zq0));have n1_:=zM (below_step zq0 hb);have n2_:=zM (blk_below (g:=g4) (o:=.cells (cB m) 88 (0,0)) zq5 hb);clear HB BK4;have HO7_:=n0_;have HB:=n1_;have BK4:=n2_;clear n0_ n1_ n2_;have HO7:=HO7_;clear HO7_ ho7 hb))
 obtain⟨Ao,co,ev⟩:=row_out HO7.out
 subst ev
 rw[hd.out] at HO7 ⊢
 go_loopw [8] (fun v8 W=>∃ q i:Nat,Aside0 (i=16*q)∧i≤800∧v8=.int .i64 i∧Aside0 (W.heap[g4]?=some (.cells (cB (upN m q)) 88 (0,0)))∧Aside0 (Kd.R (Kd.int .u8) 5 W w.heap.size (fun _=>True) (.slice Ao n co) (bL (fillL n (fun j=>by_ d j ^^^ padL ks m j) (by_ d) i)))∧Aside0 (Below w.heap.size w W)) (fun v8 _=>1000 - (intOf v8).toNat)
 case atStart=>exact⟨0,0,⟨rfl⟩,zq8,rfl,BK4,⟨by rw[fillL_zero,← hd.out,tab_self];rw[hd.out];exact HO7.out⟩,HB⟩
 case round=>
  clear BK4 HO7 HB
  obtain⟨q,i,hiq,hi,rfl,BK4,HO7,HB⟩:=hrel
  by_cases hl:i < n
  ·obtain⟨go,eA,hgo⟩:=row_open HO7.out (by rw[fillL_length];omega)
   subst eA
   have GE7:=zM hgo
   clear hgo
   have hlt:decide (i < n)=true:=decide_eq_true hl
   go_wp2_with (first
     | ((with_reducible refine gate_dst (N:=20) rfl ?_);refine wpList_load_row ?hg 88 (.tmp 4) ?ho g4 ?hx 88 (cB (upN m q)) (0,0) _ ?hk Try.underlying88 rfl ?hi ?_;(case hg=>rfl);(case ho=>rfl);(case hx=>rfl);(case hk=>exact zq5);(case hi=>rw[cB_size,upN_length _ _ hm.out];kernel_rfl))
     | (go_at_call 70;(refine(impl_cipher_encrypt.calls gK ks (upN m q) hk.out (upN_length _ _ hm.out) _ ((Below.block (B:=w.heap.size) (w:=w) zq0 gK (blk_lt hb.out)).trans hb.out)).mono ?_);rintro e wk ⟨rfl,hb9⟩;have n0_:=zM (below_step zq0 hb9);have n1_:=zM (blk_below (g:=g4) (o:=.cells (cB (upN m q)) 88 (0,0)) zq5 hb9);have n2_:=zM (Kd.R_below zq48 hb9);clear HB BK4 HO7;have HB:=n0_;have BK4:=n1_;have HO7:=n2_;clear n0_ n1_ n2_;clear hb9)
     | ((with_reducible refine gate_dst (N:=9) rfl ?_);refine box_event ?hg (N:=9) ?hd (cs:=#[.int .u8 0,.int .u8 0,.int .u8 0,.int .u8 0,.int .u8 0,.int .u8 0,.int .u8 0,.int .u8 0,.int .u8 0,.int .u8 0,.int .u8 0,.int .u8 0,.int .u8 0,.int .u8 0,.int .u8 0,.int .u8 0]) (t:=88) ?hr ?_;(case hd=>rfl);(case hg=>rfl);(case hr=>first|(go_simp;done)|(go_simp;rfl));intro g9 hg w9 hbox hb;have n0_:=zM (below_step zq0 hb);have n1_:=zM (blk_below (g:=g4) (o:=.cells (cB (upN m q)) 88 (0,0)) zq5 hb);have n2_:=zM (Kd.R_below zq48 hb);have n3_:=zM hbox;have n4_:=zM (by rw[hg];exact below_size zq0:w.heap.size≤g9);have n5_:=zM (by rw[hg];exact Nat.ne_of_lt (blk_lt (g:=g4) (o:=.cells (cB (upN m q)) 88 (0,0)) zq5):g4≠g9);have n6_:=zM (by rw[hg];exact Nat.ne_of_gt (blk_lt (g:=g4) (o:=.cells (cB (upN m q)) 88 (0,0)) zq5):g9≠g4);clear HB BK4 HO7;have HB:=n0_;have BK4:=n1_;have HO7:=n2_;have BK9:=n3_;have GE9:=n4_;have NE4_9:=n5_;have NE9_4:=n6_;clear n0_ n1_ n2_ n3_ n4_ n5_ n6_;clear hb hbox hg)
     | ((with_reducible refine gate_store (t:=88) (p:=9) rfl ?_);refine row_event ?hg (ty:=88) (p:=9) (y:=?yo_299) ?ho ?hn (g:=g9) (old:=#[.int .u8 0,.int .u8 0,.int .u8 0,.int .u8 0,.int .u8 0,.int .u8 0,.int .u8 0,.int .u8 0,.int .u8 0,.int .u8 0,.int .u8 0,.int .u8 0,.int .u8 0,.int .u8 0,.int .u8 0,.int .u8 0]) (e:=88) (cells:=(cB (encL ks (upN m q)))) ?hx ?hy ?hk ?hi ?hd ?h1 ?_;(case ho=>rfl);(case hg=>rfl);(case hn=>rfl);(case hx=>rfl);(case hy=>rfl);(case hk=>(with_reducible repeat (first|refine blk_drewN ?_ _|refine blk_drew ?_|refine blk_alloc ?_ _));exact BK9.out);(case hi=>rw[cB_size,encL_length];kernel_rfl);(case hd=>rw[cB_size,encL_length];rfl);(case h1=>exact cB_one _);intro wr_ hbk hgr;have n0_:=zM (below_grown1 zq0 hgr GE9.out);have n1_:=zM (blk_grown1 (g':=g4) (ob:=.cells (cB (upN m q)) 88 (0,0)) zq5 hgr NE4_9.out);have n2_:=zM (R_grown_types zq48 zq72 zq36 hgr);have n3_:=zM hbk;clear HB BK4 HO7 BK9;have HB:=n0_;have BK4:=n1_;have HO7:=n2_;have BK9:=n3_;clear n0_ n1_ n2_ n3_;clear hbk hgr))
   go_wp2
   go_loopw [10] (fun v10 W=>∃ k:Nat,Aside0 (i≤k)∧k≤n∧k≤i+16∧v10=.int .i64 k∧Aside0 (W.heap[g4]?=some (.cells (cB (upN m q)) 88 (0,0)))∧Aside0 (W.heap[g9]?=some (.cells (cB (encL ks (upN m q))) 88 (0,0)))∧Aside0 (Kd.R (Kd.int .u8) 5 W w.heap.size (fun _=>True) (.slice (some ⟨go,0,none⟩) n co) (bL (fillL n (fun j=>by_ d j ^^^ padL ks m j) (by_ d) k)))∧Aside0 (Below w.heap.size w W)) (fun v10 _=>2000 - (intOf v10).toNat)
   case atStart=>exact⟨i,⟨Nat.le_refl _⟩,zq8,zq8,rfl,BK4,BK9,HO7,HB⟩
   case round=>
    clear BK4 BK9 HO7 HB
    obtain⟨k,hik,hk1,hk2,rfl,BK4,BK9,HO7,HB⟩:=hrel
    by_cases hkn0:k < n
    ·by_cases hki:k < i+16
     ·have hkn:=zM hkn0
      have hpad:=zM (pad_at ks m q i k hiq.out hik.out hki)
      have t1:decide (k < n)=true:=decide_eq_true hkn0
      have t2:decide ((k:Int) < (i:Int)+16)=true:=decide_eq_true zq8
      have t3:decide (k < i+16)=true:=decide_eq_true hki
      have hrc:=row_cell HO7.out k hkn0
      have hx1:=hrc.1
      have hx2:=hrc.2
      clear hrc
      rw[fillL_get _ _ _ _ _ hkn0,if_neg (Nat.lt_irrefl _)] at hx1
      have hik0:=hik.out
      have hy1:wr.cell? ⟨g9,k - i,none⟩=some (.int .u8 (bI (by_ (encL ks (upN m q)) (k - i)))):=by rw[blk_cell BK9.out,cB_get _ _ (by rw[encL_length];omega)]
      have s1:Value.int .i64 (IntKind.i64.wrap ((k:Int) - (i:Int)))=.int .i64 ((k:Int) - (i:Int)):=by rw[IntWalk.i64_in _ zq8]
      have n1:∀ g:Nat,(⟨g,((k:Int) - (i:Int)).toNat,none⟩:Addr)=⟨g,k - i,none⟩:=fun g=>by rw[show ((k:Int) - (i:Int)).toNat=k - i by omega]
      have p1:=eq_true (show (0:Int)≤(k:Int) - (i:Int) by omega)
      have p2:=eq_true (show (k:Int) - (i:Int) < 16 by omega)
      have p3:=eq_true (show (i:Int)≤(k:Int) by omega)
      have p4:=eq_true (show (0:Int)≤(k:Int) by omega)
      have p5:=eq_true (show (k:Int) < (n:Int) by omega)
      clear hkn0 hki hik0
      go_wp2_with fail
      refine wp_region_tail 11 (by kernel_rfl) (by kernel_rfl) ?_
      simp only[List.take_succ_cons,List.take_zero,List.drop_succ_cons,List.drop_zero]
      repeat (first|still_step)
      refine wpStill_nil ?_
      clear s1 n1 p1 p2 p3 p4 p5 hy1
      go_wp2_with (first
        | ((with_reducible refine gate_store (t:=5) (p:=45) rfl ?_);refine rowput_event ?hg (t:=5) (p:=45) (v:=?vo_300) ?ho ?hn (n:=n) (cap:=co) (go:=go) (xs:=(fillL n (fun j=>by_ d j ^^^ padL ks m j) (by_ d) k)) (e:=5) (base:=w.heap.size) ?hR (i:=k) (x:=(Go.bits .xor .u8 (bI (by_ d k)) (bI (by_ (encL ks (upN m q)) (k - i))))) (b:=(by_ d k ^^^ by_ (encL ks (upN m q)) (k - i))) ?hx ?hr ?_;(case ho=>rfl);(case hg=>rfl);(case hn=>rfl);(case hR=>exact zq48);(case hx=>rw[bI_xor]);(case hr=>first|(go_simp;done)|(go_simp;rfl));intro wc hrow hgr;have n0_:=zM (below_grown1 zq0 hgr GE7.out);have n1_:=zM (row_other (e:=5) (bt:=88) (g:=g4) (cells:=(cB (upN m q))) zq48 zq5 zq36 hgr);have n2_:=zM (row_other (e:=5) (bt:=88) (g:=g9) (cells:=(cB (encL ks (upN m q)))) zq48 zq72 zq36 hgr);have n3_:=zM (show Kd.R (Kd.int .u8) 5 wc w.heap.size (fun _=>True) (.slice (some ⟨go,0,none⟩) n co) (bL (fillL n (fun j=>by_ d j ^^^ padL ks m j) (by_ d) (k+1))) from by have e_:(fillL n (fun j=>by_ d j ^^^ padL ks m j) (by_ d) k).set k (by_ d k ^^^ padL ks m k)=fillL n (fun j=>by_ d j ^^^ padL ks m j) (by_ d) (k+1):=fillL_set n (fun j=>by_ d j ^^^ padL ks m j) (by_ d) k hkn.out;rw[hpad.out,e_] at hrow;exact hrow);clear HB BK4 BK9 HO7;have HB:=n0_;have BK4:=n1_;have BK9:=n2_;have HO7:=n3_;clear n0_ n1_ n2_ n3_;clear hrow hgr))
      go_roundw
      case rel=>exact⟨k+1,⟨by have:=hik.out;omega⟩,by have:=hkn.out;omega,by have:=of_decide_eq_true t3;omega,by go_num,BK4,BK9,HO7,HB⟩
      case measure=>simp[intOf];have:=hkn.out;omega
     ·have t1:decide (k < n)=true:=decide_eq_true hkn0
      have t2:decide ((k:Int) < (i:Int)+16)=false:=decide_eq_false zq8
      have t3:decide (k < i+16)=false:=decide_eq_false hki
      obtain rfl:k=i+16:=by omega
      go_wp2_with (first
        | ((with_reducible refine gate_dst (N:=46) rfl ?_);refine wpList_load_row ?hg 88 (.tmp 4) ?ho g4 ?hx 88 (cB (upN m q)) (0,0) _ ?hk Try.underlying88 rfl ?hi ?_;(case hg=>rfl);(case ho=>rfl);(case hx=>rfl);(case hk=>exact zq5);(case hi=>rw[cB_size,upN_length _ _ hm.out];kernel_rfl))
        | (go_at_call 55;refine(impl_block_up.calls (upN m q) (upN_length _ _ hm.out) _).mono ?_;rintro e wk ⟨rfl,hb⟩;have n0_:=zM (below_step zq0 hb);have n1_:=zM (blk_below (g:=g4) (o:=.cells (cB (upN m q)) 88 (0,0)) zq5 hb);have n2_:=zM (blk_below (g:=g9) (o:=.cells (cB (encL ks (upN m q))) 88 (0,0)) zq72 hb);have n3_:=zM (Kd.R_below zq48 hb);clear HB BK4 BK9 HO7;have HB:=n0_;have BK4:=n1_;have BK9:=n2_;have HO7:=n3_;clear n0_ n1_ n2_ n3_;clear hb)
        | ((with_reducible refine gate_store (t:=88) (p:=4) rfl ?_);refine row_event ?hg (ty:=88) (p:=4) (y:=?yo_303) ?ho ?hn (g:=g4) (old:=(cB (upN m q))) (e:=88) (cells:=(cB (upN m (q+1)))) ?hx ?hy ?hk ?hi ?hd ?h1 ?_;(case ho=>rfl);(case hg=>rfl);(case hn=>rfl);(case hx=>rfl);(case hy=>rfl);(case hk=>exact zq5);(case hi=>rw[cB_size,upN_length _ _ hm.out];kernel_rfl);(case hd=>rw[cB_size,cB_size,upN_length _ _ hm.out,upN_length _ _ hm.out]);(case h1=>exact cB_one _);intro wu_ hbk hgr;have n0_:=zM (below_grown1 zq0 hgr GE4.out);have n1_:=zM (blk_grown1 (g':=g9) (ob:=.cells (cB (encL ks (upN m q))) 88 (0,0)) zq72 hgr NE9_4.out);have n2_:=zM (R_grown_types zq48 zq5 zq36 hgr);have n3_:=zM hbk;clear HB BK9 HO7 BK4;have HB:=n0_;have BK9:=n1_;have HO7:=n2_;have BK4:=n3_;clear n0_ n1_ n2_ n3_;clear hbk hgr))
      go_roundw
      case rel=>exact⟨q+1,i+16,⟨by have:=hiq.out;omega⟩,zq8,by go_num,BK4,HO7,HB⟩
      case measure=>simp[intOf];omega
    ·have t1:decide (k < n)=false:=decide_eq_false hkn0
     obtain rfl:k=n:=by omega
     go_wp2_with (first
       | ((with_reducible refine gate_dst (N:=46) rfl ?_);refine wpList_load_row ?hg 88 (.tmp 4) ?ho g4 ?hx 88 (cB (upN m q)) (0,0) _ ?hk Try.underlying88 rfl ?hi ?_;(case hg=>rfl);(case ho=>rfl);(case hx=>rfl);(case hk=>exact zq5);(case hi=>rw[cB_size,upN_length _ _ hm.out];kernel_rfl))
       | (go_at_call 55;refine(impl_block_up.calls (upN m q) (upN_length _ _ hm.out) _).mono ?_;rintro e wk ⟨rfl,hb⟩;have n0_:=zM (below_step zq0 hb);have n1_:=zM (blk_below (g:=g4) (o:=.cells (cB (upN m q)) 88 (0,0)) zq5 hb);have n2_:=zM (blk_below (g:=g9) (o:=.cells (cB (encL ks (upN m q))) 88 (0,0)) zq72 hb);have n3_:=zM (Kd.R_below zq48 hb);clear HB BK4 BK9 HO7;have HB:=n0_;have BK4:=n1_;have BK9:=n2_;have HO7:=n3_;clear n0_ n1_ n2_ n3_;clear hb)
       | ((with_reducible refine gate_store (t:=88) (p:=4) rfl ?_);refine row_event ?hg (ty:=88) (p:=4) (y:=?yo_306) ?ho ?hn (g:=g4) (old:=(cB (upN m q))) (e:=88) (cells:=(cB (upN m (q+1)))) ?hx ?hy ?hk ?hi ?hd ?h1 ?_;(case ho=>rfl);(case hg=>rfl);(case hn=>rfl);(case hx=>rfl);(case hy=>rfl);(case hk=>exact zq5);(case hi=>rw[cB_size,upN_length _ _ hm.out];kernel_rfl);(case hd=>rw[cB_size,cB_size,upN_length _ _ hm.out,upN_length _ _ hm.out]);(case h1=>exact cB_one _);intro wu_ hbk hgr;have n0_:=zM (below_grown1 zq0 hgr GE4.out);have n1_:=zM (blk_grown1 (g':=g9) (ob:=.cells (cB (encL ks (upN m q))) 88 (0,0)) zq72 hgr NE9_4.out);have n2_:=zM (R_grown_types zq48 zq5 zq36 hgr);have n3_:=zM hbk;clear HB BK9 HO7 BK4;have HB:=n0_;have BK9:=n1_;have HO7:=n2_;have BK4:=n3_;clear n0_ n1_ n2_ n3_;clear hbk hgr))
     go_roundw
     case rel=>exact⟨q+1,i+16,⟨by have:=hiq.out;omega⟩,zq8,by go_num,BK4,⟨by rw[fill_upto k (fun j=>by_ d j ^^^ padL ks m j) (by_ d) (i+16) k zq8 (Nat.le_refl _)];exact HO7.out⟩,HB⟩
     case measure=>simp[intOf];omega
  ·have hlt:decide (i < n)=false:=decide_eq_false hl
   go_wp2
   go_ret
   refine⟨_,rfl,?_,HB.out⟩
   have h9:=HO7.out
   rw[fill_upto n (fun j=>by_ d j ^^^ padL ks m j) (by_ d) i n zq8 (Nat.le_refl _),fillL_all] at h9
   rw[show streamL ks m d=tab n (fun j=>by_ d j ^^^ padL ks m j) from by unfold streamL;rw[hd.out]]
   exact h9
end Go.Proofs.Ytdbanjdnjhflcaa.All
