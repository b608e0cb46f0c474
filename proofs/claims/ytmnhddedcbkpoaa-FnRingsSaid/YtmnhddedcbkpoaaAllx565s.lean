-- Laid by wip/shake.py of this repo out of this claim's texts. Not trusted: Lean checks it.
import Derived.Test.YtmnhddedcbkpoaaAb0s
import Derived.Test.YtmnhddedcbkpoaaBytes
import Derived.Test.YtmnhddedcbkpoaaAllx24s
import Derived.Test.YtmnhddedcbkpoaaAllx553s
import Derived.Test.YtmnhddedcbkpoaaAllx550s
import Derived.Lib.SliceRun
namespace Go.Proofs.Ytmnhddedcbkpoaa.All
open Go.Proofs.YtmnhddedcbkpoaaW.PrintWords.Aside0 renaming mk→zM
open Go.RowKit Go.Proofs.YtmnhddedcbkpoaaW.PrintWords Go.Proofs.YtmnhddedcbkpoaaW.PrintLast Go.Proofs.YtmnhddedcbkpoaaW.PrintMore
attribute [local go_sem] max2_int min2_int max_two min_two max_three min_three max_four min_four
set_option linter.unusedVariables false
set_option linter.unusedSimpArgs false
def keepL (id:Int) (l:List S25):List S25:=l.filter (fun x=>x.f0 != id)
theorem keep_next (id:Int) (l:List S25) (i:Nat) (h:i < l.length):keepL id (l.take (i+1))=if (rd_T25 l (i:Int)).f0=id then keepL id (l.take i) else keepL id (l.take i) ++ [rd_T25 l (i:Int)]:=by
 rw[List.take_succ_eq_append_getElem h,rd_get l i h]
 unfold keepL
 rw[List.filter_append]
 by_cases hx:l[i].f0=id
 ·rw[if_pos hx]
  simp[List.filter_cons,hx]
 ·rw[if_neg hx]
  simp[List.filter_cons,hx]
theorem keep_len (id:Int) (l:List S25):(keepL id l).length≤l.length:=List.length_filter_le _ _
theorem S_split {W:World} {base:Nat} {go n c:Nat} {xs:List S25} (h:Kd.S k25 25 W base (fun _=>True) (.slice (some ⟨go,0,none⟩) n c) xs):∃ (f:Nat→Nat) (B0:Nat) (cur:Array Value),B0≤W.heap.size∧go < B0∧W.heap[go]?=some (Obj.cells cur 25 (0,0))∧(Kd.tag f k25).R 25 W base (fun k=>k < B0) (.slice (some ⟨go,0,none⟩) n c) xs.zipIdx:=by
 obtain⟨f,h⟩:=h
 have h1:=Kd.R_mono (Kd.R_bound h) (ok':=fun k=>k < W.heap.size) (fun k hk=>hk.2.2.1)
 obtain⟨cur,hcur⟩:=Kd.R_typed h go rfl
 exact⟨f,W.heap.size,cur,Nat.le_refl _,h1.1 go rfl,hcur,h1⟩
theorem own_elem {W:World} {base B0:Nat} {f:Nat→Nat} {go n c:Nat} {cur:Array Value} {xs:List S25} (h:(Kd.tag f k25).R 25 W base (fun k=>k < B0) (.slice (some ⟨go,0,none⟩) n c) xs.zipIdx) (hc:W.heap[go]?=some (Obj.cells cur 25 (0,0))) (i:Nat) (hi:i < xs.length) :
  ∃ Ae ce,cur[i*2]?=some (.int .i64 (rd_T25 xs (i:Int)).f0)∧cur[i*2+1]?=some (.slice Ae (rd_T25 xs (i:Int)).f1.length ce)∧(rd_T25 xs (i:Int)).f1.length≤ce∧Kd.R (Kd.int .u8) 5 W base (fun k=>k < B0∧f k=i) (.slice Ae (rd_T25 xs (i:Int)).f1.length ce) (rd_T25 xs (i:Int)).f1:=by
 have hn:=(Kd.R_reads' h).1
 rw[List.length_zipIdx] at hn
 obtain⟨cs,hl,hM,hcell⟩:=Kd.R_getA h (z25,0) (i:Int) zq21 zq21
 rw[Int.toNat_natCast] at hM hcell
 have hg:xs.zipIdx.getD i (z25,0)=(xs[i],i):=by
  rw[List.getD_eq_getElem?_getD,List.getElem?_zipIdx,List.getElem?_eq_getElem hi]
  simp
 rw[hg] at hM
 have hM2:k25.M W base (fun k=>(k < B0∧some k≠(Value.slice (some ⟨go,0,none⟩) n c).ownBlock)∧f k=i) xs[i] cs:=hM
 obtain⟨v1,rfl,g1⟩:=k25_openM hM2
 obtain⟨Ae,ce,rfl⟩:=Kd.R_slice g1
 have ha:∀ j,Addr.add ⟨go,0,none⟩ j=⟨go,j,none⟩:=fun j=>by unfold Addr.add;split <;> simp_all
 have c0:=hcell 0 _ rfl
 have c1:=hcell 1 _ rfl
 rw[ha,blk_cell hc] at c0 c1
 rw[rd_get xs i hi]
 exact⟨Ae,ce,c0,c1,(Kd.R_reads' g1).2.1,Kd.R_mono g1 (fun k hk=>⟨hk.1.1,hk.2⟩)⟩
theorem out_ne {W:World} {base B0 kk:Nat} {f:Nat→Nat} {u:Value} {xs:List S25} (h:Kd.S k25 25 W base (fun k_=>(k_ < B0∧f k_ < kk) ∨ B0≤k_) u xs) (k:Nat) (hk:k < B0∧f k=kk):some k≠u.ownBlock:=by
 obtain⟨f',hR⟩:=h
 intro he
 have:=hR.1 k he.symm
 omega
theorem out_keep {W:World} {base B0 kk:Nat} {f:Nat→Nat} {u:Value} {xs:List S25} (h:Kd.S k25 25 W base (fun k_=>(k_ < B0∧f k_ < kk) ∨ B0≤k_) u xs):Kd.S k25 25 W base (fun k_=>(k_ < B0∧f k_ < kk+1) ∨ B0≤k_) u xs:=Kd.S_mono h (fun k hk=>by omega)
theorem out_open {W:World} {base B0 kk:Nat} {f:Nat→Nat} {u:Value} {xs:List S25} (h:Kd.S k25 25 W base (fun k_=>(k_ < B0∧f k_ < kk) ∨ B0≤k_) u xs):Kd.S k25 25 W base (fun k_=>((k_ < B0∧f k_ < kk+1) ∨ B0≤k_)∧¬ (k_ < B0∧f k_=kk)) u xs:=Kd.S_mono h (fun k hk=>by omega)
theorem out_fresh {u v1:Value} {B0 n:Nat} (hu:∀ k_,u.ownBlock=some k_→B0≤k_) (hat:v1.ownBlock=u.ownBlock ∨ ∃ b,v1.ownBlock=some b∧n≤b) (hn:B0≤n):∀ k_,v1.ownBlock=some k_→B0≤k_:=by
 intro k_ hk_
 rcases hat with h_|⟨b_,h_,h2_⟩
 ·exact hu k_ (by rw[← h_];exact hk_)
 ·rw[h_] at hk_
  injection hk_ with hk_
  omega
def spec_RemoveKey.T14:Bool × List (List Nat × List Nat):=(true,[([],[]),([0],[0]),([],[]),([2],[2]),([],[]),([3,4],[3,4]),([5],[5]),([6],[6]),([1,7],[1,7]),([0,1,2,3,4,5,6,7,8],[]),([9,8,8,0,1,2,3,4,5,6,7,8],[8,9])])
def spec_RemoveKey.B14:List Nat:=[0,1,0,4,0,28,60,124,255,511,1023]
theorem spec_RemoveKey.tab14:rtab .any (opsOf Try.f45 14)=spec_RemoveKey.T14:=by kernel_rfl
theorem spec_RemoveKey.bits14:waitsOk spec_RemoveKey.T14.2 spec_RemoveKey.B14=true:=by kernel_rfl
theorem S_cons2 {w:World} {base:Nat} {ok:Nat→Prop} {v:Value} {xs:List S25} (h:Kd.S k25 25 w base ok v xs) (hn:0 < xs.length):∃ g c,v=.slice (some ⟨g,0,none⟩) xs.length c:=by
 obtain⟨g,c,hv,_⟩:=Kd.S_form h hn
 exact⟨g,c,hv⟩
theorem place_pos (id:Int) (l:List S25) (h:¬ placeL id l 0 < 0):0 < l.length:=by
 cases l with
 | nil=>exact absurd (by simp[placeL]) h
 | cons x xs=>simp
def spec_RemoveKey.f (a0_0:Int) (l0_1:List S25) (a1:Int):Option (Int × Int × List S25):=if okL l0_1 then (if ringFaultL a0_0 l0_1=0 then (if placeL a1 l0_1 0 < 0 then some (4,0,[]) else (if a0_0=a1 then some (8,0,[]) else some (0,a0_0,keepL a1 l0_1))) else some (ringFaultL a0_0 l0_1,0,[])) else none
set_option maxHeartbeats 4000000 in
set_option maxRecDepth 100000 in
theorem spec_RemoveKey.calls (a0_0:Int) (A0_1:Option Addr) (c0_1:Nat) (l0_1:List S25) (a1:Int) (r1:Int) (r2:Int) (r3:List S25) (w:World) (hr0_1:Kd.C k25 w A0_1 l0_1.length l0_1) (hc0_1:l0_1.length≤c0_1) (h:spec_RemoveKey.f a0_0 l0_1 a1=some (r1,r2,r3)) :
  Calls Try.prog 45 #[.agg #[.int .i64 a0_0,.slice A0_1 l0_1.length c0_1],.int .i64 a1] w fun e w'=>∃ v2_:Value,e=.returned (.agg #[.int .i64 r1,.int .i64 r2,v2_])∧Kd.S k25 25 w' w.heap.size (fun _=>True) v2_ r3∧Below w.heap.size w w':=by
 unfold spec_RemoveKey.f at h
 by_cases hm:okL l0_1
 ·rw[if_pos hm] at h
  have HM:=zM hm
  have HLB:Aside0 (l0_1.length < 140737488355328):=⟨by have:=hm.1;omega⟩
  clear hm
  have HR:=zM hr0_1
  have HC:=zM hc0_1
  clear hr0_1 hc0_1
  have HB:=zM (Below.refl w.heap.size w)
  by_cases hf:ringFaultL a0_0 l0_1=0
  ·have HF:Aside0 (spec_RingFault.f a0_0 l0_1=some 0):=⟨by unfold spec_RingFault.f;rw[hf]⟩
   rw[if_pos hf] at h
   clear hf
   by_cases hq:placeL a1 l0_1 0 < 0
   ·rw[if_pos hq] at h
    simp only[Option.some.injEq,Prod.mk.injEq] at h
    obtain⟨rfl,rfl,rfl⟩:=h
    obtain⟨q,HQ⟩:∃ q,Aside0 (placeL a1 l0_1 0=q):=⟨_,⟨rfl⟩⟩
    rw[HQ.out] at hq
    have hd:=decide_eq_true hq
    clear hq
    go_enter Try.func45,Try.ntmps45
    go_wp2_with (first
      | ((with_reducible refine gate_dst (N:=2) rfl ?_);refine box_event ?hg (N:=2) ?hd (cs:=#[.int .i64 a0_0,.slice A0_1 l0_1.length c0_1]) (t:=29) ?hr ?_;(case hd=>rfl);(case hg=>rfl);(case hr=>first|(go_simp;done)|(go_simp;rfl));intro g2 hg w2 hbox hb;have n0_:=zM (below_step zq0 hb);have n1_:=zM hbox;have n2_:=zM (by rw[hg];exact below_size zq0:w.heap.size≤g2);clear HB;have HB:=n0_;have BK2:=n1_;have GE2:=n2_;clear n0_ n1_ n2_;clear hb hbox hg;(try clear hr0 hr1);have hr9:=ringFault_box _ _ _ _ _ _ BK2.out;obtain⟨hr0,hr1⟩:=hr9)
      | ((with_reducible refine gate_dst (N:=4) rfl ?_);refine box_event ?hg (N:=4) ?hd (cs:=#[.int .i64 0,.int .i64 0,.slice none 0 0]) (t:=31) ?hr ?_;(case hd=>rfl);(case hg=>rfl);(case hr=>first|(go_simp;done)|(go_simp;rfl));intro g4 hg w4 hbox hb;have n0_:=zM (below_step zq0 hb);have n1_:=zM (blk_below (g:=g2) (o:=.cells #[.int .i64 a0_0,.slice A0_1 l0_1.length c0_1] 29 (0,0)) zq1 hb);have n2_:=zM hbox;have n3_:=zM (by rw[hg];exact below_size zq0:w.heap.size≤g4);clear HB BK2;have HB:=n0_;have BK2:=n1_;have BK4:=n2_;have GE4:=n3_;clear n0_ n1_ n2_ n3_;clear hb hbox hg;(try clear hr0 hr1);have hr9:=ringFault_box _ _ _ _ _ _ BK2.out;obtain⟨hr0,hr1⟩:=hr9)
      | (go_at_call 37;refine(spec_RingFault.calls a0_0 A0_1 c0_1 l0_1 0 _ (Kd.C_below HR.out zq0) HC.out HF.out).mono ?_;rintro e wk ⟨rfl,hb⟩;have n0_:=zM (below_step zq0 hb);have n1_:=zM (blk_below (g:=g2) (o:=.cells #[.int .i64 a0_0,.slice A0_1 l0_1.length c0_1] 29 (0,0)) zq1 hb);have n2_:=zM (blk_below (g:=g4) (o:=.cells #[.int .i64 0,.int .i64 0,.slice none 0 0] 31 (0,0)) zq2 hb);clear HB BK2 BK4;have HB:=n0_;have BK2:=n1_;have BK4:=n2_;clear n0_ n1_ n2_;clear hb;(try clear hr0 hr1);have hr9:=ringFault_box _ _ _ _ _ _ BK2.out;obtain⟨hr0,hr1⟩:=hr9)
      | (go_at_call 84;refine(l4Find_as a1 a0_0 A0_1 c0_1 g2 l0_1 q HQ.out _ zq1 (Kd.C_below HR.out zq0) HLB.out).mono ?_;rintro e wk ⟨rfl,hb⟩;have n0_:=zM (below_step zq0 hb);have n1_:=zM (blk_below (g:=g2) (o:=.cells #[.int .i64 a0_0,.slice A0_1 l0_1.length c0_1] 29 (0,0)) zq1 hb);have n2_:=zM (blk_below (g:=g4) (o:=.cells #[.int .i64 0,.int .i64 0,.slice none 0 0] 31 (0,0)) zq2 hb);clear HB BK2 BK4;have HB:=n0_;have BK2:=n1_;have BK4:=n2_;clear n0_ n1_ n2_;clear hb;(try clear hr0 hr1);have hr9:=ringFault_box _ _ _ _ _ _ BK2.out;obtain⟨hr0,hr1⟩:=hr9)
      | ((with_reducible refine gate_store (t:=31) (p:=4) rfl ?_);refine row_event ?hg (ty:=31) (p:=4) (y:=?yo_90) ?ho ?hn (g:=g4) (old:=#[.int .i64 0,.int .i64 0,.slice none 0 0]) (e:=31) (cells:=#[.int .i64 4,.int .i64 0,.slice none 0 0]) ?hx ?hy ?hk ?hi ?hd ?h1 ?_;(case ho=>rfl);(case hg=>rfl);(case hn=>rfl);(case hx=>rfl);(case hy=>rfl);(case hk=>exact zq2);(case hi=>kernel_rfl);(case hd=>rfl);(case h1=>exact zq63);intro wr_ hbk hgr;have n0_:=zM (below_grown1 zq0 hgr GE4.out);have n1_:=zM (blk_grown1 (g':=g2) (ob:=.cells #[.int .i64 a0_0,.slice A0_1 l0_1.length c0_1] 29 (0,0)) zq1 hgr (blk_ne zq1 zq2 zq17));have n2_:=zM hbk;clear HB BK2 BK4;have HB:=n0_;have BK2:=n1_;have BK4:=n2_;clear n0_ n1_ n2_;clear hbk hgr))
    refine bodyPost_ret (results_cell_row rfl _ _ g4 31 #[.int .i64 4,.int .i64 0,.slice none 0 0] (0,0) _ rfl zq2 Try.underlying31 rfl (by kernel_rfl)) rfl ?_
    exact⟨_,rfl,Kd.S_nil _ _ _ _ _,HB.out⟩
   ·rw[if_neg hq] at h
    obtain⟨q,HQ⟩:∃ q,Aside0 (placeL a1 l0_1 0=q):=⟨_,⟨rfl⟩⟩
    rw[HQ.out] at hq
    (try rw[HQ.out] at h)
    have hd:=decide_eq_false hq
    by_cases he:a0_0=a1
    ·rw[if_pos he] at h
     simp only[Option.some.injEq,Prod.mk.injEq] at h
     obtain⟨rfl,rfl,rfl⟩:=h
     have he1:(a0_0 == a1)=true:=beq_iff_eq.mpr he
     clear he hq
     go_enter Try.func45,Try.ntmps45
     go_wp2_with (first
       | ((with_reducible refine gate_dst (N:=2) rfl ?_);refine box_event ?hg (N:=2) ?hd (cs:=#[.int .i64 a0_0,.slice A0_1 l0_1.length c0_1]) (t:=29) ?hr ?_;(case hd=>rfl);(case hg=>rfl);(case hr=>first|(go_simp;done)|(go_simp;rfl));intro g2 hg w2 hbox hb;have n0_:=zM (below_step zq0 hb);have n1_:=zM hbox;have n2_:=zM (by rw[hg];exact below_size zq0:w.heap.size≤g2);clear HB;have HB:=n0_;have BK2:=n1_;have GE2:=n2_;clear n0_ n1_ n2_;clear hb hbox hg;(try clear hr0 hr1);have hr9:=ringFault_box _ _ _ _ _ _ BK2.out;obtain⟨hr0,hr1⟩:=hr9)
       | ((with_reducible refine gate_dst (N:=4) rfl ?_);refine box_event ?hg (N:=4) ?hd (cs:=#[.int .i64 0,.int .i64 0,.slice none 0 0]) (t:=31) ?hr ?_;(case hd=>rfl);(case hg=>rfl);(case hr=>first|(go_simp;done)|(go_simp;rfl));intro g4 hg w4 hbox hb;have n0_:=zM (below_step zq0 hb);have n1_:=zM (blk_below (g:=g2) (o:=.cells #[.int .i64 a0_0,.slice A0_1 l0_1.length c0_1] 29 (0,0)) zq1 hb);have n2_:=zM hbox;have n3_:=zM (by rw[hg];exact below_size zq0:w.heap.size≤g4);clear HB BK2;have HB:=n0_;have BK2:=n1_;have BK4:=n2_;have GE4:=n3_;clear n0_ n1_ n2_ n3_;clear hb hbox hg;(try clear hr0 hr1);have hr9:=ringFault_box _ _ _ _ _ _ BK2.out;obtain⟨hr0,hr1⟩:=hr9)
       | (go_at_call 37;refine(spec_RingFault.calls a0_0 A0_1 c0_1 l0_1 0 _ (Kd.C_below HR.out zq0) HC.out HF.out).mono ?_;rintro e wk ⟨rfl,hb⟩;have n0_:=zM (below_step zq0 hb);have n1_:=zM (blk_below (g:=g2) (o:=.cells #[.int .i64 a0_0,.slice A0_1 l0_1.length c0_1] 29 (0,0)) zq1 hb);have n2_:=zM (blk_below (g:=g4) (o:=.cells #[.int .i64 0,.int .i64 0,.slice none 0 0] 31 (0,0)) zq2 hb);clear HB BK2 BK4;have HB:=n0_;have BK2:=n1_;have BK4:=n2_;clear n0_ n1_ n2_;clear hb;(try clear hr0 hr1);have hr9:=ringFault_box _ _ _ _ _ _ BK2.out;obtain⟨hr0,hr1⟩:=hr9)
       | (go_at_call 84;refine(l4Find_as a1 a0_0 A0_1 c0_1 g2 l0_1 q HQ.out _ zq1 (Kd.C_below HR.out zq0) HLB.out).mono ?_;rintro e wk ⟨rfl,hb⟩;have n0_:=zM (below_step zq0 hb);have n1_:=zM (blk_below (g:=g2) (o:=.cells #[.int .i64 a0_0,.slice A0_1 l0_1.length c0_1] 29 (0,0)) zq1 hb);have n2_:=zM (blk_below (g:=g4) (o:=.cells #[.int .i64 0,.int .i64 0,.slice none 0 0] 31 (0,0)) zq2 hb);clear HB BK2 BK4;have HB:=n0_;have BK2:=n1_;have BK4:=n2_;clear n0_ n1_ n2_;clear hb;(try clear hr0 hr1);have hr9:=ringFault_box _ _ _ _ _ _ BK2.out;obtain⟨hr0,hr1⟩:=hr9)
       | ((with_reducible refine gate_store (t:=31) (p:=4) rfl ?_);refine row_event ?hg (ty:=31) (p:=4) (y:=?yo_95) ?ho ?hn (g:=g4) (old:=#[.int .i64 0,.int .i64 0,.slice none 0 0]) (e:=31) (cells:=#[.int .i64 8,.int .i64 0,.slice none 0 0]) ?hx ?hy ?hk ?hi ?hd ?h1 ?_;(case ho=>rfl);(case hg=>rfl);(case hn=>rfl);(case hx=>rfl);(case hy=>rfl);(case hk=>exact zq2);(case hi=>kernel_rfl);(case hd=>rfl);(case h1=>exact zq63);intro wr_ hbk hgr;have n0_:=zM (below_grown1 zq0 hgr GE4.out);have n1_:=zM (blk_grown1 (g':=g2) (ob:=.cells #[.int .i64 a0_0,.slice A0_1 l0_1.length c0_1] 29 (0,0)) zq1 hgr (blk_ne zq1 zq2 zq17));have n2_:=zM hbk;clear HB BK2 BK4;have HB:=n0_;have BK2:=n1_;have BK4:=n2_;clear n0_ n1_ n2_;clear hbk hgr))
     refine bodyPost_ret (results_cell_row rfl _ _ g4 31 #[.int .i64 8,.int .i64 0,.slice none 0 0] (0,0) _ rfl zq2 Try.underlying31 rfl (by kernel_rfl)) rfl ?_
     exact⟨_,rfl,Kd.S_nil _ _ _ _ _,HB.out⟩
    ·rw[if_neg he] at h
     simp only[Option.some.injEq,Prod.mk.injEq] at h
     obtain⟨rfl,rfl,rfl⟩:=h
     have he1:(a0_0 == a1)=false:=beq_eq_false_iff_ne.mpr he
     have HL1:Aside0 (0 < l0_1.length):=⟨place_pos a1 l0_1 (by rw[HQ.out];exact hq)⟩
     clear he hq
     have HLM:=zM HM.out.1
     go_enter Try.func45,Try.ntmps45
     go_wp2_with (first
       | ((with_reducible refine gate_dst (N:=2) rfl ?_);refine box_event ?hg (N:=2) ?hd (cs:=#[.int .i64 a0_0,.slice A0_1 l0_1.length c0_1]) (t:=29) ?hr ?_;(case hd=>rfl);(case hg=>rfl);(case hr=>first|(go_simp;done)|(go_simp;rfl));intro g2 hg w2 hbox hb;have n0_:=zM (below_step zq0 hb);have n1_:=zM hbox;have n2_:=zM (by rw[hg];exact below_size zq0:w.heap.size≤g2);clear HB;have HB:=n0_;have BK2:=n1_;have GE2:=n2_;clear n0_ n1_ n2_;clear hb hbox hg;(try clear hr0 hr1);have hr9:=ringFault_box _ _ _ _ _ _ BK2.out;obtain⟨hr0,hr1⟩:=hr9)
       | ((with_reducible refine gate_dst (N:=4) rfl ?_);refine box_event ?hg (N:=4) ?hd (cs:=#[.int .i64 0,.int .i64 0,.slice none 0 0]) (t:=31) ?hr ?_;(case hd=>rfl);(case hg=>rfl);(case hr=>first|(go_simp;done)|(go_simp;rfl));intro g4 hg w4 hbox hb;have n0_:=zM (below_step zq0 hb);have n1_:=zM (blk_below (g:=g2) (o:=.cells #[.int .i64 a0_0,.slice A0_1 l0_1.length c0_1] 29 (0,0)) zq1 hb);have n2_:=zM hbox;have n3_:=zM (by rw[hg];exact below_size zq0:w.heap.size≤g4);clear HB BK2;have HB:=n0_;have BK2:=n1_;have BK4:=n2_;have GE4:=n3_;clear n0_ n1_ n2_ n3_;clear hb hbox hg;(try clear hr0 hr1);have hr9:=ringFault_box _ _ _ _ _ _ BK2.out;obtain⟨hr0,hr1⟩:=hr9)
       | (go_at_call 37;refine(spec_RingFault.calls a0_0 A0_1 c0_1 l0_1 0 _ (Kd.C_below HR.out zq0) HC.out HF.out).mono ?_;rintro e wk ⟨rfl,hb⟩;have n0_:=zM (below_step zq0 hb);have n1_:=zM (blk_below (g:=g2) (o:=.cells #[.int .i64 a0_0,.slice A0_1 l0_1.length c0_1] 29 (0,0)) zq1 hb);have n2_:=zM (blk_below (g:=g4) (o:=.cells #[.int .i64 0,.int .i64 0,.slice none 0 0] 31 (0,0)) zq2 hb);clear HB BK2 BK4;have HB:=n0_;have BK2:=n1_;have BK4:=n2_;clear n0_ n1_ n2_;clear hb;(try clear hr0 hr1);have hr9:=ringFault_box _ _ _ _ _ _ BK2.out;obtain⟨hr0,hr1⟩:=hr9)
       | (go_at_call 84;refine(l4Find_as a1 a0_0 A0_1 c0_1 g2 l0_1 q HQ.out _ zq1 (Kd.C_below HR.out zq0) HLB.out).mono ?_;rintro e wk ⟨rfl,hb⟩;have n0_:=zM (below_step zq0 hb);have n1_:=zM (blk_below (g:=g2) (o:=.cells #[.int .i64 a0_0,.slice A0_1 l0_1.length c0_1] 29 (0,0)) zq1 hb);have n2_:=zM (blk_below (g:=g4) (o:=.cells #[.int .i64 0,.int .i64 0,.slice none 0 0] 31 (0,0)) zq2 hb);clear HB BK2 BK4;have HB:=n0_;have BK2:=n1_;have BK4:=n2_;clear n0_ n1_ n2_;clear hb;(try clear hr0 hr1);have hr9:=ringFault_box _ _ _ _ _ _ BK2.out;obtain⟨hr0,hr1⟩:=hr9)
       | ((with_reducible refine gate_dst (N:=6) rfl ?_);refine box_event ?hg (N:=6) ?hd (cs:=#[.int .i64 0,.slice none 0 0]) (t:=29) ?hr ?_;(case hd=>rfl);(case hg=>rfl);(case hr=>first|(go_simp;done)|(go_simp;rfl));intro g6 hg w6 hbox hb;have n0_:=zM (below_step zq0 hb);have n1_:=zM (blk_below (g:=g2) (o:=.cells #[.int .i64 a0_0,.slice A0_1 l0_1.length c0_1] 29 (0,0)) zq1 hb);have n2_:=zM (blk_below (g:=g4) (o:=.cells #[.int .i64 0,.int .i64 0,.slice none 0 0] 31 (0,0)) zq2 hb);have n3_:=zM hbox;have n4_:=zM (by rw[hg];exact below_size zq0:w.heap.size≤g6);have n5_:=zM (by rw[hg];exact Nat.ne_of_lt (blk_lt (g:=g2) (o:=.cells #[.int .i64 a0_0,.slice A0_1 l0_1.length c0_1] 29 (0,0)) zq1):g2≠g6);have n6_:=zM (by rw[hg];exact Nat.ne_of_gt (blk_lt (g:=g2) (o:=.cells #[.int .i64 a0_0,.slice A0_1 l0_1.length c0_1] 29 (0,0)) zq1):g6≠g2);clear HB BK2 BK4;have HB:=n0_;have BK2:=n1_;have BK4:=n2_;have BK6:=n3_;have GE6:=n4_;have NE2_6:=n5_;have NE6_2:=n6_;clear n0_ n1_ n2_ n3_ n4_ n5_ n6_;clear hb hbox hg;(try clear hr0 hr1);have hr9:=ringFault_box _ _ _ _ _ _ BK2.out;obtain⟨hr0,hr1⟩:=hr9)
       | ((with_reducible refine gate_store (t:=29) (p:=6) rfl ?_);refine row_event ?hg (ty:=29) (p:=6) (y:=?yo_101) ?ho ?hn (g:=g6) (old:=#[.int .i64 0,.slice none 0 0]) (e:=29) (cells:=#[.int .i64 a0_0,.slice none 0 0]) ?hx ?hy ?hk ?hi ?hd ?h1 ?_;(case ho=>rfl);(case hg=>rfl);(case hn=>rfl);(case hx=>rfl);(case hy=>rfl);(case hk=>exact zq9);(case hi=>kernel_rfl);(case hd=>rfl);(case h1=>exact zq63);intro wr_ hbk hgr;have n0_:=zM (below_grown1 zq0 hgr GE6.out);have n1_:=zM (blk_grown1 (g':=g2) (ob:=.cells #[.int .i64 a0_0,.slice A0_1 l0_1.length c0_1] 29 (0,0)) zq1 hgr NE2_6.out);have n2_:=zM (blk_grown1 (g':=g4) (ob:=.cells #[.int .i64 0,.int .i64 0,.slice none 0 0] 31 (0,0)) zq2 hgr (blk_ne zq2 zq9 zq17));have n3_:=zM hbk;clear HB BK2 BK4 BK6;have HB:=n0_;have BK2:=n1_;have BK4:=n2_;have BK6:=n3_;clear n0_ n1_ n2_ n3_;clear hbk hgr;(try clear hr0 hr1);have hr9:=ringFault_box _ _ _ _ _ _ BK2.out;obtain⟨hr0,hr1⟩:=hr9)
       | (go_at_call 67;refine(l4Copy_at g2 a0_0 l0_1 A0_1 c0_1 _ zq1 (Kd.C_below HR.out zq0) HM.out).mono ?_;rintro e wk ⟨vc,rfl,ho,hb⟩;have hown:=Kd.S_lower ho (below_size zq0);clear ho;have n0_:=zM (below_step zq0 hb);have n1_:=zM (blk_below (g:=g2) (o:=.cells #[.int .i64 a0_0,.slice A0_1 l0_1.length c0_1] 29 (0,0)) zq1 hb);have n2_:=zM (blk_below (g:=g4) (o:=.cells #[.int .i64 0,.int .i64 0,.slice none 0 0] 31 (0,0)) zq2 hb);have n3_:=zM (blk_below (g:=g6) (o:=.cells #[.int .i64 a0_0,.slice none 0 0] 29 (0,0)) zq9 hb);clear HB BK2 BK4 BK6;have HB:=n0_;have BK2:=n1_;have BK4:=n2_;have BK6:=n3_;clear n0_ n1_ n2_ n3_;clear hb;obtain⟨Ac,cc,ec⟩:=Kd.S_slice hown;subst ec;obtain⟨go,co,eo⟩:=S_cons2 hown HL1.out;injection eo with eo1 eo2 eo3;subst eo1;have HOo:=zM hown;clear hown eo2 eo3)
       | ((with_reducible refine gate_dst (N:=7) rfl ?_);refine box_event ?hg (N:=7) ?hd (cs:=#[.int .i64 0,.slice none 0 0]) (t:=29) ?hr ?_;(case hd=>rfl);(case hg=>rfl);(case hr=>first|(go_simp;done)|(go_simp;rfl));intro g7 hg w7 hbox hb;have n0_:=zM (below_step zq0 hb);have n1_:=zM (blk_below (g:=g2) (o:=.cells #[.int .i64 a0_0,.slice A0_1 l0_1.length c0_1] 29 (0,0)) zq1 hb);have n2_:=zM (blk_below (g:=g4) (o:=.cells #[.int .i64 0,.int .i64 0,.slice none 0 0] 31 (0,0)) zq2 hb);have n3_:=zM (blk_below (g:=g6) (o:=.cells #[.int .i64 a0_0,.slice none 0 0] 29 (0,0)) zq9 hb);have n4_:=zM (Kd.S_below zq29 hb);have n5_:=zM hbox;have n6_:=zM (by rw[hg];exact below_size zq0:w.heap.size≤g7);have n7_:=zM (by rw[hg];exact Nat.ne_of_lt (blk_lt (g:=g2) (o:=.cells #[.int .i64 a0_0,.slice A0_1 l0_1.length c0_1] 29 (0,0)) zq1):g2≠g7);have n8_:=zM (by rw[hg];exact Nat.ne_of_gt (blk_lt (g:=g2) (o:=.cells #[.int .i64 a0_0,.slice A0_1 l0_1.length c0_1] 29 (0,0)) zq1):g7≠g2);have n9_:=zM (by rw[hg];exact Nat.ne_of_lt (blk_lt (g:=g6) (o:=.cells #[.int .i64 a0_0,.slice none 0 0] 29 (0,0)) zq9):g6≠g7);have n10_:=zM (by rw[hg];exact Nat.ne_of_gt (blk_lt (g:=g6) (o:=.cells #[.int .i64 a0_0,.slice none 0 0] 29 (0,0)) zq9):g7≠g6);clear HB BK2 BK4 BK6 HOo;have HB:=n0_;have BK2:=n1_;have BK4:=n2_;have BK6:=n3_;have HOo:=n4_;have BK7:=n5_;have GE7:=n6_;have NE2_7:=n7_;have NE7_2:=n8_;have NE6_7:=n9_;have NE7_6:=n10_;clear n0_ n1_ n2_ n3_ n4_ n5_ n6_ n7_ n8_ n9_ n10_;clear hb hbox hg)
       | ((with_reducible refine gate_store (t:=29) (p:=7) rfl ?_);refine row_event ?hg (ty:=29) (p:=7) (y:=?yo_104) ?ho ?hn (g:=g7) (old:=#[.int .i64 0,.slice none 0 0]) (e:=29) (cells:=#[.int .i64 a0_0,.slice (some ⟨go,0,none⟩) l0_1.length cc]) ?hx ?hy ?hk ?hi ?hd ?h1 ?_;(case ho=>rfl);(case hg=>rfl);(case hn=>rfl);(case hx=>rfl);(case hy=>rfl);(case hk=>exact zq42);(case hi=>kernel_rfl);(case hd=>rfl);(case h1=>exact zq63);intro wr_ hbk hgr;have n0_:=zM (below_grown1 zq0 hgr GE7.out);have n1_:=zM (blk_grown1 (g':=g2) (ob:=.cells #[.int .i64 a0_0,.slice A0_1 l0_1.length c0_1] 29 (0,0)) zq1 hgr NE2_7.out);have n2_:=zM (blk_grown1 (g':=g4) (ob:=.cells #[.int .i64 0,.int .i64 0,.slice none 0 0] 31 (0,0)) zq2 hgr (blk_ne zq2 zq42 zq17));have n3_:=zM (blk_grown1 (g':=g6) (ob:=.cells #[.int .i64 a0_0,.slice none 0 0] 29 (0,0)) zq9 hgr NE6_7.out);have n4_:=zM (S_grown_types zq29 zq42 zq17 hgr);have n5_:=zM hbk;clear HB BK2 BK4 BK6 HOo BK7;have HB:=n0_;have BK2:=n1_;have BK4:=n2_;have BK6:=n3_;have HOo:=n4_;have BK7:=n5_;clear n0_ n1_ n2_ n3_ n4_ n5_;clear hbk hgr))
     obtain⟨f,B0,cur,hB0,hgo,hcur,hown⟩:=S_split HOo.out
     have HBS:=zM hB0
     have HGO:=zM hgo
     have BKo:=zM hcur
     have HOwn:=zM hown
     clear hB0 hgo hcur hown HOo
     go_loopw [8] (fun v8 W=>∃ (kk:Nat) (u:Value),kk≤l0_1.length∧v8=.int .i64 kk∧Aside0 (W.heap[g4]?=some (Obj.cells #[.int .i64 0,.int .i64 0,.slice none 0 0] 31 (0,0)))∧Aside0 (W.heap[g6]?=some (Obj.cells #[.int .i64 a0_0,u] 29 (0,0)))∧Aside0 (W.heap[g7]?=some (Obj.cells #[.int .i64 a0_0,.slice (some ⟨go,0,none⟩) l0_1.length cc] 29 (0,0)))∧Aside0 (W.heap[go]?=some (Obj.cells cur 25 (0,0)))∧Aside0 ((Kd.tag f k25).R 25 W w.heap.size (fun k=>k < B0) (.slice (some ⟨go,0,none⟩) l0_1.length cc) l0_1.zipIdx)∧Aside0 (Kd.S k25 25 W w.heap.size (fun k_=>(k_ < B0∧f k_ < kk) ∨ B0≤k_) u (keepL a1 (l0_1.take kk)))∧Aside0 (∀ k_,u.ownBlock=some k_→B0≤k_)∧Aside0 (B0≤W.heap.size)∧Aside0 (Below w.heap.size w W)) (fun v8 _=>l0_1.length - (intOf v8).toNat)
     case atStart=>exact⟨0,.slice none 0 0,Nat.zero_le _,rfl,BK4,BK6,BK7,BKo,HOwn,⟨Kd.S_nil _ _ _ _ _⟩,⟨fun _ h=>by cases h⟩,HBS,HB⟩
     case round=>
      clear BK2 BK4 BK6 BK7 BKo HOwn HBS HB hr0 hr1
      obtain⟨kk,u,hk,rfl,BK4,BK6,BK7,BKo,HOwn,HO,HU,HBS,HB⟩:=hrel
      have HK0:=HO
      by_cases hl:kk < l0_1.length
      ·have hd:decide (kk < l0_1.length)=true:=decide_eq_true hl
       have hlt:=zM hl
       obtain⟨Ae,ce,hc0,hc1,hle,hE⟩:=own_elem HOwn.out BKo.out kk hl
       have HKN:=zM (keep_next a1 l0_1 kk hl)
       generalize rd_T25 l0_1 (kk:Int)=x at hc0 hc1 hle hE HKN
       have HC0:=zM hc0
       have HC1:=zM hc1
       have HE:=zM hE
       clear hc0 hc1 hle hE HK0
       have h71:wr.cell? ⟨g7,1,none⟩=some (.slice (some ⟨go,0,none⟩) l0_1.length cc):=(blk_cell BK7.out 1).trans rfl
       have hx0:wr.cell? ⟨go,kk*2,none⟩=some (.int .i64 x.f0):=(blk_cell BKo.out (kk*2)).trans HC0.out
       by_cases he:x.f0=a1
       ·have hb1:(x.f0 == a1)=true:=beq_iff_eq.mpr he
        have hb2:(x.f0 != a1)=false:=bne_eq_false_iff_eq.mpr he
        have HK1:Aside0 (keepL a1 (l0_1.take (kk+1))=keepL a1 (l0_1.take kk)):=⟨by rw[HKN.out,if_pos he]⟩
        clear he
        go_wp2
        go_roundw
        case rel=>exact⟨kk+1,u,hlt.out,congrArg _ (wrap_next kk _ hlt.out HLB.out),BK4,BK6,BK7,BKo,HOwn,⟨by rw[HK1.out];exact out_keep HO.out⟩,HU,HBS,HB⟩
        case measure=>exact next_less kk _ hlt.out HLB.out
       ·have hb1:(x.f0 == a1)=false:=beq_eq_false_iff_ne.mpr he
        have hb2:(x.f0 != a1)=true:=bne_iff_ne.mpr he
        have HK1:Aside0 (keepL a1 (l0_1.take (kk+1))=keepL a1 (l0_1.take kk) ++ [x]):=⟨by rw[HKN.out,if_neg he]⟩
        clear he
        go_wp2_with fail
        have n0_:=zM (below_drew1 HB.out)
        have n1_:=zM (blk_drew BK4.out)
        have n2_:=zM (blk_drew BK6.out)
        have n3_:=zM (blk_drew BK7.out)
        have n4_:=zM (blk_drew BKo.out)
        have n5_:=zM (Kd.R_drew HE.out)
        have n6_:=zM (Kd.R_drew HOwn.out)
        have n7_:=zM (Kd.S_drew HO.out)
        have n8_:=zM (show B0≤wr.drew.heap.size from HBS.out)
        clear HB BK4 BK6 BK7 BKo HE HOwn HO HBS h71 hx0
        have HB:=n0_
        have BK4:=n1_
        have BK6:=n2_
        have BK7:=n3_
        have BKo:=n4_
        have HE:=n5_
        have HOwn:=n6_
        have HO:=n7_
        have HBS:=n8_
        clear n0_ n1_ n2_ n3_ n4_ n5_ n6_ n7_ n8_
        refine start_ (n:=11) (S:=fun w'=>w'.cell? ⟨g6,1,none⟩=some u∧w'.cell? ⟨g7,1,none⟩=some (.slice (some ⟨go,0,none⟩) l0_1.length cc)∧w'.cell? ⟨go,kk*2,none⟩=some (.int .i64 x.f0)∧w'.cell? ⟨go,kk*2+1,none⟩=some (.slice Ae x.f1.length ce)) (ds:=[10]) #[false,false,false,false,false,false,false,false,false,false,false] (by kernel_rfl) rfl rfl ⟨(blk_cell BK6.out 1).trans rfl,(blk_cell BK7.out 1).trans rfl,(blk_cell BKo.out (kk*2)).trans HC0.out,(blk_cell BKo.out (kk*2+1)).trans HC1.out⟩ (fun hHeld=>?_);refine with_tabW spec_RemoveKey.tab14 spec_RemoveKey.bits14 (fun HT_ HW_=>?_)
        generalize wr.drew=w9 at HB BK4 BK6 BK7 BKo HE HOwn HO HBS hHeld ⊢
        refine pure_ (i:=0) (N:=some 43) (v:=?_) (a':=?_) #[true,false,false,false,false,false,false,false,false,false,false] rfl rfl (any_of HT_.out (by kernel_rfl)) (fun _ _ _ h=>h) (Or.inl ⟨zq64,?_⟩) ?_ ?_
        rotate_left
        ·intro w'
         go_simp
         with_reducible rfl
        rotate_left
        ·simp only[Act.put,List.setIfInBounds_toArray,List.set_cons_zero,List.set_cons_succ,i64_w,i32_w]
         rfl
        refine take_ (i:=1) (N:=some 44) (v:=?_) (a':=?_) #[true,true,false,false,false,false,false,false,false,false,false] rfl rfl (take_ofW HT_.out HW_.out (by kernel_rfl)) (fun _ _ _ h=>h) (Or.inl ⟨zq64,?_⟩) hHeld ?_ ?_
        rotate_left
        ·rintro w' ⟨s0,s1,s2,s3⟩
         go_simp
         with_reducible rfl
        rotate_left
        ·simp only[Act.put,List.setIfInBounds_toArray,List.set_cons_zero,List.set_cons_succ,i64_w,i32_w]
         rfl
        refine pure_ (i:=2) (N:=some 45) (v:=?_) (a':=?_) #[true,true,true,false,false,false,false,false,false,false,false] rfl rfl (any_of HT_.out (by kernel_rfl)) (fun _ _ _ h=>h) (Or.inl ⟨zq64,?_⟩) ?_ ?_
        rotate_left
        ·intro w'
         go_simp
         with_reducible rfl
        rotate_left
        ·simp only[Act.put,List.setIfInBounds_toArray,List.set_cons_zero,List.set_cons_succ,i64_w,i32_w]
         rfl
        refine take_ (i:=3) (N:=some 46) (v:=?_) (a':=?_) #[true,true,true,true,false,false,false,false,false,false,false] rfl rfl (take_ofW HT_.out HW_.out (by kernel_rfl)) (fun _ _ _ h=>h) (Or.inl ⟨zq64,?_⟩) hHeld ?_ ?_
        rotate_left
        ·rintro w' ⟨s0,s1,s2,s3⟩
         go_simp
         with_reducible rfl
        rotate_left
        ·simp only[Act.put,List.setIfInBounds_toArray,List.set_cons_zero,List.set_cons_succ,i64_w,i32_w]
         rfl
        refine pure_ (i:=4) (N:=some 47) (v:=?_) (a':=?_) #[true,true,true,true,true,false,false,false,false,false,false] rfl rfl (any_of HT_.out (by kernel_rfl)) (fun _ _ _ h=>h) (Or.inl ⟨zq64,?_⟩) ?_ ?_
        rotate_left
        ·intro w'
         go_simp
         with_reducible rfl
        rotate_left
        ·simp only[Act.put,List.setIfInBounds_toArray,List.set_cons_zero,List.set_cons_succ,i64_w,i32_w]
         rfl
        refine pure_ (i:=5) (N:=some 48) (v:=?_) (a':=?_) #[true,true,true,true,true,true,false,false,false,false,false] rfl rfl (any_of HT_.out (by kernel_rfl)) (fun _ _ _ h=>h) (Or.inl ⟨zq64,?_⟩) ?_ ?_
        rotate_left
        ·intro w'
         go_simp
         with_reducible rfl
        rotate_left
        ·simp only[Act.put,List.setIfInBounds_toArray,List.set_cons_zero,List.set_cons_succ,i64_w,i32_w]
         rfl
        refine take_ (i:=6) (N:=some 49) (v:=?_) (a':=?_) #[true,true,true,true,true,true,true,false,false,false,false] rfl rfl (take_ofW HT_.out HW_.out (by kernel_rfl)) (fun _ _ _ h=>h) (Or.inl ⟨zq64,?_⟩) hHeld ?_ ?_
        rotate_left
        ·rintro w' ⟨s0,s1,s2,s3⟩
         go_simp
         with_reducible rfl
        rotate_left
        ·simp only[Act.put,List.setIfInBounds_toArray,List.set_cons_zero,List.set_cons_succ,i64_w,i32_w]
         rfl
        refine one_ (i:=7) (N:=some 50) #[true,true,true,true,true,true,true,true,false,false,false] rfl rfl (one_of HT_.out (by kernel_rfl)) zq17 (fun K hK=>?_)
        refine value_ (w1:=?_) (v:=?_) zq64 rfl ?_ ?_
        rotate_left 2
        ·go_simp
         constructor
         ·rfl
         ·rfl
        refine hK.out _ _ ⟨(blk_cell (blk_alloc BK6.out _) 1).trans rfl,(blk_cell (blk_alloc BK7.out _) 1).trans rfl,(blk_cell (blk_alloc BKo.out _) (kk*2)).trans HC0.out,(blk_cell (blk_alloc BKo.out _) (kk*2+1)).trans HC1.out⟩ (fun hHeld=>?_)
        clear hK K
        refine norm_ (a':=?_) ?_ ?_
        rotate_left
        ·show Act.put _ (some 50) _=_
         simp only[Act.put,List.setIfInBounds_toArray,List.set_cons_zero,List.set_cons_succ,i64_w,i32_w]
         rfl
        refine one_ (i:=8) (N:=some 51) #[true,true,true,true,true,true,true,true,true,false,false] rfl rfl (one_of HT_.out (by kernel_rfl)) zq17 (fun K hK=>?_)
        refine Kd.S_append_step k25 (w0:=w) w.heap.size zq64 (.tmp 44) (.tmp 50) 27 25 (.agg #[(.int .i64 0),(.slice none 0 0)]) 32 rfl Try.underlying27 info25 rfl zq17 zq21 u (keepL a1 (l0_1.take kk)) x [.int .i64 x.f0,.slice Ae x.f1.length ce] (fun k_=>(k_ < B0∧f k_ < kk+1) ∨ B0≤k_) (fun k_=>k_ < B0∧f k_=kk) rfl rfl (k25_mkM _ _ _ x HE.out) (fun k_ hk_=>⟨.inl ⟨hk_.1,by have:=hk_.2;omega⟩,out_ne HO.out k_ hk_⟩) (fun k_ hk_=>.inr (Nat.le_trans HBS.out hk_)) (out_open HO.out) HB.out (below_size HB.out) ?aL ?_
        (case aL=>have h9:=HLM.out;have h8:=keep_len a1 (l0_1.take kk);have h7:=List.length_take_le' kk l0_1;omega)
        intro v1 w11 ho hb hg hat
        have n0_:=zM (blk_grown (g:=g4) BK4.out hg (Kd.S_ne HO.out BK4.out zq17))
        have n1_:=zM (blk_grown (g:=g6) BK6.out hg (Kd.S_ne HO.out BK6.out zq17))
        have n2_:=zM (blk_grown (g:=g7) BK7.out hg (Kd.S_ne HO.out BK7.out zq17))
        have n3_:=zM (blk_grown (g:=go) BKo.out hg (fun he_=>by have:=HU.out _ he_.symm;have:=HGO.out;omega))
        have n4_:=zM (Kd.R_grown HOwn.out hg (fun q_ hq_ he_=>by have:=HU.out _ he_.symm;omega))
        have n5_:=zM hb
        rw[← HK1.out] at ho
        have n6_:=zM ho
        have n7_:=zM (out_fresh HU.out hat HBS.out)
        have n8_:=zM (Nat.le_trans HBS.out hg.size)
        clear BK4 BK6 BK7 BKo HOwn HB HO HU HBS HE hat hg ho hb
        have BK4:=n0_
        have BK6:=n1_
        have BK7:=n2_
        have BKo:=n3_
        have HOwn:=n4_
        have HB:=n5_
        have HO:=n6_
        have HU:=n7_
        have HBS:=n8_
        clear n0_ n1_ n2_ n3_ n4_ n5_ n6_ n7_ n8_
        obtain⟨Aq,cq,eq_⟩:=Kd.S_slice HO.out
        subst eq_
        refine hK.out _ _ ⟨(blk_cell BK6.out 1).trans rfl,(blk_cell BK7.out 1).trans rfl,(blk_cell BKo.out (kk*2)).trans HC0.out,(blk_cell BKo.out (kk*2+1)).trans HC1.out⟩ (fun hHeld=>?_)
        clear hK K
        refine norm_ (a':=?_) ?_ ?_
        rotate_left
        ·show Act.put _ (some 51) _=_
         simp only[Act.put,List.setIfInBounds_toArray,List.set_cons_zero,List.set_cons_succ,i64_w,i32_w]
         rfl
        refine pure_ (i:=9) (N:=some 52) (v:=?_) (a':=?_) #[true,true,true,true,true,true,true,true,true,true,false] rfl rfl (any_of HT_.out (by kernel_rfl)) (fun _ _ _ h=>h) (Or.inl ⟨zq64,?_⟩) ?_ ?_
        rotate_left
        ·intro w'
         go_simp
         with_reducible rfl
        rotate_left
        ·simp only[Act.put,List.setIfInBounds_toArray,List.set_cons_zero,List.set_cons_succ,i64_w,i32_w]
         rfl
        refine last_ (i:=10) (N:=none) #[true,true,true,true,true,true,true,true,true,true,true] rfl rfl (one_of HT_.out (by kernel_rfl)) zq17 (fun K hK=>?_)
        have hs1:w11.cell? ⟨g6,1,none⟩=some u:=(blk_cell BK6.out 1).trans rfl
        have hs2:=blk_frozen BK6.out 1
        refine skip_ (w1:=?_) zq64 rfl ?_ ?_
        rotate_left
        ·go_simp
         rfl
        refine hK.out _ _ ?_
        clear hK K
        refine done_ (done_of HT_.out (by kernel_rfl)) ?_
        try go_wp2
        go_roundw
        case rel=>exact⟨kk+1,_,hlt.out,congrArg _ (wrap_next kk _ hlt.out HLB.out),⟨blk_far BK4.out (blk_ne BK4.out BK6.out zq17) _⟩,⟨blk_put (cs:=#[.int .i64 a0_0,u]) BK6.out 1 _ rfl⟩,⟨blk_far BK7.out NE7_6.out _⟩,⟨blk_far BKo.out (blk_ne BKo.out BK6.out zq17) _⟩,⟨Kd.R_mono (Kd.R_far (p:=⟨g6,1,none⟩) (Kd.R_types HOwn.out BK6.out (show ∀ q,q ∈ 25 :: k25.E→q≠29 by decide)) (fun _ hk=>hk.2) _) (fun _ hk=>hk.1)⟩,⟨Kd.S_mono (Kd.S_far (p:=⟨g6,1,none⟩) (Kd.S_types HO.out BK6.out zq17) (fun _ hk=>hk.2) _) (fun _ hk=>hk.1)⟩,HU,⟨by simpa [World.setCell] using HBS.out⟩,⟨below_set HB.out GE6.out⟩⟩
        case measure=>exact next_less kk _ hlt.out HLB.out
      ·obtain rfl:kk=l0_1.length:=by omega
       have HTK:Aside0 (l0_1.take l0_1.length=l0_1):=⟨List.take_of_length_le (Nat.le_refl _)⟩
       rw[HTK.out] at HO
       clear HK0
       obtain⟨Aq,cq,eq_⟩:=Kd.S_slice HO.out
       subst eq_
       have h71:wr.cell? ⟨g7,1,none⟩=some (.slice (some ⟨go,0,none⟩) l0_1.length cc):=(blk_cell BK7.out 1).trans rfl
       have h60:wr.cell? ⟨g6,0,none⟩=some (.int .i64 a0_0):=(blk_cell BK6.out 0).trans rfl
       have h61:wr.cell? ⟨g6,1,none⟩=some (.slice Aq (keepL a1 l0_1).length cq):=(blk_cell BK6.out 1).trans rfl
       go_wp2_with (first
         | ((with_reducible refine gate_store (t:=31) (p:=4) rfl ?_);refine row_event ?hg (ty:=31) (p:=4) (y:=?yo_105) ?ho ?hn (g:=g4) (old:=#[.int .i64 0,.int .i64 0,.slice none 0 0]) (e:=31) (cells:=#[.int .i64 0,.int .i64 a0_0,.slice Aq (keepL a1 l0_1).length cq]) ?hx ?hy ?hk ?hi ?hd ?h1 ?_;(case ho=>rfl);(case hg=>rfl);(case hn=>rfl);(case hx=>rfl);(case hy=>rfl);(case hk=>exact zq2);(case hi=>kernel_rfl);(case hd=>rfl);(case h1=>exact zq63);intro wr_ hbk hgr;have BK4o:=BK4;have hgr9:=zM hgr;have n0_:=zM (below_grown1 zq0 hgr GE4.out);have n1_:=zM hbk;clear HB BK4;have HB:=n0_;have BK4:=n1_;clear n0_ n1_;clear hbk hgr;have n9_:=zM (Kd.S_mono (Kd.S_grown (Kd.S_types HO.out BK4o.out zq17) hgr9.out (fun k hk he=>hk.2 (Option.some.inj he))) (fun _ hk=>hk.1));clear HO;have HO:=n9_;clear n9_))
       refine bodyPost_ret (results_cell_row rfl _ _ g4 31 #[.int .i64 0,.int .i64 a0_0,.slice Aq (keepL a1 l0_1).length cq] (0,0) _ rfl zq2 Try.underlying31 rfl (by kernel_rfl)) rfl ?_
       exact⟨_,rfl,Kd.S_mono HO.out (fun _ _=>trivial),HB.out⟩
  ·obtain⟨t,ht⟩:∃ t,t=ringFaultL a0_0 l0_1:=⟨_,rfl⟩
   rw[if_neg hf] at h
   rw[← ht] at h hf
   simp only[Option.some.injEq,Prod.mk.injEq] at h
   obtain⟨rfl,rfl,rfl⟩:=h
   have HF:Aside0 (spec_RingFault.f a0_0 l0_1=some t):=⟨by unfold spec_RingFault.f;rw[ht]⟩
   have ht1:(t == 0)=false:=beq_eq_false_iff_ne.mpr hf
   have ht2:(t != 0)=true:=bne_iff_ne.mpr hf
   clear hf ht
   go_enter Try.func45,Try.ntmps45
   go_wp2_with (first
     | ((with_reducible refine gate_dst (N:=2) rfl ?_);refine box_event ?hg (N:=2) ?hd (cs:=#[.int .i64 a0_0,.slice A0_1 l0_1.length c0_1]) (t:=29) ?hr ?_;(case hd=>rfl);(case hg=>rfl);(case hr=>first|(go_simp;done)|(go_simp;rfl));intro g2 hg w2 hbox hb;have n0_:=zM (below_step zq0 hb);have n1_:=zM hbox;have n2_:=zM (by rw[hg];exact below_size zq0:w.heap.size≤g2);clear HB;have HB:=n0_;have BK2:=n1_;have GE2:=n2_;clear n0_ n1_ n2_;clear hb hbox hg;(try clear hr0 hr1);have hr9:=ringFault_box _ _ _ _ _ _ BK2.out;obtain⟨hr0,hr1⟩:=hr9)
     | ((with_reducible refine gate_dst (N:=4) rfl ?_);refine box_event ?hg (N:=4) ?hd (cs:=#[.int .i64 0,.int .i64 0,.slice none 0 0]) (t:=31) ?hr ?_;(case hd=>rfl);(case hg=>rfl);(case hr=>first|(go_simp;done)|(go_simp;rfl));intro g4 hg w4 hbox hb;have n0_:=zM (below_step zq0 hb);have n1_:=zM (blk_below (g:=g2) (o:=.cells #[.int .i64 a0_0,.slice A0_1 l0_1.length c0_1] 29 (0,0)) zq1 hb);have n2_:=zM hbox;have n3_:=zM (by rw[hg];exact below_size zq0:w.heap.size≤g4);clear HB BK2;have HB:=n0_;have BK2:=n1_;have BK4:=n2_;have GE4:=n3_;clear n0_ n1_ n2_ n3_;clear hb hbox hg;(try clear hr0 hr1);have hr9:=ringFault_box _ _ _ _ _ _ BK2.out;obtain⟨hr0,hr1⟩:=hr9)
     | (go_at_call 37;refine(spec_RingFault.calls a0_0 A0_1 c0_1 l0_1 t _ (Kd.C_below HR.out zq0) HC.out HF.out).mono ?_;rintro e wk ⟨rfl,hb⟩;have n0_:=zM (below_step zq0 hb);have n1_:=zM (blk_below (g:=g2) (o:=.cells #[.int .i64 a0_0,.slice A0_1 l0_1.length c0_1] 29 (0,0)) zq1 hb);have n2_:=zM (blk_below (g:=g4) (o:=.cells #[.int .i64 0,.int .i64 0,.slice none 0 0] 31 (0,0)) zq2 hb);clear HB BK2 BK4;have HB:=n0_;have BK2:=n1_;have BK4:=n2_;clear n0_ n1_ n2_;clear hb;(try clear hr0 hr1);have hr9:=ringFault_box _ _ _ _ _ _ BK2.out;obtain⟨hr0,hr1⟩:=hr9)
     | ((with_reducible refine gate_store (t:=31) (p:=4) rfl ?_);refine row_event ?hg (ty:=31) (p:=4) (y:=?yo_109) ?ho ?hn (g:=g4) (old:=#[.int .i64 0,.int .i64 0,.slice none 0 0]) (e:=31) (cells:=#[.int .i64 t,.int .i64 0,.slice none 0 0]) ?hx ?hy ?hk ?hi ?hd ?h1 ?_;(case ho=>rfl);(case hg=>rfl);(case hn=>rfl);(case hx=>rfl);(case hy=>rfl);(case hk=>exact zq2);(case hi=>kernel_rfl);(case hd=>rfl);(case h1=>exact zq63);intro wr_ hbk hgr;have n0_:=zM (below_grown1 zq0 hgr GE4.out);have n1_:=zM (blk_grown1 (g':=g2) (ob:=.cells #[.int .i64 a0_0,.slice A0_1 l0_1.length c0_1] 29 (0,0)) zq1 hgr (blk_ne zq1 zq2 zq17));have n2_:=zM hbk;clear HB BK2 BK4;have HB:=n0_;have BK2:=n1_;have BK4:=n2_;clear n0_ n1_ n2_;clear hbk hgr))
   refine bodyPost_ret (results_cell_row rfl _ _ g4 31 #[.int .i64 t,.int .i64 0,.slice none 0 0] (0,0) _ rfl zq2 Try.underlying31 rfl (by kernel_rfl)) rfl ?_
   exact⟨_,rfl,Kd.S_nil _ _ _ _ _,HB.out⟩
 ·rw[if_neg hm] at h
  cases h
end Go.Proofs.Ytmnhddedcbkpoaa.All
