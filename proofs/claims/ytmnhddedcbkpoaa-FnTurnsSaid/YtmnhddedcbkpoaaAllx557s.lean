-- Laid by wip/shake.py of this repo out of this claim's texts. Not trusted: Lean checks it.
import Derived.Test.YtmnhddedcbkpoaaAb0s
import Derived.Test.YtmnhddedcbkpoaaBytes
import Derived.Test.YtmnhddedcbkpoaaAllx202s
import Derived.Test.YtmnhddedcbkpoaaAllx128s
import Derived.Test.YtmnhddedcbkpoaaAllx553s
import Derived.Test.YtmnhddedcbkpoaaAllx27s
namespace Go.Proofs.Ytmnhddedcbkpoaa.All
open Go.Proofs.YtmnhddedcbkpoaaW.PrintWords.Aside0 renaming mk→zM
open Go.RowKit Go.Proofs.YtmnhddedcbkpoaaW.PrintWords Go.Proofs.YtmnhddedcbkpoaaW.PrintLast Go.Proofs.YtmnhddedcbkpoaaW.PrintMore
attribute [local go_sem] max2_int min2_int max_two min_two max_three min_three max_four min_four
set_option linter.unusedVariables false
set_option linter.unusedSimpArgs false
theorem nr_boximpl (g:Nat) (p:Int) (A:Option Addr) (n c:Nat) (W:World) (h:W.heap[g]?=some (.cells #[.int .i64 p,.slice A n c] 29 (0,0))):W.cell? ⟨g,0,none⟩=some (.int .i64 p)∧W.cell? ⟨g,1,none⟩=some (.slice A n c):=⟨(blk_cell h 0).trans rfl,(blk_cell h 1).trans rfl⟩
theorem C_oneimpl {W:World} {g:Nat} (a:Int) (A:Option Addr) (c:Nat) (l:List Int) (hl:l.length≤c) (h:Kd.C (Kd.int .u8) W A l.length l) (hb:W.heap[g]?=some (.cells #[.int .i64 a,.slice A l.length c] 25 (0,0))):Kd.C k25 W (some ⟨g,0,none⟩) 1 [(⟨a,l⟩:S25)]:=by
 refine⟨rfl,by decide,fun _=>⟨_,rfl,fun j p hj=>?_⟩⟩
 have hj0:j=0:=by
  have:=List.getElem?_eq_some_iff.mp hj
  obtain⟨h1,_⟩:=this
  simp only[List.length_singleton] at h1
  omega
 subst hj0
 have hp:p=(⟨a,l⟩:S25):=by simpa using hj.symm
 subst hp
 refine⟨_,rfl,k25_mk _ ⟨a,l⟩ hl h,fun i u hi=>?_⟩
 have hc:=blk_cell hb i
 have he:Addr.add ⟨g,0,none⟩ (0*k25.sz+i)=⟨g,i,none⟩:=by
  rw[Nat.zero_mul,Nat.zero_add]
  unfold Addr.add
  split
  ·rename_i h0;subst h0;rfl
  ·simp
 rw[he]
 exact hc.trans (by simpa using hi)
def impl_NewRing.f (k:Nat) (a0_0:Int) (l0_1:List Int):Option (Int × Int × List S25):=(impl_RingFault.f k a0_0 [(⟨a0_0,l0_1⟩:S25)]).bind fun t=>if t=0 then (impl_ownRing.f k a0_0 [(⟨a0_0,l0_1⟩:S25)]).bind fun r=>some (0,r.1,r.2) else some (t,0,[])
theorem impl_NewRing.mono:∀ a0 a1 k,LeO (impl_NewRing.f k a0 a1) (impl_NewRing.f (k+1) a0 a1):=by
 intro a0 a1 k
 unfold impl_NewRing.f
 repeat' first
  | (with_reducible exact LeO.refl _)
  | (with_reducible exact LeO.none _)
  | (with_reducible exact impl_RingFault.mono _ _ _)
  | (with_reducible exact impl_ownRing.mono _ _ _)
  | (with_reducible refine LeO.ite ?_ ?_)
  | (with_reducible refine LeO.bind ?_ (fun _=>?_))
set_option maxHeartbeats 4000000 in
set_option maxRecDepth 100000 in
theorem impl_NewRing.calls (k:Nat) (a0_0:Int) (A0_1:Option Addr) (c0_1:Nat) (l0_1:List Int) (r1 r2:Int) (r3:List S25) (w:World) (hr0_1:Kd.C (Kd.int .u8) w A0_1 l0_1.length l0_1) (hc0_1:l0_1.length≤c0_1) (h:impl_NewRing.f k a0_0 l0_1=some (r1,r2,r3)) :
  Calls Try.prog 17 #[.agg #[.int .i64 a0_0,.slice A0_1 l0_1.length c0_1]] w fun e w'=>∃ v2_:Value,e=.returned (.agg #[.int .i64 r1,.int .i64 r2,v2_])∧Kd.S k25 25 w' w.heap.size (fun _=>True) v2_ r3∧Below w.heap.size w w':=by
 unfold impl_NewRing.f at h
 have HR:=zM hr0_1
 have HC:=zM hc0_1
 clear hr0_1 hc0_1
 have HB:=zM (Below.refl w.heap.size w)
 cases hf:impl_RingFault.f k a0_0 [(⟨a0_0,l0_1⟩:S25)] with
 | none=>rw[hf] at h;cases h
 | some t=>
  have HF:=zM hf
  rw[hf] at h
  simp only[Option.bind_some] at h
  clear hf
  by_cases ht:t=0
  ·subst ht
   rw[if_pos rfl] at h
   cases hw:impl_ownRing.f k a0_0 [(⟨a0_0,l0_1⟩:S25)] with
   | none=>rw[hw] at h;cases h
   | some q=>
    obtain⟨p,m⟩:=q
    have HW:=zM hw
    rw[hw] at h
    clear hw
    simp only[Option.bind_some,Option.some.injEq,Prod.mk.injEq] at h
    obtain⟨rfl,rfl,rfl⟩:=h
    go_enter Try.func17,Try.ntmps17
    go_wp2_with (first
      | ((with_reducible refine gate_dst (N:=1) rfl ?_);refine box_event ?hg (N:=1) ?hd (cs:=#[.int .i64 a0_0,.slice A0_1 l0_1.length c0_1]) (t:=25) ?hr ?_;(case hd=>rfl);(case hg=>rfl);(case hr=>first|(go_simp;done)|(go_simp;rfl));intro g1 hg w1 hbox hb;have n0_:=zM (below_step zq0 hb);have n1_:=zM hbox;have n2_:=zM (by rw[hg];exact below_size zq0:w.heap.size≤g1);clear HB;have HB:=n0_;have BK1:=n1_;have GE1:=n2_;clear n0_ n1_ n2_;clear hb hbox hg)
      | ((with_reducible refine gate_dst (N:=2) rfl ?_);refine box_event ?hg (N:=2) ?hd (cs:=#[.int .i64 0,.int .i64 0,.slice none 0 0]) (t:=31) ?hr ?_;(case hd=>rfl);(case hg=>rfl);(case hr=>first|(go_simp;done)|(go_simp;rfl));intro g2 hg w2 hbox hb;have n0_:=zM (below_step zq0 hb);have n1_:=zM (blk_below (g:=g1) (o:=.cells #[.int .i64 a0_0,.slice A0_1 l0_1.length c0_1] 25 (0,0)) zq18 hb);have n2_:=zM hbox;have n3_:=zM (by rw[hg];exact below_size zq0:w.heap.size≤g2);clear HB BK1;have HB:=n0_;have BK1:=n1_;have BK2:=n2_;have GE2:=n3_;clear n0_ n1_ n2_ n3_;clear hb hbox hg;have hk0:w2.cell? ⟨g1,0,none⟩=some (.int .i64 a0_0):=(blk_cell BK1.out 0).trans rfl;have hk1:w2.cell? ⟨g1,1,none⟩=some (.slice A0_1 l0_1.length c0_1):=(blk_cell BK1.out 1).trans rfl)
      | ((with_reducible refine gate_dst (N:=3) rfl ?_);clear hk0 hk1;have nA_:=zM (below_alloc HB.out (.cells #[.int .i64 a0_0,.slice A0_1 l0_1.length c0_1] 25 (0,0)));have nB_:=zM (blk_alloc BK1.out (.cells #[.int .i64 a0_0,.slice A0_1 l0_1.length c0_1] 25 (0,0)));have nC_:=zM (blk_alloc BK2.out (.cells #[.int .i64 a0_0,.slice A0_1 l0_1.length c0_1] 25 (0,0)));have nD_:Aside0 ((w2.alloc (.cells #[.int .i64 a0_0,.slice A0_1 l0_1.length c0_1] 25 (0,0))).heap[w2.heap.size]?=some (.cells #[.int .i64 a0_0,.slice A0_1 l0_1.length c0_1] 25 (0,0))):=⟨Array.getElem?_push_size⟩;have NE1_l:=zM (Nat.ne_of_lt (blk_lt BK1.out));have NEl_1:=zM (Nat.ne_of_gt (blk_lt BK1.out));clear HB BK1 BK2;generalize w2.alloc (.cells #[.int .i64 a0_0,.slice A0_1 l0_1.length c0_1] 25 (0,0))=w8 at nA_ nB_ nC_ nD_ ⊢;have HB:=nA_;have BK1:=nB_;have BK2:=nC_;have BKl:=nD_;clear nA_ nB_ nC_ nD_;refine box_event ?hg (N:=3) ?hd (cs:=#[.int .i64 0,.slice none 0 0]) (t:=29) ?hr ?_;(case hd=>rfl);(case hg=>rfl);(case hr=>first|(go_simp;done)|(go_simp;rfl));intro g3 hg w3 hbox hb;have n0_:=zM (below_step zq0 hb);have n1_:=zM (blk_below (g:=g1) (o:=.cells #[.int .i64 a0_0,.slice A0_1 l0_1.length c0_1] 25 (0,0)) zq18 hb);have n2_:=zM (blk_below (g:=g2) (o:=.cells #[.int .i64 0,.int .i64 0,.slice none 0 0] 31 (0,0)) zq1 hb);have n3_:=zM (blk_below (g:=w2.heap.size) (o:=.cells #[.int .i64 a0_0,.slice A0_1 l0_1.length c0_1] 25 (0,0)) zq15 hb);have n4_:=zM hbox;have n5_:=zM (by rw[hg];exact below_size zq0:w.heap.size≤g3);clear HB BK1 BK2 BKl;have HB:=n0_;have BK1:=n1_;have BK2:=n2_;have BKl:=n3_;have BK3:=n4_;have GE3:=n5_;clear n0_ n1_ n2_ n3_ n4_ n5_;clear hb hbox hg)
      | ((with_reducible refine gate_store (t:=29) (p:=3) rfl ?_);refine row_event ?hg (ty:=29) (p:=3) (y:=?yo_39) ?ho ?hn (g:=g3) (old:=#[.int .i64 0,.slice none 0 0]) (e:=29) (cells:=#[.int .i64 a0_0,.slice (some ⟨w2.heap.size,0,none⟩) 1 1]) ?hx ?hy ?hk ?hi ?hd ?h1 ?_;(case ho=>rfl);(case hg=>rfl);(case hn=>rfl);(case hx=>rfl);(case hy=>rfl);(case hk=>exact zq3);(case hi=>kernel_rfl);(case hd=>rfl);(case h1=>exact zq133);intro wr_ hbk hgr;have n0_:=zM (below_grown1 zq0 hgr GE3.out);have n1_:=zM (blk_grown1 (g':=g1) (ob:=.cells #[.int .i64 a0_0,.slice A0_1 l0_1.length c0_1] 25 (0,0)) zq18 hgr (blk_ne zq18 zq3 zq16));have n2_:=zM (blk_grown1 (g':=g2) (ob:=.cells #[.int .i64 0,.int .i64 0,.slice none 0 0] 31 (0,0)) zq1 hgr (blk_ne zq1 zq3 zq16));have n3_:=zM (blk_grown1 (g':=w2.heap.size) (ob:=.cells #[.int .i64 a0_0,.slice A0_1 l0_1.length c0_1] 25 (0,0)) zq15 hgr (blk_ne zq15 zq3 zq16));have n4_:=zM hbk;clear HB BK1 BK2 BKl BK3;have HB:=n0_;have BK1:=n1_;have BK2:=n2_;have BKl:=n3_;have BK3:=n4_;clear n0_ n1_ n2_ n3_ n4_;clear hbk hgr;(try clear hr0 hr1);have hr9:=nr_boximpl _ _ _ _ _ _ BK3.out;obtain⟨hr0,hr1⟩:=hr9)
      | (go_at_call 25;refine(impl_RingFault.calls k a0_0 (some ⟨w2.heap.size,0,none⟩) 1 [(⟨a0_0,l0_1⟩:S25)] 0 _ (C_oneimpl a0_0 A0_1 c0_1 l0_1 HC.out (Kd.C_below HR.out zq0) zq15) (Nat.le_refl 1) HF.out).mono ?_;rintro e wk ⟨rfl,hb⟩;have n0_:=zM (below_step zq0 hb);have n1_:=zM (blk_below (g:=g1) (o:=.cells #[.int .i64 a0_0,.slice A0_1 l0_1.length c0_1] 25 (0,0)) zq18 hb);have n2_:=zM (blk_below (g:=g2) (o:=.cells #[.int .i64 0,.int .i64 0,.slice none 0 0] 31 (0,0)) zq1 hb);have n3_:=zM (blk_below (g:=w2.heap.size) (o:=.cells #[.int .i64 a0_0,.slice A0_1 l0_1.length c0_1] 25 (0,0)) zq15 hb);have n4_:=zM (blk_below (g:=g3) (o:=.cells #[.int .i64 a0_0,.slice (some ⟨w2.heap.size,0,none⟩) 1 1] 29 (0,0)) zq3 hb);clear HB BK1 BK2 BKl BK3;have HB:=n0_;have BK1:=n1_;have BK2:=n2_;have BKl:=n3_;have BK3:=n4_;clear n0_ n1_ n2_ n3_ n4_;clear hb;(try clear hr0 hr1);have hr9:=nr_boximpl _ _ _ _ _ _ BK3.out;obtain⟨hr0,hr1⟩:=hr9)
      | (go_at_call 61;refine(impl_ownRing.calls k a0_0 (some ⟨w2.heap.size,0,none⟩) 1 [(⟨a0_0,l0_1⟩:S25)] p m _ (C_oneimpl a0_0 A0_1 c0_1 l0_1 HC.out (Kd.C_below HR.out zq0) zq15) (Nat.le_refl 1) HW.out).mono ?_;rintro e wk ⟨vc,rfl,ho,hb⟩;have hown:=Kd.S_lower ho (below_size zq0);clear ho;have n0_:=zM (below_step zq0 hb);have n1_:=zM (blk_below (g:=g1) (o:=.cells #[.int .i64 a0_0,.slice A0_1 l0_1.length c0_1] 25 (0,0)) zq18 hb);have n2_:=zM (blk_below (g:=g2) (o:=.cells #[.int .i64 0,.int .i64 0,.slice none 0 0] 31 (0,0)) zq1 hb);have n3_:=zM (blk_below (g:=w2.heap.size) (o:=.cells #[.int .i64 a0_0,.slice A0_1 l0_1.length c0_1] 25 (0,0)) zq15 hb);have n4_:=zM (blk_below (g:=g3) (o:=.cells #[.int .i64 a0_0,.slice (some ⟨w2.heap.size,0,none⟩) 1 1] 29 (0,0)) zq3 hb);clear HB BK1 BK2 BKl BK3;have HB:=n0_;have BK1:=n1_;have BK2:=n2_;have BKl:=n3_;have BK3:=n4_;clear n0_ n1_ n2_ n3_ n4_;clear hb;obtain⟨Ac,cc,ec⟩:=Kd.S_slice hown;subst ec;have HOo:=zM hown;clear hown)
      | ((with_reducible refine gate_store (t:=31) (p:=2) rfl ?_);refine row_event ?hg (ty:=31) (p:=2) (y:=?yo_42) ?ho ?hn (g:=g2) (old:=#[.int .i64 0,.int .i64 0,.slice none 0 0]) (e:=31) (cells:=#[.int .i64 0,.int .i64 p,.slice Ac (m).length cc]) ?hx ?hy ?hk ?hi ?hd ?h1 ?_;(case ho=>rfl);(case hg=>rfl);(case hn=>rfl);(case hx=>rfl);(case hy=>rfl);(case hk=>exact zq1);(case hi=>kernel_rfl);(case hd=>rfl);(case h1=>exact zq133);intro wr_ hbk hgr;have n0_:=zM (below_grown1 zq0 hgr GE2.out);have n1_:=zM (blk_grown1 (g':=g1) (ob:=.cells #[.int .i64 a0_0,.slice A0_1 l0_1.length c0_1] 25 (0,0)) zq18 hgr (blk_ne zq18 zq1 zq16));have n2_:=zM (blk_grown1 (g':=w2.heap.size) (ob:=.cells #[.int .i64 a0_0,.slice A0_1 l0_1.length c0_1] 25 (0,0)) zq15 hgr (blk_ne zq15 zq1 zq16));have n3_:=zM (blk_grown1 (g':=g3) (ob:=.cells #[.int .i64 a0_0,.slice (some ⟨w2.heap.size,0,none⟩) 1 1] 29 (0,0)) zq3 hgr (blk_ne zq3 zq1 zq16));have n4_:=zM (S_grown_types zq40 zq1 zq16 hgr);have n5_:=zM hbk;clear HB BK1 BKl BK3 HOo BK2;have HB:=n0_;have BK1:=n1_;have BKl:=n2_;have BK3:=n3_;have HOo:=n4_;have BK2:=n5_;clear n0_ n1_ n2_ n3_ n4_ n5_;clear hbk hgr))
    refine bodyPost_ret (results_cell_row rfl _ _ g2 31 #[.int .i64 0,.int .i64 p,.slice Ac (m).length cc] (0,0) _ rfl zq1 Try.underlying31 rfl (by kernel_rfl)) rfl ?_
    exact⟨_,rfl,HOo.out,HB.out⟩
  ·rw[if_neg ht] at h
   simp only[Option.some.injEq,Prod.mk.injEq] at h
   obtain⟨rfl,rfl,rfl⟩:=h
   have ht1:(t == 0)=false:=beq_eq_false_iff_ne.mpr ht
   have ht2:(t != 0)=true:=bne_iff_ne.mpr ht
   clear ht
   go_enter Try.func17,Try.ntmps17
   go_wp2_with (first
     | ((with_reducible refine gate_dst (N:=1) rfl ?_);refine box_event ?hg (N:=1) ?hd (cs:=#[.int .i64 a0_0,.slice A0_1 l0_1.length c0_1]) (t:=25) ?hr ?_;(case hd=>rfl);(case hg=>rfl);(case hr=>first|(go_simp;done)|(go_simp;rfl));intro g1 hg w1 hbox hb;have n0_:=zM (below_step zq0 hb);have n1_:=zM hbox;have n2_:=zM (by rw[hg];exact below_size zq0:w.heap.size≤g1);clear HB;have HB:=n0_;have BK1:=n1_;have GE1:=n2_;clear n0_ n1_ n2_;clear hb hbox hg)
     | ((with_reducible refine gate_dst (N:=2) rfl ?_);refine box_event ?hg (N:=2) ?hd (cs:=#[.int .i64 0,.int .i64 0,.slice none 0 0]) (t:=31) ?hr ?_;(case hd=>rfl);(case hg=>rfl);(case hr=>first|(go_simp;done)|(go_simp;rfl));intro g2 hg w2 hbox hb;have n0_:=zM (below_step zq0 hb);have n1_:=zM (blk_below (g:=g1) (o:=.cells #[.int .i64 a0_0,.slice A0_1 l0_1.length c0_1] 25 (0,0)) zq18 hb);have n2_:=zM hbox;have n3_:=zM (by rw[hg];exact below_size zq0:w.heap.size≤g2);clear HB BK1;have HB:=n0_;have BK1:=n1_;have BK2:=n2_;have GE2:=n3_;clear n0_ n1_ n2_ n3_;clear hb hbox hg;have hk0:w2.cell? ⟨g1,0,none⟩=some (.int .i64 a0_0):=(blk_cell BK1.out 0).trans rfl;have hk1:w2.cell? ⟨g1,1,none⟩=some (.slice A0_1 l0_1.length c0_1):=(blk_cell BK1.out 1).trans rfl)
     | ((with_reducible refine gate_dst (N:=3) rfl ?_);clear hk0 hk1;have nA_:=zM (below_alloc HB.out (.cells #[.int .i64 a0_0,.slice A0_1 l0_1.length c0_1] 25 (0,0)));have nB_:=zM (blk_alloc BK1.out (.cells #[.int .i64 a0_0,.slice A0_1 l0_1.length c0_1] 25 (0,0)));have nC_:=zM (blk_alloc BK2.out (.cells #[.int .i64 a0_0,.slice A0_1 l0_1.length c0_1] 25 (0,0)));have nD_:Aside0 ((w2.alloc (.cells #[.int .i64 a0_0,.slice A0_1 l0_1.length c0_1] 25 (0,0))).heap[w2.heap.size]?=some (.cells #[.int .i64 a0_0,.slice A0_1 l0_1.length c0_1] 25 (0,0))):=⟨Array.getElem?_push_size⟩;have NE1_l:=zM (Nat.ne_of_lt (blk_lt BK1.out));have NEl_1:=zM (Nat.ne_of_gt (blk_lt BK1.out));clear HB BK1 BK2;generalize w2.alloc (.cells #[.int .i64 a0_0,.slice A0_1 l0_1.length c0_1] 25 (0,0))=w8 at nA_ nB_ nC_ nD_ ⊢;have HB:=nA_;have BK1:=nB_;have BK2:=nC_;have BKl:=nD_;clear nA_ nB_ nC_ nD_;refine box_event ?hg (N:=3) ?hd (cs:=#[.int .i64 0,.slice none 0 0]) (t:=29) ?hr ?_;(case hd=>rfl);(case hg=>rfl);(case hr=>first|(go_simp;done)|(go_simp;rfl));intro g3 hg w3 hbox hb;have n0_:=zM (below_step zq0 hb);have n1_:=zM (blk_below (g:=g1) (o:=.cells #[.int .i64 a0_0,.slice A0_1 l0_1.length c0_1] 25 (0,0)) zq18 hb);have n2_:=zM (blk_below (g:=g2) (o:=.cells #[.int .i64 0,.int .i64 0,.slice none 0 0] 31 (0,0)) zq1 hb);have n3_:=zM (blk_below (g:=w2.heap.size) (o:=.cells #[.int .i64 a0_0,.slice A0_1 l0_1.length c0_1] 25 (0,0)) zq15 hb);have n4_:=zM hbox;have n5_:=zM (by rw[hg];exact below_size zq0:w.heap.size≤g3);clear HB BK1 BK2 BKl;have HB:=n0_;have BK1:=n1_;have BK2:=n2_;have BKl:=n3_;have BK3:=n4_;have GE3:=n5_;clear n0_ n1_ n2_ n3_ n4_ n5_;clear hb hbox hg)
     | ((with_reducible refine gate_store (t:=29) (p:=3) rfl ?_);refine row_event ?hg (ty:=29) (p:=3) (y:=?yo_46) ?ho ?hn (g:=g3) (old:=#[.int .i64 0,.slice none 0 0]) (e:=29) (cells:=#[.int .i64 a0_0,.slice (some ⟨w2.heap.size,0,none⟩) 1 1]) ?hx ?hy ?hk ?hi ?hd ?h1 ?_;(case ho=>rfl);(case hg=>rfl);(case hn=>rfl);(case hx=>rfl);(case hy=>rfl);(case hk=>exact zq3);(case hi=>kernel_rfl);(case hd=>rfl);(case h1=>exact zq133);intro wr_ hbk hgr;have n0_:=zM (below_grown1 zq0 hgr GE3.out);have n1_:=zM (blk_grown1 (g':=g1) (ob:=.cells #[.int .i64 a0_0,.slice A0_1 l0_1.length c0_1] 25 (0,0)) zq18 hgr (blk_ne zq18 zq3 zq16));have n2_:=zM (blk_grown1 (g':=g2) (ob:=.cells #[.int .i64 0,.int .i64 0,.slice none 0 0] 31 (0,0)) zq1 hgr (blk_ne zq1 zq3 zq16));have n3_:=zM (blk_grown1 (g':=w2.heap.size) (ob:=.cells #[.int .i64 a0_0,.slice A0_1 l0_1.length c0_1] 25 (0,0)) zq15 hgr (blk_ne zq15 zq3 zq16));have n4_:=zM hbk;clear HB BK1 BK2 BKl BK3;have HB:=n0_;have BK1:=n1_;have BK2:=n2_;have BKl:=n3_;have BK3:=n4_;clear n0_ n1_ n2_ n3_ n4_;clear hbk hgr;(try clear hr0 hr1);have hr9:=nr_boximpl _ _ _ _ _ _ BK3.out;obtain⟨hr0,hr1⟩:=hr9)
     | (go_at_call 25;refine(impl_RingFault.calls k a0_0 (some ⟨w2.heap.size,0,none⟩) 1 [(⟨a0_0,l0_1⟩:S25)] t _ (C_oneimpl a0_0 A0_1 c0_1 l0_1 HC.out (Kd.C_below HR.out zq0) zq15) (Nat.le_refl 1) HF.out).mono ?_;rintro e wk ⟨rfl,hb⟩;have n0_:=zM (below_step zq0 hb);have n1_:=zM (blk_below (g:=g1) (o:=.cells #[.int .i64 a0_0,.slice A0_1 l0_1.length c0_1] 25 (0,0)) zq18 hb);have n2_:=zM (blk_below (g:=g2) (o:=.cells #[.int .i64 0,.int .i64 0,.slice none 0 0] 31 (0,0)) zq1 hb);have n3_:=zM (blk_below (g:=w2.heap.size) (o:=.cells #[.int .i64 a0_0,.slice A0_1 l0_1.length c0_1] 25 (0,0)) zq15 hb);have n4_:=zM (blk_below (g:=g3) (o:=.cells #[.int .i64 a0_0,.slice (some ⟨w2.heap.size,0,none⟩) 1 1] 29 (0,0)) zq3 hb);clear HB BK1 BK2 BKl BK3;have HB:=n0_;have BK1:=n1_;have BK2:=n2_;have BKl:=n3_;have BK3:=n4_;clear n0_ n1_ n2_ n3_ n4_;clear hb;(try clear hr0 hr1);have hr9:=nr_boximpl _ _ _ _ _ _ BK3.out;obtain⟨hr0,hr1⟩:=hr9)
     | ((with_reducible refine gate_store (t:=31) (p:=2) rfl ?_);refine row_event ?hg (ty:=31) (p:=2) (y:=?yo_48) ?ho ?hn (g:=g2) (old:=#[.int .i64 0,.int .i64 0,.slice none 0 0]) (e:=31) (cells:=#[.int .i64 t,.int .i64 0,.slice none 0 0]) ?hx ?hy ?hk ?hi ?hd ?h1 ?_;(case ho=>rfl);(case hg=>rfl);(case hn=>rfl);(case hx=>rfl);(case hy=>rfl);(case hk=>exact zq1);(case hi=>kernel_rfl);(case hd=>rfl);(case h1=>exact zq133);intro wr_ hbk hgr;have n0_:=zM (below_grown1 zq0 hgr GE2.out);have n1_:=zM (blk_grown1 (g':=g1) (ob:=.cells #[.int .i64 a0_0,.slice A0_1 l0_1.length c0_1] 25 (0,0)) zq18 hgr (blk_ne zq18 zq1 zq16));have n2_:=zM (blk_grown1 (g':=w2.heap.size) (ob:=.cells #[.int .i64 a0_0,.slice A0_1 l0_1.length c0_1] 25 (0,0)) zq15 hgr (blk_ne zq15 zq1 zq16));have n3_:=zM (blk_grown1 (g':=g3) (ob:=.cells #[.int .i64 a0_0,.slice (some ⟨w2.heap.size,0,none⟩) 1 1] 29 (0,0)) zq3 hgr (blk_ne zq3 zq1 zq16));have n4_:=zM hbk;clear HB BK1 BKl BK3 BK2;have HB:=n0_;have BK1:=n1_;have BKl:=n2_;have BK3:=n3_;have BK2:=n4_;clear n0_ n1_ n2_ n3_ n4_;clear hbk hgr))
   refine bodyPost_ret (results_cell_row rfl _ _ g2 31 #[.int .i64 t,.int .i64 0,.slice none 0 0] (0,0) _ rfl zq1 Try.underlying31 rfl (by kernel_rfl)) rfl ?_
   exact⟨_,rfl,Kd.S_nil _ _ _ _ _,HB.out⟩
end Go.Proofs.Ytmnhddedcbkpoaa.All
