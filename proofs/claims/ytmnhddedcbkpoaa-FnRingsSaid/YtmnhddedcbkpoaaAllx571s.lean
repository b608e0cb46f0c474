-- Laid by wip/shake.py of this repo out of this claim's texts. Not trusted: Lean checks it.
import Derived.Test.YtmnhddedcbkpoaaAb0s
import Derived.Test.YtmnhddedcbkpoaaBytes
import Derived.Test.YtmnhddedcbkpoaaAllx6s
import Derived.Test.YtmnhddedcbkpoaaAllx21s
import Derived.Test.YtmnhddedcbkpoaaAllx29s
import Derived.Test.YtmnhddedcbkpoaaAllx30s
import Derived.Test.YtmnhddedcbkpoaaAllx550s
import Derived.Test.YtmnhddedcbkpoaaAllx24s
namespace Go.Proofs.Ytmnhddedcbkpoaa.All
open Go.Proofs.YtmnhddedcbkpoaaW.PrintWords.Aside0 renaming mk→zM
open Go.RowKit Go.Proofs.YtmnhddedcbkpoaaW.PrintWords Go.Proofs.YtmnhddedcbkpoaaW.PrintLast Go.Proofs.YtmnhddedcbkpoaaW.PrintMore
attribute [local go_sem] max2_int min2_int max_two min_two max_three min_three max_four min_four
set_option linter.unusedVariables false
set_option linter.unusedSimpArgs false
theorem keep_grown {w W W1:World} {g g3:Nat} (h:KeepBut w W g none) (hg:W.grownBy W1 (some g3)) (hge:w.heap.size≤g3):KeepBut w W1 g none:=
 KeepBut.trans h (KeepBut.of_grown hg g) (.inr ⟨g3,rfl,hge⟩)
theorem bent_grown {w0 W W1:World} {g3:Nat} (h:Below w0.heap.size w0 W) (hg:W.grownBy W1 (some g3)) (hge:w0.heap.size≤g3):Below w0.heap.size w0 W1:=
 h.grown hg h.size (fun k hk=>by injection hk with hk;omega)
theorem bent_view {W:World} {base g g2:Nat} {v:Value} {l:List S25} {cells:Array Value} (h:Kd.S k25 25 W base (fun k_=>k_≠g) v l) (hb:W.heap[g2]?=some (.cells cells 29 (0,0))):Kd.V k25 25 W base (fun k_=>base≤k_∧k_≠g2) v l:=
 Kd.V_mono (Kd.S_V (Kd.S_bound (Kd.S_types h hb zq17))) (fun k hk=>⟨hk.2.1,hk.1.2⟩)
theorem bent_viewR {W:World} {base g g2 g3:Nat} {v:Value} {l:List S25} {cells cells3:Array Value} (h:Kd.R k25 25 W base (fun k_=>k_≠g) v l) (hb:W.heap[g2]?=some (.cells cells 29 (0,0))) (hb3:W.heap[g3]?=some (.cells cells3 29 (0,0))):Kd.V k25 25 W base (fun k_=>base≤k_∧k_≠g2∧k_≠g3) v l:=
 Kd.V_mono (Kd.R_V (Kd.R_bound (Kd.R_types (Kd.R_types h hb (show ∀ q,q ∈ 25 :: k25.E→q≠29 by decide)) hb3 (show ∀ q,q ∈ 25 :: k25.E→q≠29 by decide)))) (fun k hk=>⟨hk.2.1,hk.1.1.2,hk.1.2⟩)
theorem bent_reads {W:World} {base n c:Nat} {ok:Nat→Prop} {A:Option Addr} {l:List S25} (h:Kd.R k25 25 W base ok (.slice A n c) l):ReadsRow (k25.M W base (fun k=>ok k∧some k≠(Value.slice A n c).ownBlock)) k25.sz W A n l:=by
 have hn:=(Kd.R_reads' h).1
 subst hn
 obtain⟨h0,inner,hown,hr⟩:=h
 obtain⟨A',c',hv,hR⟩:=own_reads_row hown hr rfl
 injection hv with h1 h2 h3
 subst h1 h3
 exact hR
theorem bent_cons {w:World} {base:Nat} {ok:Nat→Prop} {A:Option Addr} {c:Nat} {xs:List S25} (h:Kd.S k25 25 w base ok (.slice A xs.length c) xs) (hn:0 < xs.length):∃ g cur,A=some ⟨g,0,none⟩∧base≤g∧w.heap[g]?=some (Obj.cells cur 25 (0,0)):=by
 obtain⟨g,c',hv,hb,_,cur,hc⟩:=Kd.S_form h hn
 injection hv with h1
 exact⟨g,cur,h1,hb,hc⟩
theorem bent_el {W:World} {base go n c:Nat} {ok:Nat→Prop} {l:List S25} (h:Kd.S k25 25 W base ok (.slice (some ⟨go,0,none⟩) n c) l) (hl:0 < l.length):∃ v1,W.cell? ⟨go,0,none⟩=some (.int .i64 (rd_T25 l 0).f0)∧W.cell? ⟨go,1,none⟩=some v1:=by
 have hn:=(Kd.S_reads' h).1
 obtain⟨oki,cs,hc1,hM,hcell,hoki,hH⟩:=Kd.S_lend h z25 0 zq21 zq21
 obtain⟨v1,rfl,hv⟩:=k25_openM hM
 exact⟨v1,hcell 0 _ rfl,hcell 1 _ rfl⟩
theorem bent_set0 {W:World} {base go n c:Nat} {ok:Nat→Prop} {l:List S25} (h:Kd.S k25 25 W base ok (.slice (some ⟨go,0,none⟩) n c) l) (hl:0 < l.length) (x:Int):Kd.S k25 25 (W.setCell ⟨go,0,none⟩ (.int .i64 x)) base ok (.slice (some ⟨go,0,none⟩) n c) (l.set 0 ⟨x,(rd_T25 l 0).f1⟩)∧W.grownBy (W.setCell ⟨go,0,none⟩ (.int .i64 x)) (some go):=by
 have hn:=(Kd.S_reads' h).1
 obtain⟨oki,cs,hc1,hM,hcell,hoki,hH⟩:=Kd.S_lend h z25 0 zq21 zq21
 obtain⟨v1,rfl,hv⟩:=k25_openM hM
 exact Kd.S_seg (okg:=fun _=>False) (seg:=[.int .i64 x]) (j:=0) (okp:=oki) (x':=(⟨x,(rd_T25 l 0).f1⟩:S25)) (Kd.H_mono hH (fun k hk=>⟨hk,fun e=>e⟩)) zq21 zq21 (show 0+1≤2 by omega) (k25_mkM _ _ _ (⟨x,(rd_T25 l 0).f1⟩:S25) hv) (fun k hk=>.inl hk) (fun k hk=>hk.elim)
theorem bent_set1 {W:World} {base go n c:Nat} {ok okg:Nat→Prop} {l:List S25} {u:Value} {bs:List Int} (h:Kd.S k25 25 W base (fun k=>ok k∧¬ okg k) (.slice (some ⟨go,0,none⟩) n c) l) (hl:0 < l.length) (hu:Kd.R (Kd.int .u8) 5 W base okg u bs) (hg:∀ k,okg k→ok k∧k≠go):Kd.S k25 25 (W.setCell ⟨go,1,none⟩ u) base ok (.slice (some ⟨go,0,none⟩) n c) (l.set 0 ⟨(rd_T25 l 0).f0,bs⟩)∧W.grownBy (W.setCell ⟨go,1,none⟩ u) (some go):=by
 have hn:=(Kd.S_reads' h).1
 obtain⟨oki,cs,hc1,hM,hcell,hoki,hH⟩:=Kd.S_lend h z25 0 zq21 zq21
 obtain⟨v1,rfl,hv⟩:=k25_openM hM
 exact Kd.S_seg (okg:=okg) (seg:=[u]) (j:=1) (okp:=okg) (x':=(⟨(rd_T25 l 0).f0,bs⟩:S25)) hH zq21 zq21 (show 1+1≤2 by omega) (k25_mkM _ _ _ (⟨(rd_T25 l 0).f0,bs⟩:S25) hu) (fun k hk=>.inr hk) hg
theorem lit_C (W:World) (xs:List Int) (cells:Array Value) (n:Nat) (hn:xs.length=n) (hs:n≤9223372036854775807) (hc:cells=(xs.map (Value.int .i64)).toArray):Kd.C (Kd.int .i64) (W.alloc (.cells cells 2)) (some ⟨W.heap.size,0,none⟩) n xs:=by
 refine⟨hn,hs,fun _=>⟨_,rfl,fun j p hj=>⟨[.int .i64 p],rfl,rfl,fun i u hi=>?_⟩⟩⟩
 cases i with
 | succ i=>simp at hi
 | zero=>
  have hu:Value.int .i64 p=u:=by simpa using hi
  subst hu
  have h9:=blk_cell (heap_alloc_new W (.cells cells 2)) j
  have ha:Addr.add ⟨W.heap.size,0,none⟩ (j*(Kd.int .i64).sz+0)=⟨W.heap.size,j,none⟩:=by
   rw[show j*(Kd.int .i64).sz+0=j from by show j*1+0=j;omega]
   unfold Addr.add
   split <;> simp_all
  rw[ha,h9,hc]
  simp[hj]
def spec_l4Bent.T8:Bool × List (List Nat × List Nat):=(true,[([],[]),([0],[0]),([],[]),([],[]),([2,3],[2,3]),([1,0,1,2,3,4],[1]),([5,0,1,2,3,4],[5]),([6,4,4,0,1,2,3,4],[4,6])])
def spec_l4Bent.B8:List Nat:=[0,1,0,0,12,31,63,127]
theorem spec_l4Bent.tab8:rtab .any (opsOf Try.f62 8)=spec_l4Bent.T8:=by kernel_rfl
theorem spec_l4Bent.bits8:waitsOk spec_l4Bent.T8.2 spec_l4Bent.B8=true:=by kernel_rfl
def spec_l4Bent.T10:Bool × List (List Nat × List Nat):=(true,[([],[]),([0],[0]),([],[]),([],[]),([],[]),([3,4],[3,4]),([2,5,5],[2,5]),([1,0,1,2,3,4,5,6],[1]),([7,0,1,2,3,4,5,6],[7]),([8,6,6,0,1,2,3,4,5,6],[6,8])])
def spec_l4Bent.B10:List Nat:=[0,1,0,0,0,24,60,127,255,511]
theorem spec_l4Bent.tab10:rtab .any (opsOf Try.f62 10)=spec_l4Bent.T10:=by kernel_rfl
theorem spec_l4Bent.bits10:waitsOk spec_l4Bent.T10.2 spec_l4Bent.B10=true:=by kernel_rfl
theorem pick_lit {n:Nat} (g:Nat) (s0_0:List Int) (s0_1:Int) (l1:List Int) (r1 r2:Int) (b:Nat) (w0 w:World) (hI:IsS112 w0 w g s0_0 s0_1) (hB:Below w0.heap.size w0 w) (hr1:Kd.C (Kd.int .i64) w (some ⟨b,0,none⟩) n l1) (hn:l1.length=n) (hb:b≠g) (h:spec_l1Pick.f s0_0 s0_1 l1=some (r1,r2)) :
  Calls Try.prog 63 #[.pointer (some ⟨g,0,none⟩),.slice (some ⟨b,0,none⟩) n n] w fun e w'=>e=.returned (.int .i64 r1)∧IsS112 w0 w' g s0_0 r2∧Below w0.heap.size w0 w'∧KeepBut w w' g none:=by
 subst hn
 exact spec_l1Pick.calls g s0_0 s0_1 _ _ l1 r1 r2 w0 w hI hB hr1 (Nat.le_refl _) (fun ad e _=>by injection e with e;rw[← e];exact hb) h
set_option maxHeartbeats 4000000 in
set_option maxRecDepth 100000 in
theorem spec_l4Bent.c0 (k g:Nat) (s0_0:List Int) (s0_1:Int) (w0 w:World) (p:Int) (l:List S25) (s1 n s2:Int) (HI:Aside0 (IsS112 w0 w g s0_0 s0_1)) (HB:Aside0 (Below w0.heap.size w0 w)) (HK:Aside0 (KeepBut w w g none)) (HW0:Aside0 (w0.heap.size≤w.heap.size)) (HD:Aside0 (spec_l4Draw.f k s0_0 s0_1=some (p,l,s1))) (HN:Aside0 (spec_l1Next.f s0_0 s1 14=some (0,s2))) :
  Calls Try.prog 62 #[.pointer (some ⟨g,0,none⟩)] w fun e w'=>∃ v1_:Value,e=.returned (.agg #[.int .i64 p,v1_])∧Kd.V k25 25 w' w.heap.size (fun k_=>(w.heap.size≤k_)) v1_ ([]:List S25)∧IsS112 w0 w' g s0_0 s2∧Below w0.heap.size w0 w'∧KeepBut w w' g none:=by
 go_enter Try.func62,Try.ntmps62
 go_wp2_with (first
   | ((with_reducible refine gate_dst (N:=2) rfl ?_);refine box_event ?hg (N:=2) ?hd (cs:=#[.int .i64 0,.slice none 0 0]) (t:=29) ?hr ?_;(case hd=>rfl);(case hg=>rfl);(case hr=>first|(go_simp;done)|(go_simp;rfl));intro g2 hg w2 hbox hb;have n0_:=zM (show g < g2 by rw[hg];exact IsS112.lt HI.out);have n1_:=zM (show w.heap.size≤g2 by rw[hg];exact keep_size HK.out);have n2_:=zM (IsS112.below zq6 hb);have n3_:=zM (KeepBut.trans zq4 (KeepBut.of_below hb g none) (.inl rfl));have n4_:=zM (below_step zq0 hb);have n5_:=zM hbox;clear HI HK HB;have NG2:=n0_;have GE2:=n1_;have HI:=n2_;have HK:=n3_;have HB:=n4_;have BK2:=n5_;clear n0_ n1_ n2_ n3_ n4_ n5_;clear hb hbox hg)
   | (go_at_call 66;refine(spec_l4Draw.calls k g s0_0 s0_1 p l s1 w0 _ zq6 zq0 HD.out).mono ?_;rintro e wd ⟨v_,rfl,ho_,hi_,hb_,hk_⟩;have hs_:=IsS112.apartS hi_ ho_ zq17;have n0_:=zM hi_;have n1_:=zM (KeepBut.trans zq4 hk_ (.inl rfl));have n2_:=zM hb_;have n3_:=zM (KeepBut.blk (row:=none) hk_ (g':=g2) (o:=.cells #[.int .i64 0,.slice none 0 0] 29 (0,0)) zq1 zq78 zq58);have n4_:=zM (Kd.S_mono (Kd.S_lower hs_ (keep_size zq4)) (ok':=fun k_=>k_≠g) (fun k_ h_=>h_.2));clear HI HK HB BK2;have HI:=n0_;have HK:=n1_;have HB:=n2_;have BK2:=n3_;have HO:=n4_;clear n0_ n1_ n2_ n3_ n4_;clear hi_ hb_ hk_ ho_ hs_;obtain⟨Al,cl,ev_⟩:=Kd.S_slice HO.out;subst ev_)
   | ((with_reducible refine gate_dst (N:=3) rfl ?_);refine box_event ?hg (N:=3) ?hd (cs:=#[.int .i64 0,.slice none 0 0]) (t:=29) ?hr ?_;(case hd=>rfl);(case hg=>rfl);(case hr=>first|(go_simp;done)|(go_simp;rfl));intro g3 hg w3 hbox hb;have n0_:=zM (show g < g3 by rw[hg];exact IsS112.lt HI.out);have n1_:=zM (show w.heap.size≤g3 by rw[hg];exact keep_size HK.out);have n2_:=zM (show g2≠g3 by rw[hg];exact Nat.ne_of_lt (blk_lt (g:=g2) (o:=.cells #[.int .i64 0,.slice none 0 0] 29 (0,0)) zq1));have n3_:=zM (show g3≠g2 by rw[hg];exact Nat.ne_of_gt (blk_lt (g:=g2) (o:=.cells #[.int .i64 0,.slice none 0 0] 29 (0,0)) zq1));have n4_:=zM (IsS112.below zq6 hb);have n5_:=zM (KeepBut.trans zq4 (KeepBut.of_below hb g none) (.inl rfl));have n6_:=zM (below_step zq0 hb);have n7_:=zM (blk_below (g:=g2) (o:=.cells #[.int .i64 0,.slice none 0 0] 29 (0,0)) zq1 hb);have n8_:=zM (Kd.S_below zq22 hb);have n9_:=zM hbox;clear HI HK HB BK2 HO;have NG3:=n0_;have GE3:=n1_;have NE2_3:=n2_;have NE3_2:=n3_;have HI:=n4_;have HK:=n5_;have HB:=n6_;have BK2:=n7_;have HO:=n8_;have BK3:=n9_;clear n0_ n1_ n2_ n3_ n4_ n5_ n6_ n7_ n8_ n9_;clear hb hbox hg)
   | ((with_reducible refine gate_store (t:=29) (p:=3) rfl ?_);refine row_event ?hg (ty:=29) (p:=3) (y:=?yo_187) ?ho ?hn (g:=g3) (old:=#[.int .i64 0,.slice none 0 0]) (e:=29) (cells:=#[.int .i64 p,.slice Al l.length cl]) ?hx ?hy ?hk ?hi ?hd ?h1 ?_;(case ho=>rfl);(case hg=>rfl);(case hn=>rfl);(case hx=>rfl);(case hy=>rfl);(case hk=>exact zq3);(case hi=>kernel_rfl);(case hd=>rfl);(case h1=>exact zq63);intro w4 hbk hgr;have n0_:=zM (IsS112.grown zq6 hgr zq74);have n1_:=zM (keep_grown zq4 hgr GE3.out);have n2_:=zM (bent_grown zq0 hgr (Nat.le_trans HW0.out GE3.out));have n3_:=zM (blk_grown1 (g':=g2) (ob:=.cells #[.int .i64 0,.slice none 0 0] 29 (0,0)) zq1 hgr zq62);have n4_:=zM (Kd.S_mono (Kd.S_grown (Kd.S_types zq22 zq3 zq17) hgr (fun k_ h_ e_=>h_.2 (Option.some.inj e_))) (fun _ h_=>h_.1));have n5_:=zM hbk;clear HI HK HB BK2 HO BK3;have HI:=n0_;have HK:=n1_;have HB:=n2_;have BK2:=n3_;have HO:=n4_;have BK3:=n5_;clear n0_ n1_ n2_ n3_ n4_ n5_;clear hbk hgr;(try clear hp0 hp1 hz0 hz1);have hp9:=ringFault_box _ _ _ _ _ _ BK3.out;obtain⟨hp0,hp1⟩:=hp9;have hz0:=blk_frozen BK3.out 0;have hz1:=blk_frozen BK3.out 1)
   | (go_at_call 95;refine(spec_l1Next.calls g s0_0 s1 14 0 s2 w0 _ zq6 zq0 HN.out).mono ?_;rintro e wn ⟨rfl,hi_,hb_,hk_⟩;have n0_:=zM hi_;have n1_:=zM (KeepBut.trans zq4 hk_ (.inl rfl));have n2_:=zM hb_;have n3_:=zM (KeepBut.blk (row:=none) hk_ (g':=g2) (o:=.cells #[.int .i64 0,.slice none 0 0] 29 (0,0)) zq1 zq78 zq58);have n4_:=zM (KeepBut.blk (row:=none) hk_ (g':=g3) (o:=.cells #[.int .i64 p,.slice Al l.length cl] 29 (0,0)) zq3 zq93 zq58);have n5_:=zM (Kd.S_keep zq22 hk_ (fun k_ h_=>h_));clear HI HK HB BK2 BK3 HO;have HI:=n0_;have HK:=n1_;have HB:=n2_;have BK2:=n3_;have BK3:=n4_;have HO:=n5_;clear n0_ n1_ n2_ n3_ n4_ n5_;clear hi_ hb_ hk_;(try clear hp0 hp1 hz0 hz1);have hp9:=ringFault_box _ _ _ _ _ _ BK3.out;obtain⟨hp0,hp1⟩:=hp9;have hz0:=blk_frozen BK3.out 0;have hz1:=blk_frozen BK3.out 1)
   | ((with_reducible refine gate_store (t:=27) (p:=10) rfl ?_);refine cell_event ?hg (t:=27) (p:=10) (v:=?vo_189) ?ho ?hn (i:=1) (x:=(.slice none 0 0)) (cs:=#[.int .i64 p,.slice Al l.length cl]) (g:=g3) (e:=29) ?hk ?hr (cs':=#[.int .i64 p,.slice none 0 0]) ?hc ?_;(case ho=>rfl);(case hg=>rfl);(case hn=>rfl);(case hk=>exact zq3);(case hr=>first|(go_simp;done)|(go_simp;rfl));(case hc=>rfl);intro w5 hbk hgr;have n0_:=zM (IsS112.grown zq6 hgr zq74);have n1_:=zM (keep_grown zq4 hgr GE3.out);have n2_:=zM (bent_grown zq0 hgr (Nat.le_trans HW0.out GE3.out));have n3_:=zM (blk_grown1 (g':=g2) (ob:=.cells #[.int .i64 0,.slice none 0 0] 29 (0,0)) zq1 hgr zq62);have n4_:=zM hbk;clear HI HK HB BK2 BK3;have HI:=n0_;have HK:=n1_;have HB:=n2_;have BK2:=n3_;have BK3:=n4_;clear n0_ n1_ n2_ n3_ n4_;clear hbk hgr;(try clear hp0 hp1 hz0 hz1);have hp9:=ringFault_box _ _ _ _ _ _ BK3.out;obtain⟨hp0,hp1⟩:=hp9;have hz0:=blk_frozen BK3.out 0;have hz1:=blk_frozen BK3.out 1;clear HO;have HV:=zM (Kd.V_nil k25 25 w5 w.heap.size (fun k_=>w.heap.size≤k_∧k_≠g2)))
   | ((with_reducible refine gate_store (t:=29) (p:=2) rfl ?_);refine row_event ?hg (ty:=29) (p:=2) (y:=?yo_190) ?ho ?hn (g:=g2) (old:=#[.int .i64 0,.slice none 0 0]) (e:=29) (cells:=#[.int .i64 p,.slice none 0 0]) ?hx ?hy ?hk ?hi ?hd ?h1 ?_;(case ho=>rfl);(case hg=>rfl);(case hn=>rfl);(case hx=>rfl);(case hy=>rfl);(case hk=>exact zq1);(case hi=>kernel_rfl);(case hd=>rfl);(case h1=>exact zq63);intro w6 hbk hgr;have n0_:=zM (IsS112.grown zq6 hgr zq90);have n1_:=zM (keep_grown zq4 hgr GE2.out);have n2_:=zM (bent_grown zq0 hgr (Nat.le_trans HW0.out GE2.out));have n3_:=zM (blk_grown1 (g':=g3) (ob:=.cells #[.int .i64 p,.slice none 0 0] 29 (0,0)) zq3 hgr zq62);have n4_:=zM (Kd.V_grown HV.out hgr (fun k_ h_ e_=>absurd (Option.some.inj e_) h_.2));have n5_:=zM hbk;clear HI HK HB BK3 HV BK2;have HI:=n0_;have HK:=n1_;have HB:=n2_;have BK3:=n3_;have HV:=n4_;have BK2:=n5_;clear n0_ n1_ n2_ n3_ n4_ n5_;clear hbk hgr))
 refine bodyPost_ret (results_cell_row rfl _ _ g2 29 #[.int .i64 p,.slice none 0 0] (0,0) _ rfl zq1 Try.underlying29 rfl (by kernel_rfl)) rfl ?_
 exact⟨_,rfl,Kd.V_mono HV.out (fun _ h_=>h_.1),HI.out,HB.out,HK.out⟩
set_option maxHeartbeats 4000000 in
set_option maxRecDepth 100000 in
theorem spec_l4Bent.c5 (k g:Nat) (s0_0:List Int) (s0_1:Int) (w0 w:World) (p:Int) (l:List S25) (s1 n s2:Int) (HI:Aside0 (IsS112 w0 w g s0_0 s0_1)) (HB:Aside0 (Below w0.heap.size w0 w)) (HK:Aside0 (KeepBut w w g none)) (HW0:Aside0 (w0.heap.size≤w.heap.size)) (HD:Aside0 (spec_l4Draw.f k s0_0 s0_1=some (p,l,s1))) (HN:Aside0 (spec_l1Next.f s0_0 s1 14=some (n,s2))) (h0:(n == 0)=false) (h1:(n == 1)=false) (h2:(n == 2)=false) (h3:(n == 3)=false) (h4:(n == 4)=false) :
  Calls Try.prog 62 #[.pointer (some ⟨g,0,none⟩)] w fun e w'=>∃ v1_:Value,e=.returned (.agg #[.int .i64 p,v1_])∧Kd.V k25 25 w' w.heap.size (fun k_=>(w.heap.size≤k_)) v1_ l∧IsS112 w0 w' g s0_0 s2∧Below w0.heap.size w0 w'∧KeepBut w w' g none:=by
 go_enter Try.func62,Try.ntmps62
 go_wp2_with (first
   | ((with_reducible refine gate_dst (N:=2) rfl ?_);refine box_event ?hg (N:=2) ?hd (cs:=#[.int .i64 0,.slice none 0 0]) (t:=29) ?hr ?_;(case hd=>rfl);(case hg=>rfl);(case hr=>first|(go_simp;done)|(go_simp;rfl));intro g2 hg w2 hbox hb;have n0_:=zM (show g < g2 by rw[hg];exact IsS112.lt HI.out);have n1_:=zM (show w.heap.size≤g2 by rw[hg];exact keep_size HK.out);have n2_:=zM (IsS112.below zq6 hb);have n3_:=zM (KeepBut.trans zq4 (KeepBut.of_below hb g none) (.inl rfl));have n4_:=zM (below_step zq0 hb);have n5_:=zM hbox;clear HI HK HB;have NG2:=n0_;have GE2:=n1_;have HI:=n2_;have HK:=n3_;have HB:=n4_;have BK2:=n5_;clear n0_ n1_ n2_ n3_ n4_ n5_;clear hb hbox hg)
   | (go_at_call 66;refine(spec_l4Draw.calls k g s0_0 s0_1 p l s1 w0 _ zq6 zq0 HD.out).mono ?_;rintro e wd ⟨v_,rfl,ho_,hi_,hb_,hk_⟩;have hs_:=IsS112.apartS hi_ ho_ zq17;have n0_:=zM hi_;have n1_:=zM (KeepBut.trans zq4 hk_ (.inl rfl));have n2_:=zM hb_;have n3_:=zM (KeepBut.blk (row:=none) hk_ (g':=g2) (o:=.cells #[.int .i64 0,.slice none 0 0] 29 (0,0)) zq1 zq78 zq58);have n4_:=zM (Kd.S_mono (Kd.S_lower hs_ (keep_size zq4)) (ok':=fun k_=>k_≠g) (fun k_ h_=>h_.2));clear HI HK HB BK2;have HI:=n0_;have HK:=n1_;have HB:=n2_;have BK2:=n3_;have HO:=n4_;clear n0_ n1_ n2_ n3_ n4_;clear hi_ hb_ hk_ ho_ hs_;obtain⟨Al,cl,ev_⟩:=Kd.S_slice HO.out;subst ev_)
   | ((with_reducible refine gate_dst (N:=3) rfl ?_);refine box_event ?hg (N:=3) ?hd (cs:=#[.int .i64 0,.slice none 0 0]) (t:=29) ?hr ?_;(case hd=>rfl);(case hg=>rfl);(case hr=>first|(go_simp;done)|(go_simp;rfl));intro g3 hg w3 hbox hb;have n0_:=zM (show g < g3 by rw[hg];exact IsS112.lt HI.out);have n1_:=zM (show w.heap.size≤g3 by rw[hg];exact keep_size HK.out);have n2_:=zM (show g2≠g3 by rw[hg];exact Nat.ne_of_lt (blk_lt (g:=g2) (o:=.cells #[.int .i64 0,.slice none 0 0] 29 (0,0)) zq1));have n3_:=zM (show g3≠g2 by rw[hg];exact Nat.ne_of_gt (blk_lt (g:=g2) (o:=.cells #[.int .i64 0,.slice none 0 0] 29 (0,0)) zq1));have n4_:=zM (IsS112.below zq6 hb);have n5_:=zM (KeepBut.trans zq4 (KeepBut.of_below hb g none) (.inl rfl));have n6_:=zM (below_step zq0 hb);have n7_:=zM (blk_below (g:=g2) (o:=.cells #[.int .i64 0,.slice none 0 0] 29 (0,0)) zq1 hb);have n8_:=zM (Kd.S_below zq22 hb);have n9_:=zM hbox;clear HI HK HB BK2 HO;have NG3:=n0_;have GE3:=n1_;have NE2_3:=n2_;have NE3_2:=n3_;have HI:=n4_;have HK:=n5_;have HB:=n6_;have BK2:=n7_;have HO:=n8_;have BK3:=n9_;clear n0_ n1_ n2_ n3_ n4_ n5_ n6_ n7_ n8_ n9_;clear hb hbox hg)
   | ((with_reducible refine gate_store (t:=29) (p:=3) rfl ?_);refine row_event ?hg (ty:=29) (p:=3) (y:=?yo_194) ?ho ?hn (g:=g3) (old:=#[.int .i64 0,.slice none 0 0]) (e:=29) (cells:=#[.int .i64 p,.slice Al l.length cl]) ?hx ?hy ?hk ?hi ?hd ?h1 ?_;(case ho=>rfl);(case hg=>rfl);(case hn=>rfl);(case hx=>rfl);(case hy=>rfl);(case hk=>exact zq3);(case hi=>kernel_rfl);(case hd=>rfl);(case h1=>exact zq63);intro w4 hbk hgr;have n0_:=zM (IsS112.grown zq6 hgr zq74);have n1_:=zM (keep_grown zq4 hgr GE3.out);have n2_:=zM (bent_grown zq0 hgr (Nat.le_trans HW0.out GE3.out));have n3_:=zM (blk_grown1 (g':=g2) (ob:=.cells #[.int .i64 0,.slice none 0 0] 29 (0,0)) zq1 hgr zq62);have n4_:=zM (Kd.S_mono (Kd.S_grown (Kd.S_types zq22 zq3 zq17) hgr (fun k_ h_ e_=>h_.2 (Option.some.inj e_))) (fun _ h_=>h_.1));have n5_:=zM hbk;clear HI HK HB BK2 HO BK3;have HI:=n0_;have HK:=n1_;have HB:=n2_;have BK2:=n3_;have HO:=n4_;have BK3:=n5_;clear n0_ n1_ n2_ n3_ n4_ n5_;clear hbk hgr;(try clear hp0 hp1 hz0 hz1);have hp9:=ringFault_box _ _ _ _ _ _ BK3.out;obtain⟨hp0,hp1⟩:=hp9;have hz0:=blk_frozen BK3.out 0;have hz1:=blk_frozen BK3.out 1)
   | (go_at_call 95;refine(spec_l1Next.calls g s0_0 s1 14 n s2 w0 _ zq6 zq0 HN.out).mono ?_;rintro e wn ⟨rfl,hi_,hb_,hk_⟩;have n0_:=zM hi_;have n1_:=zM (KeepBut.trans zq4 hk_ (.inl rfl));have n2_:=zM hb_;have n3_:=zM (KeepBut.blk (row:=none) hk_ (g':=g2) (o:=.cells #[.int .i64 0,.slice none 0 0] 29 (0,0)) zq1 zq78 zq58);have n4_:=zM (KeepBut.blk (row:=none) hk_ (g':=g3) (o:=.cells #[.int .i64 p,.slice Al l.length cl] 29 (0,0)) zq3 zq93 zq58);have n5_:=zM (Kd.S_keep zq22 hk_ (fun k_ h_=>h_));clear HI HK HB BK2 BK3 HO;have HI:=n0_;have HK:=n1_;have HB:=n2_;have BK2:=n3_;have BK3:=n4_;have HO:=n5_;clear n0_ n1_ n2_ n3_ n4_ n5_;clear hi_ hb_ hk_;(try clear hp0 hp1 hz0 hz1);have hp9:=ringFault_box _ _ _ _ _ _ BK3.out;obtain⟨hp0,hp1⟩:=hp9;have hz0:=blk_frozen BK3.out 0;have hz1:=blk_frozen BK3.out 1)
   | ((with_reducible refine gate_store (t:=29) (p:=2) rfl ?_);refine row_event ?hg (ty:=29) (p:=2) (y:=?yo_196) ?ho ?hn (g:=g2) (old:=#[.int .i64 0,.slice none 0 0]) (e:=29) (cells:=#[.int .i64 p,.slice Al l.length cl]) ?hx ?hy ?hk ?hi ?hd ?h1 ?_;(case ho=>rfl);(case hg=>rfl);(case hn=>rfl);(case hx=>rfl);(case hy=>rfl);(case hk=>exact zq1);(case hi=>kernel_rfl);(case hd=>rfl);(case h1=>exact zq63);intro w6 hbk hgr;have HV:=zM (bent_view HO.out BK2.out);clear HO;  have n0_:=zM (IsS112.grown zq6 hgr zq90);have n1_:=zM (keep_grown zq4 hgr GE2.out);have n2_:=zM (bent_grown zq0 hgr (Nat.le_trans HW0.out GE2.out));have n3_:=zM (blk_grown1 (g':=g3) (ob:=.cells #[.int .i64 p,.slice Al l.length cl] 29 (0,0)) zq3 hgr zq62);have n4_:=zM (Kd.V_grown HV.out hgr (fun k_ h_ e_=>absurd (Option.some.inj e_) h_.2));have n5_:=zM hbk;clear HI HK HB BK3 HV BK2;have HI:=n0_;have HK:=n1_;have HB:=n2_;have BK3:=n3_;have HV:=n4_;have BK2:=n5_;clear n0_ n1_ n2_ n3_ n4_ n5_;clear hbk hgr))
 refine bodyPost_ret (results_cell_row rfl _ _ g2 29 #[.int .i64 p,.slice Al l.length cl] (0,0) _ rfl zq1 Try.underlying29 rfl (by kernel_rfl)) rfl ?_
 exact⟨_,rfl,Kd.V_mono HV.out (fun _ h_=>h_.1),HI.out,HB.out,HK.out⟩
set_option maxHeartbeats 4000000 in
set_option maxRecDepth 100000 in
theorem spec_l4Bent.c1 (k g:Nat) (s0_0:List Int) (s0_1:Int) (w0 w:World) (p:Int) (l:List S25) (s1 n s2:Int) (HI:Aside0 (IsS112 w0 w g s0_0 s0_1)) (HB:Aside0 (Below w0.heap.size w0 w)) (HK:Aside0 (KeepBut w w g none)) (HW0:Aside0 (w0.heap.size≤w.heap.size)) (HD:Aside0 (spec_l4Draw.f k s0_0 s0_1=some (p,l,s1))) (HN:Aside0 (spec_l1Next.f s0_0 s1 14=some (1,s2))) (Y:List Int) (NY:Aside0 (Y=[0,200])) (q:Int) (s3:Int) (HP:Aside0 (spec_l1Pick.f s0_0 s2 Y=some (q,s3))) :
  Calls Try.prog 62 #[.pointer (some ⟨g,0,none⟩)] w fun e w'=>∃ v1_:Value,e=.returned (.agg #[.int .i64 q,v1_])∧Kd.V k25 25 w' w.heap.size (fun k_=>(w.heap.size≤k_)) v1_ l∧IsS112 w0 w' g s0_0 s3∧Below w0.heap.size w0 w'∧KeepBut w w' g none:=by
 go_enter Try.func62,Try.ntmps62
 go_wp2_with (first
   | ((with_reducible refine gate_dst (N:=2) rfl ?_);refine box_event ?hg (N:=2) ?hd (cs:=#[.int .i64 0,.slice none 0 0]) (t:=29) ?hr ?_;(case hd=>rfl);(case hg=>rfl);(case hr=>first|(go_simp;done)|(go_simp;rfl));intro g2 hg w2 hbox hb;have n0_:=zM (show g < g2 by rw[hg];exact IsS112.lt HI.out);have n1_:=zM (show w.heap.size≤g2 by rw[hg];exact keep_size HK.out);have n2_:=zM (IsS112.below zq6 hb);have n3_:=zM (KeepBut.trans zq4 (KeepBut.of_below hb g none) (.inl rfl));have n4_:=zM (below_step zq0 hb);have n5_:=zM hbox;clear HI HK HB;have NG2:=n0_;have GE2:=n1_;have HI:=n2_;have HK:=n3_;have HB:=n4_;have BK2:=n5_;clear n0_ n1_ n2_ n3_ n4_ n5_;clear hb hbox hg)
   | (go_at_call 66;refine(spec_l4Draw.calls k g s0_0 s0_1 p l s1 w0 _ zq6 zq0 HD.out).mono ?_;rintro e wd ⟨v_,rfl,ho_,hi_,hb_,hk_⟩;have hs_:=IsS112.apartS hi_ ho_ zq17;have n0_:=zM hi_;have n1_:=zM (KeepBut.trans zq4 hk_ (.inl rfl));have n2_:=zM hb_;have n3_:=zM (KeepBut.blk (row:=none) hk_ (g':=g2) (o:=.cells #[.int .i64 0,.slice none 0 0] 29 (0,0)) zq1 zq78 zq58);have n4_:=zM (Kd.S_mono (Kd.S_lower hs_ (keep_size zq4)) (ok':=fun k_=>k_≠g) (fun k_ h_=>h_.2));clear HI HK HB BK2;have HI:=n0_;have HK:=n1_;have HB:=n2_;have BK2:=n3_;have HO:=n4_;clear n0_ n1_ n2_ n3_ n4_;clear hi_ hb_ hk_ ho_ hs_;obtain⟨Al,cl,ev_⟩:=Kd.S_slice HO.out;subst ev_)
   | ((with_reducible refine gate_dst (N:=3) rfl ?_);refine box_event ?hg (N:=3) ?hd (cs:=#[.int .i64 0,.slice none 0 0]) (t:=29) ?hr ?_;(case hd=>rfl);(case hg=>rfl);(case hr=>first|(go_simp;done)|(go_simp;rfl));intro g3 hg w3 hbox hb;have n0_:=zM (show g < g3 by rw[hg];exact IsS112.lt HI.out);have n1_:=zM (show w.heap.size≤g3 by rw[hg];exact keep_size HK.out);have n2_:=zM (show g2≠g3 by rw[hg];exact Nat.ne_of_lt (blk_lt (g:=g2) (o:=.cells #[.int .i64 0,.slice none 0 0] 29 (0,0)) zq1));have n3_:=zM (show g3≠g2 by rw[hg];exact Nat.ne_of_gt (blk_lt (g:=g2) (o:=.cells #[.int .i64 0,.slice none 0 0] 29 (0,0)) zq1));have n4_:=zM (IsS112.below zq6 hb);have n5_:=zM (KeepBut.trans zq4 (KeepBut.of_below hb g none) (.inl rfl));have n6_:=zM (below_step zq0 hb);have n7_:=zM (blk_below (g:=g2) (o:=.cells #[.int .i64 0,.slice none 0 0] 29 (0,0)) zq1 hb);have n8_:=zM (Kd.S_below zq22 hb);have n9_:=zM hbox;clear HI HK HB BK2 HO;have NG3:=n0_;have GE3:=n1_;have NE2_3:=n2_;have NE3_2:=n3_;have HI:=n4_;have HK:=n5_;have HB:=n6_;have BK2:=n7_;have HO:=n8_;have BK3:=n9_;clear n0_ n1_ n2_ n3_ n4_ n5_ n6_ n7_ n8_ n9_;clear hb hbox hg)
   | ((with_reducible refine gate_store (t:=29) (p:=3) rfl ?_);refine row_event ?hg (ty:=29) (p:=3) (y:=?yo_200) ?ho ?hn (g:=g3) (old:=#[.int .i64 0,.slice none 0 0]) (e:=29) (cells:=#[.int .i64 p,.slice Al l.length cl]) ?hx ?hy ?hk ?hi ?hd ?h1 ?_;(case ho=>rfl);(case hg=>rfl);(case hn=>rfl);(case hx=>rfl);(case hy=>rfl);(case hk=>exact zq3);(case hi=>kernel_rfl);(case hd=>rfl);(case h1=>exact zq63);intro w4 hbk hgr;have n0_:=zM (IsS112.grown zq6 hgr zq74);have n1_:=zM (keep_grown zq4 hgr GE3.out);have n2_:=zM (bent_grown zq0 hgr (Nat.le_trans HW0.out GE3.out));have n3_:=zM (blk_grown1 (g':=g2) (ob:=.cells #[.int .i64 0,.slice none 0 0] 29 (0,0)) zq1 hgr zq62);have n4_:=zM (Kd.S_mono (Kd.S_grown (Kd.S_types zq22 zq3 zq17) hgr (fun k_ h_ e_=>h_.2 (Option.some.inj e_))) (fun _ h_=>h_.1));have n5_:=zM hbk;clear HI HK HB BK2 HO BK3;have HI:=n0_;have HK:=n1_;have HB:=n2_;have BK2:=n3_;have HO:=n4_;have BK3:=n5_;clear n0_ n1_ n2_ n3_ n4_ n5_;clear hbk hgr;(try clear hp0 hp1 hz0 hz1);have hp9:=ringFault_box _ _ _ _ _ _ BK3.out;obtain⟨hp0,hp1⟩:=hp9;have hz0:=blk_frozen BK3.out 0;have hz1:=blk_frozen BK3.out 1)
   | (go_at_call 95;refine(spec_l1Next.calls g s0_0 s1 14 1 s2 w0 _ zq6 zq0 HN.out).mono ?_;rintro e wn ⟨rfl,hi_,hb_,hk_⟩;have n0_:=zM hi_;have n1_:=zM (KeepBut.trans zq4 hk_ (.inl rfl));have n2_:=zM hb_;have n3_:=zM (KeepBut.blk (row:=none) hk_ (g':=g2) (o:=.cells #[.int .i64 0,.slice none 0 0] 29 (0,0)) zq1 zq78 zq58);have n4_:=zM (KeepBut.blk (row:=none) hk_ (g':=g3) (o:=.cells #[.int .i64 p,.slice Al l.length cl] 29 (0,0)) zq3 zq93 zq58);have n5_:=zM (Kd.S_keep zq22 hk_ (fun k_ h_=>h_));clear HI HK HB BK2 BK3 HO;have HI:=n0_;have HK:=n1_;have HB:=n2_;have BK2:=n3_;have BK3:=n4_;have HO:=n5_;clear n0_ n1_ n2_ n3_ n4_ n5_;clear hi_ hb_ hk_;(try clear hp0 hp1 hz0 hz1);have hp9:=ringFault_box _ _ _ _ _ _ BK3.out;obtain⟨hp0,hp1⟩:=hp9;have hz0:=blk_frozen BK3.out 0;have hz1:=blk_frozen BK3.out 1)
   | ((with_reducible refine gate_dst (N:=14) rfl ?_);refine Kd.R_lit (Kd.int .i64) _ 2 ?hg (N:=14) ?hd (xs:=([0,200]:List Int)) (inner:=[.int .i64 0,.int .i64 200]) (ok:=fun _=>True) (okp:=fun _=>True) ?hr ?hp (fun _ hk=>hk) trivial (Below.refl _ _) (Nat.le_refl _) zq58 ?_;(case hd=>rfl);(case hg=>rfl);(case hr=>first|(go_simp;done)|(go_simp;rfl));(case hp=>exact(Reps.one (show Kd.M (Kd.int .i64) _ _ _ 0 [.int .i64 0] from rfl) (Reps.one (show Kd.M (Kd.int .i64) _ _ _ 200 [.int .i64 200] from rfl) (Reps.none _ _))));intro vl wl hol hb hgl hnl;clear hgl hnl;(first|rw[← NY.out] at hol|(simp only[Int.reduceToNat] at hol;rw[← NY.out] at hol));have n0_:=zM (Kd.R_lower hol (keep_size zq4));have n1_:=zM (IsS112.below zq6 hb);have n2_:=zM (KeepBut.trans zq4 (KeepBut.of_below hb g none) (.inl rfl));have n3_:=zM (below_step zq0 hb);have n4_:=zM (blk_below (g:=g2) (o:=.cells #[.int .i64 0,.slice none 0 0] 29 (0,0)) zq1 hb);have n5_:=zM (blk_below (g:=g3) (o:=.cells #[.int .i64 p,.slice Al l.length cl] 29 (0,0)) zq3 hb);have n6_:=zM (Kd.S_below zq22 hb);clear HI HK HB BK2 BK3 HO;have HOl:=n0_;have HI:=n1_;have HK:=n2_;have HB:=n3_;have BK2:=n4_;have BK3:=n5_;have HO:=n6_;clear n0_ n1_ n2_ n3_ n4_ n5_ n6_;clear hb hol;obtain⟨Ao,co,eo⟩:=Kd.R_slice HOl.out;subst eo;(try clear hp0 hp1 hz0 hz1);have hp9:=ringFault_box _ _ _ _ _ _ BK3.out;obtain⟨hp0,hp1⟩:=hp9;have hz0:=blk_frozen BK3.out 0;have hz1:=blk_frozen BK3.out 1)
   | (go_at_call 63;refine(spec_l1Pick.calls g s0_0 s2 _ _ Y q s3 w0 _ zq6 zq0 (Kd.R_reads' HOl.out).2.2 (Kd.R_reads' HOl.out).2.1 (far_slice (IsS112.own_ne HI.out HOl.out zq17)) HP.out).mono ?_;rintro e wp_ ⟨rfl,hi_,hb_,hk_⟩;clear HOl;have n0_:=zM hi_;have n1_:=zM (KeepBut.trans zq4 hk_ (.inl rfl));have n2_:=zM hb_;have n3_:=zM (KeepBut.blk (row:=none) hk_ (g':=g2) (o:=.cells #[.int .i64 0,.slice none 0 0] 29 (0,0)) zq1 zq78 zq58);have n4_:=zM (KeepBut.blk (row:=none) hk_ (g':=g3) (o:=.cells #[.int .i64 p,.slice Al l.length cl] 29 (0,0)) zq3 zq93 zq58);have n5_:=zM (Kd.S_keep zq22 hk_ (fun k_ h_=>h_));clear HI HK HB BK2 BK3 HO;have HI:=n0_;have HK:=n1_;have HB:=n2_;have BK2:=n3_;have BK3:=n4_;have HO:=n5_;clear n0_ n1_ n2_ n3_ n4_ n5_;clear hi_ hb_ hk_;(try clear hp0 hp1 hz0 hz1);have hp9:=ringFault_box _ _ _ _ _ _ BK3.out;obtain⟨hp0,hp1⟩:=hp9;have hz0:=blk_frozen BK3.out 0;have hz1:=blk_frozen BK3.out 1)
   | ((with_reducible refine gate_store (t:=2) (p:=16) rfl ?_);refine cell_event ?hg (t:=2) (p:=16) (v:=?vo_204) ?ho ?hn (i:=0) (x:=(.int .i64 q)) (cs:=#[.int .i64 p,.slice Al l.length cl]) (g:=g3) (e:=29) ?hk ?hr (cs':=#[.int .i64 q,.slice Al l.length cl]) ?hc ?_;(case ho=>rfl);(case hg=>rfl);(case hn=>rfl);(case hk=>exact zq3);(case hr=>first|(go_simp;done)|(go_simp;rfl));(case hc=>rfl);intro w5 hbk hgr;have n0_:=zM (IsS112.grown zq6 hgr zq74);have n1_:=zM (keep_grown zq4 hgr GE3.out);have n2_:=zM (bent_grown zq0 hgr (Nat.le_trans HW0.out GE3.out));have n3_:=zM (blk_grown1 (g':=g2) (ob:=.cells #[.int .i64 0,.slice none 0 0] 29 (0,0)) zq1 hgr zq62);have n4_:=zM (Kd.S_mono (Kd.S_grown (Kd.S_types zq22 zq3 zq17) hgr (fun k_ h_ e_=>h_.2 (Option.some.inj e_))) (fun _ h_=>h_.1));have n5_:=zM hbk;clear HI HK HB BK2 HO BK3;have HI:=n0_;have HK:=n1_;have HB:=n2_;have BK2:=n3_;have HO:=n4_;have BK3:=n5_;clear n0_ n1_ n2_ n3_ n4_ n5_;clear hbk hgr;(try clear hp0 hp1 hz0 hz1);have hp9:=ringFault_box _ _ _ _ _ _ BK3.out;obtain⟨hp0,hp1⟩:=hp9;have hz0:=blk_frozen BK3.out 0;have hz1:=blk_frozen BK3.out 1)
   | ((with_reducible refine gate_store (t:=29) (p:=2) rfl ?_);refine row_event ?hg (ty:=29) (p:=2) (y:=?yo_205) ?ho ?hn (g:=g2) (old:=#[.int .i64 0,.slice none 0 0]) (e:=29) (cells:=#[.int .i64 q,.slice Al l.length cl]) ?hx ?hy ?hk ?hi ?hd ?h1 ?_;(case ho=>rfl);(case hg=>rfl);(case hn=>rfl);(case hx=>rfl);(case hy=>rfl);(case hk=>exact zq1);(case hi=>kernel_rfl);(case hd=>rfl);(case h1=>exact zq63);intro w6 hbk hgr;have HV:=zM (bent_view HO.out BK2.out);clear HO;  have n0_:=zM (IsS112.grown zq6 hgr zq90);have n1_:=zM (keep_grown zq4 hgr GE2.out);have n2_:=zM (bent_grown zq0 hgr (Nat.le_trans HW0.out GE2.out));have n3_:=zM (blk_grown1 (g':=g3) (ob:=.cells #[.int .i64 q,.slice Al l.length cl] 29 (0,0)) zq3 hgr zq62);have n4_:=zM (Kd.V_grown HV.out hgr (fun k_ h_ e_=>absurd (Option.some.inj e_) h_.2));have n5_:=zM hbk;clear HI HK HB BK3 HV BK2;have HI:=n0_;have HK:=n1_;have HB:=n2_;have BK3:=n3_;have HV:=n4_;have BK2:=n5_;clear n0_ n1_ n2_ n3_ n4_ n5_;clear hbk hgr))
 refine bodyPost_ret (results_cell_row rfl _ _ g2 29 #[.int .i64 q,.slice Al l.length cl] (0,0) _ rfl zq1 Try.underlying29 rfl (by kernel_rfl)) rfl ?_
 exact⟨_,rfl,Kd.V_mono HV.out (fun _ h_=>h_.1),HI.out,HB.out,HK.out⟩
set_option maxHeartbeats 4000000 in
set_option maxRecDepth 100000 in
theorem spec_l4Bent.c4 (k g:Nat) (s0_0:List Int) (s0_1:Int) (w0 w:World) (p:Int) (l:List S25) (s1 n s2:Int) (HI:Aside0 (IsS112 w0 w g s0_0 s0_1)) (HB:Aside0 (Below w0.heap.size w0 w)) (HK:Aside0 (KeepBut w w g none)) (HW0:Aside0 (w0.heap.size≤w.heap.size)) (HD:Aside0 (spec_l4Draw.f k s0_0 s0_1=some (p,l,s1))) (HN:Aside0 (spec_l1Next.f s0_0 s1 14=some (4,s2))) (Z:List S25) (HZ:Aside0 (l ++ l=Z)) (HLL:Aside0 ((l.length+l.length)*32≤140737488355328)) :
  Calls Try.prog 62 #[.pointer (some ⟨g,0,none⟩)] w fun e w'=>∃ v1_:Value,e=.returned (.agg #[.int .i64 p,v1_])∧Kd.V k25 25 w' w.heap.size (fun k_=>(w.heap.size≤k_)) v1_ Z∧IsS112 w0 w' g s0_0 s2∧Below w0.heap.size w0 w'∧KeepBut w w' g none:=by
 go_enter Try.func62,Try.ntmps62
 go_wp2_with (first
   | ((with_reducible refine gate_dst (N:=2) rfl ?_);refine box_event ?hg (N:=2) ?hd (cs:=#[.int .i64 0,.slice none 0 0]) (t:=29) ?hr ?_;(case hd=>rfl);(case hg=>rfl);(case hr=>first|(go_simp;done)|(go_simp;rfl));intro g2 hg w2 hbox hb;have n0_:=zM (show g < g2 by rw[hg];exact IsS112.lt HI.out);have n1_:=zM (show w.heap.size≤g2 by rw[hg];exact keep_size HK.out);have n2_:=zM (IsS112.below zq6 hb);have n3_:=zM (KeepBut.trans zq4 (KeepBut.of_below hb g none) (.inl rfl));have n4_:=zM (below_step zq0 hb);have n5_:=zM hbox;clear HI HK HB;have NG2:=n0_;have GE2:=n1_;have HI:=n2_;have HK:=n3_;have HB:=n4_;have BK2:=n5_;clear n0_ n1_ n2_ n3_ n4_ n5_;clear hb hbox hg)
   | (go_at_call 66;refine(spec_l4Draw.calls k g s0_0 s0_1 p l s1 w0 _ zq6 zq0 HD.out).mono ?_;rintro e wd ⟨v_,rfl,ho_,hi_,hb_,hk_⟩;have hs_:=IsS112.apartS hi_ ho_ zq17;have n0_:=zM hi_;have n1_:=zM (KeepBut.trans zq4 hk_ (.inl rfl));have n2_:=zM hb_;have n3_:=zM (KeepBut.blk (row:=none) hk_ (g':=g2) (o:=.cells #[.int .i64 0,.slice none 0 0] 29 (0,0)) zq1 zq78 zq58);have n4_:=zM (Kd.S_mono (Kd.S_lower hs_ (keep_size zq4)) (ok':=fun k_=>k_≠g) (fun k_ h_=>h_.2));clear HI HK HB BK2;have HI:=n0_;have HK:=n1_;have HB:=n2_;have BK2:=n3_;have HO:=n4_;clear n0_ n1_ n2_ n3_ n4_;clear hi_ hb_ hk_ ho_ hs_;obtain⟨Al,cl,ev_⟩:=Kd.S_slice HO.out;subst ev_)
   | ((with_reducible refine gate_dst (N:=3) rfl ?_);refine box_event ?hg (N:=3) ?hd (cs:=#[.int .i64 0,.slice none 0 0]) (t:=29) ?hr ?_;(case hd=>rfl);(case hg=>rfl);(case hr=>first|(go_simp;done)|(go_simp;rfl));intro g3 hg w3 hbox hb;have n0_:=zM (show g < g3 by rw[hg];exact IsS112.lt HI.out);have n1_:=zM (show w.heap.size≤g3 by rw[hg];exact keep_size HK.out);have n2_:=zM (show g2≠g3 by rw[hg];exact Nat.ne_of_lt (blk_lt (g:=g2) (o:=.cells #[.int .i64 0,.slice none 0 0] 29 (0,0)) zq1));have n3_:=zM (show g3≠g2 by rw[hg];exact Nat.ne_of_gt (blk_lt (g:=g2) (o:=.cells #[.int .i64 0,.slice none 0 0] 29 (0,0)) zq1));have n4_:=zM (IsS112.below zq6 hb);have n5_:=zM (KeepBut.trans zq4 (KeepBut.of_below hb g none) (.inl rfl));have n6_:=zM (below_step zq0 hb);have n7_:=zM (blk_below (g:=g2) (o:=.cells #[.int .i64 0,.slice none 0 0] 29 (0,0)) zq1 hb);have n8_:=zM (Kd.S_below zq22 hb);have n9_:=zM hbox;clear HI HK HB BK2 HO;have NG3:=n0_;have GE3:=n1_;have NE2_3:=n2_;have NE3_2:=n3_;have HI:=n4_;have HK:=n5_;have HB:=n6_;have BK2:=n7_;have HO:=n8_;have BK3:=n9_;clear n0_ n1_ n2_ n3_ n4_ n5_ n6_ n7_ n8_ n9_;clear hb hbox hg)
   | ((with_reducible refine gate_store (t:=29) (p:=3) rfl ?_);refine row_event ?hg (ty:=29) (p:=3) (y:=?yo_209) ?ho ?hn (g:=g3) (old:=#[.int .i64 0,.slice none 0 0]) (e:=29) (cells:=#[.int .i64 p,.slice Al l.length cl]) ?hx ?hy ?hk ?hi ?hd ?h1 ?_;(case ho=>rfl);(case hg=>rfl);(case hn=>rfl);(case hx=>rfl);(case hy=>rfl);(case hk=>exact zq3);(case hi=>kernel_rfl);(case hd=>rfl);(case h1=>exact zq63);intro w4 hbk hgr;have n0_:=zM (IsS112.grown zq6 hgr zq74);have n1_:=zM (keep_grown zq4 hgr GE3.out);have n2_:=zM (bent_grown zq0 hgr (Nat.le_trans HW0.out GE3.out));have n3_:=zM (blk_grown1 (g':=g2) (ob:=.cells #[.int .i64 0,.slice none 0 0] 29 (0,0)) zq1 hgr zq62);have n4_:=zM (Kd.S_mono (Kd.S_grown (Kd.S_types zq22 zq3 zq17) hgr (fun k_ h_ e_=>h_.2 (Option.some.inj e_))) (fun _ h_=>h_.1));have n5_:=zM hbk;clear HI HK HB BK2 HO BK3;have HI:=n0_;have HK:=n1_;have HB:=n2_;have BK2:=n3_;have HO:=n4_;have BK3:=n5_;clear n0_ n1_ n2_ n3_ n4_ n5_;clear hbk hgr;(try clear hp0 hp1 hz0 hz1);have hp9:=ringFault_box _ _ _ _ _ _ BK3.out;obtain⟨hp0,hp1⟩:=hp9;have hz0:=blk_frozen BK3.out 0;have hz1:=blk_frozen BK3.out 1)
   | (go_at_call 95;refine(spec_l1Next.calls g s0_0 s1 14 4 s2 w0 _ zq6 zq0 HN.out).mono ?_;rintro e wn ⟨rfl,hi_,hb_,hk_⟩;have n0_:=zM hi_;have n1_:=zM (KeepBut.trans zq4 hk_ (.inl rfl));have n2_:=zM hb_;have n3_:=zM (KeepBut.blk (row:=none) hk_ (g':=g2) (o:=.cells #[.int .i64 0,.slice none 0 0] 29 (0,0)) zq1 zq78 zq58);have n4_:=zM (KeepBut.blk (row:=none) hk_ (g':=g3) (o:=.cells #[.int .i64 p,.slice Al l.length cl] 29 (0,0)) zq3 zq93 zq58);have n5_:=zM (Kd.S_keep zq22 hk_ (fun k_ h_=>h_));clear HI HK HB BK2 BK3 HO;have HI:=n0_;have HK:=n1_;have HB:=n2_;have BK2:=n3_;have BK3:=n4_;have HO:=n5_;clear n0_ n1_ n2_ n3_ n4_ n5_;clear hi_ hb_ hk_;(try clear hp0 hp1 hz0 hz1);have hp9:=ringFault_box _ _ _ _ _ _ BK3.out;obtain⟨hp0,hp1⟩:=hp9;have hz0:=blk_frozen BK3.out 0;have hz1:=blk_frozen BK3.out 1)
   | (at_builtin;refine Kd.R_append_rows k25 (w0:=_) w.heap.size rfl (.tmp 40) (.tmp 42) 27 25 (.agg #[(.int .i64 0),(.slice none 0 0)]) 32 rfl Try.underlying27 info25 rfl zq17 zq17 (.slice Al l.length cl) l l Al l.length cl (fun k_=>k_≠g) _ rfl rfl (Kd.S_R HO.out) (bent_reads (Kd.S_R HO.out)) (fun _ _ h_=>h_) (fun _ h_=>h_) (IsS112.fresh HI.out) (Below.refl _ _) (Nat.le_trans (keep_size (w:=w) (g:=g) (row:=none) HK.out) (Nat.le_refl _)) HLL.out ?_;intro vz wz hoz _ hgz _;rw[HZ.out] at hoz;have n0_:=zM (bent_viewR hoz (blk_grown (g:=g2) BK2.out hgz (Kd.S_ne HO.out BK2.out zq17)) (blk_grown (g:=g3) BK3.out hgz (Kd.S_ne HO.out BK3.out zq17)));have n1_:=zM (IsS112.grown HI.out hgz (IsS112.own_neS HI.out HO.out zq17));have n2_:=zM (KeepBut.trans HK.out (KeepBut.of_grown hgz g) (Kd.S_base2 HO.out));have n3_:=zM (HB.out.grown hgz HB.out.size (fun k_ hk_=>Nat.le_trans HW0.out (Kd.S_base HO.out k_ hk_)));have n4_:=zM (blk_grown (g:=g2) BK2.out hgz (Kd.S_ne HO.out BK2.out zq17));have n5_:=zM (blk_grown (g:=g3) BK3.out hgz (Kd.S_ne HO.out BK3.out zq17));clear HI HK HB BK2 BK3;have HV:=n0_;have HI:=n1_;have HK:=n2_;have HB:=n3_;have BK2:=n4_;have BK3:=n5_;clear n0_ n1_ n2_ n3_ n4_ n5_;clear HO hgz hoz;obtain⟨Az,cz,ez,_,_⟩:=HV.out;subst ez;(try clear hp0 hp1 hz0 hz1);have hp9:=ringFault_box _ _ _ _ _ _ BK3.out;obtain⟨hp0,hp1⟩:=hp9;have hz0:=blk_frozen BK3.out 0;have hz1:=blk_frozen BK3.out 1)
   | ((with_reducible refine gate_store (t:=27) (p:=44) rfl ?_);refine cell_event ?hg (t:=27) (p:=44) (v:=?vo_212) ?ho ?hn (i:=1) (x:=(.slice Az Z.length cz)) (cs:=#[.int .i64 p,.slice Al l.length cl]) (g:=g3) (e:=29) ?hk ?hr (cs':=#[.int .i64 p,.slice Az Z.length cz]) ?hc ?_;(case ho=>rfl);(case hg=>rfl);(case hn=>rfl);(case hk=>exact zq3);(case hr=>first|(go_simp;done)|(go_simp;rfl));(case hc=>rfl);intro w5 hbk hgr;have n0_:=zM (IsS112.grown zq6 hgr zq74);have n1_:=zM (keep_grown zq4 hgr GE3.out);have n2_:=zM (bent_grown zq0 hgr (Nat.le_trans HW0.out GE3.out));have n3_:=zM (blk_grown1 (g':=g2) (ob:=.cells #[.int .i64 0,.slice none 0 0] 29 (0,0)) zq1 hgr zq62);have n4_:=zM hbk;clear HI HK HB BK2 BK3;have HI:=n0_;have HK:=n1_;have HB:=n2_;have BK2:=n3_;have BK3:=n4_;clear n0_ n1_ n2_ n3_ n4_;have HV2:=zM (Kd.V_mono (Kd.V_grown HV.out hgr (fun k_ h_ e_=>absurd (Option.some.inj e_) h_.2.2)) (ok':=fun k_=>w.heap.size≤k_∧k_≠g2) (fun _ h_=>⟨h_.1,h_.2.1⟩));clear HV;have HV:=HV2;clear HV2;clear hbk hgr;(try clear hp0 hp1 hz0 hz1);have hp9:=ringFault_box _ _ _ _ _ _ BK3.out;obtain⟨hp0,hp1⟩:=hp9;have hz0:=blk_frozen BK3.out 0;have hz1:=blk_frozen BK3.out 1)
   | ((with_reducible refine gate_store (t:=29) (p:=2) rfl ?_);refine row_event ?hg (ty:=29) (p:=2) (y:=?yo_213) ?ho ?hn (g:=g2) (old:=#[.int .i64 0,.slice none 0 0]) (e:=29) (cells:=#[.int .i64 p,.slice Az Z.length cz]) ?hx ?hy ?hk ?hi ?hd ?h1 ?_;(case ho=>rfl);(case hg=>rfl);(case hn=>rfl);(case hx=>rfl);(case hy=>rfl);(case hk=>exact zq1);(case hi=>kernel_rfl);(case hd=>rfl);(case h1=>exact zq63);intro w6 hbk hgr;have n0_:=zM (IsS112.grown zq6 hgr zq90);have n1_:=zM (keep_grown zq4 hgr GE2.out);have n2_:=zM (bent_grown zq0 hgr (Nat.le_trans HW0.out GE2.out));have n3_:=zM (blk_grown1 (g':=g3) (ob:=.cells #[.int .i64 p,.slice Az Z.length cz] 29 (0,0)) zq3 hgr zq62);have n4_:=zM (Kd.V_grown HV.out hgr (fun k_ h_ e_=>absurd (Option.some.inj e_) h_.2));have n5_:=zM hbk;clear HI HK HB BK3 HV BK2;have HI:=n0_;have HK:=n1_;have HB:=n2_;have BK3:=n3_;have HV:=n4_;have BK2:=n5_;clear n0_ n1_ n2_ n3_ n4_ n5_;clear hbk hgr))
 refine bodyPost_ret (results_cell_row rfl _ _ g2 29 #[.int .i64 p,.slice Az Z.length cz] (0,0) _ rfl zq1 Try.underlying29 rfl (by kernel_rfl)) rfl ?_
 exact⟨_,rfl,Kd.V_mono HV.out (fun _ h_=>h_.1),HI.out,HB.out,HK.out⟩
set_option maxHeartbeats 4000000 in
set_option maxRecDepth 100000 in
theorem spec_l4Bent.c2 (k g:Nat) (s0_0:List Int) (s0_1:Int) (w0 w:World) (p:Int) (l:List S25) (s1 n s2:Int) (HI:Aside0 (IsS112 w0 w g s0_0 s0_1)) (HB:Aside0 (Below w0.heap.size w0 w)) (HK:Aside0 (KeepBut w w g none)) (HW0:Aside0 (w0.heap.size≤w.heap.size)) (HD:Aside0 (spec_l4Draw.f k s0_0 s0_1=some (p,l,s1))) (HN:Aside0 (spec_l1Next.f s0_0 s1 14=some (2,s2))) (Y:List Int) (x:Int) (s3:Int) (HP:Aside0 (spec_l1Pick.f s0_0 s2 Y=some (x,s3))) (Z:List S25) (HL0:Aside0 (0 < l.length)) (NY:Aside0 (Y=[0,255,256])) (HYn:Aside0 (Y.length=3)) (HZ:Aside0 (l.set 0 ⟨x,(rd_T25 l 0).f1⟩=Z)) :
  Calls Try.prog 62 #[.pointer (some ⟨g,0,none⟩)] w fun e w'=>∃ v1_:Value,e=.returned (.agg #[.int .i64 p,v1_])∧Kd.V k25 25 w' w.heap.size (fun k_=>(w.heap.size≤k_)) v1_ Z∧IsS112 w0 w' g s0_0 s3∧Below w0.heap.size w0 w'∧KeepBut w w' g none:=by
 go_enter Try.func62,Try.ntmps62
 go_wp2_with (first
   | ((with_reducible refine gate_dst (N:=2) rfl ?_);refine box_event ?hg (N:=2) ?hd (cs:=#[.int .i64 0,.slice none 0 0]) (t:=29) ?hr ?_;(case hd=>rfl);(case hg=>rfl);(case hr=>first|(go_simp;done)|(go_simp;rfl));intro g2 hg w2 hbox hb;have n0_:=zM (show g < g2 by rw[hg];exact IsS112.lt HI.out);have n1_:=zM (show w.heap.size≤g2 by rw[hg];exact keep_size HK.out);have n2_:=zM (IsS112.below zq6 hb);have n3_:=zM (KeepBut.trans zq4 (KeepBut.of_below hb g none) (.inl rfl));have n4_:=zM (below_step zq0 hb);have n5_:=zM hbox;clear HI HK HB;have NG2:=n0_;have GE2:=n1_;have HI:=n2_;have HK:=n3_;have HB:=n4_;have BK2:=n5_;clear n0_ n1_ n2_ n3_ n4_ n5_;clear hb hbox hg)
   | (go_at_call 66;refine(spec_l4Draw.calls k g s0_0 s0_1 p l s1 w0 _ zq6 zq0 HD.out).mono ?_;rintro e wd ⟨v_,rfl,ho_,hi_,hb_,hk_⟩;have hs_:=IsS112.apartS hi_ ho_ zq17;have n0_:=zM hi_;have n1_:=zM (KeepBut.trans zq4 hk_ (.inl rfl));have n2_:=zM hb_;have n3_:=zM (KeepBut.blk (row:=none) hk_ (g':=g2) (o:=.cells #[.int .i64 0,.slice none 0 0] 29 (0,0)) zq1 zq78 zq58);have n4_:=zM (Kd.S_mono (Kd.S_lower hs_ (keep_size zq4)) (ok':=fun k_=>k_≠g) (fun k_ h_=>h_.2));clear HI HK HB BK2;have HI:=n0_;have HK:=n1_;have HB:=n2_;have BK2:=n3_;have HO:=n4_;clear n0_ n1_ n2_ n3_ n4_;clear hi_ hb_ hk_ ho_ hs_;obtain⟨Al,cl,ev_⟩:=Kd.S_slice HO.out;subst ev_)
   | ((with_reducible refine gate_dst (N:=3) rfl ?_);refine box_event ?hg (N:=3) ?hd (cs:=#[.int .i64 0,.slice none 0 0]) (t:=29) ?hr ?_;(case hd=>rfl);(case hg=>rfl);(case hr=>first|(go_simp;done)|(go_simp;rfl));intro g3 hg w3 hbox hb;have n0_:=zM (show g < g3 by rw[hg];exact IsS112.lt HI.out);have n1_:=zM (show w.heap.size≤g3 by rw[hg];exact keep_size HK.out);have n2_:=zM (show g2≠g3 by rw[hg];exact Nat.ne_of_lt (blk_lt (g:=g2) (o:=.cells #[.int .i64 0,.slice none 0 0] 29 (0,0)) zq1));have n3_:=zM (show g3≠g2 by rw[hg];exact Nat.ne_of_gt (blk_lt (g:=g2) (o:=.cells #[.int .i64 0,.slice none 0 0] 29 (0,0)) zq1));have n4_:=zM (IsS112.below zq6 hb);have n5_:=zM (KeepBut.trans zq4 (KeepBut.of_below hb g none) (.inl rfl));have n6_:=zM (below_step zq0 hb);have n7_:=zM (blk_below (g:=g2) (o:=.cells #[.int .i64 0,.slice none 0 0] 29 (0,0)) zq1 hb);have n8_:=zM (Kd.S_below zq22 hb);have n9_:=zM hbox;clear HI HK HB BK2 HO;have NG3:=n0_;have GE3:=n1_;have NE2_3:=n2_;have NE3_2:=n3_;have HI:=n4_;have HK:=n5_;have HB:=n6_;have BK2:=n7_;have HO:=n8_;have BK3:=n9_;clear n0_ n1_ n2_ n3_ n4_ n5_ n6_ n7_ n8_ n9_;clear hb hbox hg)
   | ((with_reducible refine gate_store (t:=29) (p:=3) rfl ?_);refine row_event ?hg (ty:=29) (p:=3) (y:=?yo_217) ?ho ?hn (g:=g3) (old:=#[.int .i64 0,.slice none 0 0]) (e:=29) (cells:=#[.int .i64 p,.slice Al l.length cl]) ?hx ?hy ?hk ?hi ?hd ?h1 ?_;(case ho=>rfl);(case hg=>rfl);(case hn=>rfl);(case hx=>rfl);(case hy=>rfl);(case hk=>exact zq3);(case hi=>kernel_rfl);(case hd=>rfl);(case h1=>exact zq63);intro w4 hbk hgr;have n0_:=zM (IsS112.grown zq6 hgr zq74);have n1_:=zM (keep_grown zq4 hgr GE3.out);have n2_:=zM (bent_grown zq0 hgr (Nat.le_trans HW0.out GE3.out));have n3_:=zM (blk_grown1 (g':=g2) (ob:=.cells #[.int .i64 0,.slice none 0 0] 29 (0,0)) zq1 hgr zq62);have n4_:=zM (Kd.S_mono (Kd.S_grown (Kd.S_types zq22 zq3 zq17) hgr (fun k_ h_ e_=>h_.2 (Option.some.inj e_))) (fun _ h_=>h_.1));have n5_:=zM hbk;clear HI HK HB BK2 HO BK3;have HI:=n0_;have HK:=n1_;have HB:=n2_;have BK2:=n3_;have HO:=n4_;have BK3:=n5_;clear n0_ n1_ n2_ n3_ n4_ n5_;clear hbk hgr;(try clear hp0 hp1 hz0 hz1);have hp9:=ringFault_box _ _ _ _ _ _ BK3.out;obtain⟨hp0,hp1⟩:=hp9;have hz0:=blk_frozen BK3.out 0;have hz1:=blk_frozen BK3.out 1)
   | (go_at_call 95;refine(spec_l1Next.calls g s0_0 s1 14 2 s2 w0 _ zq6 zq0 HN.out).mono ?_;rintro e wn ⟨rfl,hi_,hb_,hk_⟩;have n0_:=zM hi_;have n1_:=zM (KeepBut.trans zq4 hk_ (.inl rfl));have n2_:=zM hb_;have n3_:=zM (KeepBut.blk (row:=none) hk_ (g':=g2) (o:=.cells #[.int .i64 0,.slice none 0 0] 29 (0,0)) zq1 zq78 zq58);have n4_:=zM (KeepBut.blk (row:=none) hk_ (g':=g3) (o:=.cells #[.int .i64 p,.slice Al l.length cl] 29 (0,0)) zq3 zq93 zq58);have n5_:=zM (Kd.S_keep zq22 hk_ (fun k_ h_=>h_));clear HI HK HB BK2 BK3 HO;have HI:=n0_;have HK:=n1_;have HB:=n2_;have BK2:=n3_;have BK3:=n4_;have HO:=n5_;clear n0_ n1_ n2_ n3_ n4_ n5_;clear hi_ hb_ hk_;(try clear hp0 hp1 hz0 hz1);have hp9:=ringFault_box _ _ _ _ _ _ BK3.out;obtain⟨hp0,hp1⟩:=hp9;have hz0:=blk_frozen BK3.out 0;have hz1:=blk_frozen BK3.out 1))
 obtain⟨go,cur0,eA,hgo,_⟩:=bent_cons HO.out HL0.out
 subst eA
 have HGO:=zM hgo
 clear hgo
 go_wp2_with fail
 clear hp0 hp1 hz0 hz1
 obtain⟨wx,hwx⟩:∃ wx,wx=wn:=⟨_,rfl⟩
 subst hwx
 have n0_:=zM (below_drew1 HB.out)
 have n1_:=zM (blk_drew BK2.out)
 have n2_:=zM (blk_drew BK3.out)
 have n3_:=zM (Kd.S_drew HO.out)
 have n4_:=zM (IsS112.drew HI.out)
 have n5_:=zM (keep_drew HK.out)
 clear HB BK2 BK3 HO HI HK
 have HB:=n0_
 have BK2:=n1_
 have BK3:=n2_
 have HO:=n3_
 have HI:=n4_
 have HK:=n5_
 clear n0_ n1_ n2_ n3_ n4_ n5_
 refine start_ (n:=8) (S:=fun w'=>w'.cell? ⟨g3,1,none⟩=some (.slice (some ⟨go,0,none⟩) l.length cl)) (ds:=[7]) #[false,false,false,false,false,false,false,false] (by kernel_rfl) rfl rfl ((blk_cell BK3.out 1).trans rfl) (fun hHeld=>?_);refine with_tabW spec_l4Bent.tab8 spec_l4Bent.bits8 (fun HT_ HW_=>?_)
 generalize wx.drew=w9 at HB BK2 BK3 HO HI HK hHeld ⊢
 refine pure_ (i:=0) (N:=some 19) (v:=?_) (a':=?_) #[true,false,false,false,false,false,false,false] rfl rfl (any_of HT_.out (by kernel_rfl)) (fun _ _ _ h=>h) (Or.inl ⟨zq64,?_⟩) ?_ ?_
 rotate_left
 ·intro w'
  go_simp
  with_reducible rfl
 rotate_left
 ·simp only[Act.put,List.setIfInBounds_toArray,List.set_cons_zero,List.set_cons_succ,i64_w,i32_w]
  rfl
 refine take_ (i:=1) (N:=some 20) (v:=?_) (a':=?_) #[true,true,false,false,false,false,false,false] rfl rfl (take_ofW HT_.out HW_.out (by kernel_rfl)) (fun _ _ _ h=>h) (Or.inl ⟨zq64,?_⟩) hHeld ?_ ?_
 rotate_left
 ·rintro w' s0
  go_simp
  with_reducible rfl
 rotate_left
 ·simp only[Act.put,List.setIfInBounds_toArray,List.set_cons_zero,List.set_cons_succ,i64_w,i32_w]
  rfl
 refine pure_ (i:=2) (N:=some 21) (v:=?_) (a':=?_) #[true,true,true,false,false,false,false,false] rfl rfl (any_of HT_.out (by kernel_rfl)) (fun _ _ _ h=>h) (Or.inl ⟨zq64,?_⟩) ?_ ?_
 rotate_left
 ·intro w'
  go_simp
  with_reducible rfl
 rotate_left
 ·simp only[Act.put,List.setIfInBounds_toArray,List.set_cons_zero,List.set_cons_succ,i64_w,i32_w]
  rfl
 refine one_ (i:=3) (N:=some 22) #[true,true,true,true,false,false,false,false] rfl rfl (one_of HT_.out (by kernel_rfl)) zq17 (fun K hK=>?_)
 refine value_ (w1:=?_) (v:=?_) zq64 rfl ?_ ?_
 rotate_left 2
 ·go_simp
  constructor
  ·rfl
  ·rfl
 refine hK.out _ _ ((blk_cell (blk_alloc BK3.out _) 1).trans rfl) (fun hHeld=>?_)
 clear hK K
 refine norm_ (a':=?_) ?_ ?_
 rotate_left
 ·show Act.put _ (some 22) _=_
  simp only[Act.put,List.setIfInBounds_toArray,List.set_cons_zero,List.set_cons_succ,i64_w,i32_w]
  rfl
 have HCl:=zM (lit_C w9 [0,255,256] #[.int .i64 0,.int .i64 255,.int .i64 256] 3 rfl zq17 rfl)
 rw[← NY.out] at HCl
 have HNl:=zM (IsS112.fresh HI.out w9.heap.size (Nat.le_refl _))
 have n0_:=zM (below_alloc HB.out (.cells #[.int .i64 0,.int .i64 255,.int .i64 256] 2))
 have n1_:=zM (blk_alloc BK2.out (.cells #[.int .i64 0,.int .i64 255,.int .i64 256] 2))
 have n2_:=zM (blk_alloc BK3.out (.cells #[.int .i64 0,.int .i64 255,.int .i64 256] 2))
 have n3_:=zM (Kd.S_alloc HO.out (.cells #[.int .i64 0,.int .i64 255,.int .i64 256] 2))
 have n4_:=zM (IsS112.alloc HI.out (.cells #[.int .i64 0,.int .i64 255,.int .i64 256] 2))
 have n5_:=zM (keep_alloc HK.out (.cells #[.int .i64 0,.int .i64 255,.int .i64 256] 2))
 clear HB BK2 BK3 HO HI HK
 have HB:=n0_
 have BK2:=n1_
 have BK3:=n2_
 have HO:=n3_
 have HI:=n4_
 have HK:=n5_
 clear n0_ n1_ n2_ n3_ n4_ n5_
 refine one_ (i:=4) (N:=some 23) #[true,true,true,true,true,false,false,false] rfl rfl (one_of HT_.out (by kernel_rfl)) zq17 (fun K hK=>?_)
 refine goes_ Try.func63 (by kernel_rfl) rfl #[.pointer (some ⟨g,0,none⟩),.slice (some ⟨w9.heap.size,0,none⟩) 3 3] zq64 rfl rfl zq11 ?_
 with_reducible refine(pick_lit (n:=3) g s0_0 s2 Y x s3 w9.heap.size w0 _ HI.out HB.out HCl.out HYn.out HNl.out HP.out).mono ?_
 rintro e w10 ⟨rfl,hi_,hb_,hk_⟩
 refine⟨_,rfl,?_⟩
 have n0_:=zM hb_
 have n1_:=zM (KeepBut.blk (row:=none) hk_ (g':=g2) (o:=.cells #[.int .i64 0,.slice none 0 0] 29 (0,0)) BK2.out zq78 zq58)
 have n2_:=zM (KeepBut.blk (row:=none) hk_ (g':=g3) (o:=.cells #[.int .i64 p,.slice (some ⟨go,0,none⟩) l.length cl] 29 (0,0)) BK3.out zq93 zq58)
 have n3_:=zM (Kd.S_keep HO.out hk_ (fun k_ h_=>h_))
 have n4_:=zM hi_
 have n5_:=zM (KeepBut.trans HK.out hk_ (.inl rfl))
 clear HB BK2 BK3 HO HI HK
 have HB:=n0_
 have BK2:=n1_
 have BK3:=n2_
 have HO:=n3_
 have HI:=n4_
 have HK:=n5_
 clear n0_ n1_ n2_ n3_ n4_ n5_
 clear hi_ hb_ hk_ HCl HNl
 refine hK.out _ _ ((blk_cell BK3.out 1).trans rfl) (fun hHeld=>?_)
 clear hK K
 refine norm_ (a':=?_) ?_ ?_
 rotate_left
 ·show Act.put _ (some 23) _=_
  simp only[Act.put,List.setIfInBounds_toArray,List.set_cons_zero,List.set_cons_succ,i64_w,i32_w]
  rfl
 have hl9:=HL0.out
 refine pure_ (i:=5) (N:=some 24) (v:=?_) (a':=?_) #[true,true,true,true,true,true,false,false] rfl rfl (any_of HT_.out (by kernel_rfl)) (fun _ _ _ h=>h) (Or.inl ⟨zq64,?_⟩) ?_ ?_
 rotate_left
 ·intro w'
  go_simp
  with_reducible rfl
 rotate_left
 ·simp only[Act.put,List.setIfInBounds_toArray,List.set_cons_zero,List.set_cons_succ,i64_w,i32_w]
  rfl
 refine pure_ (i:=6) (N:=some 25) (v:=?_) (a':=?_) #[true,true,true,true,true,true,true,false] rfl rfl (any_of HT_.out (by kernel_rfl)) (fun _ _ _ h=>h) (Or.inl ⟨zq64,?_⟩) ?_ ?_
 rotate_left
 ·intro w'
  go_simp
  with_reducible rfl
 rotate_left
 ·simp only[Act.put,List.setIfInBounds_toArray,List.set_cons_zero,List.set_cons_succ,i64_w,i32_w]
  rfl
 clear hl9
 refine last_ (i:=7) (N:=none) #[true,true,true,true,true,true,true,true] rfl rfl (one_of HT_.out (by kernel_rfl)) zq17 (fun K hK=>?_)
 obtain⟨ve_,he0,he1⟩:=bent_el HO.out HL0.out
 obtain⟨cur_,hcur_⟩:=Kd.S_typed HO.out go rfl
 have hf0:=blk_frozen hcur_ 0
 have hf1:=blk_frozen hcur_ 1
 refine skip_ (w1:=?_) zq64 rfl ?_ ?_
 rotate_left
 ·go_simp
  rfl
 refine hK.out _ _ ?_
 clear hK K
 refine done_ (done_of HT_.out (by kernel_rfl)) ?_
 obtain⟨hO_,hgr⟩:=bent_set0 HO.out HL0.out x
 rw[HZ.out] at hO_
 generalize (w10.setCell ⟨go,0,none⟩ (.int .i64 x))=w12 at hO_ hgr ⊢
 have n0_:=zM (HB.out.grown hgr HB.out.size (fun k_ hk_=>by injection hk_ with hk_;have:=HGO.out;have:=HW0.out;omega))
 have n1_:=zM (blk_grown (g:=g2) BK2.out hgr (Kd.S_ne HO.out BK2.out zq17))
 have n2_:=zM (blk_grown (g:=g3) BK3.out hgr (Kd.S_ne HO.out BK3.out zq17))
 have n3_:=zM (IsS112.grown HI.out hgr (IsS112.own_neS HI.out HO.out zq17))
 have n4_:=zM (KeepBut.trans HK.out (KeepBut.of_grown hgr g) (.inr ⟨go,rfl,HGO.out⟩))
 have n5_:=zM hO_
 clear HB BK2 BK3 HI HK
 have HB:=n0_
 have BK2:=n1_
 have BK3:=n2_
 have HI:=n3_
 have HK:=n4_
 have HOz:=n5_
 clear n0_ n1_ n2_ n3_ n4_ n5_
 clear hO_ hgr HO hcur_ hf0 hf1 he0 he1
 have HO:=HOz
 clear HOz
 (try clear hp0 hp1 hz0 hz1)
 have hp9:=ringFault_box _ _ _ _ _ _ BK3.out
 obtain⟨hp0,hp1⟩:=hp9
 have hz0:=blk_frozen BK3.out 0
 have hz1:=blk_frozen BK3.out 1
 go_wp2_with (first
   | ((with_reducible refine gate_store (t:=29) (p:=2) rfl ?_);refine row_event ?hg (ty:=29) (p:=2) (y:=?yo_219) ?ho ?hn (g:=g2) (old:=#[.int .i64 0,.slice none 0 0]) (e:=29) (cells:=#[.int .i64 p,.slice (some ⟨go,0,none⟩) l.length cl]) ?hx ?hy ?hk ?hi ?hd ?h1 ?_;(case ho=>rfl);(case hg=>rfl);(case hn=>rfl);(case hx=>rfl);(case hy=>rfl);(case hk=>exact zq1);(case hi=>kernel_rfl);(case hd=>rfl);(case h1=>exact zq63);intro w6 hbk hgr;have HV:=zM (bent_view HO.out BK2.out);clear HO;  have n0_:=zM (IsS112.grown zq6 hgr zq90);have n1_:=zM (keep_grown zq4 hgr GE2.out);have n2_:=zM (bent_grown zq0 hgr (Nat.le_trans HW0.out GE2.out));have n3_:=zM (blk_grown1 (g':=g3) (ob:=.cells #[.int .i64 p,.slice (some ⟨go,0,none⟩) l.length cl] 29 (0,0)) zq3 hgr zq62);have n4_:=zM (Kd.V_grown HV.out hgr (fun k_ h_ e_=>absurd (Option.some.inj e_) h_.2));have n5_:=zM hbk;clear HI HK HB BK3 HV BK2;have HI:=n0_;have HK:=n1_;have HB:=n2_;have BK3:=n3_;have HV:=n4_;have BK2:=n5_;clear n0_ n1_ n2_ n3_ n4_ n5_;clear hbk hgr))
 refine bodyPost_ret (results_cell_row rfl _ _ g2 29 #[.int .i64 p,.slice (some ⟨go,0,none⟩) l.length cl] (0,0) _ rfl zq1 Try.underlying29 rfl (by kernel_rfl)) rfl ?_
 exact⟨_,rfl,Kd.V_mono HV.out (fun _ h_=>h_.1),HI.out,HB.out,HK.out⟩
set_option maxHeartbeats 4000000 in
set_option maxRecDepth 100000 in
theorem spec_l4Bent.c3 (k g:Nat) (s0_0:List Int) (s0_1:Int) (w0 w:World) (p:Int) (l:List S25) (s1 n s2:Int) (HI:Aside0 (IsS112 w0 w g s0_0 s0_1)) (HB:Aside0 (Below w0.heap.size w0 w)) (HK:Aside0 (KeepBut w w g none)) (HW0:Aside0 (w0.heap.size≤w.heap.size)) (HD:Aside0 (spec_l4Draw.f k s0_0 s0_1=some (p,l,s1))) (HN:Aside0 (spec_l1Next.f s0_0 s1 14=some (3,s2))) (Y:List Int) (x:Int) (s3:Int) (HP:Aside0 (spec_l1Pick.f s0_0 s2 Y=some (x,s3))) (Z:List S25) (HL0:Aside0 (0 < l.length)) (NY:Aside0 (Y=[15,17])) (HYn:Aside0 (Y.length=2)) (bs:List Int) (s4:Int) (HS:Aside0 (spec_l1Some.f k s0_0 s3 x=some (bs,s4))) (HZ:Aside0 (l.set 0 ⟨(rd_T25 l 0).f0,bs⟩=Z)) :
  Calls Try.prog 62 #[.pointer (some ⟨g,0,none⟩)] w fun e w'=>∃ v1_:Value,e=.returned (.agg #[.int .i64 p,v1_])∧Kd.V k25 25 w' w.heap.size (fun k_=>(w.heap.size≤k_)) v1_ Z∧IsS112 w0 w' g s0_0 s4∧Below w0.heap.size w0 w'∧KeepBut w w' g none:=by
 go_enter Try.func62,Try.ntmps62
 go_wp2_with (first
   | ((with_reducible refine gate_dst (N:=2) rfl ?_);refine box_event ?hg (N:=2) ?hd (cs:=#[.int .i64 0,.slice none 0 0]) (t:=29) ?hr ?_;(case hd=>rfl);(case hg=>rfl);(case hr=>first|(go_simp;done)|(go_simp;rfl));intro g2 hg w2 hbox hb;have n0_:=zM (show g < g2 by rw[hg];exact IsS112.lt HI.out);have n1_:=zM (show w.heap.size≤g2 by rw[hg];exact keep_size HK.out);have n2_:=zM (IsS112.below zq6 hb);have n3_:=zM (KeepBut.trans zq4 (KeepBut.of_below hb g none) (.inl rfl));have n4_:=zM (below_step zq0 hb);have n5_:=zM hbox;clear HI HK HB;have NG2:=n0_;have GE2:=n1_;have HI:=n2_;have HK:=n3_;have HB:=n4_;have BK2:=n5_;clear n0_ n1_ n2_ n3_ n4_ n5_;clear hb hbox hg)
   | (go_at_call 66;refine(spec_l4Draw.calls k g s0_0 s0_1 p l s1 w0 _ zq6 zq0 HD.out).mono ?_;rintro e wd ⟨v_,rfl,ho_,hi_,hb_,hk_⟩;have hs_:=IsS112.apartS hi_ ho_ zq17;have n0_:=zM hi_;have n1_:=zM (KeepBut.trans zq4 hk_ (.inl rfl));have n2_:=zM hb_;have n3_:=zM (KeepBut.blk (row:=none) hk_ (g':=g2) (o:=.cells #[.int .i64 0,.slice none 0 0] 29 (0,0)) zq1 zq78 zq58);have n4_:=zM (Kd.S_mono (Kd.S_lower hs_ (keep_size zq4)) (ok':=fun k_=>k_≠g) (fun k_ h_=>h_.2));clear HI HK HB BK2;have HI:=n0_;have HK:=n1_;have HB:=n2_;have BK2:=n3_;have HO:=n4_;clear n0_ n1_ n2_ n3_ n4_;clear hi_ hb_ hk_ ho_ hs_;obtain⟨Al,cl,ev_⟩:=Kd.S_slice HO.out;subst ev_)
   | ((with_reducible refine gate_dst (N:=3) rfl ?_);refine box_event ?hg (N:=3) ?hd (cs:=#[.int .i64 0,.slice none 0 0]) (t:=29) ?hr ?_;(case hd=>rfl);(case hg=>rfl);(case hr=>first|(go_simp;done)|(go_simp;rfl));intro g3 hg w3 hbox hb;have n0_:=zM (show g < g3 by rw[hg];exact IsS112.lt HI.out);have n1_:=zM (show w.heap.size≤g3 by rw[hg];exact keep_size HK.out);have n2_:=zM (show g2≠g3 by rw[hg];exact Nat.ne_of_lt (blk_lt (g:=g2) (o:=.cells #[.int .i64 0,.slice none 0 0] 29 (0,0)) zq1));have n3_:=zM (show g3≠g2 by rw[hg];exact Nat.ne_of_gt (blk_lt (g:=g2) (o:=.cells #[.int .i64 0,.slice none 0 0] 29 (0,0)) zq1));have n4_:=zM (IsS112.below zq6 hb);have n5_:=zM (KeepBut.trans zq4 (KeepBut.of_below hb g none) (.inl rfl));have n6_:=zM (below_step zq0 hb);have n7_:=zM (blk_below (g:=g2) (o:=.cells #[.int .i64 0,.slice none 0 0] 29 (0,0)) zq1 hb);have n8_:=zM (Kd.S_below zq22 hb);have n9_:=zM hbox;clear HI HK HB BK2 HO;have NG3:=n0_;have GE3:=n1_;have NE2_3:=n2_;have NE3_2:=n3_;have HI:=n4_;have HK:=n5_;have HB:=n6_;have BK2:=n7_;have HO:=n8_;have BK3:=n9_;clear n0_ n1_ n2_ n3_ n4_ n5_ n6_ n7_ n8_ n9_;clear hb hbox hg)
   | ((with_reducible refine gate_store (t:=29) (p:=3) rfl ?_);refine row_event ?hg (ty:=29) (p:=3) (y:=?yo_223) ?ho ?hn (g:=g3) (old:=#[.int .i64 0,.slice none 0 0]) (e:=29) (cells:=#[.int .i64 p,.slice Al l.length cl]) ?hx ?hy ?hk ?hi ?hd ?h1 ?_;(case ho=>rfl);(case hg=>rfl);(case hn=>rfl);(case hx=>rfl);(case hy=>rfl);(case hk=>exact zq3);(case hi=>kernel_rfl);(case hd=>rfl);(case h1=>exact zq63);intro w4 hbk hgr;have n0_:=zM (IsS112.grown zq6 hgr zq74);have n1_:=zM (keep_grown zq4 hgr GE3.out);have n2_:=zM (bent_grown zq0 hgr (Nat.le_trans HW0.out GE3.out));have n3_:=zM (blk_grown1 (g':=g2) (ob:=.cells #[.int .i64 0,.slice none 0 0] 29 (0,0)) zq1 hgr zq62);have n4_:=zM (Kd.S_mono (Kd.S_grown (Kd.S_types zq22 zq3 zq17) hgr (fun k_ h_ e_=>h_.2 (Option.some.inj e_))) (fun _ h_=>h_.1));have n5_:=zM hbk;clear HI HK HB BK2 HO BK3;have HI:=n0_;have HK:=n1_;have HB:=n2_;have BK2:=n3_;have HO:=n4_;have BK3:=n5_;clear n0_ n1_ n2_ n3_ n4_ n5_;clear hbk hgr;(try clear hp0 hp1 hz0 hz1);have hp9:=ringFault_box _ _ _ _ _ _ BK3.out;obtain⟨hp0,hp1⟩:=hp9;have hz0:=blk_frozen BK3.out 0;have hz1:=blk_frozen BK3.out 1)
   | (go_at_call 95;refine(spec_l1Next.calls g s0_0 s1 14 3 s2 w0 _ zq6 zq0 HN.out).mono ?_;rintro e wn ⟨rfl,hi_,hb_,hk_⟩;have n0_:=zM hi_;have n1_:=zM (KeepBut.trans zq4 hk_ (.inl rfl));have n2_:=zM hb_;have n3_:=zM (KeepBut.blk (row:=none) hk_ (g':=g2) (o:=.cells #[.int .i64 0,.slice none 0 0] 29 (0,0)) zq1 zq78 zq58);have n4_:=zM (KeepBut.blk (row:=none) hk_ (g':=g3) (o:=.cells #[.int .i64 p,.slice Al l.length cl] 29 (0,0)) zq3 zq93 zq58);have n5_:=zM (Kd.S_keep zq22 hk_ (fun k_ h_=>h_));clear HI HK HB BK2 BK3 HO;have HI:=n0_;have HK:=n1_;have HB:=n2_;have BK2:=n3_;have BK3:=n4_;have HO:=n5_;clear n0_ n1_ n2_ n3_ n4_ n5_;clear hi_ hb_ hk_;(try clear hp0 hp1 hz0 hz1);have hp9:=ringFault_box _ _ _ _ _ _ BK3.out;obtain⟨hp0,hp1⟩:=hp9;have hz0:=blk_frozen BK3.out 0;have hz1:=blk_frozen BK3.out 1))
 obtain⟨go,cur0,eA,hgo,_⟩:=bent_cons HO.out HL0.out
 subst eA
 have HGO:=zM hgo
 clear hgo
 go_wp2_with fail
 clear hp0 hp1 hz0 hz1
 obtain⟨wx,hwx⟩:∃ wx,wx=wn:=⟨_,rfl⟩
 subst hwx
 have n0_:=zM (below_drew1 HB.out)
 have n1_:=zM (blk_drew BK2.out)
 have n2_:=zM (blk_drew BK3.out)
 have n3_:=zM (Kd.S_drew HO.out)
 have n4_:=zM (IsS112.drew HI.out)
 have n5_:=zM (keep_drew HK.out)
 clear HB BK2 BK3 HO HI HK
 have HB:=n0_
 have BK2:=n1_
 have BK3:=n2_
 have HO:=n3_
 have HI:=n4_
 have HK:=n5_
 clear n0_ n1_ n2_ n3_ n4_ n5_
 refine start_ (n:=10) (S:=fun w'=>w'.cell? ⟨g3,1,none⟩=some (.slice (some ⟨go,0,none⟩) l.length cl)) (ds:=[9]) #[false,false,false,false,false,false,false,false,false,false] (by kernel_rfl) rfl rfl ((blk_cell BK3.out 1).trans rfl) (fun hHeld=>?_);refine with_tabW spec_l4Bent.tab10 spec_l4Bent.bits10 (fun HT_ HW_=>?_)
 generalize wx.drew=w9 at HB BK2 BK3 HO HI HK hHeld ⊢
 refine pure_ (i:=0) (N:=some 28) (v:=?_) (a':=?_) #[true,false,false,false,false,false,false,false,false,false] rfl rfl (any_of HT_.out (by kernel_rfl)) (fun _ _ _ h=>h) (Or.inl ⟨zq64,?_⟩) ?_ ?_
 rotate_left
 ·intro w'
  go_simp
  with_reducible rfl
 rotate_left
 ·simp only[Act.put,List.setIfInBounds_toArray,List.set_cons_zero,List.set_cons_succ,i64_w,i32_w]
  rfl
 refine take_ (i:=1) (N:=some 29) (v:=?_) (a':=?_) #[true,true,false,false,false,false,false,false,false,false] rfl rfl (take_ofW HT_.out HW_.out (by kernel_rfl)) (fun _ _ _ h=>h) (Or.inl ⟨zq64,?_⟩) hHeld ?_ ?_
 rotate_left
 ·rintro w' s0
  go_simp
  with_reducible rfl
 rotate_left
 ·simp only[Act.put,List.setIfInBounds_toArray,List.set_cons_zero,List.set_cons_succ,i64_w,i32_w]
  rfl
 refine pure_ (i:=2) (N:=some 30) (v:=?_) (a':=?_) #[true,true,true,false,false,false,false,false,false,false] rfl rfl (any_of HT_.out (by kernel_rfl)) (fun _ _ _ h=>h) (Or.inl ⟨zq64,?_⟩) ?_ ?_
 rotate_left
 ·intro w'
  go_simp
  with_reducible rfl
 rotate_left
 ·simp only[Act.put,List.setIfInBounds_toArray,List.set_cons_zero,List.set_cons_succ,i64_w,i32_w]
  rfl
 refine pure_ (i:=3) (N:=some 31) (v:=?_) (a':=?_) #[true,true,true,true,false,false,false,false,false,false] rfl rfl (any_of HT_.out (by kernel_rfl)) (fun _ _ _ h=>h) (Or.inl ⟨zq64,?_⟩) ?_ ?_
 rotate_left
 ·intro w'
  go_simp
  with_reducible rfl
 rotate_left
 ·simp only[Act.put,List.setIfInBounds_toArray,List.set_cons_zero,List.set_cons_succ,i64_w,i32_w]
  rfl
 refine one_ (i:=4) (N:=some 32) #[true,true,true,true,true,false,false,false,false,false] rfl rfl (one_of HT_.out (by kernel_rfl)) zq17 (fun K hK=>?_)
 refine value_ (w1:=?_) (v:=?_) zq64 rfl ?_ ?_
 rotate_left 2
 ·go_simp
  constructor
  ·rfl
  ·rfl
 refine hK.out _ _ ((blk_cell (blk_alloc BK3.out _) 1).trans rfl) (fun hHeld=>?_)
 clear hK K
 refine norm_ (a':=?_) ?_ ?_
 rotate_left
 ·show Act.put _ (some 32) _=_
  simp only[Act.put,List.setIfInBounds_toArray,List.set_cons_zero,List.set_cons_succ,i64_w,i32_w]
  rfl
 have HCl:=zM (lit_C w9 [15,17] #[.int .i64 15,.int .i64 17] 2 rfl zq17 rfl)
 rw[← NY.out] at HCl
 have HNl:=zM (IsS112.fresh HI.out w9.heap.size (Nat.le_refl _))
 have n0_:=zM (below_alloc HB.out (.cells #[.int .i64 15,.int .i64 17] 2))
 have n1_:=zM (blk_alloc BK2.out (.cells #[.int .i64 15,.int .i64 17] 2))
 have n2_:=zM (blk_alloc BK3.out (.cells #[.int .i64 15,.int .i64 17] 2))
 have n3_:=zM (Kd.S_alloc HO.out (.cells #[.int .i64 15,.int .i64 17] 2))
 have n4_:=zM (IsS112.alloc HI.out (.cells #[.int .i64 15,.int .i64 17] 2))
 have n5_:=zM (keep_alloc HK.out (.cells #[.int .i64 15,.int .i64 17] 2))
 clear HB BK2 BK3 HO HI HK
 have HB:=n0_
 have BK2:=n1_
 have BK3:=n2_
 have HO:=n3_
 have HI:=n4_
 have HK:=n5_
 clear n0_ n1_ n2_ n3_ n4_ n5_
 refine one_ (i:=5) (N:=some 33) #[true,true,true,true,true,true,false,false,false,false] rfl rfl (one_of HT_.out (by kernel_rfl)) zq17 (fun K hK=>?_)
 refine goes_ Try.func63 (by kernel_rfl) rfl #[.pointer (some ⟨g,0,none⟩),.slice (some ⟨w9.heap.size,0,none⟩) 2 2] zq64 rfl rfl zq11 ?_
 with_reducible refine(pick_lit (n:=2) g s0_0 s2 Y x s3 w9.heap.size w0 _ HI.out HB.out HCl.out HYn.out HNl.out HP.out).mono ?_
 rintro e w10 ⟨rfl,hi_,hb_,hk_⟩
 refine⟨_,rfl,?_⟩
 have n0_:=zM hb_
 have n1_:=zM (KeepBut.blk (row:=none) hk_ (g':=g2) (o:=.cells #[.int .i64 0,.slice none 0 0] 29 (0,0)) BK2.out zq78 zq58)
 have n2_:=zM (KeepBut.blk (row:=none) hk_ (g':=g3) (o:=.cells #[.int .i64 p,.slice (some ⟨go,0,none⟩) l.length cl] 29 (0,0)) BK3.out zq93 zq58)
 have n3_:=zM (Kd.S_keep HO.out hk_ (fun k_ h_=>h_))
 have n4_:=zM hi_
 have n5_:=zM (KeepBut.trans HK.out hk_ (.inl rfl))
 clear HB BK2 BK3 HO HI HK
 have HB:=n0_
 have BK2:=n1_
 have BK3:=n2_
 have HO:=n3_
 have HI:=n4_
 have HK:=n5_
 clear n0_ n1_ n2_ n3_ n4_ n5_
 clear hi_ hb_ hk_ HCl HNl
 refine hK.out _ _ ((blk_cell BK3.out 1).trans rfl) (fun hHeld=>?_)
 clear hK K
 refine norm_ (a':=?_) ?_ ?_
 rotate_left
 ·show Act.put _ (some 33) _=_
  simp only[Act.put,List.setIfInBounds_toArray,List.set_cons_zero,List.set_cons_succ,i64_w,i32_w]
  rfl
 refine one_ (i:=6) (N:=some 34) #[true,true,true,true,true,true,true,false,false,false] rfl rfl (one_of HT_.out (by kernel_rfl)) zq17 (fun K hK=>?_)
 refine goes_ Try.func96 (by kernel_rfl) rfl #[.pointer (some ⟨g,0,none⟩),.int .i64 x] zq64 rfl rfl zq11 ?_
 with_reducible refine(spec_l1Some.calls k g s0_0 s3 x bs s4 w0 _ HI.out HB.out HS.out).mono ?_
 rintro e w11 ⟨vb,rfl,hob,hi_,hb_,hk_⟩
 refine⟨_,rfl,?_⟩
 have hx_:=IsS112.apart hi_ hob zq17
 have hy_:=Kd.S_mono (Kd.S_oldK (ok:=fun k_=>k_≠g) (Kd.S_mono HO.out (fun _ h_=>⟨h_,h_⟩)) hk_) (ok':=fun k_=>k_≠g∧¬ (some k_=vb.ownBlock)) (fun k_ h_=>⟨h_.1,fun e_=>by have:=Kd.R_base hob k_ e_.symm;have:=h_.2;omega⟩)
 have n0_:=zM hb_
 have n1_:=zM (KeepBut.blk (row:=none) hk_ (g':=g2) (o:=.cells #[.int .i64 0,.slice none 0 0] 29 (0,0)) BK2.out zq78 zq58)
 have n2_:=zM (KeepBut.blk (row:=none) hk_ (g':=g3) (o:=.cells #[.int .i64 p,.slice (some ⟨go,0,none⟩) l.length cl] 29 (0,0)) BK3.out zq93 zq58)
 have n3_:=zM hi_
 have n4_:=zM (KeepBut.trans HK.out hk_ (.inl rfl))
 have n5_:=zM hy_
 have n6_:=zM (Kd.R_mono (Kd.R_tight rfl (Kd.R_lower hx_ (Nat.le_trans (keep_size (w:=w) (g:=g) (row:=none) HK.out) (Nat.le_refl _)))) (fun _ h_=>h_))
 have n7_:=zM (show ∀ k_,some k_=vb.ownBlock→k_≠g∧k_≠go from fun k_ e_=>⟨(hx_.1 k_ e_.symm).2,fun e2_=>by have:=Kd.R_base hob k_ e_.symm;have:=Kd.S_lt HO.out go rfl;omega⟩)
 clear HB BK2 BK3 HI HK HO
 have HB:=n0_
 have BK2:=n1_
 have BK3:=n2_
 have HI:=n3_
 have HK:=n4_
 have HO:=n5_
 have Hvb:=n6_
 have Hng:=n7_
 clear n0_ n1_ n2_ n3_ n4_ n5_ n6_ n7_
 clear hi_ hb_ hk_ hob hx_ hy_
 obtain⟨Ab,cb,eb_⟩:=Kd.R_slice Hvb.out
 subst eb_
 refine hK.out _ _ ((blk_cell BK3.out 1).trans rfl) (fun hHeld=>?_)
 clear hK K
 refine norm_ (a':=?_) ?_ ?_
 rotate_left
 ·show Act.put _ (some 34) _=_
  simp only[Act.put,List.setIfInBounds_toArray,List.set_cons_zero,List.set_cons_succ,i64_w,i32_w]
  rfl
 have hl9:=HL0.out
 refine pure_ (i:=7) (N:=some 35) (v:=?_) (a':=?_) #[true,true,true,true,true,true,true,true,false,false] rfl rfl (any_of HT_.out (by kernel_rfl)) (fun _ _ _ h=>h) (Or.inl ⟨zq64,?_⟩) ?_ ?_
 rotate_left
 ·intro w'
  go_simp
  with_reducible rfl
 rotate_left
 ·simp only[Act.put,List.setIfInBounds_toArray,List.set_cons_zero,List.set_cons_succ,i64_w,i32_w]
  rfl
 refine pure_ (i:=8) (N:=some 36) (v:=?_) (a':=?_) #[true,true,true,true,true,true,true,true,true,false] rfl rfl (any_of HT_.out (by kernel_rfl)) (fun _ _ _ h=>h) (Or.inl ⟨zq64,?_⟩) ?_ ?_
 rotate_left
 ·intro w'
  go_simp
  with_reducible rfl
 rotate_left
 ·simp only[Act.put,List.setIfInBounds_toArray,List.set_cons_zero,List.set_cons_succ,i64_w,i32_w]
  rfl
 clear hl9
 refine last_ (i:=9) (N:=none) #[true,true,true,true,true,true,true,true,true,true] rfl rfl (one_of HT_.out (by kernel_rfl)) zq17 (fun K hK=>?_)
 obtain⟨ve_,he0,he1⟩:=bent_el HO.out HL0.out
 obtain⟨cur_,hcur_⟩:=Kd.S_typed HO.out go rfl
 have hf0:=blk_frozen hcur_ 0
 have hf1:=blk_frozen hcur_ 1
 refine skip_ (w1:=?_) zq64 rfl ?_ ?_
 rotate_left
 ·go_simp
  rfl
 refine hK.out _ _ ?_
 clear hK K
 refine done_ (done_of HT_.out (by kernel_rfl)) ?_
 obtain⟨hO_,hgr⟩:=bent_set1 (ok:=fun k_=>k_≠g) (okg:=fun k_=>some k_=(Value.slice Ab bs.length cb).ownBlock) HO.out HL0.out Hvb.out Hng.out
 rw[HZ.out] at hO_
 generalize (w11.setCell ⟨go,1,none⟩ (.slice Ab bs.length cb))=w12 at hO_ hgr ⊢
 have n0_:=zM (HB.out.grown hgr HB.out.size (fun k_ hk_=>by injection hk_ with hk_;have:=HGO.out;have:=HW0.out;omega))
 have n1_:=zM (blk_grown (g:=g2) BK2.out hgr (Kd.S_ne HO.out BK2.out zq17))
 have n2_:=zM (blk_grown (g:=g3) BK3.out hgr (Kd.S_ne HO.out BK3.out zq17))
 have n3_:=zM (IsS112.grown HI.out hgr (IsS112.own_neS HI.out HO.out zq17))
 have n4_:=zM (KeepBut.trans HK.out (KeepBut.of_grown hgr g) (.inr ⟨go,rfl,HGO.out⟩))
 have n5_:=zM hO_
 clear HB BK2 BK3 HI HK
 have HB:=n0_
 have BK2:=n1_
 have BK3:=n2_
 have HI:=n3_
 have HK:=n4_
 have HOz:=n5_
 clear n0_ n1_ n2_ n3_ n4_ n5_
 clear hO_ hgr HO hcur_ hf0 hf1 he0 he1 Hvb Hng
 have HO:=HOz
 clear HOz
 (try clear hp0 hp1 hz0 hz1)
 have hp9:=ringFault_box _ _ _ _ _ _ BK3.out
 obtain⟨hp0,hp1⟩:=hp9
 have hz0:=blk_frozen BK3.out 0
 have hz1:=blk_frozen BK3.out 1
 go_wp2_with (first
   | ((with_reducible refine gate_store (t:=29) (p:=2) rfl ?_);refine row_event ?hg (ty:=29) (p:=2) (y:=?yo_225) ?ho ?hn (g:=g2) (old:=#[.int .i64 0,.slice none 0 0]) (e:=29) (cells:=#[.int .i64 p,.slice (some ⟨go,0,none⟩) l.length cl]) ?hx ?hy ?hk ?hi ?hd ?h1 ?_;(case ho=>rfl);(case hg=>rfl);(case hn=>rfl);(case hx=>rfl);(case hy=>rfl);(case hk=>exact zq1);(case hi=>kernel_rfl);(case hd=>rfl);(case h1=>exact zq63);intro w6 hbk hgr;have HV:=zM (bent_view HO.out BK2.out);clear HO;  have n0_:=zM (IsS112.grown zq6 hgr zq90);have n1_:=zM (keep_grown zq4 hgr GE2.out);have n2_:=zM (bent_grown zq0 hgr (Nat.le_trans HW0.out GE2.out));have n3_:=zM (blk_grown1 (g':=g3) (ob:=.cells #[.int .i64 p,.slice (some ⟨go,0,none⟩) l.length cl] 29 (0,0)) zq3 hgr zq62);have n4_:=zM (Kd.V_grown HV.out hgr (fun k_ h_ e_=>absurd (Option.some.inj e_) h_.2));have n5_:=zM hbk;clear HI HK HB BK3 HV BK2;have HI:=n0_;have HK:=n1_;have HB:=n2_;have BK3:=n3_;have HV:=n4_;have BK2:=n5_;clear n0_ n1_ n2_ n3_ n4_ n5_;clear hbk hgr))
 refine bodyPost_ret (results_cell_row rfl _ _ g2 29 #[.int .i64 p,.slice (some ⟨go,0,none⟩) l.length cl] (0,0) _ rfl zq1 Try.underlying29 rfl (by kernel_rfl)) rfl ?_
 exact⟨_,rfl,Kd.V_mono HV.out (fun _ h_=>h_.1),HI.out,HB.out,HK.out⟩
def spec_l4Bent.f (k:Nat) (s0_0:List Int) (s0_1:Int):Option (Int × List S25 × Int):=(spec_l4Draw.f k s0_0 s0_1).bind fun t=>(spec_l1Next.f s0_0 t.2.2 14).bind fun u=>if u.1=0 then some (t.1,[],u.2) else if u.1=1 then (spec_l1Pick.f s0_0 u.2 [0,200]).bind fun q=>some (q.1,t.2.1,q.2) else if u.1=2 then (spec_l1Pick.f s0_0 u.2 [0,255,256]).bind fun q=>if 0 < t.2.1.length then some (t.1,t.2.1.set 0 ⟨q.1,(rd_T25 t.2.1 0).f1⟩,q.2) else none else if u.1=3 then (spec_l1Pick.f s0_0 u.2 [15,17]).bind fun q=>(spec_l1Some.f k s0_0 q.2 q.1).bind fun b=>if 0 < t.2.1.length then some (t.1,t.2.1.set 0 ⟨(rd_T25 t.2.1 0).f0,b.1⟩,b.2) else none else if u.1=4 then (if (t.2.1.length+t.2.1.length)*32≤140737488355328 then some (t.1,t.2.1 ++ t.2.1,u.2) else none) else some (t.1,t.2.1,u.2)
theorem spec_l4Bent.mono:∀ a0 a1 k,LeO (spec_l4Bent.f k a0 a1) (spec_l4Bent.f (k+1) a0 a1):=by
 intro a0 a1 k
 unfold spec_l4Bent.f
 repeat' first
  | (with_reducible exact LeO.refl _)
  | (with_reducible exact LeO.none _)
  | (with_reducible exact spec_l4Draw.mono _ _ _)
  | (with_reducible exact spec_l1Some.mono _ _ _ _)
  | (with_reducible refine LeO.ite ?_ ?_)
  | (with_reducible refine LeO.bind ?_ (fun _=>?_))
theorem spec_l4Bent.calls (k:Nat) (g:Nat) (s0_0:List Int) (s0_1:Int) (r1:Int) (r2:List S25) (r3:Int) (w0 w:World) (hI:IsS112 w0 w g s0_0 s0_1) (hB:Below w0.heap.size w0 w) (h:spec_l4Bent.f k s0_0 s0_1=some (r1,r2,r3)) :
  Calls Try.prog 62 #[.pointer (some ⟨g,0,none⟩)] w fun e w'=>∃ v1_:Value,e=.returned (.agg #[.int .i64 r1,v1_])∧Kd.V k25 25 w' w.heap.size (fun k_=>(w.heap.size≤k_)) v1_ r2∧IsS112 w0 w' g s0_0 r3∧Below w0.heap.size w0 w'∧KeepBut w w' g none:=by
 unfold spec_l4Bent.f at h
 have HI:=zM hI
 have HB:=zM hB
 have HW0:=zM hB.size
 have HK:=zM (KeepBut.refl w g none)
 clear hI hB
 obtain⟨⟨p,l,s1⟩,hd,h⟩:=Option.bind_eq_some_iff.mp h
 have HD:=zM hd
 clear hd
 obtain⟨⟨n,s2⟩,hn,h⟩:=Option.bind_eq_some_iff.mp h
 have HN:=zM hn
 clear hn
 simp only at h
 by_cases h0:n=0
 ·subst h0
  rw[if_pos rfl] at h
  simp only[Option.some.injEq,Prod.mk.injEq] at h
  obtain⟨rfl,rfl,rfl⟩:=h
  exact spec_l4Bent.c0 k g s0_0 s0_1 w0 w p l s1 0 s2 HI HB HK HW0 HD HN
 rw[if_neg h0] at h
 by_cases h1:n=1
 ·subst h1
  rw[if_pos rfl] at h
  obtain⟨⟨q,s3⟩,hp,h⟩:=Option.bind_eq_some_iff.mp h
  simp only[Option.some.injEq,Prod.mk.injEq] at h
  obtain⟨rfl,rfl,rfl⟩:=h
  exact spec_l4Bent.c1 k g s0_0 s0_1 w0 w p l s1 1 s2 HI HB HK HW0 HD HN _ ⟨rfl⟩ q s3 ⟨hp⟩
 rw[if_neg h1] at h
 by_cases h2:n=2
 ·subst h2
  rw[if_pos rfl] at h
  obtain⟨⟨q,s3⟩,hp,h⟩:=Option.bind_eq_some_iff.mp h
  simp only at h
  by_cases hl:0 < l.length
  case neg=>rw[if_neg hl] at h;cases h
  rw[if_pos hl] at h
  simp only[Option.some.injEq,Prod.mk.injEq] at h
  obtain⟨rfl,rfl,rfl⟩:=h
  exact spec_l4Bent.c2 k g s0_0 s0_1 w0 w p l s1 2 s2 HI HB HK HW0 HD HN _ q s3 ⟨hp⟩ _ ⟨hl⟩ ⟨rfl⟩ ⟨rfl⟩ ⟨rfl⟩
 rw[if_neg h2] at h
 by_cases h3:n=3
 ·subst h3
  rw[if_pos rfl] at h
  obtain⟨⟨q,s3⟩,hp,h⟩:=Option.bind_eq_some_iff.mp h
  obtain⟨⟨bs,s4⟩,hs,h⟩:=Option.bind_eq_some_iff.mp h
  simp only at h
  by_cases hl:0 < l.length
  case neg=>rw[if_neg hl] at h;cases h
  rw[if_pos hl] at h
  simp only[Option.some.injEq,Prod.mk.injEq] at h
  obtain⟨rfl,rfl,rfl⟩:=h
  exact spec_l4Bent.c3 k g s0_0 s0_1 w0 w p l s1 3 s2 HI HB HK HW0 HD HN _ q s3 ⟨hp⟩ _ ⟨hl⟩ ⟨rfl⟩ ⟨rfl⟩ bs s4 ⟨hs⟩ ⟨rfl⟩
 rw[if_neg h3] at h
 by_cases h4:n=4
 ·subst h4
  rw[if_pos rfl] at h
  by_cases hl:(l.length+l.length)*32≤140737488355328
  case neg=>rw[if_neg hl] at h;cases h
  rw[if_pos hl] at h
  simp only[Option.some.injEq,Prod.mk.injEq] at h
  obtain⟨rfl,rfl,rfl⟩:=h
  exact spec_l4Bent.c4 k g s0_0 s0_1 w0 w p l s1 4 s2 HI HB HK HW0 HD HN _ ⟨rfl⟩ ⟨hl⟩
 rw[if_neg h4] at h
 simp only[Option.some.injEq,Prod.mk.injEq] at h
 obtain⟨rfl,rfl,rfl⟩:=h
 exact spec_l4Bent.c5 k g s0_0 s0_1 w0 w p l s1 n s2 HI HB HK HW0 HD HN (beq_eq_false_iff_ne.mpr h0) (beq_eq_false_iff_ne.mpr h1) (beq_eq_false_iff_ne.mpr h2) (beq_eq_false_iff_ne.mpr h3) (beq_eq_false_iff_ne.mpr h4)
end Go.Proofs.Ytmnhddedcbkpoaa.All
