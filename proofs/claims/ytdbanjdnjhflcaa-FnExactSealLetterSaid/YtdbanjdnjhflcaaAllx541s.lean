-- Laid by wip/shake.py of this repo out of this claim's texts. Not trusted: Lean checks it.
import Derived.Test.YtdbanjdnjhflcaaAb0s
import Derived.Test.YtdbanjdnjhflcaaAlgs
import Derived.Test.YtdbanjdnjhflcaaAllx119s
import Derived.Test.YtdbanjdnjhflcaaAllx529s
import Derived.Test.YtdbanjdnjhflcaaAllx533s
import Derived.Test.YtdbanjdnjhflcaaAllx513s
import Derived.Test.YtdbanjdnjhflcaaAllx540s
import Derived.Test.YtdbanjdnjhflcaaAllx130s
set_option linter.unusedSimpArgs false
set_option linter.unusedVariables false
namespace Go.Proofs.Ytdbanjdnjhflcaa.All
open Go.Proofs.YtdbanjdnjhflcaaW.PrintWords.Aside0 renaming mk→zM
open Go.RowKit Go.Proofs.YtdbanjdnjhflcaaW.PrintWords Go.Proofs.YtdbanjdnjhflcaaW.PrintLast Go.Proofs.YtdbanjdnjhflcaaW.PrintMore
attribute [local go_sem] max2_int min2_int max_two min_two max_three min_three max_four min_four
set_option maxHeartbeats 4000000 in
set_option maxRecDepth 100000 in
theorem noBytes_seal (n:Int) (w:World):Calls Try.prog 27 #[.int .i64 n] w fun e w'=>e=.returned (.agg #[.int .i64 n,.slice none 0 0])∧Below w.heap.size w w':=by
 have HB:=zM (Below.refl w.heap.size w)
 go_enter Try.func27,Try.ntmps27
 go_wp2_with (first
  | ((with_reducible refine gate_dst (N:=2) rfl ?_);refine box_event ?hg (N:=2) ?hd (cs:=#[.int .i64 0,.slice none 0 0]) (t:=31) ?hr ?_;(case hd=>rfl);(case hg=>rfl);(case hr=>first|(go_simp;done)|(go_simp;rfl));intro g2 hg w2 hbox hb;have n0_:=zM (below_step zq0 hb);have n1_:=zM hbox;have n2_:=zM (by rw[hg];exact below_size zq0:w.heap.size≤g2);clear HB;have HB:=n0_;have BK2:=n1_;have GE2:=n2_;clear n0_ n1_ n2_;clear hb hbox hg)
  | ((with_reducible refine gate_store (t:=31) (p:=2) rfl ?_);refine row_event ?hg (ty:=31) (p:=2) (y:=?yo_357) ?ho ?hn (g:=g2) (old:=#[.int .i64 0,.slice none 0 0]) (e:=31) (cells:=#[.int .i64 n,.slice none 0 0]) ?hx ?hy ?hk ?hi ?hd ?h1 ?_;(case ho=>rfl);(case hg=>rfl);(case hn=>rfl);(case hx=>rfl);(case hy=>rfl);(case hk=>exact zq2);(case hi=>kernel_rfl);(case hd=>rfl);(case h1=>exact zq135);intro wr_ hbk hgr;have n0_:=zM (below_grown1 zq0 hgr GE2.out);have n1_:=zM hbk;clear HB BK2;have HB:=n0_;have BK2:=n1_;clear n0_ n1_;clear hbk hgr))
 refine bodyPost_ret (results_cell_row rfl _ _ g2 31 #[.int .i64 n,.slice none 0 0] (0,0) _ rfl zq2 Try.underlying31 rfl (by kernel_rfl)) rfl ?_
 exact⟨rfl,HB.out⟩
def sealL (ks n e p:List (BitVec 8)):List (BitVec 8):=streamL ks (upL (startL n)) p ++ tagL ks n e (streamL ks (upL (startL n)) p)
theorem sealL_length (ks n e p:List (BitVec 8)):(sealL ks n e p).length=p.length+16:=by unfold sealL;rw[List.length_append,streamL_length,tagL_length]
theorem concat2 (go cap:Nat) (x y D:List (BitVec 8)) (hDe:D=x ++ y) (hfl:D.length≤5000) (w:World) {A1 A2:Option Addr} {c1 c2 e1 e2 b1 b2:Nat} {k1 k2:Nat→Prop}
  (hb:w.heap[go]?=some (.cells #[.slice A1 (bL x).length c1,.slice A2 (bL y).length c2] 25 (0,0))) (h1:Kd.R (Kd.int .u8) e1 w b1 k1 (.slice A1 (bL x).length c1) (bL x)) (h2:Kd.R (Kd.int .u8) e2 w b2 k2 (.slice A2 (bL y).length c2) (bL y)) :
  Calls Try.prog 32 #[.slice (some ⟨go,0,none⟩) 2 cap] w fun e w'=>∃ v0_:Value,e=.returned v0_∧Kd.R (Kd.int .u8) 5 w' w.heap.size (fun _=>True) v0_ (bL D)∧Below w.heap.size w w':=by
 subst hDe
 have hf:([bL x,bL y]:List (List Int)).flatten=bL (x ++ y):=by simp[bL_append]
 have h:=slices_Concat.calls go cap [bL x,bL y] (by rw[hf,bL_length];exact hfl) zq73 w (fun i hi=>by
  simp only[List.length_cons,List.length_nil] at hi
  have:i=0 ∨ i=1:=by omega
  rcases this with rfl|rfl
  ·exact⟨A1,c1,by rw[blk_cell hb];rfl,(Kd.R_reads' h1).2.1,(Kd.R_reads' h1).2.2⟩
  ·exact⟨A2,c2,by rw[blk_cell hb];rfl,(Kd.R_reads' h2).2.1,(Kd.R_reads' h2).2.2⟩)
 rw[hf] at h
 exact h
def impl_SealText.g (m0 m1 m2 m3:List (BitVec 8)):Int × List Int:=if m0.length=16∧m1.length=12∧m2.length≤100∧m3.length≤600 then (0,bL (sealL (schedL m0) m1 m2 m3)) else (2,[])
def impl_SealText.f (l0 l1 l2 l3:List Int):Option (Int × List Int):=if isBs l0=true∧isBs l1=true∧isBs l2=true∧isBs l3=true then some (impl_SealText.g (unB l0) (unB l1) (unB l2) (unB l3)) else none
set_option maxHeartbeats 4000000 in
set_option maxRecDepth 100000 in
theorem sealText_here (A0:Option Addr) (c0:Nat) (m0:List (BitVec 8)) (A1:Option Addr) (c1:Nat) (m1:List (BitVec 8)) (A2:Option Addr) (c2:Nat) (m2:List (BitVec 8)) (A3:Option Addr) (c3:Nat) (m3:List (BitVec 8)) (r1:Int) (r2:List Int) (w:World)
  (hr0:Kd.C (Kd.int .u8) w A0 m0.length (bL m0)) (hr1:Kd.C (Kd.int .u8) w A1 m1.length (bL m1)) (hr2:Kd.C (Kd.int .u8) w A2 (bL m2).length (bL m2)) (hc2:(bL m2).length≤c2) (hr3:Kd.C (Kd.int .u8) w A3 (bL m3).length (bL m3)) (hc3:(bL m3).length≤c3) (h:impl_SealText.g m0 m1 m2 m3=(r1,r2)) :
  Calls Try.prog 30 #[.slice A0 m0.length c0,.slice A1 m1.length c1,.slice A2 (bL m2).length c2,.slice A3 (bL m3).length c3] w fun e w'=>∃ v1_:Value,e=.returned (.agg #[.int .i64 r1,v1_])∧Kd.R (Kd.int .u8) 5 w' w.heap.size (fun _=>True) v1_ r2∧Below w.heap.size w w':=by
 have HR0:=zM hr0
 have HR1:=zM hr1
 have HR2:=zM hr2
 have HR3:=zM hr3
 have HC2:=zM hc2
 have HC3:=zM hc3
 have hl2:(bL m2).length=m2.length:=bL_length m2
 have hl3:(bL m3).length=m3.length:=bL_length m3
 clear hr0 hr1 hr2 hr3 hc2 hc3
 have HB:=zM (Below.refl w.heap.size w)
 unfold impl_SealText.g at h
 by_cases h0:m0.length=16
 case neg=>
  rw[if_neg (fun q=>h0 q.1)] at h
  simp only[Prod.mk.injEq] at h
  obtain⟨e1,e2⟩:=h
  subst e1 e2
  have k0a:((m0.length:Int) != 16)=true:=by rw[bne_iff_ne];omega
  have k0b:((m0.length:Int) == 16)=false:=by rw[beq_eq_false_iff_ne];omega
  clear h0 hl2 hl3
  go_enter Try.func30,Try.ntmps30
  go_wp2_with (first
    | ((with_reducible refine gate_dst (N:=8) rfl ?_);refine box_event ?hg (N:=8) ?hd (cs:=#[.int .i64 0,.slice none 0 0]) (t:=31) ?hr ?_;(case hd=>rfl);(case hg=>rfl);(case hr=>first|(go_simp;done)|(go_simp;rfl));intro g8 hg w8 hbox hb;have n0_:=zM (below_step zq0 hb);have n1_:=zM hbox;have n2_:=zM (by rw[hg];exact below_size zq0:w.heap.size≤g8);clear HB;have HB:=n0_;have BK8:=n1_;have GE8:=n2_;clear n0_ n1_ n2_;clear hb hbox hg)
    | (go_at_call 27;refine(noBytes_seal 2 _).mono ?_;rintro e wk2 ⟨rfl,hb⟩;have n0_:=zM (below_step zq0 hb);have n1_:=zM (blk_below (g:=g8) (o:=.cells #[.int .i64 0,.slice none 0 0] 31 (0,0)) zq17 hb);clear HB BK8;have HB:=n0_;have BK8:=n1_;clear n0_ n1_;clear hb)
    | ((with_reducible refine gate_store (t:=31) (p:=8) rfl ?_);refine row_event ?hg (ty:=31) (p:=8) (y:=?yo_360) ?ho ?hn (g:=g8) (old:=#[.int .i64 0,.slice none 0 0]) (e:=31) (cells:=#[.int .i64 2,.slice none 0 0]) ?hx ?hy ?hk ?hi ?hd ?h1 ?_;(case ho=>rfl);(case hg=>rfl);(case hn=>rfl);(case hx=>rfl);(case hy=>rfl);(case hk=>exact zq17);(case hi=>kernel_rfl);(case hd=>rfl);(case h1=>exact zq135);intro wr_ hbk hgr;have n0_:=zM (below_grown1 zq0 hgr GE8.out);have n1_:=zM hbk;clear HB BK8;have HB:=n0_;have BK8:=n1_;clear n0_ n1_;clear hbk hgr))
  refine bodyPost_ret (results_cell_row rfl _ _ g8 31 #[.int .i64 2,.slice none 0 0] (0,0) _ rfl zq17 Try.underlying31 rfl (by kernel_rfl)) rfl ?_
  exact⟨_,rfl,Kd.R_nil _ _ _ _ _,HB.out⟩
 by_cases h1:m1.length=12
 case neg=>
  rw[if_neg (fun q=>h1 q.2.1)] at h
  simp only[Prod.mk.injEq] at h
  obtain⟨e1,e2⟩:=h
  subst e1 e2
  have k0a:((m0.length:Int) != 16)=false:=by rw[bne_eq_false_iff_eq];omega
  have k0b:((m0.length:Int) == 16)=true:=by rw[beq_iff_eq];omega
  have k1a:((m1.length:Int) != 12)=true:=by rw[bne_iff_ne];omega
  have k1b:((m1.length:Int) == 12)=false:=by rw[beq_eq_false_iff_ne];omega
  clear h0 h1 hl2 hl3
  go_enter Try.func30,Try.ntmps30
  go_wp2_with (first
    | ((with_reducible refine gate_dst (N:=8) rfl ?_);refine box_event ?hg (N:=8) ?hd (cs:=#[.int .i64 0,.slice none 0 0]) (t:=31) ?hr ?_;(case hd=>rfl);(case hg=>rfl);(case hr=>first|(go_simp;done)|(go_simp;rfl));intro g8 hg w8 hbox hb;have n0_:=zM (below_step zq0 hb);have n1_:=zM hbox;have n2_:=zM (by rw[hg];exact below_size zq0:w.heap.size≤g8);clear HB;have HB:=n0_;have BK8:=n1_;have GE8:=n2_;clear n0_ n1_ n2_;clear hb hbox hg)
    | (go_at_call 27;refine(noBytes_seal 2 _).mono ?_;rintro e wk2 ⟨rfl,hb⟩;have n0_:=zM (below_step zq0 hb);have n1_:=zM (blk_below (g:=g8) (o:=.cells #[.int .i64 0,.slice none 0 0] 31 (0,0)) zq17 hb);clear HB BK8;have HB:=n0_;have BK8:=n1_;clear n0_ n1_;clear hb)
    | ((with_reducible refine gate_store (t:=31) (p:=8) rfl ?_);refine row_event ?hg (ty:=31) (p:=8) (y:=?yo_363) ?ho ?hn (g:=g8) (old:=#[.int .i64 0,.slice none 0 0]) (e:=31) (cells:=#[.int .i64 2,.slice none 0 0]) ?hx ?hy ?hk ?hi ?hd ?h1 ?_;(case ho=>rfl);(case hg=>rfl);(case hn=>rfl);(case hx=>rfl);(case hy=>rfl);(case hk=>exact zq17);(case hi=>kernel_rfl);(case hd=>rfl);(case h1=>exact zq135);intro wr_ hbk hgr;have n0_:=zM (below_grown1 zq0 hgr GE8.out);have n1_:=zM hbk;clear HB BK8;have HB:=n0_;have BK8:=n1_;clear n0_ n1_;clear hbk hgr))
  refine bodyPost_ret (results_cell_row rfl _ _ g8 31 #[.int .i64 2,.slice none 0 0] (0,0) _ rfl zq17 Try.underlying31 rfl (by kernel_rfl)) rfl ?_
  exact⟨_,rfl,Kd.R_nil _ _ _ _ _,HB.out⟩
 by_cases h2:m2.length≤100
 case neg=>
  rw[if_neg (fun q=>h2 q.2.2.1)] at h
  simp only[Prod.mk.injEq] at h
  obtain⟨e1,e2⟩:=h
  subst e1 e2
  have k0a:((m0.length:Int) != 16)=false:=by rw[bne_eq_false_iff_eq];omega
  have k0b:((m0.length:Int) == 16)=true:=by rw[beq_iff_eq];omega
  have k1a:((m1.length:Int) != 12)=false:=by rw[bne_eq_false_iff_eq];omega
  have k1b:((m1.length:Int) == 12)=true:=by rw[beq_iff_eq];omega
  have k2a:decide ((((bL m2).length:Nat):Int) > 100)=true:=decide_eq_true zq8
  have k2b:decide (100 < (((bL m2).length:Nat):Int))=true:=decide_eq_true zq8
  clear h0 h1 h2 hl2 hl3
  go_enter Try.func30,Try.ntmps30
  go_wp2_with (first
    | ((with_reducible refine gate_dst (N:=8) rfl ?_);refine box_event ?hg (N:=8) ?hd (cs:=#[.int .i64 0,.slice none 0 0]) (t:=31) ?hr ?_;(case hd=>rfl);(case hg=>rfl);(case hr=>first|(go_simp;done)|(go_simp;rfl));intro g8 hg w8 hbox hb;have n0_:=zM (below_step zq0 hb);have n1_:=zM hbox;have n2_:=zM (by rw[hg];exact below_size zq0:w.heap.size≤g8);clear HB;have HB:=n0_;have BK8:=n1_;have GE8:=n2_;clear n0_ n1_ n2_;clear hb hbox hg)
    | (go_at_call 27;refine(noBytes_seal 2 _).mono ?_;rintro e wk2 ⟨rfl,hb⟩;have n0_:=zM (below_step zq0 hb);have n1_:=zM (blk_below (g:=g8) (o:=.cells #[.int .i64 0,.slice none 0 0] 31 (0,0)) zq17 hb);clear HB BK8;have HB:=n0_;have BK8:=n1_;clear n0_ n1_;clear hb)
    | ((with_reducible refine gate_store (t:=31) (p:=8) rfl ?_);refine row_event ?hg (ty:=31) (p:=8) (y:=?yo_366) ?ho ?hn (g:=g8) (old:=#[.int .i64 0,.slice none 0 0]) (e:=31) (cells:=#[.int .i64 2,.slice none 0 0]) ?hx ?hy ?hk ?hi ?hd ?h1 ?_;(case ho=>rfl);(case hg=>rfl);(case hn=>rfl);(case hx=>rfl);(case hy=>rfl);(case hk=>exact zq17);(case hi=>kernel_rfl);(case hd=>rfl);(case h1=>exact zq135);intro wr_ hbk hgr;have n0_:=zM (below_grown1 zq0 hgr GE8.out);have n1_:=zM hbk;clear HB BK8;have HB:=n0_;have BK8:=n1_;clear n0_ n1_;clear hbk hgr))
  refine bodyPost_ret (results_cell_row rfl _ _ g8 31 #[.int .i64 2,.slice none 0 0] (0,0) _ rfl zq17 Try.underlying31 rfl (by kernel_rfl)) rfl ?_
  exact⟨_,rfl,Kd.R_nil _ _ _ _ _,HB.out⟩
 by_cases h3:m3.length≤600
 case neg=>
  rw[if_neg (fun q=>h3 q.2.2.2)] at h
  simp only[Prod.mk.injEq] at h
  obtain⟨e1,e2⟩:=h
  subst e1 e2
  have k0a:((m0.length:Int) != 16)=false:=by rw[bne_eq_false_iff_eq];omega
  have k0b:((m0.length:Int) == 16)=true:=by rw[beq_iff_eq];omega
  have k1a:((m1.length:Int) != 12)=false:=by rw[bne_eq_false_iff_eq];omega
  have k1b:((m1.length:Int) == 12)=true:=by rw[beq_iff_eq];omega
  have k2a:decide ((((bL m2).length:Nat):Int) > 100)=false:=decide_eq_false zq8
  have k2b:decide (100 < (((bL m2).length:Nat):Int))=false:=decide_eq_false zq8
  have k3a:decide ((((bL m3).length:Nat):Int) > 600)=true:=decide_eq_true zq8
  have k3b:decide (600 < (((bL m3).length:Nat):Int))=true:=decide_eq_true zq8
  clear h0 h1 h2 h3 hl2 hl3
  go_enter Try.func30,Try.ntmps30
  go_wp2_with (first
    | ((with_reducible refine gate_dst (N:=8) rfl ?_);refine box_event ?hg (N:=8) ?hd (cs:=#[.int .i64 0,.slice none 0 0]) (t:=31) ?hr ?_;(case hd=>rfl);(case hg=>rfl);(case hr=>first|(go_simp;done)|(go_simp;rfl));intro g8 hg w8 hbox hb;have n0_:=zM (below_step zq0 hb);have n1_:=zM hbox;have n2_:=zM (by rw[hg];exact below_size zq0:w.heap.size≤g8);clear HB;have HB:=n0_;have BK8:=n1_;have GE8:=n2_;clear n0_ n1_ n2_;clear hb hbox hg)
    | (go_at_call 27;refine(noBytes_seal 2 _).mono ?_;rintro e wk2 ⟨rfl,hb⟩;have n0_:=zM (below_step zq0 hb);have n1_:=zM (blk_below (g:=g8) (o:=.cells #[.int .i64 0,.slice none 0 0] 31 (0,0)) zq17 hb);clear HB BK8;have HB:=n0_;have BK8:=n1_;clear n0_ n1_;clear hb)
    | ((with_reducible refine gate_store (t:=31) (p:=8) rfl ?_);refine row_event ?hg (ty:=31) (p:=8) (y:=?yo_369) ?ho ?hn (g:=g8) (old:=#[.int .i64 0,.slice none 0 0]) (e:=31) (cells:=#[.int .i64 2,.slice none 0 0]) ?hx ?hy ?hk ?hi ?hd ?h1 ?_;(case ho=>rfl);(case hg=>rfl);(case hn=>rfl);(case hx=>rfl);(case hy=>rfl);(case hk=>exact zq17);(case hi=>kernel_rfl);(case hd=>rfl);(case h1=>exact zq135);intro wr_ hbk hgr;have n0_:=zM (below_grown1 zq0 hgr GE8.out);have n1_:=zM hbk;clear HB BK8;have HB:=n0_;have BK8:=n1_;clear n0_ n1_;clear hbk hgr))
  refine bodyPost_ret (results_cell_row rfl _ _ g8 31 #[.int .i64 2,.slice none 0 0] (0,0) _ rfl zq17 Try.underlying31 rfl (by kernel_rfl)) rfl ?_
  exact⟨_,rfl,Kd.R_nil _ _ _ _ _,HB.out⟩
 rw[if_pos ⟨h0,h1,h2,h3⟩] at h
 have k0a:((m0.length:Int) != 16)=false:=by rw[bne_eq_false_iff_eq];omega
 have k0b:((m0.length:Int) == 16)=true:=by rw[beq_iff_eq];omega
 have k1a:((m1.length:Int) != 12)=false:=by rw[bne_eq_false_iff_eq];omega
 have k1b:((m1.length:Int) == 12)=true:=by rw[beq_iff_eq];omega
 have k2a:decide ((((bL m2).length:Nat):Int) > 100)=false:=decide_eq_false zq8
 have k2b:decide (100 < (((bL m2).length:Nat):Int))=false:=decide_eq_false zq8
 have k3a:decide ((((bL m3).length:Nat):Int) > 600)=false:=decide_eq_false zq8
 have k3b:decide (600 < (((bL m3).length:Nat):Int))=false:=decide_eq_false zq8
 simp only[Prod.mk.injEq] at h
 obtain⟨e1,e2⟩:=h
 subst e1 e2
 have hm0:=zM h0
 have hn2:=zM (show m2.length≤700 by omega)
 have hn3:=zM (show m3.length≤700 by omega)
 have up_len:(upL (startL m1)).length=16:=by rw[upL_length',startL_length]
 have hul:=zM up_len
 obtain⟨S,hS⟩:∃ S,streamL (schedL m0) (upL (startL m1)) m3=S:=⟨_,rfl⟩
 obtain⟨TG,hT⟩:∃ TG,tagL (schedL m0) m1 m2 S=TG:=⟨_,rfl⟩
 obtain⟨R,hR⟩:∃ R,R=S ++ TG:=⟨_,rfl⟩
 have hsl:S.length=m3.length:=by rw[← hS,streamL_length]
 have hnS:=zM (show S.length≤700 by omega)
 have htl:TG.length=16:=by rw[← hT,tagL_length]
 have hRl:=zM (show R.length≤5000 by rw[hR,List.length_append];omega)
 have hfin:=zM (show sealL (schedL m0) m1 m2 m3=R by unfold sealL;rw[hS,hT,hR])
 have hSe:=zM hS
 have hTe:=zM hT
 have hRe:=zM hR
 clear hS hT hR hsl htl h0 h1 h2 h3 hl2 hl3 up_len
 go_enter Try.func30,Try.ntmps30
 go_wp2_with (first
  | ((with_reducible refine gate_dst (N:=8) rfl ?_);refine box_event ?hg (N:=8) ?hd (cs:=#[.int .i64 0,.slice none 0 0]) (t:=31) ?hr ?_;(case hd=>rfl);(case hg=>rfl);(case hr=>first|(go_simp;done)|(go_simp;rfl));intro g8 hg w8 hbox hb;have n0_:=zM (below_step zq0 hb);have n1_:=zM hbox;have n2_:=zM (by rw[hg];exact below_size zq0:w.heap.size≤g8);clear HB;have HB:=n0_;have BK8:=n1_;have GE8:=n2_;clear n0_ n1_ n2_;clear hb hbox hg)
  | (go_at_call 52;(with_reducible refine(impl_newCipher.calls A0 c0 m0 hm0.out _ ?hC0).mono ?_);(case hC0=>first|exact Kd.C_below HR0.out zq0|exact(Kd.C_below HR0.out HB.out));rintro e wk ⟨gK,rfl,hgK,hZK,hb⟩;have n0_:=zM hZK;have n1_:=zM (Nat.le_trans (below_size zq0) hgK);have n2_:=zM (below_step zq0 hb);have n3_:=zM (blk_below (g:=g8) (o:=.cells #[.int .i64 0,.slice none 0 0] 31 (0,0)) zq17 hb);clear HB BK8;have BKK_:=n0_;have GEK_:=n1_;have HB:=n2_;have BK8:=n3_;clear n0_ n1_ n2_ n3_;have BKK:=BKK_;have GEK:=GEK_;clear BKK_ GEK_ hgK hZK hb)
  | (go_at_call 54;(with_reducible refine(impl_start.calls A1 c1 m1 _ ?hC1).mono ?_);(case hC1=>first|exact Kd.C_below HR1.out zq0|exact(Kd.C_below HR1.out HB.out));rintro e wk ⟨rfl,hb9⟩;have n0_:=zM (below_step zq0 hb9);have n1_:=zM (blk_below (g:=g8) (o:=.cells #[.int .i64 0,.slice none 0 0] 31 (0,0)) zq17 hb9);have n2_:=zM (blk_below (g:=gK) (o:=.cells (cB (schedL m0)) 100 (0,0)) zq57 hb9);clear HB BK8 BKK;have HB:=n0_;have BK8:=n1_;have BKK:=n2_;clear n0_ n1_ n2_;clear hb9)
  | (go_at_call 55;(with_reducible refine(impl_block_up.calls (startL m1) (startL_length _) _).mono ?_);rintro e wk ⟨rfl,hb9⟩;have n0_:=zM (below_step zq0 hb9);have n1_:=zM (blk_below (g:=g8) (o:=.cells #[.int .i64 0,.slice none 0 0] 31 (0,0)) zq17 hb9);have n2_:=zM (blk_below (g:=gK) (o:=.cells (cB (schedL m0)) 100 (0,0)) zq57 hb9);clear HB BK8 BKK;have HB:=n0_;have BK8:=n1_;have BKK:=n2_;clear n0_ n1_ n2_;clear hb9)
  | (go_at_call 53;(with_reducible refine(impl_cipher_stream.calls gK (schedL m0) (upL (startL m1)) m3 _ (schedL_length m0 hm0.out) hul.out rfl hn3.out A3 c3 _ BKK.out ?hC3 HC3.out).mono ?_);(case hC3=>first|exact Kd.C_below HR3.out zq0|exact(Kd.C_below HR3.out HB.out));rintro e wk ⟨vv_,rfl,ho_,hb⟩;rw[hSe.out] at ho_;obtain⟨Ah,ch,es_⟩:=Kd.R_slice ho_;subst es_;have n0_:=zM (Kd.R_lower ho_ (below_size zq0));have n1_:=zM (below_step zq0 hb);have n2_:=zM (blk_below (g:=g8) (o:=.cells #[.int .i64 0,.slice none 0 0] 31 (0,0)) zq17 hb);have n3_:=zM (blk_below (g:=gK) (o:=.cells (cB (schedL m0)) 100 (0,0)) zq57 hb);clear HB BK8 BKK;have HOh_:=n0_;have HB:=n1_;have BK8:=n2_;have BKK:=n3_;clear n0_ n1_ n2_ n3_;have HOh:=HOh_;clear HOh_ ho_ hb)
  | (go_at_call 56;(with_reducible refine(impl_cipher_tag.calls gK (schedL m0) m1 m2 S (schedL_length m0 hm0.out) A1 A2 Ah c1 c2 ch hn2.out hnS.out _ BKK.out ?hC1t ?hC2t ?hCSt HC2.out (Kd.R_reads' HOh.out).2.1).mono ?_);(case hC1t=>first|exact Kd.C_below HR1.out zq0|exact(Kd.C_below HR1.out HB.out));(case hC2t=>first|exact Kd.C_below HR2.out zq0|exact(Kd.C_below HR2.out HB.out));(case hCSt=>exact(Kd.R_reads' HOh.out).2.2);rintro e wk ⟨vv_,rfl,ho_,hb⟩;rw[hTe.out] at ho_;obtain⟨At,ct,es_⟩:=Kd.R_slice ho_;subst es_;have n0_:=zM (Kd.R_lower ho_ (below_size zq0));have n1_:=zM (below_step zq0 hb);have n2_:=zM (blk_below (g:=g8) (o:=.cells #[.int .i64 0,.slice none 0 0] 31 (0,0)) zq17 hb);have n3_:=zM (blk_below (g:=gK) (o:=.cells (cB (schedL m0)) 100 (0,0)) zq57 hb);have n4_:=zM (Kd.R_below zq117 hb);clear HB BK8 BKK HOh;have HOt_:=n0_;have HB:=n1_;have BK8:=n2_;have BKK:=n3_;have HOh:=n4_;clear n0_ n1_ n2_ n3_ n4_;have HOt:=HOt_;clear HOt_ ho_ hb)
  | ((with_reducible refine gate_dst (N:=44) rfl ?_);refine lits_event ?hg (N:=44) ?hd (cs:=#[.slice Ah (bL S).length ch,.slice At (bL TG).length ct]) (t:=25) (n:=2) ?hr ?_;(case hd=>rfl);(case hg=>rfl);(case hr=>first|(go_simp;done)|(go_simp;rfl));intro gL hgL wL hboxL hb;have n0_:=zM (below_step zq0 hb);have n1_:=zM (blk_below (g:=g8) (o:=.cells #[.int .i64 0,.slice none 0 0] 31 (0,0)) zq17 hb);have n2_:=zM (blk_below (g:=gK) (o:=.cells (cB (schedL m0)) 100 (0,0)) zq57 hb);have n3_:=zM (Kd.R_below zq117 hb);have n4_:=zM (Kd.R_below zq137 hb);have n5_:=zM hboxL;clear HB BK8 BKK HOh HOt;have HB:=n0_;have BK8:=n1_;have BKK:=n2_;have HOh:=n3_;have HOt:=n4_;have BKL:=n5_;clear n0_ n1_ n2_ n3_ n4_ n5_;clear hb hboxL hgL)
  | (go_at_call 32;(with_reducible refine(concat2 gL 2 S TG R hRe.out hRl.out _ BKL.out HOh.out HOt.out).mono ?_);rintro e wk ⟨vv_,rfl,ho_,hb⟩;obtain⟨Ar,cr,es_⟩:=Kd.R_slice ho_;subst es_;have n0_:=zM (Kd.R_lower ho_ (below_size zq0));have n1_:=zM (below_step zq0 hb);have n2_:=zM (blk_below (g:=g8) (o:=.cells #[.int .i64 0,.slice none 0 0] 31 (0,0)) zq17 hb);have n3_:=zM (blk_below (g:=gK) (o:=.cells (cB (schedL m0)) 100 (0,0)) zq57 hb);have n4_:=zM (blk_below (g:=gL) (o:=.cells #[.slice Ah (bL S).length ch,.slice At (bL TG).length ct] 25 (0,0)) zq28 hb);have n5_:=zM (Kd.R_below zq117 hb);have n6_:=zM (Kd.R_below zq137 hb);clear HB BK8 BKK BKL HOh HOt;have HOr_:=n0_;have HB:=n1_;have BK8:=n2_;have BKK:=n3_;have BKL:=n4_;have HOh:=n5_;have HOt:=n6_;clear n0_ n1_ n2_ n3_ n4_ n5_ n6_;have HOr:=HOr_;clear HOr_ ho_ hb)
  | ((with_reducible refine gate_store (t:=31) (p:=8) rfl ?_);refine row_event ?hg (ty:=31) (p:=8) (y:=?yo_378) ?ho ?hn (g:=g8) (old:=#[.int .i64 0,.slice none 0 0]) (e:=31) (cells:=#[.int .i64 0,.slice Ar (bL R).length cr]) ?hx ?hy ?hk ?hi ?hd ?h1 ?_;(case ho=>rfl);(case hg=>rfl);(case hn=>rfl);(case hx=>rfl);(case hy=>rfl);(case hk=>exact zq17);(case hi=>kernel_rfl);(case hd=>rfl);(case h1=>exact zq135);intro wz_ hbk hgr;have n0_:=zM (below_grown1 zq0 hgr GE8.out);have n1_:=zM (blk_grown1 (g':=gK) (ob:=.cells (cB (schedL m0)) 100 (0,0)) zq57 hgr (blk_ne zq57 zq17 zq36));have n2_:=zM (blk_grown1 (g':=gL) (ob:=.cells #[.slice Ah (bL S).length ch,.slice At (bL TG).length ct] 25 (0,0)) zq28 hgr (blk_ne zq28 zq17 zq36));have n3_:=zM (R_grown_types zq117 zq17 zq36 hgr);have n4_:=zM (R_grown_types zq137 zq17 zq36 hgr);have n5_:=zM (R_grown_types (by(with_reducible repeat (first|apply Kd.R_alloc|apply Kd.R_drewN|apply Kd.R_drew));exact HOr.out) zq17 zq36 hgr);have n6_:=zM hbk;clear HB BKK BKL HOh HOt HOr BK8;have HB:=n0_;have BKK:=n1_;have BKL:=n2_;have HOh:=n3_;have HOt:=n4_;have HOr:=n5_;have BK8:=n6_;clear n0_ n1_ n2_ n3_ n4_ n5_ n6_;clear hbk hgr))
 refine bodyPost_ret (results_cell_row rfl _ _ g8 31 #[.int .i64 0,.slice Ar (bL R).length cr] (0,0) _ rfl zq17 Try.underlying31 rfl (by kernel_rfl)) rfl ?_
 exact⟨_,rfl,by rw[hfin.out];exact HOr.out,HB.out⟩
set_option maxHeartbeats 4000000 in
set_option maxRecDepth 100000 in
theorem impl_SealText.calls (A0:Option Addr) (c0:Nat) (l0:List Int) (A1:Option Addr) (c1:Nat) (l1:List Int) (A2:Option Addr) (c2:Nat) (l2:List Int) (A3:Option Addr) (c3:Nat) (l3:List Int) (r1:Int) (r2:List Int) (w:World) (hr0:Kd.C (Kd.int .u8) w A0 l0.length l0) (hc0:l0.length≤c0) (hr1:Kd.C (Kd.int .u8) w A1 l1.length l1) (hc1:l1.length≤c1) (hr2:Kd.C (Kd.int .u8) w A2 l2.length l2) (hc2:l2.length≤c2) (hr3:Kd.C (Kd.int .u8) w A3 l3.length l3) (hc3:l3.length≤c3) (h:impl_SealText.f l0 l1 l2 l3=some (r1,r2)) :
  Calls Try.prog 30 #[.slice A0 l0.length c0,.slice A1 l1.length c1,.slice A2 l2.length c2,.slice A3 l3.length c3] w fun e w'=>∃ v1_:Value,e=.returned (.agg #[.int .i64 r1,v1_])∧Kd.R (Kd.int .u8) 5 w' w.heap.size (fun _=>True) v1_ r2∧Below w.heap.size w w':=by
 unfold impl_SealText.f at h
 by_cases hb:isBs l0=true∧isBs l1=true∧isBs l2=true∧isBs l3=true
 ·rw[if_pos hb,Option.some.injEq] at h
  obtain⟨m0,rfl⟩:∃ m,l0=bL m:=⟨_,isBs_bL hb.1⟩
  obtain⟨m1,rfl⟩:∃ m,l1=bL m:=⟨_,isBs_bL hb.2.1⟩
  obtain⟨m2,rfl⟩:∃ m,l2=bL m:=⟨_,isBs_bL hb.2.2.1⟩
  obtain⟨m3,rfl⟩:∃ m,l3=bL m:=⟨_,isBs_bL hb.2.2.2⟩
  rw[bL_length] at hr0 hr1
  rw[unB_bL,unB_bL,unB_bL,unB_bL] at h
  rw[bL_length m0,bL_length m1]
  clear hb hc0 hc1
  exact sealText_here A0 c0 m0 A1 c1 m1 A2 c2 m2 A3 c3 m3 r1 r2 w hr0 hr1 hr2 hc2 hr3 hc3 h
 ·rw[if_neg hb] at h
  cases h
end Go.Proofs.Ytdbanjdnjhflcaa.All
