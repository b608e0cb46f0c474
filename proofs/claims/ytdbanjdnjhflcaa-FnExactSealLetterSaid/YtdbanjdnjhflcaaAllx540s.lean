-- Laid by wip/shake.py of this repo out of this claim's texts. Not trusted: Lean checks it.
import Derived.Test.YtdbanjdnjhflcaaAb0s
import Derived.Test.YtdbanjdnjhflcaaAlgs
import Derived.Test.YtdbanjdnjhflcaaAllx52s
import Derived.Test.YtdbanjdnjhflcaaAllx119s
import Derived.Test.YtdbanjdnjhflcaaAllx513s
import Derived.Test.YtdbanjdnjhflcaaAllx523s
import Derived.Test.YtdbanjdnjhflcaaAllx130s
import Derived.Test.YtdbanjdnjhflcaaLemGroups
set_option linter.unusedSimpArgs false
set_option linter.unusedVariables false
namespace Go.Proofs.Ytdbanjdnjhflcaa.All
open Go.Proofs.YtdbanjdnjhflcaaW.PrintWords.Aside0 renaming mk→zM
open Go.RowKit Go.Proofs.YtdbanjdnjhflcaaW.PrintWords Go.Proofs.YtdbanjdnjhflcaaW.PrintLast Go.Proofs.YtdbanjdnjhflcaaW.PrintMore
attribute [local go_sem] max2_int min2_int max_two min_two max_three min_three max_four min_four
theorem row_reads {w:World} {e base n c:Nat} {ok:Nat→Prop} {A:Option Addr} {xs:List (BitVec 8)} (h:Kd.R (Kd.int .u8) e w base ok (.slice A n c) (bL xs)) (hn:xs.length=n):Kd.C (Kd.int .u8) w A n (bL xs):=by
 obtain⟨e1,_,h3⟩:=Kd.R_reads' h
 rw[e1]
 exact h3
theorem row_cap {w:World} {e base n c:Nat} {ok:Nat→Prop} {A:Option Addr} {xs:List (BitVec 8)} (h:Kd.R (Kd.int .u8) e w base ok (.slice A n c) (bL xs)):n≤c:=(Kd.R_reads' h).2.1
section
variable {P:Program} {ops:Array Oper} {rest:List Oper} {o:Oper} {a:Act} {Q:Exit→Act→World→Prop}
theorem lits_event {W:World} (hgd:o.guard=none) {N:Tmp} (_hd:o.dst=some N) {cs:Array Value} {t:TypeId} {n:Nat}
  (hrun:(execOp a.eval o).run P W=.ok (.value (.slice (some ⟨W.heap.size,0,none⟩) n n)) (W.alloc (.cells cs t (0,0))))
  (h:∀ g,g=W.heap.size→∀ w1,w1.heap[g]?=some (.cells cs t (0,0))→Below W.heap.size W w1→wpList P ops Q rest (a.put o.dst (.slice (some ⟨g,0,none⟩) n n)) w1):wpList P ops Q (o :: rest) a W:=
 Kd.event_run hgd hrun (h _ rfl _ (blk_new W _) (below_alloc (Below.refl _ _) _))
end
def wholeL (m:List (BitVec 8)):List (BitVec 8):=m ++ List.replicate ((16 - m.length % 16) % 16) 0#8
theorem wholeL_length (m:List (BitVec 8)):(wholeL m).length % 16=0∧(wholeL m).length≤m.length+15:=by
 unfold wholeL
 rw[List.length_append,List.length_replicate]
 omega
theorem whole_at (m:List (BitVec 8)) (h:m.length≤5000):impl_whole.f (bL m)=some (bL (wholeL m)):=by
 unfold impl_whole.f bytes_Clone.f
 rw[bL_length,if_pos zq8]
 simp only[Option.bind_some]
 have e:((16 - ((m.length:Nat):Int) % 16) % 16).toNat=(16 - m.length % 16) % 16:=by omega
 rw[if_pos zq8,e,bL_length,if_pos zq8]
 unfold wholeL
 rw[bL_append,← bL_replicate]
 rfl
def lenL (n:Nat):List (BitVec 8):=packB (8*n) 8
def dataL (m2 m3:List (BitVec 8)):List (BitVec 8):=wholeL m2 ++ wholeL m3 ++ (lenL m2.length ++ lenL m3.length)
theorem lenL_length (n:Nat):(lenL n).length=8:=packB_length 8 _
theorem dataL_length (m2 m3:List (BitVec 8)):(dataL m2 m3).length % 16=0∧(dataL m2 m3).length≤m2.length+m3.length+46:=by
 have h2:=wholeL_length m2
 have h3:=wholeL_length m3
 unfold dataL
 rw[List.length_append,List.length_append,List.length_append,lenL_length,lenL_length]
 omega
def tagL (ks m1 m2 m3:List (BitVec 8)):List (BitVec 8):=tab 16 fun i=>by_ (encL ks (startL m1)) i ^^^ by_ (bV (hv (vB (encL ks (tab 16 fun _=>0#8))) ((dataL m2 m3).length / 16) (dataL m2 m3) 0#128)) i
theorem tagL_length (ks m1 m2 m3:List (BitVec 8)):(tagL ks m1 m2 m3).length=16:=tab_length _ _
theorem enc_zero (gK:Nat) (ks:List (BitVec 8)) (hk0:ks.length=176) (w:World) (hb0:w.heap[gK]?=some (.cells (cB ks) 100 (0,0))) :
  Calls Try.prog 70 #[.pointer (some ⟨gK,0,none⟩),.agg #[.int .u8 0,.int .u8 0,.int .u8 0,.int .u8 0,.int .u8 0,.int .u8 0,.int .u8 0,.int .u8 0,.int .u8 0,.int .u8 0,.int .u8 0,.int .u8 0,.int .u8 0,.int .u8 0,.int .u8 0,.int .u8 0]] w fun e w'=>e=.returned (.agg (cB (encL ks (tab 16 fun _=>0#8))))∧Below w.heap.size w w':=by
 have h:=impl_cipher_encrypt.calls gK ks (tab 16 fun _=>0#8) hk0 (tab_length _ _) w hb0
 rwa [show cB (tab 16 fun _=>0#8)=#[.int .u8 0,.int .u8 0,.int .u8 0,.int .u8 0,.int .u8 0,.int .u8 0,.int .u8 0,.int .u8 0,.int .u8 0,.int .u8 0,.int .u8 0,.int .u8 0,.int .u8 0,.int .u8 0,.int .u8 0,.int .u8 0] from by kernel_rfl] at h
theorem concat3 (go cap:Nat) (x y z D:List (BitVec 8)) (hDe:D=x ++ y ++ z) (hfl:D.length≤5000) (w:World) {A1 A2 A3:Option Addr} {c1 c2 c3 e1 e2 e3 b1 b2 b3:Nat} {k1 k2 k3:Nat→Prop}
  (hb:w.heap[go]?=some (.cells #[.slice A1 x.length c1,.slice A2 y.length c2,.slice A3 z.length c3] 25 (0,0))) (h1:Kd.R (Kd.int .u8) e1 w b1 k1 (.slice A1 x.length c1) (bL x)) (h2:Kd.R (Kd.int .u8) e2 w b2 k2 (.slice A2 y.length c2) (bL y)) (h3:Kd.R (Kd.int .u8) e3 w b3 k3 (.slice A3 z.length c3) (bL z)) :
  Calls Try.prog 32 #[.slice (some ⟨go,0,none⟩) 3 cap] w fun e w'=>∃ v0_:Value,e=.returned v0_∧Kd.R (Kd.int .u8) 5 w' w.heap.size (fun _=>True) v0_ (bL D)∧Below w.heap.size w w':=by
 subst hDe
 have hf:([bL x,bL y,bL z]:List (List Int)).flatten=bL (x ++ y ++ z):=by simp[bL_append]
 have h:=slices_Concat.calls go cap [bL x,bL y,bL z] (by rw[hf,bL_length];exact hfl) zq73 w (fun i hi=>by
  simp only[List.length_cons,List.length_nil] at hi
  have:i=0 ∨ i=1 ∨ i=2:=by omega
  rcases this with rfl|rfl|rfl
  ·exact⟨A1,c1,by rw[blk_cell hb];show some (Value.slice A1 x.length c1)=some (.slice A1 (bL x).length c1);rw[bL_length],by show (bL x).length≤c1;rw[bL_length];exact row_cap h1,by show Kd.C _ w A1 (bL x).length (bL x);rw[bL_length];exact row_reads h1 rfl⟩
  ·exact⟨A2,c2,by rw[blk_cell hb];show some (Value.slice A2 y.length c2)=some (.slice A2 (bL y).length c2);rw[bL_length],by show (bL y).length≤c2;rw[bL_length];exact row_cap h2,by show Kd.C _ w A2 (bL y).length (bL y);rw[bL_length];exact row_reads h2 rfl⟩
  ·exact⟨A3,c3,by rw[blk_cell hb];show some (Value.slice A3 z.length c3)=some (.slice A3 (bL z).length c3);rw[bL_length],by show (bL z).length≤c3;rw[bL_length];exact row_cap h3,by show Kd.C _ w A3 (bL z).length (bL z);rw[bL_length];exact row_reads h3 rfl⟩)
 rw[hf] at h
 exact h
set_option maxHeartbeats 4000000 in
set_option maxRecDepth 100000 in
theorem tag_here (gK:Nat) (ks m1 m2 m3 p2 p3 pp D:List (BitVec 8)) (n0:Nat) (hpp0:pp=p2 ++ p3) (hDe0:D=wholeL m2 ++ wholeL m3 ++ pp) (hk0:ks.length=176) (A1 A2 A3:Option Addr) (c1 c2 c3:Nat) (h20:(bL m2).length≤700) (h30:(bL m3).length≤700) (hp2:p2.length=8) (hp3:p3.length=8)
  (hw20:impl_word.f 100 (8*(((bL m2).length:Nat):Int)) 8=some (bL p2)) (hw30:impl_word.f 100 (8*(((bL m3).length:Nat):Int)) 8=some (bL p3)) (hD0:D.length=16*n0) (hn00:n0≤100) (w:World) (hb0:w.heap[gK]?=some (.cells (cB ks) 100 (0,0)))
  (hr1:Kd.C (Kd.int .u8) w A1 m1.length (bL m1)) (hr2:Kd.C (Kd.int .u8) w A2 (bL m2).length (bL m2)) (hr3:Kd.C (Kd.int .u8) w A3 (bL m3).length (bL m3)) (hc2:(bL m2).length≤c2) (hc3:(bL m3).length≤c3) :
  Calls Try.prog 56 #[.pointer (some ⟨gK,0,none⟩),.slice A1 m1.length c1,.slice A2 (bL m2).length c2,.slice A3 (bL m3).length c3] w fun e w'=>∃ v0_:Value,e=.returned v0_∧Kd.R (Kd.int .u8) 88 w' w.heap.size (fun _=>True) v0_ (bL (tab 16 (fun j=>by_ (encL ks (startL m1)) j ^^^ by_ (bV (hv (vB (encL ks (tab 16 fun _=>0#8))) n0 D 0#128)) j)))∧Below w.heap.size w w':=by
 have hk:=zM hk0
 have hb:=zM hb0
 have HR1:=zM hr1
 have HR2:=zM hr2
 have HR3:=zM hr3
 have HC2:=zM hc2
 have HC3:=zM hc3
 have hq2:=zM hp2
 have hq3:=zM hp3
 have hw2:=zM hw20
 have hw3:=zM hw30
 have hD:=zM hD0
 have hpp:=zM hpp0
 have hDe:=zM hDe0
 have hn0:=zM hn00
 have hfl:=zM (show D.length≤5000 by omega)
 have hwh2:=zM (whole_at m2 (by rw[bL_length] at h20;omega))
 have hwh3:=zM (whole_at m3 (by rw[bL_length] at h30;omega))
 clear hk0 hb0 hr1 hr2 hr3 hc2 hc3 hp2 hp3 hw20 hw30 hD0 hn00 hpp0 hDe0
 have HB:=zM (Below.refl w.heap.size w)
 go_enter Try.func56,Try.ntmps56
 go_wp2_with (first
  | (go_at_call 51;(with_reducible refine(impl_word.calls 100 (8*(((bL m2).length:Nat):Int)) 8 (bL p2) _ hw2.out).mono ?_);rintro e wk ⟨vv_,rfl,ho_,hb⟩;obtain⟨Aa,ca,es_⟩:=row_out ho_;subst es_;have n0_:=zM (Kd.R_lower ho_ (below_size zq0));have n1_:=zM (below_step zq0 hb);clear HB;have HOa_:=n0_;have HB:=n1_;clear n0_ n1_;have HOa:=HOa_;clear HOa_ ho_ hb)
  | (go_at_call 51;(with_reducible refine(impl_word.calls 100 (8*(((bL m3).length:Nat):Int)) 8 (bL p3) _ hw3.out).mono ?_);rintro e wk ⟨vv_,rfl,ho_,hb⟩;obtain⟨Ab,cb,es_⟩:=row_out ho_;subst es_;have n0_:=zM (Kd.R_lower ho_ (below_size zq0));have n1_:=zM (below_step zq0 hb);have n2_:=zM (Kd.R_below (by(with_reducible repeat (first|apply Kd.R_alloc|apply Kd.R_drewN|apply Kd.R_drew));exact HOa.out) hb);clear HB HOa;have HOb_:=n0_;have HB:=n1_;have HOa:=n2_;clear n0_ n1_ n2_;have HOb:=HOb_;clear HOb_ ho_ hb)
  | ((with_reducible refine gate_builtin (b:=.append) (xs:=#[.tmp 16,.tmp 20]) rfl ?_);at_builtin;refine Kd.R_append_rows (Kd.int .u8) (w0:=w) w.heap.size rfl (.tmp 16) (.tmp 20) 25 5 (.int .u8 0) 1 rfl Try.underlying25 info5 rfl zq36 zq8 _ (bL p2) (bL p3) _ _ _ (fun _=>True) (fun _=>False) rfl rfl ?aO ?aR (fun _ _ h=>h) (fun _ h=>h.elim) ?aF ?aB ?aS ?aL ?_;(case aR=>exact row_reads HOb.out rfl);(case aB=>exact zq0);(case aF=>exact(fun _ _=>trivial));(case aO=>exact HOa.out);(case aS=>exact(below_size zq0));(case aL=>rw[bL_length,hq2.out,hq3.out];decide);intro v2 w5 ho hb hg hat;rw[← bL_append,← hpp.out] at ho;obtain⟨Al,cl,es_⟩:=row_out ho;subst es_;have n0_:=zM hb;have n1_:=zM ho;clear HB HOa HOb;have HB:=n0_;have HOl:=n1_;clear n0_ n1_;clear ho hb hg hat)
  | (go_at_call 70;(with_reducible refine(enc_zero gK ks hk.out _ ((Below.block (B:=w.heap.size) (w:=w) zq0 gK (blk_lt hb.out)).trans hb.out)).mono ?_);rintro e wk ⟨rfl,hb9⟩;have n0_:=zM (below_step zq0 hb9);have n1_:=zM (Kd.R_below zq42 hb9);clear HB HOl;have HB:=n0_;have HOl:=n1_;clear n0_ n1_;clear hb9)
  | (go_at_call 72;(with_reducible refine(impl_whole.calls A2 c2 (bL m2) (bL (wholeL m2)) _ ?hC2 HC2.out hwh2.out).mono ?_);(case hC2=>first|exact Kd.C_below HR2.out zq0|exact(Kd.C_below HR2.out HB.out));rintro e wk ⟨vv_,rfl,ho_,hb⟩;obtain⟨Ad,cd,es_⟩:=row_out ho_;subst es_;have n0_:=zM (Kd.R_lower ho_ (below_size zq0));have n1_:=zM (below_step zq0 hb);have n2_:=zM (Kd.R_below zq42 hb);clear HB HOl;have HOd_:=n0_;have HB:=n1_;have HOl:=n2_;clear n0_ n1_ n2_;have HOd:=HOd_;clear HOd_ ho_ hb)
  | (go_at_call 72;(with_reducible refine(impl_whole.calls A3 c3 (bL m3) (bL (wholeL m3)) _ ?hC3 HC3.out hwh3.out).mono ?_);(case hC3=>first|exact Kd.C_below HR3.out zq0|exact(Kd.C_below HR3.out HB.out));rintro e wk ⟨vv_,rfl,ho_,hb⟩;obtain⟨Ae,ce,es_⟩:=row_out ho_;subst es_;have n0_:=zM (Kd.R_lower ho_ (below_size zq0));have n1_:=zM (below_step zq0 hb);have n2_:=zM (Kd.R_below zq42 hb);have n3_:=zM (Kd.R_below zq49 hb);clear HB HOl HOd;have HOe_:=n0_;have HB:=n1_;have HOl:=n2_;have HOd:=n3_;clear n0_ n1_ n2_ n3_;have HOe:=HOe_;clear HOe_ ho_ hb)
  | ((with_reducible refine gate_dst (N:=30) rfl ?_);refine lits_event ?hg (N:=30) ?hd (cs:=#[.slice Ad (wholeL m2).length cd,.slice Ae (wholeL m3).length ce,.slice Al pp.length cl]) (t:=25) (n:=3) ?hr ?_;(case hd=>rfl);(case hg=>rfl);(case hr=>first|(go_simp;done)|(go_simp;rfl));intro gL hgL wL hboxL hb;have n0_:=zM (below_step zq0 hb);have n1_:=zM (Kd.R_below zq42 hb);have n2_:=zM (Kd.R_below zq49 hb);have n3_:=zM (Kd.R_below zq55 hb);have n4_:=zM hboxL;clear HB HOl HOd HOe;have HB:=n0_;have HOl:=n1_;have HOd:=n2_;have HOe:=n3_;have BKL:=n4_;clear n0_ n1_ n2_ n3_ n4_;clear hb hboxL hgL)
  | (go_at_call 32;(with_reducible refine(concat3 gL 3 (wholeL m2) (wholeL m3) pp D hDe.out hfl.out _ BKL.out HOd.out HOe.out HOl.out).mono ?_);rintro e wk ⟨vv_,rfl,ho_,hb⟩;obtain⟨Af,cf,es_⟩:=row_out ho_;subst es_;have n0_:=zM (Kd.R_lower ho_ (below_size zq0));have n1_:=zM (below_step zq0 hb);have n2_:=zM (blk_below (g:=gL) (o:=.cells #[.slice Ad (wholeL m2).length cd,.slice Ae (wholeL m3).length ce,.slice Al pp.length cl] 25 (0,0)) zq28 hb);have n3_:=zM (Kd.R_below zq42 hb);have n4_:=zM (Kd.R_below zq49 hb);have n5_:=zM (Kd.R_below zq55 hb);clear HB BKL HOl HOd HOe;have HOf_:=n0_;have HB:=n1_;have BKL:=n2_;have HOl:=n3_;have HOd:=n4_;have HOe:=n5_;clear n0_ n1_ n2_ n3_ n4_ n5_;have HOf:=HOf_;clear HOf_ ho_ hb)
  | (go_at_call 71;(with_reducible refine(impl_hashAll.calls (encL ks (tab 16 fun _=>0#8)) (encL_length _ _) Af cf n0 D hD.out hn0.out _ (row_reads HOf.out rfl) (row_cap HOf.out)).mono ?_);rintro e wk ⟨rfl,hb9⟩;have n0_:=zM (below_step zq0 hb9);have n1_:=zM (blk_below (g:=gL) (o:=.cells #[.slice Ad (wholeL m2).length cd,.slice Ae (wholeL m3).length ce,.slice Al pp.length cl] 25 (0,0)) zq28 hb9);have n2_:=zM (Kd.R_below zq42 hb9);have n3_:=zM (Kd.R_below zq49 hb9);have n4_:=zM (Kd.R_below zq55 hb9);have n5_:=zM (Kd.R_below zq64 hb9);clear HB BKL HOl HOd HOe HOf;have HB:=n0_;have BKL:=n1_;have HOl:=n2_;have HOd:=n3_;have HOe:=n4_;have HOf:=n5_;clear n0_ n1_ n2_ n3_ n4_ n5_;clear hb9)
  | ((with_reducible refine gate_dst (N:=10) rfl ?_);refine box_event ?hg (N:=10) ?hd (cs:=#[.int .u8 0,.int .u8 0,.int .u8 0,.int .u8 0,.int .u8 0,.int .u8 0,.int .u8 0,.int .u8 0,.int .u8 0,.int .u8 0,.int .u8 0,.int .u8 0,.int .u8 0,.int .u8 0,.int .u8 0,.int .u8 0]) (t:=88) ?hr ?_;(case hd=>rfl);(case hg=>rfl);(case hr=>first|(go_simp;done)|(go_simp;rfl));intro g10 hg w10 hbox hb;have n0_:=zM (below_step zq0 hb);have n1_:=zM (blk_below (g:=gL) (o:=.cells #[.slice Ad (wholeL m2).length cd,.slice Ae (wholeL m3).length ce,.slice Al pp.length cl] 25 (0,0)) zq28 hb);have n2_:=zM (Kd.R_below zq42 hb);have n3_:=zM (Kd.R_below zq49 hb);have n4_:=zM (Kd.R_below zq55 hb);have n5_:=zM (Kd.R_below zq64 hb);have n6_:=zM hbox;have n7_:=zM (by rw[hg];exact below_size zq0:w.heap.size≤g10);clear HB BKL HOl HOd HOe HOf;have HB:=n0_;have BKL:=n1_;have HOl:=n2_;have HOd:=n3_;have HOe:=n4_;have HOf:=n5_;have BK10:=n6_;have GE10:=n7_;clear n0_ n1_ n2_ n3_ n4_ n5_ n6_ n7_;clear hb hbox hg)
  | ((with_reducible refine gate_store (t:=88) (p:=10) rfl ?_);refine row_event ?hg (ty:=88) (p:=10) (y:=?yo_350) ?ho ?hn (g:=g10) (old:=#[.int .u8 0,.int .u8 0,.int .u8 0,.int .u8 0,.int .u8 0,.int .u8 0,.int .u8 0,.int .u8 0,.int .u8 0,.int .u8 0,.int .u8 0,.int .u8 0,.int .u8 0,.int .u8 0,.int .u8 0,.int .u8 0]) (e:=88) (cells:=(cB (bV (hv (vB (encL ks (tab 16 fun _=>0#8))) n0 D 0#128)))) ?hx ?hy ?hk ?hi ?hd ?h1 ?_;(case ho=>rfl);(case hg=>rfl);(case hn=>rfl);(case hx=>rfl);(case hy=>rfl);(case hk=>(with_reducible repeat (first|refine blk_drewN ?_ _|refine blk_drew ?_|refine blk_alloc ?_ _));exact BK10.out);(case hi=>rw[cB_size,bV_length];kernel_rfl);(case hd=>rw[cB_size,bV_length];rfl);(case h1=>exact cB_one _);intro wt1_ hbk hgr;have n0_:=zM (below_grown1 zq0 hgr GE10.out);have n1_:=zM (blk_grown1 (g':=gL) (ob:=.cells #[.slice Ad (wholeL m2).length cd,.slice Ae (wholeL m3).length ce,.slice Al pp.length cl] 25 (0,0)) zq28 hgr (blk_ne zq28 zq35 zq36));have n2_:=zM (R_grown_types zq42 zq35 zq36 hgr);have n3_:=zM (R_grown_types zq49 zq35 zq36 hgr);have n4_:=zM (R_grown_types zq55 zq35 zq36 hgr);have n5_:=zM (R_grown_types zq64 zq35 zq36 hgr);have n6_:=zM hbk;clear HB BKL HOl HOd HOe HOf BK10;have HB:=n0_;have BKL:=n1_;have HOl:=n2_;have HOd:=n3_;have HOe:=n4_;have HOf:=n5_;have BK10:=n6_;clear n0_ n1_ n2_ n3_ n4_ n5_ n6_;clear hbk hgr)
  | (go_at_call 54;(with_reducible refine(impl_start.calls A1 c1 m1 _ ?hC1).mono ?_);(case hC1=>first|exact Kd.C_below HR1.out zq0|exact(Kd.C_below HR1.out HB.out));rintro e wk ⟨rfl,hb9⟩;have n0_:=zM (below_step zq0 hb9);have n1_:=zM (blk_below (g:=gL) (o:=.cells #[.slice Ad (wholeL m2).length cd,.slice Ae (wholeL m3).length ce,.slice Al pp.length cl] 25 (0,0)) zq28 hb9);have n2_:=zM (blk_below (g:=g10) (o:=.cells (cB (bV (hv (vB (encL ks (tab 16 fun _=>0#8))) n0 D 0#128))) 88 (0,0)) zq35 hb9);have n3_:=zM (Kd.R_below zq42 hb9);have n4_:=zM (Kd.R_below zq49 hb9);have n5_:=zM (Kd.R_below zq55 hb9);have n6_:=zM (Kd.R_below zq64 hb9);clear HB BKL BK10 HOl HOd HOe HOf;have HB:=n0_;have BKL:=n1_;have BK10:=n2_;have HOl:=n3_;have HOd:=n4_;have HOe:=n5_;have HOf:=n6_;clear n0_ n1_ n2_ n3_ n4_ n5_ n6_;clear hb9)
  | (go_at_call 70;(refine(impl_cipher_encrypt.calls gK ks (startL m1) hk.out (startL_length _) _ ((Below.block (B:=w.heap.size) (w:=w) zq0 gK (blk_lt hb.out)).trans hb.out)).mono ?_);rintro e wk ⟨rfl,hb9⟩;have n0_:=zM (below_step zq0 hb9);have n1_:=zM (blk_below (g:=gL) (o:=.cells #[.slice Ad (wholeL m2).length cd,.slice Ae (wholeL m3).length ce,.slice Al pp.length cl] 25 (0,0)) zq28 hb9);have n2_:=zM (blk_below (g:=g10) (o:=.cells (cB (bV (hv (vB (encL ks (tab 16 fun _=>0#8))) n0 D 0#128))) 88 (0,0)) zq35 hb9);have n3_:=zM (Kd.R_below zq42 hb9);have n4_:=zM (Kd.R_below zq49 hb9);have n5_:=zM (Kd.R_below zq55 hb9);have n6_:=zM (Kd.R_below zq64 hb9);clear HB BKL BK10 HOl HOd HOe HOf;have HB:=n0_;have BKL:=n1_;have BK10:=n2_;have HOl:=n3_;have HOd:=n4_;have HOe:=n5_;have HOf:=n6_;clear n0_ n1_ n2_ n3_ n4_ n5_ n6_;clear hb9)
  | ((with_reducible refine gate_dst (N:=11) rfl ?_);refine box_event ?hg (N:=11) ?hd (cs:=#[.int .u8 0,.int .u8 0,.int .u8 0,.int .u8 0,.int .u8 0,.int .u8 0,.int .u8 0,.int .u8 0,.int .u8 0,.int .u8 0,.int .u8 0,.int .u8 0,.int .u8 0,.int .u8 0,.int .u8 0,.int .u8 0]) (t:=88) ?hr ?_;(case hd=>rfl);(case hg=>rfl);(case hr=>first|(go_simp;done)|(go_simp;rfl));intro g11 hg w11 hbox hb;have n0_:=zM (below_step zq0 hb);have n1_:=zM (blk_below (g:=gL) (o:=.cells #[.slice Ad (wholeL m2).length cd,.slice Ae (wholeL m3).length ce,.slice Al pp.length cl] 25 (0,0)) zq28 hb);have n2_:=zM (blk_below (g:=g10) (o:=.cells (cB (bV (hv (vB (encL ks (tab 16 fun _=>0#8))) n0 D 0#128))) 88 (0,0)) zq35 hb);have n3_:=zM (Kd.R_below zq42 hb);have n4_:=zM (Kd.R_below zq49 hb);have n5_:=zM (Kd.R_below zq55 hb);have n6_:=zM (Kd.R_below zq64 hb);have n7_:=zM hbox;have n8_:=zM (by rw[hg];exact below_size zq0:w.heap.size≤g11);have n9_:=zM (by rw[hg];exact Nat.ne_of_lt (blk_lt (g:=g10) (o:=.cells (cB (bV (hv (vB (encL ks (tab 16 fun _=>0#8))) n0 D 0#128))) 88 (0,0)) zq35):g10≠g11);have n10_:=zM (by rw[hg];exact Nat.ne_of_gt (blk_lt (g:=g10) (o:=.cells (cB (bV (hv (vB (encL ks (tab 16 fun _=>0#8))) n0 D 0#128))) 88 (0,0)) zq35):g11≠g10);clear HB BKL BK10 HOl HOd HOe HOf;have HB:=n0_;have BKL:=n1_;have BK10:=n2_;have HOl:=n3_;have HOd:=n4_;have HOe:=n5_;have HOf:=n6_;have BK11:=n7_;have GE11:=n8_;have NE10_11:=n9_;have NE11_10:=n10_;clear n0_ n1_ n2_ n3_ n4_ n5_ n6_ n7_ n8_ n9_ n10_;clear hb hbox hg)
  | ((with_reducible refine gate_store (t:=88) (p:=11) rfl ?_);refine row_event ?hg (ty:=88) (p:=11) (y:=?yo_354) ?ho ?hn (g:=g11) (old:=#[.int .u8 0,.int .u8 0,.int .u8 0,.int .u8 0,.int .u8 0,.int .u8 0,.int .u8 0,.int .u8 0,.int .u8 0,.int .u8 0,.int .u8 0,.int .u8 0,.int .u8 0,.int .u8 0,.int .u8 0,.int .u8 0]) (e:=88) (cells:=(cB (encL ks (startL m1)))) ?hx ?hy ?hk ?hi ?hd ?h1 ?_;(case ho=>rfl);(case hg=>rfl);(case hn=>rfl);(case hx=>rfl);(case hy=>rfl);(case hk=>exact zq82);(case hi=>rw[cB_size,encL_length];kernel_rfl);(case hd=>rw[cB_size,encL_length];rfl);(case h1=>exact cB_one _);intro wt2_ hbk hgr;have n0_:=zM (below_grown1 zq0 hgr GE11.out);have n1_:=zM (blk_grown1 (g':=gL) (ob:=.cells #[.slice Ad (wholeL m2).length cd,.slice Ae (wholeL m3).length ce,.slice Al pp.length cl] 25 (0,0)) zq28 hgr (blk_ne zq28 zq82 zq36));have n2_:=zM (blk_grown1 (g':=g10) (ob:=.cells (cB (bV (hv (vB (encL ks (tab 16 fun _=>0#8))) n0 D 0#128))) 88 (0,0)) zq35 hgr NE10_11.out);have n3_:=zM (R_grown_types zq42 zq82 zq36 hgr);have n4_:=zM (R_grown_types zq49 zq82 zq36 hgr);have n5_:=zM (R_grown_types zq55 zq82 zq36 hgr);have n6_:=zM (R_grown_types zq64 zq82 zq36 hgr);have n7_:=zM hbk;clear HB BKL BK10 HOl HOd HOe HOf BK11;have HB:=n0_;have BKL:=n1_;have BK10:=n2_;have HOl:=n3_;have HOd:=n4_;have HOe:=n5_;have HOf:=n6_;have BK11:=n7_;clear n0_ n1_ n2_ n3_ n4_ n5_ n6_ n7_;clear hbk hgr))
 go_loopw [37] (fun v37 W=>∃ i:Nat,i≤16∧v37=.int .i64 i∧Aside0 (W.heap[g10]?=some (.cells (cB (bV (hv (vB (encL ks (tab 16 fun _=>0#8))) n0 D 0#128))) 88 (0,0)))∧Aside0 (W.heap[g11]?=some (.cells (cB (fillL 16 (fun j=>by_ (encL ks (startL m1)) j ^^^ by_ (bV (hv (vB (encL ks (tab 16 fun _=>0#8))) n0 D 0#128)) j) (by_ (encL ks (startL m1))) i)) 88 (0,0)))∧Aside0 (Below w.heap.size w W)) (fun v37 _=>16 - (intOf v37).toNat)
 case atStart=>exact⟨0,zq8,rfl,BK10,⟨by rw[fillL_zero,show tab 16 (by_ (encL ks (startL m1)))=(encL ks (startL m1)) from by have h9:=tab_self (encL ks (startL m1));rw[encL_length] at h9;exact h9];exact BK11.out⟩,HB⟩
 case round=>
  clear BK10 BK11 HB HOl HOd HOe HOf BKL
  obtain⟨i,hi,rfl,BK10,BK11,HB⟩:=hrel
  by_cases hl:i < 16
  ·have hlt:=zM hl
   have hx0:wr.cell? ⟨g11,i,none⟩=some (.int .u8 (bI (by_ (encL ks (startL m1)) i))):=by
    rw[blk_cell BK11.out,cB_get _ _ zq156,fillL_get _ _ _ _ _ hl,if_neg zq8]
   have hx1:wr.cell? ⟨g10,i,none⟩=some (.int .u8 (bI (by_ (bV (hv (vB (encL ks (tab 16 fun _=>0#8))) n0 D 0#128)) i))):=by rw[blk_cell BK10.out,cB_get _ _ (by rw[bV_length];exact hl)]
   have hf:=blk_frozen BK11.out i
   have p1:=eq_true (show (0:Int)≤(i:Int) by omega)
   have p2:=eq_true (show (i:Int) < 16 by omega)
   go_wp2_with fail
   refine wp_region_tail 8 (by kernel_rfl) (by kernel_rfl) ?_
   simp only[List.take_succ_cons,List.take_zero,List.drop_succ_cons,List.drop_zero]
   repeat (first|still_step)
   refine wpStill_nil ?_
   go_wp2_with (first
     | ((with_reducible refine gate_store (t:=5) (p:=47) rfl ?_);refine cell_event ?hg (t:=5) (p:=47) (v:=?vo_355) ?ho ?hn (i:=i) (x:=(.int .u8 (Go.bits .xor .u8 (bI (by_ (encL ks (startL m1)) i)) (bI (by_ (bV (hv (vB (encL ks (tab 16 fun _=>0#8))) n0 D 0#128)) i))))) (cs:=(cB (fillL 16 (fun j=>by_ (encL ks (startL m1)) j ^^^ by_ (bV (hv (vB (encL ks (tab 16 fun _=>0#8))) n0 D 0#128)) j) (by_ (encL ks (startL m1))) i))) (g:=g11) (e:=88) ?hk ?hr (cs':=(cB (fillL 16 (fun j=>by_ (encL ks (startL m1)) j ^^^ by_ (bV (hv (vB (encL ks (tab 16 fun _=>0#8))) n0 D 0#128)) j) (by_ (encL ks (startL m1))) (i+1)))) ?hc ?_;(case ho=>rfl);(case hg=>rfl);(case hn=>rfl);(case hk=>exact zq82);(case hr=>first|(go_simp;done)|(go_simp;rfl));(case hc=>rw[bI_xor,cB_set];exact congrArg cB (fillL_set 16 (fun j=>by_ (encL ks (startL m1)) j ^^^ by_ (bV (hv (vB (encL ks (tab 16 fun _=>0#8))) n0 D 0#128)) j) (by_ (encL ks (startL m1))) i hlt.out));intro wc hbk hgr;have n0_:=zM (below_grown1 zq0 hgr GE11.out);have n1_:=zM (blk_grown1 (g':=g10) (ob:=.cells (cB (bV (hv (vB (encL ks (tab 16 fun _=>0#8))) n0 D 0#128))) 88 (0,0)) zq35 hgr NE10_11.out);have n2_:=zM hbk;clear HB BK10 BK11;have HB:=n0_;have BK10:=n1_;have BK11:=n2_;clear n0_ n1_ n2_;clear hbk hgr))
   go_roundw
   case rel=>exact⟨i+1,zq8,by go_num,BK10,BK11,HB⟩
   case measure=>simp[intOf];omega
  ·obtain rfl:i=16:=by omega
   rw[fillL_all] at BK11
   go_wp2
   go_ret
   exact⟨_,rfl,R_block BK11.out GE11.out (tab_length _ _) zq8,HB.out⟩
set_option maxHeartbeats 4000000 in
set_option maxRecDepth 100000 in
theorem impl_cipher_tag.calls (gK:Nat) (ks m1 m2 m3:List (BitVec 8)) (hk0:ks.length=176) (A1 A2 A3:Option Addr) (c1 c2 c3:Nat) (h20:m2.length≤700) (h30:m3.length≤700) (w:World) (hb0:w.heap[gK]?=some (.cells (cB ks) 100 (0,0)))
  (hr1:Kd.C (Kd.int .u8) w A1 m1.length (bL m1)) (hr2:Kd.C (Kd.int .u8) w A2 (bL m2).length (bL m2)) (hr3:Kd.C (Kd.int .u8) w A3 (bL m3).length (bL m3)) (hc2:(bL m2).length≤c2) (hc3:(bL m3).length≤c3) :
  Calls Try.prog 56 #[.pointer (some ⟨gK,0,none⟩),.slice A1 m1.length c1,.slice A2 (bL m2).length c2,.slice A3 (bL m3).length c3] w fun e w'=>∃ v0_:Value,e=.returned v0_∧Kd.R (Kd.int .u8) 88 w' w.heap.size (fun _=>True) v0_ (bL (tagL ks m1 m2 m3))∧Below w.heap.size w w':=by
 have hl:=dataL_length m2 m3
 have hw:∀ n:Nat,n≤700→impl_word.f 100 (8*(n:Int)) 8=some (bL (lenL n)):=fun n hn=>wordB 100 (8*n) 8 zq8 zq8 zq8
 exact tag_here gK ks m1 m2 m3 (lenL m2.length) (lenL m3.length) (lenL m2.length ++ lenL m3.length) (dataL m2 m3) ((dataL m2 m3).length / 16) rfl rfl hk0 A1 A2 A3 c1 c2 c3 (by rw[bL_length];exact h20) (by rw[bL_length];exact h30) (lenL_length _) (lenL_length _) (by rw[bL_length];exact hw _ h20) (by rw[bL_length];exact hw _ h30) (by show (dataL m2 m3).length=_;omega) zq8 w hb0 hr1 hr2 hr3 hc2 hc3
end Go.Proofs.Ytdbanjdnjhflcaa.All
