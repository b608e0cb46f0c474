-- Laid by wip/shake.py of this repo out of this claim's texts. Not trusted: Lean checks it.
import Derived.Test.YtkjgdndaepobiaaAb0s
import Derived.Test.YtkjgdndaepobiaaAllx0s
import Derived.Test.YtkjgdndaepobiaaAllx537s
import Derived.Test.YtkjgdndaepobiaaAllx574s
import Derived.Test.YtkjgdndaepobiaaAllx533s
import Derived.Test.YtkjgdndaepobiaaAllx539s
import Derived.Test.YtkjgdndaepobiaaAllx540s
import Derived.Test.YtkjgdndaepobiaaAllx10s
import Derived.Test.YtkjgdndaepobiaaRowK
namespace Go.Proofs.Ytkjgdndaepobiaa.All
open Go.Proofs.YtkjgdndaepobiaaW.PrintWords.Aside0 renaming mk→zM
open Go.RowKit Go.Proofs.YtkjgdndaepobiaaW.PrintWords Go.Proofs.YtkjgdndaepobiaaW.PrintLast Go.Proofs.YtkjgdndaepobiaaW.PrintMore
attribute [local go_sem] max2_int min2_int max_two min_two max_three min_three max_four min_four
set_option linter.unusedVariables false
set_option linter.unusedSimpArgs false
set_option maxHeartbeats 4000000 in
set_option maxRecDepth 100000 in
theorem noBytes_open (n:Int) (w:World):Calls Try.prog 45 #[.int .i64 n] w fun e w'=>e=.returned (.agg #[.int .i64 n,.slice none 0 0])∧Below w.heap.size w w':=by
 have HB:=zM (Below.refl w.heap.size w)
 go_enter Try.func45,Try.ntmps45
 go_wp2_with (first
  | ((with_reducible refine gate_dst (N:=2) rfl ?_);refine box_event ?hg (N:=2) ?hd (cs:=#[.int .i64 0,.slice none 0 0]) (t:=42) ?hr ?_;(case hd=>rfl);(case hg=>rfl);(case hr=>first|(go_simp;done)|(go_simp;rfl));intro g2 hg w2 hbox hb;have n0_:=zM (below_step zq0 hb);have n1_:=zM hbox;have n2_:=zM (by rw[hg];exact below_size zq0:w.heap.size≤g2);clear HB;have HB:=n0_;have BK2:=n1_;have GE2:=n2_;clear n0_ n1_ n2_;clear hb hbox hg)
  | ((with_reducible refine gate_store (t:=42) (p:=2) rfl ?_);refine row_event ?hg (ty:=42) (p:=2) (y:=?yo_380) ?ho ?hn (g:=g2) (old:=#[.int .i64 0,.slice none 0 0]) (e:=42) (cells:=#[.int .i64 n,.slice none 0 0]) ?hx ?hy ?hk ?hi ?hd ?h1 ?_;(case ho=>rfl);(case hg=>rfl);(case hn=>rfl);(case hx=>rfl);(case hy=>rfl);(case hk=>exact zq3);(case hi=>kernel_rfl);(case hd=>rfl);(case h1=>exact zq194);intro wr_ hbk hgr;have n0_:=zM (below_grown1 zq0 hgr GE2.out);have n1_:=zM hbk;clear HB BK2;have HB:=n0_;have BK2:=n1_;clear n0_ n1_;clear hbk hgr))
 refine bodyPost_ret (results_cell_row rfl _ _ g2 42 #[.int .i64 n,.slice none 0 0] (0,0) _ rfl zq3 Try.underlying42 rfl (by kernel_rfl)) rfl ?_
 exact⟨rfl,HB.out⟩
def openL (m0 m1 m2 hd tg:List (BitVec 8)):Int × List Int:=if tagL (schedL m0) m1 m2 hd=tg then (0,bL (streamL (schedL m0) (upL (startL m1)) hd)) else (9,[])
def impl_OpenText.g (m0 m1 m2 m3:List (BitVec 8)):Int × List Int:=if m0.length=16∧m1.length=12∧m2.length≤100∧m3.length≤616 then (if m3.length < 16 then (9,[]) else openL m0 m1 m2 (m3.take (m3.length - 16)) (m3.drop (m3.length - 16))) else (2,[])
def impl_OpenText.f (l0 l1 l2 l3:List Int):Option (Int × List Int):=if isBs l0=true∧isBs l1=true∧isBs l2=true∧isBs l3=true then some (impl_OpenText.g (unB l0) (unB l1) (unB l2) (unB l3)) else none
theorem row_take {w:World} {A:Option Addr} {m:List (BitVec 8)} (h:Kd.C (Kd.int .u8) w A m.length (bL m)) (k:Nat) (hk:k≤m.length):Kd.C (Kd.int .u8) w A k (bL (m.take k)):=by
 have h1:=Kd.C_take (m:=k) (k:=Kd.int .u8) (xs:=bL m) (by rw[bL_length];exact h) (by rw[bL_length];exact hk)
 rw[bL_take,bL_length,List.length_take,Nat.min_eq_left hk] at h1
 exact h1
theorem row_drop {w:World} {a:Addr} {m:List (BitVec 8)} (h:Kd.C (Kd.int .u8) w (some a) m.length (bL m)) (k:Nat) (hk:k≤m.length):Kd.C (Kd.int .u8) w (some (a.add k)) (m.length - k) (bL (m.drop k)):=by
 have h1:=Kd.C_drop (m:=k) (c:=m.length+k+1) (k:=Kd.int .u8) (xs:=bL m) (by rw[bL_length];exact h) (by rw[bL_length];exact hk) zq118
 rw[if_neg zq9,bL_drop,bL_length,List.length_drop] at h1
 have e:(some a).map (fun x:Addr=>x.add (k*(Kd.int .u8).sz))=some (a.add k):=by show some (a.add (k*1))=_;rw[Nat.mul_one]
 rw[e] at h1
 exact h1
theorem at_slice_o {w:World} {A:Option Addr} {m:List (BitVec 8)} (h:Kd.C (Kd.int .u8) w A m.length (bL m)) (h0:0 < m.length):∃ ad,A=some ad:=by
 obtain⟨ad,e,_⟩:=Kd.at_int h 0 zq9 zq9
 exact⟨ad,e⟩
set_option maxHeartbeats 4000000 in
set_option maxRecDepth 100000 in
theorem tag_n (gK:Nat) (ks m1 m2 m3:List (BitVec 8)) (n:Nat) (hk0:ks.length=176) (A1 A2 A3:Option Addr) (c1 c2 c3:Nat) (hn:m3.length=n) (h20:m2.length≤700) (h30:n≤700) (w:World) (hb0:w.heap[gK]?=some (.cells (cB ks) 79 (0,0)))
  (hr1:Kd.C (Kd.int .u8) w A1 m1.length (bL m1)) (hr2:Kd.C (Kd.int .u8) w A2 (bL m2).length (bL m2)) (hr3:Kd.C (Kd.int .u8) w A3 n (bL m3)) (hc2:(bL m2).length≤c2) (hc3:n≤c3) :
  Calls Try.prog 51 #[.pointer (some ⟨gK,0,none⟩),.slice A1 m1.length c1,.slice A2 (bL m2).length c2,.slice A3 n c3] w fun e w'=>∃ v0_:Value,e=.returned v0_∧Kd.R (Kd.int .u8) 61 w' w.heap.size (fun _=>True) v0_ (bL (tagL ks m1 m2 m3))∧Below w.heap.size w w':=by
 subst hn
 have h:=impl_cipher_tag.calls gK ks m1 m2 m3 hk0 A1 A2 A3 c1 c2 c3 h20 h30 w hb0 hr1 hr2 (by rw[bL_length];exact hr3) hc2 (by rw[bL_length];exact hc3)
 rw[bL_length m3] at h
 exact h
theorem stream_n (gK:Nat) (ks m d:List (BitVec 8)) (n:Nat) (hk0:ks.length=176) (hm0:m.length=16) (hd0:d.length=n) (hn0:n≤700) (A:Option Addr) (c:Nat) (w:World) (hb0:w.heap[gK]?=some (.cells (cB ks) 79 (0,0)))
  (hr0:Kd.C (Kd.int .u8) w A n (bL d)) (hc0:n≤c) :
  Calls Try.prog 47 #[.pointer (some ⟨gK,0,none⟩),.agg (cB m),.slice A n c] w fun e w'=>∃ v0_:Value,e=.returned v0_∧Kd.R (Kd.int .u8) 5 w' w.heap.size (fun _=>True) v0_ (bL (streamL ks m d))∧Below w.heap.size w w':=by
 have h:=impl_cipher_stream.calls gK ks m d n hk0 hm0 hd0 hn0 A c w hb0 (by rw[bL_length,hd0];exact hr0) (by rw[bL_length,hd0];exact hc0)
 rw[bL_length,hd0] at h
 exact h
theorem equal_n (A:Option Addr) (c:Nat) (x:List (BitVec 8)) (A2:Option Addr) (c2:Nat) (y:List (BitVec 8)) (hy:y.length=16) (w:World) (hr:Kd.C (Kd.int .u8) w A (bL x).length (bL x)) (hc:(bL x).length≤c) (hr2:Kd.C (Kd.int .u8) w A2 16 (bL y)) (hc2:16≤c2) :
  Calls Try.prog 55 #[.slice A (bL x).length c,.slice A2 16 c2] w fun e w'=>e=.returned (.bool (decide (x=y)))∧Below w.heap.size w w':=by
 have h:=bytes_Equal.calls A c (bL x) A2 c2 (bL y) (decide (x=y)) w hr hc (by rw[bL_length,hy];exact hr2) (by rw[bL_length,hy];exact hc2) (by
  unfold bytes_Equal.f
  congr 1
  rw[Bool.eq_iff_iff,beq_iff_eq,decide_eq_true_iff]
  exact strB x y)
 rw[bL_length y,hy] at h
 exact h.mono fun e w' ⟨h1,h2⟩=>⟨h1,h2.below⟩
set_option maxHeartbeats 4000000 in
set_option maxRecDepth 100000 in
theorem open_here (A0:Option Addr) (c0:Nat) (m0:List (BitVec 8)) (A1:Option Addr) (c1:Nat) (m1:List (BitVec 8)) (A2:Option Addr) (c2:Nat) (m2:List (BitVec 8)) (ad3:Addr) (c3 n N:Nat) (hd tg:List (BitVec 8)) (w:World)
  (h00:m0.length=16) (h10:m1.length=12) (h20:m2.length≤100) (hN0:N=n+16) (hN6:N≤616) (hhd0:hd.length=n) (htg0:tg.length=16) (hc30:N≤c3)
  (hr0:Kd.C (Kd.int .u8) w A0 m0.length (bL m0)) (hr1:Kd.C (Kd.int .u8) w A1 m1.length (bL m1)) (hr2:Kd.C (Kd.int .u8) w A2 (bL m2).length (bL m2)) (hc2:(bL m2).length≤c2) (hr3:Kd.C (Kd.int .u8) w (some ad3) n (bL hd)) (hr4:Kd.C (Kd.int .u8) w (some (ad3.add n)) 16 (bL tg)) :
  Calls Try.prog 25 #[.slice A0 m0.length c0,.slice A1 m1.length c1,.slice A2 (bL m2).length c2,.slice (some ad3) N c3] w fun e w'=>∃ v1_:Value,e=.returned (.agg #[.int .i64 (openL m0 m1 m2 hd tg).1,v1_])∧Kd.R (Kd.int .u8) 5 w' w.heap.size (fun _=>True) v1_ (openL m0 m1 m2 hd tg).2∧Below w.heap.size w w':=by
 have HR0:=zM hr0
 have HR1:=zM hr1
 have HR2:=zM hr2
 have HR3:=zM hr3
 have HR4:=zM hr4
 have HC2:=zM hc2
 have hl2:(bL m2).length=m2.length:=bL_length m2
 have hm0:=zM h00
 have hhd:=zM hhd0
 have htg:=zM htg0
 have k0a:((m0.length:Int) != 16)=false:=by rw[bne_eq_false_iff_eq];omega
 have k0b:((m0.length:Int) == 16)=true:=by rw[beq_iff_eq];omega
 have k1a:((m1.length:Int) != 12)=false:=by rw[bne_eq_false_iff_eq];omega
 have k1b:((m1.length:Int) == 12)=true:=by rw[beq_iff_eq];omega
 have k2a:decide ((((bL m2).length:Nat):Int) > 100)=false:=decide_eq_false zq9
 have k2b:decide (100 < (((bL m2).length:Nat):Int))=false:=decide_eq_false zq9
 have k3a:decide ((N:Int) > 616)=false:=decide_eq_false zq9
 have k3b:decide (616 < (N:Int))=false:=decide_eq_false zq9
 have k4a:decide ((N:Int) < 16)=false:=decide_eq_false zq9
 have p1:=eq_true (show (0:Int)≤(N:Int) - 16 by omega)
 have p2:=eq_true (show (16:Int)≤(N:Int) by omega)
 have p3:=eq_true (show (N:Int) - 16≤(c3:Int) by omega)
 have p4:=eq_true (show (N:Int) - 16≤(N:Int) by omega)
 have p5:=eq_true (show (N:Int)≤(c3:Int) by omega)
 have s1:Value.int .i64 (IntKind.i64.wrap ((N:Int) - 16))=.int .i64 ((N:Int) - 16):=by rw[IntWalk.i64_in _ zq9]
 have t1:((N:Int) - 16).toNat=n:=by omega
 have t2:N - 16=n:=by omega
 have t3:N - n=16:=by omega
 have t4:(c3=n)=False:=eq_false zq9
 clear hr0 hr1 hr2 hc2 hr3 hr4 hl2 hhd0 htg0 h00 h10
 have HB:=zM (Below.refl w.heap.size w)
 obtain⟨TG,hT⟩:∃ TG,tagL (schedL m0) m1 m2 hd=TG:=⟨_,rfl⟩
 have hTe:=zM hT
 have hn2:=zM (show m2.length≤700 by omega)
 have hn3:=zM (show n≤700 by omega)
 have hc3:=zM (show n≤c3 by omega)
 have hc4:=zM (show 16≤c3 - n by omega)
 have hul:=zM (show (upL (startL m1)).length=16 by rw[upL_length',startL_length])
 unfold openL
 rw[hT]
 clear hT
 by_cases hx:TG=tg
 ·have hd1:=zM (show decide (TG=tg)=true from decide_eq_true hx)
  rw[if_pos hx]
  clear hx
  go_enter Try.func25,Try.ntmps25
  go_wp2_with (first
    | ((with_reducible refine gate_dst (N:=8) rfl ?_);refine box_event ?hg (N:=8) ?hd (cs:=#[.int .i64 0,.slice none 0 0]) (t:=42) ?hr ?_;(case hd=>rfl);(case hg=>rfl);(case hr=>first|(go_simp;done)|(go_simp;rfl));intro g8 hg w8 hbox hb;have n0_:=zM (below_step zq0 hb);have n1_:=zM hbox;have n2_:=zM (by rw[hg];exact below_size zq0:w.heap.size≤g8);clear HB;have HB:=n0_;have BK8:=n1_;have GE8:=n2_;clear n0_ n1_ n2_;clear hb hbox hg)
    | (go_at_call 46;(with_reducible refine(impl_newCipher.calls A0 c0 m0 hm0.out _ ?hC0).mono ?_);(case hC0=>first|exact Kd.C_below HR0.out zq0|exact(Kd.C_below HR0.out HB.out));rintro e wk ⟨gK,rfl,hgK,hZK,hb⟩;have n0_:=zM hZK;have n1_:=zM (Nat.le_trans (below_size zq0) hgK);have n2_:=zM (below_step zq0 hb);have n3_:=zM (blk_below (g:=g8) (o:=.cells #[.int .i64 0,.slice none 0 0] 42 (0,0)) zq5 hb);clear HB BK8;have BKK_:=n0_;have GEK_:=n1_;have HB:=n2_;have BK8:=n3_;clear n0_ n1_ n2_ n3_;have BKK:=BKK_;have GEK:=GEK_;clear BKK_ GEK_ hgK hZK hb))
  go_quiet (fail)
  go_wp2_with (first
    | (go_at_call 51;(with_reducible refine(tag_n gK (schedL m0) m1 m2 hd n (schedL_length m0 hm0.out) A1 A2 (some ad3) c1 c2 c3 hhd.out hn2.out hn3.out _ zq18 ?hC1t ?hC2t ?hC3t HC2.out hc3.out).mono ?_);(case hC1t=>first|exact Kd.C_below HR1.out zq0|exact(Kd.C_below HR1.out HB.out));(case hC2t=>first|exact Kd.C_below HR2.out zq0|exact(Kd.C_below HR2.out HB.out));(case hC3t=>first|exact Kd.C_below HR3.out zq0|exact(Kd.C_below HR3.out HB.out));rintro e wk ⟨vv_,rfl,ho_,hb⟩;rw[hTe.out] at ho_;obtain⟨At,ct,es_⟩:=Kd.R_slice ho_;subst es_;have n0_:=zM (Kd.R_lower ho_ (below_size zq0));have n1_:=zM (below_step zq0 hb);have n2_:=zM (blk_below (g:=g8) (o:=.cells #[.int .i64 0,.slice none 0 0] 42 (0,0)) zq5 hb);have n3_:=zM (blk_below (g:=gK) (o:=.cells (cB (schedL m0)) 79 (0,0)) zq18 hb);clear HB BK8 BKK;have HOt_:=n0_;have HB:=n1_;have BK8:=n2_;have BKK:=n3_;clear n0_ n1_ n2_ n3_;have HOt:=HOt_;clear HOt_ ho_ hb)
    | (go_at_call 55;(with_reducible refine(equal_n At ct TG (some (ad3.add n)) (c3 - n) tg htg.out _ (Kd.R_reads' HOt.out).2.2 (Kd.R_reads' HOt.out).2.1 ?hC4t hc4.out).mono ?_);(case hC4t=>first|exact Kd.C_below HR4.out zq0|exact(Kd.C_below HR4.out HB.out));rintro e wk ⟨rfl,hb9⟩;rw[hd1.out];have n0_:=zM (below_step zq0 hb9);have n1_:=zM (blk_below (g:=g8) (o:=.cells #[.int .i64 0,.slice none 0 0] 42 (0,0)) zq5 hb9);have n2_:=zM (blk_below (g:=gK) (o:=.cells (cB (schedL m0)) 79 (0,0)) zq18 hb9);have n3_:=zM (Kd.R_below zq62 hb9);clear HB BK8 BKK HOt;have HB:=n0_;have BK8:=n1_;have BKK:=n2_;have HOt:=n3_;clear n0_ n1_ n2_ n3_;clear hb9)
    | (go_at_call 48;(with_reducible refine(impl_start.calls A1 c1 m1 _ ?hC1).mono ?_);(case hC1=>first|exact Kd.C_below HR1.out zq0|exact(Kd.C_below HR1.out HB.out));rintro e wk ⟨rfl,hb9⟩;have n0_:=zM (below_step zq0 hb9);have n1_:=zM (blk_below (g:=g8) (o:=.cells #[.int .i64 0,.slice none 0 0] 42 (0,0)) zq5 hb9);have n2_:=zM (blk_below (g:=gK) (o:=.cells (cB (schedL m0)) 79 (0,0)) zq18 hb9);have n3_:=zM (Kd.R_below zq62 hb9);clear HB BK8 BKK HOt;have HB:=n0_;have BK8:=n1_;have BKK:=n2_;have HOt:=n3_;clear n0_ n1_ n2_ n3_;clear hb9)
    | (go_at_call 49;(with_reducible refine(impl_block_up.calls (startL m1) (startL_length _) _).mono ?_);rintro e wk ⟨rfl,hb9⟩;have n0_:=zM (below_step zq0 hb9);have n1_:=zM (blk_below (g:=g8) (o:=.cells #[.int .i64 0,.slice none 0 0] 42 (0,0)) zq5 hb9);have n2_:=zM (blk_below (g:=gK) (o:=.cells (cB (schedL m0)) 79 (0,0)) zq18 hb9);have n3_:=zM (Kd.R_below zq62 hb9);clear HB BK8 BKK HOt;have HB:=n0_;have BK8:=n1_;have BKK:=n2_;have HOt:=n3_;clear n0_ n1_ n2_ n3_;clear hb9)
    | (go_at_call 47;(with_reducible refine(stream_n gK (schedL m0) (upL (startL m1)) hd n (schedL_length m0 hm0.out) hul.out hhd.out hn3.out (some ad3) c3 _ BKK.out ?hC3s hc3.out).mono ?_);(case hC3s=>first|exact Kd.C_below HR3.out zq0|exact(Kd.C_below HR3.out HB.out));rintro e wk ⟨vv_,rfl,ho_,hb⟩;obtain⟨Ah,ch,es_⟩:=Kd.R_slice ho_;subst es_;have n0_:=zM (Kd.R_lower ho_ (below_size zq0));have n1_:=zM (below_step zq0 hb);have n2_:=zM (blk_below (g:=g8) (o:=.cells #[.int .i64 0,.slice none 0 0] 42 (0,0)) zq5 hb);have n3_:=zM (blk_below (g:=gK) (o:=.cells (cB (schedL m0)) 79 (0,0)) zq18 hb);have n4_:=zM (Kd.R_below zq62 hb);clear HB BK8 BKK HOt;have HOh_:=n0_;have HB:=n1_;have BK8:=n2_;have BKK:=n3_;have HOt:=n4_;clear n0_ n1_ n2_ n3_ n4_;have HOh:=HOh_;clear HOh_ ho_ hb)
    | ((with_reducible refine gate_store (t:=42) (p:=8) rfl ?_);refine row_event ?hg (ty:=42) (p:=8) (y:=?yo_388) ?ho ?hn (g:=g8) (old:=#[.int .i64 0,.slice none 0 0]) (e:=42) (cells:=#[.int .i64 0,.slice Ah (bL (streamL (schedL m0) (upL (startL m1)) hd)).length ch]) ?hx ?hy ?hk ?hi ?hd ?h1 ?_;(case ho=>rfl);(case hg=>rfl);(case hn=>rfl);(case hx=>rfl);(case hy=>rfl);(case hk=>exact zq5);(case hi=>kernel_rfl);(case hd=>rfl);(case h1=>exact zq194);intro wz_ hbk hgr;have n0_:=zM (below_grown1 zq0 hgr GE8.out);have n1_:=zM (blk_grown1 (g':=gK) (ob:=.cells (cB (schedL m0)) 79 (0,0)) zq18 hgr (blk_ne zq18 zq5 zq22));have n2_:=zM (R_grown_types zq62 zq5 zq22 hgr);have n3_:=zM (R_grown_types zq136 zq5 zq22 hgr);have n4_:=zM hbk;clear HB BKK HOt HOh BK8;have HB:=n0_;have BKK:=n1_;have HOt:=n2_;have HOh:=n3_;have BK8:=n4_;clear n0_ n1_ n2_ n3_ n4_;clear hbk hgr))
  refine bodyPost_ret (results_cell_row rfl _ _ g8 42 #[.int .i64 0,.slice Ah (bL (streamL (schedL m0) (upL (startL m1)) hd)).length ch] (0,0) _ rfl zq5 Try.underlying42 rfl (by kernel_rfl)) rfl ?_
  exact⟨_,rfl,HOh.out,HB.out⟩
 ·have hd1:=zM (show decide (TG=tg)=false from decide_eq_false hx)
  rw[if_neg hx]
  clear hx
  go_enter Try.func25,Try.ntmps25
  go_wp2_with (first
    | ((with_reducible refine gate_dst (N:=8) rfl ?_);refine box_event ?hg (N:=8) ?hd (cs:=#[.int .i64 0,.slice none 0 0]) (t:=42) ?hr ?_;(case hd=>rfl);(case hg=>rfl);(case hr=>first|(go_simp;done)|(go_simp;rfl));intro g8 hg w8 hbox hb;have n0_:=zM (below_step zq0 hb);have n1_:=zM hbox;have n2_:=zM (by rw[hg];exact below_size zq0:w.heap.size≤g8);clear HB;have HB:=n0_;have BK8:=n1_;have GE8:=n2_;clear n0_ n1_ n2_;clear hb hbox hg)
    | (go_at_call 46;(with_reducible refine(impl_newCipher.calls A0 c0 m0 hm0.out _ ?hC0).mono ?_);(case hC0=>first|exact Kd.C_below HR0.out zq0|exact(Kd.C_below HR0.out HB.out));rintro e wk ⟨gK,rfl,hgK,hZK,hb⟩;have n0_:=zM hZK;have n1_:=zM (Nat.le_trans (below_size zq0) hgK);have n2_:=zM (below_step zq0 hb);have n3_:=zM (blk_below (g:=g8) (o:=.cells #[.int .i64 0,.slice none 0 0] 42 (0,0)) zq5 hb);clear HB BK8;have BKK_:=n0_;have GEK_:=n1_;have HB:=n2_;have BK8:=n3_;clear n0_ n1_ n2_ n3_;have BKK:=BKK_;have GEK:=GEK_;clear BKK_ GEK_ hgK hZK hb))
  go_quiet (fail)
  go_wp2_with (first
    | (go_at_call 51;(with_reducible refine(tag_n gK (schedL m0) m1 m2 hd n (schedL_length m0 hm0.out) A1 A2 (some ad3) c1 c2 c3 hhd.out hn2.out hn3.out _ zq18 ?hC1t ?hC2t ?hC3t HC2.out hc3.out).mono ?_);(case hC1t=>first|exact Kd.C_below HR1.out zq0|exact(Kd.C_below HR1.out HB.out));(case hC2t=>first|exact Kd.C_below HR2.out zq0|exact(Kd.C_below HR2.out HB.out));(case hC3t=>first|exact Kd.C_below HR3.out zq0|exact(Kd.C_below HR3.out HB.out));rintro e wk ⟨vv_,rfl,ho_,hb⟩;rw[hTe.out] at ho_;obtain⟨At,ct,es_⟩:=Kd.R_slice ho_;subst es_;have n0_:=zM (Kd.R_lower ho_ (below_size zq0));have n1_:=zM (below_step zq0 hb);have n2_:=zM (blk_below (g:=g8) (o:=.cells #[.int .i64 0,.slice none 0 0] 42 (0,0)) zq5 hb);have n3_:=zM (blk_below (g:=gK) (o:=.cells (cB (schedL m0)) 79 (0,0)) zq18 hb);clear HB BK8 BKK;have HOt_:=n0_;have HB:=n1_;have BK8:=n2_;have BKK:=n3_;clear n0_ n1_ n2_ n3_;have HOt:=HOt_;clear HOt_ ho_ hb)
    | (go_at_call 55;(with_reducible refine(equal_n At ct TG (some (ad3.add n)) (c3 - n) tg htg.out _ (Kd.R_reads' HOt.out).2.2 (Kd.R_reads' HOt.out).2.1 ?hC4t hc4.out).mono ?_);(case hC4t=>first|exact Kd.C_below HR4.out zq0|exact(Kd.C_below HR4.out HB.out));rintro e wk ⟨rfl,hb9⟩;rw[hd1.out];have n0_:=zM (below_step zq0 hb9);have n1_:=zM (blk_below (g:=g8) (o:=.cells #[.int .i64 0,.slice none 0 0] 42 (0,0)) zq5 hb9);have n2_:=zM (blk_below (g:=gK) (o:=.cells (cB (schedL m0)) 79 (0,0)) zq18 hb9);have n3_:=zM (Kd.R_below zq62 hb9);clear HB BK8 BKK HOt;have HB:=n0_;have BK8:=n1_;have BKK:=n2_;have HOt:=n3_;clear n0_ n1_ n2_ n3_;clear hb9)
    | (go_at_call 45;refine(noBytes_open 9 _).mono ?_;rintro e wk2 ⟨rfl,hb⟩;have n0_:=zM (below_step zq0 hb);have n1_:=zM (blk_below (g:=g8) (o:=.cells #[.int .i64 0,.slice none 0 0] 42 (0,0)) zq5 hb);have n2_:=zM (blk_below (g:=gK) (o:=.cells (cB (schedL m0)) 79 (0,0)) zq18 hb);have n3_:=zM (Kd.R_below zq62 hb);clear HB BK8 BKK HOt;have HB:=n0_;have BK8:=n1_;have BKK:=n2_;have HOt:=n3_;clear n0_ n1_ n2_ n3_;clear hb)
    | ((with_reducible refine gate_store (t:=42) (p:=8) rfl ?_);refine row_event ?hg (ty:=42) (p:=8) (y:=?yo_394) ?ho ?hn (g:=g8) (old:=#[.int .i64 0,.slice none 0 0]) (e:=42) (cells:=#[.int .i64 9,.slice none 0 0]) ?hx ?hy ?hk ?hi ?hd ?h1 ?_;(case ho=>rfl);(case hg=>rfl);(case hn=>rfl);(case hx=>rfl);(case hy=>rfl);(case hk=>exact zq5);(case hi=>kernel_rfl);(case hd=>rfl);(case h1=>exact zq194);intro wn_ hbk hgr;have n0_:=zM (below_grown1 zq0 hgr GE8.out);have n1_:=zM (blk_grown1 (g':=gK) (ob:=.cells (cB (schedL m0)) 79 (0,0)) zq18 hgr (blk_ne zq18 zq5 zq22));have n2_:=zM (R_grown_types zq62 zq5 zq22 hgr);have n3_:=zM hbk;clear HB BKK HOt BK8;have HB:=n0_;have BKK:=n1_;have HOt:=n2_;have BK8:=n3_;clear n0_ n1_ n2_ n3_;clear hbk hgr))
  refine bodyPost_ret (results_cell_row rfl _ _ g8 42 #[.int .i64 9,.slice none 0 0] (0,0) _ rfl zq5 Try.underlying42 rfl (by kernel_rfl)) rfl ?_
  exact⟨_,rfl,Kd.R_nil _ _ _ _ _,HB.out⟩
set_option maxHeartbeats 4000000 in
set_option maxRecDepth 100000 in
theorem openText_here (A0:Option Addr) (c0:Nat) (m0:List (BitVec 8)) (A1:Option Addr) (c1:Nat) (m1:List (BitVec 8)) (A2:Option Addr) (c2:Nat) (m2:List (BitVec 8)) (A3:Option Addr) (c3:Nat) (m3:List (BitVec 8)) (r1:Int) (r2:List Int) (w:World)
  (hr0:Kd.C (Kd.int .u8) w A0 m0.length (bL m0)) (hr1:Kd.C (Kd.int .u8) w A1 m1.length (bL m1)) (hr2:Kd.C (Kd.int .u8) w A2 (bL m2).length (bL m2)) (hc2:(bL m2).length≤c2) (hr3:Kd.C (Kd.int .u8) w A3 (bL m3).length (bL m3)) (hc3:(bL m3).length≤c3) (h:impl_OpenText.g m0 m1 m2 m3=(r1,r2)) :
  Calls Try.prog 25 #[.slice A0 m0.length c0,.slice A1 m1.length c1,.slice A2 (bL m2).length c2,.slice A3 (bL m3).length c3] w fun e w'=>∃ v1_:Value,e=.returned (.agg #[.int .i64 r1,v1_])∧Kd.R (Kd.int .u8) 5 w' w.heap.size (fun _=>True) v1_ r2∧Below w.heap.size w w':=by
 have hl2:(bL m2).length=m2.length:=bL_length m2
 have hl3:(bL m3).length=m3.length:=bL_length m3
 unfold impl_OpenText.g at h
 by_cases h0:m0.length=16
 case neg=>
  rw[if_neg (fun q=>h0 q.1)] at h
  simp only[Prod.mk.injEq] at h
  obtain⟨e1,e2⟩:=h
  subst e1 e2
  have k0a:((m0.length:Int) != 16)=true:=by rw[bne_iff_ne];omega
  have k0b:((m0.length:Int) == 16)=false:=by rw[beq_eq_false_iff_ne];omega
  clear h0 hl2 hl3
  clear hr0 hr1 hr2 hc2 hr3 hc3
  have HB:=zM (Below.refl w.heap.size w)
  go_enter Try.func25,Try.ntmps25
  go_wp2_with (first
    | ((with_reducible refine gate_dst (N:=8) rfl ?_);refine box_event ?hg (N:=8) ?hd (cs:=#[.int .i64 0,.slice none 0 0]) (t:=42) ?hr ?_;(case hd=>rfl);(case hg=>rfl);(case hr=>first|(go_simp;done)|(go_simp;rfl));intro g8 hg w8 hbox hb;have n0_:=zM (below_step zq0 hb);have n1_:=zM hbox;have n2_:=zM (by rw[hg];exact below_size zq0:w.heap.size≤g8);clear HB;have HB:=n0_;have BK8:=n1_;have GE8:=n2_;clear n0_ n1_ n2_;clear hb hbox hg)
    | (go_at_call 45;refine(noBytes_open 2 _).mono ?_;rintro e wk2 ⟨rfl,hb⟩;have n0_:=zM (below_step zq0 hb);have n1_:=zM (blk_below (g:=g8) (o:=.cells #[.int .i64 0,.slice none 0 0] 42 (0,0)) zq5 hb);clear HB BK8;have HB:=n0_;have BK8:=n1_;clear n0_ n1_;clear hb)
    | ((with_reducible refine gate_store (t:=42) (p:=8) rfl ?_);refine row_event ?hg (ty:=42) (p:=8) (y:=?yo_397) ?ho ?hn (g:=g8) (old:=#[.int .i64 0,.slice none 0 0]) (e:=42) (cells:=#[.int .i64 2,.slice none 0 0]) ?hx ?hy ?hk ?hi ?hd ?h1 ?_;(case ho=>rfl);(case hg=>rfl);(case hn=>rfl);(case hx=>rfl);(case hy=>rfl);(case hk=>exact zq5);(case hi=>kernel_rfl);(case hd=>rfl);(case h1=>exact zq194);intro wn_ hbk hgr;have n0_:=zM (below_grown1 zq0 hgr GE8.out);have n1_:=zM hbk;clear HB BK8;have HB:=n0_;have BK8:=n1_;clear n0_ n1_;clear hbk hgr))
  refine bodyPost_ret (results_cell_row rfl _ _ g8 42 #[.int .i64 2,.slice none 0 0] (0,0) _ rfl zq5 Try.underlying42 rfl (by kernel_rfl)) rfl ?_
  exact⟨_,rfl,Kd.R_nil _ _ _ _ _,HB.out⟩
 by_cases h1:m1.length=12
 case neg=>
  rw[if_neg (fun q=>h1 q.2.1)] at h
  simp only[Prod.mk.injEq] at h
  obtain⟨e1,e2⟩:=h
  subst e1 e2
  have k0a:((m0.length:Int) != 16)=false:=by rw[bne_eq_false_iff_eq];omega
  have k0b:((m0.length:Int) == 16)=true:=by rw[beq_iff_eq];omega
  have k1a:((m1.length:Int) != 12)=true:=by rw[bne_iff_ne];omega
  have k1b:((m1.length:Int) == 12)=false:=by rw[beq_eq_false_iff_ne];omega
  clear h0 h1 hl2 hl3
  clear hr0 hr1 hr2 hc2 hr3 hc3
  have HB:=zM (Below.refl w.heap.size w)
  go_enter Try.func25,Try.ntmps25
  go_wp2_with (first
    | ((with_reducible refine gate_dst (N:=8) rfl ?_);refine box_event ?hg (N:=8) ?hd (cs:=#[.int .i64 0,.slice none 0 0]) (t:=42) ?hr ?_;(case hd=>rfl);(case hg=>rfl);(case hr=>first|(go_simp;done)|(go_simp;rfl));intro g8 hg w8 hbox hb;have n0_:=zM (below_step zq0 hb);have n1_:=zM hbox;have n2_:=zM (by rw[hg];exact below_size zq0:w.heap.size≤g8);clear HB;have HB:=n0_;have BK8:=n1_;have GE8:=n2_;clear n0_ n1_ n2_;clear hb hbox hg)
    | (go_at_call 45;refine(noBytes_open 2 _).mono ?_;rintro e wk2 ⟨rfl,hb⟩;have n0_:=zM (below_step zq0 hb);have n1_:=zM (blk_below (g:=g8) (o:=.cells #[.int .i64 0,.slice none 0 0] 42 (0,0)) zq5 hb);clear HB BK8;have HB:=n0_;have BK8:=n1_;clear n0_ n1_;clear hb)
    | ((with_reducible refine gate_store (t:=42) (p:=8) rfl ?_);refine row_event ?hg (ty:=42) (p:=8) (y:=?yo_400) ?ho ?hn (g:=g8) (old:=#[.int .i64 0,.slice none 0 0]) (e:=42) (cells:=#[.int .i64 2,.slice none 0 0]) ?hx ?hy ?hk ?hi ?hd ?h1 ?_;(case ho=>rfl);(case hg=>rfl);(case hn=>rfl);(case hx=>rfl);(case hy=>rfl);(case hk=>exact zq5);(case hi=>kernel_rfl);(case hd=>rfl);(case h1=>exact zq194);intro wn_ hbk hgr;have n0_:=zM (below_grown1 zq0 hgr GE8.out);have n1_:=zM hbk;clear HB BK8;have HB:=n0_;have BK8:=n1_;clear n0_ n1_;clear hbk hgr))
  refine bodyPost_ret (results_cell_row rfl _ _ g8 42 #[.int .i64 2,.slice none 0 0] (0,0) _ rfl zq5 Try.underlying42 rfl (by kernel_rfl)) rfl ?_
  exact⟨_,rfl,Kd.R_nil _ _ _ _ _,HB.out⟩
 by_cases h2:m2.length≤100
 case neg=>
  rw[if_neg (fun q=>h2 q.2.2.1)] at h
  simp only[Prod.mk.injEq] at h
  obtain⟨e1,e2⟩:=h
  subst e1 e2
  have k0a:((m0.length:Int) != 16)=false:=by rw[bne_eq_false_iff_eq];omega
  have k0b:((m0.length:Int) == 16)=true:=by rw[beq_iff_eq];omega
  have k1a:((m1.length:Int) != 12)=false:=by rw[bne_eq_false_iff_eq];omega
  have k1b:((m1.length:Int) == 12)=true:=by rw[beq_iff_eq];omega
  have k2a:decide ((((bL m2).length:Nat):Int) > 100)=true:=decide_eq_true zq9
  have k2b:decide (100 < (((bL m2).length:Nat):Int))=true:=decide_eq_true zq9
  clear h0 h1 h2 hl2 hl3
  clear hr0 hr1 hr2 hc2 hr3 hc3
  have HB:=zM (Below.refl w.heap.size w)
  go_enter Try.func25,Try.ntmps25
  go_wp2_with (first
    | ((with_reducible refine gate_dst (N:=8) rfl ?_);refine box_event ?hg (N:=8) ?hd (cs:=#[.int .i64 0,.slice none 0 0]) (t:=42) ?hr ?_;(case hd=>rfl);(case hg=>rfl);(case hr=>first|(go_simp;done)|(go_simp;rfl));intro g8 hg w8 hbox hb;have n0_:=zM (below_step zq0 hb);have n1_:=zM hbox;have n2_:=zM (by rw[hg];exact below_size zq0:w.heap.size≤g8);clear HB;have HB:=n0_;have BK8:=n1_;have GE8:=n2_;clear n0_ n1_ n2_;clear hb hbox hg)
    | (go_at_call 45;refine(noBytes_open 2 _).mono ?_;rintro e wk2 ⟨rfl,hb⟩;have n0_:=zM (below_step zq0 hb);have n1_:=zM (blk_below (g:=g8) (o:=.cells #[.int .i64 0,.slice none 0 0] 42 (0,0)) zq5 hb);clear HB BK8;have HB:=n0_;have BK8:=n1_;clear n0_ n1_;clear hb)
    | ((with_reducible refine gate_store (t:=42) (p:=8) rfl ?_);refine row_event ?hg (ty:=42) (p:=8) (y:=?yo_403) ?ho ?hn (g:=g8) (old:=#[.int .i64 0,.slice none 0 0]) (e:=42) (cells:=#[.int .i64 2,.slice none 0 0]) ?hx ?hy ?hk ?hi ?hd ?h1 ?_;(case ho=>rfl);(case hg=>rfl);(case hn=>rfl);(case hx=>rfl);(case hy=>rfl);(case hk=>exact zq5);(case hi=>kernel_rfl);(case hd=>rfl);(case h1=>exact zq194);intro wn_ hbk hgr;have n0_:=zM (below_grown1 zq0 hgr GE8.out);have n1_:=zM hbk;clear HB BK8;have HB:=n0_;have BK8:=n1_;clear n0_ n1_;clear hbk hgr))
  refine bodyPost_ret (results_cell_row rfl _ _ g8 42 #[.int .i64 2,.slice none 0 0] (0,0) _ rfl zq5 Try.underlying42 rfl (by kernel_rfl)) rfl ?_
  exact⟨_,rfl,Kd.R_nil _ _ _ _ _,HB.out⟩
 by_cases h3:m3.length≤616
 case neg=>
  rw[if_neg (fun q=>h3 q.2.2.2)] at h
  simp only[Prod.mk.injEq] at h
  obtain⟨e1,e2⟩:=h
  subst e1 e2
  have k0a:((m0.length:Int) != 16)=false:=by rw[bne_eq_false_iff_eq];omega
  have k0b:((m0.length:Int) == 16)=true:=by rw[beq_iff_eq];omega
  have k1a:((m1.length:Int) != 12)=false:=by rw[bne_eq_false_iff_eq];omega
  have k1b:((m1.length:Int) == 12)=true:=by rw[beq_iff_eq];omega
  have k2a:decide ((((bL m2).length:Nat):Int) > 100)=false:=decide_eq_false zq9
  have k2b:decide (100 < (((bL m2).length:Nat):Int))=false:=decide_eq_false zq9
  have k3a:decide ((((bL m3).length:Nat):Int) > 616)=true:=decide_eq_true zq9
  have k3b:decide (616 < (((bL m3).length:Nat):Int))=true:=decide_eq_true zq9
  clear h0 h1 h2 h3 hl2 hl3
  clear hr0 hr1 hr2 hc2 hr3 hc3
  have HB:=zM (Below.refl w.heap.size w)
  go_enter Try.func25,Try.ntmps25
  go_wp2_with (first
    | ((with_reducible refine gate_dst (N:=8) rfl ?_);refine box_event ?hg (N:=8) ?hd (cs:=#[.int .i64 0,.slice none 0 0]) (t:=42) ?hr ?_;(case hd=>rfl);(case hg=>rfl);(case hr=>first|(go_simp;done)|(go_simp;rfl));intro g8 hg w8 hbox hb;have n0_:=zM (below_step zq0 hb);have n1_:=zM hbox;have n2_:=zM (by rw[hg];exact below_size zq0:w.heap.size≤g8);clear HB;have HB:=n0_;have BK8:=n1_;have GE8:=n2_;clear n0_ n1_ n2_;clear hb hbox hg)
    | (go_at_call 45;refine(noBytes_open 2 _).mono ?_;rintro e wk2 ⟨rfl,hb⟩;have n0_:=zM (below_step zq0 hb);have n1_:=zM (blk_below (g:=g8) (o:=.cells #[.int .i64 0,.slice none 0 0] 42 (0,0)) zq5 hb);clear HB BK8;have HB:=n0_;have BK8:=n1_;clear n0_ n1_;clear hb)
    | ((with_reducible refine gate_store (t:=42) (p:=8) rfl ?_);refine row_event ?hg (ty:=42) (p:=8) (y:=?yo_406) ?ho ?hn (g:=g8) (old:=#[.int .i64 0,.slice none 0 0]) (e:=42) (cells:=#[.int .i64 2,.slice none 0 0]) ?hx ?hy ?hk ?hi ?hd ?h1 ?_;(case ho=>rfl);(case hg=>rfl);(case hn=>rfl);(case hx=>rfl);(case hy=>rfl);(case hk=>exact zq5);(case hi=>kernel_rfl);(case hd=>rfl);(case h1=>exact zq194);intro wn_ hbk hgr;have n0_:=zM (below_grown1 zq0 hgr GE8.out);have n1_:=zM hbk;clear HB BK8;have HB:=n0_;have BK8:=n1_;clear n0_ n1_;clear hbk hgr))
  refine bodyPost_ret (results_cell_row rfl _ _ g8 42 #[.int .i64 2,.slice none 0 0] (0,0) _ rfl zq5 Try.underlying42 rfl (by kernel_rfl)) rfl ?_
  exact⟨_,rfl,Kd.R_nil _ _ _ _ _,HB.out⟩
 rw[if_pos ⟨h0,h1,h2,h3⟩] at h
 have k0a:((m0.length:Int) != 16)=false:=by rw[bne_eq_false_iff_eq];omega
 have k0b:((m0.length:Int) == 16)=true:=by rw[beq_iff_eq];omega
 have k1a:((m1.length:Int) != 12)=false:=by rw[bne_eq_false_iff_eq];omega
 have k1b:((m1.length:Int) == 12)=true:=by rw[beq_iff_eq];omega
 have k2a:decide ((((bL m2).length:Nat):Int) > 100)=false:=decide_eq_false zq9
 have k2b:decide (100 < (((bL m2).length:Nat):Int))=false:=decide_eq_false zq9
 have k3a:decide ((((bL m3).length:Nat):Int) > 616)=false:=decide_eq_false zq9
 have k3b:decide (616 < (((bL m3).length:Nat):Int))=false:=decide_eq_false zq9
 by_cases h4:m3.length < 16
 ·rw[if_pos h4] at h
  simp only[Prod.mk.injEq] at h
  obtain⟨e1,e2⟩:=h
  subst e1 e2
  have k4a:decide ((((bL m3).length:Nat):Int) < 16)=true:=decide_eq_true zq9
  clear h0 h1 h2 h3 h4 hl2 hl3 hr0 hr1 hr2 hc2 hr3 hc3
  have HB:=zM (Below.refl w.heap.size w)
  go_enter Try.func25,Try.ntmps25
  go_wp2_with (first
    | ((with_reducible refine gate_dst (N:=8) rfl ?_);refine box_event ?hg (N:=8) ?hd (cs:=#[.int .i64 0,.slice none 0 0]) (t:=42) ?hr ?_;(case hd=>rfl);(case hg=>rfl);(case hr=>first|(go_simp;done)|(go_simp;rfl));intro g8 hg w8 hbox hb;have n0_:=zM (below_step zq0 hb);have n1_:=zM hbox;have n2_:=zM (by rw[hg];exact below_size zq0:w.heap.size≤g8);clear HB;have HB:=n0_;have BK8:=n1_;have GE8:=n2_;clear n0_ n1_ n2_;clear hb hbox hg)
    | (go_at_call 45;refine(noBytes_open 9 _).mono ?_;rintro e wk2 ⟨rfl,hb⟩;have n0_:=zM (below_step zq0 hb);have n1_:=zM (blk_below (g:=g8) (o:=.cells #[.int .i64 0,.slice none 0 0] 42 (0,0)) zq5 hb);clear HB BK8;have HB:=n0_;have BK8:=n1_;clear n0_ n1_;clear hb)
    | ((with_reducible refine gate_store (t:=42) (p:=8) rfl ?_);refine row_event ?hg (ty:=42) (p:=8) (y:=?yo_409) ?ho ?hn (g:=g8) (old:=#[.int .i64 0,.slice none 0 0]) (e:=42) (cells:=#[.int .i64 9,.slice none 0 0]) ?hx ?hy ?hk ?hi ?hd ?h1 ?_;(case ho=>rfl);(case hg=>rfl);(case hn=>rfl);(case hx=>rfl);(case hy=>rfl);(case hk=>exact zq5);(case hi=>kernel_rfl);(case hd=>rfl);(case h1=>exact zq194);intro wn_ hbk hgr;have n0_:=zM (below_grown1 zq0 hgr GE8.out);have n1_:=zM hbk;clear HB BK8;have HB:=n0_;have BK8:=n1_;clear n0_ n1_;clear hbk hgr))
  refine bodyPost_ret (results_cell_row rfl _ _ g8 42 #[.int .i64 9,.slice none 0 0] (0,0) _ rfl zq5 Try.underlying42 rfl (by kernel_rfl)) rfl ?_
  exact⟨_,rfl,Kd.R_nil _ _ _ _ _,HB.out⟩
 ·rw[if_neg h4] at h
  obtain⟨ad3,rfl⟩:=at_slice_o (by rw[bL_length] at hr3;exact hr3) (show 0 < m3.length by omega)
  have hr3':Kd.C (Kd.int .u8) w (some ad3) m3.length (bL m3):=by rw[bL_length] at hr3;exact hr3
  have e:=open_here A0 c0 m0 A1 c1 m1 A2 c2 m2 ad3 c3 (m3.length - 16) m3.length (m3.take (m3.length - 16)) (m3.drop (m3.length - 16)) w h0 h1 h2 zq9 h3 zq197 (by rw[List.length_drop];omega) zq9 hr0 hr1 hr2 hc2
   (by have:=row_take hr3' (m3.length - 16) zq9;exact this) (by have:=row_drop hr3' (m3.length - 16) zq9;rw[show m3.length - (m3.length - 16)=16 by omega] at this;exact this)
  rw[h] at e
  rw[hl3]
  exact e
set_option maxHeartbeats 4000000 in
set_option maxRecDepth 100000 in
theorem impl_OpenText.calls (A0:Option Addr) (c0:Nat) (l0:List Int) (A1:Option Addr) (c1:Nat) (l1:List Int) (A2:Option Addr) (c2:Nat) (l2:List Int) (A3:Option Addr) (c3:Nat) (l3:List Int) (r1:Int) (r2:List Int) (w:World) (hr0:Kd.C (Kd.int .u8) w A0 l0.length l0) (hc0:l0.length≤c0) (hr1:Kd.C (Kd.int .u8) w A1 l1.length l1) (hc1:l1.length≤c1) (hr2:Kd.C (Kd.int .u8) w A2 l2.length l2) (hc2:l2.length≤c2) (hr3:Kd.C (Kd.int .u8) w A3 l3.length l3) (hc3:l3.length≤c3) (h:impl_OpenText.f l0 l1 l2 l3=some (r1,r2)) :
  Calls Try.prog 25 #[.slice A0 l0.length c0,.slice A1 l1.length c1,.slice A2 l2.length c2,.slice A3 l3.length c3] w fun e w'=>∃ v1_:Value,e=.returned (.agg #[.int .i64 r1,v1_])∧Kd.R (Kd.int .u8) 5 w' w.heap.size (fun _=>True) v1_ r2∧Below w.heap.size w w':=by
 unfold impl_OpenText.f at h
 by_cases hb:isBs l0=true∧isBs l1=true∧isBs l2=true∧isBs l3=true
 ·rw[if_pos hb,Option.some.injEq] at h
  obtain⟨m0,rfl⟩:∃ m,l0=bL m:=⟨_,isBs_bL hb.1⟩
  obtain⟨m1,rfl⟩:∃ m,l1=bL m:=⟨_,isBs_bL hb.2.1⟩
  obtain⟨m2,rfl⟩:∃ m,l2=bL m:=⟨_,isBs_bL hb.2.2.1⟩
  obtain⟨m3,rfl⟩:∃ m,l3=bL m:=⟨_,isBs_bL hb.2.2.2⟩
  rw[bL_length] at hr0 hr1
  rw[unB_bL,unB_bL,unB_bL,unB_bL] at h
  rw[bL_length m0,bL_length m1]
  clear hb hc0 hc1
  exact openText_here A0 c0 m0 A1 c1 m1 A2 c2 m2 A3 c3 m3 r1 r2 w hr0 hr1 hr2 hc2 hr3 hc3 h
 ·rw[if_neg hb] at h
  cases h
end Go.Proofs.Ytkjgdndaepobiaa.All
