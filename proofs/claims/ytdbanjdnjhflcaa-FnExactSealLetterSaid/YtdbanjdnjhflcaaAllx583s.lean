-- Laid by wip/shake.py of this repo out of this claim's texts. Not trusted: Lean checks it.
import Derived.Test.YtdbanjdnjhflcaaAb0s
import Derived.Test.YtdbanjdnjhflcaaAlgs
import Derived.Test.YtdbanjdnjhflcaaAllx202s
import Derived.Test.YtdbanjdnjhflcaaAllx52s
import Derived.Test.YtdbanjdnjhflcaaAllx204s
import Derived.Test.YtdbanjdnjhflcaaAllx119s
import Derived.Test.YtdbanjdnjhflcaaAllx540s
import Derived.Test.YtdbanjdnjhflcaaAllx541s
import Derived.Test.YtdbanjdnjhflcaaAllx111s
import Derived.Test.YtdbanjdnjhflcaaAllx35s
set_option linter.unusedSimpArgs false
set_option linter.unusedVariables false
namespace Go.Proofs.Ytdbanjdnjhflcaa.All
open Go.Proofs.YtdbanjdnjhflcaaW.PrintWords.Aside0 renaming mk→zM
open Go.RowKit Go.Proofs.YtdbanjdnjhflcaaW.PrintWords Go.Proofs.YtdbanjdnjhflcaaW.PrintLast Go.Proofs.YtdbanjdnjhflcaaW.PrintMore
attribute [local go_sem] max2_int min2_int max_two min_two max_three min_three max_four min_four
theorem fldSL_0 (w:World) (a b:Value):(Instr.field 31 (.agg #[a,b]) 0).run Try.prog w=.ok a w:=by
 have h:=Try.underlying31
 have h2:=Try.underlying2
 unfold Instr.field asAgg
 go_simp
 all_goals rfl
theorem fldSL_1 (w:World) (a b:Value):(Instr.field 31 (.agg #[a,b]) 1).run Try.prog w=.ok b w:=by
 have h:=Try.underlying31
 have h2:=Try.underlying25
 unfold Instr.field asAgg
 go_simp
 all_goals rfl
attribute [local go_sem] fldSL_0 fldSL_1
def impl_SealLetter.T10:Bool × List (List Nat × List Nat):=(true,[([],[]),([0],[0]),([1],[1]),([],[]),([3],[3]),([],[]),([5],[5]),([4,6],[4,6]),([7],[7]),([],[]),([],[]),([10],[10]),([2,8,9,11,7],[2,8,9,11]),([],[]),([13,12,12,0,1,2,3,4,5,6,7,8,9,10,11,12,13],[12,13])])
def impl_SealLetter.B10:List Nat:=[0,1,3,0,8,0,32,120,248,0,0,1024,4095,0,16383]
theorem impl_SealLetter.tab10:rtab .any (opsOf Try.f9 10)=impl_SealLetter.T10:=by kernel_rfl
theorem impl_SealLetter.bits10:waitsOk impl_SealLetter.T10.2 impl_SealLetter.B10=true:=by kernel_rfl
theorem concat2I (go cap:Nat) (x y D:List Int) (hDe:D=x ++ y) (hfl:D.length≤5000) (w:World) {A1 A2:Option Addr} {c1 c2:Nat}
  (hb:w.heap[go]?=some (.cells #[.slice A1 x.length c1,.slice A2 y.length c2] 25 (0,0))) (h1:Kd.C (Kd.int .u8) w A1 x.length x) (l1:x.length≤c1) (h2:Kd.C (Kd.int .u8) w A2 y.length y) (l2:y.length≤c2) :
  Calls Try.prog 32 #[.slice (some ⟨go,0,none⟩) 2 cap] w fun e w'=>∃ v0_:Value,e=.returned v0_∧Kd.R (Kd.int .u8) 5 w' w.heap.size (fun _=>True) v0_ D∧Below w.heap.size w w':=by
 subst hDe
 have hf:([x,y]:List (List Int)).flatten=x ++ y:=by simp
 have h:=slices_Concat.calls go cap [x,y] (by rw[hf];exact hfl) zq73 w (fun i hi=>by
  simp only[List.length_cons,List.length_nil] at hi
  have:i=0 ∨ i=1:=by omega
  rcases this with rfl|rfl
  ·exact⟨A1,c1,by rw[blk_cell hb];rfl,l1,h1⟩
  ·exact⟨A2,c2,by rw[blk_cell hb];rfl,l2,h2⟩)
 rw[hf] at h
 exact h
set_option maxHeartbeats 8000000 in
set_option maxRecDepth 100000 in
theorem impl_SealLetter.w1 (K:Nat) (a0_0:Int) (A0_1:Option Addr) (c0_1:Nat) (l0_1:List S54) (a1_0 a1_1 a1_2:Int) (A1_3:Option Addr) (c1_3:Nat) (l1_3:List Int) (x:Int) (w:World) (HR0:Aside0 (Kd.C k54 w A0_1 l0_1.length l0_1)) (HC0:Aside0 (l0_1.length≤c0_1)) (HRT:Aside0 (Kd.C (Kd.int .u8) w A1_3 l1_3.length l1_3)) (HCT:Aside0 (l1_3.length≤c1_3)) (HRF:Aside0 (impl_RingFault.f K a0_0 l0_1=some x)) (hx:¬ x=0) :
  Calls Try.prog 9 #[.agg #[.int .i64 a0_0,.slice A0_1 l0_1.length c0_1],.agg #[.int .i64 a1_0,.int .i64 a1_1,.int .i64 a1_2,.slice A1_3 l1_3.length c1_3]] w fun e w'=>∃ v1_:Value,e=.returned (.agg #[.int .i64 x,v1_])∧Kd.R (Kd.int .u8) 5 w' w.heap.size (fun _=>True) v1_ []∧Below w.heap.size w w':=by
 have ht1:(x == 0)=false:=beq_eq_false_iff_ne.mpr hx
 have ht2:(x != 0)=true:=bne_iff_ne.mpr hx
 clear hx
 have HW:=zM (Below.refl w.heap.size w)
 have HU:=zM (Below.refl w.heap.size w)
 go_enter Try.func9,Try.ntmps9
 go_wp2_with (first
   | ((with_reducible refine gate_dst (N:=2) rfl ?_);refine box_event ?hg (N:=2) ?hd (cs:=#[.int .i64 a0_0,.slice A0_1 l0_1.length c0_1]) (t:=35) ?hr ?_;(case hd=>rfl);(case hg=>rfl);(case hr=>first|(go_simp;done)|(go_simp;rfl));intro k2_ hg w1 hbox hb;have G2:=zM (show w.heap.size≤k2_ by rw[hg];exact below_size HU.out);have n0_:=zM (below_step HU.out hb);clear HU;have HU:=n0_;clear n0_;have M2:=zM hbox;clear hb hbox hg)
   | ((with_reducible refine gate_dst (N:=3) rfl ?_);refine box_event ?hg (N:=3) ?hd (cs:=#[.int .i64 a1_0,.int .i64 a1_1,.int .i64 a1_2,.slice A1_3 l1_3.length c1_3]) (t:=37) ?hr ?_;(case hd=>rfl);(case hg=>rfl);(case hr=>first|(go_simp;done)|(go_simp;rfl));intro k3_ hg w2 hbox hb;have G3:=zM (show w.heap.size≤k3_ by rw[hg];exact below_size HU.out);have n0_:=zM (below_step HU.out hb);have n1_:=zM (blk_below (g:=k2_) (o:=.cells #[.int .i64 a0_0,.slice A0_1 l0_1.length c0_1] 35 (0,0)) M2.out hb);clear HU M2;have HU:=n0_;have M2:=n1_;clear n0_ n1_;have M3:=zM hbox;clear hb hbox hg;have n0_:=zM (below_step HW.out HU.out);have n1_:=zM (M2.out);have n2_:=zM (M3.out);have n3_:=zM (Below.refl w2.heap.size w2);clear HW HU M2 G2 M3 G3;have HW:=n0_;have B2:=n1_;have B3:=n2_;have HU:=n3_;clear n0_ n1_ n2_ n3_)
   | ((with_reducible refine gate_dst (N:=4) rfl ?_);refine box_event ?hg (N:=4) ?hd (cs:=#[.int .i64 0,.slice none 0 0]) (t:=31) ?hr ?_;(case hd=>rfl);(case hg=>rfl);(case hr=>first|(go_simp;done)|(go_simp;rfl));intro k4_ hg w3 hbox hb;have G4:=zM (show w2.heap.size≤k4_ by rw[hg];exact below_size HU.out);have n0_:=zM (below_step HU.out hb);clear HU;have HU:=n0_;clear n0_;have M4:=zM hbox;clear hb hbox hg;have hc2_0:w3.cell? ⟨k2_,0,none⟩=some (.int .i64 a0_0):=(blk_cell (blk_below (g:=k2_) (o:=.cells #[.int .i64 a0_0,.slice A0_1 l0_1.length c0_1] 35 (0,0)) B2.out HU.out) 0).trans rfl;have hc2_1:w3.cell? ⟨k2_,1,none⟩=some (.slice A0_1 l0_1.length c0_1):=(blk_cell (blk_below (g:=k2_) (o:=.cells #[.int .i64 a0_0,.slice A0_1 l0_1.length c0_1] 35 (0,0)) B2.out HU.out) 1).trans rfl)
   | (go_at_call 25;(with_reducible refine(impl_RingFault.calls K a0_0 _ _ l0_1 x _ ?rf1 HC0.out HRF.out).mono ?_);(case rf1=>exact Kd.C_below HR0.out (below_step HW.out HU.out));rintro e w4 ⟨rfl,hb⟩;have n0_:=zM (below_step HU.out hb);have n1_:=zM (blk_below (g:=k4_) (o:=.cells #[.int .i64 0,.slice none 0 0] 31 (0,0)) M4.out hb);clear HU M4;have HU:=n0_;have M4:=n1_;clear n0_ n1_;clear hb;clear hc2_0 hc2_1)
   | (go_at_call 27;(with_reducible refine(noBytes_seal x _).mono ?_);rintro e w5 ⟨rfl,hb⟩;have n0_:=zM (below_step HU.out hb);have n1_:=zM (blk_below (g:=k4_) (o:=.cells #[.int .i64 0,.slice none 0 0] 31 (0,0)) M4.out hb);clear HU M4;have HU:=n0_;have M4:=n1_;clear n0_ n1_;clear hb)
   | ((with_reducible refine gate_store (t:=31) (p:=4) rfl ?_);refine row_event ?hg (ty:=31) (p:=4) (y:=?yo4) ?ho ?hn (g:=k4_) (old:=#[.int .i64 0,.slice none 0 0]) (e:=31) (cells:=#[.int .i64 x,.slice none 0 0]) ?hx ?hy ?hk ?hi ?hd ?h1 ?_;(case ho=>rfl);(case hg=>rfl);(case hn=>rfl);(case hx=>rfl);(case hy=>rfl);(case hk=>exact M4.out);(case hi=>kernel_rfl);(case hd=>rfl);(case h1=>exact zq135);intro w6 hbk hgr;have n0_:=zM (below_grown1 HU.out hgr G4.out);have n1_:=zM (hbk);clear HU M4;have HU:=n0_;have M4:=n1_;clear n0_ n1_;clear hbk hgr))
 refine bodyPost_ret (results_cell_row rfl _ _ k4_ 31 #[.int .i64 x,.slice none 0 0] (0,0) _ rfl M4.out Try.underlying31 rfl (by kernel_rfl)) rfl ?_
 exact⟨_,rfl,Kd.R_nil _ _ _ _ _,below_step HW.out HU.out⟩
set_option maxHeartbeats 8000000 in
set_option maxRecDepth 100000 in
theorem impl_SealLetter.w2 (K:Nat) (a0_0:Int) (A0_1:Option Addr) (c0_1:Nat) (l0_1:List S54) (a1_0 a1_1 a1_2:Int) (A1_3:Option Addr) (c1_3:Nat) (l1_3:List Int) (y:Int) (w:World) (HR0:Aside0 (Kd.C k54 w A0_1 l0_1.length l0_1)) (HC0:Aside0 (l0_1.length≤c0_1)) (HRT:Aside0 (Kd.C (Kd.int .u8) w A1_3 l1_3.length l1_3)) (HCT:Aside0 (l1_3.length≤c1_3)) (HRF:Aside0 (impl_RingFault.f K a0_0 l0_1=some 0)) (HLF:Aside0 (impl_LetterFault.f K a1_0 a1_1 a1_2 l1_3=some y)) (hx:¬ y=0) :
  Calls Try.prog 9 #[.agg #[.int .i64 a0_0,.slice A0_1 l0_1.length c0_1],.agg #[.int .i64 a1_0,.int .i64 a1_1,.int .i64 a1_2,.slice A1_3 l1_3.length c1_3]] w fun e w'=>∃ v1_:Value,e=.returned (.agg #[.int .i64 y,v1_])∧Kd.R (Kd.int .u8) 5 w' w.heap.size (fun _=>True) v1_ []∧Below w.heap.size w w':=by
 have ht1:(y == 0)=false:=beq_eq_false_iff_ne.mpr hx
 have ht2:(y != 0)=true:=bne_iff_ne.mpr hx
 clear hx
 have HW:=zM (Below.refl w.heap.size w)
 have HU:=zM (Below.refl w.heap.size w)
 go_enter Try.func9,Try.ntmps9
 go_wp2_with (first
   | ((with_reducible refine gate_dst (N:=2) rfl ?_);refine box_event ?hg (N:=2) ?hd (cs:=#[.int .i64 a0_0,.slice A0_1 l0_1.length c0_1]) (t:=35) ?hr ?_;(case hd=>rfl);(case hg=>rfl);(case hr=>first|(go_simp;done)|(go_simp;rfl));intro k2_ hg w1 hbox hb;have G2:=zM (show w.heap.size≤k2_ by rw[hg];exact below_size HU.out);have n0_:=zM (below_step HU.out hb);clear HU;have HU:=n0_;clear n0_;have M2:=zM hbox;clear hb hbox hg)
   | ((with_reducible refine gate_dst (N:=3) rfl ?_);refine box_event ?hg (N:=3) ?hd (cs:=#[.int .i64 a1_0,.int .i64 a1_1,.int .i64 a1_2,.slice A1_3 l1_3.length c1_3]) (t:=37) ?hr ?_;(case hd=>rfl);(case hg=>rfl);(case hr=>first|(go_simp;done)|(go_simp;rfl));intro k3_ hg w2 hbox hb;have G3:=zM (show w.heap.size≤k3_ by rw[hg];exact below_size HU.out);have n0_:=zM (below_step HU.out hb);have n1_:=zM (blk_below (g:=k2_) (o:=.cells #[.int .i64 a0_0,.slice A0_1 l0_1.length c0_1] 35 (0,0)) M2.out hb);clear HU M2;have HU:=n0_;have M2:=n1_;clear n0_ n1_;have M3:=zM hbox;clear hb hbox hg;have n0_:=zM (below_step HW.out HU.out);have n1_:=zM (M2.out);have n2_:=zM (M3.out);have n3_:=zM (Below.refl w2.heap.size w2);clear HW HU M2 G2 M3 G3;have HW:=n0_;have B2:=n1_;have B3:=n2_;have HU:=n3_;clear n0_ n1_ n2_ n3_)
   | ((with_reducible refine gate_dst (N:=4) rfl ?_);refine box_event ?hg (N:=4) ?hd (cs:=#[.int .i64 0,.slice none 0 0]) (t:=31) ?hr ?_;(case hd=>rfl);(case hg=>rfl);(case hr=>first|(go_simp;done)|(go_simp;rfl));intro k4_ hg w3 hbox hb;have G4:=zM (show w2.heap.size≤k4_ by rw[hg];exact below_size HU.out);have n0_:=zM (below_step HU.out hb);clear HU;have HU:=n0_;clear n0_;have M4:=zM hbox;clear hb hbox hg;have hc2_0:w3.cell? ⟨k2_,0,none⟩=some (.int .i64 a0_0):=(blk_cell (blk_below (g:=k2_) (o:=.cells #[.int .i64 a0_0,.slice A0_1 l0_1.length c0_1] 35 (0,0)) B2.out HU.out) 0).trans rfl;have hc2_1:w3.cell? ⟨k2_,1,none⟩=some (.slice A0_1 l0_1.length c0_1):=(blk_cell (blk_below (g:=k2_) (o:=.cells #[.int .i64 a0_0,.slice A0_1 l0_1.length c0_1] 35 (0,0)) B2.out HU.out) 1).trans rfl)
   | (go_at_call 25;(with_reducible refine(impl_RingFault.calls K a0_0 _ _ l0_1 0 _ ?rf1 HC0.out HRF.out).mono ?_);(case rf1=>exact Kd.C_below HR0.out (below_step HW.out HU.out));rintro e w4 ⟨rfl,hb⟩;have n0_:=zM (below_step HU.out hb);have n1_:=zM (blk_below (g:=k4_) (o:=.cells #[.int .i64 0,.slice none 0 0] 31 (0,0)) M4.out hb);clear HU M4;have HU:=n0_;have M4:=n1_;clear n0_ n1_;clear hb;clear hc2_0 hc2_1;have hc3_0:w4.cell? ⟨k3_,0,none⟩=some (.int .i64 a1_0):=(blk_cell (blk_below (g:=k3_) (o:=.cells #[.int .i64 a1_0,.int .i64 a1_1,.int .i64 a1_2,.slice A1_3 l1_3.length c1_3] 37 (0,0)) B3.out HU.out) 0).trans rfl;have hc3_1:w4.cell? ⟨k3_,1,none⟩=some (.int .i64 a1_1):=(blk_cell (blk_below (g:=k3_) (o:=.cells #[.int .i64 a1_0,.int .i64 a1_1,.int .i64 a1_2,.slice A1_3 l1_3.length c1_3] 37 (0,0)) B3.out HU.out) 1).trans rfl;have hc3_2:w4.cell? ⟨k3_,2,none⟩=some (.int .i64 a1_2):=(blk_cell (blk_below (g:=k3_) (o:=.cells #[.int .i64 a1_0,.int .i64 a1_1,.int .i64 a1_2,.slice A1_3 l1_3.length c1_3] 37 (0,0)) B3.out HU.out) 2).trans rfl;have hc3_3:w4.cell? ⟨k3_,3,none⟩=some (.slice A1_3 l1_3.length c1_3):=(blk_cell (blk_below (g:=k3_) (o:=.cells #[.int .i64 a1_0,.int .i64 a1_1,.int .i64 a1_2,.slice A1_3 l1_3.length c1_3] 37 (0,0)) B3.out HU.out) 3).trans rfl)
   | (go_at_call 26;(with_reducible refine(impl_LetterFault.calls K a1_0 a1_1 a1_2 _ _ l1_3 y _ ?lf1 HCT.out HLF.out).mono ?_);(case lf1=>exact Kd.C_below HRT.out (below_step HW.out HU.out));rintro e w5 ⟨rfl,hb⟩;have n0_:=zM (below_step HU.out hb);have n1_:=zM (blk_below (g:=k4_) (o:=.cells #[.int .i64 0,.slice none 0 0] 31 (0,0)) M4.out hb);clear HU M4;have HU:=n0_;have M4:=n1_;clear n0_ n1_;clear hb;clear hc3_0 hc3_1 hc3_2 hc3_3)
   | (go_at_call 27;(with_reducible refine(noBytes_seal y _).mono ?_);rintro e w6 ⟨rfl,hb⟩;have n0_:=zM (below_step HU.out hb);have n1_:=zM (blk_below (g:=k4_) (o:=.cells #[.int .i64 0,.slice none 0 0] 31 (0,0)) M4.out hb);clear HU M4;have HU:=n0_;have M4:=n1_;clear n0_ n1_;clear hb)
   | ((with_reducible refine gate_store (t:=31) (p:=4) rfl ?_);refine row_event ?hg (ty:=31) (p:=4) (y:=?yo4) ?ho ?hn (g:=k4_) (old:=#[.int .i64 0,.slice none 0 0]) (e:=31) (cells:=#[.int .i64 y,.slice none 0 0]) ?hx ?hy ?hk ?hi ?hd ?h1 ?_;(case ho=>rfl);(case hg=>rfl);(case hn=>rfl);(case hx=>rfl);(case hy=>rfl);(case hk=>exact M4.out);(case hi=>kernel_rfl);(case hd=>rfl);(case h1=>exact zq135);intro w7 hbk hgr;have n0_:=zM (below_grown1 HU.out hgr G4.out);have n1_:=zM (hbk);clear HU M4;have HU:=n0_;have M4:=n1_;clear n0_ n1_;clear hbk hgr))
 refine bodyPost_ret (results_cell_row rfl _ _ k4_ 31 #[.int .i64 y,.slice none 0 0] (0,0) _ rfl M4.out Try.underlying31 rfl (by kernel_rfl)) rfl ?_
 exact⟨_,rfl,Kd.R_nil _ _ _ _ _,below_step HW.out HU.out⟩
set_option maxHeartbeats 8000000 in
set_option maxRecDepth 100000 in
theorem impl_SealLetter.w3 (K:Nat) (a0_0:Int) (A0_1:Option Addr) (c0_1:Nat) (l0_1:List S54) (a1_0 a1_1 a1_2:Int) (A1_3:Option Addr) (c1_3:Nat) (l1_3:List Int) (x f2:Int) (f3:List Int) (w:World) (HR0:Aside0 (Kd.C k54 w A0_1 l0_1.length l0_1)) (HC0:Aside0 (l0_1.length≤c0_1)) (HRT:Aside0 (Kd.C (Kd.int .u8) w A1_3 l1_3.length l1_3)) (HCT:Aside0 (l1_3.length≤c1_3)) (HRF:Aside0 (impl_RingFault.f K a0_0 l0_1=some 0)) (HLF:Aside0 (impl_LetterFault.f K a1_0 a1_1 a1_2 l1_3=some 0)) (HFK:Aside0 (impl_FindKey.f K a0_0 l0_1 a1_0=some (x,f2,f3))) (hx:¬ x=0) :
  Calls Try.prog 9 #[.agg #[.int .i64 a0_0,.slice A0_1 l0_1.length c0_1],.agg #[.int .i64 a1_0,.int .i64 a1_1,.int .i64 a1_2,.slice A1_3 l1_3.length c1_3]] w fun e w'=>∃ v1_:Value,e=.returned (.agg #[.int .i64 x,v1_])∧Kd.R (Kd.int .u8) 5 w' w.heap.size (fun _=>True) v1_ []∧Below w.heap.size w w':=by
 have ht1:(x == 0)=false:=beq_eq_false_iff_ne.mpr hx
 have ht2:(x != 0)=true:=bne_iff_ne.mpr hx
 clear hx
 have HW:=zM (Below.refl w.heap.size w)
 have HU:=zM (Below.refl w.heap.size w)
 go_enter Try.func9,Try.ntmps9
 go_wp2_with (first
   | ((with_reducible refine gate_dst (N:=2) rfl ?_);refine box_event ?hg (N:=2) ?hd (cs:=#[.int .i64 a0_0,.slice A0_1 l0_1.length c0_1]) (t:=35) ?hr ?_;(case hd=>rfl);(case hg=>rfl);(case hr=>first|(go_simp;done)|(go_simp;rfl));intro k2_ hg w1 hbox hb;have G2:=zM (show w.heap.size≤k2_ by rw[hg];exact below_size HU.out);have n0_:=zM (below_step HU.out hb);clear HU;have HU:=n0_;clear n0_;have M2:=zM hbox;clear hb hbox hg)
   | ((with_reducible refine gate_dst (N:=3) rfl ?_);refine box_event ?hg (N:=3) ?hd (cs:=#[.int .i64 a1_0,.int .i64 a1_1,.int .i64 a1_2,.slice A1_3 l1_3.length c1_3]) (t:=37) ?hr ?_;(case hd=>rfl);(case hg=>rfl);(case hr=>first|(go_simp;done)|(go_simp;rfl));intro k3_ hg w2 hbox hb;have G3:=zM (show w.heap.size≤k3_ by rw[hg];exact below_size HU.out);have n0_:=zM (below_step HU.out hb);have n1_:=zM (blk_below (g:=k2_) (o:=.cells #[.int .i64 a0_0,.slice A0_1 l0_1.length c0_1] 35 (0,0)) M2.out hb);clear HU M2;have HU:=n0_;have M2:=n1_;clear n0_ n1_;have M3:=zM hbox;clear hb hbox hg;have n0_:=zM (below_step HW.out HU.out);have n1_:=zM (M2.out);have n2_:=zM (M3.out);have n3_:=zM (Below.refl w2.heap.size w2);clear HW HU M2 G2 M3 G3;have HW:=n0_;have B2:=n1_;have B3:=n2_;have HU:=n3_;clear n0_ n1_ n2_ n3_)
   | ((with_reducible refine gate_dst (N:=4) rfl ?_);refine box_event ?hg (N:=4) ?hd (cs:=#[.int .i64 0,.slice none 0 0]) (t:=31) ?hr ?_;(case hd=>rfl);(case hg=>rfl);(case hr=>first|(go_simp;done)|(go_simp;rfl));intro k4_ hg w3 hbox hb;have G4:=zM (show w2.heap.size≤k4_ by rw[hg];exact below_size HU.out);have n0_:=zM (below_step HU.out hb);clear HU;have HU:=n0_;clear n0_;have M4:=zM hbox;clear hb hbox hg;have hc2_0:w3.cell? ⟨k2_,0,none⟩=some (.int .i64 a0_0):=(blk_cell (blk_below (g:=k2_) (o:=.cells #[.int .i64 a0_0,.slice A0_1 l0_1.length c0_1] 35 (0,0)) B2.out HU.out) 0).trans rfl;have hc2_1:w3.cell? ⟨k2_,1,none⟩=some (.slice A0_1 l0_1.length c0_1):=(blk_cell (blk_below (g:=k2_) (o:=.cells #[.int .i64 a0_0,.slice A0_1 l0_1.length c0_1] 35 (0,0)) B2.out HU.out) 1).trans rfl)
   | (go_at_call 25;(with_reducible refine(impl_RingFault.calls K a0_0 _ _ l0_1 0 _ ?rf1 HC0.out HRF.out).mono ?_);(case rf1=>exact Kd.C_below HR0.out (below_step HW.out HU.out));rintro e w4 ⟨rfl,hb⟩;have n0_:=zM (below_step HU.out hb);have n1_:=zM (blk_below (g:=k4_) (o:=.cells #[.int .i64 0,.slice none 0 0] 31 (0,0)) M4.out hb);clear HU M4;have HU:=n0_;have M4:=n1_;clear n0_ n1_;clear hb;clear hc2_0 hc2_1;have hc3_0:w4.cell? ⟨k3_,0,none⟩=some (.int .i64 a1_0):=(blk_cell (blk_below (g:=k3_) (o:=.cells #[.int .i64 a1_0,.int .i64 a1_1,.int .i64 a1_2,.slice A1_3 l1_3.length c1_3] 37 (0,0)) B3.out HU.out) 0).trans rfl;have hc3_1:w4.cell? ⟨k3_,1,none⟩=some (.int .i64 a1_1):=(blk_cell (blk_below (g:=k3_) (o:=.cells #[.int .i64 a1_0,.int .i64 a1_1,.int .i64 a1_2,.slice A1_3 l1_3.length c1_3] 37 (0,0)) B3.out HU.out) 1).trans rfl;have hc3_2:w4.cell? ⟨k3_,2,none⟩=some (.int .i64 a1_2):=(blk_cell (blk_below (g:=k3_) (o:=.cells #[.int .i64 a1_0,.int .i64 a1_1,.int .i64 a1_2,.slice A1_3 l1_3.length c1_3] 37 (0,0)) B3.out HU.out) 2).trans rfl;have hc3_3:w4.cell? ⟨k3_,3,none⟩=some (.slice A1_3 l1_3.length c1_3):=(blk_cell (blk_below (g:=k3_) (o:=.cells #[.int .i64 a1_0,.int .i64 a1_1,.int .i64 a1_2,.slice A1_3 l1_3.length c1_3] 37 (0,0)) B3.out HU.out) 3).trans rfl)
   | (go_at_call 26;(with_reducible refine(impl_LetterFault.calls K a1_0 a1_1 a1_2 _ _ l1_3 0 _ ?lf1 HCT.out HLF.out).mono ?_);(case lf1=>exact Kd.C_below HRT.out (below_step HW.out HU.out));rintro e w5 ⟨rfl,hb⟩;have n0_:=zM (below_step HU.out hb);have n1_:=zM (blk_below (g:=k4_) (o:=.cells #[.int .i64 0,.slice none 0 0] 31 (0,0)) M4.out hb);clear HU M4;have HU:=n0_;have M4:=n1_;clear n0_ n1_;clear hb;clear hc3_0 hc3_1 hc3_2 hc3_3;have hc2_0:w5.cell? ⟨k2_,0,none⟩=some (.int .i64 a0_0):=(blk_cell (blk_below (g:=k2_) (o:=.cells #[.int .i64 a0_0,.slice A0_1 l0_1.length c0_1] 35 (0,0)) B2.out HU.out) 0).trans rfl;have hc2_1:w5.cell? ⟨k2_,1,none⟩=some (.slice A0_1 l0_1.length c0_1):=(blk_cell (blk_below (g:=k2_) (o:=.cells #[.int .i64 a0_0,.slice A0_1 l0_1.length c0_1] 35 (0,0)) B2.out HU.out) 1).trans rfl;have hc3_0:w5.cell? ⟨k3_,0,none⟩=some (.int .i64 a1_0):=(blk_cell (blk_below (g:=k3_) (o:=.cells #[.int .i64 a1_0,.int .i64 a1_1,.int .i64 a1_2,.slice A1_3 l1_3.length c1_3] 37 (0,0)) B3.out HU.out) 0).trans rfl;have hc3_1:w5.cell? ⟨k3_,1,none⟩=some (.int .i64 a1_1):=(blk_cell (blk_below (g:=k3_) (o:=.cells #[.int .i64 a1_0,.int .i64 a1_1,.int .i64 a1_2,.slice A1_3 l1_3.length c1_3] 37 (0,0)) B3.out HU.out) 1).trans rfl;have hc3_2:w5.cell? ⟨k3_,2,none⟩=some (.int .i64 a1_2):=(blk_cell (blk_below (g:=k3_) (o:=.cells #[.int .i64 a1_0,.int .i64 a1_1,.int .i64 a1_2,.slice A1_3 l1_3.length c1_3] 37 (0,0)) B3.out HU.out) 2).trans rfl;have hc3_3:w5.cell? ⟨k3_,3,none⟩=some (.slice A1_3 l1_3.length c1_3):=(blk_cell (blk_below (g:=k3_) (o:=.cells #[.int .i64 a1_0,.int .i64 a1_1,.int .i64 a1_2,.slice A1_3 l1_3.length c1_3] 37 (0,0)) B3.out HU.out) 3).trans rfl)
   | (go_at_call 28;(with_reducible refine(impl_FindKey.calls K a0_0 _ _ l0_1 a1_0 x f2 f3 _ ?fk1 HC0.out HFK.out).mono ?_);(case fk1=>exact Kd.C_below HR0.out (below_step HW.out HU.out));rintro e w6 ⟨v_,rfl,ho,hb⟩;obtain⟨Af,cf,ev_⟩:=Kd.R_slice ho;subst ev_;have n0_:=zM (below_step HU.out hb);have n1_:=zM (blk_below (g:=k4_) (o:=.cells #[.int .i64 0,.slice none 0 0] 31 (0,0)) M4.out hb);have n2_:=zM (Kd.R_lower ho (below_size (below_step HW.out HU.out)));clear HU M4;have HU:=n0_;have M4:=n1_;have Of:=n2_;clear n0_ n1_ n2_;clear hb ho;clear hc2_0 hc2_1 hc3_0 hc3_1 hc3_2 hc3_3)
   | ((with_reducible refine gate_dst (N:=6) rfl ?_);refine box_event ?hg (N:=6) ?hd (cs:=#[.int .i64 0,.int .i64 0,.slice none 0 0]) (t:=60) ?hr ?_;(case hd=>rfl);(case hg=>rfl);(case hr=>first|(go_simp;done)|(go_simp;rfl));intro k6_ hg w7 hbox hb;have G6:=zM (show w2.heap.size≤k6_ by rw[hg];exact below_size HU.out);have n0_:=zM (below_step HU.out hb);have n1_:=zM (blk_below (g:=k4_) (o:=.cells #[.int .i64 0,.slice none 0 0] 31 (0,0)) M4.out hb);have n2_:=zM (Kd.R_below Of.out hb);clear HU M4 Of;have HU:=n0_;have M4:=n1_;have Of:=n2_;clear n0_ n1_ n2_;have M6:=zM hbox;clear hb hbox hg)
   | ((with_reducible refine gate_store (t:=60) (p:=6) rfl ?_);refine row_event ?hg (ty:=60) (p:=6) (y:=?yo6) ?ho ?hn (g:=k6_) (old:=#[.int .i64 0,.int .i64 0,.slice none 0 0]) (e:=60) (cells:=#[.int .i64 x,.int .i64 f2,.slice Af f3.length cf]) ?hx ?hy ?hk ?hi ?hd ?h1 ?_;(case ho=>rfl);(case hg=>rfl);(case hn=>rfl);(case hx=>rfl);(case hy=>rfl);(case hk=>exact M6.out);(case hi=>kernel_rfl);(case hd=>rfl);(case h1=>exact zq135);intro w8 hbk hgr;have n0_:=zM (below_grown1 HU.out hgr G6.out);have n1_:=zM (blk_grown1 (g':=k4_) (ob:=.cells #[.int .i64 0,.slice none 0 0] 31 (0,0)) M4.out hgr (blk_ne M4.out M6.out zq36));have n2_:=zM (R_grown_types Of.out M6.out zq36 hgr);have n3_:=zM (hbk);clear HU M4 M6 Of;have HU:=n0_;have M4:=n1_;have Of:=n2_;have M6:=n3_;clear n0_ n1_ n2_ n3_;clear hbk hgr;have hc6_0:w8.cell? ⟨k6_,0,none⟩=some (.int .i64 x):=(blk_cell M6.out 0).trans rfl;have hc6_1:w8.cell? ⟨k6_,1,none⟩=some (.int .i64 f2):=(blk_cell M6.out 1).trans rfl;have hc6_2:w8.cell? ⟨k6_,2,none⟩=some (.slice Af f3.length cf):=(blk_cell M6.out 2).trans rfl;have hc3_0:w8.cell? ⟨k3_,0,none⟩=some (.int .i64 a1_0):=(blk_cell (blk_below (g:=k3_) (o:=.cells #[.int .i64 a1_0,.int .i64 a1_1,.int .i64 a1_2,.slice A1_3 l1_3.length c1_3] 37 (0,0)) B3.out HU.out) 0).trans rfl;have hc3_1:w8.cell? ⟨k3_,1,none⟩=some (.int .i64 a1_1):=(blk_cell (blk_below (g:=k3_) (o:=.cells #[.int .i64 a1_0,.int .i64 a1_1,.int .i64 a1_2,.slice A1_3 l1_3.length c1_3] 37 (0,0)) B3.out HU.out) 1).trans rfl;have hc3_2:w8.cell? ⟨k3_,2,none⟩=some (.int .i64 a1_2):=(blk_cell (blk_below (g:=k3_) (o:=.cells #[.int .i64 a1_0,.int .i64 a1_1,.int .i64 a1_2,.slice A1_3 l1_3.length c1_3] 37 (0,0)) B3.out HU.out) 2).trans rfl;have hc3_3:w8.cell? ⟨k3_,3,none⟩=some (.slice A1_3 l1_3.length c1_3):=(blk_cell (blk_below (g:=k3_) (o:=.cells #[.int .i64 a1_0,.int .i64 a1_1,.int .i64 a1_2,.slice A1_3 l1_3.length c1_3] 37 (0,0)) B3.out HU.out) 3).trans rfl)
   | (go_at_call 27;(with_reducible refine(noBytes_seal x _).mono ?_);rintro e w9 ⟨rfl,hb⟩;have n0_:=zM (below_step HU.out hb);have n1_:=zM (blk_below (g:=k4_) (o:=.cells #[.int .i64 0,.slice none 0 0] 31 (0,0)) M4.out hb);have n2_:=zM (blk_below (g:=k6_) (o:=.cells #[.int .i64 x,.int .i64 f2,.slice Af f3.length cf] 60 (0,0)) M6.out hb);have n3_:=zM (Kd.R_below Of.out hb);clear HU M4 M6 Of;have HU:=n0_;have M4:=n1_;have M6:=n2_;have Of:=n3_;clear n0_ n1_ n2_ n3_;clear hb;clear hc6_0 hc6_1 hc6_2 hc3_0 hc3_1 hc3_2 hc3_3)
   | ((with_reducible refine gate_store (t:=31) (p:=4) rfl ?_);refine row_event ?hg (ty:=31) (p:=4) (y:=?yo4) ?ho ?hn (g:=k4_) (old:=#[.int .i64 0,.slice none 0 0]) (e:=31) (cells:=#[.int .i64 x,.slice none 0 0]) ?hx ?hy ?hk ?hi ?hd ?h1 ?_;(case ho=>rfl);(case hg=>rfl);(case hn=>rfl);(case hx=>rfl);(case hy=>rfl);(case hk=>exact M4.out);(case hi=>kernel_rfl);(case hd=>rfl);(case h1=>exact zq135);intro w10 hbk hgr;have n0_:=zM (below_grown1 HU.out hgr G4.out);have n1_:=zM (blk_grown1 (g':=k6_) (ob:=.cells #[.int .i64 x,.int .i64 f2,.slice Af f3.length cf] 60 (0,0)) M6.out hgr (blk_ne M6.out M4.out zq36));have n2_:=zM (R_grown_types Of.out M4.out zq36 hgr);have n3_:=zM (hbk);clear HU M4 M6 Of;have HU:=n0_;have M6:=n1_;have Of:=n2_;have M4:=n3_;clear n0_ n1_ n2_ n3_;clear hbk hgr))
 refine bodyPost_ret (results_cell_row rfl _ _ k4_ 31 #[.int .i64 x,.slice none 0 0] (0,0) _ rfl M4.out Try.underlying31 rfl (by kernel_rfl)) rfl ?_
 exact⟨_,rfl,Kd.R_nil _ _ _ _ _,below_step HW.out HU.out⟩
set_option maxHeartbeats 8000000 in
set_option maxRecDepth 100000 in
theorem impl_SealLetter.w4 (K:Nat) (a0_0:Int) (A0_1:Option Addr) (c0_1:Nat) (l0_1:List S54) (a1_0 a1_1 a1_2:Int) (A1_3:Option Addr) (c1_3:Nat) (l1_3:List Int) (f2 h1 n1 s1:Int) (f3 hd n s D:List Int) (w:World) (HR0:Aside0 (Kd.C k54 w A0_1 l0_1.length l0_1)) (HC0:Aside0 (l0_1.length≤c0_1)) (HRT:Aside0 (Kd.C (Kd.int .u8) w A1_3 l1_3.length l1_3)) (HCT:Aside0 (l1_3.length≤c1_3)) (HRF:Aside0 (impl_RingFault.f K a0_0 l0_1=some 0)) (HLF:Aside0 (impl_LetterFault.f K a1_0 a1_1 a1_2 l1_3=some 0)) (HFK:Aside0 (impl_FindKey.f K a0_0 l0_1 a1_0=some (0,f2,f3))) (HHO:Aside0 (impl_HeadOf.f K a1_0 a1_1 a1_2=some (h1,hd))) (HNO:Aside0 (impl_NonceOf.f K a1_1 a1_2=some (n1,n))) (HST:Aside0 (impl_SealText.f f3 n hd l1_3=some (s1,s))) (HD:Aside0 (D=hd ++ s)) (HDn:Aside0 (D.length≤5000)) :
  Calls Try.prog 9 #[.agg #[.int .i64 a0_0,.slice A0_1 l0_1.length c0_1],.agg #[.int .i64 a1_0,.int .i64 a1_1,.int .i64 a1_2,.slice A1_3 l1_3.length c1_3]] w fun e w'=>∃ v1_:Value,e=.returned (.agg #[.int .i64 0,v1_])∧Kd.R (Kd.int .u8) 5 w' w.heap.size (fun _=>True) v1_ D∧Below w.heap.size w w':=by
 have HW:=zM (Below.refl w.heap.size w)
 have HU:=zM (Below.refl w.heap.size w)
 go_enter Try.func9,Try.ntmps9
 go_wp2_with (first
   | ((with_reducible refine gate_dst (N:=2) rfl ?_);refine box_event ?hg (N:=2) ?hd (cs:=#[.int .i64 a0_0,.slice A0_1 l0_1.length c0_1]) (t:=35) ?hr ?_;(case hd=>rfl);(case hg=>rfl);(case hr=>first|(go_simp;done)|(go_simp;rfl));intro k2_ hg w1 hbox hb;have G2:=zM (show w.heap.size≤k2_ by rw[hg];exact below_size HU.out);have n0_:=zM (below_step HU.out hb);clear HU;have HU:=n0_;clear n0_;have M2:=zM hbox;clear hb hbox hg)
   | ((with_reducible refine gate_dst (N:=3) rfl ?_);refine box_event ?hg (N:=3) ?hd (cs:=#[.int .i64 a1_0,.int .i64 a1_1,.int .i64 a1_2,.slice A1_3 l1_3.length c1_3]) (t:=37) ?hr ?_;(case hd=>rfl);(case hg=>rfl);(case hr=>first|(go_simp;done)|(go_simp;rfl));intro k3_ hg w2 hbox hb;have G3:=zM (show w.heap.size≤k3_ by rw[hg];exact below_size HU.out);have n0_:=zM (below_step HU.out hb);have n1_:=zM (blk_below (g:=k2_) (o:=.cells #[.int .i64 a0_0,.slice A0_1 l0_1.length c0_1] 35 (0,0)) M2.out hb);clear HU M2;have HU:=n0_;have M2:=n1_;clear n0_ n1_;have M3:=zM hbox;clear hb hbox hg;have n0_:=zM (below_step HW.out HU.out);have n1_:=zM (M2.out);have n2_:=zM (M3.out);have n3_:=zM (Below.refl w2.heap.size w2);clear HW HU M2 G2 M3 G3;have HW:=n0_;have B2:=n1_;have B3:=n2_;have HU:=n3_;clear n0_ n1_ n2_ n3_)
   | ((with_reducible refine gate_dst (N:=4) rfl ?_);refine box_event ?hg (N:=4) ?hd (cs:=#[.int .i64 0,.slice none 0 0]) (t:=31) ?hr ?_;(case hd=>rfl);(case hg=>rfl);(case hr=>first|(go_simp;done)|(go_simp;rfl));intro k4_ hg w3 hbox hb;have G4:=zM (show w2.heap.size≤k4_ by rw[hg];exact below_size HU.out);have n0_:=zM (below_step HU.out hb);clear HU;have HU:=n0_;clear n0_;have M4:=zM hbox;clear hb hbox hg;have hc2_0:w3.cell? ⟨k2_,0,none⟩=some (.int .i64 a0_0):=(blk_cell (blk_below (g:=k2_) (o:=.cells #[.int .i64 a0_0,.slice A0_1 l0_1.length c0_1] 35 (0,0)) B2.out HU.out) 0).trans rfl;have hc2_1:w3.cell? ⟨k2_,1,none⟩=some (.slice A0_1 l0_1.length c0_1):=(blk_cell (blk_below (g:=k2_) (o:=.cells #[.int .i64 a0_0,.slice A0_1 l0_1.length c0_1] 35 (0,0)) B2.out HU.out) 1).trans rfl)
   | (go_at_call 25;(with_reducible refine(impl_RingFault.calls K a0_0 _ _ l0_1 0 _ ?rf1 HC0.out HRF.out).mono ?_);(case rf1=>exact Kd.C_below HR0.out (below_step HW.out HU.out));rintro e w4 ⟨rfl,hb⟩;have n0_:=zM (below_step HU.out hb);have n1_:=zM (blk_below (g:=k4_) (o:=.cells #[.int .i64 0,.slice none 0 0] 31 (0,0)) M4.out hb);clear HU M4;have HU:=n0_;have M4:=n1_;clear n0_ n1_;clear hb;clear hc2_0 hc2_1;have hc3_0:w4.cell? ⟨k3_,0,none⟩=some (.int .i64 a1_0):=(blk_cell (blk_below (g:=k3_) (o:=.cells #[.int .i64 a1_0,.int .i64 a1_1,.int .i64 a1_2,.slice A1_3 l1_3.length c1_3] 37 (0,0)) B3.out HU.out) 0).trans rfl;have hc3_1:w4.cell? ⟨k3_,1,none⟩=some (.int .i64 a1_1):=(blk_cell (blk_below (g:=k3_) (o:=.cells #[.int .i64 a1_0,.int .i64 a1_1,.int .i64 a1_2,.slice A1_3 l1_3.length c1_3] 37 (0,0)) B3.out HU.out) 1).trans rfl;have hc3_2:w4.cell? ⟨k3_,2,none⟩=some (.int .i64 a1_2):=(blk_cell (blk_below (g:=k3_) (o:=.cells #[.int .i64 a1_0,.int .i64 a1_1,.int .i64 a1_2,.slice A1_3 l1_3.length c1_3] 37 (0,0)) B3.out HU.out) 2).trans rfl;have hc3_3:w4.cell? ⟨k3_,3,none⟩=some (.slice A1_3 l1_3.length c1_3):=(blk_cell (blk_below (g:=k3_) (o:=.cells #[.int .i64 a1_0,.int .i64 a1_1,.int .i64 a1_2,.slice A1_3 l1_3.length c1_3] 37 (0,0)) B3.out HU.out) 3).trans rfl)
   | (go_at_call 26;(with_reducible refine(impl_LetterFault.calls K a1_0 a1_1 a1_2 _ _ l1_3 0 _ ?lf1 HCT.out HLF.out).mono ?_);(case lf1=>exact Kd.C_below HRT.out (below_step HW.out HU.out));rintro e w5 ⟨rfl,hb⟩;have n0_:=zM (below_step HU.out hb);have n1_:=zM (blk_below (g:=k4_) (o:=.cells #[.int .i64 0,.slice none 0 0] 31 (0,0)) M4.out hb);clear HU M4;have HU:=n0_;have M4:=n1_;clear n0_ n1_;clear hb;clear hc3_0 hc3_1 hc3_2 hc3_3;have hc2_0:w5.cell? ⟨k2_,0,none⟩=some (.int .i64 a0_0):=(blk_cell (blk_below (g:=k2_) (o:=.cells #[.int .i64 a0_0,.slice A0_1 l0_1.length c0_1] 35 (0,0)) B2.out HU.out) 0).trans rfl;have hc2_1:w5.cell? ⟨k2_,1,none⟩=some (.slice A0_1 l0_1.length c0_1):=(blk_cell (blk_below (g:=k2_) (o:=.cells #[.int .i64 a0_0,.slice A0_1 l0_1.length c0_1] 35 (0,0)) B2.out HU.out) 1).trans rfl;have hc3_0:w5.cell? ⟨k3_,0,none⟩=some (.int .i64 a1_0):=(blk_cell (blk_below (g:=k3_) (o:=.cells #[.int .i64 a1_0,.int .i64 a1_1,.int .i64 a1_2,.slice A1_3 l1_3.length c1_3] 37 (0,0)) B3.out HU.out) 0).trans rfl;have hc3_1:w5.cell? ⟨k3_,1,none⟩=some (.int .i64 a1_1):=(blk_cell (blk_below (g:=k3_) (o:=.cells #[.int .i64 a1_0,.int .i64 a1_1,.int .i64 a1_2,.slice A1_3 l1_3.length c1_3] 37 (0,0)) B3.out HU.out) 1).trans rfl;have hc3_2:w5.cell? ⟨k3_,2,none⟩=some (.int .i64 a1_2):=(blk_cell (blk_below (g:=k3_) (o:=.cells #[.int .i64 a1_0,.int .i64 a1_1,.int .i64 a1_2,.slice A1_3 l1_3.length c1_3] 37 (0,0)) B3.out HU.out) 2).trans rfl;have hc3_3:w5.cell? ⟨k3_,3,none⟩=some (.slice A1_3 l1_3.length c1_3):=(blk_cell (blk_below (g:=k3_) (o:=.cells #[.int .i64 a1_0,.int .i64 a1_1,.int .i64 a1_2,.slice A1_3 l1_3.length c1_3] 37 (0,0)) B3.out HU.out) 3).trans rfl)
   | (go_at_call 28;(with_reducible refine(impl_FindKey.calls K a0_0 _ _ l0_1 a1_0 0 f2 f3 _ ?fk1 HC0.out HFK.out).mono ?_);(case fk1=>exact Kd.C_below HR0.out (below_step HW.out HU.out));rintro e w6 ⟨v_,rfl,ho,hb⟩;obtain⟨Af,cf,ev_⟩:=Kd.R_slice ho;subst ev_;have n0_:=zM (below_step HU.out hb);have n1_:=zM (blk_below (g:=k4_) (o:=.cells #[.int .i64 0,.slice none 0 0] 31 (0,0)) M4.out hb);have n2_:=zM (Kd.R_lower ho (below_size (below_step HW.out HU.out)));clear HU M4;have HU:=n0_;have M4:=n1_;have Of:=n2_;clear n0_ n1_ n2_;clear hb ho;clear hc2_0 hc2_1 hc3_0 hc3_1 hc3_2 hc3_3)
   | ((with_reducible refine gate_dst (N:=6) rfl ?_);refine box_event ?hg (N:=6) ?hd (cs:=#[.int .i64 0,.int .i64 0,.slice none 0 0]) (t:=60) ?hr ?_;(case hd=>rfl);(case hg=>rfl);(case hr=>first|(go_simp;done)|(go_simp;rfl));intro k6_ hg w7 hbox hb;have G6:=zM (show w2.heap.size≤k6_ by rw[hg];exact below_size HU.out);have n0_:=zM (below_step HU.out hb);have n1_:=zM (blk_below (g:=k4_) (o:=.cells #[.int .i64 0,.slice none 0 0] 31 (0,0)) M4.out hb);have n2_:=zM (Kd.R_below Of.out hb);clear HU M4 Of;have HU:=n0_;have M4:=n1_;have Of:=n2_;clear n0_ n1_ n2_;have M6:=zM hbox;clear hb hbox hg)
   | ((with_reducible refine gate_store (t:=60) (p:=6) rfl ?_);refine row_event ?hg (ty:=60) (p:=6) (y:=?yo6) ?ho ?hn (g:=k6_) (old:=#[.int .i64 0,.int .i64 0,.slice none 0 0]) (e:=60) (cells:=#[.int .i64 0,.int .i64 f2,.slice Af f3.length cf]) ?hx ?hy ?hk ?hi ?hd ?h1 ?_;(case ho=>rfl);(case hg=>rfl);(case hn=>rfl);(case hx=>rfl);(case hy=>rfl);(case hk=>exact M6.out);(case hi=>kernel_rfl);(case hd=>rfl);(case h1=>exact zq135);intro w8 hbk hgr;have n0_:=zM (below_grown1 HU.out hgr G6.out);have n1_:=zM (blk_grown1 (g':=k4_) (ob:=.cells #[.int .i64 0,.slice none 0 0] 31 (0,0)) M4.out hgr (blk_ne M4.out M6.out zq36));have n2_:=zM (R_grown_types Of.out M6.out zq36 hgr);have n3_:=zM (hbk);clear HU M4 M6 Of;have HU:=n0_;have M4:=n1_;have Of:=n2_;have M6:=n3_;clear n0_ n1_ n2_ n3_;clear hbk hgr;have hc6_0:w8.cell? ⟨k6_,0,none⟩=some (.int .i64 0):=(blk_cell M6.out 0).trans rfl;have hc6_1:w8.cell? ⟨k6_,1,none⟩=some (.int .i64 f2):=(blk_cell M6.out 1).trans rfl;have hc6_2:w8.cell? ⟨k6_,2,none⟩=some (.slice Af f3.length cf):=(blk_cell M6.out 2).trans rfl;have hc3_0:w8.cell? ⟨k3_,0,none⟩=some (.int .i64 a1_0):=(blk_cell (blk_below (g:=k3_) (o:=.cells #[.int .i64 a1_0,.int .i64 a1_1,.int .i64 a1_2,.slice A1_3 l1_3.length c1_3] 37 (0,0)) B3.out HU.out) 0).trans rfl;have hc3_1:w8.cell? ⟨k3_,1,none⟩=some (.int .i64 a1_1):=(blk_cell (blk_below (g:=k3_) (o:=.cells #[.int .i64 a1_0,.int .i64 a1_1,.int .i64 a1_2,.slice A1_3 l1_3.length c1_3] 37 (0,0)) B3.out HU.out) 1).trans rfl;have hc3_2:w8.cell? ⟨k3_,2,none⟩=some (.int .i64 a1_2):=(blk_cell (blk_below (g:=k3_) (o:=.cells #[.int .i64 a1_0,.int .i64 a1_1,.int .i64 a1_2,.slice A1_3 l1_3.length c1_3] 37 (0,0)) B3.out HU.out) 2).trans rfl;have hc3_3:w8.cell? ⟨k3_,3,none⟩=some (.slice A1_3 l1_3.length c1_3):=(blk_cell (blk_below (g:=k3_) (o:=.cells #[.int .i64 a1_0,.int .i64 a1_1,.int .i64 a1_2,.slice A1_3 l1_3.length c1_3] 37 (0,0)) B3.out HU.out) 3).trans rfl)
   | (go_at_call 29;(with_reducible refine(impl_HeadOf.calls K a1_0 a1_1 a1_2 h1 hd _ HHO.out).mono ?_);rintro e w9 ⟨v_,rfl,ho,hb⟩;obtain⟨Ah,ch,ev_⟩:=Kd.R_slice ho;subst ev_;have n0_:=zM (below_step HU.out hb);have n1_:=zM (blk_below (g:=k4_) (o:=.cells #[.int .i64 0,.slice none 0 0] 31 (0,0)) M4.out hb);have n2_:=zM (blk_below (g:=k6_) (o:=.cells #[.int .i64 0,.int .i64 f2,.slice Af f3.length cf] 60 (0,0)) M6.out hb);have n3_:=zM (Kd.R_below Of.out hb);have n4_:=zM (Kd.R_lower ho (below_size (below_step HW.out HU.out)));clear HU M4 M6 Of;have HU:=n0_;have M4:=n1_;have M6:=n2_;have Of:=n3_;have Oh:=n4_;clear n0_ n1_ n2_ n3_ n4_;clear hb ho;clear hc6_0 hc6_1 hc6_2 hc3_0 hc3_1 hc3_2 hc3_3;have hc6_0:w9.cell? ⟨k6_,0,none⟩=some (.int .i64 0):=(blk_cell M6.out 0).trans rfl;have hc6_1:w9.cell? ⟨k6_,1,none⟩=some (.int .i64 f2):=(blk_cell M6.out 1).trans rfl;have hc6_2:w9.cell? ⟨k6_,2,none⟩=some (.slice Af f3.length cf):=(blk_cell M6.out 2).trans rfl;have hc3_0:w9.cell? ⟨k3_,0,none⟩=some (.int .i64 a1_0):=(blk_cell (blk_below (g:=k3_) (o:=.cells #[.int .i64 a1_0,.int .i64 a1_1,.int .i64 a1_2,.slice A1_3 l1_3.length c1_3] 37 (0,0)) B3.out HU.out) 0).trans rfl;have hc3_1:w9.cell? ⟨k3_,1,none⟩=some (.int .i64 a1_1):=(blk_cell (blk_below (g:=k3_) (o:=.cells #[.int .i64 a1_0,.int .i64 a1_1,.int .i64 a1_2,.slice A1_3 l1_3.length c1_3] 37 (0,0)) B3.out HU.out) 1).trans rfl;have hc3_2:w9.cell? ⟨k3_,2,none⟩=some (.int .i64 a1_2):=(blk_cell (blk_below (g:=k3_) (o:=.cells #[.int .i64 a1_0,.int .i64 a1_1,.int .i64 a1_2,.slice A1_3 l1_3.length c1_3] 37 (0,0)) B3.out HU.out) 2).trans rfl;have hc3_3:w9.cell? ⟨k3_,3,none⟩=some (.slice A1_3 l1_3.length c1_3):=(blk_cell (blk_below (g:=k3_) (o:=.cells #[.int .i64 a1_0,.int .i64 a1_1,.int .i64 a1_2,.slice A1_3 l1_3.length c1_3] 37 (0,0)) B3.out HU.out) 3).trans rfl))
 clear hc6_0 hc6_1 hc6_2 hc3_0 hc3_1 hc3_2 hc3_3
 have hbd:=below_drew1 (Below.refl w9.heap.size w9)
 have n0_:=zM (below_step HU.out hbd)
 have n1_:=zM (blk_below (g:=k4_) (o:=.cells #[.int .i64 0,.slice none 0 0] 31 (0,0)) M4.out hbd)
 have n2_:=zM (blk_below (g:=k6_) (o:=.cells #[.int .i64 0,.int .i64 f2,.slice Af f3.length cf] 60 (0,0)) M6.out hbd)
 have n3_:=zM (Kd.R_below Of.out hbd)
 have n4_:=zM (Kd.R_below Oh.out hbd)
 clear HU M4 M6 Of Oh
 have HU:=n0_
 have M4:=n1_
 have M6:=n2_
 have Of:=n3_
 have Oh:=n4_
 clear n0_ n1_ n2_ n3_ n4_
 clear hbd
 generalize hWd:w9.drew=w10 at HU M4 M6 Of Oh
 have HS:Aside0 (∀ w',Below w10.heap.size w10 w'→(w'.cell? ⟨k6_,2,none⟩=some (.slice Af f3.length cf)∧w'.cell? ⟨k3_,1,none⟩=some (.int .i64 a1_1)∧w'.cell? ⟨k3_,2,none⟩=some (.int .i64 a1_2)∧w'.cell? ⟨k3_,3,none⟩=some (.slice A1_3 l1_3.length c1_3))):=⟨fun w' hb=>⟨(blk_cell (blk_below (g:=k6_) (o:=.cells #[.int .i64 0,.int .i64 f2,.slice Af f3.length cf] 60 (0,0)) M6.out hb) 2).trans rfl,(blk_cell (blk_below (g:=k3_) (o:=.cells #[.int .i64 a1_0,.int .i64 a1_1,.int .i64 a1_2,.slice A1_3 l1_3.length c1_3] 37 (0,0)) B3.out (below_step HU.out hb)) 1).trans rfl,(blk_cell (blk_below (g:=k3_) (o:=.cells #[.int .i64 a1_0,.int .i64 a1_1,.int .i64 a1_2,.slice A1_3 l1_3.length c1_3] 37 (0,0)) B3.out (below_step HU.out hb)) 2).trans rfl,(blk_cell (blk_below (g:=k3_) (o:=.cells #[.int .i64 a1_0,.int .i64 a1_1,.int .i64 a1_2,.slice A1_3 l1_3.length c1_3] 37 (0,0)) B3.out (below_step HU.out hb)) 3).trans rfl⟩⟩
 refine start_ (n:=15) (S:=fun w'=>w'.cell? ⟨k6_,2,none⟩=some (.slice Af f3.length cf)∧w'.cell? ⟨k3_,1,none⟩=some (.int .i64 a1_1)∧w'.cell? ⟨k3_,2,none⟩=some (.int .i64 a1_2)∧w'.cell? ⟨k3_,3,none⟩=some (.slice A1_3 l1_3.length c1_3)) (ds:=[14]) #[false,false,false,false,false,false,false,false,false,false,false,false,false,false,false] (by kernel_rfl) rfl rfl (by rw[hWd];exact HS.out _ (Below.refl _ _)) (fun hHeld=>?_)
 refine with_tabW impl_SealLetter.tab10 impl_SealLetter.bits10 (fun HT_ HW_=>?_)
 rw[hWd] at hHeld ⊢
 clear hWd
 refine pure_ (i:=0) (N:=some 37) (v:=?_) (a':=?_) #[true,false,false,false,false,false,false,false,false,false,false,false,false,false,false] rfl rfl (any_of HT_.out (by kernel_rfl)) (fun _ _ _ h=>h) (Or.inl ⟨zq125,?_⟩) ?_ ?_
 rotate_left
 ·intro w'
  go_simp
  with_reducible rfl
 rotate_left
 ·simp only[Act.put,List.setIfInBounds_toArray,List.set_cons_zero,List.set_cons_succ,i64_w,i32_w]
  rfl
 refine pure_ (i:=1) (N:=some 38) (v:=?_) (a':=?_) #[true,true,false,false,false,false,false,false,false,false,false,false,false,false,false] rfl rfl (any_of HT_.out (by kernel_rfl)) (fun _ _ _ h=>h) (Or.inl ⟨zq125,?_⟩) ?_ ?_
 rotate_left
 ·intro w'
  go_simp
  with_reducible rfl
 rotate_left
 ·simp only[Act.put,List.setIfInBounds_toArray,List.set_cons_zero,List.set_cons_succ,i64_w,i32_w]
  rfl
 refine take_ (i:=2) (N:=some 39) (v:=?_) (a':=?_) #[true,true,true,false,false,false,false,false,false,false,false,false,false,false,false] rfl rfl (take_ofW HT_.out HW_.out (by kernel_rfl)) (fun _ _ _ h=>h) (Or.inl ⟨zq125,?_⟩) hHeld ?_ ?_
 rotate_left
 ·rintro w' ⟨s0,s1,s2,s3⟩
  go_simp
  with_reducible rfl
 rotate_left
 ·simp only[Act.put,List.setIfInBounds_toArray,List.set_cons_zero,List.set_cons_succ,i64_w,i32_w]
  rfl
 refine pure_ (i:=3) (N:=some 40) (v:=?_) (a':=?_) #[true,true,true,true,false,false,false,false,false,false,false,false,false,false,false] rfl rfl (any_of HT_.out (by kernel_rfl)) (fun _ _ _ h=>h) (Or.inl ⟨zq125,?_⟩) ?_ ?_
 rotate_left
 ·intro w'
  go_simp
  with_reducible rfl
 rotate_left
 ·simp only[Act.put,List.setIfInBounds_toArray,List.set_cons_zero,List.set_cons_succ,i64_w,i32_w]
  rfl
 refine take_ (i:=4) (N:=some 41) (v:=?_) (a':=?_) #[true,true,true,true,true,false,false,false,false,false,false,false,false,false,false] rfl rfl (take_ofW HT_.out HW_.out (by kernel_rfl)) (fun _ _ _ h=>h) (Or.inl ⟨zq125,?_⟩) hHeld ?_ ?_
 rotate_left
 ·rintro w' ⟨s0,s1,s2,s3⟩
  go_simp
  with_reducible rfl
 rotate_left
 ·simp only[Act.put,List.setIfInBounds_toArray,List.set_cons_zero,List.set_cons_succ,i64_w,i32_w]
  rfl
 refine pure_ (i:=5) (N:=some 42) (v:=?_) (a':=?_) #[true,true,true,true,true,true,false,false,false,false,false,false,false,false,false] rfl rfl (any_of HT_.out (by kernel_rfl)) (fun _ _ _ h=>h) (Or.inl ⟨zq125,?_⟩) ?_ ?_
 rotate_left
 ·intro w'
  go_simp
  with_reducible rfl
 rotate_left
 ·simp only[Act.put,List.setIfInBounds_toArray,List.set_cons_zero,List.set_cons_succ,i64_w,i32_w]
  rfl
 refine take_ (i:=6) (N:=some 43) (v:=?_) (a':=?_) #[true,true,true,true,true,true,true,false,false,false,false,false,false,false,false] rfl rfl (take_ofW HT_.out HW_.out (by kernel_rfl)) (fun _ _ _ h=>h) (Or.inl ⟨zq125,?_⟩) hHeld ?_ ?_
 rotate_left
 ·rintro w' ⟨s0,s1,s2,s3⟩
  go_simp
  with_reducible rfl
 rotate_left
 ·simp only[Act.put,List.setIfInBounds_toArray,List.set_cons_zero,List.set_cons_succ,i64_w,i32_w]
  rfl
 refine pure_ (i:=9) (N:=some 46) (v:=?_) (a':=?_) #[true,true,true,true,true,true,true,false,false,true,false,false,false,false,false] rfl rfl (any_of HT_.out (by kernel_rfl)) (fun _ _ _ h=>h) (Or.inl ⟨zq125,?_⟩) ?_ ?_
 rotate_left
 ·intro w'
  go_simp
  with_reducible rfl
 rotate_left
 ·simp only[Act.put,List.setIfInBounds_toArray,List.set_cons_zero,List.set_cons_succ,i64_w,i32_w]
  rfl
 refine pure_ (i:=10) (N:=some 47) (v:=?_) (a':=?_) #[true,true,true,true,true,true,true,false,false,true,true,false,false,false,false] rfl rfl (any_of HT_.out (by kernel_rfl)) (fun _ _ _ h=>h) (Or.inl ⟨zq125,?_⟩) ?_ ?_
 rotate_left
 ·intro w'
  go_simp
  with_reducible rfl
 rotate_left
 ·simp only[Act.put,List.setIfInBounds_toArray,List.set_cons_zero,List.set_cons_succ,i64_w,i32_w]
  rfl
 refine take_ (i:=11) (N:=some 48) (v:=?_) (a':=?_) #[true,true,true,true,true,true,true,false,false,true,true,true,false,false,false] rfl rfl (take_ofW HT_.out HW_.out (by kernel_rfl)) (fun _ _ _ h=>h) (Or.inl ⟨zq125,?_⟩) hHeld ?_ ?_
 rotate_left
 ·rintro w' ⟨s0,s1,s2,s3⟩
  go_simp
  with_reducible rfl
 rotate_left
 ·simp only[Act.put,List.setIfInBounds_toArray,List.set_cons_zero,List.set_cons_succ,i64_w,i32_w]
  rfl
 refine join_ (σ:=Value × Value × Nat × Option Addr × Nat) 1 #[true,true,true,true,true,true,true,true,true,true,true,true,true,true,false] (fun s_=>[(44,s_.1),(45,s_.2.1),(49,.agg #[.int .i64 s1,.slice s_.2.2.2.1 s.length s_.2.2.2.2]),(8,.pointer (some ⟨s_.2.2.1,0,none⟩))]) (fun s_ w'=>Below w10.heap.size w10 w'∧w'.heap[s_.2.2.1]?=some (Obj.cells #[.int .i64 0,.slice none 0 0] 31 (0,0))∧w10.heap.size≤s_.2.2.1∧Kd.R (Kd.int .u8) 5 w' w.heap.size (fun _=>True) (.slice s_.2.2.2.1 s.length s_.2.2.2.2) s) ?_ ?_
 rotate_left
 ·intro hCont
  have hB:=zM (Below.refl w10.heap.size w10)
  refine two_ (i:=7) (j:=13) (Ni:=some 44) (Nj:=some 8) #[true,true,true,true,true,true,true,true,false,true,true,true,false,false,false] #[true,true,true,true,true,true,true,false,false,true,true,true,false,true,false] rfl rfl rfl rfl (two_of HT_.out (by kernel_rfl)) zq36 zq36 (fun K_ hK=>?_) (fun K_ hK=>?_)
  ·skip
   refine goes_ Try.func31 (by kernel_rfl) rfl #[.int .i64 a1_1,.int .i64 a1_2] zq125 rfl rfl zq13 ?_
   with_reducible refine(impl_NonceOf.calls K a1_1 a1_2 n1 n _ HNO.out).mono ?_
   rintro e w10c1 ⟨v_,rfl,ho,hb⟩
   refine⟨_,rfl,?_⟩
   obtain⟨An_,cn_,ev_⟩:=Kd.R_slice ho
   subst ev_
   have n0_:=zM (below_step hB.out hb)
   have n1_:=zM (Kd.R_lower ho (below_size (below_step HW.out (below_step HU.out hB.out))))
   clear hHeld hB
   have hB:=n0_
   have HOn_:=n1_
   clear n0_ n1_
   clear hb ho
   refine hK.out _ _ (HS.out _ hB.out) (fun hHeld=>?_)
   clear hK K_
   refine norm_ (a':=?_) ?_ ?_
   rotate_left
   ·show Act.put _ (some 44) _=_
    simp only[Act.put,List.setIfInBounds_toArray,List.set_cons_zero,List.set_cons_succ,i64_w,i32_w]
    rfl
   refine pure_ (i:=8) (N:=some 45) (v:=?_) (a':=?_) #[true,true,true,true,true,true,true,true,true,true,true,true,false,false,false] rfl rfl (any_of HT_.out (by kernel_rfl)) (fun _ _ _ h=>h) (Or.inl ⟨zq125,?_⟩) ?_ ?_
   rotate_left
   ·intro w'
    go_simp
    with_reducible rfl
   rotate_left
   ·simp only[Act.put,List.setIfInBounds_toArray,List.set_cons_zero,List.set_cons_succ,i64_w,i32_w]
    rfl
   refine two_ (i:=12) (j:=13) (Ni:=some 49) (Nj:=some 8) #[true,true,true,true,true,true,true,true,true,true,true,true,true,false,false] #[true,true,true,true,true,true,true,true,true,true,true,true,false,true,false] rfl rfl rfl rfl (two_of HT_.out (by kernel_rfl)) zq36 zq36 (fun K_ hK=>?_) (fun K_ hK=>?_)
   ·skip
    refine goes_ Try.func30 (by kernel_rfl) rfl #[.slice Af f3.length cf,.slice An_ n.length cn_,.slice Ah hd.length ch,.slice A1_3 l1_3.length c1_3] zq125 rfl rfl zq13 ?_
    with_reducible refine(impl_SealText.calls _ _ f3 _ _ n _ _ hd _ _ l1_3 s1 s _ ?sa2 ?sb2 ?sc2 ?sd2 ?se2 ?sf2 ?sg2 HCT.out HST.out).mono ?_
    (case sa2=>exact Kd.C_below (Kd.R_reads' Of.out).2.2 hB.out)
    (case sb2=>exact(Kd.R_reads' Of.out).2.1)
    (case sc2=>exact(Kd.R_reads' HOn_.out).2.2)
    (case sd2=>exact(Kd.R_reads' HOn_.out).2.1)
    (case se2=>exact Kd.C_below (Kd.R_reads' Oh.out).2.2 hB.out)
    (case sf2=>exact(Kd.R_reads' Oh.out).2.1)
    (case sg2=>exact Kd.C_below HRT.out (below_step HW.out (below_step HU.out hB.out)))
    rintro e w10c2 ⟨v_,rfl,ho,hb⟩
    refine⟨_,rfl,?_⟩
    obtain⟨As_,cs_,ev_⟩:=Kd.R_slice ho
    subst ev_
    have n0_:=zM (below_step hB.out hb)
    have n1_:=zM (Kd.R_below HOn_.out hb)
    have n2_:=zM (Kd.R_lower ho (below_size (below_step HW.out (below_step HU.out hB.out))))
    clear hHeld hB HOn_
    have hB:=n0_
    have HOn_:=n1_
    have HOs_:=n2_
    clear n0_ n1_ n2_
    clear hb ho
    refine hK.out _ _ (HS.out _ hB.out) (fun hHeld=>?_)
    clear hK K_
    refine norm_ (a':=?_) ?_ ?_
    rotate_left
    ·show Act.put _ (some 49) _=_
     simp only[Act.put,List.setIfInBounds_toArray,List.set_cons_zero,List.set_cons_succ,i64_w,i32_w]
     rfl
    refine one_ (i:=13) (N:=some 8) #[true,true,true,true,true,true,true,true,true,true,true,true,true,true,false] rfl rfl (one_of HT_.out (by kernel_rfl)) zq36 (fun K_ hK=>?_)
    refine value_ (w1:=(w10c2.alloc (.cells #[.int .i64 0,.slice none 0 0] 31))) (v:=.pointer (some ⟨w10c2.heap.size,0,none⟩)) zq125 rfl ?_ ?_
    ·first
      | (go_simp;done)
      | (go_simp;rfl)
    obtain⟨gq_,hgq_⟩:∃ x,x=w10c2.heap.size:=⟨_,rfl⟩
    rw[← hgq_]
    obtain⟨w10c3,hw2_⟩:∃ x,x=(w10c2.alloc (.cells #[.int .i64 0,.slice none 0 0] 31)):=⟨_,rfl⟩
    rw[← hw2_]
    have n0_:=zM ((by rw[hw2_];exact below_alloc hB.out (.cells #[.int .i64 0,.slice none 0 0] 31):Below w10.heap.size w10 w10c3))
    have n1_:=zM ((by rw[hw2_,hgq_];exact heap_alloc_new w10c2 (.cells #[.int .i64 0,.slice none 0 0] 31):w10c3.heap[gq_]?=some (Obj.cells #[.int .i64 0,.slice none 0 0] 31 (0,0))))
    have n2_:=zM ((by rw[hgq_];exact hB.out.size:w10.heap.size≤gq_))
    have n3_:=zM ((by rw[hw2_];exact Kd.R_alloc HOn_.out (.cells #[.int .i64 0,.slice none 0 0] 31):Kd.R (Kd.int .u8) 5 w10c3 w.heap.size (fun _=>True) (.slice An_ n.length cn_) n))
    have n4_:=zM ((by rw[hw2_];exact Kd.R_alloc HOs_.out (.cells #[.int .i64 0,.slice none 0 0] 31):Kd.R (Kd.int .u8) 5 w10c3 w.heap.size (fun _=>True) (.slice As_ s.length cs_) s))
    clear hHeld hB HOn_ HOs_
    have hB:=n0_
    have HZ:=n1_
    have HG:=n2_
    have HOn_:=n3_
    have HOs_:=n4_
    clear n0_ n1_ n2_ n3_ n4_
    clear hw2_ hgq_
    refine hK.out _ _ (HS.out _ hB.out) (fun hHeld=>?_)
    clear hK K_
    refine norm_ (a':=?_) ?_ ?_
    rotate_left
    ·show Act.put _ (some 8) _=_
     simp only[Act.put,List.setIfInBounds_toArray,List.set_cons_zero,List.set_cons_succ,i64_w,i32_w]
     rfl
    exact norm_ zq44 (hCont (.agg #[.int .i64 n1,.slice An_ n.length cn_],.slice An_ n.length cn_,gq_,As_,cs_) _ ⟨hB.out,HZ.out,HG.out,HOs_.out⟩)
   ·skip
    refine value_ (w1:=(w10c1.alloc (.cells #[.int .i64 0,.slice none 0 0] 31))) (v:=.pointer (some ⟨w10c1.heap.size,0,none⟩)) zq125 rfl ?_ ?_
    ·first
      | (go_simp;done)
      | (go_simp;rfl)
    obtain⟨gq_,hgq_⟩:∃ x,x=w10c1.heap.size:=⟨_,rfl⟩
    rw[← hgq_]
    obtain⟨w10c4,hw2_⟩:∃ x,x=(w10c1.alloc (.cells #[.int .i64 0,.slice none 0 0] 31)):=⟨_,rfl⟩
    rw[← hw2_]
    have n0_:=zM ((by rw[hw2_];exact below_alloc hB.out (.cells #[.int .i64 0,.slice none 0 0] 31):Below w10.heap.size w10 w10c4))
    have n1_:=zM ((by rw[hw2_,hgq_];exact heap_alloc_new w10c1 (.cells #[.int .i64 0,.slice none 0 0] 31):w10c4.heap[gq_]?=some (Obj.cells #[.int .i64 0,.slice none 0 0] 31 (0,0))))
    have n2_:=zM ((by rw[hgq_];exact hB.out.size:w10.heap.size≤gq_))
    have n3_:=zM ((by rw[hw2_];exact Kd.R_alloc HOn_.out (.cells #[.int .i64 0,.slice none 0 0] 31):Kd.R (Kd.int .u8) 5 w10c4 w.heap.size (fun _=>True) (.slice An_ n.length cn_) n))
    clear hHeld hB HOn_
    have hB:=n0_
    have HZ:=n1_
    have HG:=n2_
    have HOn_:=n3_
    clear n0_ n1_ n2_ n3_
    clear hw2_ hgq_
    refine hK.out _ _ (HS.out _ hB.out) (fun hHeld=>?_)
    clear hK K_
    refine norm_ (a':=?_) ?_ ?_
    rotate_left
    ·show Act.put _ (some 8) _=_
     simp only[Act.put,List.setIfInBounds_toArray,List.set_cons_zero,List.set_cons_succ,i64_w,i32_w]
     rfl
    refine one_ (i:=12) (N:=some 49) #[true,true,true,true,true,true,true,true,true,true,true,true,true,true,false] rfl rfl (one_of HT_.out (by kernel_rfl)) zq36 (fun K_ hK=>?_)
    refine goes_ Try.func30 (by kernel_rfl) rfl #[.slice Af f3.length cf,.slice An_ n.length cn_,.slice Ah hd.length ch,.slice A1_3 l1_3.length c1_3] zq125 rfl rfl zq13 ?_
    with_reducible refine(impl_SealText.calls _ _ f3 _ _ n _ _ hd _ _ l1_3 s1 s _ ?sa5 ?sb5 ?sc5 ?sd5 ?se5 ?sf5 ?sg5 HCT.out HST.out).mono ?_
    (case sa5=>exact Kd.C_below (Kd.R_reads' Of.out).2.2 hB.out)
    (case sb5=>exact(Kd.R_reads' Of.out).2.1)
    (case sc5=>exact(Kd.R_reads' HOn_.out).2.2)
    (case sd5=>exact(Kd.R_reads' HOn_.out).2.1)
    (case se5=>exact Kd.C_below (Kd.R_reads' Oh.out).2.2 hB.out)
    (case sf5=>exact(Kd.R_reads' Oh.out).2.1)
    (case sg5=>exact Kd.C_below HRT.out (below_step HW.out (below_step HU.out hB.out)))
    rintro e w10c5 ⟨v_,rfl,ho,hb⟩
    refine⟨_,rfl,?_⟩
    obtain⟨As_,cs_,ev_⟩:=Kd.R_slice ho
    subst ev_
    have n0_:=zM (below_step hB.out hb)
    have n1_:=zM (blk_below (g:=gq_) (o:=.cells #[.int .i64 0,.slice none 0 0] 31 (0,0)) HZ.out hb)
    have n2_:=zM (Kd.R_below HOn_.out hb)
    have n3_:=zM (Kd.R_lower ho (below_size (below_step HW.out (below_step HU.out hB.out))))
    clear hHeld hB HZ HOn_
    have hB:=n0_
    have HZ:=n1_
    have HOn_:=n2_
    have HOs_:=n3_
    clear n0_ n1_ n2_ n3_
    clear hb ho
    refine hK.out _ _ (HS.out _ hB.out) (fun hHeld=>?_)
    clear hK K_
    refine norm_ (a':=?_) ?_ ?_
    rotate_left
    ·show Act.put _ (some 49) _=_
     simp only[Act.put,List.setIfInBounds_toArray,List.set_cons_zero,List.set_cons_succ,i64_w,i32_w]
     rfl
    exact norm_ zq44 (hCont (.agg #[.int .i64 n1,.slice An_ n.length cn_],.slice An_ n.length cn_,gq_,As_,cs_) _ ⟨hB.out,HZ.out,HG.out,HOs_.out⟩)
  ·skip
   refine value_ (w1:=(w10.alloc (.cells #[.int .i64 0,.slice none 0 0] 31))) (v:=.pointer (some ⟨w10.heap.size,0,none⟩)) zq125 rfl ?_ ?_
   ·first
     | (go_simp;done)
     | (go_simp;rfl)
   obtain⟨gq_,hgq_⟩:∃ x,x=w10.heap.size:=⟨_,rfl⟩
   rw[← hgq_]
   obtain⟨w10c6,hw2_⟩:∃ x,x=(w10.alloc (.cells #[.int .i64 0,.slice none 0 0] 31)):=⟨_,rfl⟩
   rw[← hw2_]
   have n0_:=zM ((by rw[hw2_];exact below_alloc hB.out (.cells #[.int .i64 0,.slice none 0 0] 31):Below w10.heap.size w10 w10c6))
   have n1_:=zM ((by rw[hw2_,hgq_];exact heap_alloc_new w10 (.cells #[.int .i64 0,.slice none 0 0] 31):w10c6.heap[gq_]?=some (Obj.cells #[.int .i64 0,.slice none 0 0] 31 (0,0))))
   have n2_:=zM ((by rw[hgq_];exact hB.out.size:w10.heap.size≤gq_))
   clear hHeld hB
   have hB:=n0_
   have HZ:=n1_
   have HG:=n2_
   clear n0_ n1_ n2_
   clear hw2_ hgq_
   refine hK.out _ _ (HS.out _ hB.out) (fun hHeld=>?_)
   clear hK K_
   refine norm_ (a':=?_) ?_ ?_
   rotate_left
   ·show Act.put _ (some 8) _=_
    simp only[Act.put,List.setIfInBounds_toArray,List.set_cons_zero,List.set_cons_succ,i64_w,i32_w]
    rfl
   refine one_ (i:=7) (N:=some 44) #[true,true,true,true,true,true,true,true,false,true,true,true,false,true,false] rfl rfl (one_of HT_.out (by kernel_rfl)) zq36 (fun K_ hK=>?_)
   refine goes_ Try.func31 (by kernel_rfl) rfl #[.int .i64 a1_1,.int .i64 a1_2] zq125 rfl rfl zq13 ?_
   with_reducible refine(impl_NonceOf.calls K a1_1 a1_2 n1 n _ HNO.out).mono ?_
   rintro e w10c7 ⟨v_,rfl,ho,hb⟩
   refine⟨_,rfl,?_⟩
   obtain⟨An_,cn_,ev_⟩:=Kd.R_slice ho
   subst ev_
   have n0_:=zM (below_step hB.out hb)
   have n1_:=zM (blk_below (g:=gq_) (o:=.cells #[.int .i64 0,.slice none 0 0] 31 (0,0)) HZ.out hb)
   have n2_:=zM (Kd.R_lower ho (below_size (below_step HW.out (below_step HU.out hB.out))))
   clear hHeld hB HZ
   have hB:=n0_
   have HZ:=n1_
   have HOn_:=n2_
   clear n0_ n1_ n2_
   clear hb ho
   refine hK.out _ _ (HS.out _ hB.out) (fun hHeld=>?_)
   clear hK K_
   refine norm_ (a':=?_) ?_ ?_
   rotate_left
   ·show Act.put _ (some 44) _=_
    simp only[Act.put,List.setIfInBounds_toArray,List.set_cons_zero,List.set_cons_succ,i64_w,i32_w]
    rfl
   refine pure_ (i:=8) (N:=some 45) (v:=?_) (a':=?_) #[true,true,true,true,true,true,true,true,true,true,true,true,false,true,false] rfl rfl (any_of HT_.out (by kernel_rfl)) (fun _ _ _ h=>h) (Or.inl ⟨zq125,?_⟩) ?_ ?_
   rotate_left
   ·intro w'
    go_simp
    with_reducible rfl
   rotate_left
   ·simp only[Act.put,List.setIfInBounds_toArray,List.set_cons_zero,List.set_cons_succ,i64_w,i32_w]
    rfl
   refine one_ (i:=12) (N:=some 49) #[true,true,true,true,true,true,true,true,true,true,true,true,true,true,false] rfl rfl (one_of HT_.out (by kernel_rfl)) zq36 (fun K_ hK=>?_)
   refine goes_ Try.func30 (by kernel_rfl) rfl #[.slice Af f3.length cf,.slice An_ n.length cn_,.slice Ah hd.length ch,.slice A1_3 l1_3.length c1_3] zq125 rfl rfl zq13 ?_
   with_reducible refine(impl_SealText.calls _ _ f3 _ _ n _ _ hd _ _ l1_3 s1 s _ ?sa8 ?sb8 ?sc8 ?sd8 ?se8 ?sf8 ?sg8 HCT.out HST.out).mono ?_
   (case sa8=>exact Kd.C_below (Kd.R_reads' Of.out).2.2 hB.out)
   (case sb8=>exact(Kd.R_reads' Of.out).2.1)
   (case sc8=>exact(Kd.R_reads' HOn_.out).2.2)
   (case sd8=>exact(Kd.R_reads' HOn_.out).2.1)
   (case se8=>exact Kd.C_below (Kd.R_reads' Oh.out).2.2 hB.out)
   (case sf8=>exact(Kd.R_reads' Oh.out).2.1)
   (case sg8=>exact Kd.C_below HRT.out (below_step HW.out (below_step HU.out hB.out)))
   rintro e w10c8 ⟨v_,rfl,ho,hb⟩
   refine⟨_,rfl,?_⟩
   obtain⟨As_,cs_,ev_⟩:=Kd.R_slice ho
   subst ev_
   have n0_:=zM (below_step hB.out hb)
   have n1_:=zM (blk_below (g:=gq_) (o:=.cells #[.int .i64 0,.slice none 0 0] 31 (0,0)) HZ.out hb)
   have n2_:=zM (Kd.R_below HOn_.out hb)
   have n3_:=zM (Kd.R_lower ho (below_size (below_step HW.out (below_step HU.out hB.out))))
   clear hHeld hB HZ HOn_
   have hB:=n0_
   have HZ:=n1_
   have HOn_:=n2_
   have HOs_:=n3_
   clear n0_ n1_ n2_ n3_
   clear hb ho
   refine hK.out _ _ (HS.out _ hB.out) (fun hHeld=>?_)
   clear hK K_
   refine norm_ (a':=?_) ?_ ?_
   rotate_left
   ·show Act.put _ (some 49) _=_
    simp only[Act.put,List.setIfInBounds_toArray,List.set_cons_zero,List.set_cons_succ,i64_w,i32_w]
    rfl
   exact norm_ zq44 (hCont (.agg #[.int .i64 n1,.slice An_ n.length cn_],.slice An_ n.length cn_,gq_,As_,cs_) _ ⟨hB.out,HZ.out,HG.out,HOs_.out⟩)
 rintro ⟨t44_,t45_,k8_,As,cs⟩ w11 ⟨hb,hz_,hg_,hw_⟩
 refine norm_ (a':=?_) ?_ ?_
 rotate_left
 ·simp only[putAll,Act.put,List.setIfInBounds_toArray,List.set_cons_zero,List.set_cons_succ]
  rfl
 clear hHeld HS
 have n0_:=zM (below_step HU.out hb)
 have n1_:=zM (blk_below (g:=k4_) (o:=.cells #[.int .i64 0,.slice none 0 0] 31 (0,0)) M4.out hb)
 have n2_:=zM (blk_below (g:=k6_) (o:=.cells #[.int .i64 0,.int .i64 f2,.slice Af f3.length cf] 60 (0,0)) M6.out hb)
 have n3_:=zM (Kd.R_below Of.out hb)
 have n4_:=zM (Kd.R_below Oh.out hb)
 have n5_:=zM (hz_)
 have n6_:=zM (Nat.le_trans (below_size HU.out) hg_)
 have n7_:=zM (hw_)
 have n8_:=zM ((show k4_≠k8_ from fun e_=>by have h9:=blk_lt M4.out;rw[e_] at h9;exact Nat.lt_irrefl _ (Nat.lt_of_lt_of_le h9 hg_)))
 clear HU M4 M6 Of Oh
 have HU:=n0_
 have M4:=n1_
 have M6:=n2_
 have Of:=n3_
 have Oh:=n4_
 have M8:=n5_
 have G8:=n6_
 have Os:=n7_
 have NE4_8:=n8_
 clear n0_ n1_ n2_ n3_ n4_ n5_ n6_ n7_ n8_
 clear hb hz_ hg_ hw_
 refine last_ (i:=14) (N:=none) #[true,true,true,true,true,true,true,true,true,true,true,true,true,true,true] rfl rfl (one_of HT_.out (by kernel_rfl)) zq36 (fun K_ hK=>?_)
 rw[if_pos zq125]
 refine wp_store_row 31 (.tmp 8) (.tmp 49) rfl k8_ #[.int .i64 s1,.slice As s.length cs] rfl rfl 31 #[.int .i64 0,.slice none 0 0] M8.out (by kernel_rfl) rfl zq135 ?_
 have hgr:=grown_setRow w11 k8_ #[.int .i64 s1,.slice As s.length cs]
 have hbk:=setRow_heap w11 k8_ _ #[.int .i64 s1,.slice As s.length cs] 31 (0,0) M8.out
 generalize w11.setRow k8_ #[.int .i64 s1,.slice As s.length cs]=w12 at hgr hbk ⊢
 have n0_:=zM (below_grown1 HU.out hgr G8.out)
 have n1_:=zM (blk_grown1 (g':=k4_) (ob:=.cells #[.int .i64 0,.slice none 0 0] 31 (0,0)) M4.out hgr (NE4_8.out))
 have n2_:=zM (blk_grown1 (g':=k6_) (ob:=.cells #[.int .i64 0,.int .i64 f2,.slice Af f3.length cf] 60 (0,0)) M6.out hgr (blk_ne M6.out M8.out zq36))
 have n3_:=zM (R_grown_types Of.out M8.out zq36 hgr)
 have n4_:=zM (R_grown_types Oh.out M8.out zq36 hgr)
 have n5_:=zM (R_grown_types Os.out M8.out zq36 hgr)
 have n6_:=zM (hbk)
 clear HU M4 M6 M8 Of Oh Os
 have HU:=n0_
 have M4:=n1_
 have M6:=n2_
 have Of:=n3_
 have Oh:=n4_
 have Os:=n5_
 have M8:=n6_
 clear n0_ n1_ n2_ n3_ n4_ n5_ n6_
 clear hbk hgr
 refine hK.out _ _ ?_
 clear hK K_
 refine done_ (done_of HT_.out (by kernel_rfl)) ?_
 clear Of
 have hc8_0:w12.cell? ⟨k8_,0,none⟩=some (.int .i64 s1):=(blk_cell M8.out 0).trans rfl
 have hc8_1:w12.cell? ⟨k8_,1,none⟩=some (.slice As s.length cs):=(blk_cell M8.out 1).trans rfl
 go_wp2_with (first
   | ((with_reducible refine gate_dst (N:=53) rfl ?_);refine lits_event ?hg (N:=53) ?hd (cs:=#[.slice Ah hd.length ch,.slice As s.length cs]) (t:=25) (n:=2) ?hr ?_;(case hd=>rfl);(case hg=>rfl);(case hr=>first|(go_simp;done)|(go_simp;rfl));intro kL_ hgL w13 hbox hb;have n0_:=zM (below_step HU.out hb);have n1_:=zM (blk_below (g:=k4_) (o:=.cells #[.int .i64 0,.slice none 0 0] 31 (0,0)) M4.out hb);have n2_:=zM (blk_below (g:=k6_) (o:=.cells #[.int .i64 0,.int .i64 f2,.slice Af f3.length cf] 60 (0,0)) M6.out hb);have n3_:=zM (blk_below (g:=k8_) (o:=.cells #[.int .i64 s1,.slice As s.length cs] 31 (0,0)) M8.out hb);have n4_:=zM (Kd.R_below Oh.out hb);have n5_:=zM (Kd.R_below Os.out hb);clear HU M4 M6 M8 Oh Os;have HU:=n0_;have M4:=n1_;have M6:=n2_;have M8:=n3_;have Oh:=n4_;have Os:=n5_;clear n0_ n1_ n2_ n3_ n4_ n5_;have ML:=zM hbox;clear hb hbox hgL;clear hc8_0 hc8_1)
   | (go_at_call 32;(with_reducible refine(concat2I kL_ 2 hd s D HD.out HDn.out _ ML.out (Kd.R_reads' Oh.out).2.2 (Kd.R_reads' Oh.out).2.1 (Kd.R_reads' Os.out).2.2 (Kd.R_reads' Os.out).2.1).mono ?_);rintro e w14 ⟨v_,rfl,ho,hb⟩;obtain⟨Ad,cd,ev_⟩:=Kd.R_slice ho;subst ev_;have n0_:=zM (below_step HU.out hb);have n1_:=zM (blk_below (g:=k4_) (o:=.cells #[.int .i64 0,.slice none 0 0] 31 (0,0)) M4.out hb);have n2_:=zM (blk_below (g:=k6_) (o:=.cells #[.int .i64 0,.int .i64 f2,.slice Af f3.length cf] 60 (0,0)) M6.out hb);have n3_:=zM (blk_below (g:=k8_) (o:=.cells #[.int .i64 s1,.slice As s.length cs] 31 (0,0)) M8.out hb);have n4_:=zM (blk_below (g:=kL_) (o:=.cells #[.slice Ah hd.length ch,.slice As s.length cs] 25 (0,0)) ML.out hb);have n5_:=zM (Kd.R_below Oh.out hb);have n6_:=zM (Kd.R_below Os.out hb);have n7_:=zM (Kd.R_lower ho (below_size (below_step HW.out HU.out)));clear HU M4 M6 M8 ML Oh Os;have HU:=n0_;have M4:=n1_;have M6:=n2_;have M8:=n3_;have ML:=n4_;have Oh:=n5_;have Os:=n6_;have Od:=n7_;clear n0_ n1_ n2_ n3_ n4_ n5_ n6_ n7_;clear hb ho)
   | ((with_reducible refine gate_store (t:=31) (p:=4) rfl ?_);refine row_event ?hg (ty:=31) (p:=4) (y:=?yo4) ?ho ?hn (g:=k4_) (old:=#[.int .i64 0,.slice none 0 0]) (e:=31) (cells:=#[.int .i64 0,.slice Ad D.length cd]) ?hx ?hy ?hk ?hi ?hd ?h1 ?_;(case ho=>rfl);(case hg=>rfl);(case hn=>rfl);(case hx=>rfl);(case hy=>rfl);(case hk=>exact M4.out);(case hi=>kernel_rfl);(case hd=>rfl);(case h1=>exact zq135);intro w15 hbk hgr;have n0_:=zM (below_grown1 HU.out hgr G4.out);have n1_:=zM (R_grown_types Od.out M4.out zq36 hgr);have n2_:=zM (hbk);clear HU M4 Od;have HU:=n0_;have Od:=n1_;have M4:=n2_;clear n0_ n1_ n2_;clear hbk hgr))
 refine bodyPost_ret (results_cell_row rfl _ _ k4_ 31 #[.int .i64 0,.slice Ad D.length cd] (0,0) _ rfl M4.out Try.underlying31 rfl (by kernel_rfl)) rfl ?_
 exact⟨_,rfl,Od.out,below_step HW.out HU.out⟩
def impl_SealLetter.f (k:Nat) (a0_0:Int) (l0_1:List S54) (a1_0 a1_1 a1_2:Int) (l1_3:List Int):Option (Int × List Int):=(impl_RingFault.f k a0_0 l0_1).bind fun x=>if x=0 then (impl_LetterFault.f k a1_0 a1_1 a1_2 l1_3).bind fun y=>if y=0 then (impl_FindKey.f k a0_0 l0_1 a1_0).bind fun f=>if f.1=0 then (impl_HeadOf.f k a1_0 a1_1 a1_2).bind fun h=>(impl_NonceOf.f k a1_1 a1_2).bind fun n=>(impl_SealText.f f.2.2 n.2 h.2 l1_3).bind fun s=>if (h.2 ++ s.2).length≤5000 then some (0,h.2 ++ s.2) else none else some (f.1,[]) else some (y,[]) else some (x,[])
theorem impl_SealLetter.mono:∀ a b c d e f k,LeO (impl_SealLetter.f k a b c d e f) (impl_SealLetter.f (k+1) a b c d e f):=by
 intro a b c d e f k
 unfold impl_SealLetter.f
 repeat' first
  | (with_reducible exact LeO.refl _)
  | (with_reducible exact LeO.none _)
  | (with_reducible exact impl_RingFault.mono _ _ _)
  | (with_reducible exact impl_LetterFault.mono _ _ _ _ _)
  | (with_reducible exact impl_FindKey.mono _ _ _ _)
  | (with_reducible exact impl_HeadOf.mono _ _ _ _)
  | (with_reducible exact impl_NonceOf.mono _ _ _)
  | (with_reducible refine LeO.ite ?_ ?_)
  | (with_reducible refine LeO.bind ?_ (fun _=>?_))
theorem impl_SealLetter.calls (k:Nat) (a0_0:Int) (A0_1:Option Addr) (c0_1:Nat) (l0_1:List S54) (a1_0 a1_1 a1_2:Int) (A1_3:Option Addr) (c1_3:Nat) (l1_3:List Int) (r1:Int) (r2:List Int) (w:World) (hr0_1:Kd.C k54 w A0_1 l0_1.length l0_1) (hc0_1:l0_1.length≤c0_1) (hr1_3:Kd.C (Kd.int .u8) w A1_3 l1_3.length l1_3) (hc1_3:l1_3.length≤c1_3) (h:impl_SealLetter.f k a0_0 l0_1 a1_0 a1_1 a1_2 l1_3=some (r1,r2)) :
  Calls Try.prog 9 #[.agg #[.int .i64 a0_0,.slice A0_1 l0_1.length c0_1],.agg #[.int .i64 a1_0,.int .i64 a1_1,.int .i64 a1_2,.slice A1_3 l1_3.length c1_3]] w fun e w'=>∃ v1_:Value,e=.returned (.agg #[.int .i64 r1,v1_])∧Kd.R (Kd.int .u8) 5 w' w.heap.size (fun _=>True) v1_ r2∧Below w.heap.size w w':=by
 unfold impl_SealLetter.f at h
 obtain⟨x,h1,h⟩:=Option.bind_eq_some_iff.mp h
 by_cases hx:x=0
 case neg=>
  rw[if_neg hx] at h
  simp only[Option.some.injEq,Prod.mk.injEq] at h
  obtain⟨rfl,rfl⟩:=h
  exact impl_SealLetter.w1 k a0_0 A0_1 c0_1 l0_1 a1_0 a1_1 a1_2 A1_3 c1_3 l1_3 x w ⟨hr0_1⟩ ⟨hc0_1⟩ ⟨hr1_3⟩ ⟨hc1_3⟩ ⟨h1⟩ hx
 subst hx
 rw[if_pos rfl] at h
 obtain⟨y,h2,h⟩:=Option.bind_eq_some_iff.mp h
 by_cases hy:y=0
 case neg=>
  rw[if_neg hy] at h
  simp only[Option.some.injEq,Prod.mk.injEq] at h
  obtain⟨rfl,rfl⟩:=h
  exact impl_SealLetter.w2 k a0_0 A0_1 c0_1 l0_1 a1_0 a1_1 a1_2 A1_3 c1_3 l1_3 y w ⟨hr0_1⟩ ⟨hc0_1⟩ ⟨hr1_3⟩ ⟨hc1_3⟩ ⟨h1⟩ ⟨h2⟩ hy
 subst hy
 rw[if_pos rfl] at h
 obtain⟨⟨f1,f2,f3⟩,h3,h⟩:=Option.bind_eq_some_iff.mp h
 dsimp only at h
 by_cases hf:f1=0
 case neg=>
  rw[if_neg hf] at h
  simp only[Option.some.injEq,Prod.mk.injEq] at h
  obtain⟨rfl,rfl⟩:=h
  exact impl_SealLetter.w3 k a0_0 A0_1 c0_1 l0_1 a1_0 a1_1 a1_2 A1_3 c1_3 l1_3 f1 f2 f3 w ⟨hr0_1⟩ ⟨hc0_1⟩ ⟨hr1_3⟩ ⟨hc1_3⟩ ⟨h1⟩ ⟨h2⟩ ⟨h3⟩ hf
 subst hf
 rw[if_pos rfl] at h
 obtain⟨⟨g1,hd⟩,h4,h⟩:=Option.bind_eq_some_iff.mp h
 obtain⟨⟨n1,n⟩,h5,h⟩:=Option.bind_eq_some_iff.mp h
 obtain⟨⟨s1,s⟩,h6,h⟩:=Option.bind_eq_some_iff.mp h
 dsimp only at h6 h
 by_cases hl:(hd ++ s).length≤5000
 case neg=>rw[if_neg hl] at h;cases h
 rw[if_pos hl] at h
 simp only[Option.some.injEq,Prod.mk.injEq] at h
 obtain⟨rfl,rfl⟩:=h
 exact impl_SealLetter.w4 k a0_0 A0_1 c0_1 l0_1 a1_0 a1_1 a1_2 A1_3 c1_3 l1_3 f2 g1 n1 s1 f3 hd n s _ w ⟨hr0_1⟩ ⟨hc0_1⟩ ⟨hr1_3⟩ ⟨hc1_3⟩ ⟨h1⟩ ⟨h2⟩ ⟨h3⟩ ⟨h4⟩ ⟨h5⟩ ⟨h6⟩ ⟨rfl⟩ ⟨hl⟩
end Go.Proofs.Ytdbanjdnjhflcaa.All
