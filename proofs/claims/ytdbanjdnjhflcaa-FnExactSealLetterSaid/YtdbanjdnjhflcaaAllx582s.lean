-- Laid by wip/shake.py of this repo out of this claim's texts. Not trusted: Lean checks it.
import Derived.Test.YtdbanjdnjhflcaaAb0s
import Derived.Test.YtdbanjdnjhflcaaAlgs
import Derived.Test.YtdbanjdnjhflcaaAllx35s
import Derived.Test.YtdbanjdnjhflcaaAllx164s
import Derived.Lib.SliceRun
set_option linter.unusedSimpArgs false
set_option linter.unusedVariables false
namespace Go.Proofs.Ytdbanjdnjhflcaa.All
open Go.Proofs.YtdbanjdnjhflcaaW.PrintWords.Aside0 renaming mk→zM
open Go.RowKit Go.Proofs.YtdbanjdnjhflcaaW.PrintWords Go.Proofs.YtdbanjdnjhflcaaW.PrintLast Go.Proofs.YtdbanjdnjhflcaaW.PrintMore
attribute [local go_sem] max2_int min2_int max_two min_two max_three min_three max_four min_four
set_option maxHeartbeats 4000000 in
set_option maxRecDepth 100000 in
theorem l4Find_at (id p:Int) (A:Option Addr) (c g:Nat) (l:List S54) (w:World) (hbk:w.heap[g]?=some (.cells #[.int .i64 p,.slice A l.length c] 35 (0,0))) (hr0:Kd.C k54 w A l.length l) (hm0:l.length < 140737488355328) :
  Calls Try.prog 21 #[.pointer (some ⟨g,0,none⟩),.int .i64 id] w fun e w'=>e=.returned (.int .i64 (placeL id l 0))∧Below w.heap.size w w':=by
 have HR:=zM hr0
 have HG:=zM (show w.cell? ⟨g,1,none⟩=some (.slice A l.length c) from (blk_cell hbk 1).trans rfl)
 have HM:=zM hm0
 have HB:=zM (Below.refl w.heap.size w)
 clear hr0 hbk hm0
 go_enter Try.func21,Try.ntmps21
 go_wp2
 go_loopw [5] (fun v5 W=>∃ kk:Nat,kk≤l.length∧v5=.int .i64 kk∧Aside0 (placeL id l 0=placeL id (l.drop kk) kk)∧Aside0 (Below w.heap.size w W)) (fun v5 _=>l.length - (intOf v5).toNat)
 case atStart=>exact⟨0,Nat.zero_le _,rfl,⟨rfl⟩,HB⟩
 case round=>
  clear HB
  obtain⟨kk,hk,rfl,HP,HB⟩:=hrel
  have hr1:=(HB.out.cell (World.block_lt_of_cell? w _ HG.out)).trans HG.out
  by_cases hl:kk < l.length
  ·have hd:decide (kk < l.length)=true:=decide_eq_true hl
   have HD:=zM (placeL_drop id l kk hl)
   have hlt:=zM hl
   obtain⟨ad,A1,c1,rfl,hx0,hx1,hl1,hi1⟩:=at_T54 HR.out (kk:Int) zq8 zq8
   clear hl1 hi1 hx1
   generalize rd_T54 l (kk:Int)=x at HD hx0
   rw[Int.toNat_natCast] at hx0
   replace hx0:=(HB.out.cell (World.block_lt_of_cell? w _ hx0)).trans hx0
   by_cases he:x.f0=id
   ·have HE:=zM he
    have hbt:(x.f0 == id)=true:=beq_iff_eq.mpr he
    clear he
    go_wp2
    go_ret
    exact⟨by rw[HP.out,HD.out,if_pos HE.out];rfl,HB.out⟩
   ·have HE:=zM he
    have hbt:(x.f0 == id)=false:=beq_eq_false_iff_ne.mpr he
    clear he
    go_wp2
    go_roundw
    case rel=>exact⟨kk+1,hlt.out,congrArg _ (wrap_next kk _ hlt.out HM.out),⟨by rw[HP.out,HD.out,if_neg HE.out]⟩,HB⟩
    case measure=>exact next_less kk _ hlt.out HM.out
  ·obtain rfl:kk=l.length:=by omega
   have HP2:Aside0 (placeL id l 0=-1):=⟨by rw[HP.out,List.drop_length];rfl⟩
   clear HP
   go_wp2
   go_ret
   exact⟨by rw[HP2.out];rfl,HB.out⟩
theorem l4Find_as (id p:Int) (A:Option Addr) (c g:Nat) (l:List S54) (q:Int) (hq:placeL id l 0=q) (w:World) (hbk:w.heap[g]?=some (.cells #[.int .i64 p,.slice A l.length c] 35 (0,0))) (hr0:Kd.C k54 w A l.length l) (hm0:l.length < 140737488355328) :
  Calls Try.prog 21 #[.pointer (some ⟨g,0,none⟩),.int .i64 id] w fun e w'=>e=.returned (.int .i64 q)∧Below w.heap.size w w':=by
 subst hq
 exact l4Find_at id p A c g l w hbk hr0 hm0
set_option maxHeartbeats 8000000 in
set_option maxRecDepth 100000 in
theorem spec_SealLetter.w1 (K:Nat) (a0_0:Int) (A0_1:Option Addr) (c0_1:Nat) (l0_1:List S54) (a1_0 a1_1 a1_2:Int) (A1_3:Option Addr) (c1_3:Nat) (l1_3:List Int) (x:Int) (w:World) (HR0:Aside0 (Kd.C k54 w A0_1 l0_1.length l0_1)) (HC0:Aside0 (l0_1.length≤c0_1)) (HRT:Aside0 (Kd.C (Kd.int .u8) w A1_3 l1_3.length l1_3)) (HCT:Aside0 (l1_3.length≤c1_3)) (HRF:Aside0 (spec_RingFault.f a0_0 l0_1=some x)) (hx:¬ x=0) :
  Calls Try.prog 6 #[.agg #[.int .i64 a0_0,.slice A0_1 l0_1.length c0_1],.agg #[.int .i64 a1_0,.int .i64 a1_1,.int .i64 a1_2,.slice A1_3 l1_3.length c1_3]] w fun e w'=>∃ v1_:Value,e=.returned (.agg #[.int .i64 x,v1_])∧Kd.R (Kd.int .u8) 5 w' w.heap.size (fun _=>True) v1_ []∧Below w.heap.size w w':=by
 have ht1:(x == 0)=false:=beq_eq_false_iff_ne.mpr hx
 have ht2:(x != 0)=true:=bne_iff_ne.mpr hx
 clear hx
 have HW:=zM (Below.refl w.heap.size w)
 have HU:=zM (Below.refl w.heap.size w)
 go_enter Try.func6,Try.ntmps6
 go_wp2_with (first
   | ((with_reducible refine gate_dst (N:=2) rfl ?_);refine box_event ?hg (N:=2) ?hd (cs:=#[.int .i64 a0_0,.slice A0_1 l0_1.length c0_1]) (t:=35) ?hr ?_;(case hd=>rfl);(case hg=>rfl);(case hr=>first|(go_simp;done)|(go_simp;rfl));intro k2_ hg w1 hbox hb;have G2:=zM (show w.heap.size≤k2_ by rw[hg];exact below_size HU.out);have n0_:=zM (below_step HU.out hb);clear HU;have HU:=n0_;clear n0_;have M2:=zM hbox;clear hb hbox hg)
   | ((with_reducible refine gate_dst (N:=3) rfl ?_);refine box_event ?hg (N:=3) ?hd (cs:=#[.int .i64 a1_0,.int .i64 a1_1,.int .i64 a1_2,.slice A1_3 l1_3.length c1_3]) (t:=37) ?hr ?_;(case hd=>rfl);(case hg=>rfl);(case hr=>first|(go_simp;done)|(go_simp;rfl));intro k3_ hg w2 hbox hb;have G3:=zM (show w.heap.size≤k3_ by rw[hg];exact below_size HU.out);have n0_:=zM (below_step HU.out hb);have n1_:=zM (blk_below (g:=k2_) (o:=.cells #[.int .i64 a0_0,.slice A0_1 l0_1.length c0_1] 35 (0,0)) M2.out hb);clear HU M2;have HU:=n0_;have M2:=n1_;clear n0_ n1_;have M3:=zM hbox;clear hb hbox hg;have n0_:=zM (below_step HW.out HU.out);have n1_:=zM (M2.out);have n2_:=zM (M3.out);have n3_:=zM (Below.refl w2.heap.size w2);clear HW HU M2 G2 M3 G3;have HW:=n0_;have B2:=n1_;have B3:=n2_;have HU:=n3_;clear n0_ n1_ n2_ n3_)
   | ((with_reducible refine gate_dst (N:=4) rfl ?_);refine box_event ?hg (N:=4) ?hd (cs:=#[.int .i64 0,.slice none 0 0]) (t:=31) ?hr ?_;(case hd=>rfl);(case hg=>rfl);(case hr=>first|(go_simp;done)|(go_simp;rfl));intro k4_ hg w3 hbox hb;have G4:=zM (show w2.heap.size≤k4_ by rw[hg];exact below_size HU.out);have n0_:=zM (below_step HU.out hb);clear HU;have HU:=n0_;clear n0_;have M4:=zM hbox;clear hb hbox hg;have hc2_0:w3.cell? ⟨k2_,0,none⟩=some (.int .i64 a0_0):=(blk_cell (blk_below (g:=k2_) (o:=.cells #[.int .i64 a0_0,.slice A0_1 l0_1.length c0_1] 35 (0,0)) B2.out HU.out) 0).trans rfl;have hc2_1:w3.cell? ⟨k2_,1,none⟩=some (.slice A0_1 l0_1.length c0_1):=(blk_cell (blk_below (g:=k2_) (o:=.cells #[.int .i64 a0_0,.slice A0_1 l0_1.length c0_1] 35 (0,0)) B2.out HU.out) 1).trans rfl)
   | (go_at_call 19;(with_reducible refine(spec_RingFault.calls a0_0 _ _ l0_1 x _ ?rf1 HC0.out HRF.out).mono ?_);(case rf1=>exact Kd.C_below HR0.out (below_step HW.out HU.out));rintro e w4 ⟨rfl,hb⟩;have n0_:=zM (below_step HU.out hb);have n1_:=zM (blk_below (g:=k4_) (o:=.cells #[.int .i64 0,.slice none 0 0] 31 (0,0)) M4.out hb);clear HU M4;have HU:=n0_;have M4:=n1_;clear n0_ n1_;clear hb;clear hc2_0 hc2_1)
   | ((with_reducible refine gate_store (t:=31) (p:=4) rfl ?_);refine row_event ?hg (ty:=31) (p:=4) (y:=?yo4) ?ho ?hn (g:=k4_) (old:=#[.int .i64 0,.slice none 0 0]) (e:=31) (cells:=#[.int .i64 x,.slice none 0 0]) ?hx ?hy ?hk ?hi ?hd ?h1 ?_;(case ho=>rfl);(case hg=>rfl);(case hn=>rfl);(case hx=>rfl);(case hy=>rfl);(case hk=>exact M4.out);(case hi=>kernel_rfl);(case hd=>rfl);(case h1=>exact zq135);intro w5 hbk hgr;have n0_:=zM (below_grown1 HU.out hgr G4.out);have n1_:=zM (hbk);clear HU M4;have HU:=n0_;have M4:=n1_;clear n0_ n1_;clear hbk hgr))
 refine bodyPost_ret (results_cell_row rfl _ _ k4_ 31 #[.int .i64 x,.slice none 0 0] (0,0) _ rfl M4.out Try.underlying31 rfl (by kernel_rfl)) rfl ?_
 exact⟨_,rfl,Kd.R_nil _ _ _ _ _,below_step HW.out HU.out⟩
set_option maxHeartbeats 8000000 in
set_option maxRecDepth 100000 in
theorem spec_SealLetter.w2 (K:Nat) (a0_0:Int) (A0_1:Option Addr) (c0_1:Nat) (l0_1:List S54) (a1_0 a1_1 a1_2:Int) (A1_3:Option Addr) (c1_3:Nat) (l1_3:List Int) (y:Int) (w:World) (HR0:Aside0 (Kd.C k54 w A0_1 l0_1.length l0_1)) (HC0:Aside0 (l0_1.length≤c0_1)) (HRT:Aside0 (Kd.C (Kd.int .u8) w A1_3 l1_3.length l1_3)) (HCT:Aside0 (l1_3.length≤c1_3)) (HRF:Aside0 (spec_RingFault.f a0_0 l0_1=some 0)) (HLF:Aside0 (spec_LetterFault.f a1_0 a1_1 a1_2 l1_3=some y)) (hx:¬ y=0) :
  Calls Try.prog 6 #[.agg #[.int .i64 a0_0,.slice A0_1 l0_1.length c0_1],.agg #[.int .i64 a1_0,.int .i64 a1_1,.int .i64 a1_2,.slice A1_3 l1_3.length c1_3]] w fun e w'=>∃ v1_:Value,e=.returned (.agg #[.int .i64 y,v1_])∧Kd.R (Kd.int .u8) 5 w' w.heap.size (fun _=>True) v1_ []∧Below w.heap.size w w':=by
 have ht1:(y == 0)=false:=beq_eq_false_iff_ne.mpr hx
 have ht2:(y != 0)=true:=bne_iff_ne.mpr hx
 clear hx
 have HW:=zM (Below.refl w.heap.size w)
 have HU:=zM (Below.refl w.heap.size w)
 go_enter Try.func6,Try.ntmps6
 go_wp2_with (first
   | ((with_reducible refine gate_dst (N:=2) rfl ?_);refine box_event ?hg (N:=2) ?hd (cs:=#[.int .i64 a0_0,.slice A0_1 l0_1.length c0_1]) (t:=35) ?hr ?_;(case hd=>rfl);(case hg=>rfl);(case hr=>first|(go_simp;done)|(go_simp;rfl));intro k2_ hg w1 hbox hb;have G2:=zM (show w.heap.size≤k2_ by rw[hg];exact below_size HU.out);have n0_:=zM (below_step HU.out hb);clear HU;have HU:=n0_;clear n0_;have M2:=zM hbox;clear hb hbox hg)
   | ((with_reducible refine gate_dst (N:=3) rfl ?_);refine box_event ?hg (N:=3) ?hd (cs:=#[.int .i64 a1_0,.int .i64 a1_1,.int .i64 a1_2,.slice A1_3 l1_3.length c1_3]) (t:=37) ?hr ?_;(case hd=>rfl);(case hg=>rfl);(case hr=>first|(go_simp;done)|(go_simp;rfl));intro k3_ hg w2 hbox hb;have G3:=zM (show w.heap.size≤k3_ by rw[hg];exact below_size HU.out);have n0_:=zM (below_step HU.out hb);have n1_:=zM (blk_below (g:=k2_) (o:=.cells #[.int .i64 a0_0,.slice A0_1 l0_1.length c0_1] 35 (0,0)) M2.out hb);clear HU M2;have HU:=n0_;have M2:=n1_;clear n0_ n1_;have M3:=zM hbox;clear hb hbox hg;have n0_:=zM (below_step HW.out HU.out);have n1_:=zM (M2.out);have n2_:=zM (M3.out);have n3_:=zM (Below.refl w2.heap.size w2);clear HW HU M2 G2 M3 G3;have HW:=n0_;have B2:=n1_;have B3:=n2_;have HU:=n3_;clear n0_ n1_ n2_ n3_)
   | ((with_reducible refine gate_dst (N:=4) rfl ?_);refine box_event ?hg (N:=4) ?hd (cs:=#[.int .i64 0,.slice none 0 0]) (t:=31) ?hr ?_;(case hd=>rfl);(case hg=>rfl);(case hr=>first|(go_simp;done)|(go_simp;rfl));intro k4_ hg w3 hbox hb;have G4:=zM (show w2.heap.size≤k4_ by rw[hg];exact below_size HU.out);have n0_:=zM (below_step HU.out hb);clear HU;have HU:=n0_;clear n0_;have M4:=zM hbox;clear hb hbox hg;have hc2_0:w3.cell? ⟨k2_,0,none⟩=some (.int .i64 a0_0):=(blk_cell (blk_below (g:=k2_) (o:=.cells #[.int .i64 a0_0,.slice A0_1 l0_1.length c0_1] 35 (0,0)) B2.out HU.out) 0).trans rfl;have hc2_1:w3.cell? ⟨k2_,1,none⟩=some (.slice A0_1 l0_1.length c0_1):=(blk_cell (blk_below (g:=k2_) (o:=.cells #[.int .i64 a0_0,.slice A0_1 l0_1.length c0_1] 35 (0,0)) B2.out HU.out) 1).trans rfl)
   | (go_at_call 19;(with_reducible refine(spec_RingFault.calls a0_0 _ _ l0_1 0 _ ?rf1 HC0.out HRF.out).mono ?_);(case rf1=>exact Kd.C_below HR0.out (below_step HW.out HU.out));rintro e w4 ⟨rfl,hb⟩;have n0_:=zM (below_step HU.out hb);have n1_:=zM (blk_below (g:=k4_) (o:=.cells #[.int .i64 0,.slice none 0 0] 31 (0,0)) M4.out hb);clear HU M4;have HU:=n0_;have M4:=n1_;clear n0_ n1_;clear hb;clear hc2_0 hc2_1;have hc3_0:w4.cell? ⟨k3_,0,none⟩=some (.int .i64 a1_0):=(blk_cell (blk_below (g:=k3_) (o:=.cells #[.int .i64 a1_0,.int .i64 a1_1,.int .i64 a1_2,.slice A1_3 l1_3.length c1_3] 37 (0,0)) B3.out HU.out) 0).trans rfl;have hc3_1:w4.cell? ⟨k3_,1,none⟩=some (.int .i64 a1_1):=(blk_cell (blk_below (g:=k3_) (o:=.cells #[.int .i64 a1_0,.int .i64 a1_1,.int .i64 a1_2,.slice A1_3 l1_3.length c1_3] 37 (0,0)) B3.out HU.out) 1).trans rfl;have hc3_2:w4.cell? ⟨k3_,2,none⟩=some (.int .i64 a1_2):=(blk_cell (blk_below (g:=k3_) (o:=.cells #[.int .i64 a1_0,.int .i64 a1_1,.int .i64 a1_2,.slice A1_3 l1_3.length c1_3] 37 (0,0)) B3.out HU.out) 2).trans rfl;have hc3_3:w4.cell? ⟨k3_,3,none⟩=some (.slice A1_3 l1_3.length c1_3):=(blk_cell (blk_below (g:=k3_) (o:=.cells #[.int .i64 a1_0,.int .i64 a1_1,.int .i64 a1_2,.slice A1_3 l1_3.length c1_3] 37 (0,0)) B3.out HU.out) 3).trans rfl)
   | (go_at_call 20;(with_reducible refine(spec_LetterFault.calls a1_0 a1_1 a1_2 _ _ l1_3 y _ ?lf1 HCT.out HLF.out).mono ?_);(case lf1=>exact Kd.C_below HRT.out (below_step HW.out HU.out));rintro e w5 ⟨rfl,hb⟩;have n0_:=zM (below_step HU.out hb);have n1_:=zM (blk_below (g:=k4_) (o:=.cells #[.int .i64 0,.slice none 0 0] 31 (0,0)) M4.out hb);clear HU M4;have HU:=n0_;have M4:=n1_;clear n0_ n1_;clear hb;clear hc3_0 hc3_1 hc3_2 hc3_3)
   | ((with_reducible refine gate_store (t:=31) (p:=4) rfl ?_);refine row_event ?hg (ty:=31) (p:=4) (y:=?yo4) ?ho ?hn (g:=k4_) (old:=#[.int .i64 0,.slice none 0 0]) (e:=31) (cells:=#[.int .i64 y,.slice none 0 0]) ?hx ?hy ?hk ?hi ?hd ?h1 ?_;(case ho=>rfl);(case hg=>rfl);(case hn=>rfl);(case hx=>rfl);(case hy=>rfl);(case hk=>exact M4.out);(case hi=>kernel_rfl);(case hd=>rfl);(case h1=>exact zq135);intro w6 hbk hgr;have n0_:=zM (below_grown1 HU.out hgr G4.out);have n1_:=zM (hbk);clear HU M4;have HU:=n0_;have M4:=n1_;clear n0_ n1_;clear hbk hgr))
 refine bodyPost_ret (results_cell_row rfl _ _ k4_ 31 #[.int .i64 y,.slice none 0 0] (0,0) _ rfl M4.out Try.underlying31 rfl (by kernel_rfl)) rfl ?_
 exact⟨_,rfl,Kd.R_nil _ _ _ _ _,below_step HW.out HU.out⟩
set_option maxHeartbeats 8000000 in
set_option maxRecDepth 100000 in
theorem spec_SealLetter.w3 (K:Nat) (a0_0:Int) (A0_1:Option Addr) (c0_1:Nat) (l0_1:List S54) (a1_0 a1_1 a1_2:Int) (A1_3:Option Addr) (c1_3:Nat) (l1_3:List Int) (q:Int) (w:World) (HR0:Aside0 (Kd.C k54 w A0_1 l0_1.length l0_1)) (HC0:Aside0 (l0_1.length≤c0_1)) (HRT:Aside0 (Kd.C (Kd.int .u8) w A1_3 l1_3.length l1_3)) (HCT:Aside0 (l1_3.length≤c1_3)) (HRF:Aside0 (spec_RingFault.f a0_0 l0_1=some 0)) (HLF:Aside0 (spec_LetterFault.f a1_0 a1_1 a1_2 l1_3=some 0)) (HQ:Aside0 (placeL a1_0 l0_1 0=q)) (HLB:Aside0 (l0_1.length < 140737488355328)) (hq:q < 0) :
  Calls Try.prog 6 #[.agg #[.int .i64 a0_0,.slice A0_1 l0_1.length c0_1],.agg #[.int .i64 a1_0,.int .i64 a1_1,.int .i64 a1_2,.slice A1_3 l1_3.length c1_3]] w fun e w'=>∃ v1_:Value,e=.returned (.agg #[.int .i64 4,v1_])∧Kd.R (Kd.int .u8) 5 w' w.heap.size (fun _=>True) v1_ []∧Below w.heap.size w w':=by
 have hd:=decide_eq_true hq
 clear hq
 have HW:=zM (Below.refl w.heap.size w)
 have HU:=zM (Below.refl w.heap.size w)
 go_enter Try.func6,Try.ntmps6
 go_wp2_with (first
   | ((with_reducible refine gate_dst (N:=2) rfl ?_);refine box_event ?hg (N:=2) ?hd (cs:=#[.int .i64 a0_0,.slice A0_1 l0_1.length c0_1]) (t:=35) ?hr ?_;(case hd=>rfl);(case hg=>rfl);(case hr=>first|(go_simp;done)|(go_simp;rfl));intro k2_ hg w1 hbox hb;have G2:=zM (show w.heap.size≤k2_ by rw[hg];exact below_size HU.out);have n0_:=zM (below_step HU.out hb);clear HU;have HU:=n0_;clear n0_;have M2:=zM hbox;clear hb hbox hg)
   | ((with_reducible refine gate_dst (N:=3) rfl ?_);refine box_event ?hg (N:=3) ?hd (cs:=#[.int .i64 a1_0,.int .i64 a1_1,.int .i64 a1_2,.slice A1_3 l1_3.length c1_3]) (t:=37) ?hr ?_;(case hd=>rfl);(case hg=>rfl);(case hr=>first|(go_simp;done)|(go_simp;rfl));intro k3_ hg w2 hbox hb;have G3:=zM (show w.heap.size≤k3_ by rw[hg];exact below_size HU.out);have n0_:=zM (below_step HU.out hb);have n1_:=zM (blk_below (g:=k2_) (o:=.cells #[.int .i64 a0_0,.slice A0_1 l0_1.length c0_1] 35 (0,0)) M2.out hb);clear HU M2;have HU:=n0_;have M2:=n1_;clear n0_ n1_;have M3:=zM hbox;clear hb hbox hg;have n0_:=zM (below_step HW.out HU.out);have n1_:=zM (M2.out);have n2_:=zM (M3.out);have n3_:=zM (Below.refl w2.heap.size w2);clear HW HU M2 G2 M3 G3;have HW:=n0_;have B2:=n1_;have B3:=n2_;have HU:=n3_;clear n0_ n1_ n2_ n3_)
   | ((with_reducible refine gate_dst (N:=4) rfl ?_);refine box_event ?hg (N:=4) ?hd (cs:=#[.int .i64 0,.slice none 0 0]) (t:=31) ?hr ?_;(case hd=>rfl);(case hg=>rfl);(case hr=>first|(go_simp;done)|(go_simp;rfl));intro k4_ hg w3 hbox hb;have G4:=zM (show w2.heap.size≤k4_ by rw[hg];exact below_size HU.out);have n0_:=zM (below_step HU.out hb);clear HU;have HU:=n0_;clear n0_;have M4:=zM hbox;clear hb hbox hg;have hc2_0:w3.cell? ⟨k2_,0,none⟩=some (.int .i64 a0_0):=(blk_cell (blk_below (g:=k2_) (o:=.cells #[.int .i64 a0_0,.slice A0_1 l0_1.length c0_1] 35 (0,0)) B2.out HU.out) 0).trans rfl;have hc2_1:w3.cell? ⟨k2_,1,none⟩=some (.slice A0_1 l0_1.length c0_1):=(blk_cell (blk_below (g:=k2_) (o:=.cells #[.int .i64 a0_0,.slice A0_1 l0_1.length c0_1] 35 (0,0)) B2.out HU.out) 1).trans rfl)
   | (go_at_call 19;(with_reducible refine(spec_RingFault.calls a0_0 _ _ l0_1 0 _ ?rf1 HC0.out HRF.out).mono ?_);(case rf1=>exact Kd.C_below HR0.out (below_step HW.out HU.out));rintro e w4 ⟨rfl,hb⟩;have n0_:=zM (below_step HU.out hb);have n1_:=zM (blk_below (g:=k4_) (o:=.cells #[.int .i64 0,.slice none 0 0] 31 (0,0)) M4.out hb);clear HU M4;have HU:=n0_;have M4:=n1_;clear n0_ n1_;clear hb;clear hc2_0 hc2_1;have hc3_0:w4.cell? ⟨k3_,0,none⟩=some (.int .i64 a1_0):=(blk_cell (blk_below (g:=k3_) (o:=.cells #[.int .i64 a1_0,.int .i64 a1_1,.int .i64 a1_2,.slice A1_3 l1_3.length c1_3] 37 (0,0)) B3.out HU.out) 0).trans rfl;have hc3_1:w4.cell? ⟨k3_,1,none⟩=some (.int .i64 a1_1):=(blk_cell (blk_below (g:=k3_) (o:=.cells #[.int .i64 a1_0,.int .i64 a1_1,.int .i64 a1_2,.slice A1_3 l1_3.length c1_3] 37 (0,0)) B3.out HU.out) 1).trans rfl;have hc3_2:w4.cell? ⟨k3_,2,none⟩=some (.int .i64 a1_2):=(blk_cell (blk_below (g:=k3_) (o:=.cells #[.int .i64 a1_0,.int .i64 a1_1,.int .i64 a1_2,.slice A1_3 l1_3.length c1_3] 37 (0,0)) B3.out HU.out) 2).trans rfl;have hc3_3:w4.cell? ⟨k3_,3,none⟩=some (.slice A1_3 l1_3.length c1_3):=(blk_cell (blk_below (g:=k3_) (o:=.cells #[.int .i64 a1_0,.int .i64 a1_1,.int .i64 a1_2,.slice A1_3 l1_3.length c1_3] 37 (0,0)) B3.out HU.out) 3).trans rfl)
   | (go_at_call 20;(with_reducible refine(spec_LetterFault.calls a1_0 a1_1 a1_2 _ _ l1_3 0 _ ?lf1 HCT.out HLF.out).mono ?_);(case lf1=>exact Kd.C_below HRT.out (below_step HW.out HU.out));rintro e w5 ⟨rfl,hb⟩;have n0_:=zM (below_step HU.out hb);have n1_:=zM (blk_below (g:=k4_) (o:=.cells #[.int .i64 0,.slice none 0 0] 31 (0,0)) M4.out hb);clear HU M4;have HU:=n0_;have M4:=n1_;clear n0_ n1_;clear hb;clear hc3_0 hc3_1 hc3_2 hc3_3;have hc3_0:w5.cell? ⟨k3_,0,none⟩=some (.int .i64 a1_0):=(blk_cell (blk_below (g:=k3_) (o:=.cells #[.int .i64 a1_0,.int .i64 a1_1,.int .i64 a1_2,.slice A1_3 l1_3.length c1_3] 37 (0,0)) B3.out HU.out) 0).trans rfl;have hc3_1:w5.cell? ⟨k3_,1,none⟩=some (.int .i64 a1_1):=(blk_cell (blk_below (g:=k3_) (o:=.cells #[.int .i64 a1_0,.int .i64 a1_1,.int .i64 a1_2,.slice A1_3 l1_3.length c1_3] 37 (0,0)) B3.out HU.out) 1).trans rfl;have hc3_2:w5.cell? ⟨k3_,2,none⟩=some (.int .i64 a1_2):=(blk_cell (blk_below (g:=k3_) (o:=.cells #[.int .i64 a1_0,.int .i64 a1_1,.int .i64 a1_2,.slice A1_3 l1_3.length c1_3] 37 (0,0)) B3.out HU.out) 2).trans rfl;have hc3_3:w5.cell? ⟨k3_,3,none⟩=some (.slice A1_3 l1_3.length c1_3):=(blk_cell (blk_below (g:=k3_) (o:=.cells #[.int .i64 a1_0,.int .i64 a1_1,.int .i64 a1_2,.slice A1_3 l1_3.length c1_3] 37 (0,0)) B3.out HU.out) 3).trans rfl)
   | (go_at_call 21;(with_reducible refine(l4Find_as a1_0 a0_0 A0_1 c0_1 k2_ l0_1 q HQ.out _ ?ff1 ?ff2 HLB.out).mono ?_);(case ff1=>exact(blk_below (g:=k2_) (o:=.cells #[.int .i64 a0_0,.slice A0_1 l0_1.length c0_1] 35 (0,0)) B2.out HU.out));(case ff2=>exact Kd.C_below HR0.out (below_step HW.out HU.out));rintro e w6 ⟨rfl,hb⟩;have n0_:=zM (below_step HU.out hb);have n1_:=zM (blk_below (g:=k4_) (o:=.cells #[.int .i64 0,.slice none 0 0] 31 (0,0)) M4.out hb);clear HU M4;have HU:=n0_;have M4:=n1_;clear n0_ n1_;clear hb;clear hc3_0 hc3_1 hc3_2 hc3_3)
   | ((with_reducible refine gate_store (t:=31) (p:=4) rfl ?_);refine row_event ?hg (ty:=31) (p:=4) (y:=?yo4) ?ho ?hn (g:=k4_) (old:=#[.int .i64 0,.slice none 0 0]) (e:=31) (cells:=#[.int .i64 4,.slice none 0 0]) ?hx ?hy ?hk ?hi ?hd ?h1 ?_;(case ho=>rfl);(case hg=>rfl);(case hn=>rfl);(case hx=>rfl);(case hy=>rfl);(case hk=>exact M4.out);(case hi=>kernel_rfl);(case hd=>rfl);(case h1=>exact zq135);intro w7 hbk hgr;have n0_:=zM (below_grown1 HU.out hgr G4.out);have n1_:=zM (hbk);clear HU M4;have HU:=n0_;have M4:=n1_;clear n0_ n1_;clear hbk hgr))
 refine bodyPost_ret (results_cell_row rfl _ _ k4_ 31 #[.int .i64 4,.slice none 0 0] (0,0) _ rfl M4.out Try.underlying31 rfl (by kernel_rfl)) rfl ?_
 exact⟨_,rfl,Kd.R_nil _ _ _ _ _,below_step HW.out HU.out⟩
set_option maxHeartbeats 8000000 in
set_option maxRecDepth 100000 in
theorem spec_SealLetter.w4 (K:Nat) (a0_0:Int) (A0_1:Option Addr) (c0_1:Nat) (l0_1:List S54) (a1_0 a1_1 a1_2:Int) (A1_3:Option Addr) (c1_3:Nat) (l1_3:List Int) (q:Int) (x:S54) (s:List Int) (w:World) (HR0:Aside0 (Kd.C k54 w A0_1 l0_1.length l0_1)) (HC0:Aside0 (l0_1.length≤c0_1)) (HRT:Aside0 (Kd.C (Kd.int .u8) w A1_3 l1_3.length l1_3)) (HCT:Aside0 (l1_3.length≤c1_3)) (HRF:Aside0 (spec_RingFault.f a0_0 l0_1=some 0)) (HLF:Aside0 (spec_LetterFault.f a1_0 a1_1 a1_2 l1_3=some 0)) (HQ:Aside0 (placeL a1_0 l0_1 0=q)) (HLB:Aside0 (l0_1.length < 140737488355328)) (hq:¬ q < 0) (hq2:q < (l0_1.length:Int)) (HXE:Aside0 (rd_T54 l0_1 q=x)) (HSE:Aside0 (spec_l5Seal.f K x.f1 a1_0 a1_1 a1_2 l1_3=some s)) :
  Calls Try.prog 6 #[.agg #[.int .i64 a0_0,.slice A0_1 l0_1.length c0_1],.agg #[.int .i64 a1_0,.int .i64 a1_1,.int .i64 a1_2,.slice A1_3 l1_3.length c1_3]] w fun e w'=>∃ v1_:Value,e=.returned (.agg #[.int .i64 0,v1_])∧Kd.R (Kd.int .u8) 5 w' w.heap.size (fun _=>True) v1_ s∧Below w.heap.size w w':=by
 have hq1:0≤q:=by omega
 have hd:=decide_eq_false hq
 obtain⟨ad,Ak,ck,rfl,hx0,hx1,hl1,hi1⟩:=at_T54 HR0.out q hq1 hq2
 rw[HXE.out] at hx1 hl1 hi1
 have HX1:=zM hx1
 have HKL:=zM hl1
 have HKX:=zM hi1
 clear hq hx0 hx1 hl1 hi1
 have HW:=zM (Below.refl w.heap.size w)
 have HU:=zM (Below.refl w.heap.size w)
 go_enter Try.func6,Try.ntmps6
 go_wp2_with (first
   | ((with_reducible refine gate_dst (N:=2) rfl ?_);refine box_event ?hg (N:=2) ?hd (cs:=#[.int .i64 a0_0,.slice (some ad) l0_1.length c0_1]) (t:=35) ?hr ?_;(case hd=>rfl);(case hg=>rfl);(case hr=>first|(go_simp;done)|(go_simp;rfl));intro k2_ hg w1 hbox hb;have G2:=zM (show w.heap.size≤k2_ by rw[hg];exact below_size HU.out);have n0_:=zM (below_step HU.out hb);clear HU;have HU:=n0_;clear n0_;have M2:=zM hbox;clear hb hbox hg)
   | ((with_reducible refine gate_dst (N:=3) rfl ?_);refine box_event ?hg (N:=3) ?hd (cs:=#[.int .i64 a1_0,.int .i64 a1_1,.int .i64 a1_2,.slice A1_3 l1_3.length c1_3]) (t:=37) ?hr ?_;(case hd=>rfl);(case hg=>rfl);(case hr=>first|(go_simp;done)|(go_simp;rfl));intro k3_ hg w2 hbox hb;have G3:=zM (show w.heap.size≤k3_ by rw[hg];exact below_size HU.out);have n0_:=zM (below_step HU.out hb);have n1_:=zM (blk_below (g:=k2_) (o:=.cells #[.int .i64 a0_0,.slice (some ad) l0_1.length c0_1] 35 (0,0)) M2.out hb);clear HU M2;have HU:=n0_;have M2:=n1_;clear n0_ n1_;have M3:=zM hbox;clear hb hbox hg;have n0_:=zM (below_step HW.out HU.out);have n1_:=zM (M2.out);have n2_:=zM (M3.out);have n3_:=zM (Below.refl w2.heap.size w2);clear HW HU M2 G2 M3 G3;have HW:=n0_;have B2:=n1_;have B3:=n2_;have HU:=n3_;clear n0_ n1_ n2_ n3_)
   | ((with_reducible refine gate_dst (N:=4) rfl ?_);refine box_event ?hg (N:=4) ?hd (cs:=#[.int .i64 0,.slice none 0 0]) (t:=31) ?hr ?_;(case hd=>rfl);(case hg=>rfl);(case hr=>first|(go_simp;done)|(go_simp;rfl));intro k4_ hg w3 hbox hb;have G4:=zM (show w2.heap.size≤k4_ by rw[hg];exact below_size HU.out);have n0_:=zM (below_step HU.out hb);clear HU;have HU:=n0_;clear n0_;have M4:=zM hbox;clear hb hbox hg;have hc2_0:w3.cell? ⟨k2_,0,none⟩=some (.int .i64 a0_0):=(blk_cell (blk_below (g:=k2_) (o:=.cells #[.int .i64 a0_0,.slice (some ad) l0_1.length c0_1] 35 (0,0)) B2.out HU.out) 0).trans rfl;have hc2_1:w3.cell? ⟨k2_,1,none⟩=some (.slice (some ad) l0_1.length c0_1):=(blk_cell (blk_below (g:=k2_) (o:=.cells #[.int .i64 a0_0,.slice (some ad) l0_1.length c0_1] 35 (0,0)) B2.out HU.out) 1).trans rfl)
   | (go_at_call 19;(with_reducible refine(spec_RingFault.calls a0_0 _ _ l0_1 0 _ ?rf1 HC0.out HRF.out).mono ?_);(case rf1=>exact Kd.C_below HR0.out (below_step HW.out HU.out));rintro e w4 ⟨rfl,hb⟩;have n0_:=zM (below_step HU.out hb);have n1_:=zM (blk_below (g:=k4_) (o:=.cells #[.int .i64 0,.slice none 0 0] 31 (0,0)) M4.out hb);clear HU M4;have HU:=n0_;have M4:=n1_;clear n0_ n1_;clear hb;clear hc2_0 hc2_1;have hc3_0:w4.cell? ⟨k3_,0,none⟩=some (.int .i64 a1_0):=(blk_cell (blk_below (g:=k3_) (o:=.cells #[.int .i64 a1_0,.int .i64 a1_1,.int .i64 a1_2,.slice A1_3 l1_3.length c1_3] 37 (0,0)) B3.out HU.out) 0).trans rfl;have hc3_1:w4.cell? ⟨k3_,1,none⟩=some (.int .i64 a1_1):=(blk_cell (blk_below (g:=k3_) (o:=.cells #[.int .i64 a1_0,.int .i64 a1_1,.int .i64 a1_2,.slice A1_3 l1_3.length c1_3] 37 (0,0)) B3.out HU.out) 1).trans rfl;have hc3_2:w4.cell? ⟨k3_,2,none⟩=some (.int .i64 a1_2):=(blk_cell (blk_below (g:=k3_) (o:=.cells #[.int .i64 a1_0,.int .i64 a1_1,.int .i64 a1_2,.slice A1_3 l1_3.length c1_3] 37 (0,0)) B3.out HU.out) 2).trans rfl;have hc3_3:w4.cell? ⟨k3_,3,none⟩=some (.slice A1_3 l1_3.length c1_3):=(blk_cell (blk_below (g:=k3_) (o:=.cells #[.int .i64 a1_0,.int .i64 a1_1,.int .i64 a1_2,.slice A1_3 l1_3.length c1_3] 37 (0,0)) B3.out HU.out) 3).trans rfl)
   | (go_at_call 20;(with_reducible refine(spec_LetterFault.calls a1_0 a1_1 a1_2 _ _ l1_3 0 _ ?lf1 HCT.out HLF.out).mono ?_);(case lf1=>exact Kd.C_below HRT.out (below_step HW.out HU.out));rintro e w5 ⟨rfl,hb⟩;have n0_:=zM (below_step HU.out hb);have n1_:=zM (blk_below (g:=k4_) (o:=.cells #[.int .i64 0,.slice none 0 0] 31 (0,0)) M4.out hb);clear HU M4;have HU:=n0_;have M4:=n1_;clear n0_ n1_;clear hb;clear hc3_0 hc3_1 hc3_2 hc3_3;have hc3_0:w5.cell? ⟨k3_,0,none⟩=some (.int .i64 a1_0):=(blk_cell (blk_below (g:=k3_) (o:=.cells #[.int .i64 a1_0,.int .i64 a1_1,.int .i64 a1_2,.slice A1_3 l1_3.length c1_3] 37 (0,0)) B3.out HU.out) 0).trans rfl;have hc3_1:w5.cell? ⟨k3_,1,none⟩=some (.int .i64 a1_1):=(blk_cell (blk_below (g:=k3_) (o:=.cells #[.int .i64 a1_0,.int .i64 a1_1,.int .i64 a1_2,.slice A1_3 l1_3.length c1_3] 37 (0,0)) B3.out HU.out) 1).trans rfl;have hc3_2:w5.cell? ⟨k3_,2,none⟩=some (.int .i64 a1_2):=(blk_cell (blk_below (g:=k3_) (o:=.cells #[.int .i64 a1_0,.int .i64 a1_1,.int .i64 a1_2,.slice A1_3 l1_3.length c1_3] 37 (0,0)) B3.out HU.out) 2).trans rfl;have hc3_3:w5.cell? ⟨k3_,3,none⟩=some (.slice A1_3 l1_3.length c1_3):=(blk_cell (blk_below (g:=k3_) (o:=.cells #[.int .i64 a1_0,.int .i64 a1_1,.int .i64 a1_2,.slice A1_3 l1_3.length c1_3] 37 (0,0)) B3.out HU.out) 3).trans rfl)
   | (go_at_call 21;(with_reducible refine(l4Find_as a1_0 a0_0 (some ad) c0_1 k2_ l0_1 q HQ.out _ ?ff1 ?ff2 HLB.out).mono ?_);(case ff1=>exact(blk_below (g:=k2_) (o:=.cells #[.int .i64 a0_0,.slice (some ad) l0_1.length c0_1] 35 (0,0)) B2.out HU.out));(case ff2=>exact Kd.C_below HR0.out (below_step HW.out HU.out));rintro e w6 ⟨rfl,hb⟩;have n0_:=zM (below_step HU.out hb);have n1_:=zM (blk_below (g:=k4_) (o:=.cells #[.int .i64 0,.slice none 0 0] 31 (0,0)) M4.out hb);clear HU M4;have HU:=n0_;have M4:=n1_;clear n0_ n1_;clear hb;clear hc3_0 hc3_1 hc3_2 hc3_3;have hc2_0:w6.cell? ⟨k2_,0,none⟩=some (.int .i64 a0_0):=(blk_cell (blk_below (g:=k2_) (o:=.cells #[.int .i64 a0_0,.slice (some ad) l0_1.length c0_1] 35 (0,0)) B2.out HU.out) 0).trans rfl;have hc2_1:w6.cell? ⟨k2_,1,none⟩=some (.slice (some ad) l0_1.length c0_1):=(blk_cell (blk_below (g:=k2_) (o:=.cells #[.int .i64 a0_0,.slice (some ad) l0_1.length c0_1] 35 (0,0)) B2.out HU.out) 1).trans rfl;have hkx:=((below_step HW.out HU.out).cell (World.block_lt_of_cell? w _ HX1.out)).trans HX1.out)
   | (go_at_call 22;(with_reducible refine(spec_l5Seal.calls K k3_ Ak ck x.f1 a1_0 a1_1 a1_2 A1_3 c1_3 l1_3 s _ ?se1 ?se2 HKL.out ?se3 HCT.out HSE.out).mono ?_);(case se1=>exact(blk_below (g:=k3_) (o:=.cells #[.int .i64 a1_0,.int .i64 a1_1,.int .i64 a1_2,.slice A1_3 l1_3.length c1_3] 37 (0,0)) B3.out HU.out));(case se2=>exact Kd.C_below HKX.out (below_step HW.out HU.out));(case se3=>exact Kd.C_below HRT.out (below_step HW.out HU.out));rintro e w7 ⟨v_,rfl,ho,hb⟩;obtain⟨As,cs,ev_⟩:=Kd.R_slice ho;subst ev_;have n0_:=zM (below_step HU.out hb);have n1_:=zM (blk_below (g:=k4_) (o:=.cells #[.int .i64 0,.slice none 0 0] 31 (0,0)) M4.out hb);have n2_:=zM (Kd.R_lower ho (below_size (below_step HW.out HU.out)));clear HU M4;have HU:=n0_;have M4:=n1_;have Os:=n2_;clear n0_ n1_ n2_;clear hb ho;clear hc2_0 hc2_1 hkx)
   | ((with_reducible refine gate_store (t:=31) (p:=4) rfl ?_);refine row_event ?hg (ty:=31) (p:=4) (y:=?yo4) ?ho ?hn (g:=k4_) (old:=#[.int .i64 0,.slice none 0 0]) (e:=31) (cells:=#[.int .i64 0,.slice As s.length cs]) ?hx ?hy ?hk ?hi ?hd ?h1 ?_;(case ho=>rfl);(case hg=>rfl);(case hn=>rfl);(case hx=>rfl);(case hy=>rfl);(case hk=>exact M4.out);(case hi=>kernel_rfl);(case hd=>rfl);(case h1=>exact zq135);intro w8 hbk hgr;have n0_:=zM (below_grown1 HU.out hgr G4.out);have n1_:=zM (R_grown_types Os.out M4.out zq36 hgr);have n2_:=zM (hbk);clear HU M4 Os;have HU:=n0_;have Os:=n1_;have M4:=n2_;clear n0_ n1_ n2_;clear hbk hgr))
 refine bodyPost_ret (results_cell_row rfl _ _ k4_ 31 #[.int .i64 0,.slice As s.length cs] (0,0) _ rfl M4.out Try.underlying31 rfl (by kernel_rfl)) rfl ?_
 exact⟨_,rfl,Os.out,below_step HW.out HU.out⟩
def spec_SealLetter.f (k:Nat) (a0_0:Int) (l0_1:List S54) (a1_0 a1_1 a1_2:Int) (l1_3:List Int):Option (Int × List Int):=(spec_RingFault.f a0_0 l0_1).bind fun x=>if x=0 then (spec_LetterFault.f a1_0 a1_1 a1_2 l1_3).bind fun y=>if y=0 then (if l0_1.length < 140737488355328 then (if placeL a1_0 l0_1 0 < 0 then some (4,[]) else if placeL a1_0 l0_1 0 < (l0_1.length:Int) then (spec_l5Seal.f k (rd_T54 l0_1 (placeL a1_0 l0_1 0)).f1 a1_0 a1_1 a1_2 l1_3).bind fun s=>some (0,s) else none) else none) else some (y,[]) else some (x,[])
theorem spec_SealLetter.mono:∀ a b c d e f k,LeO (spec_SealLetter.f k a b c d e f) (spec_SealLetter.f (k+1) a b c d e f):=by
 intro a b c d e f k
 unfold spec_SealLetter.f
 repeat' first
  | (with_reducible exact LeO.refl _)
  | (with_reducible exact LeO.none _)
  | (with_reducible exact spec_l5Seal.mono _ _ _ _ _ _)
  | (with_reducible refine LeO.ite ?_ ?_)
  | (with_reducible refine LeO.bind ?_ (fun _=>?_))
theorem spec_SealLetter.calls (k:Nat) (a0_0:Int) (A0_1:Option Addr) (c0_1:Nat) (l0_1:List S54) (a1_0 a1_1 a1_2:Int) (A1_3:Option Addr) (c1_3:Nat) (l1_3:List Int) (r1:Int) (r2:List Int) (w:World) (hr0_1:Kd.C k54 w A0_1 l0_1.length l0_1) (hc0_1:l0_1.length≤c0_1) (hr1_3:Kd.C (Kd.int .u8) w A1_3 l1_3.length l1_3) (hc1_3:l1_3.length≤c1_3) (h:spec_SealLetter.f k a0_0 l0_1 a1_0 a1_1 a1_2 l1_3=some (r1,r2)) :
  Calls Try.prog 6 #[.agg #[.int .i64 a0_0,.slice A0_1 l0_1.length c0_1],.agg #[.int .i64 a1_0,.int .i64 a1_1,.int .i64 a1_2,.slice A1_3 l1_3.length c1_3]] w fun e w'=>∃ v1_:Value,e=.returned (.agg #[.int .i64 r1,v1_])∧Kd.R (Kd.int .u8) 5 w' w.heap.size (fun _=>True) v1_ r2∧Below w.heap.size w w':=by
 unfold spec_SealLetter.f at h
 obtain⟨x,h1,h⟩:=Option.bind_eq_some_iff.mp h
 by_cases hx:x=0
 case neg=>
  rw[if_neg hx] at h
  simp only[Option.some.injEq,Prod.mk.injEq] at h
  obtain⟨rfl,rfl⟩:=h
  exact spec_SealLetter.w1 k a0_0 A0_1 c0_1 l0_1 a1_0 a1_1 a1_2 A1_3 c1_3 l1_3 x w ⟨hr0_1⟩ ⟨hc0_1⟩ ⟨hr1_3⟩ ⟨hc1_3⟩ ⟨h1⟩ hx
 subst hx
 rw[if_pos rfl] at h
 obtain⟨y,h2,h⟩:=Option.bind_eq_some_iff.mp h
 by_cases hy:y=0
 case neg=>
  rw[if_neg hy] at h
  simp only[Option.some.injEq,Prod.mk.injEq] at h
  obtain⟨rfl,rfl⟩:=h
  exact spec_SealLetter.w2 k a0_0 A0_1 c0_1 l0_1 a1_0 a1_1 a1_2 A1_3 c1_3 l1_3 y w ⟨hr0_1⟩ ⟨hc0_1⟩ ⟨hr1_3⟩ ⟨hc1_3⟩ ⟨h1⟩ ⟨h2⟩ hy
 subst hy
 rw[if_pos rfl] at h
 by_cases hl:l0_1.length < 140737488355328
 case neg=>rw[if_neg hl] at h;cases h
 rw[if_pos hl] at h
 by_cases hq:placeL a1_0 l0_1 0 < 0
 ·rw[if_pos hq] at h
  simp only[Option.some.injEq,Prod.mk.injEq] at h
  obtain⟨rfl,rfl⟩:=h
  exact spec_SealLetter.w3 k a0_0 A0_1 c0_1 l0_1 a1_0 a1_1 a1_2 A1_3 c1_3 l1_3 _ w ⟨hr0_1⟩ ⟨hc0_1⟩ ⟨hr1_3⟩ ⟨hc1_3⟩ ⟨h1⟩ ⟨h2⟩ ⟨rfl⟩ ⟨hl⟩ hq
 rw[if_neg hq] at h
 by_cases hq2:placeL a1_0 l0_1 0 < (l0_1.length:Int)
 case neg=>rw[if_neg hq2] at h;cases h
 rw[if_pos hq2] at h
 obtain⟨s,h3,h⟩:=Option.bind_eq_some_iff.mp h
 simp only[Option.some.injEq,Prod.mk.injEq] at h
 obtain⟨rfl,rfl⟩:=h
 exact spec_SealLetter.w4 k a0_0 A0_1 c0_1 l0_1 a1_0 a1_1 a1_2 A1_3 c1_3 l1_3 _ _ s w ⟨hr0_1⟩ ⟨hc0_1⟩ ⟨hr1_3⟩ ⟨hc1_3⟩ ⟨h1⟩ ⟨h2⟩ ⟨rfl⟩ ⟨hl⟩ hq hq2 ⟨rfl⟩ ⟨h3⟩
end Go.Proofs.Ytdbanjdnjhflcaa.All
