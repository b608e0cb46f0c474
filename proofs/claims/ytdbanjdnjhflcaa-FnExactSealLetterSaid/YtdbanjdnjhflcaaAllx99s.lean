-- Laid by wip/shake.py of this repo out of this claim's texts. Not trusted: Lean checks it.
import Derived.Test.YtdbanjdnjhflcaaAb0s
import Derived.Test.YtdbanjdnjhflcaaAlgs
import Derived.Test.YtdbanjdnjhflcaaAllx98s
set_option linter.unusedSimpArgs false
set_option linter.unusedVariables false
namespace Go.Proofs.Ytdbanjdnjhflcaa.All
open Go.Proofs.YtdbanjdnjhflcaaW.PrintWords.Aside0 renaming mk→zM
open Go.RowKit Go.Proofs.YtdbanjdnjhflcaaW.PrintWords Go.Proofs.YtdbanjdnjhflcaaW.PrintLast Go.Proofs.YtdbanjdnjhflcaaW.PrintMore
attribute [local go_sem] max2_int min2_int max_two min_two max_three min_three max_four min_four
mutual
def impl_element_times.l0:Nat→List Int→Int→Int→Int→Int→Int→Int→Option (Int × Int)
 | 0,_,_,_,_,_,_,_=>none
 | k+1,x14,x15,x16,x353000,x353001,x356000,x356001=>if x16 < x15 then (if 0≤x16 then (if x16 < (x14.length:Int) then (impl_element_times.l1 k (rd x14 x16) 63 x14 x15 x16 x353000 x353001 x356000 x356001) else (none)) else (none)) else (some (x356000,x356001))
def impl_element_times.l1:Nat→Int→Int→List Int→Int→Int→Int→Int→Int→Int→Option (Int × Int)
 | 0,_,_,_,_,_,_,_,_,_=>none
 | k+1,x7,x8,x14,x15,x16,x353000,x353001,x356000,x356001=>if x8 ≥ 0 then (if 0≤x8 then (if (Int.tmod (shr .u64 x7 x8) 2)=1 then ((impl_element_plus.f x356000 x356001 x353000 x353001).bind fun bt360=>((impl_element_shifted.f x353000 x353001).bind fun bt362=>(impl_element_times.l1 k x7 (wrap64 (x8 - 1)) x14 x15 x16 bt362.1 bt362.2 bt360.1 bt360.2))) else ((impl_element_shifted.f x353000 x353001).bind fun bt364=>(impl_element_times.l1 k x7 (wrap64 (x8 - 1)) x14 x15 x16 bt364.1 bt364.2 x356000 x356001))) else (none)) else (impl_element_times.l0 k x14 x15 (wrap64 (x16+1)) x353000 x353001 x356000 x356001)
end
def impl_element_times.f (k:Nat) (a0_0:Int) (a0_1:Int) (a1_0:Int) (a1_1:Int):Option (Int × Int):=(some (([a1_0,a1_1]:List Int):List Int)).bind fun y356=>(impl_element_times.l0 k y356 (y356.length:Int) 0 a0_0 a0_1 0 0)
theorem impl_element_times.mono_l:∀ k,(∀ y0 y1 y2 y3 y4 y5 y6,LeO (impl_element_times.l0 k y0 y1 y2 y3 y4 y5 y6) (impl_element_times.l0 (k+1) y0 y1 y2 y3 y4 y5 y6))∧(∀ y0 y1 y2 y3 y4 y5 y6 y7 y8,LeO (impl_element_times.l1 k y0 y1 y2 y3 y4 y5 y6 y7 y8) (impl_element_times.l1 (k+1) y0 y1 y2 y3 y4 y5 y6 y7 y8))
 | 0=>⟨fun _ _ _ _ _ _ _ r h=>by simp[impl_element_times.l0] at h,fun _ _ _ _ _ _ _ _ _ r h=>by simp[impl_element_times.l1] at h⟩
 | k+1=>by
  obtain⟨ih0,ih1⟩:=impl_element_times.mono_l k
  refine⟨?_,?_⟩
  ·intro y0 y1 y2 y3 y4 y5 y6
   unfold impl_element_times.l0
   repeat' first
   | (with_reducible exact ih0 _ _ _ _ _ _ _)
   | (with_reducible exact ih1 _ _ _ _ _ _ _ _ _)
   | (with_reducible exact LeO.refl _)
   | (with_reducible exact LeO.none _)
   | (with_reducible refine LeO.ite ?_ ?_)
   | (with_reducible refine LeO.bind ?_ (fun _=>?_))
   | exact ih0 _ _ _ _ _ _ _
   | exact ih1 _ _ _ _ _ _ _ _ _
   | exact LeO.none _
   | refine LeO.ite ?_ ?_
   | refine LeO.bind ?_ (fun _=>?_)
  ·intro y0 y1 y2 y3 y4 y5 y6 y7 y8
   unfold impl_element_times.l1
   repeat' first
   | (with_reducible exact ih0 _ _ _ _ _ _ _)
   | (with_reducible exact ih1 _ _ _ _ _ _ _ _ _)
   | (with_reducible exact LeO.refl _)
   | (with_reducible exact LeO.none _)
   | (with_reducible refine LeO.ite ?_ ?_)
   | (with_reducible refine LeO.bind ?_ (fun _=>?_))
   | exact ih0 _ _ _ _ _ _ _
   | exact ih1 _ _ _ _ _ _ _ _ _
   | exact LeO.none _
   | refine LeO.ite ?_ ?_
   | refine LeO.bind ?_ (fun _=>?_)
theorem impl_element_times.mono:∀ a0 a1 a2 a3 k,LeO (impl_element_times.f k a0 a1 a2 a3) (impl_element_times.f (k+1) a0 a1 a2 a3):=by
 intro a0 a1 a2 a3 k
 obtain⟨ih0,ih1⟩:=impl_element_times.mono_l k
 unfold impl_element_times.f
 repeat' first
   | (with_reducible exact ih0 _ _ _ _ _ _ _)
   | (with_reducible exact ih1 _ _ _ _ _ _ _ _ _)
   | (with_reducible exact LeO.refl _)
   | (with_reducible exact LeO.none _)
   | (with_reducible refine LeO.ite ?_ ?_)
   | (with_reducible refine LeO.bind ?_ (fun _=>?_))
   | exact ih0 _ _ _ _ _ _ _
   | exact ih1 _ _ _ _ _ _ _ _ _
   | exact LeO.none _
   | refine LeO.ite ?_ ?_
   | refine LeO.bind ?_ (fun _=>?_)
set_option maxHeartbeats 8000000 in
set_option maxRecDepth 100000 in
theorem impl_element_times.calls (k:Nat) (a0_0:Int) (a0_1:Int) (a1_0:Int) (a1_1:Int) (r1:Int) (r2:Int) (w:World) (h:impl_element_times.f k a0_0 a0_1 a1_0 a1_1=some (r1,r2)) :
  Calls Try.prog 88 #[.agg #[.int .u64 a0_0,.int .u64 a0_1],.agg #[.int .u64 a1_0,.int .u64 a1_1]] w fun e w'=>e=.returned (.agg #[.int .u64 r1,.int .u64 r2])∧Below w.heap.size w w':=by
 have hu111:=Try.underlying111
 have HB:=zM (Below.refl w.heap.size w)
 have H:((some (([a1_0,a1_1]:List Int):List Int)).bind fun y356=>(impl_element_times.l0 k y356 (y356.length:Int) 0 a0_0 a0_1 0 0))=some (r1,r2):=h
 clear h
 obtain⟨y356,hy356⟩:∃ y_:List Int,y_=(([a1_0,a1_1]:List Int)):=⟨_,rfl⟩
 replace H:(impl_element_times.l0 k y356 (y356.length:Int) 0 a0_0 a0_1 0 0)=some (r1,r2):=by first|(rw[hy356];with_reducible exact H)|(have H2_:=(Option.bind_some _ _).symm.trans H;rw[hy356];with_reducible exact H2_)|(have H2_:=(Option.bind_some _ _).symm.trans H;with_reducible exact H2_)|with_reducible exact H|(rw[hy356];exact H)|exact H
 have Ny356:=zM hy356
 clear hy356
 have H':=zM H
 clear H
 go_enter Try.func88,Try.ntmps88
 go_wp2_with (first|((with_reducible refine gate_dst (N:=2) rfl ?_);refine box_event ?hg (N:=2) ?hd (cs:=#[.int .u64 a0_0,.int .u64 a0_1]) (t:=111) ?hr ?_;(case hd=>rfl);(case hg=>rfl);(case hr=>first|(go_simp;done)|(go_simp;rfl));intro gb352 hg w3 hbox hb;have n0_:=zM (below_step zq0 hb);have n1_:=zM (hbox);have n2_:=zM ((by rw[hg];exact(below_size zq0):w.heap.size≤gb352));have n3_:=zM ((by rw[hg];exact(below_size zq0):w.heap.size≤gb352));clear HB;have HB:=n0_;have BK352:=n1_;have GW352:=n2_;have GE352:=n3_;clear n0_ n1_ n2_ n3_;clear hb hbox hg)|((with_reducible refine gate_dst (N:=3) rfl ?_);refine box_event ?hg (N:=3) ?hd (cs:=#[.int .u64 a1_0,.int .u64 a1_1]) (t:=111) ?hr ?_;(case hd=>rfl);(case hg=>rfl);(case hr=>first|(go_simp;done)|(go_simp;rfl));intro gb353 hg w4 hbox hb;have n0_:=zM (blk_below (g:=gb352) (o:=.cells #[.int .u64 a0_0,.int .u64 a0_1] 111 (0,0)) zq39 hb);have n1_:=zM (below_step zq113 hb);have n2_:=zM (hbox);have n3_:=zM ((by rw[hg];exact(below_size zq113):w.heap.size≤gb353));have n4_:=zM ((by rw[hg];exact(below_size zq113):w.heap.size≤gb353));have n5_:=zM ((by rw[hg];exact Nat.ne_of_lt (blk_lt (g:=gb352) (o:=.cells #[.int .u64 a0_0,.int .u64 a0_1] 111 (0,0)) zq39):gb352≠gb353));have n6_:=zM ((by rw[hg];exact Nat.ne_of_gt (blk_lt (g:=gb352) (o:=.cells #[.int .u64 a0_0,.int .u64 a0_1] 111 (0,0)) zq39):gb353≠gb352));clear BK352;clear HB;have BK352:=n0_;have HB:=n1_;have BK353:=n2_;have GW353:=n3_;have GE353:=n4_;have NB352_353:=n5_;have NB353_352:=n6_;clear n0_ n1_ n2_ n3_ n4_ n5_ n6_;clear hb hbox hg)|((with_reducible refine gate_dst (N:=4) rfl ?_);refine box_event ?hg (N:=4) ?hd (cs:=#[.int .u64 0,.int .u64 0]) (t:=111) ?hr ?_;(case hd=>rfl);(case hg=>rfl);(case hr=>first|(go_simp;done)|(go_simp;rfl));intro gb354 hg w5 hbox hb;have n0_:=zM (blk_below (g:=gb352) (o:=.cells #[.int .u64 a0_0,.int .u64 a0_1] 111 (0,0)) zq39 hb);have n1_:=zM (blk_below (g:=gb353) (o:=.cells #[.int .u64 a1_0,.int .u64 a1_1] 111 (0,0)) zq53 hb);have n2_:=zM (below_step zq93 hb);have n3_:=zM (hbox);have n4_:=zM ((by rw[hg];exact(below_size zq93):w.heap.size≤gb354));have n5_:=zM ((by rw[hg];exact(below_size zq93):w.heap.size≤gb354));have n6_:=zM ((by rw[hg];exact Nat.ne_of_lt (blk_lt (g:=gb352) (o:=.cells #[.int .u64 a0_0,.int .u64 a0_1] 111 (0,0)) zq39):gb352≠gb354));have n7_:=zM ((by rw[hg];exact Nat.ne_of_gt (blk_lt (g:=gb352) (o:=.cells #[.int .u64 a0_0,.int .u64 a0_1] 111 (0,0)) zq39):gb354≠gb352));have n8_:=zM ((by rw[hg];exact Nat.ne_of_lt (blk_lt (g:=gb353) (o:=.cells #[.int .u64 a1_0,.int .u64 a1_1] 111 (0,0)) zq53):gb353≠gb354));have n9_:=zM ((by rw[hg];exact Nat.ne_of_gt (blk_lt (g:=gb353) (o:=.cells #[.int .u64 a1_0,.int .u64 a1_1] 111 (0,0)) zq53):gb354≠gb353));clear BK352;clear BK353;clear HB;have BK352:=n0_;have BK353:=n1_;have HB:=n2_;have BK354:=n3_;have GW354:=n4_;have GE354:=n5_;have NB352_354:=n6_;have NB354_352:=n7_;have NB353_354:=n8_;have NB354_353:=n9_;clear n0_ n1_ n2_ n3_ n4_ n5_ n6_ n7_ n8_ n9_;clear hb hbox hg)|((with_reducible refine gate_dst (N:=5) rfl ?_);refine box_event ?hg (N:=5) ?hd (cs:=#[.int .u64 0,.int .u64 0]) (t:=111) ?hr ?_;(case hd=>rfl);(case hg=>rfl);(case hr=>first|(go_simp;done)|(go_simp;rfl));intro gb355 hg w6 hbox hb;have n0_:=zM (blk_below (g:=gb352) (o:=.cells #[.int .u64 a0_0,.int .u64 a0_1] 111 (0,0)) zq39 hb);have n1_:=zM (blk_below (g:=gb353) (o:=.cells #[.int .u64 a1_0,.int .u64 a1_1] 111 (0,0)) zq53 hb);have n2_:=zM (blk_below (g:=gb354) (o:=.cells #[.int .u64 0,.int .u64 0] 111 (0,0)) zq81 hb);have n3_:=zM (below_step zq85 hb);have n4_:=zM (hbox);have n5_:=zM ((by rw[hg];exact(below_size zq85):w.heap.size≤gb355));have n6_:=zM ((by rw[hg];exact(below_size zq85):w.heap.size≤gb355));have n7_:=zM ((by rw[hg];exact Nat.ne_of_lt (blk_lt (g:=gb352) (o:=.cells #[.int .u64 a0_0,.int .u64 a0_1] 111 (0,0)) zq39):gb352≠gb355));have n8_:=zM ((by rw[hg];exact Nat.ne_of_gt (blk_lt (g:=gb352) (o:=.cells #[.int .u64 a0_0,.int .u64 a0_1] 111 (0,0)) zq39):gb355≠gb352));have n9_:=zM ((by rw[hg];exact Nat.ne_of_lt (blk_lt (g:=gb353) (o:=.cells #[.int .u64 a1_0,.int .u64 a1_1] 111 (0,0)) zq53):gb353≠gb355));have n10_:=zM ((by rw[hg];exact Nat.ne_of_gt (blk_lt (g:=gb353) (o:=.cells #[.int .u64 a1_0,.int .u64 a1_1] 111 (0,0)) zq53):gb355≠gb353));have n11_:=zM ((by rw[hg];exact Nat.ne_of_lt (blk_lt (g:=gb354) (o:=.cells #[.int .u64 0,.int .u64 0] 111 (0,0)) zq81):gb354≠gb355));have n12_:=zM ((by rw[hg];exact Nat.ne_of_gt (blk_lt (g:=gb354) (o:=.cells #[.int .u64 0,.int .u64 0] 111 (0,0)) zq81):gb355≠gb354));clear BK352;clear BK353;clear BK354;clear HB;have BK352:=n0_;have BK353:=n1_;have BK354:=n2_;have HB:=n3_;have BK355:=n4_;have GW355:=n5_;have GE355:=n6_;have NB352_355:=n7_;have NB355_352:=n8_;have NB353_355:=n9_;have NB355_353:=n10_;have NB354_355:=n11_;have NB355_354:=n12_;clear n0_ n1_ n2_ n3_ n4_ n5_ n6_ n7_ n8_ n9_ n10_ n11_ n12_;clear hb hbox hg;have hnb7:=NB355_352.out;have hnc7:=NB352_355.out;have hnb8:=NB355_353.out;have hnc8:=NB353_355.out;have hnb9:=NB355_354.out;have hnc9:=NB354_355.out;have hcz10_0:w6.cell? ⟨gb355,0,none⟩=some (.int .u64 0):=(blk_cell BK355.out 0).trans rfl;have hcz10_1:w6.cell? ⟨gb355,1,none⟩=some (.int .u64 0):=(blk_cell BK355.out 1).trans rfl;have hfz10_0:=blk_frozen BK355.out 0;have hfz10_1:=blk_frozen BK355.out 1;have hnb11:=NB353_352.out;have hnc11:=NB352_353.out;have hnb12:=NB353_354.out;have hnc12:=NB354_353.out;have hcz13_0:w6.cell? ⟨gb353,0,none⟩=some (.int .u64 a1_0):=(blk_cell BK353.out 0).trans rfl;have hcz13_1:w6.cell? ⟨gb353,1,none⟩=some (.int .u64 a1_1):=(blk_cell BK353.out 1).trans rfl;have hfz13_0:=blk_frozen BK353.out 0;have hfz13_1:=blk_frozen BK353.out 1)|((with_reducible refine gate_dst (N:=14) rfl ?_);refine Kd.R_lit (Kd.int .u64) _ 109 ?hg (N:=14) ?hd (xs:=([a1_0,a1_1]:List Int)) (inner:=[.int .u64 a1_0,.int .u64 a1_1]) (ok:=fun _=>True) (okp:=fun _=>True) ?hr ?hp (fun _ hk=>hk) trivial (Below.refl _ _) (Nat.le_refl _) zq73 ?_;(case hd=>rfl);(case hg=>rfl);(case hr=>first|(go_simp;done)|(go_simp;rfl));(case hp=>exact(Reps.one (show Kd.M (Kd.int .u64) _ _ _ a1_0 [.int .u64 a1_0] from rfl) (Reps.one (show Kd.M (Kd.int .u64) _ _ _ a1_1 [.int .u64 a1_1] from rfl) (Reps.none _ _))));intro v357 w14 ho15 hb hg_ hnew_;clear hg_ hnew_;(first|rw[← Ny356.out] at ho15|(simp only[Int.reduceToNat] at ho15;rw[← Ny356.out] at ho15));have n0_:=zM (Kd.R_lower ho15 (below_size zq34));have n1_:=zM (blk_below (g:=gb352) (o:=.cells #[.int .u64 a0_0,.int .u64 a0_1] 111 (0,0)) zq95 hb);have n2_:=zM (blk_below (g:=gb353) (o:=.cells #[.int .u64 a1_0,.int .u64 a1_1] 111 (0,0)) zq96 hb);have n3_:=zM (blk_below (g:=gb354) (o:=.cells #[.int .u64 0,.int .u64 0] 111 (0,0)) zq97 hb);have n4_:=zM (blk_below (g:=gb355) (o:=.cells #[.int .u64 0,.int .u64 0] 111 (0,0)) (by(with_reducible repeat (first|refine blk_drewN ?_ _|refine blk_drew ?_|refine blk_alloc ?_ _));refine blk_put (cs:=#[.int .u64 0,.int .u64 0]) ?_ 1 _ rfl;(with_reducible repeat (first|refine blk_drewN ?_ _|refine blk_drew ?_|refine blk_alloc ?_ _));refine blk_put (cs:=#[.int .u64 0,.int .u64 0]) ?_ 0 _ rfl;(with_reducible repeat (first|refine blk_drewN ?_ _|refine blk_drew ?_|refine blk_alloc ?_ _));exact BK355.out) hb);have n5_:=zM (below_step zq34 hb);clear BK352;clear BK353;clear BK354;clear BK355;clear HB;have HO358:=n0_;have BK352:=n1_;have BK353:=n2_;have BK354:=n3_;have BK355:=n4_;have HB:=n5_;clear n0_ n1_ n2_ n3_ n4_ n5_;clear hb ho15;obtain⟨Ao16,co16,eo16⟩:=Kd.R_slice HO358.out;subst eo16))
 go_loopg [16] k (fun kq v16 w'=>∃ (x16_1:Int) (x353000_1:Int) (x353001_1:Int) (x356000_1:Int) (x356001_1:Int),v16=.int .i64 x16_1∧Aside0 (impl_element_times.l0 kq y356 (y356.length:Int) x16_1 x353000_1 x353001_1 x356000_1 x356001_1=some (r1,r2))∧Aside0 (kq≤k)∧Aside0 (Kd.R (Kd.int .u64) 109 w' w.heap.size (fun _=>True) (.slice Ao16 y356.length co16) y356)∧Aside0 (w'.heap[gb352]?=some (.cells #[.int .u64 x353000_1,.int .u64 x353001_1] 111 (0,0)))∧Aside0 (w'.heap[gb353]?=some (.cells #[.int .u64 a1_0,.int .u64 a1_1] 111 (0,0)))∧Aside0 (w'.heap[gb354]?=some (.cells #[.int .u64 0,.int .u64 0] 111 (0,0)))∧Aside0 (w'.heap[gb355]?=some (.cells #[.int .u64 x356000_1,.int .u64 x356001_1] 111 (0,0)))∧Aside0 (Below w.heap.size w w'))
 case atStart=>exact⟨(0),(a0_0),(a0_1),(0),(0),zq7,H',⟨Nat.le_refl _⟩,⟨by(with_reducible repeat (first|apply Kd.R_alloc|apply Kd.R_drewN|apply Kd.R_drew));exact HO358.out⟩,⟨zq39⟩,⟨zq53⟩,⟨zq81⟩,⟨zq131⟩,⟨zq34⟩⟩
 case round=>
  clear H'
  try clear c1
  try clear p2
  try clear c7
  try clear c8
  try clear c9
  try clear c11
  try clear c12
  try clear hcz10_0
  try clear hcz10_1
  try clear hcz13_0
  try clear hcz13_1
  try clear hfz10_0
  try clear hfz10_1
  try clear hfz13_0
  try clear hfz13_1
  obtain⟨x16_1,x353000_1,x353001_1,x356000_1,x356001_1,rfl,HA,HK1,HO_14,BK352,BK353,BK354,BK355,HB⟩:=hrel
  cases gk with
  | zero=>exact absurd HA.out (by simp[impl_element_times.l0])
  | succ k1=>
   have H:=HA.out
   clear HA
   simp only[impl_element_times.l0] at H
   by_cases c17:x16_1 < (y356.length:Int)
   ·rw[if_pos c17] at H
    have c17b0:decide (x16_1 < (y356.length:Int))=true:=decide_eq_true c17
    clear c17
    by_cases c18:0≤x16_1
    ·rw[if_pos c18] at H
     have c18b0:decide (0≤x16_1)=true:=decide_eq_true c18
     clear c18
     by_cases c19:x16_1 < (y356.length:Int)
     ·rw[if_pos c19] at H
      have c19b0:decide (x16_1 < (y356.length:Int))=true:=decide_eq_true c19
      clear c19
      have H':=zM H
      clear H
      have p359:0≤(x16_1:Int):=of_decide_eq_true zq6
      have q359:x16_1 < (y356.length:Int):=of_decide_eq_true zq6
      obtain⟨ad359,e359,hx359_0⟩:=Kd.at_int (Kd.R_reads' HO_14.out).2.2 x16_1 p359 q359
      cases e359
      replace p359:=eq_true p359
      replace q359:=eq_true q359
      go_wp2
      go_loopg [8] k1 (fun kq v8 w'=>∃ (x8_2:Int) (x353000_2:Int) (x353001_2:Int) (x356000_2:Int) (x356001_2:Int),v8=.int .i64 x8_2∧Aside0 (impl_element_times.l1 kq (rd y356 x16_1) x8_2 y356 (y356.length:Int) x16_1 x353000_2 x353001_2 x356000_2 x356001_2=some (r1,r2))∧Aside0 (kq≤k1)∧Aside0 (Kd.R (Kd.int .u64) 109 w' w.heap.size (fun _=>True) (.slice (some ad359) y356.length co16) y356)∧Aside0 (w'.heap[gb352]?=some (.cells #[.int .u64 x353000_2,.int .u64 x353001_2] 111 (0,0)))∧Aside0 (w'.heap[gb353]?=some (.cells #[.int .u64 a1_0,.int .u64 a1_1] 111 (0,0)))∧Aside0 (w'.heap[gb354]?=some (.cells #[.int .u64 0,.int .u64 0] 111 (0,0)))∧Aside0 (w'.heap[gb355]?=some (.cells #[.int .u64 x356000_2,.int .u64 x356001_2] 111 (0,0)))∧Aside0 (Below w.heap.size w w'))
      case atStart=>exact⟨(63),(x353000_1),(x353001_1),(x356000_1),(x356001_1),zq7,H',⟨Nat.le_refl _⟩,⟨zq181⟩,⟨zq39⟩,⟨zq53⟩,⟨zq81⟩,⟨zq131⟩,⟨zq34⟩⟩
      case round=>
       clear H'
       try clear c1
       try clear p2
       try clear p3
       try clear q3
       try clear hx3
       try clear c7
       try clear c8
       try clear c9
       try clear c11
       try clear c12
       try clear c17
       try clear c17b0
       try clear c18
       try clear c18b0
       try clear c19
       try clear c19b0
       try clear hcz10_0
       try clear hcz10_1
       try clear hcz13_0
       try clear hcz13_1
       try clear hfz10_0
       try clear hfz10_1
       try clear hfz13_0
       try clear hfz13_1
       try clear hx359_0
       try clear p2
       try clear p359
       try clear q359
       obtain⟨x8_2,x353000_2,x353001_2,x356000_2,x356001_2,rfl,HA,HK2,HO_14,BK352,BK353,BK354,BK355,HB⟩:=hrel
       cases gk with
       | zero=>exact absurd HA.out (by simp[impl_element_times.l1])
       | succ k2=>
        have H:=HA.out
        clear HA
        simp only[impl_element_times.l1] at H
        by_cases c20:x8_2 ≥ 0
        ·rw[if_pos c20] at H
         have c20b0:decide (0≤x8_2)=true:=decide_eq_true c20
         clear c20
         by_cases c21:0≤x8_2
         ·rw[if_pos c21] at H
          have c21b0:=eq_true c21
          have c21b1:decide (0≤x8_2)=true:=decide_eq_true c21
          clear c21
          obtain⟨ji22,hji22⟩:∃ j_:Int,(shr .u64 (rd y356 x16_1) x8_2)=j_:=⟨_,rfl⟩
          replace H:(if (Int.tmod (ji22) 2)=1 then ((impl_element_plus.f x356000_2 x356001_2 x353000_2 x353001_2).bind fun bt360=>((impl_element_shifted.f x353000_2 x353001_2).bind fun bt362=>(impl_element_times.l1 k2 (rd y356 x16_1) (wrap64 (x8_2 - 1)) y356 (y356.length:Int) x16_1 bt362.1 bt362.2 bt360.1 bt360.2))) else ((impl_element_shifted.f x353000_2 x353001_2).bind fun bt364=>(impl_element_times.l1 k2 (rd y356 x16_1) (wrap64 (x8_2 - 1)) y356 (y356.length:Int) x16_1 bt364.1 bt364.2 x356000_2 x356001_2)))=some (r1,r2):=by first|(rw[hji22] at H;exact H)|(simp only[hji22] at H ⊢;exact H)
          have hji22_:((rd y356 x16_1) / 2 ^ min x8_2.toNat 64)=ji22:=hji22
          have hji22z:x8_2≤64→((rd y356 x16_1) / 2 ^ x8_2.toNat)=ji22:=shr_small hji22
          by_cases c23:(Int.tmod (ji22) 2)=1
          ·rw[if_pos c23] at H
           have c23b0:((Int.tmod (ji22) 2) == 1)=true:=beq_iff_eq.mpr c23
           have c23b1:((Int.tmod (ji22) 2) != 1)=false:=bne_eq_false_iff_eq.mpr c23
           clear c23
           replace H:=Option.bind_eq_some_iff.mp H
           obtain⟨⟨t360,t361⟩,A240,H⟩:=H
           replace H:((impl_element_shifted.f x353000_2 x353001_2).bind fun bt362=>(impl_element_times.l1 k2 (rd y356 x16_1) (wrap64 (x8_2 - 1)) y356 (y356.length:Int) x16_1 bt362.1 bt362.2 t360 t361))=some (r1,r2):=H
           have A24:=zM A240
           clear A240
           replace H:=Option.bind_eq_some_iff.mp H
           obtain⟨⟨t362,t363⟩,A250,H⟩:=H
           replace H:(impl_element_times.l1 k2 (rd y356 x16_1) (wrap64 (x8_2 - 1)) y356 (y356.length:Int) x16_1 t362 t363 t360 t361)=some (r1,r2):=H
           have A25:=zM A250
           clear A250
           have H':=zM H
           clear H
           have hnb26:=NB355_352.out
           have hnc26:=NB352_355.out
           have hnb27:=NB355_353.out
           have hnc27:=NB353_355.out
           have hnb28:=NB355_354.out
           have hnc28:=NB354_355.out
           have hcz29_0:wr.cell? ⟨gb355,0,none⟩=some (.int .u64 x356000_2):=(blk_cell BK355.out 0).trans rfl
           have hcz29_1:wr.cell? ⟨gb355,1,none⟩=some (.int .u64 x356001_2):=(blk_cell BK355.out 1).trans rfl
           have hfz29_0:=blk_frozen BK355.out 0
           have hfz29_1:=blk_frozen BK355.out 1
           have hnb30:=NB352_353.out
           have hnc30:=NB353_352.out
           have hnb31:=NB352_354.out
           have hnc31:=NB354_352.out
           have hcz32_0:wr.cell? ⟨gb352,0,none⟩=some (.int .u64 x353000_2):=(blk_cell BK352.out 0).trans rfl
           have hcz32_1:wr.cell? ⟨gb352,1,none⟩=some (.int .u64 x353001_2):=(blk_cell BK352.out 1).trans rfl
           have hfz32_0:=blk_frozen BK352.out 0
           have hfz32_1:=blk_frozen BK352.out 1
           go_wp2_with (first|((with_reducible refine gate_callee (f:=87) rfl ?_);refine goesL_ (some 31) rfl rfl Try.func87 (by kernel_rfl) rfl #[.agg #[.int .u64 x356000_2,.int .u64 x356001_2],.agg #[.int .u64 x353000_2,.int .u64 x353001_2]] rfl zq1 ?_;(with_reducible refine(impl_element_plus.calls x356000_2 x356001_2 x353000_2 x353001_2 t360 t361 _ A24.out).mono ?_);rintro e w33 ⟨rfl,hb⟩;refine⟨_,rfl,?_⟩;have n0_:=zM (Kd.R_below zq181 hb);have n1_:=zM (blk_below (g:=gb352) (o:=.cells #[.int .u64 x353000_2,.int .u64 x353001_2] 111 (0,0)) zq39 hb);have n2_:=zM (blk_below (g:=gb353) (o:=.cells #[.int .u64 a1_0,.int .u64 a1_1] 111 (0,0)) zq53 hb);have n3_:=zM (blk_below (g:=gb354) (o:=.cells #[.int .u64 0,.int .u64 0] 111 (0,0)) zq81 hb);have n4_:=zM (blk_below (g:=gb355) (o:=.cells #[.int .u64 x356000_2,.int .u64 x356001_2] 111 (0,0)) zq131 hb);have n5_:=zM (below_step zq34 hb);clear HO_14;clear BK352;clear BK353;clear BK354;clear BK355;clear HB;have HO_14:=n0_;have BK352:=n1_;have BK353:=n2_;have BK354:=n3_;have BK355:=n4_;have HB:=n5_;clear n0_ n1_ n2_ n3_ n4_ n5_;(try clear hb);(try clear hb2);(try clear hk);(try clear hi);have hcz34_0:w33.cell? ⟨gb355,0,none⟩=some (.int .u64 x356000_2):=(blk_cell BK355.out 0).trans rfl;have hcz34_1:w33.cell? ⟨gb355,1,none⟩=some (.int .u64 x356001_2):=(blk_cell BK355.out 1).trans rfl;have hfz34_0:=blk_frozen BK355.out 0;have hfz34_1:=blk_frozen BK355.out 1;have hcz35_0:w33.cell? ⟨gb352,0,none⟩=some (.int .u64 x353000_2):=(blk_cell BK352.out 0).trans rfl;have hcz35_1:w33.cell? ⟨gb352,1,none⟩=some (.int .u64 x353001_2):=(blk_cell BK352.out 1).trans rfl;have hfz35_0:=blk_frozen BK352.out 0;have hfz35_1:=blk_frozen BK352.out 1)|((with_reducible refine gate_callee (f:=92) rfl ?_);refine goesL_ (some 33) rfl rfl Try.func92 (by kernel_rfl) rfl #[.agg #[.int .u64 x353000_2,.int .u64 x353001_2]] rfl zq1 ?_;(with_reducible refine(impl_element_shifted.calls x353000_2 x353001_2 t362 t363 _ A25.out).mono ?_);rintro e w36 ⟨rfl,hb⟩;refine⟨_,rfl,?_⟩;have n0_:=zM (Kd.R_below (by(with_reducible repeat (first|apply Kd.R_alloc|apply Kd.R_drewN|apply Kd.R_drew));exact(Kd.R_mono (Kd.R_far (p:=⟨gb355,1,none⟩) (Kd.R_far (p:=⟨gb355,0,none⟩) (Kd.R_types HO_14.out BK355.out zq36) (fun _ hk=>hk.2) (.int .u64 t360)) (fun _ hk=>hk.2) (.int .u64 t361)) (fun _ h_=>h_.1))) hb);have n1_:=zM (blk_below (g:=gb352) (o:=.cells #[.int .u64 x353000_2,.int .u64 x353001_2] 111 (0,0)) zq95 hb);have n2_:=zM (blk_below (g:=gb353) (o:=.cells #[.int .u64 a1_0,.int .u64 a1_1] 111 (0,0)) zq96 hb);have n3_:=zM (blk_below (g:=gb354) (o:=.cells #[.int .u64 0,.int .u64 0] 111 (0,0)) zq97 hb);have n4_:=zM (blk_below (g:=gb355) (o:=.cells #[.int .u64 t360,.int .u64 t361] 111 (0,0)) (by(with_reducible repeat (first|refine blk_drewN ?_ _|refine blk_drew ?_|refine blk_alloc ?_ _));refine blk_put (cs:=#[.int .u64 t360,.int .u64 x356001_2]) ?_ 1 _ rfl;(with_reducible repeat (first|refine blk_drewN ?_ _|refine blk_drew ?_|refine blk_alloc ?_ _));refine blk_put (cs:=#[.int .u64 x356000_2,.int .u64 x356001_2]) ?_ 0 _ rfl;(with_reducible repeat (first|refine blk_drewN ?_ _|refine blk_drew ?_|refine blk_alloc ?_ _));exact BK355.out) hb);have n5_:=zM (below_step zq34 hb);clear HO_14;clear BK352;clear BK353;clear BK354;clear BK355;clear HB;have HO_14:=n0_;have BK352:=n1_;have BK353:=n2_;have BK354:=n3_;have BK355:=n4_;have HB:=n5_;clear n0_ n1_ n2_ n3_ n4_ n5_;(try clear hb);(try clear hb2);(try clear hk);(try clear hi);have hcz37_0:w36.cell? ⟨gb352,0,none⟩=some (.int .u64 x353000_2):=(blk_cell BK352.out 0).trans rfl;have hcz37_1:w36.cell? ⟨gb352,1,none⟩=some (.int .u64 x353001_2):=(blk_cell BK352.out 1).trans rfl;have hfz37_0:=blk_frozen BK352.out 0;have hfz37_1:=blk_frozen BK352.out 1))
           go_roundg k2
           case measure=>have:=HK1.out;have:=HK2.out;omega
           case rel=>exact⟨(wrap64 (x8_2 - 1)),(t362),(t363),(t360),(t361),zq7,H',⟨zq132⟩,⟨by(with_reducible repeat (first|apply Kd.R_alloc|apply Kd.R_drewN|apply Kd.R_drew));exact Kd.R_mono (Kd.R_far (p:=⟨gb352,1,none⟩) (Kd.R_far (p:=⟨gb352,0,none⟩) (Kd.R_types HO_14.out BK352.out zq36) (fun _ hk=>hk.2) (.int .u64 t362)) (fun _ hk=>hk.2) (.int .u64 t363)) (fun _ hk=>trivial)⟩,⟨by(with_reducible repeat (first|refine blk_drewN ?_ _|refine blk_drew ?_|refine blk_alloc ?_ _));refine blk_put (cs:=#[.int .u64 t362,.int .u64 x353001_2]) ?_ 1 _ rfl;(with_reducible repeat (first|refine blk_drewN ?_ _|refine blk_drew ?_|refine blk_alloc ?_ _));refine blk_put (cs:=#[.int .u64 x353000_2,.int .u64 x353001_2]) ?_ 0 _ rfl;(with_reducible repeat (first|refine blk_drewN ?_ _|refine blk_drew ?_|refine blk_alloc ?_ _));exact BK352.out⟩,⟨zq101⟩,⟨zq102⟩,⟨zq103⟩,⟨zq34⟩⟩
          ·rw[if_neg c23] at H
           have c23b0:((Int.tmod (ji22) 2) == 1)=false:=beq_eq_false_iff_ne.mpr c23
           have c23b1:((Int.tmod (ji22) 2) != 1)=true:=bne_iff_ne.mpr c23
           replace H:=Option.bind_eq_some_iff.mp H
           obtain⟨⟨t364,t365⟩,A380,H⟩:=H
           replace H:(impl_element_times.l1 k2 (rd y356 x16_1) (wrap64 (x8_2 - 1)) y356 (y356.length:Int) x16_1 t364 t365 x356000_2 x356001_2)=some (r1,r2):=H
           have A38:=zM A380
           clear A380
           have H':=zM H
           clear H
           have hnb39:=NB352_353.out
           have hnc39:=NB353_352.out
           have hnb40:=NB352_354.out
           have hnc40:=NB354_352.out
           have hnb41:=NB352_355.out
           have hnc41:=NB355_352.out
           have hcz42_0:wr.cell? ⟨gb352,0,none⟩=some (.int .u64 x353000_2):=(blk_cell BK352.out 0).trans rfl
           have hcz42_1:wr.cell? ⟨gb352,1,none⟩=some (.int .u64 x353001_2):=(blk_cell BK352.out 1).trans rfl
           have hfz42_0:=blk_frozen BK352.out 0
           have hfz42_1:=blk_frozen BK352.out 1
           go_wp2_with (first|((with_reducible refine gate_callee (f:=92) rfl ?_);refine goesL_ (some 33) rfl rfl Try.func92 (by kernel_rfl) rfl #[.agg #[.int .u64 x353000_2,.int .u64 x353001_2]] rfl zq1 ?_;(with_reducible refine(impl_element_shifted.calls x353000_2 x353001_2 t364 t365 _ A38.out).mono ?_);rintro e w43 ⟨rfl,hb⟩;refine⟨_,rfl,?_⟩;have n0_:=zM (Kd.R_below zq181 hb);have n1_:=zM (blk_below (g:=gb352) (o:=.cells #[.int .u64 x353000_2,.int .u64 x353001_2] 111 (0,0)) zq39 hb);have n2_:=zM (blk_below (g:=gb353) (o:=.cells #[.int .u64 a1_0,.int .u64 a1_1] 111 (0,0)) zq53 hb);have n3_:=zM (blk_below (g:=gb354) (o:=.cells #[.int .u64 0,.int .u64 0] 111 (0,0)) zq81 hb);have n4_:=zM (blk_below (g:=gb355) (o:=.cells #[.int .u64 x356000_2,.int .u64 x356001_2] 111 (0,0)) zq131 hb);have n5_:=zM (below_step zq34 hb);clear HO_14;clear BK352;clear BK353;clear BK354;clear BK355;clear HB;have HO_14:=n0_;have BK352:=n1_;have BK353:=n2_;have BK354:=n3_;have BK355:=n4_;have HB:=n5_;clear n0_ n1_ n2_ n3_ n4_ n5_;(try clear hb);(try clear hb2);(try clear hk);(try clear hi);have hcz44_0:w43.cell? ⟨gb352,0,none⟩=some (.int .u64 x353000_2):=(blk_cell BK352.out 0).trans rfl;have hcz44_1:w43.cell? ⟨gb352,1,none⟩=some (.int .u64 x353001_2):=(blk_cell BK352.out 1).trans rfl;have hfz44_0:=blk_frozen BK352.out 0;have hfz44_1:=blk_frozen BK352.out 1))
           go_roundg k2
           case measure=>have:=HK1.out;have:=HK2.out;omega
           case rel=>exact⟨(wrap64 (x8_2 - 1)),(t364),(t365),(x356000_2),(x356001_2),zq7,H',⟨zq132⟩,⟨by(with_reducible repeat (first|apply Kd.R_alloc|apply Kd.R_drewN|apply Kd.R_drew));exact Kd.R_mono (Kd.R_far (p:=⟨gb352,1,none⟩) (Kd.R_far (p:=⟨gb352,0,none⟩) (Kd.R_types HO_14.out BK352.out zq36) (fun _ hk=>hk.2) (.int .u64 t364)) (fun _ hk=>hk.2) (.int .u64 t365)) (fun _ hk=>trivial)⟩,⟨by(with_reducible repeat (first|refine blk_drewN ?_ _|refine blk_drew ?_|refine blk_alloc ?_ _));refine blk_put (cs:=#[.int .u64 t364,.int .u64 x353001_2]) ?_ 1 _ rfl;(with_reducible repeat (first|refine blk_drewN ?_ _|refine blk_drew ?_|refine blk_alloc ?_ _));refine blk_put (cs:=#[.int .u64 x353000_2,.int .u64 x353001_2]) ?_ 0 _ rfl;(with_reducible repeat (first|refine blk_drewN ?_ _|refine blk_drew ?_|refine blk_alloc ?_ _));exact BK352.out⟩,⟨zq101⟩,⟨zq102⟩,⟨zq103⟩,⟨zq34⟩⟩
         ·rw[if_neg c21] at H
          exact absurd H zq73
        ·rw[if_neg c20] at H
         have c20b0:decide (0≤x8_2)=false:=decide_eq_false c20
         clear c20
         have H':=zM H
         clear H
         go_wp2
         go_roundg k2
         case measure=>have:=HK1.out;have:=HK2.out;omega
         case rel=>exact⟨(wrap64 (x16_1+1)),(x353000_2),(x353001_2),(x356000_2),(x356001_2),zq7,H',⟨zq132⟩,⟨zq181⟩,⟨zq39⟩,⟨zq53⟩,⟨zq81⟩,⟨zq131⟩,⟨zq34⟩⟩
     ·rw[if_neg c19] at H
      exact absurd H zq73
    ·rw[if_neg c18] at H
     exact absurd H zq73
   ·rw[if_neg c17] at H
    have c17b0:decide (x16_1 < (y356.length:Int))=false:=decide_eq_false c17
    clear c17
    simp only[Option.some.injEq,Prod.mk.injEq] at H
    obtain⟨rfl,rfl⟩:=H
    have hnb45:=NB355_352.out
    have hnc45:=NB352_355.out
    have hnb46:=NB355_353.out
    have hnc46:=NB353_355.out
    have hnb47:=NB355_354.out
    have hnc47:=NB354_355.out
    have hcz48_0:wr.cell? ⟨gb355,0,none⟩=some (.int .u64 x356000_1):=(blk_cell BK355.out 0).trans rfl
    have hcz48_1:wr.cell? ⟨gb355,1,none⟩=some (.int .u64 x356001_1):=(blk_cell BK355.out 1).trans rfl
    have hfz48_0:=blk_frozen BK355.out 0
    have hfz48_1:=blk_frozen BK355.out 1
    have hnb49:=NB354_352.out
    have hnc49:=NB352_354.out
    have hnb50:=NB354_353.out
    have hnc50:=NB353_354.out
    have hcz51_0:wr.cell? ⟨gb354,0,none⟩=some (.int .u64 0):=(blk_cell BK354.out 0).trans rfl
    have hcz51_1:wr.cell? ⟨gb354,1,none⟩=some (.int .u64 0):=(blk_cell BK354.out 1).trans rfl
    have hfz51_0:=blk_frozen BK354.out 0
    have hfz51_1:=blk_frozen BK354.out 1
    go_wp2
    refine bodyPost_ret (results_cell_row rfl _ _ gb354 111 #[.int .u64 x356000_1,.int .u64 x356001_1] (0,0) _ rfl (by(with_reducible repeat (first|refine blk_drewN ?_ _|refine blk_drew ?_|refine blk_alloc ?_ _));refine blk_put (cs:=#[.int .u64 x356000_1,.int .u64 0]) ?_ 1 _ rfl;(with_reducible repeat (first|refine blk_drewN ?_ _|refine blk_drew ?_|refine blk_alloc ?_ _));refine blk_put (cs:=#[.int .u64 0,.int .u64 0]) ?_ 0 _ rfl;(with_reducible repeat (first|refine blk_drewN ?_ _|refine blk_drew ?_|refine blk_alloc ?_ _));exact BK354.out) Try.underlying111 rfl (by kernel_rfl)) rfl ?_
    exact⟨zq3,zq34⟩
end Go.Proofs.Ytdbanjdnjhflcaa.All
