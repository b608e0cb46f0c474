-- Laid by wip/shake.py of this repo out of this claim's texts. Not trusted: Lean checks it.
import Derived.Test.YtkjgdndaepobiaaAb0s
import Derived.Test.YtkjgdndaepobiaaAllx0s
import Derived.Test.YtkjgdndaepobiaaAllx98s
import Derived.Test.YtkjgdndaepobiaaAllx120s
namespace Go.Proofs.Ytkjgdndaepobiaa.All
open Go.Proofs.YtkjgdndaepobiaaW.PrintWords.Aside0 renaming mk→zM
open Go.RowKit Go.Proofs.YtkjgdndaepobiaaW.PrintWords Go.Proofs.YtkjgdndaepobiaaW.PrintLast Go.Proofs.YtkjgdndaepobiaaW.PrintMore
attribute [local go_sem] max2_int min2_int max_two min_two max_three min_three max_four min_four
set_option linter.unusedVariables false
set_option linter.unusedSimpArgs false
mutual
def impl_element_times.l0:Nat→List Int→Int→Int→Int→Int→Int→Int→Option (Int × Int)
 | 0,_,_,_,_,_,_,_=>none
 | k+1,x14,x15,x16,x319000,x319001,x322000,x322001=>if x16 < x15 then (if 0≤x16 then (if x16 < (x14.length:Int) then (impl_element_times.l1 k (rd x14 x16) 63 x14 x15 x16 x319000 x319001 x322000 x322001) else (none)) else (none)) else (some (x322000,x322001))
def impl_element_times.l1:Nat→Int→Int→List Int→Int→Int→Int→Int→Int→Int→Option (Int × Int)
 | 0,_,_,_,_,_,_,_,_,_=>none
 | k+1,x7,x8,x14,x15,x16,x319000,x319001,x322000,x322001=>if x8 ≥ 0 then (if 0≤x8 then (if (Int.tmod (shr .u64 x7 x8) 2)=1 then ((impl_element_plus.f x322000 x322001 x319000 x319001).bind fun bt326=>((impl_element_shifted.f x319000 x319001).bind fun bt328=>(impl_element_times.l1 k x7 (wrap64 (x8 - 1)) x14 x15 x16 bt328.1 bt328.2 bt326.1 bt326.2))) else ((impl_element_shifted.f x319000 x319001).bind fun bt330=>(impl_element_times.l1 k x7 (wrap64 (x8 - 1)) x14 x15 x16 bt330.1 bt330.2 x322000 x322001))) else (none)) else (impl_element_times.l0 k x14 x15 (wrap64 (x16+1)) x319000 x319001 x322000 x322001)
end
def impl_element_times.f (k:Nat) (a0_0:Int) (a0_1:Int) (a1_0:Int) (a1_1:Int):Option (Int × Int):=(some (([a1_0,a1_1]:List Int):List Int)).bind fun y322=>(impl_element_times.l0 k y322 (y322.length:Int) 0 a0_0 a0_1 0 0)
theorem impl_element_times.mono_l:∀ k,(∀ y0 y1 y2 y3 y4 y5 y6,LeO (impl_element_times.l0 k y0 y1 y2 y3 y4 y5 y6) (impl_element_times.l0 (k+1) y0 y1 y2 y3 y4 y5 y6))∧(∀ y0 y1 y2 y3 y4 y5 y6 y7 y8,LeO (impl_element_times.l1 k y0 y1 y2 y3 y4 y5 y6 y7 y8) (impl_element_times.l1 (k+1) y0 y1 y2 y3 y4 y5 y6 y7 y8))
 | 0=>⟨fun _ _ _ _ _ _ _ r h=>by simp[impl_element_times.l0] at h,fun _ _ _ _ _ _ _ _ _ r h=>by simp[impl_element_times.l1] at h⟩
 | k+1=>by
  obtain⟨ih0,ih1⟩:=impl_element_times.mono_l k
  refine⟨?_,?_⟩
  ·intro y0 y1 y2 y3 y4 y5 y6
   unfold impl_element_times.l0
   repeat' first
   | (with_reducible exact ih0 _ _ _ _ _ _ _)
   | (with_reducible exact ih1 _ _ _ _ _ _ _ _ _)
   | (with_reducible exact LeO.refl _)
   | (with_reducible exact LeO.none _)
   | (with_reducible refine LeO.ite ?_ ?_)
   | (with_reducible refine LeO.bind ?_ (fun _=>?_))
   | exact ih0 _ _ _ _ _ _ _
   | exact ih1 _ _ _ _ _ _ _ _ _
   | exact LeO.none _
   | refine LeO.ite ?_ ?_
   | refine LeO.bind ?_ (fun _=>?_)
  ·intro y0 y1 y2 y3 y4 y5 y6 y7 y8
   unfold impl_element_times.l1
   repeat' first
   | (with_reducible exact ih0 _ _ _ _ _ _ _)
   | (with_reducible exact ih1 _ _ _ _ _ _ _ _ _)
   | (with_reducible exact LeO.refl _)
   | (with_reducible exact LeO.none _)
   | (with_reducible refine LeO.ite ?_ ?_)
   | (with_reducible refine LeO.bind ?_ (fun _=>?_))
   | exact ih0 _ _ _ _ _ _ _
   | exact ih1 _ _ _ _ _ _ _ _ _
   | exact LeO.none _
   | refine LeO.ite ?_ ?_
   | refine LeO.bind ?_ (fun _=>?_)
theorem impl_element_times.mono:∀ a0 a1 a2 a3 k,LeO (impl_element_times.f k a0 a1 a2 a3) (impl_element_times.f (k+1) a0 a1 a2 a3):=by
 intro a0 a1 a2 a3 k
 obtain⟨ih0,ih1⟩:=impl_element_times.mono_l k
 unfold impl_element_times.f
 repeat' first
   | (with_reducible exact ih0 _ _ _ _ _ _ _)
   | (with_reducible exact ih1 _ _ _ _ _ _ _ _ _)
   | (with_reducible exact LeO.refl _)
   | (with_reducible exact LeO.none _)
   | (with_reducible refine LeO.ite ?_ ?_)
   | (with_reducible refine LeO.bind ?_ (fun _=>?_))
   | exact ih0 _ _ _ _ _ _ _
   | exact ih1 _ _ _ _ _ _ _ _ _
   | exact LeO.none _
   | refine LeO.ite ?_ ?_
   | refine LeO.bind ?_ (fun _=>?_)
set_option maxHeartbeats 8000000 in
set_option maxRecDepth 100000 in
theorem impl_element_times.calls (k:Nat) (a0_0:Int) (a0_1:Int) (a1_0:Int) (a1_1:Int) (r1:Int) (r2:Int) (w:World) (h:impl_element_times.f k a0_0 a0_1 a1_0 a1_1=some (r1,r2)) :
  Calls Try.prog 76 #[.agg #[.int .u64 a0_0,.int .u64 a0_1],.agg #[.int .u64 a1_0,.int .u64 a1_1]] w fun e w'=>e=.returned (.agg #[.int .u64 r1,.int .u64 r2])∧Below w.heap.size w w':=by
 have hu87:=Try.underlying87
 have HB:=zM (Below.refl w.heap.size w)
 have H:((some (([a1_0,a1_1]:List Int):List Int)).bind fun y322=>(impl_element_times.l0 k y322 (y322.length:Int) 0 a0_0 a0_1 0 0))=some (r1,r2):=h
 clear h
 obtain⟨y322,hy322⟩:∃ y_:List Int,y_=(([a1_0,a1_1]:List Int)):=⟨_,rfl⟩
 replace H:(impl_element_times.l0 k y322 (y322.length:Int) 0 a0_0 a0_1 0 0)=some (r1,r2):=by first|(rw[hy322];with_reducible exact H)|(have H2_:=(Option.bind_some _ _).symm.trans H;rw[hy322];with_reducible exact H2_)|(have H2_:=(Option.bind_some _ _).symm.trans H;with_reducible exact H2_)|with_reducible exact H|(rw[hy322];exact H)|exact H
 have Ny322:=zM hy322
 clear hy322
 have H':=zM H
 clear H
 go_enter Try.func76,Try.ntmps76
 go_wp2_with (first|((with_reducible refine gate_dst (N:=2) rfl ?_);refine box_event ?hg (N:=2) ?hd (cs:=#[.int .u64 a0_0,.int .u64 a0_1]) (t:=87) ?hr ?_;(case hd=>rfl);(case hg=>rfl);(case hr=>first|(go_simp;done)|(go_simp;rfl));intro gb318 hg w3 hbox hb;have n0_:=zM (below_step zq0 hb);have n1_:=zM (hbox);have n2_:=zM ((by rw[hg];exact(below_size zq0):w.heap.size≤gb318));have n3_:=zM ((by rw[hg];exact(below_size zq0):w.heap.size≤gb318));clear HB;have HB:=n0_;have BK318:=n1_;have GW318:=n2_;have GE318:=n3_;clear n0_ n1_ n2_ n3_;clear hb hbox hg)|((with_reducible refine gate_dst (N:=3) rfl ?_);refine box_event ?hg (N:=3) ?hd (cs:=#[.int .u64 a1_0,.int .u64 a1_1]) (t:=87) ?hr ?_;(case hd=>rfl);(case hg=>rfl);(case hr=>first|(go_simp;done)|(go_simp;rfl));intro gb319 hg w4 hbox hb;have n0_:=zM (blk_below (g:=gb318) (o:=.cells #[.int .u64 a0_0,.int .u64 a0_1] 87 (0,0)) zq44 hb);have n1_:=zM (below_step zq155 hb);have n2_:=zM (hbox);have n3_:=zM ((by rw[hg];exact(below_size zq155):w.heap.size≤gb319));have n4_:=zM ((by rw[hg];exact(below_size zq155):w.heap.size≤gb319));have n5_:=zM ((by rw[hg];exact Nat.ne_of_lt (blk_lt (g:=gb318) (o:=.cells #[.int .u64 a0_0,.int .u64 a0_1] 87 (0,0)) zq44):gb318≠gb319));have n6_:=zM ((by rw[hg];exact Nat.ne_of_gt (blk_lt (g:=gb318) (o:=.cells #[.int .u64 a0_0,.int .u64 a0_1] 87 (0,0)) zq44):gb319≠gb318));clear BK318;clear HB;have BK318:=n0_;have HB:=n1_;have BK319:=n2_;have GW319:=n3_;have GE319:=n4_;have NB318_319:=n5_;have NB319_318:=n6_;clear n0_ n1_ n2_ n3_ n4_ n5_ n6_;clear hb hbox hg)|((with_reducible refine gate_dst (N:=4) rfl ?_);refine box_event ?hg (N:=4) ?hd (cs:=#[.int .u64 0,.int .u64 0]) (t:=87) ?hr ?_;(case hd=>rfl);(case hg=>rfl);(case hr=>first|(go_simp;done)|(go_simp;rfl));intro gb320 hg w5 hbox hb;have n0_:=zM (blk_below (g:=gb318) (o:=.cells #[.int .u64 a0_0,.int .u64 a0_1] 87 (0,0)) zq44 hb);have n1_:=zM (blk_below (g:=gb319) (o:=.cells #[.int .u64 a1_0,.int .u64 a1_1] 87 (0,0)) zq90 hb);have n2_:=zM (below_step zq140 hb);have n3_:=zM (hbox);have n4_:=zM ((by rw[hg];exact(below_size zq140):w.heap.size≤gb320));have n5_:=zM ((by rw[hg];exact(below_size zq140):w.heap.size≤gb320));have n6_:=zM ((by rw[hg];exact Nat.ne_of_lt (blk_lt (g:=gb318) (o:=.cells #[.int .u64 a0_0,.int .u64 a0_1] 87 (0,0)) zq44):gb318≠gb320));have n7_:=zM ((by rw[hg];exact Nat.ne_of_gt (blk_lt (g:=gb318) (o:=.cells #[.int .u64 a0_0,.int .u64 a0_1] 87 (0,0)) zq44):gb320≠gb318));have n8_:=zM ((by rw[hg];exact Nat.ne_of_lt (blk_lt (g:=gb319) (o:=.cells #[.int .u64 a1_0,.int .u64 a1_1] 87 (0,0)) zq90):gb319≠gb320));have n9_:=zM ((by rw[hg];exact Nat.ne_of_gt (blk_lt (g:=gb319) (o:=.cells #[.int .u64 a1_0,.int .u64 a1_1] 87 (0,0)) zq90):gb320≠gb319));clear BK318;clear BK319;clear HB;have BK318:=n0_;have BK319:=n1_;have HB:=n2_;have BK320:=n3_;have GW320:=n4_;have GE320:=n5_;have NB318_320:=n6_;have NB320_318:=n7_;have NB319_320:=n8_;have NB320_319:=n9_;clear n0_ n1_ n2_ n3_ n4_ n5_ n6_ n7_ n8_ n9_;clear hb hbox hg)|((with_reducible refine gate_dst (N:=5) rfl ?_);refine box_event ?hg (N:=5) ?hd (cs:=#[.int .u64 0,.int .u64 0]) (t:=87) ?hr ?_;(case hd=>rfl);(case hg=>rfl);(case hr=>first|(go_simp;done)|(go_simp;rfl));intro gb321 hg w6 hbox hb;have n0_:=zM (blk_below (g:=gb318) (o:=.cells #[.int .u64 a0_0,.int .u64 a0_1] 87 (0,0)) zq44 hb);have n1_:=zM (blk_below (g:=gb319) (o:=.cells #[.int .u64 a1_0,.int .u64 a1_1] 87 (0,0)) zq90 hb);have n2_:=zM (blk_below (g:=gb320) (o:=.cells #[.int .u64 0,.int .u64 0] 87 (0,0)) zq122 hb);have n3_:=zM (below_step zq124 hb);have n4_:=zM (hbox);have n5_:=zM ((by rw[hg];exact(below_size zq124):w.heap.size≤gb321));have n6_:=zM ((by rw[hg];exact(below_size zq124):w.heap.size≤gb321));have n7_:=zM ((by rw[hg];exact Nat.ne_of_lt (blk_lt (g:=gb318) (o:=.cells #[.int .u64 a0_0,.int .u64 a0_1] 87 (0,0)) zq44):gb318≠gb321));have n8_:=zM ((by rw[hg];exact Nat.ne_of_gt (blk_lt (g:=gb318) (o:=.cells #[.int .u64 a0_0,.int .u64 a0_1] 87 (0,0)) zq44):gb321≠gb318));have n9_:=zM ((by rw[hg];exact Nat.ne_of_lt (blk_lt (g:=gb319) (o:=.cells #[.int .u64 a1_0,.int .u64 a1_1] 87 (0,0)) zq90):gb319≠gb321));have n10_:=zM ((by rw[hg];exact Nat.ne_of_gt (blk_lt (g:=gb319) (o:=.cells #[.int .u64 a1_0,.int .u64 a1_1] 87 (0,0)) zq90):gb321≠gb319));have n11_:=zM ((by rw[hg];exact Nat.ne_of_lt (blk_lt (g:=gb320) (o:=.cells #[.int .u64 0,.int .u64 0] 87 (0,0)) zq122):gb320≠gb321));have n12_:=zM ((by rw[hg];exact Nat.ne_of_gt (blk_lt (g:=gb320) (o:=.cells #[.int .u64 0,.int .u64 0] 87 (0,0)) zq122):gb321≠gb320));clear BK318;clear BK319;clear BK320;clear HB;have BK318:=n0_;have BK319:=n1_;have BK320:=n2_;have HB:=n3_;have BK321:=n4_;have GW321:=n5_;have GE321:=n6_;have NB318_321:=n7_;have NB321_318:=n8_;have NB319_321:=n9_;have NB321_319:=n10_;have NB320_321:=n11_;have NB321_320:=n12_;clear n0_ n1_ n2_ n3_ n4_ n5_ n6_ n7_ n8_ n9_ n10_ n11_ n12_;clear hb hbox hg;have hnb7:=NB321_318.out;have hnc7:=NB318_321.out;have hnb8:=NB321_319.out;have hnc8:=NB319_321.out;have hnb9:=NB321_320.out;have hnc9:=NB320_321.out;have hcz10_0:w6.cell? ⟨gb321,0,none⟩=some (.int .u64 0):=(blk_cell BK321.out 0).trans rfl;have hcz10_1:w6.cell? ⟨gb321,1,none⟩=some (.int .u64 0):=(blk_cell BK321.out 1).trans rfl;have hfz10_0:=blk_frozen BK321.out 0;have hfz10_1:=blk_frozen BK321.out 1;have hnb11:=NB319_318.out;have hnc11:=NB318_319.out;have hnb12:=NB319_320.out;have hnc12:=NB320_319.out;have hcz13_0:w6.cell? ⟨gb319,0,none⟩=some (.int .u64 a1_0):=(blk_cell BK319.out 0).trans rfl;have hcz13_1:w6.cell? ⟨gb319,1,none⟩=some (.int .u64 a1_1):=(blk_cell BK319.out 1).trans rfl;have hfz13_0:=blk_frozen BK319.out 0;have hfz13_1:=blk_frozen BK319.out 1)|((with_reducible refine gate_dst (N:=14) rfl ?_);refine Kd.R_lit (Kd.int .u64) _ 85 ?hg (N:=14) ?hd (xs:=([a1_0,a1_1]:List Int)) (inner:=[.int .u64 a1_0,.int .u64 a1_1]) (ok:=fun _=>True) (okp:=fun _=>True) ?hr ?hp (fun _ hk=>hk) trivial (Below.refl _ _) (Nat.le_refl _) zq101 ?_;(case hd=>rfl);(case hg=>rfl);(case hr=>first|(go_simp;done)|(go_simp;rfl));(case hp=>exact(Reps.one (show Kd.M (Kd.int .u64) _ _ _ a1_0 [.int .u64 a1_0] from rfl) (Reps.one (show Kd.M (Kd.int .u64) _ _ _ a1_1 [.int .u64 a1_1] from rfl) (Reps.none _ _))));intro v323 w14 ho15 hb hg_ hnew_;clear hg_ hnew_;(first|rw[← Ny322.out] at ho15|(simp only[Int.reduceToNat] at ho15;rw[← Ny322.out] at ho15));have n0_:=zM (Kd.R_lower ho15 (below_size zq41));have n1_:=zM (blk_below (g:=gb318) (o:=.cells #[.int .u64 a0_0,.int .u64 a0_1] 87 (0,0)) zq141 hb);have n2_:=zM (blk_below (g:=gb319) (o:=.cells #[.int .u64 a1_0,.int .u64 a1_1] 87 (0,0)) zq142 hb);have n3_:=zM (blk_below (g:=gb320) (o:=.cells #[.int .u64 0,.int .u64 0] 87 (0,0)) zq143 hb);have n4_:=zM (blk_below (g:=gb321) (o:=.cells #[.int .u64 0,.int .u64 0] 87 (0,0)) (by(with_reducible repeat (first|refine blk_drewN ?_ _|refine blk_drew ?_|refine blk_alloc ?_ _));refine blk_put (cs:=#[.int .u64 0,.int .u64 0]) ?_ 1 _ rfl;(with_reducible repeat (first|refine blk_drewN ?_ _|refine blk_drew ?_|refine blk_alloc ?_ _));refine blk_put (cs:=#[.int .u64 0,.int .u64 0]) ?_ 0 _ rfl;(with_reducible repeat (first|refine blk_drewN ?_ _|refine blk_drew ?_|refine blk_alloc ?_ _));exact BK321.out) hb);have n5_:=zM (below_step zq41 hb);clear BK318;clear BK319;clear BK320;clear BK321;clear HB;have HO324:=n0_;have BK318:=n1_;have BK319:=n2_;have BK320:=n3_;have BK321:=n4_;have HB:=n5_;clear n0_ n1_ n2_ n3_ n4_ n5_;clear hb ho15;obtain⟨Ao16,co16,eo16⟩:=Kd.R_slice HO324.out;subst eo16))
 go_loopg [16] k (fun kq v16 w'=>∃ (x16_1:Int) (x319000_1:Int) (x319001_1:Int) (x322000_1:Int) (x322001_1:Int),v16=.int .i64 x16_1∧Aside0 (impl_element_times.l0 kq y322 (y322.length:Int) x16_1 x319000_1 x319001_1 x322000_1 x322001_1=some (r1,r2))∧Aside0 (kq≤k)∧Aside0 (Kd.R (Kd.int .u64) 85 w' w.heap.size (fun _=>True) (.slice Ao16 y322.length co16) y322)∧Aside0 (w'.heap[gb318]?=some (.cells #[.int .u64 x319000_1,.int .u64 x319001_1] 87 (0,0)))∧Aside0 (w'.heap[gb319]?=some (.cells #[.int .u64 a1_0,.int .u64 a1_1] 87 (0,0)))∧Aside0 (w'.heap[gb320]?=some (.cells #[.int .u64 0,.int .u64 0] 87 (0,0)))∧Aside0 (w'.heap[gb321]?=some (.cells #[.int .u64 x322000_1,.int .u64 x322001_1] 87 (0,0)))∧Aside0 (Below w.heap.size w w'))
 case atStart=>exact⟨(0),(a0_0),(a0_1),(0),(0),zq8,H',⟨Nat.le_refl _⟩,⟨by(with_reducible repeat (first|apply Kd.R_alloc|apply Kd.R_drewN|apply Kd.R_drew));exact HO324.out⟩,⟨zq44⟩,⟨zq90⟩,⟨zq122⟩,⟨zq180⟩,⟨zq41⟩⟩
 case round=>
  clear H'
  try clear c1
  try clear p2
  try clear c7
  try clear c8
  try clear c9
  try clear c11
  try clear c12
  try clear hcz10_0
  try clear hcz10_1
  try clear hcz13_0
  try clear hcz13_1
  try clear hfz10_0
  try clear hfz10_1
  try clear hfz13_0
  try clear hfz13_1
  obtain⟨x16_1,x319000_1,x319001_1,x322000_1,x322001_1,rfl,HA,HK1,HO_14,BK318,BK319,BK320,BK321,HB⟩:=hrel
  cases gk with
  | zero=>exact absurd HA.out (by simp[impl_element_times.l0])
  | succ k1=>
   have H:=HA.out
   clear HA
   simp only[impl_element_times.l0] at H
   by_cases c17:x16_1 < (y322.length:Int)
   ·rw[if_pos c17] at H
    have c17b0:decide (x16_1 < (y322.length:Int))=true:=decide_eq_true c17
    clear c17
    by_cases c18:0≤x16_1
    ·rw[if_pos c18] at H
     have c18b0:decide (0≤x16_1)=true:=decide_eq_true c18
     clear c18
     by_cases c19:x16_1 < (y322.length:Int)
     ·rw[if_pos c19] at H
      have c19b0:decide (x16_1 < (y322.length:Int))=true:=decide_eq_true c19
      clear c19
      have H':=zM H
      clear H
      have p325:0≤(x16_1:Int):=of_decide_eq_true zq7
      have q325:x16_1 < (y322.length:Int):=of_decide_eq_true zq7
      obtain⟨ad325,e325,hx325_0⟩:=Kd.at_int (Kd.R_reads' HO_14.out).2.2 x16_1 p325 q325
      cases e325
      replace p325:=eq_true p325
      replace q325:=eq_true q325
      go_wp2
      go_loopg [8] k1 (fun kq v8 w'=>∃ (x8_2:Int) (x319000_2:Int) (x319001_2:Int) (x322000_2:Int) (x322001_2:Int),v8=.int .i64 x8_2∧Aside0 (impl_element_times.l1 kq (rd y322 x16_1) x8_2 y322 (y322.length:Int) x16_1 x319000_2 x319001_2 x322000_2 x322001_2=some (r1,r2))∧Aside0 (kq≤k1)∧Aside0 (Kd.R (Kd.int .u64) 85 w' w.heap.size (fun _=>True) (.slice (some ad325) y322.length co16) y322)∧Aside0 (w'.heap[gb318]?=some (.cells #[.int .u64 x319000_2,.int .u64 x319001_2] 87 (0,0)))∧Aside0 (w'.heap[gb319]?=some (.cells #[.int .u64 a1_0,.int .u64 a1_1] 87 (0,0)))∧Aside0 (w'.heap[gb320]?=some (.cells #[.int .u64 0,.int .u64 0] 87 (0,0)))∧Aside0 (w'.heap[gb321]?=some (.cells #[.int .u64 x322000_2,.int .u64 x322001_2] 87 (0,0)))∧Aside0 (Below w.heap.size w w'))
      case atStart=>exact⟨(63),(x319000_1),(x319001_1),(x322000_1),(x322001_1),zq8,H',⟨Nat.le_refl _⟩,⟨by(with_reducible repeat (first|apply Kd.R_alloc|apply Kd.R_drewN|apply Kd.R_drew));exact HO_14.out⟩,⟨zq44⟩,⟨zq90⟩,⟨zq122⟩,⟨zq180⟩,⟨zq41⟩⟩
      case round=>
       clear H'
       try clear c1
       try clear p2
       try clear p3
       try clear q3
       try clear hx3
       try clear c7
       try clear c8
       try clear c9
       try clear c11
       try clear c12
       try clear c17
       try clear c17b0
       try clear c18
       try clear c18b0
       try clear c19
       try clear c19b0
       try clear hcz10_0
       try clear hcz10_1
       try clear hcz13_0
       try clear hcz13_1
       try clear hfz10_0
       try clear hfz10_1
       try clear hfz13_0
       try clear hfz13_1
       try clear hx325_0
       try clear p2
       try clear p325
       try clear q325
       obtain⟨x8_2,x319000_2,x319001_2,x322000_2,x322001_2,rfl,HA,HK2,HO_14,BK318,BK319,BK320,BK321,HB⟩:=hrel
       cases gk with
       | zero=>exact absurd HA.out (by simp[impl_element_times.l1])
       | succ k2=>
        have H:=HA.out
        clear HA
        simp only[impl_element_times.l1] at H
        by_cases c20:x8_2 ≥ 0
        ·rw[if_pos c20] at H
         have c20b0:decide (0≤x8_2)=true:=decide_eq_true c20
         clear c20
         by_cases c21:0≤x8_2
         ·rw[if_pos c21] at H
          have c21b0:=eq_true c21
          have c21b1:decide (0≤x8_2)=true:=decide_eq_true c21
          clear c21
          obtain⟨ji22,hji22⟩:∃ j_:Int,(shr .u64 (rd y322 x16_1) x8_2)=j_:=⟨_,rfl⟩
          replace H:(if (Int.tmod (ji22) 2)=1 then ((impl_element_plus.f x322000_2 x322001_2 x319000_2 x319001_2).bind fun bt326=>((impl_element_shifted.f x319000_2 x319001_2).bind fun bt328=>(impl_element_times.l1 k2 (rd y322 x16_1) (wrap64 (x8_2 - 1)) y322 (y322.length:Int) x16_1 bt328.1 bt328.2 bt326.1 bt326.2))) else ((impl_element_shifted.f x319000_2 x319001_2).bind fun bt330=>(impl_element_times.l1 k2 (rd y322 x16_1) (wrap64 (x8_2 - 1)) y322 (y322.length:Int) x16_1 bt330.1 bt330.2 x322000_2 x322001_2)))=some (r1,r2):=by first|(rw[hji22] at H;exact H)|(simp only[hji22] at H ⊢;exact H)
          have hji22_:((rd y322 x16_1) / 2 ^ min x8_2.toNat 64)=ji22:=hji22
          have hji22z:x8_2≤64→((rd y322 x16_1) / 2 ^ x8_2.toNat)=ji22:=shr_small hji22
          by_cases c23:(Int.tmod (ji22) 2)=1
          ·rw[if_pos c23] at H
           have c23b0:((Int.tmod (ji22) 2) == 1)=true:=beq_iff_eq.mpr c23
           have c23b1:((Int.tmod (ji22) 2) != 1)=false:=bne_eq_false_iff_eq.mpr c23
           clear c23
           replace H:=Option.bind_eq_some_iff.mp H
           obtain⟨⟨t326,t327⟩,A240,H⟩:=H
           replace H:((impl_element_shifted.f x319000_2 x319001_2).bind fun bt328=>(impl_element_times.l1 k2 (rd y322 x16_1) (wrap64 (x8_2 - 1)) y322 (y322.length:Int) x16_1 bt328.1 bt328.2 t326 t327))=some (r1,r2):=H
           have A24:=zM A240
           clear A240
           replace H:=Option.bind_eq_some_iff.mp H
           obtain⟨⟨t328,t329⟩,A250,H⟩:=H
           replace H:(impl_element_times.l1 k2 (rd y322 x16_1) (wrap64 (x8_2 - 1)) y322 (y322.length:Int) x16_1 t328 t329 t326 t327)=some (r1,r2):=H
           have A25:=zM A250
           clear A250
           have H':=zM H
           clear H
           have hnb26:=NB321_318.out
           have hnc26:=NB318_321.out
           have hnb27:=NB321_319.out
           have hnc27:=NB319_321.out
           have hnb28:=NB321_320.out
           have hnc28:=NB320_321.out
           have hcz29_0:wr.cell? ⟨gb321,0,none⟩=some (.int .u64 x322000_2):=(blk_cell BK321.out 0).trans rfl
           have hcz29_1:wr.cell? ⟨gb321,1,none⟩=some (.int .u64 x322001_2):=(blk_cell BK321.out 1).trans rfl
           have hfz29_0:=blk_frozen BK321.out 0
           have hfz29_1:=blk_frozen BK321.out 1
           have hnb30:=NB318_319.out
           have hnc30:=NB319_318.out
           have hnb31:=NB318_320.out
           have hnc31:=NB320_318.out
           have hcz32_0:wr.cell? ⟨gb318,0,none⟩=some (.int .u64 x319000_2):=(blk_cell BK318.out 0).trans rfl
           have hcz32_1:wr.cell? ⟨gb318,1,none⟩=some (.int .u64 x319001_2):=(blk_cell BK318.out 1).trans rfl
           have hfz32_0:=blk_frozen BK318.out 0
           have hfz32_1:=blk_frozen BK318.out 1
           go_wp2_with (first|((with_reducible refine gate_callee (f:=75) rfl ?_);refine goesL_ (some 31) rfl rfl Try.func75 (by kernel_rfl) rfl #[.agg #[.int .u64 x322000_2,.int .u64 x322001_2],.agg #[.int .u64 x319000_2,.int .u64 x319001_2]] rfl zq1 ?_;(with_reducible refine(impl_element_plus.calls x322000_2 x322001_2 x319000_2 x319001_2 t326 t327 _ A24.out).mono ?_);rintro e w33 ⟨rfl,hb⟩;refine⟨_,rfl,?_⟩;have n0_:=zM (Kd.R_below (by(with_reducible repeat (first|apply Kd.R_alloc|apply Kd.R_drewN|apply Kd.R_drew));exact HO_14.out) hb);have n1_:=zM (blk_below (g:=gb318) (o:=.cells #[.int .u64 x319000_2,.int .u64 x319001_2] 87 (0,0)) zq44 hb);have n2_:=zM (blk_below (g:=gb319) (o:=.cells #[.int .u64 a1_0,.int .u64 a1_1] 87 (0,0)) zq90 hb);have n3_:=zM (blk_below (g:=gb320) (o:=.cells #[.int .u64 0,.int .u64 0] 87 (0,0)) zq122 hb);have n4_:=zM (blk_below (g:=gb321) (o:=.cells #[.int .u64 x322000_2,.int .u64 x322001_2] 87 (0,0)) zq180 hb);have n5_:=zM (below_step zq41 hb);clear HO_14;clear BK318;clear BK319;clear BK320;clear BK321;clear HB;have HO_14:=n0_;have BK318:=n1_;have BK319:=n2_;have BK320:=n3_;have BK321:=n4_;have HB:=n5_;clear n0_ n1_ n2_ n3_ n4_ n5_;(try clear hb);(try clear hb2);(try clear hk);(try clear hi);have hcz34_0:w33.cell? ⟨gb321,0,none⟩=some (.int .u64 x322000_2):=(blk_cell BK321.out 0).trans rfl;have hcz34_1:w33.cell? ⟨gb321,1,none⟩=some (.int .u64 x322001_2):=(blk_cell BK321.out 1).trans rfl;have hfz34_0:=blk_frozen BK321.out 0;have hfz34_1:=blk_frozen BK321.out 1;have hcz35_0:w33.cell? ⟨gb318,0,none⟩=some (.int .u64 x319000_2):=(blk_cell BK318.out 0).trans rfl;have hcz35_1:w33.cell? ⟨gb318,1,none⟩=some (.int .u64 x319001_2):=(blk_cell BK318.out 1).trans rfl;have hfz35_0:=blk_frozen BK318.out 0;have hfz35_1:=blk_frozen BK318.out 1)|((with_reducible refine gate_callee (f:=84) rfl ?_);refine goesL_ (some 33) rfl rfl Try.func84 (by kernel_rfl) rfl #[.agg #[.int .u64 x319000_2,.int .u64 x319001_2]] rfl zq1 ?_;(with_reducible refine(impl_element_shifted.calls x319000_2 x319001_2 t328 t329 _ A25.out).mono ?_);rintro e w36 ⟨rfl,hb⟩;refine⟨_,rfl,?_⟩;have n0_:=zM (Kd.R_below (by(with_reducible repeat (first|apply Kd.R_alloc|apply Kd.R_drewN|apply Kd.R_drew));exact(Kd.R_mono (Kd.R_far (p:=⟨gb321,1,none⟩) (Kd.R_far (p:=⟨gb321,0,none⟩) (Kd.R_types HO_14.out BK321.out zq22) (fun _ hk=>hk.2) (.int .u64 t326)) (fun _ hk=>hk.2) (.int .u64 t327)) (fun _ h_=>h_.1))) hb);have n1_:=zM (blk_below (g:=gb318) (o:=.cells #[.int .u64 x319000_2,.int .u64 x319001_2] 87 (0,0)) zq141 hb);have n2_:=zM (blk_below (g:=gb319) (o:=.cells #[.int .u64 a1_0,.int .u64 a1_1] 87 (0,0)) zq142 hb);have n3_:=zM (blk_below (g:=gb320) (o:=.cells #[.int .u64 0,.int .u64 0] 87 (0,0)) zq143 hb);have n4_:=zM (blk_below (g:=gb321) (o:=.cells #[.int .u64 t326,.int .u64 t327] 87 (0,0)) (by(with_reducible repeat (first|refine blk_drewN ?_ _|refine blk_drew ?_|refine blk_alloc ?_ _));refine blk_put (cs:=#[.int .u64 t326,.int .u64 x322001_2]) ?_ 1 _ rfl;(with_reducible repeat (first|refine blk_drewN ?_ _|refine blk_drew ?_|refine blk_alloc ?_ _));refine blk_put (cs:=#[.int .u64 x322000_2,.int .u64 x322001_2]) ?_ 0 _ rfl;(with_reducible repeat (first|refine blk_drewN ?_ _|refine blk_drew ?_|refine blk_alloc ?_ _));exact BK321.out) hb);have n5_:=zM (below_step zq41 hb);clear HO_14;clear BK318;clear BK319;clear BK320;clear BK321;clear HB;have HO_14:=n0_;have BK318:=n1_;have BK319:=n2_;have BK320:=n3_;have BK321:=n4_;have HB:=n5_;clear n0_ n1_ n2_ n3_ n4_ n5_;(try clear hb);(try clear hb2);(try clear hk);(try clear hi);have hcz37_0:w36.cell? ⟨gb318,0,none⟩=some (.int .u64 x319000_2):=(blk_cell BK318.out 0).trans rfl;have hcz37_1:w36.cell? ⟨gb318,1,none⟩=some (.int .u64 x319001_2):=(blk_cell BK318.out 1).trans rfl;have hfz37_0:=blk_frozen BK318.out 0;have hfz37_1:=blk_frozen BK318.out 1))
           go_roundg k2
           case measure=>have:=HK1.out;have:=HK2.out;omega
           case rel=>exact⟨(wrap64 (x8_2 - 1)),(t328),(t329),(t326),(t327),zq8,H',⟨zq185⟩,⟨by(with_reducible repeat (first|apply Kd.R_alloc|apply Kd.R_drewN|apply Kd.R_drew));exact Kd.R_mono (Kd.R_far (p:=⟨gb318,1,none⟩) (Kd.R_far (p:=⟨gb318,0,none⟩) (Kd.R_types HO_14.out BK318.out zq22) (fun _ hk=>hk.2) (.int .u64 t328)) (fun _ hk=>hk.2) (.int .u64 t329)) (fun _ hk=>trivial)⟩,⟨by(with_reducible repeat (first|refine blk_drewN ?_ _|refine blk_drew ?_|refine blk_alloc ?_ _));refine blk_put (cs:=#[.int .u64 t328,.int .u64 x319001_2]) ?_ 1 _ rfl;(with_reducible repeat (first|refine blk_drewN ?_ _|refine blk_drew ?_|refine blk_alloc ?_ _));refine blk_put (cs:=#[.int .u64 x319000_2,.int .u64 x319001_2]) ?_ 0 _ rfl;(with_reducible repeat (first|refine blk_drewN ?_ _|refine blk_drew ?_|refine blk_alloc ?_ _));exact BK318.out⟩,⟨zq145⟩,⟨zq146⟩,⟨zq147⟩,⟨zq41⟩⟩
          ·rw[if_neg c23] at H
           have c23b0:((Int.tmod (ji22) 2) == 1)=false:=beq_eq_false_iff_ne.mpr c23
           have c23b1:((Int.tmod (ji22) 2) != 1)=true:=bne_iff_ne.mpr c23
           replace H:=Option.bind_eq_some_iff.mp H
           obtain⟨⟨t330,t331⟩,A380,H⟩:=H
           replace H:(impl_element_times.l1 k2 (rd y322 x16_1) (wrap64 (x8_2 - 1)) y322 (y322.length:Int) x16_1 t330 t331 x322000_2 x322001_2)=some (r1,r2):=H
           have A38:=zM A380
           clear A380
           have H':=zM H
           clear H
           have hnb39:=NB318_319.out
           have hnc39:=NB319_318.out
           have hnb40:=NB318_320.out
           have hnc40:=NB320_318.out
           have hnb41:=NB318_321.out
           have hnc41:=NB321_318.out
           have hcz42_0:wr.cell? ⟨gb318,0,none⟩=some (.int .u64 x319000_2):=(blk_cell BK318.out 0).trans rfl
           have hcz42_1:wr.cell? ⟨gb318,1,none⟩=some (.int .u64 x319001_2):=(blk_cell BK318.out 1).trans rfl
           have hfz42_0:=blk_frozen BK318.out 0
           have hfz42_1:=blk_frozen BK318.out 1
           go_wp2_with (first|((with_reducible refine gate_callee (f:=84) rfl ?_);refine goesL_ (some 33) rfl rfl Try.func84 (by kernel_rfl) rfl #[.agg #[.int .u64 x319000_2,.int .u64 x319001_2]] rfl zq1 ?_;(with_reducible refine(impl_element_shifted.calls x319000_2 x319001_2 t330 t331 _ A38.out).mono ?_);rintro e w43 ⟨rfl,hb⟩;refine⟨_,rfl,?_⟩;have n0_:=zM (Kd.R_below (by(with_reducible repeat (first|apply Kd.R_alloc|apply Kd.R_drewN|apply Kd.R_drew));exact HO_14.out) hb);have n1_:=zM (blk_below (g:=gb318) (o:=.cells #[.int .u64 x319000_2,.int .u64 x319001_2] 87 (0,0)) zq44 hb);have n2_:=zM (blk_below (g:=gb319) (o:=.cells #[.int .u64 a1_0,.int .u64 a1_1] 87 (0,0)) zq90 hb);have n3_:=zM (blk_below (g:=gb320) (o:=.cells #[.int .u64 0,.int .u64 0] 87 (0,0)) zq122 hb);have n4_:=zM (blk_below (g:=gb321) (o:=.cells #[.int .u64 x322000_2,.int .u64 x322001_2] 87 (0,0)) zq180 hb);have n5_:=zM (below_step zq41 hb);clear HO_14;clear BK318;clear BK319;clear BK320;clear BK321;clear HB;have HO_14:=n0_;have BK318:=n1_;have BK319:=n2_;have BK320:=n3_;have BK321:=n4_;have HB:=n5_;clear n0_ n1_ n2_ n3_ n4_ n5_;(try clear hb);(try clear hb2);(try clear hk);(try clear hi);have hcz44_0:w43.cell? ⟨gb318,0,none⟩=some (.int .u64 x319000_2):=(blk_cell BK318.out 0).trans rfl;have hcz44_1:w43.cell? ⟨gb318,1,none⟩=some (.int .u64 x319001_2):=(blk_cell BK318.out 1).trans rfl;have hfz44_0:=blk_frozen BK318.out 0;have hfz44_1:=blk_frozen BK318.out 1))
           go_roundg k2
           case measure=>have:=HK1.out;have:=HK2.out;omega
           case rel=>exact⟨(wrap64 (x8_2 - 1)),(t330),(t331),(x322000_2),(x322001_2),zq8,H',⟨zq185⟩,⟨by(with_reducible repeat (first|apply Kd.R_alloc|apply Kd.R_drewN|apply Kd.R_drew));exact Kd.R_mono (Kd.R_far (p:=⟨gb318,1,none⟩) (Kd.R_far (p:=⟨gb318,0,none⟩) (Kd.R_types HO_14.out BK318.out zq22) (fun _ hk=>hk.2) (.int .u64 t330)) (fun _ hk=>hk.2) (.int .u64 t331)) (fun _ hk=>trivial)⟩,⟨by(with_reducible repeat (first|refine blk_drewN ?_ _|refine blk_drew ?_|refine blk_alloc ?_ _));refine blk_put (cs:=#[.int .u64 t330,.int .u64 x319001_2]) ?_ 1 _ rfl;(with_reducible repeat (first|refine blk_drewN ?_ _|refine blk_drew ?_|refine blk_alloc ?_ _));refine blk_put (cs:=#[.int .u64 x319000_2,.int .u64 x319001_2]) ?_ 0 _ rfl;(with_reducible repeat (first|refine blk_drewN ?_ _|refine blk_drew ?_|refine blk_alloc ?_ _));exact BK318.out⟩,⟨zq145⟩,⟨zq146⟩,⟨zq147⟩,⟨zq41⟩⟩
         ·rw[if_neg c21] at H
          exact absurd H zq101
        ·rw[if_neg c20] at H
         have c20b0:decide (0≤x8_2)=false:=decide_eq_false c20
         clear c20
         have H':=zM H
         clear H
         go_wp2
         go_roundg k2
         case measure=>have:=HK1.out;have:=HK2.out;omega
         case rel=>exact⟨(wrap64 (x16_1+1)),(x319000_2),(x319001_2),(x322000_2),(x322001_2),zq8,H',⟨zq185⟩,⟨by(with_reducible repeat (first|apply Kd.R_alloc|apply Kd.R_drewN|apply Kd.R_drew));exact HO_14.out⟩,⟨zq44⟩,⟨zq90⟩,⟨zq122⟩,⟨zq180⟩,⟨zq41⟩⟩
     ·rw[if_neg c19] at H
      exact absurd H zq101
    ·rw[if_neg c18] at H
     exact absurd H zq101
   ·rw[if_neg c17] at H
    have c17b0:decide (x16_1 < (y322.length:Int))=false:=decide_eq_false c17
    clear c17
    simp only[Option.some.injEq,Prod.mk.injEq] at H
    obtain⟨rfl,rfl⟩:=H
    have hnb45:=NB321_318.out
    have hnc45:=NB318_321.out
    have hnb46:=NB321_319.out
    have hnc46:=NB319_321.out
    have hnb47:=NB321_320.out
    have hnc47:=NB320_321.out
    have hcz48_0:wr.cell? ⟨gb321,0,none⟩=some (.int .u64 x322000_1):=(blk_cell BK321.out 0).trans rfl
    have hcz48_1:wr.cell? ⟨gb321,1,none⟩=some (.int .u64 x322001_1):=(blk_cell BK321.out 1).trans rfl
    have hfz48_0:=blk_frozen BK321.out 0
    have hfz48_1:=blk_frozen BK321.out 1
    have hnb49:=NB320_318.out
    have hnc49:=NB318_320.out
    have hnb50:=NB320_319.out
    have hnc50:=NB319_320.out
    have hcz51_0:wr.cell? ⟨gb320,0,none⟩=some (.int .u64 0):=(blk_cell BK320.out 0).trans rfl
    have hcz51_1:wr.cell? ⟨gb320,1,none⟩=some (.int .u64 0):=(blk_cell BK320.out 1).trans rfl
    have hfz51_0:=blk_frozen BK320.out 0
    have hfz51_1:=blk_frozen BK320.out 1
    go_wp2
    refine bodyPost_ret (results_cell_row rfl _ _ gb320 87 #[.int .u64 x322000_1,.int .u64 x322001_1] (0,0) _ rfl (by(with_reducible repeat (first|refine blk_drewN ?_ _|refine blk_drew ?_|refine blk_alloc ?_ _));refine blk_put (cs:=#[.int .u64 x322000_1,.int .u64 0]) ?_ 1 _ rfl;(with_reducible repeat (first|refine blk_drewN ?_ _|refine blk_drew ?_|refine blk_alloc ?_ _));refine blk_put (cs:=#[.int .u64 0,.int .u64 0]) ?_ 0 _ rfl;(with_reducible repeat (first|refine blk_drewN ?_ _|refine blk_drew ?_|refine blk_alloc ?_ _));exact BK320.out) Try.underlying87 rfl (by kernel_rfl)) rfl ?_
    exact⟨zq14,zq41⟩
end Go.Proofs.Ytkjgdndaepobiaa.All
