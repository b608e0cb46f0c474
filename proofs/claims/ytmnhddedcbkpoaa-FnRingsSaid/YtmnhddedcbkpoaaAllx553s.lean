-- Laid by wip/shake.py of this repo out of this claim's texts. Not trusted: Lean checks it.
import Derived.Test.YtmnhddedcbkpoaaAb0s
import Derived.Test.YtmnhddedcbkpoaaBytes
import Derived.Test.YtmnhddedcbkpoaaAllx24s
import Derived.Test.YtmnhddedcbkpoaaAllx32s
import Derived.Test.YtmnhddedcbkpoaaAllx35s
import Derived.Test.YtmnhddedcbkpoaaAllx550s
import Derived.Lib.SliceRun
namespace Go.Proofs.Ytmnhddedcbkpoaa.All
open Go.Proofs.YtmnhddedcbkpoaaW.PrintWords.Aside0 renaming mk→zM
open Go.RowKit Go.Proofs.YtmnhddedcbkpoaaW.PrintWords Go.Proofs.YtmnhddedcbkpoaaW.PrintLast Go.Proofs.YtmnhddedcbkpoaaW.PrintMore
attribute [local go_sem] max2_int min2_int max_two min_two max_three min_three max_four min_four
set_option linter.unusedVariables false
set_option linter.unusedSimpArgs false
def spec_l4Copy.T5:Bool × List (List Nat × List Nat):=(true,[([],[]),([0],[0]),([],[]),([2],[2]),([3],[3]),([4],[4]),([],[]),([5,6],[5,6]),([7],[7]),([8],[8]),([],[]),([10],[10]),([11],[11]),([12],[12]),([],[]),([13,14],[13,14]),([15],[15]),([16],[16]),([17],[17]),([9,18],[9,18]),([19],[19]),([1,20,18],[1,20]),([0,1,2,3,4,5,6,7,8,9,10,11,12,13,14,15,16,17,18,19,20,21],[]),([22,21,21,0,1,2,3,4,5,6,7,8,9,10,11,12,13,14,15,16,17,18,19,20,21],[21,22])])
def spec_l4Copy.B5:List Nat:=[0,1,0,4,12,28,0,124,252,508,0,1024,3072,7168,0,31744,64512,130048,261120,524284,1048572,2097151,4194303,8388607]
theorem spec_l4Copy.tab5:rtab .any (opsOf Try.f67 5)=spec_l4Copy.T5:=by kernel_rfl
theorem spec_l4Copy.bits5:waitsOk spec_l4Copy.T5.2 spec_l4Copy.B5=true:=by kernel_rfl
def spec_l4Copy.f (s0_0:Int) (s0_1:List S25):Option (Int × List S25 × Int):=if s0_1.length < 1000000000000∧∀ x ∈ s0_1,x.f1.length < 1000000000000 then some (s0_0,s0_1,s0_0) else none
theorem take_next (l:List S25) (k:Nat) (h:k < l.length):l.take k ++ [(⟨(rd_T25 l (k:Int)).f0,(rd_T25 l (k:Int)).f1⟩:S25)]=l.take (k+1):=by
 rw[rd_get l k h,List.take_succ_eq_append_getElem h]
theorem l1Copy_some (l:List Int) (h:l.length < 1000000000000):spec_l1Copy.f l=some l:=by
 unfold spec_l1Copy.f
 simp only[Option.bind_some]
 rw[if_pos (by simp only[List.length_nil];omega)]
 rfl
set_option maxHeartbeats 4000000 in
set_option maxRecDepth 100000 in
theorem l4Copy_at (g:Nat) (s0_0:Int) (s0_1:List S25) (A:Option Addr) (c:Nat) (w:World) (hbk:w.heap[g]?=some (.cells #[.int .i64 s0_0,.slice A s0_1.length c] 29 (0,0))) (hrr:Kd.C k25 w A s0_1.length s0_1) (hm:s0_1.length < 1000000000000∧∀ x ∈ s0_1,x.f1.length < 1000000000000) :
  Calls Try.prog 67 #[.pointer (some ⟨g,0,none⟩)] w fun e w'=>∃ v1_:Value,e=.returned (.agg #[.int .i64 s0_0,v1_])∧Kd.S k25 25 w' w.heap.size (fun _=>True) v1_ s0_1∧Below w.heap.size w w':=by
  have HM:=zM hm
  have HLM:=zM hm.1
  have HLB:Aside0 (s0_1.length < 140737488355328):=⟨by have:=hm.1;omega⟩
  clear hm
  have HG0:=zM (show w.cell? ⟨g,0,none⟩=some (.int .i64 s0_0) from (blk_cell hbk 0).trans rfl)
  have HG:=zM (show w.cell? ⟨g,1,none⟩=some (.slice A s0_1.length c) from (blk_cell hbk 1).trans rfl)
  have HR:=zM hrr
  clear hrr hbk
  have HB:=zM (Below.refl w.heap.size w)
  go_enter Try.func67,Try.ntmps67
  go_wp2_with (first
   | ((with_reducible refine gate_dst (N:=2) rfl ?_);refine box_event ?hg (N:=2) ?hd (cs:=#[.int .i64 0,.slice none 0 0]) (t:=29) ?hr ?_;(case hd=>rfl);(case hg=>rfl);(case hr=>first|(go_simp;done)|(go_simp;rfl));intro g2 hg w2 hbox hb;have n0_:=zM (below_step HB.out hb);have BK2:=zM hbox;have GE2:=zM (show w.heap.size≤g2 by rw[hg];exact below_size HB.out);clear HB;have HB:=n0_;clear n0_ hb hbox hg;have hr0:=(HB.out.cell (World.block_lt_of_cell? w _ HG0.out)).trans HG0.out)
   | ((with_reducible refine gate_dst (N:=3) rfl ?_);refine box_event ?hg (N:=3) ?hd (cs:=#[.int .i64 0,.slice none 0 0]) (t:=29) ?hr ?_;(case hd=>rfl);(case hg=>rfl);(case hr=>first|(go_simp;done)|(go_simp;rfl));intro g3 hg w3 hbox hb;have n0_:=zM (below_step HB.out hb);have n1_:=zM (blk_below (g:=g2) BK2.out hb);have BK3:=zM hbox;have GE3:=zM (show w.heap.size≤g3 by rw[hg];exact below_size HB.out);have NB23:=zM (show g2≠g3 by rw[hg];exact Nat.ne_of_lt (blk_lt (g:=g2) BK2.out));have NB32:=zM (show g3≠g2 by rw[hg];exact Nat.ne_of_gt (blk_lt (g:=g2) BK2.out));clear HB BK2;have HB:=n0_;have BK2:=n1_;clear n0_ n1_ hb hbox hg;(try clear hr0);have hr0:=(HB.out.cell (World.block_lt_of_cell? w _ HG0.out)).trans HG0.out;have hz0:=blk_cell BK3.out 0;have hz1:=blk_cell BK3.out 1;have hf0:=blk_frozen BK3.out 0;have hf1:=blk_frozen BK3.out 1;have hn1:=NB23.out;have hn2:=NB32.out))
  go_loopw [4] (fun v4 W=>∃ (kk:Nat) (u:Value),kk≤s0_1.length∧v4=.int .i64 kk∧Aside0 (Kd.S k25 25 W w.heap.size (fun _=>True) u (s0_1.take kk))∧Aside0 (W.heap[g2]?=some (.cells #[.int .i64 0,.slice none 0 0] 29 (0,0)))∧Aside0 (W.heap[g3]?=some (.cells #[.int .i64 s0_0,u] 29 (0,0)))∧Aside0 (Below w.heap.size w W)) (fun v4 _=>s0_1.length - (intOf v4).toNat)
  case atStart=>exact⟨0,.slice none 0 0,Nat.zero_le _,rfl,⟨Kd.S_nil _ _ _ _ _⟩,⟨blk_far (blk_far BK2.out NB23.out _) NB23.out _⟩,⟨blk_put (cs:=#[.int .i64 s0_0,.slice none 0 0]) (blk_put (cs:=#[.int .i64 0,.slice none 0 0]) BK3.out 0 _ rfl) 1 _ rfl⟩,⟨zq73⟩⟩
  case round=>
   clear BK2 BK3 HB hr0 hz0 hz1 hf0 hf1 hn1 hn2
   obtain⟨kk,u,hk,rfl,HO,BK2,BK3,HB⟩:=hrel
   have hr1:=(HB.out.cell (World.block_lt_of_cell? w _ HG.out)).trans HG.out
   by_cases hl:kk < s0_1.length
   ·have hd:decide (kk < s0_1.length)=true:=decide_eq_true hl
    have hlt:=zM hl
    have HTK:=zM (take_next s0_1 kk hl)
    obtain⟨ad,A1,c1,rfl,hx0,hx1,hxl,hxi⟩:=at_T25 HR.out (kk:Int) zq21 zq21
    have HS0:=zM (l1Copy_some _ (HM.out.2 _ (show rd_T25 s0_1 (kk:Int) ∈ s0_1 by rw[rd_get s0_1 kk hl];exact List.getElem_mem hl)))
    generalize rd_T25 s0_1 (kk:Int)=x at HTK hx0 hx1 hxl hxi HS0
    rw[Int.toNat_natCast] at hx0 hx1
    have HS:=HS0
    have HX:=zM (And.intro hx0 hx1)
    have HRX:=zM hxi
    have HLX:=zM hxl
    clear hx0 hx1 hxl hxi HS0
    go_wp2_with fail
    have n0_:=zM (below_drew1 HB.out)
    have n1_:=zM (Kd.S_drew HO.out)
    have n2_:=zM (blk_drew BK2.out)
    have n3_:=zM (blk_drew BK3.out)
    clear HB hr1 HO BK2 BK3
    have HB:=n0_
    have HO:=n1_
    have BK2:=n2_
    have BK3:=n3_
    clear n0_ n1_ n2_ n3_
    refine start_ (n:=24) (S:=fun w'=>w'.cell? ⟨g3,1,none⟩=some u∧w'.cell? ⟨g,1,none⟩=some (.slice (some ad) s0_1.length c)∧w'.cell? (ad.add (kk*2))=some (.int .i64 x.f0)∧w'.cell? ⟨(ad.add (kk*2)).block,(ad.add (kk*2)).off+1,none⟩=some (.slice A1 x.f1.length c1)) (ds:=[23]) #[false,false,false,false,false,false,false,false,false,false,false,false,false,false,false,false,false,false,false,false,false,false,false,false] (by kernel_rfl) rfl rfl ⟨(blk_cell BK3.out 1).trans rfl,(HB.out.cell (World.block_lt_of_cell? w _ HG.out)).trans HG.out,(HB.out.cell (World.block_lt_of_cell? w _ HX.out.1)).trans HX.out.1,(HB.out.cell (World.block_lt_of_cell? w _ HX.out.2)).trans HX.out.2⟩ (fun hHeld=>?_);refine with_tabW spec_l4Copy.tab5 spec_l4Copy.bits5 (fun HT_ HW_=>?_)
    generalize wr.drew=w9 at HB BK2 BK3 HO hHeld ⊢
    refine pure_ (i:=0) (N:=some 19) (v:=?_) (a':=?_) #[true,false,false,false,false,false,false,false,false,false,false,false,false,false,false,false,false,false,false,false,false,false,false,false] rfl rfl (any_of HT_.out (by kernel_rfl)) (fun _ _ _ h=>h) (Or.inl ⟨zq64,?_⟩) ?_ ?_
    rotate_left
    ·intro w'
     go_simp
     with_reducible rfl
    rotate_left
    ·simp only[Act.put,List.setIfInBounds_toArray,List.set_cons_zero,List.set_cons_succ,i64_w,i32_w]
     rfl
    refine pure_ (i:=2) (N:=some 21) (v:=?_) (a':=?_) #[true,false,true,false,false,false,false,false,false,false,false,false,false,false,false,false,false,false,false,false,false,false,false,false] rfl rfl (any_of HT_.out (by kernel_rfl)) (fun _ _ _ h=>h) (Or.inl ⟨zq64,?_⟩) ?_ ?_
    rotate_left
    ·intro w'
     go_simp
     with_reducible rfl
    rotate_left
    ·simp only[Act.put,List.setIfInBounds_toArray,List.set_cons_zero,List.set_cons_succ,i64_w,i32_w]
     rfl
    refine pure_ (i:=3) (N:=some 22) (v:=?_) (a':=?_) #[true,false,true,true,false,false,false,false,false,false,false,false,false,false,false,false,false,false,false,false,false,false,false,false] rfl rfl (any_of HT_.out (by kernel_rfl)) (fun _ _ _ h=>h) (Or.inl ⟨zq64,?_⟩) ?_ ?_
    rotate_left
    ·intro w'
     go_simp
     with_reducible rfl
    rotate_left
    ·simp only[Act.put,List.setIfInBounds_toArray,List.set_cons_zero,List.set_cons_succ,i64_w,i32_w]
     rfl
    refine pure_ (i:=4) (N:=some 23) (v:=?_) (a':=?_) #[true,false,true,true,true,false,false,false,false,false,false,false,false,false,false,false,false,false,false,false,false,false,false,false] rfl rfl (any_of HT_.out (by kernel_rfl)) (fun _ _ _ h=>h) (Or.inl ⟨zq64,?_⟩) ?_ ?_
    rotate_left
    ·intro w'
     go_simp
     with_reducible rfl
    rotate_left
    ·simp only[Act.put,List.setIfInBounds_toArray,List.set_cons_zero,List.set_cons_succ,i64_w,i32_w]
     rfl
    refine pure_ (i:=6) (N:=some 25) (v:=?_) (a':=?_) #[true,false,true,true,true,false,true,false,false,false,false,false,false,false,false,false,false,false,false,false,false,false,false,false] rfl rfl (any_of HT_.out (by kernel_rfl)) (fun _ _ _ h=>h) (Or.inl ⟨zq64,?_⟩) ?_ ?_
    rotate_left
    ·intro w'
     go_simp
     with_reducible rfl
    rotate_left
    ·simp only[Act.put,List.setIfInBounds_toArray,List.set_cons_zero,List.set_cons_succ,i64_w,i32_w]
     rfl
    refine pure_ (i:=10) (N:=some 29) (v:=?_) (a':=?_) #[true,false,true,true,true,false,true,false,false,false,true,false,false,false,false,false,false,false,false,false,false,false,false,false] rfl rfl (any_of HT_.out (by kernel_rfl)) (fun _ _ _ h=>h) (Or.inl ⟨zq64,?_⟩) ?_ ?_
    rotate_left
    ·intro w'
     go_simp
     with_reducible rfl
    rotate_left
    ·simp only[Act.put,List.setIfInBounds_toArray,List.set_cons_zero,List.set_cons_succ,i64_w,i32_w]
     rfl
    refine pure_ (i:=11) (N:=some 30) (v:=?_) (a':=?_) #[true,false,true,true,true,false,true,false,false,false,true,true,false,false,false,false,false,false,false,false,false,false,false,false] rfl rfl (any_of HT_.out (by kernel_rfl)) (fun _ _ _ h=>h) (Or.inl ⟨zq64,?_⟩) ?_ ?_
    rotate_left
    ·intro w'
     go_simp
     with_reducible rfl
    rotate_left
    ·simp only[Act.put,List.setIfInBounds_toArray,List.set_cons_zero,List.set_cons_succ,i64_w,i32_w]
     rfl
    refine pure_ (i:=12) (N:=some 31) (v:=?_) (a':=?_) #[true,false,true,true,true,false,true,false,false,false,true,true,true,false,false,false,false,false,false,false,false,false,false,false] rfl rfl (any_of HT_.out (by kernel_rfl)) (fun _ _ _ h=>h) (Or.inl ⟨zq64,?_⟩) ?_ ?_
    rotate_left
    ·intro w'
     go_simp
     with_reducible rfl
    rotate_left
    ·simp only[Act.put,List.setIfInBounds_toArray,List.set_cons_zero,List.set_cons_succ,i64_w,i32_w]
     rfl
    refine pure_ (i:=14) (N:=some 33) (v:=?_) (a':=?_) #[true,false,true,true,true,false,true,false,false,false,true,true,true,false,true,false,false,false,false,false,false,false,false,false] rfl rfl (any_of HT_.out (by kernel_rfl)) (fun _ _ _ h=>h) (Or.inl ⟨zq64,?_⟩) ?_ ?_
    rotate_left
    ·intro w'
     go_simp
     with_reducible rfl
    rotate_left
    ·simp only[Act.put,List.setIfInBounds_toArray,List.set_cons_zero,List.set_cons_succ,i64_w,i32_w]
     rfl
    refine take_ (i:=1) (N:=some 20) (v:=?_) (a':=?_) #[true,true,true,true,true,false,true,false,false,false,true,true,true,false,true,false,false,false,false,false,false,false,false,false] rfl rfl (take_ofW HT_.out HW_.out (by kernel_rfl)) (fun _ _ _ h=>h) (Or.inl ⟨zq64,?_⟩) hHeld ?_ ?_
    rotate_left
    ·rintro w' ⟨s0,s1,s2,s3⟩
     go_simp
     with_reducible rfl
    rotate_left
    ·simp only[Act.put,List.setIfInBounds_toArray,List.set_cons_zero,List.set_cons_succ,i64_w,i32_w]
     rfl
    refine take_ (i:=5) (N:=some 24) (v:=?_) (a':=?_) #[true,true,true,true,true,true,true,false,false,false,true,true,true,false,true,false,false,false,false,false,false,false,false,false] rfl rfl (take_ofW HT_.out HW_.out (by kernel_rfl)) (fun _ _ _ h=>h) (Or.inl ⟨zq64,?_⟩) hHeld ?_ ?_
    rotate_left
    ·rintro w' ⟨s0,s1,s2,s3⟩
     go_simp
     with_reducible rfl
    rotate_left
    ·simp only[Act.put,List.setIfInBounds_toArray,List.set_cons_zero,List.set_cons_succ,i64_w,i32_w]
     rfl
    refine pure_ (i:=7) (N:=some 26) (v:=?_) (a':=?_) #[true,true,true,true,true,true,true,true,false,false,true,true,true,false,true,false,false,false,false,false,false,false,false,false] rfl rfl (any_of HT_.out (by kernel_rfl)) (fun _ _ _ h=>h) (Or.inl ⟨zq64,?_⟩) ?_ ?_
    rotate_left
    ·intro w'
     go_simp
     with_reducible rfl
    rotate_left
    ·simp only[Act.put,List.setIfInBounds_toArray,List.set_cons_zero,List.set_cons_succ,i64_w,i32_w]
     rfl
    refine pure_ (i:=8) (N:=some 27) (v:=?_) (a':=?_) #[true,true,true,true,true,true,true,true,true,false,true,true,true,false,true,false,false,false,false,false,false,false,false,false] rfl rfl (any_of HT_.out (by kernel_rfl)) (fun _ _ _ h=>h) (Or.inl ⟨zq64,?_⟩) ?_ ?_
    rotate_left
    ·intro w'
     go_simp
     with_reducible rfl
    rotate_left
    ·simp only[Act.put,List.setIfInBounds_toArray,List.set_cons_zero,List.set_cons_succ,i64_w,i32_w]
     rfl
    refine take_ (i:=9) (N:=some 28) (v:=?_) (a':=?_) #[true,true,true,true,true,true,true,true,true,true,true,true,true,false,true,false,false,false,false,false,false,false,false,false] rfl rfl (take_ofW HT_.out HW_.out (by kernel_rfl)) (fun _ _ _ h=>h) (Or.inl ⟨zq64,?_⟩) hHeld ?_ ?_
    rotate_left
    ·rintro w' ⟨s0,s1,s2,s3⟩
     go_simp
     with_reducible rfl
    rotate_left
    ·simp only[Act.put,List.setIfInBounds_toArray,List.set_cons_zero,List.set_cons_succ,i64_w,i32_w]
     rfl
    refine take_ (i:=13) (N:=some 32) (v:=?_) (a':=?_) #[true,true,true,true,true,true,true,true,true,true,true,true,true,true,true,false,false,false,false,false,false,false,false,false] rfl rfl (take_ofW HT_.out HW_.out (by kernel_rfl)) (fun _ _ _ h=>h) (Or.inl ⟨zq64,?_⟩) hHeld ?_ ?_
    rotate_left
    ·rintro w' ⟨s0,s1,s2,s3⟩
     go_simp
     with_reducible rfl
    rotate_left
    ·simp only[Act.put,List.setIfInBounds_toArray,List.set_cons_zero,List.set_cons_succ,i64_w,i32_w]
     rfl
    refine pure_ (i:=15) (N:=some 34) (v:=?_) (a':=?_) #[true,true,true,true,true,true,true,true,true,true,true,true,true,true,true,true,false,false,false,false,false,false,false,false] rfl rfl (any_of HT_.out (by kernel_rfl)) (fun _ _ _ h=>h) (Or.inl ⟨zq64,?_⟩) ?_ ?_
    rotate_left
    ·intro w'
     go_simp
     with_reducible rfl
    rotate_left
    ·simp only[Act.put,List.setIfInBounds_toArray,List.set_cons_zero,List.set_cons_succ,i64_w,i32_w]
     rfl
    refine pure_ (i:=16) (N:=some 35) (v:=?_) (a':=?_) #[true,true,true,true,true,true,true,true,true,true,true,true,true,true,true,true,true,false,false,false,false,false,false,false] rfl rfl (any_of HT_.out (by kernel_rfl)) (fun _ _ _ h=>h) (Or.inl ⟨zq64,?_⟩) ?_ ?_
    rotate_left
    ·intro w'
     go_simp
     with_reducible rfl
    rotate_left
    ·simp only[Act.put,List.setIfInBounds_toArray,List.set_cons_zero,List.set_cons_succ,i64_w,i32_w]
     rfl
    refine take_ (i:=17) (N:=some 36) (v:=?_) (a':=?_) #[true,true,true,true,true,true,true,true,true,true,true,true,true,true,true,true,true,true,false,false,false,false,false,false] rfl rfl (take_ofW HT_.out HW_.out (by kernel_rfl)) (fun _ _ _ h=>h) (Or.inl ⟨zq64,?_⟩) hHeld ?_ ?_
    rotate_left
    ·rintro w' ⟨s0,s1,s2,s3⟩
     go_simp
     with_reducible rfl
    rotate_left
    ·simp only[Act.put,List.setIfInBounds_toArray,List.set_cons_zero,List.set_cons_succ,i64_w,i32_w]
     rfl
    refine one_ (i:=18) (N:=some 37) #[true,true,true,true,true,true,true,true,true,true,true,true,true,true,true,true,true,true,true,false,false,false,false,false] rfl rfl (one_of HT_.out (by kernel_rfl)) zq17 (fun K hK=>?_)
    refine goes_ Try.func88 (by kernel_rfl) rfl #[.slice A1 x.f1.length c1] zq64 rfl rfl zq11 ?_
    with_reducible refine(spec_l1Copy.calls A1 c1 x.f1 x.f1 _ ?side1 HLX.out HS.out).mono ?_
    (case side1=>exact Kd.C_below HRX.out HB.out)
    rintro e w10 ⟨vc,rfl,ho0,hb⟩
    refine⟨_,rfl,?_⟩
    have n0_:=zM (Kd.S_elder' HO.out (Kd.R_base ho0) hb)
    have n1_:=zM (Kd.R_lower ho0 (below_size HB.out))
    have n2_:=zM (blk_below (g:=g2) BK2.out hb)
    have n3_:=zM (blk_below (g:=g3) BK3.out hb)
    have n4_:=zM (below_step HB.out hb)
    clear HO BK2 BK3 HB
    have HO:=n0_
    have HOc:=n1_
    have BK2:=n2_
    have BK3:=n3_
    have HB:=n4_
    clear n0_ n1_ n2_ n3_ n4_ hb ho0
    obtain⟨Ac,cc,ec⟩:=Kd.R_slice HOc.out
    subst ec
    refine hK.out _ _ ⟨(blk_cell BK3.out 1).trans rfl,(HB.out.cell (World.block_lt_of_cell? w _ HG.out)).trans HG.out,(HB.out.cell (World.block_lt_of_cell? w _ HX.out.1)).trans HX.out.1,(HB.out.cell (World.block_lt_of_cell? w _ HX.out.2)).trans HX.out.2⟩ (fun hHeld=>?_)
    clear hK K
    refine norm_ (a':=?_) ?_ ?_
    rotate_left
    ·show Act.put _ (some 37) _=_
     simp only[Act.put,List.setIfInBounds_toArray,List.set_cons_zero,List.set_cons_succ,i64_w,i32_w]
     rfl
    refine pure_ (i:=19) (N:=some 38) (v:=?_) (a':=?_) #[true,true,true,true,true,true,true,true,true,true,true,true,true,true,true,true,true,true,true,true,false,false,false,false] rfl rfl (any_of HT_.out (by kernel_rfl)) (fun _ _ _ h=>h) (Or.inl ⟨zq64,?_⟩) ?_ ?_
    rotate_left
    ·intro w'
     go_simp
     with_reducible rfl
    rotate_left
    ·simp only[Act.put,List.setIfInBounds_toArray,List.set_cons_zero,List.set_cons_succ,i64_w,i32_w]
     rfl
    refine one_ (i:=20) (N:=some 39) #[true,true,true,true,true,true,true,true,true,true,true,true,true,true,true,true,true,true,true,true,true,false,false,false] rfl rfl (one_of HT_.out (by kernel_rfl)) zq17 (fun K hK=>?_)
    refine value_ (w1:=?_) (v:=?_) zq64 rfl ?_ ?_
    rotate_left 2
    ·go_simp
     constructor
     ·rfl
     ·rfl
    refine hK.out _ _ ⟨(blk_cell (blk_alloc BK3.out _) 1).trans rfl,((below_alloc HB.out _).cell (World.block_lt_of_cell? w _ HG.out)).trans HG.out,((below_alloc HB.out _).cell (World.block_lt_of_cell? w _ HX.out.1)).trans HX.out.1,((below_alloc HB.out _).cell (World.block_lt_of_cell? w _ HX.out.2)).trans HX.out.2⟩ (fun hHeld=>?_)
    clear hK K
    refine norm_ (a':=?_) ?_ ?_
    rotate_left
    ·show Act.put _ (some 39) _=_
     simp only[Act.put,List.setIfInBounds_toArray,List.set_cons_zero,List.set_cons_succ,i64_w,i32_w]
     rfl
    refine one_ (i:=21) (N:=some 40) #[true,true,true,true,true,true,true,true,true,true,true,true,true,true,true,true,true,true,true,true,true,true,false,false] rfl rfl (one_of HT_.out (by kernel_rfl)) zq17 (fun K hK=>?_)
    refine Kd.S_append_step k25 (w0:=w) w.heap.size zq64 (.tmp 20) (.tmp 39) 27 25 (.agg #[(.int .i64 0),(.slice none 0 0)]) 32 rfl Try.underlying27 info25 rfl zq17 zq21 u (s0_1.take kk) (⟨x.f0,x.f1⟩:S25) [.int .i64 x.f0,(.slice Ac x.f1.length cc:Value)] (fun _=>True) (fun k_=>some k_=(.slice Ac x.f1.length cc:Value).ownBlock) rfl rfl ?aP (fun k_ hk_=>((Kd.R_mono (ok':=fun k_=>True∧some k_≠(u:Value).ownBlock) (Kd.R_apart' HOc.out (Kd.S_typed HO.out) zq17) (fun k_ hk=>⟨trivial,hk.2⟩))).1 k_ hk_.symm) (fun _ _=>trivial) ?aO ?aB ?aS ?aL ?_
    (case aP=>exact k25_mkM _ _ _ (⟨x.f0,x.f1⟩:S25) (Kd.R_mono (Kd.R_tight rfl (Kd.R_mono (ok':=fun k_=>True∧some k_≠(u:Value).ownBlock) (Kd.R_apart' HOc.out (Kd.S_typed HO.out) zq17) (fun k_ hk=>⟨trivial,hk.2⟩))) (fun _ h_=>h_)))
    (case aB=>exact HB.out)
    (case aO=>exact Kd.S_mono HO.out (fun k_ hk=>⟨trivial,fun e_=>hk.2 e_⟩))
    (case aS=>exact below_size HB.out)
    (case aL=>have h9:=HLM.out;have h8:=hlt.out;rw[List.length_take];omega)
    intro v1 w11 ho hb hg hat
    have n0_:=zM (blk_grown (g:=g2) BK2.out hg (Kd.S_ne HO.out BK2.out zq17))
    have n1_:=zM (blk_grown (g:=g3) BK3.out hg (Kd.S_ne HO.out BK3.out zq17))
    have n2_:=zM hb
    rw[HTK.out] at ho
    have n3_:=zM ho
    clear BK2 BK3 HB HO HOc hat hg ho hb
    have BK2:=n0_
    have BK3:=n1_
    have HB:=n2_
    have HO:=n3_
    clear n0_ n1_ n2_ n3_
    obtain⟨Aq,cq,eq_⟩:=Kd.S_slice HO.out
    subst eq_
    refine hK.out _ _ ⟨(blk_cell BK3.out 1).trans rfl,(HB.out.cell (World.block_lt_of_cell? w _ HG.out)).trans HG.out,(HB.out.cell (World.block_lt_of_cell? w _ HX.out.1)).trans HX.out.1,(HB.out.cell (World.block_lt_of_cell? w _ HX.out.2)).trans HX.out.2⟩ (fun hHeld=>?_)
    clear hK K
    refine norm_ (a':=?_) ?_ ?_
    rotate_left
    ·show Act.put _ (some 40) _=_
     simp only[Act.put,List.setIfInBounds_toArray,List.set_cons_zero,List.set_cons_succ,i64_w,i32_w]
     rfl
    refine pure_ (i:=22) (N:=some 41) (v:=?_) (a':=?_) #[true,true,true,true,true,true,true,true,true,true,true,true,true,true,true,true,true,true,true,true,true,true,true,false] rfl rfl (any_of HT_.out (by kernel_rfl)) (fun _ _ _ h=>h) (Or.inl ⟨zq64,?_⟩) ?_ ?_
    rotate_left
    ·intro w'
     go_simp
     with_reducible rfl
    rotate_left
    ·simp only[Act.put,List.setIfInBounds_toArray,List.set_cons_zero,List.set_cons_succ,i64_w,i32_w]
     rfl
    refine last_ (i:=23) (N:=none) #[true,true,true,true,true,true,true,true,true,true,true,true,true,true,true,true,true,true,true,true,true,true,true,true] rfl rfl (one_of HT_.out (by kernel_rfl)) zq17 (fun K hK=>?_)
    have hs1:w11.cell? ⟨g3,1,none⟩=some u:=(blk_cell BK3.out 1).trans rfl
    have hs2:=blk_frozen BK3.out 1
    have hs3:=NB23.out
    have hs4:=NB32.out
    refine skip_ (w1:=?_) zq64 rfl ?_ ?_
    rotate_left
    ·go_simp
     rfl
    refine hK.out _ _ ?_
    clear hK K
    refine done_ (done_of HT_.out (by kernel_rfl)) ?_
    try go_wp2
    go_roundw
    case rel=>exact⟨kk+1,.slice Aq (s0_1.take (kk+1)).length cq,hlt.out,congrArg _ (wrap_next kk _ hlt.out HLB.out),⟨Kd.S_mono (Kd.S_far (p:=⟨g3,1,none⟩) (Kd.S_types HO.out BK3.out zq17) (fun _ hk=>hk.2) _) (fun _ hk=>trivial)⟩,⟨blk_far BK2.out NB23.out _⟩,⟨blk_put (cs:=#[.int .i64 s0_0,u]) BK3.out 1 _ (by rw[List.length_take];rfl)⟩,⟨zq73⟩⟩
    case measure=>exact next_less kk _ hlt.out HLB.out
   ·obtain rfl:kk=s0_1.length:=by omega
    have HTK:Aside0 (s0_1.take s0_1.length=s0_1):=⟨List.take_of_length_le (Nat.le_refl _)⟩
    rw[HTK.out] at HO
    obtain⟨Aq,cq,eq_⟩:=Kd.S_slice HO.out
    subst eq_
    have hz0:wr.cell? ⟨g3,0,none⟩=some (.int .i64 s0_0):=(blk_cell BK3.out 0).trans rfl
    have hz1:wr.cell? ⟨g3,1,none⟩=some (.slice Aq s0_1.length cq):=(blk_cell BK3.out 1).trans rfl
    have hy0:wr.cell? ⟨g2,0,none⟩=some (.int .i64 0):=(blk_cell BK2.out 0).trans rfl
    have hy1:wr.cell? ⟨g2,1,none⟩=some (.slice none 0 0):=(blk_cell BK2.out 1).trans rfl
    have hf0:=blk_frozen BK2.out 0
    have hf1:=blk_frozen BK2.out 1
    have hn1:=NB23.out
    have hn2:=NB32.out
    go_wp2
    refine bodyPost_ret (results_cell_row rfl _ _ g2 29 #[.int .i64 s0_0,.slice Aq s0_1.length cq] (0,0) _ rfl (by refine blk_put (cs:=#[.int .i64 s0_0,.slice none 0 0]) ?_ 1 _ rfl;refine blk_put (cs:=#[.int .i64 0,.slice none 0 0]) ?_ 0 _ rfl;exact BK2.out) Try.underlying29 rfl (by kernel_rfl)) rfl ?_
    have HBE:Aside0 (Below w.heap.size w ((wr.setCell ⟨g2,0,none⟩ (.int .i64 s0_0)).setCell ⟨g2,1,none⟩ (.slice Aq s0_1.length cq))):=⟨zq73⟩
    exact⟨_,rfl,Kd.S_mono (Kd.S_far (p:=⟨g2,1,none⟩) (Kd.S_far (p:=⟨g2,0,none⟩) (Kd.S_types HO.out BK2.out zq17) (fun _ hk=>hk.2) _) (fun _ hk=>hk.2) _) (fun _ hk=>trivial),HBE.out⟩
theorem spec_l4Copy.calls (g:Nat) (s0_0:Int) (s0_1:List S25) (r1:Int) (r2:List S25) (r3:Int) (w0 w:World) (hI:IsS29 w0 w g s0_0 s0_1) (hB:Below w0.heap.size w0 w) (h:spec_l4Copy.f s0_0 s0_1=some (r1,r2,r3)) :
  Calls Try.prog 67 #[.pointer (some ⟨g,0,none⟩)] w fun e w'=>∃ v1_:Value,e=.returned (.agg #[.int .i64 r1,v1_])∧Kd.S k25 25 w' w.heap.size (fun _=>True) v1_ r2∧IsS29 w0 w' g r3 s0_1∧Below w0.heap.size w0 w'∧KeepBut w w' g none:=by
 unfold spec_l4Copy.f at h
 by_cases hm:s0_1.length < 1000000000000∧∀ x ∈ s0_1,x.f1.length < 1000000000000
 ·rw[if_pos hm] at h
  simp only[Option.some.injEq,Prod.mk.injEq] at h
  obtain⟨rfl,rfl,rfl⟩:=h
  have hI':=hI
  obtain⟨A,c,hbk,hge,hrr⟩:=hI'
  refine(l4Copy_at g s0_0 s0_1 A c w hbk (Kd.C_below hrr hB) hm).mono ?_
  rintro e w' ⟨v,rfl,ho,hb⟩
  exact⟨v,rfl,ho,IsS29.below hI hb,hB.trans (hb.mono hB.size),KeepBut.of_below hb g none⟩
 ·rw[if_neg hm] at h
  cases h
set_option maxHeartbeats 4000000 in
set_option maxRecDepth 100000 in
theorem l4Find_at (id p:Int) (A:Option Addr) (c g:Nat) (l:List S25) (w:World) (hbk:w.heap[g]?=some (.cells #[.int .i64 p,.slice A l.length c] 29 (0,0))) (hr0:Kd.C k25 w A l.length l) (hm0:l.length < 140737488355328) :
  Calls Try.prog 84 #[.pointer (some ⟨g,0,none⟩),.int .i64 id] w fun e w'=>e=.returned (.int .i64 (placeL id l 0))∧Below w.heap.size w w':=by
 have HR:=zM hr0
 have HG:=zM (show w.cell? ⟨g,1,none⟩=some (.slice A l.length c) from (blk_cell hbk 1).trans rfl)
 have HM:=zM hm0
 have HB:=zM (Below.refl w.heap.size w)
 clear hr0 hbk hm0
 go_enter Try.func84,Try.ntmps84
 go_wp2
 go_loopw [5] (fun v5 W=>∃ kk:Nat,kk≤l.length∧v5=.int .i64 kk∧Aside0 (placeL id l 0=placeL id (l.drop kk) kk)∧Aside0 (Below w.heap.size w W)) (fun v5 _=>l.length - (intOf v5).toNat)
 case atStart=>exact⟨0,Nat.zero_le _,rfl,⟨rfl⟩,HB⟩
 case round=>
  clear HB
  obtain⟨kk,hk,rfl,HP,HB⟩:=hrel
  have hr1:=(HB.out.cell (World.block_lt_of_cell? w _ HG.out)).trans HG.out
  by_cases hl:kk < l.length
  ·have hd:decide (kk < l.length)=true:=decide_eq_true hl
   have HD:=zM (placeL_drop id l kk hl)
   have hlt:=zM hl
   obtain⟨ad,A1,c1,rfl,hx0,hx1,hl1,hi1⟩:=at_T25 HR.out (kk:Int) zq21 zq21
   clear hl1 hi1 hx1
   generalize rd_T25 l (kk:Int)=x at HD hx0
   rw[Int.toNat_natCast] at hx0
   replace hx0:=(HB.out.cell (World.block_lt_of_cell? w _ hx0)).trans hx0
   by_cases he:x.f0=id
   ·have HE:=zM he
    have hbt:(x.f0 == id)=true:=beq_iff_eq.mpr he
    clear he
    go_wp2
    go_ret
    exact⟨by rw[HP.out,HD.out,if_pos HE.out];rfl,HB.out⟩
   ·have HE:=zM he
    have hbt:(x.f0 == id)=false:=beq_eq_false_iff_ne.mpr he
    clear he
    go_wp2
    go_roundw
    case rel=>exact⟨kk+1,hlt.out,congrArg _ (wrap_next kk _ hlt.out HM.out),⟨by rw[HP.out,HD.out,if_neg HE.out]⟩,HB⟩
    case measure=>exact next_less kk _ hlt.out HM.out
  ·obtain rfl:kk=l.length:=by omega
   have HP2:Aside0 (placeL id l 0=-1):=⟨by rw[HP.out,List.drop_length];rfl⟩
   clear HP
   go_wp2
   go_ret
   exact⟨by rw[HP2.out];rfl,HB.out⟩
def okL (l:List S25):Prop:=l.length < 1000000000000∧∀ x ∈ l,x.f1.length < 1000000000000
instance (l:List S25):Decidable (okL l):=inferInstanceAs (Decidable (_∧_))
theorem own_at {w:World} {base:Nat} {ok:Nat→Prop} {A:Option Addr} {n c:Nat} {xs:List S25} (h:Kd.S k25 25 w base ok (.slice A n c) xs) (i:Int) (h0:0≤i) (h1:i < n):∃ ad Ae ce,A=some ad∧w.cell? (ad.add (i.toNat*2))=some (.int .i64 (rd_T25 xs i).f0)∧w.cell? ⟨(ad.add (i.toNat*2)).block,(ad.add (i.toNat*2)).off+1,none⟩=some (.slice Ae (rd_T25 xs i).f1.length ce)∧Kd.R (Kd.int .u8) 5 w base (fun _=>True) (.slice Ae (rd_T25 xs i).f1.length ce) (rd_T25 xs i).f1:=by
 obtain⟨hn,_,hC⟩:=Kd.S_reads' h
 obtain⟨ad,_,_,rfl,_⟩:=at_T25 hC i h0 zq21
 obtain⟨cs,hl,hM,hc0⟩:=Kd.R_getA (Kd.S_R h) z25 i h0 h1
 have hc:∀ j u,cs[j]?=some u→w.cell? (ad.add (i.toNat*2+j))=some u:=hc0
 obtain⟨v1,rfl,g1⟩:=k25_openM hM
 obtain⟨Ae,ce,rfl⟩:=Kd.R_slice g1
 exact⟨ad,Ae,ce,rfl,hc 0 _ rfl,by rw[← add_field _ _ 1 zq21];exact hc 1 _ rfl,Kd.R_mono g1 (fun _ _=>trivial)⟩
theorem S_grown_types {w w1:World} {base:Nat} {v:Value} {xs:List S25} {g t:Nat} {cells:Array Value} (h:Kd.S k25 25 w base (fun _=>True) v xs) (hb:w.heap[g]?=some (.cells cells t (0,0))) (ht:∀ q,q ∈ 25 :: k25.E→q≠t) (hg:w.grownBy w1 (some g)):Kd.S k25 25 w1 base (fun _=>True) v xs:=
 Kd.S_mono (Kd.S_grown (Kd.S_types h hb ht) hg (fun k hk he=>hk.2 (Option.some.inj he))) (fun _ _=>trivial)
theorem l4Find_as (id p:Int) (A:Option Addr) (c g:Nat) (l:List S25) (q:Int) (hq:placeL id l 0=q) (w:World) (hbk:w.heap[g]?=some (.cells #[.int .i64 p,.slice A l.length c] 29 (0,0))) (hr0:Kd.C k25 w A l.length l) (hm0:l.length < 140737488355328) :
  Calls Try.prog 84 #[.pointer (some ⟨g,0,none⟩),.int .i64 id] w fun e w'=>e=.returned (.int .i64 q)∧Below w.heap.size w w':=by
 subst hq
 exact l4Find_at id p A c g l w hbk hr0 hm0
end Go.Proofs.Ytmnhddedcbkpoaa.All
