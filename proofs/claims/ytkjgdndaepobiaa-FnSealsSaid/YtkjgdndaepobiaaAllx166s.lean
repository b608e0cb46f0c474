-- Laid by wip/shake.py of this repo out of this claim's texts. Not trusted: Lean checks it.
import Derived.Test.YtkjgdndaepobiaaAb0s
import Derived.Test.YtkjgdndaepobiaaAllx0s
import Derived.Test.YtkjgdndaepobiaaAllx547s
import Derived.Test.YtkjgdndaepobiaaAllx32s
import Derived.Test.YtkjgdndaepobiaaAllx161s
import Derived.Test.YtkjgdndaepobiaaAllx108s
import Derived.Test.YtkjgdndaepobiaaAllx163s
namespace Go.Proofs.Ytkjgdndaepobiaa.All
open Go.Proofs.YtkjgdndaepobiaaW.PrintWords.Aside0 renaming mk→zM
open Go.RowKit Go.Proofs.YtkjgdndaepobiaaW.PrintWords Go.Proofs.YtkjgdndaepobiaaW.PrintLast Go.Proofs.YtkjgdndaepobiaaW.PrintMore
attribute [local go_sem] max2_int min2_int max_two min_two max_three min_three max_four min_four
set_option linter.unusedVariables false
set_option linter.unusedSimpArgs false
def spec_l3Open.f (k:Nat) (l0:List Int) (l1:List Int) (l2:List Int) (l3:List Int):Option (List Int × Bool):=if (wrap64 ((l3.length:Int) - 16)) < 0 then (some (([]:List Int),false)) else ((spec_l2Keys.f l0).bind fun t516=>(if 0≤(wrap64 ((l3.length:Int) - 16)) then (if (wrap64 ((l3.length:Int) - 16))≤(l3.length:Int) then ((spec_l3Tag.f k t516 l1 l2 (l3.take ((wrap64 ((l3.length:Int) - 16)):Int).toNat)).bind fun t520=>(if (strOfNums t520).toList=(strOfNums (l3.drop ((wrap64 ((l3.length:Int) - 16)):Int).toNat)).toList then ((spec_l3First.f l1).bind fun t524=>((spec_l3Count.f k t524).bind fun t527=>((spec_l3Stream.f k t516 t527 (l3.take ((wrap64 ((l3.length:Int) - 16)):Int).toNat)).bind fun t531=>(some (t531,true))))) else (some (([]:List Int),false)))) else (none)) else (none)))
theorem spec_l3Open.mono:∀ a0 a1 a2 a3 k,LeO (spec_l3Open.f k a0 a1 a2 a3) (spec_l3Open.f (k+1) a0 a1 a2 a3):=by
 intro a0 a1 a2 a3 k
 unfold spec_l3Open.f
 repeat' first
   | (with_reducible exact spec_l3Count.mono _ _)
   | (with_reducible exact spec_l3Stream.mono _ _ _ _)
   | (with_reducible exact spec_l3Tag.mono _ _ _ _ _)
   | (with_reducible exact LeO.refl _)
   | (with_reducible exact LeO.none _)
   | (with_reducible refine LeO.ite ?_ ?_)
   | (with_reducible refine LeO.bind ?_ (fun _=>?_))
   | exact spec_l3Count.mono _ _
   | exact spec_l3Stream.mono _ _ _ _
   | exact spec_l3Tag.mono _ _ _ _ _
   | exact LeO.none _
   | refine LeO.ite ?_ ?_
   | refine LeO.bind ?_ (fun _=>?_)
def spec_l3Open.T5:Bool × List (List Nat × List Nat):=(true,[([],[]),([],[]),([],[]),([],[]),([],[]),([3,4],[3,4]),([0,1,2,5],[0,1,2,5]),([6],[6]),([],[]),([],[]),([8,9],[8,9]),([10],[10]),([7,11],[7,11])])
def spec_l3Open.B5:List Nat:=[0,0,0,0,0,24,63,127,0,0,768,1792,4095]
theorem spec_l3Open.tab5:rtab .any (opsOf Try.f57 5)=spec_l3Open.T5:=by kernel_rfl
theorem spec_l3Open.bits5:waitsOk spec_l3Open.T5.2 spec_l3Open.B5=true:=by kernel_rfl
def spec_l3Open.T7:Bool × List (List Nat × List Nat):=(true,[([],[]),([],[]),([1],[1]),([2,2],[2]),([],[]),([],[]),([4,5],[4,5]),([0,3,6,3],[0,3,6]),([7,7,0,1,2,3,4,5,6,7],[7]),([8,0,1,2,3,4,5,6,7,8],[])])
def spec_l3Open.B7:List Nat:=[0,0,2,6,0,0,48,127,255,511]
theorem spec_l3Open.tab7:rtab .any (opsOf Try.f57 7)=spec_l3Open.T7:=by kernel_rfl
theorem spec_l3Open.bits7:waitsOk spec_l3Open.T7.2 spec_l3Open.B7=true:=by kernel_rfl
set_option maxHeartbeats 8000000 in
set_option maxRecDepth 100000 in
theorem spec_l3Open.calls (k:Nat) (A0:Option Addr) (c0:Nat) (l0:List Int) (A1:Option Addr) (c1:Nat) (l1:List Int) (A2:Option Addr) (c2:Nat) (l2:List Int) (A3:Option Addr) (c3:Nat) (l3:List Int) (r1:List Int) (r2:Bool) (w:World) (hr0:Kd.C (Kd.int .u8) w A0 l0.length l0) (hc0:l0.length≤c0) (hr1:Kd.C (Kd.int .u8) w A1 l1.length l1) (hc1:l1.length≤c1) (hr2:Kd.C (Kd.int .u8) w A2 l2.length l2) (hc2:l2.length≤c2) (hr3:Kd.C (Kd.int .u8) w A3 l3.length l3) (hc3:l3.length≤c3) (h:spec_l3Open.f k l0 l1 l2 l3=some (r1,r2)) :
  Calls Try.prog 57 #[.slice A0 l0.length c0,.slice A1 l1.length c1,.slice A2 l2.length c2,.slice A3 l3.length c3] w fun e w'=>∃ v0_:Value,e=.returned (.tuple #[v0_,.bool r2])∧Kd.R (Kd.int .u8) 5 w' w.heap.size (fun _=>True) v0_ r1∧Below w.heap.size w w':=by
 have HR0:=zM hr0
 have HC0:=zM hc0
 clear hr0 hc0
 have HR1:=zM hr1
 have HC1:=zM hc1
 clear hr1 hc1
 have HR2:=zM hr2
 have HC2:=zM hc2
 clear hr2 hc2
 have HR3:=zM hr3
 have HC3:=zM hc3
 clear hr3 hc3
 have HB:=zM (Below.refl w.heap.size w)
 have H:(if (wrap64 ((l3.length:Int) - 16)) < 0 then (some (([]:List Int),false)) else ((spec_l2Keys.f l0).bind fun t516=>(if 0≤(wrap64 ((l3.length:Int) - 16)) then (if (wrap64 ((l3.length:Int) - 16))≤(l3.length:Int) then ((spec_l3Tag.f k t516 l1 l2 (l3.take ((wrap64 ((l3.length:Int) - 16)):Int).toNat)).bind fun t520=>(if (strOfNums t520).toList=(strOfNums (l3.drop ((wrap64 ((l3.length:Int) - 16)):Int).toNat)).toList then ((spec_l3First.f l1).bind fun t524=>((spec_l3Count.f k t524).bind fun t527=>((spec_l3Stream.f k t516 t527 (l3.take ((wrap64 ((l3.length:Int) - 16)):Int).toNat)).bind fun t531=>(some (t531,true))))) else (some (([]:List Int),false)))) else (none)) else (none))))=some (r1,r2):=h
 clear h
 by_cases c5:(wrap64 ((l3.length:Int) - 16)) < 0
 ·rw[if_pos c5] at H
  have c5b0:decide ((wrap64 ((l3.length:Int) - 16)) < 0)=true:=decide_eq_true c5
  clear c5
  simp only[Option.some.injEq,Prod.mk.injEq] at H
  obtain⟨rfl,rfl⟩:=H
  go_enter Try.func57,Try.ntmps57
  go_wp2
  go_ret2
  exact⟨_,zq14,zq100,zq0⟩
 ·rw[if_neg c5] at H
  have c5b0:decide ((wrap64 ((l3.length:Int) - 16)) < 0)=false:=decide_eq_false c5
  clear c5
  replace H:=Option.bind_eq_some_iff.mp H
  obtain⟨t516,A60,H⟩:=H
  replace H:(if 0≤(wrap64 ((l3.length:Int) - 16)) then (if (wrap64 ((l3.length:Int) - 16))≤(l3.length:Int) then ((spec_l3Tag.f k t516 l1 l2 (l3.take ((wrap64 ((l3.length:Int) - 16)):Int).toNat)).bind fun t520=>(if (strOfNums t520).toList=(strOfNums (l3.drop ((wrap64 ((l3.length:Int) - 16)):Int).toNat)).toList then ((spec_l3First.f l1).bind fun t524=>((spec_l3Count.f k t524).bind fun t527=>((spec_l3Stream.f k t516 t527 (l3.take ((wrap64 ((l3.length:Int) - 16)):Int).toNat)).bind fun t531=>(some (t531,true))))) else (some (([]:List Int),false)))) else (none)) else (none))=some (r1,r2):=H
  have A6:=zM A60
  clear A60
  obtain⟨ji7,hji7⟩:∃ j_:Int,(wrap64 ((l3.length:Int) - 16))=j_:=⟨_,rfl⟩
  replace H:(if 0≤(ji7) then (if (ji7)≤(l3.length:Int) then ((spec_l3Tag.f k t516 l1 l2 (l3.take ((ji7):Int).toNat)).bind fun t520=>(if (strOfNums t520).toList=(strOfNums (l3.drop ((ji7):Int).toNat)).toList then ((spec_l3First.f l1).bind fun t524=>((spec_l3Count.f k t524).bind fun t527=>((spec_l3Stream.f k t516 t527 (l3.take ((ji7):Int).toNat)).bind fun t531=>(some (t531,true))))) else (some (([]:List Int),false)))) else (none)) else (none))=some (r1,r2):=by first|(rw[hji7] at H;exact H)|(simp only[hji7] at H ⊢;exact H)
  (try rw[hji7] at c5b0)
  (try rw[hji7] at A6)
  have hji7w:(IntKind.i64.wrap ((l3.length:Int) - 16))=ji7:=(i64_w _).trans hji7
  by_cases c8:0≤(ji7)
  ·rw[if_pos c8] at H
   have c8b0:=eq_true c8
   have c8b1:decide (0≤(ji7))=true:=decide_eq_true c8
   clear c8
   by_cases c9:(ji7)≤(l3.length:Int)
   ·rw[if_pos c9] at H
    have c9b0:=eq_true c9
    have c9b1:decide ((ji7)≤(l3.length:Int))=true:=decide_eq_true c9
    clear c9
    replace H:=Option.bind_eq_some_iff.mp H
    obtain⟨t520,A100,H⟩:=H
    replace H:(if (strOfNums t520).toList=(strOfNums (l3.drop ((ji7):Int).toNat)).toList then ((spec_l3First.f l1).bind fun t524=>((spec_l3Count.f k t524).bind fun t527=>((spec_l3Stream.f k t516 t527 (l3.take ((ji7):Int).toNat)).bind fun t531=>(some (t531,true))))) else (some (([]:List Int),false)))=some (r1,r2):=H
    have A10:=zM A100
    clear A100
    have c11b0:=eq_true (of_decide_eq_true zq7:0≤(ji7))
    have c12b0:=eq_true (of_decide_eq_true zq7:(ji7)≤(l3.length:Int))
    by_cases c13:(strOfNums t520).toList=(strOfNums (l3.drop ((ji7):Int).toNat)).toList
    ·rw[if_pos c13] at H
     have c13b0:((strOfNums t520).toList == (strOfNums (l3.drop ((ji7):Int).toNat)).toList)=true:=beq_iff_eq.mpr c13
     have c13b1:((strOfNums t520).toList != (strOfNums (l3.drop ((ji7):Int).toNat)).toList)=false:=bne_eq_false_iff_eq.mpr c13
     clear c13
     replace H:=Option.bind_eq_some_iff.mp H
     obtain⟨t524,A140,H⟩:=H
     replace H:((spec_l3Count.f k t524).bind fun t527=>((spec_l3Stream.f k t516 t527 (l3.take ((ji7):Int).toNat)).bind fun t531=>(some (t531,true))))=some (r1,r2):=H
     have A14:=zM A140
     clear A140
     replace H:=Option.bind_eq_some_iff.mp H
     obtain⟨t527,A150,H⟩:=H
     replace H:((spec_l3Stream.f k t516 t527 (l3.take ((ji7):Int).toNat)).bind fun t531=>(some (t531,true)))=some (r1,r2):=H
     have A15:=zM A150
     clear A150
     have c16b0:=eq_true (of_decide_eq_true zq7:0≤(ji7))
     have c17b0:=eq_true (of_decide_eq_true zq7:(ji7)≤(l3.length:Int))
     replace H:=Option.bind_eq_some_iff.mp H
     obtain⟨t531,A180,H⟩:=H
     replace H:(some (t531,true))=some (r1,r2):=H
     have A18:=zM A180
     clear A180
     simp only[Option.some.injEq,Prod.mk.injEq] at H
     obtain⟨rfl,rfl⟩:=H
     go_enter Try.func57,Try.ntmps57
     try go_wp2_with (first|((with_reducible refine gate_callee (f:=34) rfl ?_);refine goesL_ (some 18) rfl rfl Try.func34 (by kernel_rfl) rfl #[.slice A0 l0.length c0] rfl zq1 ?_;(with_reducible refine(spec_l2Keys.calls _ _ l0 t516 _ ?side1 ?side2 A6.out).mono ?_);(case side1=>exact zq89);(case side2=>exact HC0.out);rintro e w19 ⟨v517,rfl,ho0,hb⟩;refine⟨_,rfl,?_⟩;have n0_:=zM (Kd.R_lower ho0 (below_size zq0));have n1_:=zM (below_step zq0 hb);clear HB;have HO518:=n0_;have HB:=n1_;clear n0_ n1_;(try clear hb);(try clear hb2);(try clear hk);(try clear hi);(try clear ho0);obtain⟨Ao20,co20,eo20⟩:=Kd.R_slice HO518.out;subst eo20))
     have n0_:=zM (Kd.R_drew HO518.out)
     have n1_:=zM (below_drew1 HB.out)
     clear HO518
     clear HB
     have HO518:=n0_
     have HB:=n1_
     clear n0_ n1_
     obtain⟨i022,hi022,_,hsz22,_⟩:=info_parts info5
     obtain⟨hcut22,hA22,hC22⟩:=print_take_of (P:=Try.prog) (Value.int .u8) 0 22 5 .i64 Try.underlying22 hi022 hsz22 A3 c3 l3 (ji7) (of_decide_eq_true zq7) (of_decide_eq_true zq7) HC3.out
     have HR519:=zM (Kd.C_of_reads (h1:=fun _=>rfl) (hA22 _ (Kd.reads_of_C HR3.out)))
     have HC519:=zM hC22
     clear hA22 hC22 hi022 hsz22
     obtain⟨i023,hi023,_,hsz23,_⟩:=info_parts info5
     obtain⟨A23,hcut23,hA23,hC23⟩:=print_drop_of (P:=Try.prog) (Value.int .u8) 0 22 5 .i64 Try.underlying22 hi023 hsz23 A3 c3 l3 (ji7) (of_decide_eq_true zq7) (of_decide_eq_true zq7) HC3.out
     have HR523:=zM (Kd.C_of_reads (h1:=fun _=>rfl) (hA23 _ (Kd.reads_of_C HR3.out)))
     have HC523:=zM hC23
     clear hA23 hC23 hi023 hsz23
     refine start_ (n:=13) (S:=fun w'=>Sem.run Try.prog (convert 22 9 (Value.slice A23 (l3.length - (ji7).toNat) (c3 - (ji7).toNat))) w'=.ok (.string (strOfNums (l3.drop ((ji7):Int).toNat))) w') (ds:=[]) #[false,false,false,false,false,false,false,false,false,false,false,false,false] (by kernel_rfl) rfl rfl zq148 (fun hHeld=>?_);refine with_tabW spec_l3Open.tab5 spec_l3Open.bits5 (fun HT_ HW_=>?_)
     generalize w19.drew=w21 at HO518 HB HR519 HR523 hHeld ⊢
     refine pure_ (i:=0) (N:=some 19) (v:=?_) (a':=?_) #[true,false,false,false,false,false,false,false,false,false,false,false,false] rfl rfl (any_of HT_.out (by kernel_rfl)) (fun _ _ _ h=>h) (Or.inl ⟨zq138,?_⟩) ?_ ?_
     rotate_left
     ·intro w'
      go_simp
      with_reducible rfl
     rotate_left
     ·simp only[Act.put,List.setIfInBounds_toArray,List.set_cons_zero,List.set_cons_succ,i64_w,i32_w]
      rfl
     refine pure_ (i:=1) (N:=some 20) (v:=?_) (a':=?_) #[true,true,false,false,false,false,false,false,false,false,false,false,false] rfl rfl (any_of HT_.out (by kernel_rfl)) (fun _ _ _ h=>h) (Or.inl ⟨zq138,?_⟩) ?_ ?_
     rotate_left
     ·intro w'
      go_simp
      with_reducible rfl
     rotate_left
     ·simp only[Act.put,List.setIfInBounds_toArray,List.set_cons_zero,List.set_cons_succ,i64_w,i32_w]
      rfl
     refine pure_ (i:=2) (N:=some 21) (v:=?_) (a':=?_) #[true,true,true,false,false,false,false,false,false,false,false,false,false] rfl rfl (any_of HT_.out (by kernel_rfl)) (fun _ _ _ h=>h) (Or.inl ⟨zq138,?_⟩) ?_ ?_
     rotate_left
     ·intro w'
      go_simp
      with_reducible rfl
     rotate_left
     ·simp only[Act.put,List.setIfInBounds_toArray,List.set_cons_zero,List.set_cons_succ,i64_w,i32_w]
      rfl
     refine pure_ (i:=3) (N:=some 22) (v:=?_) (a':=?_) #[true,true,true,true,false,false,false,false,false,false,false,false,false] rfl rfl (any_of HT_.out (by kernel_rfl)) (fun _ _ _ h=>h) (Or.inl ⟨zq138,?_⟩) ?_ ?_
     rotate_left
     ·intro w'
      go_simp
      with_reducible rfl
     rotate_left
     ·simp only[Act.put,List.setIfInBounds_toArray,List.set_cons_zero,List.set_cons_succ,i64_w,i32_w]
      rfl
     refine pure_ (i:=4) (N:=some 23) (v:=?_) (a':=?_) #[true,true,true,true,true,false,false,false,false,false,false,false,false] rfl rfl (any_of HT_.out (by kernel_rfl)) (fun _ _ _ h=>h) (Or.inl ⟨zq138,?_⟩) ?_ ?_
     rotate_left
     ·intro w'
      go_simp
      with_reducible rfl
     rotate_left
     ·simp only[Act.put,List.setIfInBounds_toArray,List.set_cons_zero,List.set_cons_succ,i64_w,i32_w]
      rfl
     refine pure_ (i:=5) (N:=some 24) (v:=?_) (a':=?_) #[true,true,true,true,true,true,false,false,false,false,false,false,false] rfl rfl (any_of HT_.out (by kernel_rfl)) (fun _ _ _ h=>h) (Or.inl ⟨zq138,?_⟩) ?_ ?_
     rotate_left
     ·intro w'
      go_simp
      with_reducible rfl
     rotate_left
     ·simp only[Act.put,List.setIfInBounds_toArray,List.set_cons_zero,List.set_cons_succ,i64_w,i32_w]
      rfl
     refine pure_ (i:=8) (N:=some 27) (v:=?_) (a':=?_) #[true,true,true,true,true,true,false,false,true,false,false,false,false] rfl rfl (any_of HT_.out (by kernel_rfl)) (fun _ _ _ h=>h) (Or.inl ⟨zq138,?_⟩) ?_ ?_
     rotate_left
     ·intro w'
      go_simp
      with_reducible rfl
     rotate_left
     ·simp only[Act.put,List.setIfInBounds_toArray,List.set_cons_zero,List.set_cons_succ,i64_w,i32_w]
      rfl
     refine pure_ (i:=9) (N:=some 28) (v:=?_) (a':=?_) #[true,true,true,true,true,true,false,false,true,true,false,false,false] rfl rfl (any_of HT_.out (by kernel_rfl)) (fun _ _ _ h=>h) (Or.inl ⟨zq138,?_⟩) ?_ ?_
     rotate_left
     ·intro w'
      go_simp
      with_reducible rfl
     rotate_left
     ·simp only[Act.put,List.setIfInBounds_toArray,List.set_cons_zero,List.set_cons_succ,i64_w,i32_w]
      rfl
     refine pure_ (i:=10) (N:=some 29) (v:=?_) (a':=?_) #[true,true,true,true,true,true,false,false,true,true,true,false,false] rfl rfl (any_of HT_.out (by kernel_rfl)) (fun _ _ _ h=>h) (Or.inl ⟨zq138,?_⟩) ?_ ?_
     rotate_left
     ·intro w'
      go_simp
      with_reducible rfl
     rotate_left
     ·simp only[Act.put,List.setIfInBounds_toArray,List.set_cons_zero,List.set_cons_succ,i64_w,i32_w]
      rfl
     refine take_ (i:=11) (N:=some 30) (v:=?_) (a':=?_) #[true,true,true,true,true,true,false,false,true,true,true,true,false] rfl rfl (take_ofW HT_.out HW_.out (by kernel_rfl)) (fun _ _ _ h=>h) (Or.inl ⟨zq138,?_⟩) hHeld ?_ ?_
     rotate_left
     ·intro w' s0
      go_simp
      with_reducible rfl
     rotate_left
     ·simp only[Act.put,List.setIfInBounds_toArray,List.set_cons_zero,List.set_cons_succ,i64_w,i32_w]
      rfl
     refine one_ (i:=6) (N:=some 25) #[true,true,true,true,true,true,true,false,true,true,true,true,false] rfl rfl (one_of HT_.out (by kernel_rfl)) zq22 (fun K hK=>?_)
     refine goes_ Try.func68 (by kernel_rfl) rfl #[.slice Ao20 t516.length co20,.slice A1 l1.length c1,.slice A2 l2.length c2,.slice A3 (l3.take ((ji7):Int).toNat).length c3] zq138 rfl rfl zq99 ?_
     with_reducible refine(spec_l3Tag.calls k _ _ t516 _ _ l1 _ _ l2 _ _ (l3.take ((ji7):Int).toNat) t520 _ ?side1 ?side2 ?side3 ?side4 ?side5 ?side6 ?side7 ?side8 A10.out).mono ?_
     (case side1=>exact zq168)
     (case side2=>exact(Kd.R_reads' HO518.out).2.1)
     (case side3=>exact zq28)
     (case side4=>exact HC1.out)
     (case side5=>exact zq29)
     (case side6=>exact HC2.out)
     (case side7=>exact zq198)
     (case side8=>exact HC519.out)
     rintro e w24 ⟨v521,rfl,ho0,hb⟩
     refine⟨_,rfl,?_⟩
     have n0_:=zM (Kd.R_elder' zq64 (Kd.R_base ho0) hb)
     have n1_:=zM (Kd.R_lower (Kd.R_new' ho0 (Kd.R_lt zq64)) (below_size zq0))
     have n2_:=zM (below_step zq0 hb)
     clear HO518
     clear HB
     have HO518:=n0_
     have HO522:=n1_
     have HB:=n2_
     clear n0_ n1_ n2_
     (try clear hb)
     (try clear hb2)
     (try clear hk)
     (try clear hi)
     (try clear ho0)
     refine hK.out _ _ zq148 (fun hHeld=>?_)
     clear hK K
     refine norm_ (a':=?_) ?_ ?_
     rotate_left
     ·show Act.put _ (some 25) _=_
      simp only[Act.put,List.setIfInBounds_toArray,List.set_cons_zero,List.set_cons_succ,i64_w,i32_w]
      rfl
     refine one_ (i:=7) (N:=some 26) #[true,true,true,true,true,true,true,true,true,true,true,true,false] rfl rfl (one_of HT_.out (by kernel_rfl)) zq22 (fun K hK=>?_)
     have hcv25:=own_string (P:=Try.prog) Try.underlying22 Try.underlying5 Try.underlying9 (Kd.own_of_R HO522.out)
     refine value_ (w1:=?_) (v:=?_) zq138 rfl ?_ ?_
     rotate_left 2
     ·go_simp
      constructor
      ·rfl
      ·rfl
     clear hcv25
     refine hK.out _ _ zq148 (fun hHeld=>?_)
     clear hK K
     refine norm_ (a':=?_) ?_ ?_
     rotate_left
     ·show Act.put _ (some 26) _=_
      simp only[Act.put,List.setIfInBounds_toArray,List.set_cons_zero,List.set_cons_succ,i64_w,i32_w]
      rfl
     refine pure_ (i:=12) (N:=some 31) (v:=?_) (a':=?_) #[true,true,true,true,true,true,true,true,true,true,true,true,true] rfl rfl (any_of HT_.out (by kernel_rfl)) (fun _ _ _ h=>h) (Or.inl ⟨zq138,?_⟩) ?_ ?_
     rotate_left
     ·intro w'
      go_simp
      with_reducible rfl
     rotate_left
     ·simp only[Act.put,List.setIfInBounds_toArray,List.set_cons_zero,List.set_cons_succ,i64_w,i32_w]
      rfl
     refine done_ (done_of HT_.out (by kernel_rfl)) ?_
     try go_wp2
     have n0_:=zM (Kd.R_drew HO518.out)
     have n1_:=zM (Kd.R_drew HO522.out)
     have n2_:=zM (below_drew1 HB.out)
     clear HO518
     clear HO522
     clear HB
     have HO518:=n0_
     have HO522:=n1_
     have HB:=n2_
     clear n0_ n1_ n2_
     obtain⟨i029,hi029,_,hsz29,_⟩:=info_parts info5
     obtain⟨hcut29,hA29,hC29⟩:=print_take_of (P:=Try.prog) (Value.int .u8) 0 22 5 .i64 Try.underlying22 hi029 hsz29 A3 c3 l3 (ji7) (of_decide_eq_true zq7) (of_decide_eq_true zq7) HC3.out
     have HR530:=zM (Kd.C_of_reads (h1:=fun _=>rfl) (hA29 _ (Kd.reads_of_C HR3.out)))
     have HC530:=zM hC29
     clear hA29 hC29 hi029 hsz29
     refine start_ (n:=10) (S:=fun w'=>True) (ds:=[]) #[false,false,false,false,false,false,false,false,false,false] (by kernel_rfl) rfl rfl trivial (fun hHeld=>?_);refine with_tabW spec_l3Open.tab7 spec_l3Open.bits7 (fun HT_ HW_=>?_)
     generalize w24.drew=w28 at HO518 HO522 HB HR530 hHeld ⊢
     refine pure_ (i:=0) (N:=some 32) (v:=?_) (a':=?_) #[true,false,false,false,false,false,false,false,false,false] rfl rfl (any_of HT_.out (by kernel_rfl)) (fun _ _ _ h=>h) (Or.inl ⟨zq138,?_⟩) ?_ ?_
     rotate_left
     ·intro w'
      go_simp
      with_reducible rfl
     rotate_left
     ·simp only[Act.put,List.setIfInBounds_toArray,List.set_cons_zero,List.set_cons_succ,i64_w,i32_w]
      rfl
     refine pure_ (i:=1) (N:=some 33) (v:=?_) (a':=?_) #[true,true,false,false,false,false,false,false,false,false] rfl rfl (any_of HT_.out (by kernel_rfl)) (fun _ _ _ h=>h) (Or.inl ⟨zq138,?_⟩) ?_ ?_
     rotate_left
     ·intro w'
      go_simp
      with_reducible rfl
     rotate_left
     ·simp only[Act.put,List.setIfInBounds_toArray,List.set_cons_zero,List.set_cons_succ,i64_w,i32_w]
      rfl
     refine pure_ (i:=4) (N:=some 36) (v:=?_) (a':=?_) #[true,true,false,false,true,false,false,false,false,false] rfl rfl (any_of HT_.out (by kernel_rfl)) (fun _ _ _ h=>h) (Or.inl ⟨zq138,?_⟩) ?_ ?_
     rotate_left
     ·intro w'
      go_simp
      with_reducible rfl
     rotate_left
     ·simp only[Act.put,List.setIfInBounds_toArray,List.set_cons_zero,List.set_cons_succ,i64_w,i32_w]
      rfl
     refine pure_ (i:=5) (N:=some 37) (v:=?_) (a':=?_) #[true,true,false,false,true,true,false,false,false,false] rfl rfl (any_of HT_.out (by kernel_rfl)) (fun _ _ _ h=>h) (Or.inl ⟨zq138,?_⟩) ?_ ?_
     rotate_left
     ·intro w'
      go_simp
      with_reducible rfl
     rotate_left
     ·simp only[Act.put,List.setIfInBounds_toArray,List.set_cons_zero,List.set_cons_succ,i64_w,i32_w]
      rfl
     refine pure_ (i:=6) (N:=some 38) (v:=?_) (a':=?_) #[true,true,false,false,true,true,true,false,false,false] rfl rfl (any_of HT_.out (by kernel_rfl)) (fun _ _ _ h=>h) (Or.inl ⟨zq138,?_⟩) ?_ ?_
     rotate_left
     ·intro w'
      go_simp
      with_reducible rfl
     rotate_left
     ·simp only[Act.put,List.setIfInBounds_toArray,List.set_cons_zero,List.set_cons_succ,i64_w,i32_w]
      rfl
     refine one_ (i:=2) (N:=some 34) #[true,true,true,false,true,true,true,false,false,false] rfl rfl (one_of HT_.out (by kernel_rfl)) zq22 (fun K hK=>?_)
     refine goes_ Try.func67 (by kernel_rfl) rfl #[.slice A1 l1.length c1] zq138 rfl rfl zq1 ?_
     with_reducible refine(spec_l3First.calls _ _ l1 t524 _ ?side1 ?side2 A14.out).mono ?_
     (case side1=>exact zq28)
     (case side2=>exact HC1.out)
     rintro e w30 ⟨v525,rfl,ho0,hb⟩
     refine⟨_,rfl,?_⟩
     have n0_:=zM (Kd.R_elder' zq64 (Kd.R_base ho0) hb)
     have n1_:=zM (Kd.R_elder' zq120 (Kd.R_base ho0) hb)
     have n2_:=zM (Kd.R_lower (Kd.R_new' (Kd.R_new' ho0 (Kd.R_lt zq64)) (Kd.R_lt zq120)) (below_size zq0))
     have n3_:=zM (below_step zq0 hb)
     clear HO518
     clear HO522
     clear HB
     have HO518:=n0_
     have HO522:=n1_
     have HO526:=n2_
     have HB:=n3_
     clear n0_ n1_ n2_ n3_
     (try clear hb)
     (try clear hb2)
     (try clear hk)
     (try clear hi)
     (try clear ho0)
     obtain⟨Ao31,co31,eo31⟩:=Kd.R_slice HO526.out
     (first|subst eo31|(injection eo31 with f1_ f2_ f3_;have f4_:=f1_.symm;have f5_:=f3_.symm;clear f1_ f2_ f3_;subst f4_;subst f5_))
     refine hK.out _ _ trivial (fun hHeld=>?_)
     clear hK K
     refine norm_ (a':=?_) ?_ ?_
     rotate_left
     ·show Act.put _ (some 34) _=_
      simp only[Act.put,List.setIfInBounds_toArray,List.set_cons_zero,List.set_cons_succ,i64_w,i32_w]
      rfl
     refine one_ (i:=3) (N:=some 35) #[true,true,true,true,true,true,true,false,false,false] rfl rfl (one_of HT_.out (by kernel_rfl)) zq22 (fun K hK=>?_)
     refine goes_ Try.func66 (by kernel_rfl) rfl #[.slice Ao31 t524.length co31] zq138 rfl rfl zq1 ?_
     with_reducible refine(spec_l3Count.calls k _ _ t524 t527 _ ?side1 ?side2 A15.out).mono ?_
     (case side1=>repeat (first|exact(Kd.R_reads' HO526.out).2.2|(with_reducible refine Kd.C_alloc ?_ _)|(with_reducible refine Kd.C_drewN ?_ _)|(with_reducible refine Kd.C_drew ?_)))
     (case side2=>exact(Kd.R_reads' HO526.out).2.1)
     rintro e w32 ⟨v528,rfl,ho0,hb⟩
     refine⟨_,rfl,?_⟩
     have n0_:=zM (Kd.R_elder' zq64 (Kd.R_base ho0) hb)
     have n1_:=zM (Kd.R_elder' zq120 (Kd.R_base ho0) hb)
     have n2_:=zM (Kd.R_elder' zq159 (Kd.R_base ho0) hb)
     have n3_:=zM (Kd.R_lower (Kd.R_new' (Kd.R_new' (Kd.R_new' ho0 (Kd.R_lt zq64)) (Kd.R_lt zq120)) (Kd.R_lt zq159)) (below_size zq0))
     have n4_:=zM (below_step zq0 hb)
     clear HO518
     clear HO522
     clear HO526
     clear HB
     have HO518:=n0_
     have HO522:=n1_
     have HO526:=n2_
     have HO529:=n3_
     have HB:=n4_
     clear n0_ n1_ n2_ n3_ n4_
     (try clear hb)
     (try clear hb2)
     (try clear hk)
     (try clear hi)
     (try clear ho0)
     obtain⟨Ao33,co33,eo33⟩:=Kd.R_slice HO529.out
     (first|subst eo33|(injection eo33 with f1_ f2_ f3_;have f4_:=f1_.symm;have f5_:=f3_.symm;clear f1_ f2_ f3_;subst f4_;subst f5_))
     refine hK.out _ _ trivial (fun hHeld=>?_)
     clear hK K
     refine norm_ (a':=?_) ?_ ?_
     rotate_left
     ·show Act.put _ (some 35) _=_
      simp only[Act.put,List.setIfInBounds_toArray,List.set_cons_zero,List.set_cons_succ,i64_w,i32_w]
      rfl
     refine one_ (i:=7) (N:=some 39) #[true,true,true,true,true,true,true,true,false,false] rfl rfl (one_of HT_.out (by kernel_rfl)) zq22 (fun K hK=>?_)
     refine goes_ Try.func65 (by kernel_rfl) rfl #[.slice Ao20 t516.length co20,.slice Ao33 t527.length co33,.slice A3 (l3.take ((ji7):Int).toNat).length c3] zq138 rfl rfl zq99 ?_
     with_reducible refine(spec_l3Stream.calls k _ _ t516 (fun k_=>some k_=(.slice Ao33 t527.length co33:Value).ownBlock) _ _ t527 _ _ (l3.take ((ji7):Int).toNat) t531 _ ?side1 ?side2 ?side3 ?side4 ?side5 A18.out).mono ?_
     (case side1=>exact zq168)
     (case side2=>exact(Kd.R_reads' HO518.out).2.1)
     (case side3=>exact Kd.R_V (Kd.R_tight rfl (HO529.out)))
     (case side4=>repeat (first|exact(Kd.C_below HR530.out HB.out)|(with_reducible refine Kd.C_alloc ?_ _)|(with_reducible refine Kd.C_drewN ?_ _)|(with_reducible refine Kd.C_drew ?_)))
     (case side5=>exact HC530.out)
     rintro e w34 ⟨v532,rfl,ho0,hb⟩
     refine⟨_,rfl,?_⟩
     have n0_:=zM (Kd.R_elder' zq64 (Kd.R_base ho0) hb)
     have n1_:=zM (Kd.R_elder' zq120 (Kd.R_base ho0) hb)
     have n2_:=zM (Kd.R_elder' zq159 (Kd.R_base ho0) hb)
     have n3_:=zM (Kd.R_elder' (by(with_reducible repeat (first|apply Kd.R_alloc|apply Kd.R_drewN|apply Kd.R_drew));exact HO529.out) (Kd.R_base ho0) hb)
     have n4_:=zM (Kd.R_lower (Kd.R_new' (Kd.R_new' (Kd.R_new' (Kd.R_new' (Kd.R_mono (ok':=fun k_=>True) ho0 (fun _ hk_=>trivial)) (Kd.R_lt zq64)) (Kd.R_lt zq120)) (Kd.R_lt zq159)) (Kd.R_lt (by(with_reducible repeat (first|apply Kd.R_alloc|apply Kd.R_drewN|apply Kd.R_drew));exact HO529.out))) (below_size zq0))
     have n5_:=zM (below_step zq0 hb)
     clear HO518
     clear HO522
     clear HO526
     clear HO529
     clear HB
     have HO518:=n0_
     have HO522:=n1_
     have HO526:=n2_
     have HO529:=n3_
     have HO533:=n4_
     have HB:=n5_
     clear n0_ n1_ n2_ n3_ n4_ n5_
     (try clear hb)
     (try clear hb2)
     (try clear hk)
     (try clear hi)
     (try clear ho0)
     refine hK.out _ _ trivial (fun hHeld=>?_)
     clear hK K
     refine norm_ (a':=?_) ?_ ?_
     rotate_left
     ·show Act.put _ (some 39) _=_
      simp only[Act.put,List.setIfInBounds_toArray,List.set_cons_zero,List.set_cons_succ,i64_w,i32_w]
      rfl
     refine pure_ (i:=8) (N:=some 8) (v:=?_) (a':=?_) #[true,true,true,true,true,true,true,true,true,false] rfl rfl (any_of HT_.out (by kernel_rfl)) (fun _ _ _ h=>h) (Or.inl ⟨zq138,?_⟩) ?_ ?_
     rotate_left
     ·intro w'
      go_simp
      with_reducible rfl
     rotate_left
     ·simp only[Act.put,List.setIfInBounds_toArray,List.set_cons_zero,List.set_cons_succ,i64_w,i32_w]
      rfl
     refine pure_ (i:=9) (N:=some 9) (v:=?_) (a':=?_) #[true,true,true,true,true,true,true,true,true,true] rfl rfl (any_of HT_.out (by kernel_rfl)) (fun _ _ _ h=>h) (Or.inl ⟨zq138,?_⟩) ?_ ?_
     rotate_left
     ·intro w'
      go_simp
      with_reducible rfl
     rotate_left
     ·simp only[Act.put,List.setIfInBounds_toArray,List.set_cons_zero,List.set_cons_succ,i64_w,i32_w]
      rfl
     refine done_ (done_of HT_.out (by kernel_rfl)) ?_
     try go_wp2
     go_ret2
     exact⟨_,zq187,by(with_reducible repeat (first|apply Kd.R_alloc|apply Kd.R_drewN|apply Kd.R_drew));exact Kd.R_mono HO533.out (fun _ hk=>trivial),zq0⟩
    ·rw[if_neg c13] at H
     have c13b0:((strOfNums t520).toList == (strOfNums (l3.drop ((ji7):Int).toNat)).toList)=false:=beq_eq_false_iff_ne.mpr c13
     have c13b1:((strOfNums t520).toList != (strOfNums (l3.drop ((ji7):Int).toNat)).toList)=true:=bne_iff_ne.mpr c13
     simp only[Option.some.injEq,Prod.mk.injEq] at H
     obtain⟨rfl,rfl⟩:=H
     go_enter Try.func57,Try.ntmps57
     try go_wp2_with (first|((with_reducible refine gate_callee (f:=34) rfl ?_);refine goesL_ (some 18) rfl rfl Try.func34 (by kernel_rfl) rfl #[.slice A0 l0.length c0] rfl zq1 ?_;(with_reducible refine(spec_l2Keys.calls _ _ l0 t516 _ ?side1 ?side2 A6.out).mono ?_);(case side1=>exact zq89);(case side2=>exact HC0.out);rintro e w35 ⟨v517,rfl,ho0,hb⟩;refine⟨_,rfl,?_⟩;have n0_:=zM (Kd.R_lower ho0 (below_size zq0));have n1_:=zM (below_step zq0 hb);clear HB;have HO518:=n0_;have HB:=n1_;clear n0_ n1_;(try clear hb);(try clear hb2);(try clear hk);(try clear hi);(try clear ho0);obtain⟨Ao36,co36,eo36⟩:=Kd.R_slice HO518.out;subst eo36))
     have n0_:=zM (Kd.R_drew HO518.out)
     have n1_:=zM (below_drew1 HB.out)
     clear HO518
     clear HB
     have HO518:=n0_
     have HB:=n1_
     clear n0_ n1_
     obtain⟨i038,hi038,_,hsz38,_⟩:=info_parts info5
     obtain⟨hcut38,hA38,hC38⟩:=print_take_of (P:=Try.prog) (Value.int .u8) 0 22 5 .i64 Try.underlying22 hi038 hsz38 A3 c3 l3 (ji7) (of_decide_eq_true zq7) (of_decide_eq_true zq7) HC3.out
     have HR519:=zM (Kd.C_of_reads (h1:=fun _=>rfl) (hA38 _ (Kd.reads_of_C HR3.out)))
     have HC519:=zM hC38
     clear hA38 hC38 hi038 hsz38
     obtain⟨i039,hi039,_,hsz39,_⟩:=info_parts info5
     obtain⟨A39,hcut39,hA39,hC39⟩:=print_drop_of (P:=Try.prog) (Value.int .u8) 0 22 5 .i64 Try.underlying22 hi039 hsz39 A3 c3 l3 (ji7) (of_decide_eq_true zq7) (of_decide_eq_true zq7) HC3.out
     have HR523:=zM (Kd.C_of_reads (h1:=fun _=>rfl) (hA39 _ (Kd.reads_of_C HR3.out)))
     have HC523:=zM hC39
     clear hA39 hC39 hi039 hsz39
     refine start_ (n:=13) (S:=fun w'=>Sem.run Try.prog (convert 22 9 (Value.slice A39 (l3.length - (ji7).toNat) (c3 - (ji7).toNat))) w'=.ok (.string (strOfNums (l3.drop ((ji7):Int).toNat))) w') (ds:=[]) #[false,false,false,false,false,false,false,false,false,false,false,false,false] (by kernel_rfl) rfl rfl zq149 (fun hHeld=>?_);refine with_tabW spec_l3Open.tab5 spec_l3Open.bits5 (fun HT_ HW_=>?_)
     generalize w35.drew=w37 at HO518 HB HR519 HR523 hHeld ⊢
     refine pure_ (i:=0) (N:=some 19) (v:=?_) (a':=?_) #[true,false,false,false,false,false,false,false,false,false,false,false,false] rfl rfl (any_of HT_.out (by kernel_rfl)) (fun _ _ _ h=>h) (Or.inl ⟨zq138,?_⟩) ?_ ?_
     rotate_left
     ·intro w'
      go_simp
      with_reducible rfl
     rotate_left
     ·simp only[Act.put,List.setIfInBounds_toArray,List.set_cons_zero,List.set_cons_succ,i64_w,i32_w]
      rfl
     refine pure_ (i:=1) (N:=some 20) (v:=?_) (a':=?_) #[true,true,false,false,false,false,false,false,false,false,false,false,false] rfl rfl (any_of HT_.out (by kernel_rfl)) (fun _ _ _ h=>h) (Or.inl ⟨zq138,?_⟩) ?_ ?_
     rotate_left
     ·intro w'
      go_simp
      with_reducible rfl
     rotate_left
     ·simp only[Act.put,List.setIfInBounds_toArray,List.set_cons_zero,List.set_cons_succ,i64_w,i32_w]
      rfl
     refine pure_ (i:=2) (N:=some 21) (v:=?_) (a':=?_) #[true,true,true,false,false,false,false,false,false,false,false,false,false] rfl rfl (any_of HT_.out (by kernel_rfl)) (fun _ _ _ h=>h) (Or.inl ⟨zq138,?_⟩) ?_ ?_
     rotate_left
     ·intro w'
      go_simp
      with_reducible rfl
     rotate_left
     ·simp only[Act.put,List.setIfInBounds_toArray,List.set_cons_zero,List.set_cons_succ,i64_w,i32_w]
      rfl
     refine pure_ (i:=3) (N:=some 22) (v:=?_) (a':=?_) #[true,true,true,true,false,false,false,false,false,false,false,false,false] rfl rfl (any_of HT_.out (by kernel_rfl)) (fun _ _ _ h=>h) (Or.inl ⟨zq138,?_⟩) ?_ ?_
     rotate_left
     ·intro w'
      go_simp
      with_reducible rfl
     rotate_left
     ·simp only[Act.put,List.setIfInBounds_toArray,List.set_cons_zero,List.set_cons_succ,i64_w,i32_w]
      rfl
     refine pure_ (i:=4) (N:=some 23) (v:=?_) (a':=?_) #[true,true,true,true,true,false,false,false,false,false,false,false,false] rfl rfl (any_of HT_.out (by kernel_rfl)) (fun _ _ _ h=>h) (Or.inl ⟨zq138,?_⟩) ?_ ?_
     rotate_left
     ·intro w'
      go_simp
      with_reducible rfl
     rotate_left
     ·simp only[Act.put,List.setIfInBounds_toArray,List.set_cons_zero,List.set_cons_succ,i64_w,i32_w]
      rfl
     refine pure_ (i:=5) (N:=some 24) (v:=?_) (a':=?_) #[true,true,true,true,true,true,false,false,false,false,false,false,false] rfl rfl (any_of HT_.out (by kernel_rfl)) (fun _ _ _ h=>h) (Or.inl ⟨zq138,?_⟩) ?_ ?_
     rotate_left
     ·intro w'
      go_simp
      with_reducible rfl
     rotate_left
     ·simp only[Act.put,List.setIfInBounds_toArray,List.set_cons_zero,List.set_cons_succ,i64_w,i32_w]
      rfl
     refine pure_ (i:=8) (N:=some 27) (v:=?_) (a':=?_) #[true,true,true,true,true,true,false,false,true,false,false,false,false] rfl rfl (any_of HT_.out (by kernel_rfl)) (fun _ _ _ h=>h) (Or.inl ⟨zq138,?_⟩) ?_ ?_
     rotate_left
     ·intro w'
      go_simp
      with_reducible rfl
     rotate_left
     ·simp only[Act.put,List.setIfInBounds_toArray,List.set_cons_zero,List.set_cons_succ,i64_w,i32_w]
      rfl
     refine pure_ (i:=9) (N:=some 28) (v:=?_) (a':=?_) #[true,true,true,true,true,true,false,false,true,true,false,false,false] rfl rfl (any_of HT_.out (by kernel_rfl)) (fun _ _ _ h=>h) (Or.inl ⟨zq138,?_⟩) ?_ ?_
     rotate_left
     ·intro w'
      go_simp
      with_reducible rfl
     rotate_left
     ·simp only[Act.put,List.setIfInBounds_toArray,List.set_cons_zero,List.set_cons_succ,i64_w,i32_w]
      rfl
     refine pure_ (i:=10) (N:=some 29) (v:=?_) (a':=?_) #[true,true,true,true,true,true,false,false,true,true,true,false,false] rfl rfl (any_of HT_.out (by kernel_rfl)) (fun _ _ _ h=>h) (Or.inl ⟨zq138,?_⟩) ?_ ?_
     rotate_left
     ·intro w'
      go_simp
      with_reducible rfl
     rotate_left
     ·simp only[Act.put,List.setIfInBounds_toArray,List.set_cons_zero,List.set_cons_succ,i64_w,i32_w]
      rfl
     refine take_ (i:=11) (N:=some 30) (v:=?_) (a':=?_) #[true,true,true,true,true,true,false,false,true,true,true,true,false] rfl rfl (take_ofW HT_.out HW_.out (by kernel_rfl)) (fun _ _ _ h=>h) (Or.inl ⟨zq138,?_⟩) hHeld ?_ ?_
     rotate_left
     ·intro w' s0
      go_simp
      with_reducible rfl
     rotate_left
     ·simp only[Act.put,List.setIfInBounds_toArray,List.set_cons_zero,List.set_cons_succ,i64_w,i32_w]
      rfl
     refine one_ (i:=6) (N:=some 25) #[true,true,true,true,true,true,true,false,true,true,true,true,false] rfl rfl (one_of HT_.out (by kernel_rfl)) zq22 (fun K hK=>?_)
     refine goes_ Try.func68 (by kernel_rfl) rfl #[.slice Ao36 t516.length co36,.slice A1 l1.length c1,.slice A2 l2.length c2,.slice A3 (l3.take ((ji7):Int).toNat).length c3] zq138 rfl rfl zq99 ?_
     with_reducible refine(spec_l3Tag.calls k _ _ t516 _ _ l1 _ _ l2 _ _ (l3.take ((ji7):Int).toNat) t520 _ ?side1 ?side2 ?side3 ?side4 ?side5 ?side6 ?side7 ?side8 A10.out).mono ?_
     (case side1=>exact zq168)
     (case side2=>exact(Kd.R_reads' HO518.out).2.1)
     (case side3=>exact zq28)
     (case side4=>exact HC1.out)
     (case side5=>exact zq29)
     (case side6=>exact HC2.out)
     (case side7=>exact zq198)
     (case side8=>exact HC519.out)
     rintro e w40 ⟨v521,rfl,ho0,hb⟩
     refine⟨_,rfl,?_⟩
     have n0_:=zM (Kd.R_elder' zq64 (Kd.R_base ho0) hb)
     have n1_:=zM (Kd.R_lower (Kd.R_new' ho0 (Kd.R_lt zq64)) (below_size zq0))
     have n2_:=zM (below_step zq0 hb)
     clear HO518
     clear HB
     have HO518:=n0_
     have HO522:=n1_
     have HB:=n2_
     clear n0_ n1_ n2_
     (try clear hb)
     (try clear hb2)
     (try clear hk)
     (try clear hi)
     (try clear ho0)
     refine hK.out _ _ zq149 (fun hHeld=>?_)
     clear hK K
     refine norm_ (a':=?_) ?_ ?_
     rotate_left
     ·show Act.put _ (some 25) _=_
      simp only[Act.put,List.setIfInBounds_toArray,List.set_cons_zero,List.set_cons_succ,i64_w,i32_w]
      rfl
     refine one_ (i:=7) (N:=some 26) #[true,true,true,true,true,true,true,true,true,true,true,true,false] rfl rfl (one_of HT_.out (by kernel_rfl)) zq22 (fun K hK=>?_)
     have hcv41:=own_string (P:=Try.prog) Try.underlying22 Try.underlying5 Try.underlying9 (Kd.own_of_R HO522.out)
     refine value_ (w1:=?_) (v:=?_) zq138 rfl ?_ ?_
     rotate_left 2
     ·go_simp
      constructor
      ·rfl
      ·rfl
     clear hcv41
     refine hK.out _ _ zq149 (fun hHeld=>?_)
     clear hK K
     refine norm_ (a':=?_) ?_ ?_
     rotate_left
     ·show Act.put _ (some 26) _=_
      simp only[Act.put,List.setIfInBounds_toArray,List.set_cons_zero,List.set_cons_succ,i64_w,i32_w]
      rfl
     refine pure_ (i:=12) (N:=some 31) (v:=?_) (a':=?_) #[true,true,true,true,true,true,true,true,true,true,true,true,true] rfl rfl (any_of HT_.out (by kernel_rfl)) (fun _ _ _ h=>h) (Or.inl ⟨zq138,?_⟩) ?_ ?_
     rotate_left
     ·intro w'
      go_simp
      with_reducible rfl
     rotate_left
     ·simp only[Act.put,List.setIfInBounds_toArray,List.set_cons_zero,List.set_cons_succ,i64_w,i32_w]
      rfl
     refine done_ (done_of HT_.out (by kernel_rfl)) ?_
     try go_wp2
     go_ret2
     exact⟨_,zq187,zq100,zq0⟩
   ·rw[if_neg c9] at H
    exact absurd H zq101
  ·rw[if_neg c8] at H
   exact absurd H zq101
end Go.Proofs.Ytkjgdndaepobiaa.All
