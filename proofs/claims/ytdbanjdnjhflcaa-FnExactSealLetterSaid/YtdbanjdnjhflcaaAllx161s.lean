-- Laid by wip/shake.py of this repo out of this claim's texts. Not trusted: Lean checks it.
import Derived.Test.YtdbanjdnjhflcaaAb0s
import Derived.Test.YtdbanjdnjhflcaaAlgs
import Derived.Test.YtdbanjdnjhflcaaAllx42s
import Derived.Test.YtdbanjdnjhflcaaAllx532s
set_option linter.unusedSimpArgs false
set_option linter.unusedVariables false
namespace Go.Proofs.Ytdbanjdnjhflcaa.All
open Go.Proofs.YtdbanjdnjhflcaaW.PrintWords.Aside0 renaming mk→zM
open Go.RowKit Go.Proofs.YtdbanjdnjhflcaaW.PrintWords Go.Proofs.YtdbanjdnjhflcaaW.PrintLast Go.Proofs.YtdbanjdnjhflcaaW.PrintMore
attribute [local go_sem] max2_int min2_int max_two min_two max_three min_three max_four min_four
mutual
def spec_l3Stream.l0:Nat→List Int→List Int→List Int→List Int→Int→Option (List Int)
 | 0,_,_,_,_,_=>none
 | k+1,x0,x1,x2,x7,x8=>if x8 < (x2.length:Int) then ((spec_l2Encrypt.f x0 x1).bind fun t139=>(spec_l3Stream.l1 k x0 x1 x2 x7 x8 t139 0)) else (some x7)
def spec_l3Stream.l1:Nat→List Int→List Int→List Int→List Int→Int→List Int→Int→Option (List Int)
 | 0,_,_,_,_,_,_,_=>none
 | k+1,x0,x1,x2,x7,x8,x9,x10=>if x10 < 16 then (if (wrap64 (x8+x10)) < (x2.length:Int) then (if 0≤(wrap64 (x8+x10)) then (if 0≤x10 then (if x10 < (x9.length:Int) then (if x7.length < 140737488355328 then (spec_l3Stream.l1 k x0 x1 x2 (x7 ++ [Go.bits .xor .u8 (rd x2 (wrap64 (x8+x10))) (rd x9 x10)]) x8 x9 (wrap64 (x10+1))) else (none)) else (none)) else (none)) else (none)) else ((spec_l3Count.f k x1).bind fun t147=>(spec_l3Stream.l0 k x0 t147 x2 x7 (wrap64 (x8+16))))) else ((spec_l3Count.f k x1).bind fun t150=>(spec_l3Stream.l0 k x0 t150 x2 x7 (wrap64 (x8+16))))
end
def spec_l3Stream.f (k:Nat) (l0:List Int) (l1:List Int) (l2:List Int):Option (List Int):=spec_l3Stream.l0 k l0 l1 l2 (([]:List Int)) 0
theorem spec_l3Stream.mono_l:∀ k,(∀ y0 y1 y2 y3 y4,LeO (spec_l3Stream.l0 k y0 y1 y2 y3 y4) (spec_l3Stream.l0 (k+1) y0 y1 y2 y3 y4))∧(∀ y0 y1 y2 y3 y4 y5 y6,LeO (spec_l3Stream.l1 k y0 y1 y2 y3 y4 y5 y6) (spec_l3Stream.l1 (k+1) y0 y1 y2 y3 y4 y5 y6))
 | 0=>⟨fun _ _ _ _ _ r h=>by simp[spec_l3Stream.l0] at h,fun _ _ _ _ _ _ _ r h=>by simp[spec_l3Stream.l1] at h⟩
 | k+1=>by
  obtain⟨ih0,ih1⟩:=spec_l3Stream.mono_l k
  refine⟨?_,?_⟩
  ·intro y0 y1 y2 y3 y4
   unfold spec_l3Stream.l0
   repeat' first
   | (with_reducible exact ih0 _ _ _ _ _)
   | (with_reducible exact ih1 _ _ _ _ _ _ _)
   | (with_reducible exact spec_l3Count.mono _ _)
   | (with_reducible exact LeO.refl _)
   | (with_reducible exact LeO.none _)
   | (with_reducible refine LeO.ite ?_ ?_)
   | (with_reducible refine LeO.bind ?_ (fun _=>?_))
   | exact ih0 _ _ _ _ _
   | exact ih1 _ _ _ _ _ _ _
   | exact spec_l3Count.mono _ _
   | exact LeO.none _
   | refine LeO.ite ?_ ?_
   | refine LeO.bind ?_ (fun _=>?_)
  ·intro y0 y1 y2 y3 y4 y5 y6
   unfold spec_l3Stream.l1
   repeat' first
   | (with_reducible exact ih0 _ _ _ _ _)
   | (with_reducible exact ih1 _ _ _ _ _ _ _)
   | (with_reducible exact spec_l3Count.mono _ _)
   | (with_reducible exact LeO.refl _)
   | (with_reducible exact LeO.none _)
   | (with_reducible refine LeO.ite ?_ ?_)
   | (with_reducible refine LeO.bind ?_ (fun _=>?_))
   | exact ih0 _ _ _ _ _
   | exact ih1 _ _ _ _ _ _ _
   | exact spec_l3Count.mono _ _
   | exact LeO.none _
   | refine LeO.ite ?_ ?_
   | refine LeO.bind ?_ (fun _=>?_)
theorem spec_l3Stream.mono:∀ a0 a1 a2 k,LeO (spec_l3Stream.f k a0 a1 a2) (spec_l3Stream.f (k+1) a0 a1 a2):=by
 intro a0 a1 a2 k
 obtain⟨ih0,ih1⟩:=spec_l3Stream.mono_l k
 unfold spec_l3Stream.f
 repeat' first
   | (with_reducible exact ih0 _ _ _ _ _)
   | (with_reducible exact ih1 _ _ _ _ _ _ _)
   | (with_reducible exact spec_l3Count.mono _ _)
   | (with_reducible exact LeO.refl _)
   | (with_reducible exact LeO.none _)
   | (with_reducible refine LeO.ite ?_ ?_)
   | (with_reducible refine LeO.bind ?_ (fun _=>?_))
   | exact ih0 _ _ _ _ _
   | exact ih1 _ _ _ _ _ _ _
   | exact spec_l3Count.mono _ _
   | exact LeO.none _
   | refine LeO.ite ?_ ?_
   | refine LeO.bind ?_ (fun _=>?_)
def spec_l3Stream.T9:Bool × List (List Nat × List Nat):=(true,[([],[]),([],[]),([],[]),([],[]),([2,3],[2,3]),([1,4],[1,4]),([5],[5]),([],[]),([],[]),([7,8],[7,8]),([9],[9]),([6,10],[6,10]),([11],[11]),([0,12],[0,12]),([13,13,0,1,2,3,4,5,6,7,8,9,10,11,12,13],[0,13])])
def spec_l3Stream.B9:List Nat:=[0,0,0,0,12,30,62,0,0,384,896,2046,4094,8191,16383]
theorem spec_l3Stream.tab9:rtab .any (opsOf Try.f62 9)=spec_l3Stream.T9:=by kernel_rfl
theorem spec_l3Stream.bits9:waitsOk spec_l3Stream.T9.2 spec_l3Stream.B9=true:=by kernel_rfl
set_option maxHeartbeats 8000000 in
set_option maxRecDepth 100000 in
theorem spec_l3Stream.calls (k:Nat) (A0:Option Addr) (c0:Nat) (l0:List Int) (P1_:Nat→Prop) (A1:Option Addr) (c1:Nat) (l1:List Int) (A2:Option Addr) (c2:Nat) (l2:List Int) (r:List Int) (w:World) (hr0:Kd.C (Kd.int .u8) w A0 l0.length l0) (hc0:l0.length≤c0) (hs1:Kd.V (Kd.int .u8) 5 w w.heap.size (fun k_=>P1_ k_) (.slice A1 l1.length c1) l1) (hr2:Kd.C (Kd.int .u8) w A2 l2.length l2) (hc2:l2.length≤c2) (h:spec_l3Stream.f k l0 l1 l2=some r) :
  Calls Try.prog 62 #[.slice A0 l0.length c0,.slice A1 l1.length c1,.slice A2 l2.length c2] w fun e w'=>∃ v0_:Value,e=.returned (v0_)∧Kd.R (Kd.int .u8) 5 w' w.heap.size (fun k_=>(w.heap.size≤k_)) v0_ r∧Below w.heap.size w w':=by
 have HR0:=zM hr0
 have HC0:=zM hc0
 clear hr0 hc0
 have HO1:=zM (show Kd.V (Kd.int .u8) 5 w w.heap.size (fun k_=>(P1_ k_ ∨ w.heap.size≤k_)) (.slice A1 l1.length c1) l1 from Kd.V_mono hs1 (fun k_ hk=>.inl hk))
 have HR2:=zM hr2
 have HC2:=zM hc2
 clear hr2 hc2
 have HB:=zM (Below.refl w.heap.size w)
 have H:(spec_l3Stream.l0 k l0 l1 l2 (([]:List Int)) 0)=some r:=h
 clear h
 obtain⟨y136,hy136⟩:∃ y_:List Int,y_=(([]:List Int)):=⟨_,rfl⟩
 replace H:(spec_l3Stream.l0 k l0 l1 l2 y136 0)=some r:=by first|(rw[hy136];with_reducible exact H)|(have H2_:=(Option.bind_some _ _).symm.trans H;rw[hy136];with_reducible exact H2_)|(have H2_:=(Option.bind_some _ _).symm.trans H;with_reducible exact H2_)|with_reducible exact H|(rw[hy136];exact H)|exact H
 have Ny136:=zM hy136
 clear hy136
 have H':=zM H
 clear H
 go_enter Try.func62,Try.ntmps62
 go_wp2_with (first|((with_reducible refine gate_dst (N:=11) rfl ?_);(try (refine gate_guard zq125 ?_;dsimp only));refine Kd.R_lit (Kd.int .u8) _ 5 ?hg (N:=11) ?hd (xs:=([]:List Int)) (inner:=[]) (ok:=fun _=>True) (okp:=fun _=>True) ?hr ?hp (fun _ hk=>hk) trivial (Below.refl _ _) (Nat.le_refl _) zq73 ?_;(case hd=>rfl);(case hg=>rfl);(case hr=>first|(go_simp;done)|(go_simp;rfl));(case hp=>exact(Reps.none _ _));intro v137 w4 ho5 hb hg_ hnew_;clear hg_ hnew_;(first|rw[← Ny136.out] at ho5|(simp only[Int.reduceToNat] at ho5;rw[← Ny136.out] at ho5));have n0_:=zM (Kd.V_elder' (by(with_reducible repeat (first|apply Kd.V_alloc|apply Kd.V_drewN|apply Kd.V_drew));exact HO1.out) (Kd.R_base ho5) hb);have n1_:=zM (Kd.R_lower (Kd.R_newM (M:=fun k_=>(w.heap.size≤k_)) ho5 (below_size zq0) (fun k_ h_=>h_)) (below_size zq0));have n2_:=zM (below_step zq0 hb);clear HO1;clear HB;have HO1:=n0_;have HO138:=n1_;have HB:=n2_;clear n0_ n1_ n2_;clear hb ho5))
 go_loopg [1,7,8] k (fun kq v1 v7 v8 w'=>∃ (x1_1:List Int) (x7_1:List Int) (x8_1:Int),v8=.int .i64 x8_1∧Aside0 (spec_l3Stream.l0 kq l0 x1_1 l2 x7_1 x8_1=some r)∧Aside0 (kq≤k)∧Aside0 (Kd.V (Kd.int .u8) 5 w' w.heap.size (fun k_=>(P1_ k_ ∨ w.heap.size≤k_)∧some k_≠(v7:Value).ownBlock) v1 x1_1)∧Aside0 (Kd.R (Kd.int .u8) 5 w' w.heap.size (fun k_=>(w.heap.size≤k_)) v7 x7_1)∧Aside0 (Below w.heap.size w w'))
 case atStart=>exact⟨(l1),(y136),(0),zq7,H',⟨Nat.le_refl _⟩,⟨by(with_reducible repeat (first|apply Kd.V_alloc|apply Kd.V_drewN|apply Kd.V_drew));exact HO1.out⟩,⟨by(with_reducible repeat (first|apply Kd.R_alloc|apply Kd.R_drewN|apply Kd.R_drew));exact Kd.R_mono HO138.out (fun _ hk=>hk.1)⟩,⟨zq0⟩⟩
 case round=>
  clear H'
  try clear c1
  try clear c2
  try clear p2
  obtain⟨x1_1,x7_1,x8_1,rfl,HA,HK1,HO_1,HO_7,HB⟩:=hrel
  cases gk with
  | zero=>exact absurd HA.out (by simp[spec_l3Stream.l0])
  | succ k1=>
   have H:=HA.out
   clear HA
   simp only[spec_l3Stream.l0] at H
   by_cases c6:x8_1 < (l2.length:Int)
   ·rw[if_pos c6] at H
    have c6b0:decide (x8_1 < (l2.length:Int))=true:=decide_eq_true c6
    clear c6
    replace H:=Option.bind_eq_some_iff.mp H
    obtain⟨t139,A70,H⟩:=H
    replace H:(spec_l3Stream.l1 k1 l0 x1_1 l2 x7_1 x8_1 t139 0)=some r:=H
    have A7:=zM A70
    clear A70
    have H':=zM H
    clear H
    obtain⟨Ao8,co8,eo8⟩:=Kd.V_slice HO_1.out
    subst eo8
    go_wp2_with (first|((with_reducible refine gate_callee (f:=75) rfl ?_);refine goesL_ (some 20) rfl rfl Try.func75 (by kernel_rfl) rfl #[.slice A0 l0.length c0,.slice Ao8 x1_1.length co8] rfl zq1 ?_;(with_reducible refine(spec_l2Encrypt.calls _ _ l0 _ _ x1_1 t139 _ ?side1 ?side2 ?side3 ?side4 A7.out).mono ?_);(case side1=>exact zq118);(case side2=>exact HC0.out);(case side3=>repeat (first|exact(Kd.V_reads' HO_1.out).2.2|(with_reducible refine Kd.C_alloc ?_ _)|(with_reducible refine Kd.C_drewN ?_ _)|(with_reducible refine Kd.C_drew ?_)));(case side4=>exact(Kd.V_reads' HO_1.out).2.1);rintro e w9 ⟨v140,rfl,ho0,hb⟩;refine⟨_,rfl,?_⟩;have n0_:=zM (Kd.V_elder' zq136 (Kd.R_base ho0) hb);have n1_:=zM (Kd.R_elder' zq63 (Kd.R_base ho0) hb);have n2_:=zM (Kd.R_lower (Kd.R_new' (Kd.R_newM (M:=fun k_=>(w.heap.size≤k_)) ho0 (below_size zq0) (fun k_ h_=>h_)) (Kd.R_lt zq63)) (below_size zq0));have n3_:=zM (below_step zq0 hb);clear HO_1;clear HO_7;clear HB;have HO_1:=n0_;have HO_7:=n1_;have HO141:=n2_;have HB:=n3_;clear n0_ n1_ n2_ n3_;(try clear hb);(try clear hb2);(try clear hk);(try clear hi);(try clear ho0)))
    go_loopg [7,10] k1 (fun kq v7 v10 w'=>∃ (x7_2:List Int) (x10_2:Int),v10=.int .i64 x10_2∧Aside0 (spec_l3Stream.l1 kq l0 x1_1 l2 x7_2 x8_1 t139 x10_2=some r)∧Aside0 (kq≤k1)∧Aside0 (Kd.V (Kd.int .u8) 5 w' w.heap.size (fun k_=>(P1_ k_ ∨ w.heap.size≤k_)∧some k_≠(v7:Value).ownBlock∧some k_≠(v140:Value).ownBlock) (.slice Ao8 x1_1.length co8) x1_1)∧Aside0 (Kd.R (Kd.int .u8) 5 w' w.heap.size (fun k_=>(w.heap.size≤k_)∧some k_≠(v140:Value).ownBlock) v7 x7_2)∧Aside0 (Kd.R (Kd.int .u8) 5 w' w.heap.size (fun k_=>(w.heap.size≤k_)∧some k_≠(v7:Value).ownBlock) v140 t139)∧Aside0 (Below w.heap.size w w'))
    case atStart=>exact⟨(x7_1),(0),zq7,H',⟨Nat.le_refl _⟩,⟨by(with_reducible repeat (first|apply Kd.V_alloc|apply Kd.V_drewN|apply Kd.V_drew));exact Kd.V_mono HO_1.out (fun _ hk=>⟨hk.1.1,⟨hk.1.2,hk.2⟩⟩)⟩,⟨zq63⟩,⟨by(with_reducible repeat (first|apply Kd.R_alloc|apply Kd.R_drewN|apply Kd.R_drew));exact Kd.R_mono HO141.out (fun _ hk=>⟨hk.1.1,hk.2⟩)⟩,⟨zq0⟩⟩
    case round=>
     clear H'
     try clear c1
     try clear c2
     try clear p2
     try clear c6
     try clear c6b0
     try clear c7
     try clear p2
     obtain⟨x7_2,x10_2,rfl,HA,HK2,HO_1,HO_7,HO_9,HB⟩:=hrel
     cases gk with
     | zero=>exact absurd HA.out (by simp[spec_l3Stream.l1])
     | succ k2=>
      have H:=HA.out
      clear HA
      simp only[spec_l3Stream.l1] at H
      by_cases c10:x10_2 < 16
      ·rw[if_pos c10] at H
       have c10b0:decide (x10_2 < 16)=true:=decide_eq_true c10
       clear c10
       by_cases c11:(wrap64 (x8_1+x10_2)) < (l2.length:Int)
       ·rw[if_pos c11] at H
        have c11b0:decide ((wrap64 (x8_1+x10_2)) < (l2.length:Int))=true:=decide_eq_true c11
        clear c11
        obtain⟨ji12,hji12⟩:∃ j_:Int,(wrap64 (x8_1+x10_2))=j_:=⟨_,rfl⟩
        replace H:(if 0≤(ji12) then (if 0≤x10_2 then (if x10_2 < (t139.length:Int) then (if x7_2.length < 140737488355328 then (spec_l3Stream.l1 k2 l0 x1_1 l2 (x7_2 ++ [Go.bits .xor .u8 (rd l2 (ji12)) (rd t139 x10_2)]) x8_1 t139 (wrap64 (x10_2+1))) else (none)) else (none)) else (none)) else (none))=some r:=by first|(rw[hji12] at H;exact H)|(simp only[hji12] at H ⊢;exact H)
        (try rw[hji12] at c11b0)
        have hji12w:(IntKind.i64.wrap (x8_1+x10_2))=ji12:=(i64_w _).trans hji12
        by_cases c13:0≤(ji12)
        ·rw[if_pos c13] at H
         have c13b0:decide (0≤(ji12))=true:=decide_eq_true c13
         clear c13
         by_cases c14:0≤x10_2
         ·rw[if_pos c14] at H
          have c14b0:decide (0≤x10_2)=true:=decide_eq_true c14
          clear c14
          by_cases c15:x10_2 < (t139.length:Int)
          ·rw[if_pos c15] at H
           have c15b0:decide (x10_2 < (t139.length:Int))=true:=decide_eq_true c15
           clear c15
           by_cases c16:x7_2.length < 140737488355328
           ·rw[if_pos c16] at H
            have LMc16:=zM c16
            clear c16
            obtain⟨y144,hy144⟩:∃ y_:List Int,y_=(x7_2 ++ [Go.bits .xor .u8 (rd l2 (ji12)) (rd t139 x10_2)]):=⟨_,rfl⟩
            replace H:(spec_l3Stream.l1 k2 l0 x1_1 l2 y144 x8_1 t139 (wrap64 (x10_2+1)))=some r:=by first|(rw[hy144];with_reducible exact H)|(have H2_:=(Option.bind_some _ _).symm.trans H;rw[hy144];with_reducible exact H2_)|(have H2_:=(Option.bind_some _ _).symm.trans H;with_reducible exact H2_)|with_reducible exact H|(rw[hy144];exact H)|exact H
            have Ny144:=zM hy144
            clear hy144
            have H':=zM H
            clear H
            try go_wp2
            have n0_:=zM (Kd.V_drew HO_1.out)
            have n1_:=zM (Kd.R_drew HO_7.out)
            have n2_:=zM (Kd.R_drew HO_9.out)
            have n3_:=zM (below_drew1 HB.out)
            clear HO_1
            clear HO_7
            clear HO_9
            clear HB
            have HO_1:=n0_
            have HO_7:=n1_
            have HO_9:=n2_
            have HB:=n3_
            clear n0_ n1_ n2_ n3_
            have p142:0≤((ji12):Int):=of_decide_eq_true zq6
            have q142:(ji12) < (l2.length:Int):=of_decide_eq_true zq6
            obtain⟨ad142,e142,hx142_0⟩:=Kd.at_int HR2.out (ji12) p142 q142
            have hw142_0:=hx142_0
            cases e142
            replace hx142_0:=(HB.out.cell (World.block_lt_of_cell? w _ hx142_0)).trans hx142_0
            replace p142:=eq_true p142
            replace q142:=eq_true q142
            obtain⟨Ao18,co18,eo18⟩:=Kd.R_slice HO_9.out
            (first|subst eo18|(injection eo18 with f1_ f2_ f3_;have f4_:=f1_.symm;have f5_:=f3_.symm;clear f1_ f2_ f3_;subst f4_;subst f5_))
            have p143:0≤(x10_2:Int):=of_decide_eq_true zq6
            have q143:x10_2 < (t139.length:Int):=of_decide_eq_true zq6
            obtain⟨ad143,e143,hx143_0⟩:=Kd.at_int (Kd.R_reads' HO_9.out).2.2 x10_2 p143 q143
            cases e143
            replace p143:=eq_true p143
            replace q143:=eq_true q143
            refine start_ (n:=15) (S:=fun w'=>w'.cell? (ad142.add ((ji12)).toNat)=some (.int .u8 (rd l2 (ji12)))∧w'.cell? (ad143.add (x10_2).toNat)=some (.int .u8 (rd t139 x10_2))) (ds:=[12,13]) #[false,false,false,false,false,false,false,false,false,false,false,false,false,false,false] (by kernel_rfl) rfl rfl ⟨((HB.out.cell (World.block_lt_of_cell? w _ hw142_0)).trans hw142_0),hx143_0⟩ (fun hHeld=>?_);refine with_tabW spec_l3Stream.tab9 spec_l3Stream.bits9 (fun HT_ HW_=>?_)
            generalize wr.drew=w17 at HO_1 HO_7 HO_9 HB hx142_0 hx143_0 hHeld ⊢
            refine pure_ (i:=0) (N:=some 33) (v:=?_) (a':=?_) #[true,false,false,false,false,false,false,false,false,false,false,false,false,false,false] rfl rfl (any_of HT_.out (by kernel_rfl)) (fun _ _ _ h=>h) (Or.inl ⟨zq125,?_⟩) ?_ ?_
            rotate_left
            ·intro w'
             go_simp
             with_reducible rfl
            rotate_left
            ·simp only[Act.put,List.setIfInBounds_toArray,List.set_cons_zero,List.set_cons_succ,i64_w,i32_w]
             rfl
            refine pure_ (i:=1) (N:=some 34) (v:=?_) (a':=?_) #[true,true,false,false,false,false,false,false,false,false,false,false,false,false,false] rfl rfl (any_of HT_.out (by kernel_rfl)) (fun _ _ _ h=>h) (Or.inl ⟨zq125,?_⟩) ?_ ?_
            rotate_left
            ·intro w'
             go_simp
             with_reducible rfl
            rotate_left
            ·simp only[Act.put,List.setIfInBounds_toArray,List.set_cons_zero,List.set_cons_succ,i64_w,i32_w]
             rfl
            refine pure_ (i:=2) (N:=some 35) (v:=?_) (a':=?_) #[true,true,true,false,false,false,false,false,false,false,false,false,false,false,false] rfl rfl (any_of HT_.out (by kernel_rfl)) (fun _ _ _ h=>h) (Or.inl ⟨zq125,?_⟩) ?_ ?_
            rotate_left
            ·intro w'
             go_simp
             with_reducible rfl
            rotate_left
            ·simp only[Act.put,List.setIfInBounds_toArray,List.set_cons_zero,List.set_cons_succ,i64_w,i32_w]
             rfl
            refine pure_ (i:=3) (N:=some 36) (v:=?_) (a':=?_) #[true,true,true,true,false,false,false,false,false,false,false,false,false,false,false] rfl rfl (any_of HT_.out (by kernel_rfl)) (fun _ _ _ h=>h) (Or.inl ⟨zq125,?_⟩) ?_ ?_
            rotate_left
            ·intro w'
             go_simp
             with_reducible rfl
            rotate_left
            ·simp only[Act.put,List.setIfInBounds_toArray,List.set_cons_zero,List.set_cons_succ,i64_w,i32_w]
             rfl
            refine pure_ (i:=4) (N:=some 37) (v:=?_) (a':=?_) #[true,true,true,true,true,false,false,false,false,false,false,false,false,false,false] rfl rfl (any_of HT_.out (by kernel_rfl)) (fun _ _ _ h=>h) (Or.inl ⟨zq125,?_⟩) ?_ ?_
            rotate_left
            ·intro w'
             go_simp
             with_reducible rfl
            rotate_left
            ·simp only[Act.put,List.setIfInBounds_toArray,List.set_cons_zero,List.set_cons_succ,i64_w,i32_w]
             rfl
            refine pure_ (i:=5) (N:=some 38) (v:=?_) (a':=?_) #[true,true,true,true,true,true,false,false,false,false,false,false,false,false,false] rfl rfl (any_of HT_.out (by kernel_rfl)) (fun _ _ _ h=>h) (Or.inl ⟨zq125,?_⟩) ?_ ?_
            rotate_left
            ·intro w'
             go_simp
             with_reducible rfl
            rotate_left
            ·simp only[Act.put,List.setIfInBounds_toArray,List.set_cons_zero,List.set_cons_succ,i64_w,i32_w]
             rfl
            refine pure_ (i:=7) (N:=some 40) (v:=?_) (a':=?_) #[true,true,true,true,true,true,false,true,false,false,false,false,false,false,false] rfl rfl (any_of HT_.out (by kernel_rfl)) (fun _ _ _ h=>h) (Or.inl ⟨zq125,?_⟩) ?_ ?_
            rotate_left
            ·intro w'
             go_simp
             with_reducible rfl
            rotate_left
            ·simp only[Act.put,List.setIfInBounds_toArray,List.set_cons_zero,List.set_cons_succ,i64_w,i32_w]
             rfl
            refine pure_ (i:=8) (N:=some 41) (v:=?_) (a':=?_) #[true,true,true,true,true,true,false,true,true,false,false,false,false,false,false] rfl rfl (any_of HT_.out (by kernel_rfl)) (fun _ _ _ h=>h) (Or.inl ⟨zq125,?_⟩) ?_ ?_
            rotate_left
            ·intro w'
             go_simp
             with_reducible rfl
            rotate_left
            ·simp only[Act.put,List.setIfInBounds_toArray,List.set_cons_zero,List.set_cons_succ,i64_w,i32_w]
             rfl
            refine pure_ (i:=9) (N:=some 42) (v:=?_) (a':=?_) #[true,true,true,true,true,true,false,true,true,true,false,false,false,false,false] rfl rfl (any_of HT_.out (by kernel_rfl)) (fun _ _ _ h=>h) (Or.inl ⟨zq125,?_⟩) ?_ ?_
            rotate_left
            ·intro w'
             go_simp
             with_reducible rfl
            rotate_left
            ·simp only[Act.put,List.setIfInBounds_toArray,List.set_cons_zero,List.set_cons_succ,i64_w,i32_w]
             rfl
            refine take_ (i:=6) (N:=some 39) (v:=?_) (a':=?_) #[true,true,true,true,true,true,true,true,true,true,false,false,false,false,false] rfl rfl (take_ofW HT_.out HW_.out (by kernel_rfl)) (fun _ _ _ h=>h) (Or.inl ⟨zq125,?_⟩) hHeld ?_ ?_
            rotate_left
            ·rintro w' ⟨s0,s1⟩
             go_simp
             with_reducible rfl
            rotate_left
            ·simp only[Act.put,List.setIfInBounds_toArray,List.set_cons_zero,List.set_cons_succ,i64_w,i32_w]
             rfl
            refine take_ (i:=10) (N:=some 43) (v:=?_) (a':=?_) #[true,true,true,true,true,true,true,true,true,true,true,false,false,false,false] rfl rfl (take_ofW HT_.out HW_.out (by kernel_rfl)) (fun _ _ _ h=>h) (Or.inl ⟨zq125,?_⟩) hHeld ?_ ?_
            rotate_left
            ·rintro w' ⟨s0,s1⟩
             go_simp
             with_reducible rfl
            rotate_left
            ·simp only[Act.put,List.setIfInBounds_toArray,List.set_cons_zero,List.set_cons_succ,i64_w,i32_w]
             rfl
            refine pure_ (i:=11) (N:=some 44) (v:=?_) (a':=?_) #[true,true,true,true,true,true,true,true,true,true,true,true,false,false,false] rfl rfl (any_of HT_.out (by kernel_rfl)) (fun _ _ _ h=>h) (Or.inl ⟨zq125,?_⟩) ?_ ?_
            rotate_left
            ·intro w'
             go_simp
             with_reducible rfl
            rotate_left
            ·simp only[Act.put,List.setIfInBounds_toArray,List.set_cons_zero,List.set_cons_succ,i64_w,i32_w]
             rfl
            refine last_ (i:=12) (N:=some 45) #[true,true,true,true,true,true,true,true,true,true,true,true,true,false,false] rfl rfl (one_of HT_.out (by kernel_rfl)) zq36 (fun K hK=>?_)
            refine value_ (w1:=?_) (v:=?_) zq125 rfl ?_ ?_
            rotate_left 2
            ·go_simp
             constructor
             ·rfl
             ·rfl
            refine hK.out _ _ ?_
            clear hK K
            refine norm_ (a':=?_) ?_ ?_
            rotate_left
            ·show Act.put _ (some 45) _=_
             simp only[Act.put,List.setIfInBounds_toArray,List.set_cons_zero,List.set_cons_succ,i64_w,i32_w]
             rfl
            refine last_ (i:=13) (N:=some 46) #[true,true,true,true,true,true,true,true,true,true,true,true,true,true,false] rfl rfl (one_of HT_.out (by kernel_rfl)) zq36 (fun K hK=>?_)
            refine Kd.R_append_step (Kd.int .u8) (w0:=w) w.heap.size zq125 (.tmp 33) (.tmp 45) 25 5 (.int .u8 0) 1 rfl Try.underlying25 info5 rfl zq36 zq8 u7 x7_2 (Go.bits .xor .u8 (rd l2 (ji12)) (rd t139 x10_2)) [.int .u8 (Go.bits .xor .u8 (rd l2 (ji12)) (rd t139 x10_2))] (fun k_=>(w.heap.size≤k_)∧some k_≠(.slice (some ad143) t139.length co18:Value).ownBlock) (fun _=>False) rfl rfl ?aP (fun _ hk=>hk.elim) ?aF ?aO ?aB ?aS ?aL ?_
            (case aP=>exact rfl)
            (case aB=>exact zq0)
            (case aF=>exact(fun k_ hk=>⟨(Nat.le_trans (below_size zq0) hk),Kd.fresh' (Kd.R_lt zq76) k_ hk⟩))
            (case aO=>exact zq63)
            (case aS=>exact(below_size zq0))
            (case aL=>have:=LMc16.out;omega)
            intro v145 w19 ho hb hg hat
            rw[← Ny144.out] at ho
            have n0_:=zM (Kd.V_afterv (ok:=(fun k_=>(P1_ k_ ∨ w.heap.size≤k_)∧some k_≠(.slice (some ad143) t139.length co18:Value).ownBlock)) (by(with_reducible repeat (first|apply Kd.V_alloc|apply Kd.V_drewN|apply Kd.V_drew));exact Kd.V_mono HO_1.out (fun _ hk=>⟨⟨hk.1,hk.2.2⟩,hk.2.1⟩)) hg hat)
            have n1_:=zM (Kd.R_after (ok:=(fun k_=>(w.heap.size≤k_))) zq76 hg hat)
            have n2_:=zM (hb)
            have n3_:=zM (ho)
            clear HO_1
            clear HO_9
            clear HB
            clear HO_7
            have HO_1:=n0_
            have HO_9:=n1_
            have HB:=n2_
            have HO146:=n3_
            clear n0_ n1_ n2_ n3_
            clear ho hb hg hat
            refine hK.out _ _ ?_
            clear hK K
            refine norm_ (a':=?_) ?_ ?_
            rotate_left
            ·show Act.put _ (some 46) _=_
             simp only[Act.put,List.setIfInBounds_toArray,List.set_cons_zero,List.set_cons_succ,i64_w,i32_w]
             rfl
            refine pure_ (i:=14) (N:=some 7) (v:=?_) (a':=?_) #[true,true,true,true,true,true,true,true,true,true,true,true,true,true,true] rfl rfl (any_of HT_.out (by kernel_rfl)) (fun _ _ _ h=>h) (Or.inl ⟨zq125,?_⟩) ?_ ?_
            rotate_left
            ·intro w'
             go_simp
             with_reducible rfl
            rotate_left
            ·simp only[Act.put,List.setIfInBounds_toArray,List.set_cons_zero,List.set_cons_succ,i64_w,i32_w]
             rfl
            refine done_ (done_of HT_.out (by kernel_rfl)) ?_
            try go_wp2
            go_roundg k2
            case measure=>have:=HK1.out;have:=HK2.out;omega
            case rel=>exact⟨(y144),(wrap64 (x10_2+1)),zq7,H',⟨zq132⟩,⟨by(with_reducible repeat (first|apply Kd.V_alloc|apply Kd.V_drewN|apply Kd.V_drew));exact Kd.V_mono HO_1.out (fun _ hk=>⟨hk.1.1,⟨hk.2,hk.1.2⟩⟩)⟩,⟨by(with_reducible repeat (first|apply Kd.R_alloc|apply Kd.R_drewN|apply Kd.R_drew));exact HO146.out⟩,⟨by(with_reducible repeat (first|apply Kd.R_alloc|apply Kd.R_drewN|apply Kd.R_drew));exact HO_9.out⟩,⟨zq0⟩⟩
           ·rw[if_neg c16] at H
            exact absurd H zq73
          ·rw[if_neg c15] at H
           exact absurd H zq73
         ·rw[if_neg c14] at H
          exact absurd H zq73
        ·rw[if_neg c13] at H
         exact absurd H zq73
       ·rw[if_neg c11] at H
        have c11b0:decide ((wrap64 (x8_1+x10_2)) < (l2.length:Int))=false:=decide_eq_false c11
        clear c11
        replace H:=Option.bind_eq_some_iff.mp H
        obtain⟨t147,A200,H⟩:=H
        replace H:(spec_l3Stream.l0 k2 l0 t147 l2 x7_2 (wrap64 (x8_1+16)))=some r:=H
        have A20:=zM A200
        clear A200
        have H':=zM H
        clear H
        go_wp2_with (first|((with_reducible refine gate_callee (f:=63) rfl ?_);refine goesL_ (some 48) rfl rfl Try.func63 (by kernel_rfl) rfl #[.slice Ao8 x1_1.length co8] rfl zq1 ?_;(with_reducible refine(spec_l3Count.calls k2 _ _ x1_1 t147 _ ?side1 ?side2 A20.out).mono ?_);(case side1=>exact zq157);(case side2=>exact(Kd.V_reads' HO_1.out).2.1);rintro e w21 ⟨v148,rfl,ho0,hb⟩;refine⟨_,rfl,?_⟩;have n0_:=zM (Kd.V_elder' zq136 (Kd.R_base ho0) hb);have n1_:=zM (Kd.R_elder' zq63 (Kd.R_base ho0) hb);have n2_:=zM (Kd.R_elder' zq76 (Kd.R_base ho0) hb);have n3_:=zM (Kd.R_lower (Kd.R_new' (Kd.R_new' (Kd.R_newM (M:=fun k_=>(w.heap.size≤k_)) ho0 (below_size zq0) (fun k_ h_=>h_)) (Kd.R_lt zq63)) (Kd.R_lt zq76)) (below_size zq0));have n4_:=zM (below_step zq0 hb);clear HO_1;clear HO_7;clear HO_9;clear HB;have HO_1:=n0_;have HO_7:=n1_;have HO_9:=n2_;have HO149:=n3_;have HB:=n4_;clear n0_ n1_ n2_ n3_ n4_;(try clear hb);(try clear hb2);(try clear hk);(try clear hi);(try clear ho0)))
        go_roundg k2
        case measure=>have:=HK1.out;have:=HK2.out;omega
        case rel=>exact⟨(t147),(x7_2),(wrap64 (x8_1+16)),zq7,H',⟨zq132⟩,⟨Kd.V_mono (Kd.R_V (by(with_reducible repeat (first|apply Kd.R_alloc|apply Kd.R_drewN|apply Kd.R_drew));exact HO149.out)) (fun k_ hk=>by(try simp only[and_assoc] at hk);first|(refine⟨.inr ?_,?_⟩ <;> first|exact trivial|exact hk.1|exact hk|exact hk.2.1|exact hk.2|exact hk.2.2.1|exact hk.2.2|exact hk.2.2.2.1|exact hk.2.2.2|exact hk.2.2.2.2.1|exact hk.2.2.2.2|exact hk.2.2.2.2.2.1|exact hk.2.2.2.2.2|exact hk.2.2.2.2.2.2.1|exact hk.2.2.2.2.2.2|exact hk.2.2.2.2.2.2.2.1|exact hk.2.2.2.2.2.2.2|exact hk.2.2.2.2.2.2.2.2.1|exact hk.2.2.2.2.2.2.2.2|exact hk.2.2.2.2.2.2.2.2.2.1|exact hk.2.2.2.2.2.2.2.2.2)|(refine .inr ?_;first|exact trivial|exact hk.1|exact hk|exact hk.2.1|exact hk.2|exact hk.2.2.1|exact hk.2.2|exact hk.2.2.2.1|exact hk.2.2.2|exact hk.2.2.2.2.1|exact hk.2.2.2.2|exact hk.2.2.2.2.2.1|exact hk.2.2.2.2.2|exact hk.2.2.2.2.2.2.1|exact hk.2.2.2.2.2.2|exact hk.2.2.2.2.2.2.2.1|exact hk.2.2.2.2.2.2.2|exact hk.2.2.2.2.2.2.2.2.1|exact hk.2.2.2.2.2.2.2.2|exact hk.2.2.2.2.2.2.2.2.2.1|exact hk.2.2.2.2.2.2.2.2.2))⟩,⟨zq160⟩,⟨zq0⟩⟩
      ·rw[if_neg c10] at H
       have c10b0:decide (x10_2 < 16)=false:=decide_eq_false c10
       clear c10
       replace H:=Option.bind_eq_some_iff.mp H
       obtain⟨t150,A220,H⟩:=H
       replace H:(spec_l3Stream.l0 k2 l0 t150 l2 x7_2 (wrap64 (x8_1+16)))=some r:=H
       have A22:=zM A220
       clear A220
       have H':=zM H
       clear H
       go_wp2_with (first|((with_reducible refine gate_callee (f:=63) rfl ?_);refine goesL_ (some 48) rfl rfl Try.func63 (by kernel_rfl) rfl #[.slice Ao8 x1_1.length co8] rfl zq1 ?_;(with_reducible refine(spec_l3Count.calls k2 _ _ x1_1 t150 _ ?side1 ?side2 A22.out).mono ?_);(case side1=>exact zq157);(case side2=>exact(Kd.V_reads' HO_1.out).2.1);rintro e w23 ⟨v151,rfl,ho0,hb⟩;refine⟨_,rfl,?_⟩;have n0_:=zM (Kd.V_elder' zq136 (Kd.R_base ho0) hb);have n1_:=zM (Kd.R_elder' zq63 (Kd.R_base ho0) hb);have n2_:=zM (Kd.R_elder' zq76 (Kd.R_base ho0) hb);have n3_:=zM (Kd.R_lower (Kd.R_new' (Kd.R_new' (Kd.R_newM (M:=fun k_=>(w.heap.size≤k_)) ho0 (below_size zq0) (fun k_ h_=>h_)) (Kd.R_lt zq63)) (Kd.R_lt zq76)) (below_size zq0));have n4_:=zM (below_step zq0 hb);clear HO_1;clear HO_7;clear HO_9;clear HB;have HO_1:=n0_;have HO_7:=n1_;have HO_9:=n2_;have HO152:=n3_;have HB:=n4_;clear n0_ n1_ n2_ n3_ n4_;(try clear hb);(try clear hb2);(try clear hk);(try clear hi);(try clear ho0)))
       go_roundg k2
       case measure=>have:=HK1.out;have:=HK2.out;omega
       case rel=>exact⟨(t150),(x7_2),(wrap64 (x8_1+16)),zq7,H',⟨zq132⟩,⟨Kd.V_mono (Kd.R_V (by(with_reducible repeat (first|apply Kd.R_alloc|apply Kd.R_drewN|apply Kd.R_drew));exact HO152.out)) (fun k_ hk=>by(try simp only[and_assoc] at hk);first|(refine⟨.inr ?_,?_⟩ <;> first|exact trivial|exact hk.1|exact hk|exact hk.2.1|exact hk.2|exact hk.2.2.1|exact hk.2.2|exact hk.2.2.2.1|exact hk.2.2.2|exact hk.2.2.2.2.1|exact hk.2.2.2.2|exact hk.2.2.2.2.2.1|exact hk.2.2.2.2.2|exact hk.2.2.2.2.2.2.1|exact hk.2.2.2.2.2.2|exact hk.2.2.2.2.2.2.2.1|exact hk.2.2.2.2.2.2.2|exact hk.2.2.2.2.2.2.2.2.1|exact hk.2.2.2.2.2.2.2.2|exact hk.2.2.2.2.2.2.2.2.2.1|exact hk.2.2.2.2.2.2.2.2.2)|(refine .inr ?_;first|exact trivial|exact hk.1|exact hk|exact hk.2.1|exact hk.2|exact hk.2.2.1|exact hk.2.2|exact hk.2.2.2.1|exact hk.2.2.2|exact hk.2.2.2.2.1|exact hk.2.2.2.2|exact hk.2.2.2.2.2.1|exact hk.2.2.2.2.2|exact hk.2.2.2.2.2.2.1|exact hk.2.2.2.2.2.2|exact hk.2.2.2.2.2.2.2.1|exact hk.2.2.2.2.2.2.2|exact hk.2.2.2.2.2.2.2.2.1|exact hk.2.2.2.2.2.2.2.2|exact hk.2.2.2.2.2.2.2.2.2.1|exact hk.2.2.2.2.2.2.2.2.2))⟩,⟨zq160⟩,⟨zq0⟩⟩
   ·rw[if_neg c6] at H
    have c6b0:decide (x8_1 < (l2.length:Int))=false:=decide_eq_false c6
    clear c6
    obtain rfl:=Option.some.inj H
    go_wp2
    go_ret
    exact⟨_,zq3,zq63,zq0⟩
end Go.Proofs.Ytdbanjdnjhflcaa.All
