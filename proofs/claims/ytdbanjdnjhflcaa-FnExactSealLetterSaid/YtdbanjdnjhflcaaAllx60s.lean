-- Laid by wip/shake.py of this repo out of this claim's texts. Not trusted: Lean checks it.
import Derived.Test.YtdbanjdnjhflcaaAb0s
import Derived.Test.YtdbanjdnjhflcaaAlgs
import Derived.Test.YtdbanjdnjhflcaaAllx12s
set_option linter.unusedSimpArgs false
set_option linter.unusedVariables false
namespace Go.Proofs.Ytdbanjdnjhflcaa.All
open Go.Proofs.YtdbanjdnjhflcaaW.PrintWords.Aside0 renaming mk→zM
open Go.RowKit Go.Proofs.YtdbanjdnjhflcaaW.PrintWords Go.Proofs.YtdbanjdnjhflcaaW.PrintLast Go.Proofs.YtdbanjdnjhflcaaW.PrintMore
attribute [local go_sem] max2_int min2_int max_two min_two max_three min_three max_four min_four
def laws_eqKeyS.l0:Nat→List (S54)→List (S54)→Int→Option (Bool)
 | 0,_,_,_=>none
 | k+1,x0,x1,x5=>if x5 < (x0.length:Int) then (if 0≤x5 then (if x5 < (x1.length:Int) then ((laws_eqKey.f k ((rd_T54 x0 x5).f0) ((rd_T54 x0 x5).f1) ((rd_T54 x1 x5).f0) ((rd_T54 x1 x5).f1)).bind fun t398=>(if t398=true then (laws_eqKeyS.l0 k x0 x1 (wrap64 (x5+1))) else (some false))) else (none)) else (none)) else (some true)
def laws_eqKeyS.f (k:Nat) (l0:List (S54)) (l1:List (S54)):Option (Bool):=if (l0.length:Int)=(l1.length:Int) then (laws_eqKeyS.l0 k l0 l1 0) else (some false)
theorem laws_eqKeyS.mono_l:∀ k,(∀ y0 y1 y2,LeO (laws_eqKeyS.l0 k y0 y1 y2) (laws_eqKeyS.l0 (k+1) y0 y1 y2))
 | 0=>fun _ _ _ r h=>by simp[laws_eqKeyS.l0] at h
 | k+1=>by
  have ih0:=laws_eqKeyS.mono_l k
  ·intro y0 y1 y2
   unfold laws_eqKeyS.l0
   repeat' first
   | (with_reducible exact ih0 _ _ _)
   | (with_reducible exact laws_eqKey.mono _ _ _ _ _)
   | (with_reducible exact LeO.refl _)
   | (with_reducible exact LeO.none _)
   | (with_reducible refine LeO.ite ?_ ?_)
   | (with_reducible refine LeO.bind ?_ (fun _=>?_))
   | exact ih0 _ _ _
   | exact laws_eqKey.mono _ _ _ _ _
   | exact LeO.none _
   | refine LeO.ite ?_ ?_
   | refine LeO.bind ?_ (fun _=>?_)
theorem laws_eqKeyS.mono:∀ a0 a1 k,LeO (laws_eqKeyS.f k a0 a1) (laws_eqKeyS.f (k+1) a0 a1):=by
 intro a0 a1 k
 have ih0:=laws_eqKeyS.mono_l k
 unfold laws_eqKeyS.f
 repeat' first
   | (with_reducible exact ih0 _ _ _)
   | (with_reducible exact laws_eqKey.mono _ _ _ _ _)
   | (with_reducible exact LeO.refl _)
   | (with_reducible exact LeO.none _)
   | (with_reducible refine LeO.ite ?_ ?_)
   | (with_reducible refine LeO.bind ?_ (fun _=>?_))
   | exact ih0 _ _ _
   | exact laws_eqKey.mono _ _ _ _ _
   | exact LeO.none _
   | refine LeO.ite ?_ ?_
   | refine LeO.bind ?_ (fun _=>?_)
def laws_eqKeyS.T6:Bool × List (List Nat × List Nat):=(true,[([],[]),([],[]),([0,1],[0,1]),([2],[2]),([],[]),([],[]),([4,5],[4,5]),([6],[6]),([3,7],[3,7]),([8],[8])])
def laws_eqKeyS.B6:List Nat:=[0,0,3,7,0,0,48,112,255,511]
theorem laws_eqKeyS.tab6:rtab .any (opsOf Try.f34 6)=laws_eqKeyS.T6:=by kernel_rfl
theorem laws_eqKeyS.bits6:waitsOk laws_eqKeyS.T6.2 laws_eqKeyS.B6=true:=by kernel_rfl
set_option maxHeartbeats 8000000 in
set_option maxRecDepth 100000 in
theorem laws_eqKeyS.calls (k:Nat) (A0:Option Addr) (c0:Nat) (l0:List (S54)) (A1:Option Addr) (c1:Nat) (l1:List (S54)) (r:Bool) (w:World) (hr0:Kd.C k54 w A0 l0.length l0) (hc0:l0.length≤c0) (hr1:Kd.C k54 w A1 l1.length l1) (hc1:l1.length≤c1) (h:laws_eqKeyS.f k l0 l1=some r) :
  Calls Try.prog 34 #[.slice A0 l0.length c0,.slice A1 l1.length c1] w fun e w'=>e=.returned (.bool r)∧Below w.heap.size w w':=by
 have hu54:=Try.underlying54
 have HR0:=zM hr0
 have HC0:=zM hc0
 clear hr0 hc0
 have HR1:=zM hr1
 have HC1:=zM hc1
 clear hr1 hc1
 have HB:=zM (Below.refl w.heap.size w)
 have H:(if (l0.length:Int)=(l1.length:Int) then (laws_eqKeyS.l0 k l0 l1 0) else (some false))=some r:=h
 clear h
 by_cases c3:(l0.length:Int)=(l1.length:Int)
 ·rw[if_pos c3] at H
  have c3b0:((l0.length:Int) == (l1.length:Int))=true:=beq_iff_eq.mpr c3
  have c3b1:((l0.length:Int) != (l1.length:Int))=false:=bne_eq_false_iff_eq.mpr c3
  have c3b2:(l0.length == l1.length)=true:=by first|simpa using c3|(simp at c3 ⊢;omega)
  clear c3
  have H':=zM H
  clear H
  go_enter Try.func34,Try.ntmps34
  go_wp2
  go_loopg [5] k (fun kq v5 w'=>∃ (x5_1:Int),v5=.int .i64 x5_1∧Aside0 (laws_eqKeyS.l0 kq l0 l1 x5_1=some r)∧Aside0 (kq≤k)∧Aside0 (Below w.heap.size w w'))
  case atStart=>exact⟨(0),zq7,H',⟨Nat.le_refl _⟩,⟨zq0⟩⟩
  case round=>
   clear H'
   try clear c1
   try clear p2
   try clear c3
   try clear c3b0
   try clear c3b1
   try clear c3b2
   obtain⟨x5_1,rfl,HA,HK1,HB⟩:=hrel
   cases gk with
   | zero=>exact absurd HA.out (by simp[laws_eqKeyS.l0])
   | succ k1=>
    have H:=HA.out
    clear HA
    simp only[laws_eqKeyS.l0] at H
    by_cases c4:x5_1 < (l0.length:Int)
    ·rw[if_pos c4] at H
     have c4b0:decide (x5_1 < (l0.length:Int))=true:=decide_eq_true c4
     clear c4
     by_cases c5:0≤x5_1
     ·rw[if_pos c5] at H
      have c5b0:decide (0≤x5_1)=true:=decide_eq_true c5
      clear c5
      by_cases c6:x5_1 < (l1.length:Int)
      ·rw[if_pos c6] at H
       have c6b0:decide (x5_1 < (l1.length:Int))=true:=decide_eq_true c6
       clear c6
       replace H:=Option.bind_eq_some_iff.mp H
       obtain⟨t398,A70,H⟩:=H
       replace H:(if t398=true then (laws_eqKeyS.l0 k1 l0 l1 (wrap64 (x5_1+1))) else (some false))=some r:=H
       have A7:=zM A70
       clear A70
       by_cases c8:t398=true
       ·subst c8
        have H1:(laws_eqKeyS.l0 k1 l0 l1 (wrap64 (x5_1+1)))=some r:=by rw[if_pos rfl] at H;exact H
        clear H
        have H:=H1
        clear H1
        have H':=zM H
        clear H
        try go_wp2
        have n0_:=zM (below_drew1 HB.out)
        clear HB
        have HB:=n0_
        clear n0_
        have p396:0≤(x5_1:Int):=of_decide_eq_true zq6
        have q396:x5_1 < (l0.length:Int):=of_decide_eq_true zq6
        obtain⟨ad396,A396_1,c396_1,e396,hx396_0,hx396_1,hl396_1,hi396_1⟩:=at_T54 HR0.out x5_1 p396 q396
        have hw396_1:=hx396_1
        have hw396_0:=hx396_0
        cases e396
        replace hx396_0:=(HB.out.cell (World.block_lt_of_cell? w _ hx396_0)).trans hx396_0
        replace hx396_1:=(HB.out.cell (World.block_lt_of_cell? w _ hx396_1)).trans hx396_1
        have HR396_1:=zM hi396_1
        have HC396_1:=zM hl396_1
        clear hi396_1 hl396_1
        replace p396:=eq_true p396
        replace q396:=eq_true q396
        have p397:0≤(x5_1:Int):=of_decide_eq_true zq6
        have q397:x5_1 < (l1.length:Int):=of_decide_eq_true zq6
        obtain⟨ad397,A397_1,c397_1,e397,hx397_0,hx397_1,hl397_1,hi397_1⟩:=at_T54 HR1.out x5_1 p397 q397
        have hw397_1:=hx397_1
        have hw397_0:=hx397_0
        cases e397
        replace hx397_0:=(HB.out.cell (World.block_lt_of_cell? w _ hx397_0)).trans hx397_0
        replace hx397_1:=(HB.out.cell (World.block_lt_of_cell? w _ hx397_1)).trans hx397_1
        have HR397_1:=zM hi397_1
        have HC397_1:=zM hl397_1
        clear hi397_1 hl397_1
        replace p397:=eq_true p397
        replace q397:=eq_true q397
        refine start_ (n:=10) (S:=fun w'=>w'.cell? (ad396.add ((x5_1).toNat*2))=some (.int .i64 ((rd_T54 l0 x5_1).f0))∧w'.cell? ⟨(ad396.add ((x5_1).toNat*2)).block,(ad396.add ((x5_1).toNat*2)).off+1,none⟩=some (.slice A396_1 ((rd_T54 l0 x5_1).f1).length c396_1)∧w'.cell? (ad397.add ((x5_1).toNat*2))=some (.int .i64 ((rd_T54 l1 x5_1).f0))∧w'.cell? ⟨(ad397.add ((x5_1).toNat*2)).block,(ad397.add ((x5_1).toNat*2)).off+1,none⟩=some (.slice A397_1 ((rd_T54 l1 x5_1).f1).length c397_1)) (ds:=[]) #[false,false,false,false,false,false,false,false,false,false] (by kernel_rfl) rfl rfl ⟨((HB.out.cell (World.block_lt_of_cell? w _ hw396_0)).trans hw396_0),((HB.out.cell (World.block_lt_of_cell? w _ hw396_1)).trans hw396_1),((HB.out.cell (World.block_lt_of_cell? w _ hw397_0)).trans hw397_0),((HB.out.cell (World.block_lt_of_cell? w _ hw397_1)).trans hw397_1)⟩ (fun hHeld=>?_);refine with_tabW laws_eqKeyS.tab6 laws_eqKeyS.bits6 (fun HT_ HW_=>?_)
        generalize wr.drew=w9 at HB HR396_1 HR397_1 hx396_0 hx396_1 hx397_0 hx397_1 hHeld ⊢
        refine pure_ (i:=0) (N:=some 17) (v:=?_) (a':=?_) #[true,false,false,false,false,false,false,false,false,false] rfl rfl (any_of HT_.out (by kernel_rfl)) (fun _ _ _ h=>h) (Or.inl ⟨zq125,?_⟩) ?_ ?_
        rotate_left
        ·intro w'
         go_simp
         with_reducible rfl
        rotate_left
        ·simp only[Act.put,List.setIfInBounds_toArray,List.set_cons_zero,List.set_cons_succ,i64_w,i32_w]
         rfl
        refine pure_ (i:=1) (N:=some 18) (v:=?_) (a':=?_) #[true,true,false,false,false,false,false,false,false,false] rfl rfl (any_of HT_.out (by kernel_rfl)) (fun _ _ _ h=>h) (Or.inl ⟨zq125,?_⟩) ?_ ?_
        rotate_left
        ·intro w'
         go_simp
         with_reducible rfl
        rotate_left
        ·simp only[Act.put,List.setIfInBounds_toArray,List.set_cons_zero,List.set_cons_succ,i64_w,i32_w]
         rfl
        refine pure_ (i:=2) (N:=some 19) (v:=?_) (a':=?_) #[true,true,true,false,false,false,false,false,false,false] rfl rfl (any_of HT_.out (by kernel_rfl)) (fun _ _ _ h=>h) (Or.inl ⟨zq125,?_⟩) ?_ ?_
        rotate_left
        ·intro w'
         go_simp
         with_reducible rfl
        rotate_left
        ·simp only[Act.put,List.setIfInBounds_toArray,List.set_cons_zero,List.set_cons_succ,i64_w,i32_w]
         rfl
        refine pure_ (i:=4) (N:=some 21) (v:=?_) (a':=?_) #[true,true,true,false,true,false,false,false,false,false] rfl rfl (any_of HT_.out (by kernel_rfl)) (fun _ _ _ h=>h) (Or.inl ⟨zq125,?_⟩) ?_ ?_
        rotate_left
        ·intro w'
         go_simp
         with_reducible rfl
        rotate_left
        ·simp only[Act.put,List.setIfInBounds_toArray,List.set_cons_zero,List.set_cons_succ,i64_w,i32_w]
         rfl
        refine pure_ (i:=5) (N:=some 22) (v:=?_) (a':=?_) #[true,true,true,false,true,true,false,false,false,false] rfl rfl (any_of HT_.out (by kernel_rfl)) (fun _ _ _ h=>h) (Or.inl ⟨zq125,?_⟩) ?_ ?_
        rotate_left
        ·intro w'
         go_simp
         with_reducible rfl
        rotate_left
        ·simp only[Act.put,List.setIfInBounds_toArray,List.set_cons_zero,List.set_cons_succ,i64_w,i32_w]
         rfl
        refine pure_ (i:=6) (N:=some 23) (v:=?_) (a':=?_) #[true,true,true,false,true,true,true,false,false,false] rfl rfl (any_of HT_.out (by kernel_rfl)) (fun _ _ _ h=>h) (Or.inl ⟨zq125,?_⟩) ?_ ?_
        rotate_left
        ·intro w'
         go_simp
         with_reducible rfl
        rotate_left
        ·simp only[Act.put,List.setIfInBounds_toArray,List.set_cons_zero,List.set_cons_succ,i64_w,i32_w]
         rfl
        refine take_ (i:=3) (N:=some 20) (v:=?_) (a':=?_) #[true,true,true,true,true,true,true,false,false,false] rfl rfl (take_ofW HT_.out HW_.out (by kernel_rfl)) (fun _ _ _ h=>h) (Or.inl ⟨zq125,?_⟩) hHeld ?_ ?_
        rotate_left
        ·rintro w' ⟨s0,s1,s2,s3⟩
         go_simp
         with_reducible rfl
        rotate_left
        ·simp only[Act.put,List.setIfInBounds_toArray,List.set_cons_zero,List.set_cons_succ,i64_w,i32_w]
         rfl
        refine take_ (i:=7) (N:=some 24) (v:=?_) (a':=?_) #[true,true,true,true,true,true,true,true,false,false] rfl rfl (take_ofW HT_.out HW_.out (by kernel_rfl)) (fun _ _ _ h=>h) (Or.inl ⟨zq125,?_⟩) hHeld ?_ ?_
        rotate_left
        ·rintro w' ⟨s0,s1,s2,s3⟩
         go_simp
         with_reducible rfl
        rotate_left
        ·simp only[Act.put,List.setIfInBounds_toArray,List.set_cons_zero,List.set_cons_succ,i64_w,i32_w]
         rfl
        refine one_ (i:=8) (N:=some 25) #[true,true,true,true,true,true,true,true,true,false] rfl rfl (one_of HT_.out (by kernel_rfl)) zq36 (fun K hK=>?_)
        refine goes_ Try.func58 (by kernel_rfl) rfl #[.agg #[.int .i64 ((rd_T54 l0 x5_1).f0),.slice A396_1 ((rd_T54 l0 x5_1).f1).length c396_1],.agg #[.int .i64 ((rd_T54 l1 x5_1).f0),.slice A397_1 ((rd_T54 l1 x5_1).f1).length c397_1]] zq125 rfl rfl zq1 ?_
        with_reducible refine(laws_eqKey.calls k1 ((rd_T54 l0 x5_1).f0) _ _ ((rd_T54 l0 x5_1).f1) ((rd_T54 l1 x5_1).f0) _ _ ((rd_T54 l1 x5_1).f1) true _ ?side1 ?side2 ?side3 ?side4 A7.out).mono ?_
        (case side1=>exact zq151)
        (case side2=>exact HC396_1.out)
        (case side3=>exact zq152)
        (case side4=>exact HC397_1.out)
        rintro e w10 ⟨rfl,hb⟩
        refine⟨_,rfl,?_⟩
        have n0_:=zM (below_step zq0 hb)
        clear HB
        have HB:=n0_
        clear n0_
        (try clear hb)
        (try clear hb2)
        (try clear hk)
        (try clear hi)
        refine hK.out _ _ ⟨((HB.out.cell (World.block_lt_of_cell? w _ hw396_0)).trans hw396_0),((HB.out.cell (World.block_lt_of_cell? w _ hw396_1)).trans hw396_1),((HB.out.cell (World.block_lt_of_cell? w _ hw397_0)).trans hw397_0),((HB.out.cell (World.block_lt_of_cell? w _ hw397_1)).trans hw397_1)⟩ (fun hHeld=>?_)
        clear hK K
        refine norm_ (a':=?_) ?_ ?_
        rotate_left
        ·show Act.put _ (some 25) _=_
         simp only[Act.put,List.setIfInBounds_toArray,List.set_cons_zero,List.set_cons_succ,i64_w,i32_w]
         rfl
        refine pure_ (i:=9) (N:=some 26) (v:=?_) (a':=?_) #[true,true,true,true,true,true,true,true,true,true] rfl rfl (any_of HT_.out (by kernel_rfl)) (fun _ _ _ h=>h) (Or.inl ⟨zq125,?_⟩) ?_ ?_
        rotate_left
        ·intro w'
         go_simp
         with_reducible rfl
        rotate_left
        ·simp only[Act.put,List.setIfInBounds_toArray,List.set_cons_zero,List.set_cons_succ,i64_w,i32_w]
         rfl
        refine done_ (done_of HT_.out (by kernel_rfl)) ?_
        try go_wp2
        go_roundg k1
        case measure=>have:=HK1.out;omega
        case rel=>exact⟨(wrap64 (x5_1+1)),zq7,H',⟨zq79⟩,⟨zq0⟩⟩
       ·replace c8:=Bool.eq_false_iff.mpr c8
        subst c8
        have H1:(some false)=some r:=by rw[if_neg (show ¬ (false=true) by decide)] at H;exact H
        clear H
        have H:=H1
        clear H1
        obtain rfl:=Option.some.inj H
        try go_wp2
        have n0_:=zM (below_drew1 HB.out)
        clear HB
        have HB:=n0_
        clear n0_
        have p396:0≤(x5_1:Int):=of_decide_eq_true zq6
        have q396:x5_1 < (l0.length:Int):=of_decide_eq_true zq6
        obtain⟨ad396,A396_1,c396_1,e396,hx396_0,hx396_1,hl396_1,hi396_1⟩:=at_T54 HR0.out x5_1 p396 q396
        have hw396_1:=hx396_1
        have hw396_0:=hx396_0
        cases e396
        replace hx396_0:=(HB.out.cell (World.block_lt_of_cell? w _ hx396_0)).trans hx396_0
        replace hx396_1:=(HB.out.cell (World.block_lt_of_cell? w _ hx396_1)).trans hx396_1
        have HR396_1:=zM hi396_1
        have HC396_1:=zM hl396_1
        clear hi396_1 hl396_1
        replace p396:=eq_true p396
        replace q396:=eq_true q396
        have p397:0≤(x5_1:Int):=of_decide_eq_true zq6
        have q397:x5_1 < (l1.length:Int):=of_decide_eq_true zq6
        obtain⟨ad397,A397_1,c397_1,e397,hx397_0,hx397_1,hl397_1,hi397_1⟩:=at_T54 HR1.out x5_1 p397 q397
        have hw397_1:=hx397_1
        have hw397_0:=hx397_0
        cases e397
        replace hx397_0:=(HB.out.cell (World.block_lt_of_cell? w _ hx397_0)).trans hx397_0
        replace hx397_1:=(HB.out.cell (World.block_lt_of_cell? w _ hx397_1)).trans hx397_1
        have HR397_1:=zM hi397_1
        have HC397_1:=zM hl397_1
        clear hi397_1 hl397_1
        replace p397:=eq_true p397
        replace q397:=eq_true q397
        refine start_ (n:=10) (S:=fun w'=>w'.cell? (ad396.add ((x5_1).toNat*2))=some (.int .i64 ((rd_T54 l0 x5_1).f0))∧w'.cell? ⟨(ad396.add ((x5_1).toNat*2)).block,(ad396.add ((x5_1).toNat*2)).off+1,none⟩=some (.slice A396_1 ((rd_T54 l0 x5_1).f1).length c396_1)∧w'.cell? (ad397.add ((x5_1).toNat*2))=some (.int .i64 ((rd_T54 l1 x5_1).f0))∧w'.cell? ⟨(ad397.add ((x5_1).toNat*2)).block,(ad397.add ((x5_1).toNat*2)).off+1,none⟩=some (.slice A397_1 ((rd_T54 l1 x5_1).f1).length c397_1)) (ds:=[]) #[false,false,false,false,false,false,false,false,false,false] (by kernel_rfl) rfl rfl ⟨((HB.out.cell (World.block_lt_of_cell? w _ hw396_0)).trans hw396_0),((HB.out.cell (World.block_lt_of_cell? w _ hw396_1)).trans hw396_1),((HB.out.cell (World.block_lt_of_cell? w _ hw397_0)).trans hw397_0),((HB.out.cell (World.block_lt_of_cell? w _ hw397_1)).trans hw397_1)⟩ (fun hHeld=>?_);refine with_tabW laws_eqKeyS.tab6 laws_eqKeyS.bits6 (fun HT_ HW_=>?_)
        generalize wr.drew=w11 at HB HR396_1 HR397_1 hx396_0 hx396_1 hx397_0 hx397_1 hHeld ⊢
        refine pure_ (i:=0) (N:=some 17) (v:=?_) (a':=?_) #[true,false,false,false,false,false,false,false,false,false] rfl rfl (any_of HT_.out (by kernel_rfl)) (fun _ _ _ h=>h) (Or.inl ⟨zq125,?_⟩) ?_ ?_
        rotate_left
        ·intro w'
         go_simp
         with_reducible rfl
        rotate_left
        ·simp only[Act.put,List.setIfInBounds_toArray,List.set_cons_zero,List.set_cons_succ,i64_w,i32_w]
         rfl
        refine pure_ (i:=1) (N:=some 18) (v:=?_) (a':=?_) #[true,true,false,false,false,false,false,false,false,false] rfl rfl (any_of HT_.out (by kernel_rfl)) (fun _ _ _ h=>h) (Or.inl ⟨zq125,?_⟩) ?_ ?_
        rotate_left
        ·intro w'
         go_simp
         with_reducible rfl
        rotate_left
        ·simp only[Act.put,List.setIfInBounds_toArray,List.set_cons_zero,List.set_cons_succ,i64_w,i32_w]
         rfl
        refine pure_ (i:=2) (N:=some 19) (v:=?_) (a':=?_) #[true,true,true,false,false,false,false,false,false,false] rfl rfl (any_of HT_.out (by kernel_rfl)) (fun _ _ _ h=>h) (Or.inl ⟨zq125,?_⟩) ?_ ?_
        rotate_left
        ·intro w'
         go_simp
         with_reducible rfl
        rotate_left
        ·simp only[Act.put,List.setIfInBounds_toArray,List.set_cons_zero,List.set_cons_succ,i64_w,i32_w]
         rfl
        refine pure_ (i:=4) (N:=some 21) (v:=?_) (a':=?_) #[true,true,true,false,true,false,false,false,false,false] rfl rfl (any_of HT_.out (by kernel_rfl)) (fun _ _ _ h=>h) (Or.inl ⟨zq125,?_⟩) ?_ ?_
        rotate_left
        ·intro w'
         go_simp
         with_reducible rfl
        rotate_left
        ·simp only[Act.put,List.setIfInBounds_toArray,List.set_cons_zero,List.set_cons_succ,i64_w,i32_w]
         rfl
        refine pure_ (i:=5) (N:=some 22) (v:=?_) (a':=?_) #[true,true,true,false,true,true,false,false,false,false] rfl rfl (any_of HT_.out (by kernel_rfl)) (fun _ _ _ h=>h) (Or.inl ⟨zq125,?_⟩) ?_ ?_
        rotate_left
        ·intro w'
         go_simp
         with_reducible rfl
        rotate_left
        ·simp only[Act.put,List.setIfInBounds_toArray,List.set_cons_zero,List.set_cons_succ,i64_w,i32_w]
         rfl
        refine pure_ (i:=6) (N:=some 23) (v:=?_) (a':=?_) #[true,true,true,false,true,true,true,false,false,false] rfl rfl (any_of HT_.out (by kernel_rfl)) (fun _ _ _ h=>h) (Or.inl ⟨zq125,?_⟩) ?_ ?_
        rotate_left
        ·intro w'
         go_simp
         with_reducible rfl
        rotate_left
        ·simp only[Act.put,List.setIfInBounds_toArray,List.set_cons_zero,List.set_cons_succ,i64_w,i32_w]
         rfl
        refine take_ (i:=3) (N:=some 20) (v:=?_) (a':=?_) #[true,true,true,true,true,true,true,false,false,false] rfl rfl (take_ofW HT_.out HW_.out (by kernel_rfl)) (fun _ _ _ h=>h) (Or.inl ⟨zq125,?_⟩) hHeld ?_ ?_
        rotate_left
        ·rintro w' ⟨s0,s1,s2,s3⟩
         go_simp
         with_reducible rfl
        rotate_left
        ·simp only[Act.put,List.setIfInBounds_toArray,List.set_cons_zero,List.set_cons_succ,i64_w,i32_w]
         rfl
        refine take_ (i:=7) (N:=some 24) (v:=?_) (a':=?_) #[true,true,true,true,true,true,true,true,false,false] rfl rfl (take_ofW HT_.out HW_.out (by kernel_rfl)) (fun _ _ _ h=>h) (Or.inl ⟨zq125,?_⟩) hHeld ?_ ?_
        rotate_left
        ·rintro w' ⟨s0,s1,s2,s3⟩
         go_simp
         with_reducible rfl
        rotate_left
        ·simp only[Act.put,List.setIfInBounds_toArray,List.set_cons_zero,List.set_cons_succ,i64_w,i32_w]
         rfl
        refine one_ (i:=8) (N:=some 25) #[true,true,true,true,true,true,true,true,true,false] rfl rfl (one_of HT_.out (by kernel_rfl)) zq36 (fun K hK=>?_)
        refine goes_ Try.func58 (by kernel_rfl) rfl #[.agg #[.int .i64 ((rd_T54 l0 x5_1).f0),.slice A396_1 ((rd_T54 l0 x5_1).f1).length c396_1],.agg #[.int .i64 ((rd_T54 l1 x5_1).f0),.slice A397_1 ((rd_T54 l1 x5_1).f1).length c397_1]] zq125 rfl rfl zq1 ?_
        with_reducible refine(laws_eqKey.calls k1 ((rd_T54 l0 x5_1).f0) _ _ ((rd_T54 l0 x5_1).f1) ((rd_T54 l1 x5_1).f0) _ _ ((rd_T54 l1 x5_1).f1) false _ ?side1 ?side2 ?side3 ?side4 A7.out).mono ?_
        (case side1=>exact zq151)
        (case side2=>exact HC396_1.out)
        (case side3=>exact zq152)
        (case side4=>exact HC397_1.out)
        rintro e w12 ⟨rfl,hb⟩
        refine⟨_,rfl,?_⟩
        have n0_:=zM (below_step zq0 hb)
        clear HB
        have HB:=n0_
        clear n0_
        (try clear hb)
        (try clear hb2)
        (try clear hk)
        (try clear hi)
        refine hK.out _ _ ⟨((HB.out.cell (World.block_lt_of_cell? w _ hw396_0)).trans hw396_0),((HB.out.cell (World.block_lt_of_cell? w _ hw396_1)).trans hw396_1),((HB.out.cell (World.block_lt_of_cell? w _ hw397_0)).trans hw397_0),((HB.out.cell (World.block_lt_of_cell? w _ hw397_1)).trans hw397_1)⟩ (fun hHeld=>?_)
        clear hK K
        refine norm_ (a':=?_) ?_ ?_
        rotate_left
        ·show Act.put _ (some 25) _=_
         simp only[Act.put,List.setIfInBounds_toArray,List.set_cons_zero,List.set_cons_succ,i64_w,i32_w]
         rfl
        refine pure_ (i:=9) (N:=some 26) (v:=?_) (a':=?_) #[true,true,true,true,true,true,true,true,true,true] rfl rfl (any_of HT_.out (by kernel_rfl)) (fun _ _ _ h=>h) (Or.inl ⟨zq125,?_⟩) ?_ ?_
        rotate_left
        ·intro w'
         go_simp
         with_reducible rfl
        rotate_left
        ·simp only[Act.put,List.setIfInBounds_toArray,List.set_cons_zero,List.set_cons_succ,i64_w,i32_w]
         rfl
        refine done_ (done_of HT_.out (by kernel_rfl)) ?_
        try go_wp2
        go_ret
        exact⟨zq3,zq0⟩
      ·rw[if_neg c6] at H
       exact absurd H zq73
     ·rw[if_neg c5] at H
      exact absurd H zq73
    ·rw[if_neg c4] at H
     have c4b0:decide (x5_1 < (l0.length:Int))=false:=decide_eq_false c4
     clear c4
     obtain rfl:=Option.some.inj H
     go_wp2
     go_ret
     exact⟨zq3,zq0⟩
 ·rw[if_neg c3] at H
  have c3b0:((l0.length:Int) == (l1.length:Int))=false:=beq_eq_false_iff_ne.mpr c3
  have c3b1:((l0.length:Int) != (l1.length:Int))=true:=bne_iff_ne.mpr c3
  have c3b2:(l0.length == l1.length)=false:=by first|simpa using c3|(simp at c3 ⊢;omega)
  obtain rfl:=Option.some.inj H
  go_enter Try.func34,Try.ntmps34
  go_wp2
  go_ret
  exact⟨zq3,zq0⟩
end Go.Proofs.Ytdbanjdnjhflcaa.All
