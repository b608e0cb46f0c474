-- Laid by wip/myprint.py of this repo over the kit's print (the functions' texts by the kit's program, some by hand). Not trusted: Lean checks it.
import Derived.Test.YtofickldnpndbaaAllx0
import Derived.Test.YtofickldnpndbaaAllx5
import Derived.Test.YtofickldnpndbaaAllx111
namespace Go.Proofs.Ytofickldnpndbaa.All
open Go.RowKit Go.Proofs.YtofickldnpndbaaW.PrintWords Go.Proofs.YtofickldnpndbaaW.PrintLast Go.Proofs.YtofickldnpndbaaW.PrintMore
attribute [local go_sem] max2_int min2_int max_two min_two max_three min_three max_four min_four
set_option linter.unusedVariables false
set_option linter.unusedSimpArgs false

/-! ### impl_ReadHead: function 34 -/
def impl_ReadHead.f (k : Nat) (l0 : List Int) : Option (Int × Int × Int × Int × List Int) := if (l0.length : Int) < 11 then (some (2, 0, 0, 0, ([] : List Int))) else (if 0 < (l0.length : Int) then (if (rd l0 0) = 1 then ((impl_ReadWord.f k l0 3 8).bind fun bt525 => (if 1 < (l0.length : Int) then (if 2 < (l0.length : Int) then (if bt525.1 = 0 then ((impl_LetterFault.f k (wrap64 (rd l0 1)) (wrap64 (rd l0 2)) bt525.2 ([] : List Int)).bind fun t531 => (if t531 = 0 then (some (0, wrap64 (rd l0 1), wrap64 (rd l0 2), bt525.2, ([] : List Int))) else (some (3, 0, 0, 0, ([] : List Int))))) else (some (3, 0, 0, 0, ([] : List Int)))) else (none)) else (none))) else (some (1, 0, 0, 0, ([] : List Int)))) else (none))
theorem impl_ReadHead.mono : ∀ a0 k, LeO (impl_ReadHead.f k a0) (impl_ReadHead.f (k + 1) a0) := by
  intro a0 k
  unfold impl_ReadHead.f
  repeat' first
      | (with_reducible exact impl_LetterFault.mono _ _ _ _ _)
      | (with_reducible exact impl_ReadWord.mono _ _ _ _)
      | (with_reducible exact LeO.refl _)
      | (with_reducible exact LeO.none _)
      | (with_reducible refine LeO.ite ?_ ?_)
      | (with_reducible refine LeO.bind ?_ (fun _ => ?_))
      | exact impl_LetterFault.mono _ _ _ _ _
      | exact impl_ReadWord.mono _ _ _ _
      | exact LeO.none _
      | refine LeO.ite ?_ ?_
      | refine LeO.bind ?_ (fun _ => ?_)
def impl_ReadHead.T6 : Bool × List (List Nat × List Nat) := (true, [([], []), ([0], [0]), ([1], [1]), ([2], [2]), ([], []), ([4], [4]), ([5], [5]), ([6], [6]), ([], []), ([8], [8]), ([3, 7, 9], [3, 7, 9]), ([], []), ([11, 10, 0, 1, 2, 3, 4, 5, 6, 7, 8, 9, 10, 11], [10, 11])])
def impl_ReadHead.B6 : List Nat := [0, 1, 3, 7, 0, 16, 48, 112, 0, 256, 1023, 0, 4095]
theorem impl_ReadHead.tab6 : rtab .any (opsOf Try.f34 6) = impl_ReadHead.T6 := by kernel_rfl
theorem impl_ReadHead.bits6 : waitsOk impl_ReadHead.T6.2 impl_ReadHead.B6 = true := by kernel_rfl
open Bool renaming true → Y, false → Z
open List renaming setIfInBounds_toArray → sa_, set_cons_zero → sb_, set_cons_succ → sc_
set_option maxHeartbeats 8000000 in
set_option maxRecDepth 100000 in
theorem impl_ReadHead.calls (k : Nat) (A0 : Option Addr) (c0 : Nat) (l0 : List Int) (r1 : Int) (r2 : Int) (r3 : Int) (r4 : Int) (r5 : List Int) (w : World) (hr0 : Kd.C (Kd.int .u8) w A0 l0.length l0) (hc0 : l0.length ≤ c0) (h : impl_ReadHead.f k l0 = some (r1,r2,r3,r4,r5)) :
  Calls Try.prog 34 #[.slice A0 l0.length c0] w fun e w'=>∃ v4_ : Value,e = .returned (.agg #[.int .i64 r1,.int .i64 r2,.int .i64 r3,.int .i64 r4,v4_]) ∧ Kd.R (Kd.int .u8) 5 w' w.heap.size (fun _=>True) v4_ r5 ∧ Below w.heap.size w w':=by
 have hu47:=Try.underlying47
 have hu32:=Try.underlying32
 have hu45:=Try.underlying45
 have HR0:=Aside0.mk hr0
 have HC0:=Aside0.mk hc0
 clear hr0 hc0
 have HB:=Aside0.mk (Below.refl w.heap.size w)
 have H : (if (l0.length : Int) < 11 then (some (2,0,0,0,([] : List Int))) else (if 0 < (l0.length : Int) then (if (rd l0 0) = 1 then ((impl_ReadWord.f k l0 3 8).bind fun bt525=>(if 1 < (l0.length : Int) then (if 2 < (l0.length : Int) then (if bt525.1 = 0 then ((impl_LetterFault.f k (wrap64 (rd l0 1)) (wrap64 (rd l0 2)) bt525.2 ([] : List Int)).bind fun t531=>(if t531 = 0 then (some (0,wrap64 (rd l0 1),wrap64 (rd l0 2),bt525.2,([] : List Int))) else (some (3,0,0,0,([] : List Int))))) else (some (3,0,0,0,([] : List Int)))) else (none)) else (none))) else (some (1,0,0,0,([] : List Int)))) else (none))) = some (r1,r2,r3,r4,r5):=h
 clear h
 by_cases c2 : (l0.length : Int) < 11
 ·rw [if_pos c2] at H
  have c2b0 : decide ((l0.length : Int) < 11) = true:=decide_eq_true c2
  have c2b1 : decide (l0.length < 11) = true:=decide_eq_true (by omega)
  clear c2
  simp only [Option.some.injEq,Prod.mk.injEq] at H
  obtain⟨rfl,rfl,rfl,rfl,rfl⟩:=H
  go_enter Try.func34,Try.ntmps34
  go_wp2_with (first|((with_reducible refine gate_dst (N:=2) rfl ?_);refine box_event ?hg (N:=2) ?hd (cs:=#[.int .i64 0,.int .i64 0,.int .i64 0,.int .i64 0,.slice none 0 0]) (t:=47) ?hr ?_;(case hd=>rfl);(case hg=>rfl);(case hr=>first|(go_simp;done)|(go_simp;rfl));intro gb523 hg w3 hbox hb;have n0_:=Aside0.mk (below_step (by repeat(first|(with_reducible first|exact HB.out|apply below_alloc|apply pw_below_drewN|apply below_drew1)|exact HB.out)) hb);have n1_:=Aside0.mk (hbox);have n2_:=Aside0.mk ((by rw [hg];exact (below_size (by repeat(first|(with_reducible first|exact HB.out|apply below_alloc|apply pw_below_drewN|apply below_drew1)|exact HB.out))) : w.heap.size ≤ gb523));have n3_:=Aside0.mk ((by rw [hg];exact (below_size (by repeat(first|(with_reducible first|exact HB.out|apply below_alloc|apply pw_below_drewN|apply below_drew1)|exact HB.out))) : w.heap.size ≤ gb523));clear HB;have HB:=n0_;have BK523:=n1_;have GW523:=n2_;have GE523:=n3_;clear n0_ n1_ n2_ n3_;clear hb hbox hg;have hcz4_0 : w3.cell? ⟨gb523,0,none⟩ = some (.int .i64 0):=(blk_cell BK523.out 0).trans rfl;have hcz4_1 : w3.cell? ⟨gb523,1,none⟩ = some (.int .i64 0):=(blk_cell BK523.out 1).trans rfl;have hcz4_2 : w3.cell? ⟨gb523,2,none⟩ = some (.int .i64 0):=(blk_cell BK523.out 2).trans rfl;have hcz4_3 : w3.cell? ⟨gb523,3,none⟩ = some (.int .i64 0):=(blk_cell BK523.out 3).trans rfl;have hcz4_4 : w3.cell? ⟨gb523,4,none⟩ = some (.slice none 0 0):=(blk_cell BK523.out 4).trans rfl;have hfz4_0:=blk_frozen BK523.out 0;have hfz4_1:=blk_frozen BK523.out 1;have hfz4_2:=blk_frozen BK523.out 2;have hfz4_3:=blk_frozen BK523.out 3;have hfz4_4:=blk_frozen BK523.out 4))
  refine bodyPost_ret (results_cell_row rfl _ _ gb523 47 #[.int .i64 2,.int .i64 0,.int .i64 0,.int .i64 0,.slice none 0 0] (0,0) _ rfl (by (with_reducible repeat (first|refine blk_drewN ?_ _|refine blk_drew ?_|refine blk_alloc ?_ _));refine blk_put (cs:=#[.int .i64 2,.int .i64 0,.int .i64 0,.int .i64 0,.slice none 0 0]) ?_ 4 _ rfl;(with_reducible repeat (first|refine blk_drewN ?_ _|refine blk_drew ?_|refine blk_alloc ?_ _));refine blk_put (cs:=#[.int .i64 2,.int .i64 0,.int .i64 0,.int .i64 0,.slice none 0 0]) ?_ 3 _ rfl;(with_reducible repeat (first|refine blk_drewN ?_ _|refine blk_drew ?_|refine blk_alloc ?_ _));refine blk_put (cs:=#[.int .i64 2,.int .i64 0,.int .i64 0,.int .i64 0,.slice none 0 0]) ?_ 2 _ rfl;(with_reducible repeat (first|refine blk_drewN ?_ _|refine blk_drew ?_|refine blk_alloc ?_ _));refine blk_put (cs:=#[.int .i64 2,.int .i64 0,.int .i64 0,.int .i64 0,.slice none 0 0]) ?_ 1 _ rfl;(with_reducible repeat (first|refine blk_drewN ?_ _|refine blk_drew ?_|refine blk_alloc ?_ _));refine blk_put (cs:=#[.int .i64 0,.int .i64 0,.int .i64 0,.int .i64 0,.slice none 0 0]) ?_ 0 _ rfl;(with_reducible repeat (first|refine blk_drewN ?_ _|refine blk_drew ?_|refine blk_alloc ?_ _));exact BK523.out) Try.underlying47 rfl (by kernel_rfl)) rfl ?_
  exact⟨_,by first|rfl|(simp [errW_none,errW_some] <;> rfl)|(simp [*,errW_none,errW_some] <;> rfl),by first|exact Kd.R_nil _ _ _ _ _|exact Kd.N_nil _ _ _ _ _|exact Kd.V_nil _ _ _ _ _|exact Kd.Q_nil _ _ _ _ _|exact Kd.S_nil _ _ _ _ _,by repeat (first|(with_reducible first|exact HB.out|apply below_alloc|apply pw_below_drewN|apply below_drew1|refine below_set ?_ GE523.out)|exact HB.out)⟩
 ·rw [if_neg c2] at H
  have c2b0 : decide ((l0.length : Int) < 11) = false:=decide_eq_false c2
  have c2b1 : decide (l0.length < 11) = false:=decide_eq_false (by omega)
  clear c2
  by_cases c5 : 0 < (l0.length : Int)
  ·rw [if_pos c5] at H
   have c5b0 : decide (0 < (l0.length : Int)) = true:=decide_eq_true c5
   have c5b1 : decide (0 < l0.length) = true:=decide_eq_true (by omega)
   clear c5
   by_cases c6 : (rd l0 0) = 1
   ·rw [if_pos c6] at H
    have c6b0 : ((rd l0 0) == 1) = true:=beq_iff_eq.mpr c6
    have c6b1 : ((rd l0 0) != 1) = false:=bne_eq_false_iff_eq.mpr c6
    clear c6
    replace H:=Option.bind_eq_some_iff.mp H
    obtain⟨⟨t525,t526⟩,A70,H⟩:=H
    replace H : (if 1 < (l0.length : Int) then (if 2 < (l0.length : Int) then (if t525 = 0 then ((impl_LetterFault.f k (wrap64 (rd l0 1)) (wrap64 (rd l0 2)) t526 ([] : List Int)).bind fun t531=>(if t531 = 0 then (some (0,wrap64 (rd l0 1),wrap64 (rd l0 2),t526,([] : List Int))) else (some (3,0,0,0,([] : List Int))))) else (some (3,0,0,0,([] : List Int)))) else (none)) else (none)) = some (r1,r2,r3,r4,r5):=H
    have A7:=Aside0.mk A70
    clear A70
    by_cases c8 : 1 < (l0.length : Int)
    ·rw [if_pos c8] at H
     have c8b0 : decide (1 < (l0.length : Int)) = true:=decide_eq_true c8
     have c8b1 : decide (1 < l0.length) = true:=decide_eq_true (by omega)
     clear c8
     by_cases c9 : 2 < (l0.length : Int)
     ·rw [if_pos c9] at H
      have c9b0 : decide (2 < (l0.length : Int)) = true:=decide_eq_true c9
      have c9b1 : decide (2 < l0.length) = true:=decide_eq_true (by omega)
      clear c9
      by_cases c10 : t525 = 0
      ·rw [if_pos c10] at H
       have c10b0 : (t525 == 0) = true:=beq_iff_eq.mpr c10
       have c10b1 : (t525 != 0) = false:=bne_eq_false_iff_eq.mpr c10
       clear c10
       replace H:=Option.bind_eq_some_iff.mp H
       obtain⟨t531,A110,H⟩:=H
       replace H : (if t531 = 0 then (some (0,wrap64 (rd l0 1),wrap64 (rd l0 2),t526,([] : List Int))) else (some (3,0,0,0,([] : List Int)))) = some (r1,r2,r3,r4,r5):=H
       have A11:=Aside0.mk A110
       clear A110
       by_cases c12 : t531 = 0
       ·rw [if_pos c12] at H
        have c12b0 : (t531 == 0) = true:=beq_iff_eq.mpr c12
        have c12b1 : (t531 != 0) = false:=bne_eq_false_iff_eq.mpr c12
        clear c12
        simp only [Option.some.injEq,Prod.mk.injEq] at H
        obtain⟨rfl,rfl,rfl,rfl,rfl⟩:=H
        go_enter Try.func34,Try.ntmps34
        try go_wp2_with (first|((with_reducible refine gate_dst (N:=2) rfl ?_);refine box_event ?hg (N:=2) ?hd (cs:=#[.int .i64 0,.int .i64 0,.int .i64 0,.int .i64 0,.slice none 0 0]) (t:=47) ?hr ?_;(case hd=>rfl);(case hg=>rfl);(case hr=>first|(go_simp;done)|(go_simp;rfl));intro gb523 hg w13 hbox hb;have n0_:=Aside0.mk (below_step (by repeat(first|(with_reducible first|exact HB.out|apply below_alloc|apply pw_below_drewN|apply below_drew1)|exact HB.out)) hb);have n1_:=Aside0.mk (hbox);have n2_:=Aside0.mk ((by rw [hg];exact (below_size (by repeat(first|(with_reducible first|exact HB.out|apply below_alloc|apply pw_below_drewN|apply below_drew1)|exact HB.out))) : w.heap.size ≤ gb523));have n3_:=Aside0.mk ((by rw [hg];exact (below_size (by repeat(first|(with_reducible first|exact HB.out|apply below_alloc|apply pw_below_drewN|apply below_drew1)|exact HB.out))) : w.heap.size ≤ gb523));clear HB;have HB:=n0_;have BK523:=n1_;have GW523:=n2_;have GE523:=n3_;clear n0_ n1_ n2_ n3_;clear hb hbox hg;have p524 : 0 ≤ (0 : Int):=(by omega);have q524 : 0 < (l0.length : Int):=of_decide_eq_true (by first|(with_reducible assumption)|assumption);obtain⟨ad524,e524,hx524_0⟩:=Kd.at_int HR0.out 0 p524 q524;cases e524;have qi524 : (0 < l0.length) = True:=eq_true (by omega);(try rw [show ((0 : Int)).toNat = 0 from rfl] at hx524_0);(try rw [Addr.add_zero'] at hx524_0);replace hx524_0:=(HB.out.cell (World.block_lt_of_cell? w _ hx524_0)).trans hx524_0;replace p524:=eq_true p524;replace q524:=eq_true q524)|((with_reducible refine gate_callee (f:=11) rfl ?_);refine goesL_ (some 17) rfl rfl Try.func11 (by kernel_rfl) rfl #[.slice (some ad524) l0.length c0,.int .i64 3,.int .i64 8] rfl (by (try simp only [List.map_toArray,List.map_cons,List.map_nil]);first|done|rfl|(simp only [List.length_drop,List.length_take];rfl)) ?_;(with_reducible refine (impl_ReadWord.calls k _ _ l0 3 8 t525 t526 _ ?side1 ?side2 A7.out).mono ?_);(case side1=>repeat (first|exact (Kd.C_below HR0.out HB.out)|(with_reducible refine Kd.C_alloc ?_ _)|(with_reducible refine Kd.C_drewN ?_ _)|(with_reducible refine Kd.C_drew ?_)));(case side2=>exact HC0.out);rintro e w14 ⟨rfl,hb⟩;refine ⟨_,rfl,?_⟩;have n0_:=Aside0.mk (blk_below (g:=gb523) (o:=.cells #[.int .i64 0,.int .i64 0,.int .i64 0,.int .i64 0,.slice none 0 0] 47 (0,0)) (by (with_reducible repeat (first|refine blk_drewN ?_ _|refine blk_drew ?_|refine blk_alloc ?_ _));exact BK523.out) hb);have n1_:=Aside0.mk (below_step (by repeat(first|(with_reducible first|exact HB.out|apply below_alloc|apply pw_below_drewN|apply below_drew1|refine below_set ?_ GE523.out)|exact HB.out)) hb);clear BK523;clear HB;have BK523:=n0_;have HB:=n1_;clear n0_ n1_;(try clear hb);(try clear hb2);(try clear hk);(try clear hi))|((with_reducible refine gate_dst (N:=3) rfl ?_);refine box_event ?hg (N:=3) ?hd (cs:=#[.int .i64 0,.int .i64 0]) (t:=32) ?hr ?_;(case hd=>rfl);(case hg=>rfl);(case hr=>first|(go_simp;done)|(go_simp;rfl));intro gb527 hg w15 hbox hb;have n0_:=Aside0.mk (blk_below (g:=gb523) (o:=.cells #[.int .i64 0,.int .i64 0,.int .i64 0,.int .i64 0,.slice none 0 0] 47 (0,0)) (by (with_reducible repeat (first|refine blk_drewN ?_ _|refine blk_drew ?_|refine blk_alloc ?_ _));exact BK523.out) hb);have n1_:=Aside0.mk (below_step (by repeat(first|(with_reducible first|exact HB.out|apply below_alloc|apply pw_below_drewN|apply below_drew1|refine below_set ?_ GE523.out)|exact HB.out)) hb);have n2_:=Aside0.mk (hbox);have n3_:=Aside0.mk ((by rw [hg];exact (below_size (by repeat(first|(with_reducible first|exact HB.out|apply below_alloc|apply pw_below_drewN|apply below_drew1|refine below_set ?_ GE523.out)|exact HB.out))) : w.heap.size ≤ gb527));have n4_:=Aside0.mk ((by rw [hg];exact (below_size (by repeat(first|(with_reducible first|exact HB.out|apply below_alloc|apply pw_below_drewN|apply below_drew1|refine below_set ?_ GE523.out)|exact HB.out))) : w.heap.size ≤ gb527));have n5_:=Aside0.mk ((by rw [hg];exact Nat.ne_of_lt (blk_lt (g:=gb523) (o:=.cells #[.int .i64 0,.int .i64 0,.int .i64 0,.int .i64 0,.slice none 0 0] 47 (0,0)) (by (with_reducible repeat (first|refine blk_drewN ?_ _|refine blk_drew ?_|refine blk_alloc ?_ _));exact BK523.out)) : gb523 ≠ gb527));have n6_:=Aside0.mk ((by rw [hg];exact Nat.ne_of_gt (blk_lt (g:=gb523) (o:=.cells #[.int .i64 0,.int .i64 0,.int .i64 0,.int .i64 0,.slice none 0 0] 47 (0,0)) (by (with_reducible repeat (first|refine blk_drewN ?_ _|refine blk_drew ?_|refine blk_alloc ?_ _));exact BK523.out)) : gb527 ≠ gb523));clear BK523;clear HB;have BK523:=n0_;have HB:=n1_;have BK527:=n2_;have GW527:=n3_;have GE527:=n4_;have NB523_527:=n5_;have NB527_523:=n6_;clear n0_ n1_ n2_ n3_ n4_ n5_ n6_;clear hb hbox hg;have hnb16:=NB527_523.out;have hnc16:=NB523_527.out;have hcz17_0 : w15.cell? ⟨gb527,0,none⟩ = some (.int .i64 0):=(blk_cell BK527.out 0).trans rfl;have hcz17_1 : w15.cell? ⟨gb527,1,none⟩ = some (.int .i64 0):=(blk_cell BK527.out 1).trans rfl;have hfz17_0:=blk_frozen BK527.out 0;have hfz17_1:=blk_frozen BK527.out 1))
        have n0_ : Aside0 (((w15.setCell ⟨gb527,0,none⟩ (.int .i64 t525)).setCell ⟨gb527,1,none⟩ (.int .i64 t526)).heap[gb523]? = some (.cells #[.int .i64 0,.int .i64 0,.int .i64 0,.int .i64 0,.slice none 0 0] 47 (0,0))):=⟨by (with_reducible repeat (first|refine blk_drewN ?_ _|refine blk_drew ?_|refine blk_alloc ?_ _));refine blk_far ?_ NB523_527.out _;(with_reducible repeat (first|refine blk_drewN ?_ _|refine blk_drew ?_|refine blk_alloc ?_ _));refine blk_far ?_ NB523_527.out _;(with_reducible repeat (first|refine blk_drewN ?_ _|refine blk_drew ?_|refine blk_alloc ?_ _));exact BK523.out⟩
        have n1_ : Aside0 (((w15.setCell ⟨gb527,0,none⟩ (.int .i64 t525)).setCell ⟨gb527,1,none⟩ (.int .i64 t526)).heap[gb527]? = some (.cells #[.int .i64 t525,.int .i64 t526] 32 (0,0))):=⟨by (with_reducible repeat (first|refine blk_drewN ?_ _|refine blk_drew ?_|refine blk_alloc ?_ _));refine blk_put (cs:=#[.int .i64 t525,.int .i64 0]) ?_ 1 _ rfl;(with_reducible repeat (first|refine blk_drewN ?_ _|refine blk_drew ?_|refine blk_alloc ?_ _));refine blk_put (cs:=#[.int .i64 0,.int .i64 0]) ?_ 0 _ rfl;(with_reducible repeat (first|refine blk_drewN ?_ _|refine blk_drew ?_|refine blk_alloc ?_ _));exact BK527.out⟩
        have n2_ : Aside0 (Below w.heap.size w ((w15.setCell ⟨gb527,0,none⟩ (.int .i64 t525)).setCell ⟨gb527,1,none⟩ (.int .i64 t526))):=⟨by repeat (first|(with_reducible first|exact HB.out|apply below_alloc|apply pw_below_drewN|apply below_drew1|refine below_set ?_ GE523.out|refine below_set ?_ GE527.out)|exact HB.out)⟩
        (try clear BK523);(try clear BK527);(try clear HB)
        generalize ((w15.setCell ⟨gb527,0,none⟩ (.int .i64 t525)).setCell ⟨gb527,1,none⟩ (.int .i64 t526)) = w18 at n0_ n1_ n2_ ⊢
        have BK523:=n0_
        have BK527:=n1_
        have HB:=n2_
        clear n0_ n1_ n2_
        have n0_:=Aside0.mk (blk_drew BK523.out)
        have n1_:=Aside0.mk (blk_drew BK527.out)
        have n2_:=Aside0.mk (below_drew1 HB.out)
        clear BK523
        clear BK527
        clear HB
        have BK523:=n0_
        have BK527:=n1_
        have HB:=n2_
        clear n0_ n1_ n2_
        have p528 : 0 ≤ (1 : Int):=(by omega)
        have q528 : 1 < (l0.length : Int):=of_decide_eq_true (by first|(with_reducible assumption)|assumption)
        obtain⟨ad528,e528,hx528_0⟩:=Kd.at_int HR0.out 1 p528 q528
        have hw528_0:=hx528_0
        (try rw [show ((1 : Int)).toNat = 1 from rfl] at hw528_0)
        (try rw [show 1 * 1 = 1 from rfl] at hw528_0)
        (try simp only [Nat.reduceMul,Nat.reduceEqDiff,Go.Addr.add,↓reduceIte] at hw528_0)
        obtain rfl : ad524 = ad528:=(by injection e528)
        (try simp only [show (1 : Int).toNat = 1 from rfl,Nat.reduceMul,Nat.reduceEqDiff,Go.Addr.add,↓reduceIte] at hx528_0)
        have qi528 : (1 < l0.length) = True:=eq_true (by omega)
        (try rw [show ((1 : Int)).toNat = 1 from rfl] at hx528_0)
        replace hx528_0:=(HB.out.cell (World.block_lt_of_cell? w _ hx528_0)).trans hx528_0
        replace p528:=eq_true p528
        replace q528:=eq_true q528
        have p529 : 0 ≤ (2 : Int):=(by omega)
        have q529 : 2 < (l0.length : Int):=of_decide_eq_true (by first|(with_reducible assumption)|assumption)
        obtain⟨ad529,e529,hx529_0⟩:=Kd.at_int HR0.out 2 p529 q529
        have hw529_0:=hx529_0
        (try rw [show ((2 : Int)).toNat = 2 from rfl] at hw529_0)
        (try rw [show 2 * 1 = 2 from rfl] at hw529_0)
        (try simp only [Nat.reduceMul,Nat.reduceEqDiff,Go.Addr.add,↓reduceIte] at hw529_0)
        obtain rfl : ad524 = ad529:=(by injection e529)
        (try simp only [show (2 : Int).toNat = 2 from rfl,Nat.reduceMul,Nat.reduceEqDiff,Go.Addr.add,↓reduceIte] at hx529_0)
        have qi529 : (2 < l0.length) = True:=eq_true (by omega)
        (try rw [show ((2 : Int)).toNat = 2 from rfl] at hx529_0)
        replace hx529_0:=(HB.out.cell (World.block_lt_of_cell? w _ hx529_0)).trans hx529_0
        replace p529:=eq_true p529
        replace q529:=eq_true q529
        refine start_ (n:=13) (S:=fun w'=>w'.cell? ⟨gb527,0,none⟩ = some (.int .i64 t525) ∧ w'.cell? ⟨gb527,1,none⟩ = some (.int .i64 t526) ∧ w'.cell? ⟨ad524.block,ad524.off + 1,none⟩ = some (.int .u8 (rd l0 1)) ∧ w'.cell? ⟨ad524.block,ad524.off + 2,none⟩ = some (.int .u8 (rd l0 2))) (ds:=[]) #[Z,Z,Z,Z,Z,Z,Z,Z,Z,Z,Z,Z,Z] (by kernel_rfl) rfl rfl ⟨(blk_cell BK527.out 0).trans rfl,(blk_cell BK527.out 1).trans rfl,((HB.out.cell (World.block_lt_of_cell? w _ hw528_0)).trans hw528_0),((HB.out.cell (World.block_lt_of_cell? w _ hw529_0)).trans hw529_0)⟩ (fun hHeld=>?_);refine with_tabW impl_ReadHead.tab6 impl_ReadHead.bits6 (fun HT_ HW_=>?_)
        generalize w18.drew = w19 at BK523 BK527 HB hx528_0 hx529_0 hHeld ⊢
        refine pure_ (i:=0) (N:=some 18) (v:=?_) (a':=?_) #[Y,Z,Z,Z,Z,Z,Z,Z,Z,Z,Z,Z,Z] rfl rfl (any_of HT_.out (by kernel_rfl)) (fun _ _ _ h=>h) (Or.inl ⟨by rfl,?_⟩) ?_ ?_
        rotate_left
        ·intro w';go_simp;with_reducible rfl
        rotate_left
        ·simp only [Act.put,sa_,sb_,sc_,i64_w];rfl
        refine pure_ (i:=1) (N:=some 19) (v:=?_) (a':=?_) #[Y,Y,Z,Z,Z,Z,Z,Z,Z,Z,Z,Z,Z] rfl rfl (any_of HT_.out (by kernel_rfl)) (fun _ _ _ h=>h) (Or.inl ⟨by rfl,?_⟩) ?_ ?_
        rotate_left
        ·intro w';go_simp;with_reducible rfl
        rotate_left
        ·simp only [Act.put,sa_,sb_,sc_,i64_w];rfl
        refine pure_ (i:=4) (N:=some 22) (v:=?_) (a':=?_) #[Y,Y,Z,Z,Y,Z,Z,Z,Z,Z,Z,Z,Z] rfl rfl (any_of HT_.out (by kernel_rfl)) (fun _ _ _ h=>h) (Or.inl ⟨by rfl,?_⟩) ?_ ?_
        rotate_left
        ·intro w';go_simp;with_reducible rfl
        rotate_left
        ·simp only [Act.put,sa_,sb_,sc_,i64_w];rfl
        refine pure_ (i:=5) (N:=some 23) (v:=?_) (a':=?_) #[Y,Y,Z,Z,Y,Y,Z,Z,Z,Z,Z,Z,Z] rfl rfl (any_of HT_.out (by kernel_rfl)) (fun _ _ _ h=>h) (Or.inl ⟨by rfl,?_⟩) ?_ ?_
        rotate_left
        ·intro w';go_simp;with_reducible rfl
        rotate_left
        ·simp only [Act.put,sa_,sb_,sc_,i64_w];rfl
        refine pure_ (i:=8) (N:=some 26) (v:=?_) (a':=?_) #[Y,Y,Z,Z,Y,Y,Z,Z,Y,Z,Z,Z,Z] rfl rfl (any_of HT_.out (by kernel_rfl)) (fun _ _ _ h=>h) (Or.inl ⟨by rfl,?_⟩) ?_ ?_
        rotate_left
        ·intro w';go_simp;with_reducible rfl
        rotate_left
        ·simp only [Act.put,sa_,sb_,sc_,i64_w];rfl
        refine take_ (i:=2) (N:=some 20) (v:=?_) (a':=?_) #[Y,Y,Y,Z,Y,Y,Z,Z,Y,Z,Z,Z,Z] rfl rfl (take_ofW HT_.out HW_.out (by kernel_rfl)) (fun _ _ _ h=>h) (Or.inl ⟨by rfl,?_⟩) hHeld ?_ ?_
        rotate_left
        ·rintro w' ⟨s0,s1,s2,s3⟩
         go_simp
         with_reducible rfl
        rotate_left
        ·simp only [Act.put,sa_,sb_,sc_,i64_w];rfl
        refine pure_ (i:=3) (N:=some 21) (v:=?_) (a':=?_) #[Y,Y,Y,Y,Y,Y,Z,Z,Y,Z,Z,Z,Z] rfl rfl (any_of HT_.out (by kernel_rfl)) (fun _ _ _ h=>h) (Or.inl ⟨by rfl,?_⟩) ?_ ?_
        rotate_left
        ·intro w';go_simp;with_reducible rfl
        rotate_left
        ·simp only [Act.put,sa_,sb_,sc_,i64_w];rfl
        refine take_ (i:=6) (N:=some 24) (v:=?_) (a':=?_) #[Y,Y,Y,Y,Y,Y,Y,Z,Y,Z,Z,Z,Z] rfl rfl (take_ofW HT_.out HW_.out (by kernel_rfl)) (fun _ _ _ h=>h) (Or.inl ⟨by rfl,?_⟩) hHeld ?_ ?_
        rotate_left
        ·rintro w' ⟨s0,s1,s2,s3⟩
         go_simp
         with_reducible rfl
        rotate_left
        ·simp only [Act.put,sa_,sb_,sc_,i64_w];rfl
        refine pure_ (i:=7) (N:=some 25) (v:=?_) (a':=?_) #[Y,Y,Y,Y,Y,Y,Y,Y,Y,Z,Z,Z,Z] rfl rfl (any_of HT_.out (by kernel_rfl)) (fun _ _ _ h=>h) (Or.inl ⟨by rfl,?_⟩) ?_ ?_
        rotate_left
        ·intro w';go_simp;with_reducible rfl
        rotate_left
        ·simp only [Act.put,sa_,sb_,sc_,i64_w];rfl
        refine take_ (i:=9) (N:=some 27) (v:=?_) (a':=?_) #[Y,Y,Y,Y,Y,Y,Y,Y,Y,Y,Z,Z,Z] rfl rfl (take_ofW HT_.out HW_.out (by kernel_rfl)) (fun _ _ _ h=>h) (Or.inl ⟨by rfl,?_⟩) hHeld ?_ ?_
        rotate_left
        ·rintro w' ⟨s0,s1,s2,s3⟩
         go_simp
         with_reducible rfl
        rotate_left
        ·simp only [Act.put,sa_,sb_,sc_,i64_w];rfl
        refine pure_ (i:=10) (N:=some 28) (v:=?_) (a':=?_) #[Y,Y,Y,Y,Y,Y,Y,Y,Y,Y,Y,Z,Z] rfl rfl (any_of HT_.out (by kernel_rfl)) (fun _ _ _ h=>h) (Or.inl ⟨by rfl,?_⟩) ?_ ?_
        rotate_left
        ·intro w';go_simp;with_reducible rfl
        rotate_left
        ·simp only [Act.put,sa_,sb_,sc_,i64_w];rfl
        refine one_ (i:=11) (N:=some 4) #[Y,Y,Y,Y,Y,Y,Y,Y,Y,Y,Y,Y,Z] rfl rfl (one_of HT_.out (by kernel_rfl)) (by decide) (fun K hK=>?_)
        refine box_step ?hg (N:=4) ?hd (cs:=#[.int .i64 0,.int .i64 0,.int .i64 0,.slice none 0 0]) (t:=45) ?hr ?_;(case hd=>rfl);(case hg=>rfl);(case hr=>first|(go_simp;done)|(go_simp;rfl))
        intro gb530 hg w20 hbox hb
        have n0_:=Aside0.mk (blk_below (g:=gb523) (o:=.cells #[.int .i64 0,.int .i64 0,.int .i64 0,.int .i64 0,.slice none 0 0] 47 (0,0)) (by (with_reducible repeat (first|refine blk_drewN ?_ _|refine blk_drew ?_|refine blk_alloc ?_ _));exact BK523.out) hb)
        have n1_:=Aside0.mk (blk_below (g:=gb527) (o:=.cells #[.int .i64 t525,.int .i64 t526] 32 (0,0)) (by (with_reducible repeat (first|refine blk_drewN ?_ _|refine blk_drew ?_|refine blk_alloc ?_ _));exact BK527.out) hb)
        have n2_:=Aside0.mk (below_step (by repeat(first|(with_reducible first|exact HB.out|apply below_alloc|apply pw_below_drewN|apply below_drew1|refine below_set ?_ GE523.out|refine below_set ?_ GE527.out)|exact HB.out)) hb)
        have n3_:=Aside0.mk (hbox)
        have n4_:=Aside0.mk ((by rw [hg];exact (below_size (by repeat(first|(with_reducible first|exact HB.out|apply below_alloc|apply pw_below_drewN|apply below_drew1|refine below_set ?_ GE523.out|refine below_set ?_ GE527.out)|exact HB.out))) : w.heap.size ≤ gb530))
        have n5_:=Aside0.mk ((by rw [hg];exact (below_size (by repeat(first|(with_reducible first|exact HB.out|apply below_alloc|apply pw_below_drewN|apply below_drew1|refine below_set ?_ GE523.out|refine below_set ?_ GE527.out)|exact HB.out))) : w.heap.size ≤ gb530))
        have n6_:=Aside0.mk ((by rw [hg];exact Nat.ne_of_lt (blk_lt (g:=gb523) (o:=.cells #[.int .i64 0,.int .i64 0,.int .i64 0,.int .i64 0,.slice none 0 0] 47 (0,0)) (by (with_reducible repeat (first|refine blk_drewN ?_ _|refine blk_drew ?_|refine blk_alloc ?_ _));exact BK523.out)) : gb523 ≠ gb530))
        have n7_:=Aside0.mk ((by rw [hg];exact Nat.ne_of_gt (blk_lt (g:=gb523) (o:=.cells #[.int .i64 0,.int .i64 0,.int .i64 0,.int .i64 0,.slice none 0 0] 47 (0,0)) (by (with_reducible repeat (first|refine blk_drewN ?_ _|refine blk_drew ?_|refine blk_alloc ?_ _));exact BK523.out)) : gb530 ≠ gb523))
        have n8_:=Aside0.mk ((by rw [hg];exact Nat.ne_of_lt (blk_lt (g:=gb527) (o:=.cells #[.int .i64 t525,.int .i64 t526] 32 (0,0)) (by (with_reducible repeat (first|refine blk_drewN ?_ _|refine blk_drew ?_|refine blk_alloc ?_ _));exact BK527.out)) : gb527 ≠ gb530))
        have n9_:=Aside0.mk ((by rw [hg];exact Nat.ne_of_gt (blk_lt (g:=gb527) (o:=.cells #[.int .i64 t525,.int .i64 t526] 32 (0,0)) (by (with_reducible repeat (first|refine blk_drewN ?_ _|refine blk_drew ?_|refine blk_alloc ?_ _));exact BK527.out)) : gb530 ≠ gb527))
        clear BK523
        clear BK527
        clear HB
        have BK523:=n0_
        have BK527:=n1_
        have HB:=n2_
        have BK530:=n3_
        have GW530:=n4_
        have GE530:=n5_
        have NB523_530:=n6_
        have NB530_523:=n7_
        have NB527_530:=n8_
        have NB530_527:=n9_
        clear n0_ n1_ n2_ n3_ n4_ n5_ n6_ n7_ n8_ n9_
        clear hb hbox hg
        refine hK.out _ _ ⟨(blk_cell BK527.out 0).trans rfl,(blk_cell BK527.out 1).trans rfl,((HB.out.cell (World.block_lt_of_cell? w _ hw528_0)).trans hw528_0),((HB.out.cell (World.block_lt_of_cell? w _ hw529_0)).trans hw529_0)⟩ (fun hHeld=>?_)
        clear hK K
        refine norm_ (a':=?_) ?_ ?_
        rotate_left
        ·show Act.put _ (some 4) _ = _
         simp only [Act.put,sa_,sb_,sc_,i64_w]
         rfl
        refine one_ (i:=12) (N:=none) #[Y,Y,Y,Y,Y,Y,Y,Y,Y,Y,Y,Y,Y] rfl rfl (one_of HT_.out (by kernel_rfl)) (by decide) (fun K hK=>?_)
        have hs21 : w20.cell? ⟨gb530,0,none⟩ = some (.int .i64 0):=(blk_cell BK530.out 0).trans rfl
        have hfs21:=blk_frozen BK530.out 0
        have hns21_0:=NB523_530.out
        have hns21_1:=NB527_530.out
        have hms21_0:=NB530_523.out
        have hms21_1:=NB530_527.out
        have hs22 : w20.cell? ⟨gb530,1,none⟩ = some (.int .i64 0):=(blk_cell BK530.out 1).trans rfl
        have hfs22:=blk_frozen BK530.out 1
        have hns22_0:=NB523_530.out
        have hns22_1:=NB527_530.out
        have hms22_0:=NB530_523.out
        have hms22_1:=NB530_527.out
        have hs23 : w20.cell? ⟨gb530,2,none⟩ = some (.int .i64 0):=(blk_cell BK530.out 2).trans rfl
        have hfs23:=blk_frozen BK530.out 2
        have hns23_0:=NB523_530.out
        have hns23_1:=NB527_530.out
        have hms23_0:=NB530_523.out
        have hms23_1:=NB530_527.out
        have hs24 : w20.cell? ⟨gb530,3,none⟩ = some (.slice none 0 0):=(blk_cell BK530.out 3).trans rfl
        have hfs24:=blk_frozen BK530.out 3
        have hns24_0:=NB523_530.out
        have hns24_1:=NB527_530.out
        have hms24_0:=NB530_523.out
        have hms24_1:=NB530_527.out
        refine skip_ (w1:=?_) (by rfl) rfl ?_ ?_
        rotate_left
        ·go_simp
         rfl
        refine hK.out _ _ ⟨((cell_far (p:=⟨gb530,_,none⟩) NB527_530.out _).trans (((cell_far (p:=⟨gb530,_,none⟩) NB527_530.out _).trans (((cell_far (p:=⟨gb530,_,none⟩) NB527_530.out _).trans (((cell_far (p:=⟨gb530,_,none⟩) NB527_530.out _).trans (hHeld.1)))))))),((cell_far (p:=⟨gb530,_,none⟩) NB527_530.out _).trans (((cell_far (p:=⟨gb530,_,none⟩) NB527_530.out _).trans (((cell_far (p:=⟨gb530,_,none⟩) NB527_530.out _).trans (((cell_far (p:=⟨gb530,_,none⟩) NB527_530.out _).trans (hHeld.2.1)))))))),((cell_far (p:=⟨gb530,_,none⟩) (by first|exact Nat.ne_of_lt (Nat.lt_of_lt_of_le (by have:=World.block_lt_of_cell? _ _ hw528_0;first|rwa [add_block] at this|exact this) GW530.out)|(rw [add_block];exact Nat.ne_of_lt (Nat.lt_of_lt_of_le (by have:=World.block_lt_of_cell? _ _ hw528_0;first|rwa [add_block] at this|exact this) GW530.out))|(show (Addr.add _ _).block ≠ _;rw [add_block];exact Nat.ne_of_lt (Nat.lt_of_lt_of_le (by have:=World.block_lt_of_cell? _ _ hw528_0;first|rwa [add_block] at this|exact this) GW530.out))|(dsimp only;exact Nat.ne_of_lt (Nat.lt_of_lt_of_le (by have:=World.block_lt_of_cell? _ _ hw528_0;first|rwa [add_block] at this|exact this) GW530.out))) _).trans (((cell_far (p:=⟨gb530,_,none⟩) (by first|exact Nat.ne_of_lt (Nat.lt_of_lt_of_le (by have:=World.block_lt_of_cell? _ _ hw528_0;first|rwa [add_block] at this|exact this) GW530.out)|(rw [add_block];exact Nat.ne_of_lt (Nat.lt_of_lt_of_le (by have:=World.block_lt_of_cell? _ _ hw528_0;first|rwa [add_block] at this|exact this) GW530.out))|(show (Addr.add _ _).block ≠ _;rw [add_block];exact Nat.ne_of_lt (Nat.lt_of_lt_of_le (by have:=World.block_lt_of_cell? _ _ hw528_0;first|rwa [add_block] at this|exact this) GW530.out))|(dsimp only;exact Nat.ne_of_lt (Nat.lt_of_lt_of_le (by have:=World.block_lt_of_cell? _ _ hw528_0;first|rwa [add_block] at this|exact this) GW530.out))) _).trans (((cell_far (p:=⟨gb530,_,none⟩) (by first|exact Nat.ne_of_lt (Nat.lt_of_lt_of_le (by have:=World.block_lt_of_cell? _ _ hw528_0;first|rwa [add_block] at this|exact this) GW530.out)|(rw [add_block];exact Nat.ne_of_lt (Nat.lt_of_lt_of_le (by have:=World.block_lt_of_cell? _ _ hw528_0;first|rwa [add_block] at this|exact this) GW530.out))|(show (Addr.add _ _).block ≠ _;rw [add_block];exact Nat.ne_of_lt (Nat.lt_of_lt_of_le (by have:=World.block_lt_of_cell? _ _ hw528_0;first|rwa [add_block] at this|exact this) GW530.out))|(dsimp only;exact Nat.ne_of_lt (Nat.lt_of_lt_of_le (by have:=World.block_lt_of_cell? _ _ hw528_0;first|rwa [add_block] at this|exact this) GW530.out))) _).trans (((cell_far (p:=⟨gb530,_,none⟩) (by first|exact Nat.ne_of_lt (Nat.lt_of_lt_of_le (by have:=World.block_lt_of_cell? _ _ hw528_0;first|rwa [add_block] at this|exact this) GW530.out)|(rw [add_block];exact Nat.ne_of_lt (Nat.lt_of_lt_of_le (by have:=World.block_lt_of_cell? _ _ hw528_0;first|rwa [add_block] at this|exact this) GW530.out))|(show (Addr.add _ _).block ≠ _;rw [add_block];exact Nat.ne_of_lt (Nat.lt_of_lt_of_le (by have:=World.block_lt_of_cell? _ _ hw528_0;first|rwa [add_block] at this|exact this) GW530.out))|(dsimp only;exact Nat.ne_of_lt (Nat.lt_of_lt_of_le (by have:=World.block_lt_of_cell? _ _ hw528_0;first|rwa [add_block] at this|exact this) GW530.out))) _).trans (hHeld.2.2.1)))))))),((cell_far (p:=⟨gb530,_,none⟩) (by first|exact Nat.ne_of_lt (Nat.lt_of_lt_of_le (by have:=World.block_lt_of_cell? _ _ hw529_0;first|rwa [add_block] at this|exact this) GW530.out)|(rw [add_block];exact Nat.ne_of_lt (Nat.lt_of_lt_of_le (by have:=World.block_lt_of_cell? _ _ hw529_0;first|rwa [add_block] at this|exact this) GW530.out))|(show (Addr.add _ _).block ≠ _;rw [add_block];exact Nat.ne_of_lt (Nat.lt_of_lt_of_le (by have:=World.block_lt_of_cell? _ _ hw529_0;first|rwa [add_block] at this|exact this) GW530.out))|(dsimp only;exact Nat.ne_of_lt (Nat.lt_of_lt_of_le (by have:=World.block_lt_of_cell? _ _ hw529_0;first|rwa [add_block] at this|exact this) GW530.out))) _).trans (((cell_far (p:=⟨gb530,_,none⟩) (by first|exact Nat.ne_of_lt (Nat.lt_of_lt_of_le (by have:=World.block_lt_of_cell? _ _ hw529_0;first|rwa [add_block] at this|exact this) GW530.out)|(rw [add_block];exact Nat.ne_of_lt (Nat.lt_of_lt_of_le (by have:=World.block_lt_of_cell? _ _ hw529_0;first|rwa [add_block] at this|exact this) GW530.out))|(show (Addr.add _ _).block ≠ _;rw [add_block];exact Nat.ne_of_lt (Nat.lt_of_lt_of_le (by have:=World.block_lt_of_cell? _ _ hw529_0;first|rwa [add_block] at this|exact this) GW530.out))|(dsimp only;exact Nat.ne_of_lt (Nat.lt_of_lt_of_le (by have:=World.block_lt_of_cell? _ _ hw529_0;first|rwa [add_block] at this|exact this) GW530.out))) _).trans (((cell_far (p:=⟨gb530,_,none⟩) (by first|exact Nat.ne_of_lt (Nat.lt_of_lt_of_le (by have:=World.block_lt_of_cell? _ _ hw529_0;first|rwa [add_block] at this|exact this) GW530.out)|(rw [add_block];exact Nat.ne_of_lt (Nat.lt_of_lt_of_le (by have:=World.block_lt_of_cell? _ _ hw529_0;first|rwa [add_block] at this|exact this) GW530.out))|(show (Addr.add _ _).block ≠ _;rw [add_block];exact Nat.ne_of_lt (Nat.lt_of_lt_of_le (by have:=World.block_lt_of_cell? _ _ hw529_0;first|rwa [add_block] at this|exact this) GW530.out))|(dsimp only;exact Nat.ne_of_lt (Nat.lt_of_lt_of_le (by have:=World.block_lt_of_cell? _ _ hw529_0;first|rwa [add_block] at this|exact this) GW530.out))) _).trans (((cell_far (p:=⟨gb530,_,none⟩) (by first|exact Nat.ne_of_lt (Nat.lt_of_lt_of_le (by have:=World.block_lt_of_cell? _ _ hw529_0;first|rwa [add_block] at this|exact this) GW530.out)|(rw [add_block];exact Nat.ne_of_lt (Nat.lt_of_lt_of_le (by have:=World.block_lt_of_cell? _ _ hw529_0;first|rwa [add_block] at this|exact this) GW530.out))|(show (Addr.add _ _).block ≠ _;rw [add_block];exact Nat.ne_of_lt (Nat.lt_of_lt_of_le (by have:=World.block_lt_of_cell? _ _ hw529_0;first|rwa [add_block] at this|exact this) GW530.out))|(dsimp only;exact Nat.ne_of_lt (Nat.lt_of_lt_of_le (by have:=World.block_lt_of_cell? _ _ hw529_0;first|rwa [add_block] at this|exact this) GW530.out))) _).trans (hHeld.2.2.2))))))))⟩ (fun hHeld=>?_)
        clear hK K
        refine done_ (done_of HT_.out (by kernel_rfl)) ?_
        have hnb25:=NB527_530.out
        have hnc25:=NB530_527.out
        have hcz26_0 : w20.cell? ⟨gb527,0,none⟩ = some (.int .i64 t525):=(blk_cell BK527.out 0).trans rfl
        have hcz26_1 : w20.cell? ⟨gb527,1,none⟩ = some (.int .i64 t526):=(blk_cell BK527.out 1).trans rfl
        have hfz26_0:=blk_frozen BK527.out 0
        have hfz26_1:=blk_frozen BK527.out 1
        have hnb27:=NB530_523.out
        have hnc27:=NB523_530.out
        have hcz28_0 : w20.cell? ⟨gb530,0,none⟩ = some (.int .i64 0):=(blk_cell BK530.out 0).trans rfl
        have hcz28_1 : w20.cell? ⟨gb530,1,none⟩ = some (.int .i64 0):=(blk_cell BK530.out 1).trans rfl
        have hcz28_2 : w20.cell? ⟨gb530,2,none⟩ = some (.int .i64 0):=(blk_cell BK530.out 2).trans rfl
        have hcz28_3 : w20.cell? ⟨gb530,3,none⟩ = some (.slice none 0 0):=(blk_cell BK530.out 3).trans rfl
        have hfz28_0:=blk_frozen BK530.out 0
        have hfz28_1:=blk_frozen BK530.out 1
        have hfz28_2:=blk_frozen BK530.out 2
        have hfz28_3:=blk_frozen BK530.out 3
        try go_wp2_with (first|(go_at_call 38;(refine (impl_LetterFault.calls k (wrap64 (rd l0 1)) (wrap64 (rd l0 2)) t526 _ _ ([] : List Int) t531 _ ?side1 ?side2 A11.out).mono ?_);(case side1=>exact Kd.C_nil _ _);(case side2=>exact Nat.le_refl _);rintro e w29 ⟨rfl,hb⟩;have n0_:=Aside0.mk (blk_below (g:=gb523) (o:=.cells #[.int .i64 0,.int .i64 0,.int .i64 0,.int .i64 0,.slice none 0 0] 47 (0,0)) (by (with_reducible repeat (first|refine blk_drewN ?_ _|refine blk_drew ?_|refine blk_alloc ?_ _));refine blk_far ?_ NB523_530.out _;(with_reducible repeat (first|refine blk_drewN ?_ _|refine blk_drew ?_|refine blk_alloc ?_ _));refine blk_far ?_ NB523_530.out _;(with_reducible repeat (first|refine blk_drewN ?_ _|refine blk_drew ?_|refine blk_alloc ?_ _));refine blk_far ?_ NB523_530.out _;(with_reducible repeat (first|refine blk_drewN ?_ _|refine blk_drew ?_|refine blk_alloc ?_ _));refine blk_far ?_ NB523_530.out _;(with_reducible repeat (first|refine blk_drewN ?_ _|refine blk_drew ?_|refine blk_alloc ?_ _));exact BK523.out) hb);have n1_:=Aside0.mk (blk_below (g:=gb527) (o:=.cells #[.int .i64 t525,.int .i64 t526] 32 (0,0)) (by (with_reducible repeat (first|refine blk_drewN ?_ _|refine blk_drew ?_|refine blk_alloc ?_ _));refine blk_far ?_ NB527_530.out _;(with_reducible repeat (first|refine blk_drewN ?_ _|refine blk_drew ?_|refine blk_alloc ?_ _));refine blk_far ?_ NB527_530.out _;(with_reducible repeat (first|refine blk_drewN ?_ _|refine blk_drew ?_|refine blk_alloc ?_ _));refine blk_far ?_ NB527_530.out _;(with_reducible repeat (first|refine blk_drewN ?_ _|refine blk_drew ?_|refine blk_alloc ?_ _));refine blk_far ?_ NB527_530.out _;(with_reducible repeat (first|refine blk_drewN ?_ _|refine blk_drew ?_|refine blk_alloc ?_ _));exact BK527.out) hb);have n2_:=Aside0.mk (blk_below (g:=gb530) (o:=.cells #[.int .i64 (wrap64 (rd l0 1)),.int .i64 (wrap64 (rd l0 2)),.int .i64 t526,.slice none 0 0] 45 (0,0)) (by (with_reducible repeat (first|refine blk_drewN ?_ _|refine blk_drew ?_|refine blk_alloc ?_ _));refine blk_put (cs:=#[.int .i64 (wrap64 (rd l0 1)),.int .i64 (wrap64 (rd l0 2)),.int .i64 t526,.slice none 0 0]) ?_ 3 _ rfl;(with_reducible repeat (first|refine blk_drewN ?_ _|refine blk_drew ?_|refine blk_alloc ?_ _));refine blk_put (cs:=#[.int .i64 (wrap64 (rd l0 1)),.int .i64 (wrap64 (rd l0 2)),.int .i64 0,.slice none 0 0]) ?_ 2 _ rfl;(with_reducible repeat (first|refine blk_drewN ?_ _|refine blk_drew ?_|refine blk_alloc ?_ _));refine blk_put (cs:=#[.int .i64 (wrap64 (rd l0 1)),.int .i64 0,.int .i64 0,.slice none 0 0]) ?_ 1 _ rfl;(with_reducible repeat (first|refine blk_drewN ?_ _|refine blk_drew ?_|refine blk_alloc ?_ _));refine blk_put (cs:=#[.int .i64 0,.int .i64 0,.int .i64 0,.slice none 0 0]) ?_ 0 _ rfl;(with_reducible repeat (first|refine blk_drewN ?_ _|refine blk_drew ?_|refine blk_alloc ?_ _));exact BK530.out) hb);have n3_:=Aside0.mk (below_step (by repeat(first|(with_reducible first|exact HB.out|apply below_alloc|apply pw_below_drewN|apply below_drew1|refine below_set ?_ GE523.out|refine below_set ?_ GE527.out|refine below_set ?_ GE530.out)|exact HB.out)) hb);clear BK523;clear BK527;clear BK530;clear HB;have BK523:=n0_;have BK527:=n1_;have BK530:=n2_;have HB:=n3_;clear n0_ n1_ n2_ n3_;(try clear hb);(try clear hb2);(try clear hk);(try clear hi);have hcz30_0 : w29.cell? ⟨gb530,0,none⟩ = some (.int .i64 (wrap64 (rd l0 1))):=(blk_cell BK530.out 0).trans rfl;have hcz30_1 : w29.cell? ⟨gb530,1,none⟩ = some (.int .i64 (wrap64 (rd l0 2))):=(blk_cell BK530.out 1).trans rfl;have hcz30_2 : w29.cell? ⟨gb530,2,none⟩ = some (.int .i64 t526):=(blk_cell BK530.out 2).trans rfl;have hcz30_3 : w29.cell? ⟨gb530,3,none⟩ = some (.slice none 0 0):=(blk_cell BK530.out 3).trans rfl;have hfz30_0:=blk_frozen BK530.out 0;have hfz30_1:=blk_frozen BK530.out 1;have hfz30_2:=blk_frozen BK530.out 2;have hfz30_3:=blk_frozen BK530.out 3;have hcz31_0 : w29.cell? ⟨gb523,0,none⟩ = some (.int .i64 0):=(blk_cell BK523.out 0).trans rfl;have hcz31_1 : w29.cell? ⟨gb523,1,none⟩ = some (.int .i64 0):=(blk_cell BK523.out 1).trans rfl;have hcz31_2 : w29.cell? ⟨gb523,2,none⟩ = some (.int .i64 0):=(blk_cell BK523.out 2).trans rfl;have hcz31_3 : w29.cell? ⟨gb523,3,none⟩ = some (.int .i64 0):=(blk_cell BK523.out 3).trans rfl;have hcz31_4 : w29.cell? ⟨gb523,4,none⟩ = some (.slice none 0 0):=(blk_cell BK523.out 4).trans rfl;have hfz31_0:=blk_frozen BK523.out 0;have hfz31_1:=blk_frozen BK523.out 1;have hfz31_2:=blk_frozen BK523.out 2;have hfz31_3:=blk_frozen BK523.out 3;have hfz31_4:=blk_frozen BK523.out 4))
        refine bodyPost_ret (results_cell_row rfl _ _ gb523 47 #[.int .i64 0,.int .i64 (wrap64 (rd l0 1)),.int .i64 (wrap64 (rd l0 2)),.int .i64 t526,.slice none 0 0] (0,0) _ rfl (by (with_reducible repeat (first|refine blk_drewN ?_ _|refine blk_drew ?_|refine blk_alloc ?_ _));refine blk_put (cs:=#[.int .i64 0,.int .i64 (wrap64 (rd l0 1)),.int .i64 (wrap64 (rd l0 2)),.int .i64 t526,.slice none 0 0]) ?_ 4 _ rfl;(with_reducible repeat (first|refine blk_drewN ?_ _|refine blk_drew ?_|refine blk_alloc ?_ _));refine blk_put (cs:=#[.int .i64 0,.int .i64 (wrap64 (rd l0 1)),.int .i64 (wrap64 (rd l0 2)),.int .i64 0,.slice none 0 0]) ?_ 3 _ rfl;(with_reducible repeat (first|refine blk_drewN ?_ _|refine blk_drew ?_|refine blk_alloc ?_ _));refine blk_put (cs:=#[.int .i64 0,.int .i64 (wrap64 (rd l0 1)),.int .i64 0,.int .i64 0,.slice none 0 0]) ?_ 2 _ rfl;(with_reducible repeat (first|refine blk_drewN ?_ _|refine blk_drew ?_|refine blk_alloc ?_ _));refine blk_put (cs:=#[.int .i64 0,.int .i64 0,.int .i64 0,.int .i64 0,.slice none 0 0]) ?_ 1 _ rfl;(with_reducible repeat (first|refine blk_drewN ?_ _|refine blk_drew ?_|refine blk_alloc ?_ _));refine blk_put (cs:=#[.int .i64 0,.int .i64 0,.int .i64 0,.int .i64 0,.slice none 0 0]) ?_ 0 _ rfl;(with_reducible repeat (first|refine blk_drewN ?_ _|refine blk_drew ?_|refine blk_alloc ?_ _));exact BK523.out) Try.underlying47 rfl (by kernel_rfl)) rfl ?_
        exact⟨_,by first|rfl|(simp [errW_none,errW_some] <;> rfl)|(simp [*,errW_none,errW_some] <;> rfl),by first|exact Kd.R_nil _ _ _ _ _|exact Kd.N_nil _ _ _ _ _|exact Kd.V_nil _ _ _ _ _|exact Kd.Q_nil _ _ _ _ _|exact Kd.S_nil _ _ _ _ _,by repeat (first|(with_reducible first|exact HB.out|apply below_alloc|apply pw_below_drewN|apply below_drew1|refine below_set ?_ GE523.out|refine below_set ?_ GE527.out|refine below_set ?_ GE530.out)|exact HB.out)⟩
       ·rw [if_neg c12] at H
        have c12b0 : (t531 == 0) = false:=beq_eq_false_iff_ne.mpr c12
        have c12b1 : (t531 != 0) = true:=bne_iff_ne.mpr c12
        simp only [Option.some.injEq,Prod.mk.injEq] at H
        obtain⟨rfl,rfl,rfl,rfl,rfl⟩:=H
        go_enter Try.func34,Try.ntmps34
        try go_wp2_with (first|((with_reducible refine gate_dst (N:=2) rfl ?_);refine box_event ?hg (N:=2) ?hd (cs:=#[.int .i64 0,.int .i64 0,.int .i64 0,.int .i64 0,.slice none 0 0]) (t:=47) ?hr ?_;(case hd=>rfl);(case hg=>rfl);(case hr=>first|(go_simp;done)|(go_simp;rfl));intro gb523 hg w32 hbox hb;have n0_:=Aside0.mk (below_step (by repeat(first|(with_reducible first|exact HB.out|apply below_alloc|apply pw_below_drewN|apply below_drew1)|exact HB.out)) hb);have n1_:=Aside0.mk (hbox);have n2_:=Aside0.mk ((by rw [hg];exact (below_size (by repeat(first|(with_reducible first|exact HB.out|apply below_alloc|apply pw_below_drewN|apply below_drew1)|exact HB.out))) : w.heap.size ≤ gb523));have n3_:=Aside0.mk ((by rw [hg];exact (below_size (by repeat(first|(with_reducible first|exact HB.out|apply below_alloc|apply pw_below_drewN|apply below_drew1)|exact HB.out))) : w.heap.size ≤ gb523));clear HB;have HB:=n0_;have BK523:=n1_;have GW523:=n2_;have GE523:=n3_;clear n0_ n1_ n2_ n3_;clear hb hbox hg;have p524 : 0 ≤ (0 : Int):=(by omega);have q524 : 0 < (l0.length : Int):=of_decide_eq_true (by first|(with_reducible assumption)|assumption);obtain⟨ad524,e524,hx524_0⟩:=Kd.at_int HR0.out 0 p524 q524;cases e524;have qi524 : (0 < l0.length) = True:=eq_true (by omega);(try rw [show ((0 : Int)).toNat = 0 from rfl] at hx524_0);(try rw [Addr.add_zero'] at hx524_0);replace hx524_0:=(HB.out.cell (World.block_lt_of_cell? w _ hx524_0)).trans hx524_0;replace p524:=eq_true p524;replace q524:=eq_true q524)|((with_reducible refine gate_callee (f:=11) rfl ?_);refine goesL_ (some 17) rfl rfl Try.func11 (by kernel_rfl) rfl #[.slice (some ad524) l0.length c0,.int .i64 3,.int .i64 8] rfl (by (try simp only [List.map_toArray,List.map_cons,List.map_nil]);first|done|rfl|(simp only [List.length_drop,List.length_take];rfl)) ?_;(with_reducible refine (impl_ReadWord.calls k _ _ l0 3 8 t525 t526 _ ?side1 ?side2 A7.out).mono ?_);(case side1=>repeat (first|exact (Kd.C_below HR0.out HB.out)|(with_reducible refine Kd.C_alloc ?_ _)|(with_reducible refine Kd.C_drewN ?_ _)|(with_reducible refine Kd.C_drew ?_)));(case side2=>exact HC0.out);rintro e w33 ⟨rfl,hb⟩;refine ⟨_,rfl,?_⟩;have n0_:=Aside0.mk (blk_below (g:=gb523) (o:=.cells #[.int .i64 0,.int .i64 0,.int .i64 0,.int .i64 0,.slice none 0 0] 47 (0,0)) (by (with_reducible repeat (first|refine blk_drewN ?_ _|refine blk_drew ?_|refine blk_alloc ?_ _));exact BK523.out) hb);have n1_:=Aside0.mk (below_step (by repeat(first|(with_reducible first|exact HB.out|apply below_alloc|apply pw_below_drewN|apply below_drew1|refine below_set ?_ GE523.out)|exact HB.out)) hb);clear BK523;clear HB;have BK523:=n0_;have HB:=n1_;clear n0_ n1_;(try clear hb);(try clear hb2);(try clear hk);(try clear hi))|((with_reducible refine gate_dst (N:=3) rfl ?_);refine box_event ?hg (N:=3) ?hd (cs:=#[.int .i64 0,.int .i64 0]) (t:=32) ?hr ?_;(case hd=>rfl);(case hg=>rfl);(case hr=>first|(go_simp;done)|(go_simp;rfl));intro gb527 hg w34 hbox hb;have n0_:=Aside0.mk (blk_below (g:=gb523) (o:=.cells #[.int .i64 0,.int .i64 0,.int .i64 0,.int .i64 0,.slice none 0 0] 47 (0,0)) (by (with_reducible repeat (first|refine blk_drewN ?_ _|refine blk_drew ?_|refine blk_alloc ?_ _));exact BK523.out) hb);have n1_:=Aside0.mk (below_step (by repeat(first|(with_reducible first|exact HB.out|apply below_alloc|apply pw_below_drewN|apply below_drew1|refine below_set ?_ GE523.out)|exact HB.out)) hb);have n2_:=Aside0.mk (hbox);have n3_:=Aside0.mk ((by rw [hg];exact (below_size (by repeat(first|(with_reducible first|exact HB.out|apply below_alloc|apply pw_below_drewN|apply below_drew1|refine below_set ?_ GE523.out)|exact HB.out))) : w.heap.size ≤ gb527));have n4_:=Aside0.mk ((by rw [hg];exact (below_size (by repeat(first|(with_reducible first|exact HB.out|apply below_alloc|apply pw_below_drewN|apply below_drew1|refine below_set ?_ GE523.out)|exact HB.out))) : w.heap.size ≤ gb527));have n5_:=Aside0.mk ((by rw [hg];exact Nat.ne_of_lt (blk_lt (g:=gb523) (o:=.cells #[.int .i64 0,.int .i64 0,.int .i64 0,.int .i64 0,.slice none 0 0] 47 (0,0)) (by (with_reducible repeat (first|refine blk_drewN ?_ _|refine blk_drew ?_|refine blk_alloc ?_ _));exact BK523.out)) : gb523 ≠ gb527));have n6_:=Aside0.mk ((by rw [hg];exact Nat.ne_of_gt (blk_lt (g:=gb523) (o:=.cells #[.int .i64 0,.int .i64 0,.int .i64 0,.int .i64 0,.slice none 0 0] 47 (0,0)) (by (with_reducible repeat (first|refine blk_drewN ?_ _|refine blk_drew ?_|refine blk_alloc ?_ _));exact BK523.out)) : gb527 ≠ gb523));clear BK523;clear HB;have BK523:=n0_;have HB:=n1_;have BK527:=n2_;have GW527:=n3_;have GE527:=n4_;have NB523_527:=n5_;have NB527_523:=n6_;clear n0_ n1_ n2_ n3_ n4_ n5_ n6_;clear hb hbox hg;have hnb35:=NB527_523.out;have hnc35:=NB523_527.out;have hcz36_0 : w34.cell? ⟨gb527,0,none⟩ = some (.int .i64 0):=(blk_cell BK527.out 0).trans rfl;have hcz36_1 : w34.cell? ⟨gb527,1,none⟩ = some (.int .i64 0):=(blk_cell BK527.out 1).trans rfl;have hfz36_0:=blk_frozen BK527.out 0;have hfz36_1:=blk_frozen BK527.out 1))
        have n0_ : Aside0 (((w34.setCell ⟨gb527,0,none⟩ (.int .i64 t525)).setCell ⟨gb527,1,none⟩ (.int .i64 t526)).heap[gb523]? = some (.cells #[.int .i64 0,.int .i64 0,.int .i64 0,.int .i64 0,.slice none 0 0] 47 (0,0))):=⟨by (with_reducible repeat (first|refine blk_drewN ?_ _|refine blk_drew ?_|refine blk_alloc ?_ _));refine blk_far ?_ NB523_527.out _;(with_reducible repeat (first|refine blk_drewN ?_ _|refine blk_drew ?_|refine blk_alloc ?_ _));refine blk_far ?_ NB523_527.out _;(with_reducible repeat (first|refine blk_drewN ?_ _|refine blk_drew ?_|refine blk_alloc ?_ _));exact BK523.out⟩
        have n1_ : Aside0 (((w34.setCell ⟨gb527,0,none⟩ (.int .i64 t525)).setCell ⟨gb527,1,none⟩ (.int .i64 t526)).heap[gb527]? = some (.cells #[.int .i64 t525,.int .i64 t526] 32 (0,0))):=⟨by (with_reducible repeat (first|refine blk_drewN ?_ _|refine blk_drew ?_|refine blk_alloc ?_ _));refine blk_put (cs:=#[.int .i64 t525,.int .i64 0]) ?_ 1 _ rfl;(with_reducible repeat (first|refine blk_drewN ?_ _|refine blk_drew ?_|refine blk_alloc ?_ _));refine blk_put (cs:=#[.int .i64 0,.int .i64 0]) ?_ 0 _ rfl;(with_reducible repeat (first|refine blk_drewN ?_ _|refine blk_drew ?_|refine blk_alloc ?_ _));exact BK527.out⟩
        have n2_ : Aside0 (Below w.heap.size w ((w34.setCell ⟨gb527,0,none⟩ (.int .i64 t525)).setCell ⟨gb527,1,none⟩ (.int .i64 t526))):=⟨by repeat (first|(with_reducible first|exact HB.out|apply below_alloc|apply pw_below_drewN|apply below_drew1|refine below_set ?_ GE523.out|refine below_set ?_ GE527.out)|exact HB.out)⟩
        (try clear BK523);(try clear BK527);(try clear HB)
        generalize ((w34.setCell ⟨gb527,0,none⟩ (.int .i64 t525)).setCell ⟨gb527,1,none⟩ (.int .i64 t526)) = w37 at n0_ n1_ n2_ ⊢
        have BK523:=n0_
        have BK527:=n1_
        have HB:=n2_
        clear n0_ n1_ n2_
        have n0_:=Aside0.mk (blk_drew BK523.out)
        have n1_:=Aside0.mk (blk_drew BK527.out)
        have n2_:=Aside0.mk (below_drew1 HB.out)
        clear BK523
        clear BK527
        clear HB
        have BK523:=n0_
        have BK527:=n1_
        have HB:=n2_
        clear n0_ n1_ n2_
        have p528 : 0 ≤ (1 : Int):=(by omega)
        have q528 : 1 < (l0.length : Int):=of_decide_eq_true (by first|(with_reducible assumption)|assumption)
        obtain⟨ad528,e528,hx528_0⟩:=Kd.at_int HR0.out 1 p528 q528
        have hw528_0:=hx528_0
        (try rw [show ((1 : Int)).toNat = 1 from rfl] at hw528_0)
        (try rw [show 1 * 1 = 1 from rfl] at hw528_0)
        (try simp only [Nat.reduceMul,Nat.reduceEqDiff,Go.Addr.add,↓reduceIte] at hw528_0)
        obtain rfl : ad524 = ad528:=(by injection e528)
        (try simp only [show (1 : Int).toNat = 1 from rfl,Nat.reduceMul,Nat.reduceEqDiff,Go.Addr.add,↓reduceIte] at hx528_0)
        have qi528 : (1 < l0.length) = True:=eq_true (by omega)
        (try rw [show ((1 : Int)).toNat = 1 from rfl] at hx528_0)
        replace hx528_0:=(HB.out.cell (World.block_lt_of_cell? w _ hx528_0)).trans hx528_0
        replace p528:=eq_true p528
        replace q528:=eq_true q528
        have p529 : 0 ≤ (2 : Int):=(by omega)
        have q529 : 2 < (l0.length : Int):=of_decide_eq_true (by first|(with_reducible assumption)|assumption)
        obtain⟨ad529,e529,hx529_0⟩:=Kd.at_int HR0.out 2 p529 q529
        have hw529_0:=hx529_0
        (try rw [show ((2 : Int)).toNat = 2 from rfl] at hw529_0)
        (try rw [show 2 * 1 = 2 from rfl] at hw529_0)
        (try simp only [Nat.reduceMul,Nat.reduceEqDiff,Go.Addr.add,↓reduceIte] at hw529_0)
        obtain rfl : ad524 = ad529:=(by injection e529)
        (try simp only [show (2 : Int).toNat = 2 from rfl,Nat.reduceMul,Nat.reduceEqDiff,Go.Addr.add,↓reduceIte] at hx529_0)
        have qi529 : (2 < l0.length) = True:=eq_true (by omega)
        (try rw [show ((2 : Int)).toNat = 2 from rfl] at hx529_0)
        replace hx529_0:=(HB.out.cell (World.block_lt_of_cell? w _ hx529_0)).trans hx529_0
        replace p529:=eq_true p529
        replace q529:=eq_true q529
        refine start_ (n:=13) (S:=fun w'=>w'.cell? ⟨gb527,0,none⟩ = some (.int .i64 t525) ∧ w'.cell? ⟨gb527,1,none⟩ = some (.int .i64 t526) ∧ w'.cell? ⟨ad524.block,ad524.off + 1,none⟩ = some (.int .u8 (rd l0 1)) ∧ w'.cell? ⟨ad524.block,ad524.off + 2,none⟩ = some (.int .u8 (rd l0 2))) (ds:=[]) #[Z,Z,Z,Z,Z,Z,Z,Z,Z,Z,Z,Z,Z] (by kernel_rfl) rfl rfl ⟨(blk_cell BK527.out 0).trans rfl,(blk_cell BK527.out 1).trans rfl,((HB.out.cell (World.block_lt_of_cell? w _ hw528_0)).trans hw528_0),((HB.out.cell (World.block_lt_of_cell? w _ hw529_0)).trans hw529_0)⟩ (fun hHeld=>?_);refine with_tabW impl_ReadHead.tab6 impl_ReadHead.bits6 (fun HT_ HW_=>?_)
        generalize w37.drew = w38 at BK523 BK527 HB hx528_0 hx529_0 hHeld ⊢
        refine pure_ (i:=0) (N:=some 18) (v:=?_) (a':=?_) #[Y,Z,Z,Z,Z,Z,Z,Z,Z,Z,Z,Z,Z] rfl rfl (any_of HT_.out (by kernel_rfl)) (fun _ _ _ h=>h) (Or.inl ⟨by rfl,?_⟩) ?_ ?_
        rotate_left
        ·intro w';go_simp;with_reducible rfl
        rotate_left
        ·simp only [Act.put,sa_,sb_,sc_,i64_w];rfl
        refine pure_ (i:=1) (N:=some 19) (v:=?_) (a':=?_) #[Y,Y,Z,Z,Z,Z,Z,Z,Z,Z,Z,Z,Z] rfl rfl (any_of HT_.out (by kernel_rfl)) (fun _ _ _ h=>h) (Or.inl ⟨by rfl,?_⟩) ?_ ?_
        rotate_left
        ·intro w';go_simp;with_reducible rfl
        rotate_left
        ·simp only [Act.put,sa_,sb_,sc_,i64_w];rfl
        refine pure_ (i:=4) (N:=some 22) (v:=?_) (a':=?_) #[Y,Y,Z,Z,Y,Z,Z,Z,Z,Z,Z,Z,Z] rfl rfl (any_of HT_.out (by kernel_rfl)) (fun _ _ _ h=>h) (Or.inl ⟨by rfl,?_⟩) ?_ ?_
        rotate_left
        ·intro w';go_simp;with_reducible rfl
        rotate_left
        ·simp only [Act.put,sa_,sb_,sc_,i64_w];rfl
        refine pure_ (i:=5) (N:=some 23) (v:=?_) (a':=?_) #[Y,Y,Z,Z,Y,Y,Z,Z,Z,Z,Z,Z,Z] rfl rfl (any_of HT_.out (by kernel_rfl)) (fun _ _ _ h=>h) (Or.inl ⟨by rfl,?_⟩) ?_ ?_
        rotate_left
        ·intro w';go_simp;with_reducible rfl
        rotate_left
        ·simp only [Act.put,sa_,sb_,sc_,i64_w];rfl
        refine pure_ (i:=8) (N:=some 26) (v:=?_) (a':=?_) #[Y,Y,Z,Z,Y,Y,Z,Z,Y,Z,Z,Z,Z] rfl rfl (any_of HT_.out (by kernel_rfl)) (fun _ _ _ h=>h) (Or.inl ⟨by rfl,?_⟩) ?_ ?_
        rotate_left
        ·intro w';go_simp;with_reducible rfl
        rotate_left
        ·simp only [Act.put,sa_,sb_,sc_,i64_w];rfl
        refine take_ (i:=2) (N:=some 20) (v:=?_) (a':=?_) #[Y,Y,Y,Z,Y,Y,Z,Z,Y,Z,Z,Z,Z] rfl rfl (take_ofW HT_.out HW_.out (by kernel_rfl)) (fun _ _ _ h=>h) (Or.inl ⟨by rfl,?_⟩) hHeld ?_ ?_
        rotate_left
        ·rintro w' ⟨s0,s1,s2,s3⟩
         go_simp
         with_reducible rfl
        rotate_left
        ·simp only [Act.put,sa_,sb_,sc_,i64_w];rfl
        refine pure_ (i:=3) (N:=some 21) (v:=?_) (a':=?_) #[Y,Y,Y,Y,Y,Y,Z,Z,Y,Z,Z,Z,Z] rfl rfl (any_of HT_.out (by kernel_rfl)) (fun _ _ _ h=>h) (Or.inl ⟨by rfl,?_⟩) ?_ ?_
        rotate_left
        ·intro w';go_simp;with_reducible rfl
        rotate_left
        ·simp only [Act.put,sa_,sb_,sc_,i64_w];rfl
        refine take_ (i:=6) (N:=some 24) (v:=?_) (a':=?_) #[Y,Y,Y,Y,Y,Y,Y,Z,Y,Z,Z,Z,Z] rfl rfl (take_ofW HT_.out HW_.out (by kernel_rfl)) (fun _ _ _ h=>h) (Or.inl ⟨by rfl,?_⟩) hHeld ?_ ?_
        rotate_left
        ·rintro w' ⟨s0,s1,s2,s3⟩
         go_simp
         with_reducible rfl
        rotate_left
        ·simp only [Act.put,sa_,sb_,sc_,i64_w];rfl
        refine pure_ (i:=7) (N:=some 25) (v:=?_) (a':=?_) #[Y,Y,Y,Y,Y,Y,Y,Y,Y,Z,Z,Z,Z] rfl rfl (any_of HT_.out (by kernel_rfl)) (fun _ _ _ h=>h) (Or.inl ⟨by rfl,?_⟩) ?_ ?_
        rotate_left
        ·intro w';go_simp;with_reducible rfl
        rotate_left
        ·simp only [Act.put,sa_,sb_,sc_,i64_w];rfl
        refine take_ (i:=9) (N:=some 27) (v:=?_) (a':=?_) #[Y,Y,Y,Y,Y,Y,Y,Y,Y,Y,Z,Z,Z] rfl rfl (take_ofW HT_.out HW_.out (by kernel_rfl)) (fun _ _ _ h=>h) (Or.inl ⟨by rfl,?_⟩) hHeld ?_ ?_
        rotate_left
        ·rintro w' ⟨s0,s1,s2,s3⟩
         go_simp
         with_reducible rfl
        rotate_left
        ·simp only [Act.put,sa_,sb_,sc_,i64_w];rfl
        refine pure_ (i:=10) (N:=some 28) (v:=?_) (a':=?_) #[Y,Y,Y,Y,Y,Y,Y,Y,Y,Y,Y,Z,Z] rfl rfl (any_of HT_.out (by kernel_rfl)) (fun _ _ _ h=>h) (Or.inl ⟨by rfl,?_⟩) ?_ ?_
        rotate_left
        ·intro w';go_simp;with_reducible rfl
        rotate_left
        ·simp only [Act.put,sa_,sb_,sc_,i64_w];rfl
        refine one_ (i:=11) (N:=some 4) #[Y,Y,Y,Y,Y,Y,Y,Y,Y,Y,Y,Y,Z] rfl rfl (one_of HT_.out (by kernel_rfl)) (by decide) (fun K hK=>?_)
        refine box_step ?hg (N:=4) ?hd (cs:=#[.int .i64 0,.int .i64 0,.int .i64 0,.slice none 0 0]) (t:=45) ?hr ?_;(case hd=>rfl);(case hg=>rfl);(case hr=>first|(go_simp;done)|(go_simp;rfl))
        intro gb530 hg w39 hbox hb
        have n0_:=Aside0.mk (blk_below (g:=gb523) (o:=.cells #[.int .i64 0,.int .i64 0,.int .i64 0,.int .i64 0,.slice none 0 0] 47 (0,0)) (by (with_reducible repeat (first|refine blk_drewN ?_ _|refine blk_drew ?_|refine blk_alloc ?_ _));exact BK523.out) hb)
        have n1_:=Aside0.mk (blk_below (g:=gb527) (o:=.cells #[.int .i64 t525,.int .i64 t526] 32 (0,0)) (by (with_reducible repeat (first|refine blk_drewN ?_ _|refine blk_drew ?_|refine blk_alloc ?_ _));exact BK527.out) hb)
        have n2_:=Aside0.mk (below_step (by repeat(first|(with_reducible first|exact HB.out|apply below_alloc|apply pw_below_drewN|apply below_drew1|refine below_set ?_ GE523.out|refine below_set ?_ GE527.out)|exact HB.out)) hb)
        have n3_:=Aside0.mk (hbox)
        have n4_:=Aside0.mk ((by rw [hg];exact (below_size (by repeat(first|(with_reducible first|exact HB.out|apply below_alloc|apply pw_below_drewN|apply below_drew1|refine below_set ?_ GE523.out|refine below_set ?_ GE527.out)|exact HB.out))) : w.heap.size ≤ gb530))
        have n5_:=Aside0.mk ((by rw [hg];exact (below_size (by repeat(first|(with_reducible first|exact HB.out|apply below_alloc|apply pw_below_drewN|apply below_drew1|refine below_set ?_ GE523.out|refine below_set ?_ GE527.out)|exact HB.out))) : w.heap.size ≤ gb530))
        have n6_:=Aside0.mk ((by rw [hg];exact Nat.ne_of_lt (blk_lt (g:=gb523) (o:=.cells #[.int .i64 0,.int .i64 0,.int .i64 0,.int .i64 0,.slice none 0 0] 47 (0,0)) (by (with_reducible repeat (first|refine blk_drewN ?_ _|refine blk_drew ?_|refine blk_alloc ?_ _));exact BK523.out)) : gb523 ≠ gb530))
        have n7_:=Aside0.mk ((by rw [hg];exact Nat.ne_of_gt (blk_lt (g:=gb523) (o:=.cells #[.int .i64 0,.int .i64 0,.int .i64 0,.int .i64 0,.slice none 0 0] 47 (0,0)) (by (with_reducible repeat (first|refine blk_drewN ?_ _|refine blk_drew ?_|refine blk_alloc ?_ _));exact BK523.out)) : gb530 ≠ gb523))
        have n8_:=Aside0.mk ((by rw [hg];exact Nat.ne_of_lt (blk_lt (g:=gb527) (o:=.cells #[.int .i64 t525,.int .i64 t526] 32 (0,0)) (by (with_reducible repeat (first|refine blk_drewN ?_ _|refine blk_drew ?_|refine blk_alloc ?_ _));exact BK527.out)) : gb527 ≠ gb530))
        have n9_:=Aside0.mk ((by rw [hg];exact Nat.ne_of_gt (blk_lt (g:=gb527) (o:=.cells #[.int .i64 t525,.int .i64 t526] 32 (0,0)) (by (with_reducible repeat (first|refine blk_drewN ?_ _|refine blk_drew ?_|refine blk_alloc ?_ _));exact BK527.out)) : gb530 ≠ gb527))
        clear BK523
        clear BK527
        clear HB
        have BK523:=n0_
        have BK527:=n1_
        have HB:=n2_
        have BK530:=n3_
        have GW530:=n4_
        have GE530:=n5_
        have NB523_530:=n6_
        have NB530_523:=n7_
        have NB527_530:=n8_
        have NB530_527:=n9_
        clear n0_ n1_ n2_ n3_ n4_ n5_ n6_ n7_ n8_ n9_
        clear hb hbox hg
        refine hK.out _ _ ⟨(blk_cell BK527.out 0).trans rfl,(blk_cell BK527.out 1).trans rfl,((HB.out.cell (World.block_lt_of_cell? w _ hw528_0)).trans hw528_0),((HB.out.cell (World.block_lt_of_cell? w _ hw529_0)).trans hw529_0)⟩ (fun hHeld=>?_)
        clear hK K
        refine norm_ (a':=?_) ?_ ?_
        rotate_left
        ·show Act.put _ (some 4) _ = _
         simp only [Act.put,sa_,sb_,sc_,i64_w]
         rfl
        refine one_ (i:=12) (N:=none) #[Y,Y,Y,Y,Y,Y,Y,Y,Y,Y,Y,Y,Y] rfl rfl (one_of HT_.out (by kernel_rfl)) (by decide) (fun K hK=>?_)
        have hs40 : w39.cell? ⟨gb530,0,none⟩ = some (.int .i64 0):=(blk_cell BK530.out 0).trans rfl
        have hfs40:=blk_frozen BK530.out 0
        have hns40_0:=NB523_530.out
        have hns40_1:=NB527_530.out
        have hms40_0:=NB530_523.out
        have hms40_1:=NB530_527.out
        have hs41 : w39.cell? ⟨gb530,1,none⟩ = some (.int .i64 0):=(blk_cell BK530.out 1).trans rfl
        have hfs41:=blk_frozen BK530.out 1
        have hns41_0:=NB523_530.out
        have hns41_1:=NB527_530.out
        have hms41_0:=NB530_523.out
        have hms41_1:=NB530_527.out
        have hs42 : w39.cell? ⟨gb530,2,none⟩ = some (.int .i64 0):=(blk_cell BK530.out 2).trans rfl
        have hfs42:=blk_frozen BK530.out 2
        have hns42_0:=NB523_530.out
        have hns42_1:=NB527_530.out
        have hms42_0:=NB530_523.out
        have hms42_1:=NB530_527.out
        have hs43 : w39.cell? ⟨gb530,3,none⟩ = some (.slice none 0 0):=(blk_cell BK530.out 3).trans rfl
        have hfs43:=blk_frozen BK530.out 3
        have hns43_0:=NB523_530.out
        have hns43_1:=NB527_530.out
        have hms43_0:=NB530_523.out
        have hms43_1:=NB530_527.out
        refine skip_ (w1:=?_) (by rfl) rfl ?_ ?_
        rotate_left
        ·go_simp
         rfl
        refine hK.out _ _ ⟨((cell_far (p:=⟨gb530,_,none⟩) NB527_530.out _).trans (((cell_far (p:=⟨gb530,_,none⟩) NB527_530.out _).trans (((cell_far (p:=⟨gb530,_,none⟩) NB527_530.out _).trans (((cell_far (p:=⟨gb530,_,none⟩) NB527_530.out _).trans (hHeld.1)))))))),((cell_far (p:=⟨gb530,_,none⟩) NB527_530.out _).trans (((cell_far (p:=⟨gb530,_,none⟩) NB527_530.out _).trans (((cell_far (p:=⟨gb530,_,none⟩) NB527_530.out _).trans (((cell_far (p:=⟨gb530,_,none⟩) NB527_530.out _).trans (hHeld.2.1)))))))),((cell_far (p:=⟨gb530,_,none⟩) (by first|exact Nat.ne_of_lt (Nat.lt_of_lt_of_le (by have:=World.block_lt_of_cell? _ _ hw528_0;first|rwa [add_block] at this|exact this) GW530.out)|(rw [add_block];exact Nat.ne_of_lt (Nat.lt_of_lt_of_le (by have:=World.block_lt_of_cell? _ _ hw528_0;first|rwa [add_block] at this|exact this) GW530.out))|(show (Addr.add _ _).block ≠ _;rw [add_block];exact Nat.ne_of_lt (Nat.lt_of_lt_of_le (by have:=World.block_lt_of_cell? _ _ hw528_0;first|rwa [add_block] at this|exact this) GW530.out))|(dsimp only;exact Nat.ne_of_lt (Nat.lt_of_lt_of_le (by have:=World.block_lt_of_cell? _ _ hw528_0;first|rwa [add_block] at this|exact this) GW530.out))) _).trans (((cell_far (p:=⟨gb530,_,none⟩) (by first|exact Nat.ne_of_lt (Nat.lt_of_lt_of_le (by have:=World.block_lt_of_cell? _ _ hw528_0;first|rwa [add_block] at this|exact this) GW530.out)|(rw [add_block];exact Nat.ne_of_lt (Nat.lt_of_lt_of_le (by have:=World.block_lt_of_cell? _ _ hw528_0;first|rwa [add_block] at this|exact this) GW530.out))|(show (Addr.add _ _).block ≠ _;rw [add_block];exact Nat.ne_of_lt (Nat.lt_of_lt_of_le (by have:=World.block_lt_of_cell? _ _ hw528_0;first|rwa [add_block] at this|exact this) GW530.out))|(dsimp only;exact Nat.ne_of_lt (Nat.lt_of_lt_of_le (by have:=World.block_lt_of_cell? _ _ hw528_0;first|rwa [add_block] at this|exact this) GW530.out))) _).trans (((cell_far (p:=⟨gb530,_,none⟩) (by first|exact Nat.ne_of_lt (Nat.lt_of_lt_of_le (by have:=World.block_lt_of_cell? _ _ hw528_0;first|rwa [add_block] at this|exact this) GW530.out)|(rw [add_block];exact Nat.ne_of_lt (Nat.lt_of_lt_of_le (by have:=World.block_lt_of_cell? _ _ hw528_0;first|rwa [add_block] at this|exact this) GW530.out))|(show (Addr.add _ _).block ≠ _;rw [add_block];exact Nat.ne_of_lt (Nat.lt_of_lt_of_le (by have:=World.block_lt_of_cell? _ _ hw528_0;first|rwa [add_block] at this|exact this) GW530.out))|(dsimp only;exact Nat.ne_of_lt (Nat.lt_of_lt_of_le (by have:=World.block_lt_of_cell? _ _ hw528_0;first|rwa [add_block] at this|exact this) GW530.out))) _).trans (((cell_far (p:=⟨gb530,_,none⟩) (by first|exact Nat.ne_of_lt (Nat.lt_of_lt_of_le (by have:=World.block_lt_of_cell? _ _ hw528_0;first|rwa [add_block] at this|exact this) GW530.out)|(rw [add_block];exact Nat.ne_of_lt (Nat.lt_of_lt_of_le (by have:=World.block_lt_of_cell? _ _ hw528_0;first|rwa [add_block] at this|exact this) GW530.out))|(show (Addr.add _ _).block ≠ _;rw [add_block];exact Nat.ne_of_lt (Nat.lt_of_lt_of_le (by have:=World.block_lt_of_cell? _ _ hw528_0;first|rwa [add_block] at this|exact this) GW530.out))|(dsimp only;exact Nat.ne_of_lt (Nat.lt_of_lt_of_le (by have:=World.block_lt_of_cell? _ _ hw528_0;first|rwa [add_block] at this|exact this) GW530.out))) _).trans (hHeld.2.2.1)))))))),((cell_far (p:=⟨gb530,_,none⟩) (by first|exact Nat.ne_of_lt (Nat.lt_of_lt_of_le (by have:=World.block_lt_of_cell? _ _ hw529_0;first|rwa [add_block] at this|exact this) GW530.out)|(rw [add_block];exact Nat.ne_of_lt (Nat.lt_of_lt_of_le (by have:=World.block_lt_of_cell? _ _ hw529_0;first|rwa [add_block] at this|exact this) GW530.out))|(show (Addr.add _ _).block ≠ _;rw [add_block];exact Nat.ne_of_lt (Nat.lt_of_lt_of_le (by have:=World.block_lt_of_cell? _ _ hw529_0;first|rwa [add_block] at this|exact this) GW530.out))|(dsimp only;exact Nat.ne_of_lt (Nat.lt_of_lt_of_le (by have:=World.block_lt_of_cell? _ _ hw529_0;first|rwa [add_block] at this|exact this) GW530.out))) _).trans (((cell_far (p:=⟨gb530,_,none⟩) (by first|exact Nat.ne_of_lt (Nat.lt_of_lt_of_le (by have:=World.block_lt_of_cell? _ _ hw529_0;first|rwa [add_block] at this|exact this) GW530.out)|(rw [add_block];exact Nat.ne_of_lt (Nat.lt_of_lt_of_le (by have:=World.block_lt_of_cell? _ _ hw529_0;first|rwa [add_block] at this|exact this) GW530.out))|(show (Addr.add _ _).block ≠ _;rw [add_block];exact Nat.ne_of_lt (Nat.lt_of_lt_of_le (by have:=World.block_lt_of_cell? _ _ hw529_0;first|rwa [add_block] at this|exact this) GW530.out))|(dsimp only;exact Nat.ne_of_lt (Nat.lt_of_lt_of_le (by have:=World.block_lt_of_cell? _ _ hw529_0;first|rwa [add_block] at this|exact this) GW530.out))) _).trans (((cell_far (p:=⟨gb530,_,none⟩) (by first|exact Nat.ne_of_lt (Nat.lt_of_lt_of_le (by have:=World.block_lt_of_cell? _ _ hw529_0;first|rwa [add_block] at this|exact this) GW530.out)|(rw [add_block];exact Nat.ne_of_lt (Nat.lt_of_lt_of_le (by have:=World.block_lt_of_cell? _ _ hw529_0;first|rwa [add_block] at this|exact this) GW530.out))|(show (Addr.add _ _).block ≠ _;rw [add_block];exact Nat.ne_of_lt (Nat.lt_of_lt_of_le (by have:=World.block_lt_of_cell? _ _ hw529_0;first|rwa [add_block] at this|exact this) GW530.out))|(dsimp only;exact Nat.ne_of_lt (Nat.lt_of_lt_of_le (by have:=World.block_lt_of_cell? _ _ hw529_0;first|rwa [add_block] at this|exact this) GW530.out))) _).trans (((cell_far (p:=⟨gb530,_,none⟩) (by first|exact Nat.ne_of_lt (Nat.lt_of_lt_of_le (by have:=World.block_lt_of_cell? _ _ hw529_0;first|rwa [add_block] at this|exact this) GW530.out)|(rw [add_block];exact Nat.ne_of_lt (Nat.lt_of_lt_of_le (by have:=World.block_lt_of_cell? _ _ hw529_0;first|rwa [add_block] at this|exact this) GW530.out))|(show (Addr.add _ _).block ≠ _;rw [add_block];exact Nat.ne_of_lt (Nat.lt_of_lt_of_le (by have:=World.block_lt_of_cell? _ _ hw529_0;first|rwa [add_block] at this|exact this) GW530.out))|(dsimp only;exact Nat.ne_of_lt (Nat.lt_of_lt_of_le (by have:=World.block_lt_of_cell? _ _ hw529_0;first|rwa [add_block] at this|exact this) GW530.out))) _).trans (hHeld.2.2.2))))))))⟩ (fun hHeld=>?_)
        clear hK K
        refine done_ (done_of HT_.out (by kernel_rfl)) ?_
        have hnb44:=NB527_530.out
        have hnc44:=NB530_527.out
        have hcz45_0 : w39.cell? ⟨gb527,0,none⟩ = some (.int .i64 t525):=(blk_cell BK527.out 0).trans rfl
        have hcz45_1 : w39.cell? ⟨gb527,1,none⟩ = some (.int .i64 t526):=(blk_cell BK527.out 1).trans rfl
        have hfz45_0:=blk_frozen BK527.out 0
        have hfz45_1:=blk_frozen BK527.out 1
        have hnb46:=NB530_523.out
        have hnc46:=NB523_530.out
        have hcz47_0 : w39.cell? ⟨gb530,0,none⟩ = some (.int .i64 0):=(blk_cell BK530.out 0).trans rfl
        have hcz47_1 : w39.cell? ⟨gb530,1,none⟩ = some (.int .i64 0):=(blk_cell BK530.out 1).trans rfl
        have hcz47_2 : w39.cell? ⟨gb530,2,none⟩ = some (.int .i64 0):=(blk_cell BK530.out 2).trans rfl
        have hcz47_3 : w39.cell? ⟨gb530,3,none⟩ = some (.slice none 0 0):=(blk_cell BK530.out 3).trans rfl
        have hfz47_0:=blk_frozen BK530.out 0
        have hfz47_1:=blk_frozen BK530.out 1
        have hfz47_2:=blk_frozen BK530.out 2
        have hfz47_3:=blk_frozen BK530.out 3
        try go_wp2_with (first|(go_at_call 38;(refine (impl_LetterFault.calls k (wrap64 (rd l0 1)) (wrap64 (rd l0 2)) t526 _ _ ([] : List Int) t531 _ ?side1 ?side2 A11.out).mono ?_);(case side1=>exact Kd.C_nil _ _);(case side2=>exact Nat.le_refl _);rintro e w48 ⟨rfl,hb⟩;have n0_:=Aside0.mk (blk_below (g:=gb523) (o:=.cells #[.int .i64 0,.int .i64 0,.int .i64 0,.int .i64 0,.slice none 0 0] 47 (0,0)) (by (with_reducible repeat (first|refine blk_drewN ?_ _|refine blk_drew ?_|refine blk_alloc ?_ _));refine blk_far ?_ NB523_530.out _;(with_reducible repeat (first|refine blk_drewN ?_ _|refine blk_drew ?_|refine blk_alloc ?_ _));refine blk_far ?_ NB523_530.out _;(with_reducible repeat (first|refine blk_drewN ?_ _|refine blk_drew ?_|refine blk_alloc ?_ _));refine blk_far ?_ NB523_530.out _;(with_reducible repeat (first|refine blk_drewN ?_ _|refine blk_drew ?_|refine blk_alloc ?_ _));refine blk_far ?_ NB523_530.out _;(with_reducible repeat (first|refine blk_drewN ?_ _|refine blk_drew ?_|refine blk_alloc ?_ _));exact BK523.out) hb);have n1_:=Aside0.mk (blk_below (g:=gb527) (o:=.cells #[.int .i64 t525,.int .i64 t526] 32 (0,0)) (by (with_reducible repeat (first|refine blk_drewN ?_ _|refine blk_drew ?_|refine blk_alloc ?_ _));refine blk_far ?_ NB527_530.out _;(with_reducible repeat (first|refine blk_drewN ?_ _|refine blk_drew ?_|refine blk_alloc ?_ _));refine blk_far ?_ NB527_530.out _;(with_reducible repeat (first|refine blk_drewN ?_ _|refine blk_drew ?_|refine blk_alloc ?_ _));refine blk_far ?_ NB527_530.out _;(with_reducible repeat (first|refine blk_drewN ?_ _|refine blk_drew ?_|refine blk_alloc ?_ _));refine blk_far ?_ NB527_530.out _;(with_reducible repeat (first|refine blk_drewN ?_ _|refine blk_drew ?_|refine blk_alloc ?_ _));exact BK527.out) hb);have n2_:=Aside0.mk (blk_below (g:=gb530) (o:=.cells #[.int .i64 (wrap64 (rd l0 1)),.int .i64 (wrap64 (rd l0 2)),.int .i64 t526,.slice none 0 0] 45 (0,0)) (by (with_reducible repeat (first|refine blk_drewN ?_ _|refine blk_drew ?_|refine blk_alloc ?_ _));refine blk_put (cs:=#[.int .i64 (wrap64 (rd l0 1)),.int .i64 (wrap64 (rd l0 2)),.int .i64 t526,.slice none 0 0]) ?_ 3 _ rfl;(with_reducible repeat (first|refine blk_drewN ?_ _|refine blk_drew ?_|refine blk_alloc ?_ _));refine blk_put (cs:=#[.int .i64 (wrap64 (rd l0 1)),.int .i64 (wrap64 (rd l0 2)),.int .i64 0,.slice none 0 0]) ?_ 2 _ rfl;(with_reducible repeat (first|refine blk_drewN ?_ _|refine blk_drew ?_|refine blk_alloc ?_ _));refine blk_put (cs:=#[.int .i64 (wrap64 (rd l0 1)),.int .i64 0,.int .i64 0,.slice none 0 0]) ?_ 1 _ rfl;(with_reducible repeat (first|refine blk_drewN ?_ _|refine blk_drew ?_|refine blk_alloc ?_ _));refine blk_put (cs:=#[.int .i64 0,.int .i64 0,.int .i64 0,.slice none 0 0]) ?_ 0 _ rfl;(with_reducible repeat (first|refine blk_drewN ?_ _|refine blk_drew ?_|refine blk_alloc ?_ _));exact BK530.out) hb);have n3_:=Aside0.mk (below_step (by repeat(first|(with_reducible first|exact HB.out|apply below_alloc|apply pw_below_drewN|apply below_drew1|refine below_set ?_ GE523.out|refine below_set ?_ GE527.out|refine below_set ?_ GE530.out)|exact HB.out)) hb);clear BK523;clear BK527;clear BK530;clear HB;have BK523:=n0_;have BK527:=n1_;have BK530:=n2_;have HB:=n3_;clear n0_ n1_ n2_ n3_;(try clear hb);(try clear hb2);(try clear hk);(try clear hi);have hcz49_0 : w48.cell? ⟨gb523,0,none⟩ = some (.int .i64 0):=(blk_cell BK523.out 0).trans rfl;have hcz49_1 : w48.cell? ⟨gb523,1,none⟩ = some (.int .i64 0):=(blk_cell BK523.out 1).trans rfl;have hcz49_2 : w48.cell? ⟨gb523,2,none⟩ = some (.int .i64 0):=(blk_cell BK523.out 2).trans rfl;have hcz49_3 : w48.cell? ⟨gb523,3,none⟩ = some (.int .i64 0):=(blk_cell BK523.out 3).trans rfl;have hcz49_4 : w48.cell? ⟨gb523,4,none⟩ = some (.slice none 0 0):=(blk_cell BK523.out 4).trans rfl;have hfz49_0:=blk_frozen BK523.out 0;have hfz49_1:=blk_frozen BK523.out 1;have hfz49_2:=blk_frozen BK523.out 2;have hfz49_3:=blk_frozen BK523.out 3;have hfz49_4:=blk_frozen BK523.out 4))
        refine bodyPost_ret (results_cell_row rfl _ _ gb523 47 #[.int .i64 3,.int .i64 0,.int .i64 0,.int .i64 0,.slice none 0 0] (0,0) _ rfl (by (with_reducible repeat (first|refine blk_drewN ?_ _|refine blk_drew ?_|refine blk_alloc ?_ _));refine blk_put (cs:=#[.int .i64 3,.int .i64 0,.int .i64 0,.int .i64 0,.slice none 0 0]) ?_ 4 _ rfl;(with_reducible repeat (first|refine blk_drewN ?_ _|refine blk_drew ?_|refine blk_alloc ?_ _));refine blk_put (cs:=#[.int .i64 3,.int .i64 0,.int .i64 0,.int .i64 0,.slice none 0 0]) ?_ 3 _ rfl;(with_reducible repeat (first|refine blk_drewN ?_ _|refine blk_drew ?_|refine blk_alloc ?_ _));refine blk_put (cs:=#[.int .i64 3,.int .i64 0,.int .i64 0,.int .i64 0,.slice none 0 0]) ?_ 2 _ rfl;(with_reducible repeat (first|refine blk_drewN ?_ _|refine blk_drew ?_|refine blk_alloc ?_ _));refine blk_put (cs:=#[.int .i64 3,.int .i64 0,.int .i64 0,.int .i64 0,.slice none 0 0]) ?_ 1 _ rfl;(with_reducible repeat (first|refine blk_drewN ?_ _|refine blk_drew ?_|refine blk_alloc ?_ _));refine blk_put (cs:=#[.int .i64 0,.int .i64 0,.int .i64 0,.int .i64 0,.slice none 0 0]) ?_ 0 _ rfl;(with_reducible repeat (first|refine blk_drewN ?_ _|refine blk_drew ?_|refine blk_alloc ?_ _));exact BK523.out) Try.underlying47 rfl (by kernel_rfl)) rfl ?_
        exact⟨_,by first|rfl|(simp [errW_none,errW_some] <;> rfl)|(simp [*,errW_none,errW_some] <;> rfl),by first|exact Kd.R_nil _ _ _ _ _|exact Kd.N_nil _ _ _ _ _|exact Kd.V_nil _ _ _ _ _|exact Kd.Q_nil _ _ _ _ _|exact Kd.S_nil _ _ _ _ _,by repeat (first|(with_reducible first|exact HB.out|apply below_alloc|apply pw_below_drewN|apply below_drew1|refine below_set ?_ GE523.out|refine below_set ?_ GE527.out|refine below_set ?_ GE530.out)|exact HB.out)⟩
      ·rw [if_neg c10] at H
       have c10b0 : (t525 == 0) = false:=beq_eq_false_iff_ne.mpr c10
       have c10b1 : (t525 != 0) = true:=bne_iff_ne.mpr c10
       simp only [Option.some.injEq,Prod.mk.injEq] at H
       obtain⟨rfl,rfl,rfl,rfl,rfl⟩:=H
       go_enter Try.func34,Try.ntmps34
       try go_wp2_with (first|((with_reducible refine gate_dst (N:=2) rfl ?_);refine box_event ?hg (N:=2) ?hd (cs:=#[.int .i64 0,.int .i64 0,.int .i64 0,.int .i64 0,.slice none 0 0]) (t:=47) ?hr ?_;(case hd=>rfl);(case hg=>rfl);(case hr=>first|(go_simp;done)|(go_simp;rfl));intro gb523 hg w50 hbox hb;have n0_:=Aside0.mk (below_step (by repeat(first|(with_reducible first|exact HB.out|apply below_alloc|apply pw_below_drewN|apply below_drew1)|exact HB.out)) hb);have n1_:=Aside0.mk (hbox);have n2_:=Aside0.mk ((by rw [hg];exact (below_size (by repeat(first|(with_reducible first|exact HB.out|apply below_alloc|apply pw_below_drewN|apply below_drew1)|exact HB.out))) : w.heap.size ≤ gb523));have n3_:=Aside0.mk ((by rw [hg];exact (below_size (by repeat(first|(with_reducible first|exact HB.out|apply below_alloc|apply pw_below_drewN|apply below_drew1)|exact HB.out))) : w.heap.size ≤ gb523));clear HB;have HB:=n0_;have BK523:=n1_;have GW523:=n2_;have GE523:=n3_;clear n0_ n1_ n2_ n3_;clear hb hbox hg;have p524 : 0 ≤ (0 : Int):=(by omega);have q524 : 0 < (l0.length : Int):=of_decide_eq_true (by first|(with_reducible assumption)|assumption);obtain⟨ad524,e524,hx524_0⟩:=Kd.at_int HR0.out 0 p524 q524;cases e524;have qi524 : (0 < l0.length) = True:=eq_true (by omega);(try rw [show ((0 : Int)).toNat = 0 from rfl] at hx524_0);(try rw [Addr.add_zero'] at hx524_0);replace hx524_0:=(HB.out.cell (World.block_lt_of_cell? w _ hx524_0)).trans hx524_0;replace p524:=eq_true p524;replace q524:=eq_true q524)|((with_reducible refine gate_callee (f:=11) rfl ?_);refine goesL_ (some 17) rfl rfl Try.func11 (by kernel_rfl) rfl #[.slice (some ad524) l0.length c0,.int .i64 3,.int .i64 8] rfl (by (try simp only [List.map_toArray,List.map_cons,List.map_nil]);first|done|rfl|(simp only [List.length_drop,List.length_take];rfl)) ?_;(with_reducible refine (impl_ReadWord.calls k _ _ l0 3 8 t525 t526 _ ?side1 ?side2 A7.out).mono ?_);(case side1=>repeat (first|exact (Kd.C_below HR0.out HB.out)|(with_reducible refine Kd.C_alloc ?_ _)|(with_reducible refine Kd.C_drewN ?_ _)|(with_reducible refine Kd.C_drew ?_)));(case side2=>exact HC0.out);rintro e w51 ⟨rfl,hb⟩;refine ⟨_,rfl,?_⟩;have n0_:=Aside0.mk (blk_below (g:=gb523) (o:=.cells #[.int .i64 0,.int .i64 0,.int .i64 0,.int .i64 0,.slice none 0 0] 47 (0,0)) (by (with_reducible repeat (first|refine blk_drewN ?_ _|refine blk_drew ?_|refine blk_alloc ?_ _));exact BK523.out) hb);have n1_:=Aside0.mk (below_step (by repeat(first|(with_reducible first|exact HB.out|apply below_alloc|apply pw_below_drewN|apply below_drew1|refine below_set ?_ GE523.out)|exact HB.out)) hb);clear BK523;clear HB;have BK523:=n0_;have HB:=n1_;clear n0_ n1_;(try clear hb);(try clear hb2);(try clear hk);(try clear hi))|((with_reducible refine gate_dst (N:=3) rfl ?_);refine box_event ?hg (N:=3) ?hd (cs:=#[.int .i64 0,.int .i64 0]) (t:=32) ?hr ?_;(case hd=>rfl);(case hg=>rfl);(case hr=>first|(go_simp;done)|(go_simp;rfl));intro gb527 hg w52 hbox hb;have n0_:=Aside0.mk (blk_below (g:=gb523) (o:=.cells #[.int .i64 0,.int .i64 0,.int .i64 0,.int .i64 0,.slice none 0 0] 47 (0,0)) (by (with_reducible repeat (first|refine blk_drewN ?_ _|refine blk_drew ?_|refine blk_alloc ?_ _));exact BK523.out) hb);have n1_:=Aside0.mk (below_step (by repeat(first|(with_reducible first|exact HB.out|apply below_alloc|apply pw_below_drewN|apply below_drew1|refine below_set ?_ GE523.out)|exact HB.out)) hb);have n2_:=Aside0.mk (hbox);have n3_:=Aside0.mk ((by rw [hg];exact (below_size (by repeat(first|(with_reducible first|exact HB.out|apply below_alloc|apply pw_below_drewN|apply below_drew1|refine below_set ?_ GE523.out)|exact HB.out))) : w.heap.size ≤ gb527));have n4_:=Aside0.mk ((by rw [hg];exact (below_size (by repeat(first|(with_reducible first|exact HB.out|apply below_alloc|apply pw_below_drewN|apply below_drew1|refine below_set ?_ GE523.out)|exact HB.out))) : w.heap.size ≤ gb527));have n5_:=Aside0.mk ((by rw [hg];exact Nat.ne_of_lt (blk_lt (g:=gb523) (o:=.cells #[.int .i64 0,.int .i64 0,.int .i64 0,.int .i64 0,.slice none 0 0] 47 (0,0)) (by (with_reducible repeat (first|refine blk_drewN ?_ _|refine blk_drew ?_|refine blk_alloc ?_ _));exact BK523.out)) : gb523 ≠ gb527));have n6_:=Aside0.mk ((by rw [hg];exact Nat.ne_of_gt (blk_lt (g:=gb523) (o:=.cells #[.int .i64 0,.int .i64 0,.int .i64 0,.int .i64 0,.slice none 0 0] 47 (0,0)) (by (with_reducible repeat (first|refine blk_drewN ?_ _|refine blk_drew ?_|refine blk_alloc ?_ _));exact BK523.out)) : gb527 ≠ gb523));clear BK523;clear HB;have BK523:=n0_;have HB:=n1_;have BK527:=n2_;have GW527:=n3_;have GE527:=n4_;have NB523_527:=n5_;have NB527_523:=n6_;clear n0_ n1_ n2_ n3_ n4_ n5_ n6_;clear hb hbox hg;have hnb53:=NB527_523.out;have hnc53:=NB523_527.out;have hcz54_0 : w52.cell? ⟨gb527,0,none⟩ = some (.int .i64 0):=(blk_cell BK527.out 0).trans rfl;have hcz54_1 : w52.cell? ⟨gb527,1,none⟩ = some (.int .i64 0):=(blk_cell BK527.out 1).trans rfl;have hfz54_0:=blk_frozen BK527.out 0;have hfz54_1:=blk_frozen BK527.out 1))
       have n0_ : Aside0 (((w52.setCell ⟨gb527,0,none⟩ (.int .i64 t525)).setCell ⟨gb527,1,none⟩ (.int .i64 t526)).heap[gb523]? = some (.cells #[.int .i64 0,.int .i64 0,.int .i64 0,.int .i64 0,.slice none 0 0] 47 (0,0))):=⟨by (with_reducible repeat (first|refine blk_drewN ?_ _|refine blk_drew ?_|refine blk_alloc ?_ _));refine blk_far ?_ NB523_527.out _;(with_reducible repeat (first|refine blk_drewN ?_ _|refine blk_drew ?_|refine blk_alloc ?_ _));refine blk_far ?_ NB523_527.out _;(with_reducible repeat (first|refine blk_drewN ?_ _|refine blk_drew ?_|refine blk_alloc ?_ _));exact BK523.out⟩
       have n1_ : Aside0 (((w52.setCell ⟨gb527,0,none⟩ (.int .i64 t525)).setCell ⟨gb527,1,none⟩ (.int .i64 t526)).heap[gb527]? = some (.cells #[.int .i64 t525,.int .i64 t526] 32 (0,0))):=⟨by (with_reducible repeat (first|refine blk_drewN ?_ _|refine blk_drew ?_|refine blk_alloc ?_ _));refine blk_put (cs:=#[.int .i64 t525,.int .i64 0]) ?_ 1 _ rfl;(with_reducible repeat (first|refine blk_drewN ?_ _|refine blk_drew ?_|refine blk_alloc ?_ _));refine blk_put (cs:=#[.int .i64 0,.int .i64 0]) ?_ 0 _ rfl;(with_reducible repeat (first|refine blk_drewN ?_ _|refine blk_drew ?_|refine blk_alloc ?_ _));exact BK527.out⟩
       have n2_ : Aside0 (Below w.heap.size w ((w52.setCell ⟨gb527,0,none⟩ (.int .i64 t525)).setCell ⟨gb527,1,none⟩ (.int .i64 t526))):=⟨by repeat (first|(with_reducible first|exact HB.out|apply below_alloc|apply pw_below_drewN|apply below_drew1|refine below_set ?_ GE523.out|refine below_set ?_ GE527.out)|exact HB.out)⟩
       (try clear BK523);(try clear BK527);(try clear HB)
       generalize ((w52.setCell ⟨gb527,0,none⟩ (.int .i64 t525)).setCell ⟨gb527,1,none⟩ (.int .i64 t526)) = w55 at n0_ n1_ n2_ ⊢
       have BK523:=n0_
       have BK527:=n1_
       have HB:=n2_
       clear n0_ n1_ n2_
       have n0_:=Aside0.mk (blk_drew BK523.out)
       have n1_:=Aside0.mk (blk_drew BK527.out)
       have n2_:=Aside0.mk (below_drew1 HB.out)
       clear BK523
       clear BK527
       clear HB
       have BK523:=n0_
       have BK527:=n1_
       have HB:=n2_
       clear n0_ n1_ n2_
       have p528 : 0 ≤ (1 : Int):=(by omega)
       have q528 : 1 < (l0.length : Int):=of_decide_eq_true (by first|(with_reducible assumption)|assumption)
       obtain⟨ad528,e528,hx528_0⟩:=Kd.at_int HR0.out 1 p528 q528
       have hw528_0:=hx528_0
       (try rw [show ((1 : Int)).toNat = 1 from rfl] at hw528_0)
       (try rw [show 1 * 1 = 1 from rfl] at hw528_0)
       (try simp only [Nat.reduceMul,Nat.reduceEqDiff,Go.Addr.add,↓reduceIte] at hw528_0)
       obtain rfl : ad524 = ad528:=(by injection e528)
       (try simp only [show (1 : Int).toNat = 1 from rfl,Nat.reduceMul,Nat.reduceEqDiff,Go.Addr.add,↓reduceIte] at hx528_0)
       have qi528 : (1 < l0.length) = True:=eq_true (by omega)
       (try rw [show ((1 : Int)).toNat = 1 from rfl] at hx528_0)
       replace hx528_0:=(HB.out.cell (World.block_lt_of_cell? w _ hx528_0)).trans hx528_0
       replace p528:=eq_true p528
       replace q528:=eq_true q528
       have p529 : 0 ≤ (2 : Int):=(by omega)
       have q529 : 2 < (l0.length : Int):=of_decide_eq_true (by first|(with_reducible assumption)|assumption)
       obtain⟨ad529,e529,hx529_0⟩:=Kd.at_int HR0.out 2 p529 q529
       have hw529_0:=hx529_0
       (try rw [show ((2 : Int)).toNat = 2 from rfl] at hw529_0)
       (try rw [show 2 * 1 = 2 from rfl] at hw529_0)
       (try simp only [Nat.reduceMul,Nat.reduceEqDiff,Go.Addr.add,↓reduceIte] at hw529_0)
       obtain rfl : ad524 = ad529:=(by injection e529)
       (try simp only [show (2 : Int).toNat = 2 from rfl,Nat.reduceMul,Nat.reduceEqDiff,Go.Addr.add,↓reduceIte] at hx529_0)
       have qi529 : (2 < l0.length) = True:=eq_true (by omega)
       (try rw [show ((2 : Int)).toNat = 2 from rfl] at hx529_0)
       replace hx529_0:=(HB.out.cell (World.block_lt_of_cell? w _ hx529_0)).trans hx529_0
       replace p529:=eq_true p529
       replace q529:=eq_true q529
       refine start_ (n:=13) (S:=fun w'=>w'.cell? ⟨gb527,0,none⟩ = some (.int .i64 t525) ∧ w'.cell? ⟨gb527,1,none⟩ = some (.int .i64 t526) ∧ w'.cell? ⟨ad524.block,ad524.off + 1,none⟩ = some (.int .u8 (rd l0 1)) ∧ w'.cell? ⟨ad524.block,ad524.off + 2,none⟩ = some (.int .u8 (rd l0 2))) (ds:=[]) #[Z,Z,Z,Z,Z,Z,Z,Z,Z,Z,Z,Z,Z] (by kernel_rfl) rfl rfl ⟨(blk_cell BK527.out 0).trans rfl,(blk_cell BK527.out 1).trans rfl,((HB.out.cell (World.block_lt_of_cell? w _ hw528_0)).trans hw528_0),((HB.out.cell (World.block_lt_of_cell? w _ hw529_0)).trans hw529_0)⟩ (fun hHeld=>?_);refine with_tabW impl_ReadHead.tab6 impl_ReadHead.bits6 (fun HT_ HW_=>?_)
       generalize w55.drew = w56 at BK523 BK527 HB hx528_0 hx529_0 hHeld ⊢
       refine pure_ (i:=0) (N:=some 18) (v:=?_) (a':=?_) #[Y,Z,Z,Z,Z,Z,Z,Z,Z,Z,Z,Z,Z] rfl rfl (any_of HT_.out (by kernel_rfl)) (fun _ _ _ h=>h) (Or.inl ⟨by rfl,?_⟩) ?_ ?_
       rotate_left
       ·intro w';go_simp;with_reducible rfl
       rotate_left
       ·simp only [Act.put,sa_,sb_,sc_,i64_w];rfl
       refine pure_ (i:=1) (N:=some 19) (v:=?_) (a':=?_) #[Y,Y,Z,Z,Z,Z,Z,Z,Z,Z,Z,Z,Z] rfl rfl (any_of HT_.out (by kernel_rfl)) (fun _ _ _ h=>h) (Or.inl ⟨by rfl,?_⟩) ?_ ?_
       rotate_left
       ·intro w';go_simp;with_reducible rfl
       rotate_left
       ·simp only [Act.put,sa_,sb_,sc_,i64_w];rfl
       refine pure_ (i:=4) (N:=some 22) (v:=?_) (a':=?_) #[Y,Y,Z,Z,Y,Z,Z,Z,Z,Z,Z,Z,Z] rfl rfl (any_of HT_.out (by kernel_rfl)) (fun _ _ _ h=>h) (Or.inl ⟨by rfl,?_⟩) ?_ ?_
       rotate_left
       ·intro w';go_simp;with_reducible rfl
       rotate_left
       ·simp only [Act.put,sa_,sb_,sc_,i64_w];rfl
       refine pure_ (i:=5) (N:=some 23) (v:=?_) (a':=?_) #[Y,Y,Z,Z,Y,Y,Z,Z,Z,Z,Z,Z,Z] rfl rfl (any_of HT_.out (by kernel_rfl)) (fun _ _ _ h=>h) (Or.inl ⟨by rfl,?_⟩) ?_ ?_
       rotate_left
       ·intro w';go_simp;with_reducible rfl
       rotate_left
       ·simp only [Act.put,sa_,sb_,sc_,i64_w];rfl
       refine pure_ (i:=8) (N:=some 26) (v:=?_) (a':=?_) #[Y,Y,Z,Z,Y,Y,Z,Z,Y,Z,Z,Z,Z] rfl rfl (any_of HT_.out (by kernel_rfl)) (fun _ _ _ h=>h) (Or.inl ⟨by rfl,?_⟩) ?_ ?_
       rotate_left
       ·intro w';go_simp;with_reducible rfl
       rotate_left
       ·simp only [Act.put,sa_,sb_,sc_,i64_w];rfl
       refine take_ (i:=2) (N:=some 20) (v:=?_) (a':=?_) #[Y,Y,Y,Z,Y,Y,Z,Z,Y,Z,Z,Z,Z] rfl rfl (take_ofW HT_.out HW_.out (by kernel_rfl)) (fun _ _ _ h=>h) (Or.inl ⟨by rfl,?_⟩) hHeld ?_ ?_
       rotate_left
       ·rintro w' ⟨s0,s1,s2,s3⟩
        go_simp
        with_reducible rfl
       rotate_left
       ·simp only [Act.put,sa_,sb_,sc_,i64_w];rfl
       refine pure_ (i:=3) (N:=some 21) (v:=?_) (a':=?_) #[Y,Y,Y,Y,Y,Y,Z,Z,Y,Z,Z,Z,Z] rfl rfl (any_of HT_.out (by kernel_rfl)) (fun _ _ _ h=>h) (Or.inl ⟨by rfl,?_⟩) ?_ ?_
       rotate_left
       ·intro w';go_simp;with_reducible rfl
       rotate_left
       ·simp only [Act.put,sa_,sb_,sc_,i64_w];rfl
       refine take_ (i:=6) (N:=some 24) (v:=?_) (a':=?_) #[Y,Y,Y,Y,Y,Y,Y,Z,Y,Z,Z,Z,Z] rfl rfl (take_ofW HT_.out HW_.out (by kernel_rfl)) (fun _ _ _ h=>h) (Or.inl ⟨by rfl,?_⟩) hHeld ?_ ?_
       rotate_left
       ·rintro w' ⟨s0,s1,s2,s3⟩
        go_simp
        with_reducible rfl
       rotate_left
       ·simp only [Act.put,sa_,sb_,sc_,i64_w];rfl
       refine pure_ (i:=7) (N:=some 25) (v:=?_) (a':=?_) #[Y,Y,Y,Y,Y,Y,Y,Y,Y,Z,Z,Z,Z] rfl rfl (any_of HT_.out (by kernel_rfl)) (fun _ _ _ h=>h) (Or.inl ⟨by rfl,?_⟩) ?_ ?_
       rotate_left
       ·intro w';go_simp;with_reducible rfl
       rotate_left
       ·simp only [Act.put,sa_,sb_,sc_,i64_w];rfl
       refine take_ (i:=9) (N:=some 27) (v:=?_) (a':=?_) #[Y,Y,Y,Y,Y,Y,Y,Y,Y,Y,Z,Z,Z] rfl rfl (take_ofW HT_.out HW_.out (by kernel_rfl)) (fun _ _ _ h=>h) (Or.inl ⟨by rfl,?_⟩) hHeld ?_ ?_
       rotate_left
       ·rintro w' ⟨s0,s1,s2,s3⟩
        go_simp
        with_reducible rfl
       rotate_left
       ·simp only [Act.put,sa_,sb_,sc_,i64_w];rfl
       refine pure_ (i:=10) (N:=some 28) (v:=?_) (a':=?_) #[Y,Y,Y,Y,Y,Y,Y,Y,Y,Y,Y,Z,Z] rfl rfl (any_of HT_.out (by kernel_rfl)) (fun _ _ _ h=>h) (Or.inl ⟨by rfl,?_⟩) ?_ ?_
       rotate_left
       ·intro w';go_simp;with_reducible rfl
       rotate_left
       ·simp only [Act.put,sa_,sb_,sc_,i64_w];rfl
       refine one_ (i:=11) (N:=some 4) #[Y,Y,Y,Y,Y,Y,Y,Y,Y,Y,Y,Y,Z] rfl rfl (one_of HT_.out (by kernel_rfl)) (by decide) (fun K hK=>?_)
       refine box_step ?hg (N:=4) ?hd (cs:=#[.int .i64 0,.int .i64 0,.int .i64 0,.slice none 0 0]) (t:=45) ?hr ?_;(case hd=>rfl);(case hg=>rfl);(case hr=>first|(go_simp;done)|(go_simp;rfl))
       intro gb530 hg w57 hbox hb
       have n0_:=Aside0.mk (blk_below (g:=gb523) (o:=.cells #[.int .i64 0,.int .i64 0,.int .i64 0,.int .i64 0,.slice none 0 0] 47 (0,0)) (by (with_reducible repeat (first|refine blk_drewN ?_ _|refine blk_drew ?_|refine blk_alloc ?_ _));exact BK523.out) hb)
       have n1_:=Aside0.mk (blk_below (g:=gb527) (o:=.cells #[.int .i64 t525,.int .i64 t526] 32 (0,0)) (by (with_reducible repeat (first|refine blk_drewN ?_ _|refine blk_drew ?_|refine blk_alloc ?_ _));exact BK527.out) hb)
       have n2_:=Aside0.mk (below_step (by repeat(first|(with_reducible first|exact HB.out|apply below_alloc|apply pw_below_drewN|apply below_drew1|refine below_set ?_ GE523.out|refine below_set ?_ GE527.out)|exact HB.out)) hb)
       have n3_:=Aside0.mk (hbox)
       have n4_:=Aside0.mk ((by rw [hg];exact (below_size (by repeat(first|(with_reducible first|exact HB.out|apply below_alloc|apply pw_below_drewN|apply below_drew1|refine below_set ?_ GE523.out|refine below_set ?_ GE527.out)|exact HB.out))) : w.heap.size ≤ gb530))
       have n5_:=Aside0.mk ((by rw [hg];exact (below_size (by repeat(first|(with_reducible first|exact HB.out|apply below_alloc|apply pw_below_drewN|apply below_drew1|refine below_set ?_ GE523.out|refine below_set ?_ GE527.out)|exact HB.out))) : w.heap.size ≤ gb530))
       have n6_:=Aside0.mk ((by rw [hg];exact Nat.ne_of_lt (blk_lt (g:=gb523) (o:=.cells #[.int .i64 0,.int .i64 0,.int .i64 0,.int .i64 0,.slice none 0 0] 47 (0,0)) (by (with_reducible repeat (first|refine blk_drewN ?_ _|refine blk_drew ?_|refine blk_alloc ?_ _));exact BK523.out)) : gb523 ≠ gb530))
       have n7_:=Aside0.mk ((by rw [hg];exact Nat.ne_of_gt (blk_lt (g:=gb523) (o:=.cells #[.int .i64 0,.int .i64 0,.int .i64 0,.int .i64 0,.slice none 0 0] 47 (0,0)) (by (with_reducible repeat (first|refine blk_drewN ?_ _|refine blk_drew ?_|refine blk_alloc ?_ _));exact BK523.out)) : gb530 ≠ gb523))
       have n8_:=Aside0.mk ((by rw [hg];exact Nat.ne_of_lt (blk_lt (g:=gb527) (o:=.cells #[.int .i64 t525,.int .i64 t526] 32 (0,0)) (by (with_reducible repeat (first|refine blk_drewN ?_ _|refine blk_drew ?_|refine blk_alloc ?_ _));exact BK527.out)) : gb527 ≠ gb530))
       have n9_:=Aside0.mk ((by rw [hg];exact Nat.ne_of_gt (blk_lt (g:=gb527) (o:=.cells #[.int .i64 t525,.int .i64 t526] 32 (0,0)) (by (with_reducible repeat (first|refine blk_drewN ?_ _|refine blk_drew ?_|refine blk_alloc ?_ _));exact BK527.out)) : gb530 ≠ gb527))
       clear BK523
       clear BK527
       clear HB
       have BK523:=n0_
       have BK527:=n1_
       have HB:=n2_
       have BK530:=n3_
       have GW530:=n4_
       have GE530:=n5_
       have NB523_530:=n6_
       have NB530_523:=n7_
       have NB527_530:=n8_
       have NB530_527:=n9_
       clear n0_ n1_ n2_ n3_ n4_ n5_ n6_ n7_ n8_ n9_
       clear hb hbox hg
       refine hK.out _ _ ⟨(blk_cell BK527.out 0).trans rfl,(blk_cell BK527.out 1).trans rfl,((HB.out.cell (World.block_lt_of_cell? w _ hw528_0)).trans hw528_0),((HB.out.cell (World.block_lt_of_cell? w _ hw529_0)).trans hw529_0)⟩ (fun hHeld=>?_)
       clear hK K
       refine norm_ (a':=?_) ?_ ?_
       rotate_left
       ·show Act.put _ (some 4) _ = _
        simp only [Act.put,sa_,sb_,sc_,i64_w]
        rfl
       refine one_ (i:=12) (N:=none) #[Y,Y,Y,Y,Y,Y,Y,Y,Y,Y,Y,Y,Y] rfl rfl (one_of HT_.out (by kernel_rfl)) (by decide) (fun K hK=>?_)
       have hs58 : w57.cell? ⟨gb530,0,none⟩ = some (.int .i64 0):=(blk_cell BK530.out 0).trans rfl
       have hfs58:=blk_frozen BK530.out 0
       have hns58_0:=NB523_530.out
       have hns58_1:=NB527_530.out
       have hms58_0:=NB530_523.out
       have hms58_1:=NB530_527.out
       have hs59 : w57.cell? ⟨gb530,1,none⟩ = some (.int .i64 0):=(blk_cell BK530.out 1).trans rfl
       have hfs59:=blk_frozen BK530.out 1
       have hns59_0:=NB523_530.out
       have hns59_1:=NB527_530.out
       have hms59_0:=NB530_523.out
       have hms59_1:=NB530_527.out
       have hs60 : w57.cell? ⟨gb530,2,none⟩ = some (.int .i64 0):=(blk_cell BK530.out 2).trans rfl
       have hfs60:=blk_frozen BK530.out 2
       have hns60_0:=NB523_530.out
       have hns60_1:=NB527_530.out
       have hms60_0:=NB530_523.out
       have hms60_1:=NB530_527.out
       have hs61 : w57.cell? ⟨gb530,3,none⟩ = some (.slice none 0 0):=(blk_cell BK530.out 3).trans rfl
       have hfs61:=blk_frozen BK530.out 3
       have hns61_0:=NB523_530.out
       have hns61_1:=NB527_530.out
       have hms61_0:=NB530_523.out
       have hms61_1:=NB530_527.out
       refine skip_ (w1:=?_) (by rfl) rfl ?_ ?_
       rotate_left
       ·go_simp
        rfl
       refine hK.out _ _ ⟨((cell_far (p:=⟨gb530,_,none⟩) NB527_530.out _).trans (((cell_far (p:=⟨gb530,_,none⟩) NB527_530.out _).trans (((cell_far (p:=⟨gb530,_,none⟩) NB527_530.out _).trans (((cell_far (p:=⟨gb530,_,none⟩) NB527_530.out _).trans (hHeld.1)))))))),((cell_far (p:=⟨gb530,_,none⟩) NB527_530.out _).trans (((cell_far (p:=⟨gb530,_,none⟩) NB527_530.out _).trans (((cell_far (p:=⟨gb530,_,none⟩) NB527_530.out _).trans (((cell_far (p:=⟨gb530,_,none⟩) NB527_530.out _).trans (hHeld.2.1)))))))),((cell_far (p:=⟨gb530,_,none⟩) (by first|exact Nat.ne_of_lt (Nat.lt_of_lt_of_le (by have:=World.block_lt_of_cell? _ _ hw528_0;first|rwa [add_block] at this|exact this) GW530.out)|(rw [add_block];exact Nat.ne_of_lt (Nat.lt_of_lt_of_le (by have:=World.block_lt_of_cell? _ _ hw528_0;first|rwa [add_block] at this|exact this) GW530.out))|(show (Addr.add _ _).block ≠ _;rw [add_block];exact Nat.ne_of_lt (Nat.lt_of_lt_of_le (by have:=World.block_lt_of_cell? _ _ hw528_0;first|rwa [add_block] at this|exact this) GW530.out))|(dsimp only;exact Nat.ne_of_lt (Nat.lt_of_lt_of_le (by have:=World.block_lt_of_cell? _ _ hw528_0;first|rwa [add_block] at this|exact this) GW530.out))) _).trans (((cell_far (p:=⟨gb530,_,none⟩) (by first|exact Nat.ne_of_lt (Nat.lt_of_lt_of_le (by have:=World.block_lt_of_cell? _ _ hw528_0;first|rwa [add_block] at this|exact this) GW530.out)|(rw [add_block];exact Nat.ne_of_lt (Nat.lt_of_lt_of_le (by have:=World.block_lt_of_cell? _ _ hw528_0;first|rwa [add_block] at this|exact this) GW530.out))|(show (Addr.add _ _).block ≠ _;rw [add_block];exact Nat.ne_of_lt (Nat.lt_of_lt_of_le (by have:=World.block_lt_of_cell? _ _ hw528_0;first|rwa [add_block] at this|exact this) GW530.out))|(dsimp only;exact Nat.ne_of_lt (Nat.lt_of_lt_of_le (by have:=World.block_lt_of_cell? _ _ hw528_0;first|rwa [add_block] at this|exact this) GW530.out))) _).trans (((cell_far (p:=⟨gb530,_,none⟩) (by first|exact Nat.ne_of_lt (Nat.lt_of_lt_of_le (by have:=World.block_lt_of_cell? _ _ hw528_0;first|rwa [add_block] at this|exact this) GW530.out)|(rw [add_block];exact Nat.ne_of_lt (Nat.lt_of_lt_of_le (by have:=World.block_lt_of_cell? _ _ hw528_0;first|rwa [add_block] at this|exact this) GW530.out))|(show (Addr.add _ _).block ≠ _;rw [add_block];exact Nat.ne_of_lt (Nat.lt_of_lt_of_le (by have:=World.block_lt_of_cell? _ _ hw528_0;first|rwa [add_block] at this|exact this) GW530.out))|(dsimp only;exact Nat.ne_of_lt (Nat.lt_of_lt_of_le (by have:=World.block_lt_of_cell? _ _ hw528_0;first|rwa [add_block] at this|exact this) GW530.out))) _).trans (((cell_far (p:=⟨gb530,_,none⟩) (by first|exact Nat.ne_of_lt (Nat.lt_of_lt_of_le (by have:=World.block_lt_of_cell? _ _ hw528_0;first|rwa [add_block] at this|exact this) GW530.out)|(rw [add_block];exact Nat.ne_of_lt (Nat.lt_of_lt_of_le (by have:=World.block_lt_of_cell? _ _ hw528_0;first|rwa [add_block] at this|exact this) GW530.out))|(show (Addr.add _ _).block ≠ _;rw [add_block];exact Nat.ne_of_lt (Nat.lt_of_lt_of_le (by have:=World.block_lt_of_cell? _ _ hw528_0;first|rwa [add_block] at this|exact this) GW530.out))|(dsimp only;exact Nat.ne_of_lt (Nat.lt_of_lt_of_le (by have:=World.block_lt_of_cell? _ _ hw528_0;first|rwa [add_block] at this|exact this) GW530.out))) _).trans (hHeld.2.2.1)))))))),((cell_far (p:=⟨gb530,_,none⟩) (by first|exact Nat.ne_of_lt (Nat.lt_of_lt_of_le (by have:=World.block_lt_of_cell? _ _ hw529_0;first|rwa [add_block] at this|exact this) GW530.out)|(rw [add_block];exact Nat.ne_of_lt (Nat.lt_of_lt_of_le (by have:=World.block_lt_of_cell? _ _ hw529_0;first|rwa [add_block] at this|exact this) GW530.out))|(show (Addr.add _ _).block ≠ _;rw [add_block];exact Nat.ne_of_lt (Nat.lt_of_lt_of_le (by have:=World.block_lt_of_cell? _ _ hw529_0;first|rwa [add_block] at this|exact this) GW530.out))|(dsimp only;exact Nat.ne_of_lt (Nat.lt_of_lt_of_le (by have:=World.block_lt_of_cell? _ _ hw529_0;first|rwa [add_block] at this|exact this) GW530.out))) _).trans (((cell_far (p:=⟨gb530,_,none⟩) (by first|exact Nat.ne_of_lt (Nat.lt_of_lt_of_le (by have:=World.block_lt_of_cell? _ _ hw529_0;first|rwa [add_block] at this|exact this) GW530.out)|(rw [add_block];exact Nat.ne_of_lt (Nat.lt_of_lt_of_le (by have:=World.block_lt_of_cell? _ _ hw529_0;first|rwa [add_block] at this|exact this) GW530.out))|(show (Addr.add _ _).block ≠ _;rw [add_block];exact Nat.ne_of_lt (Nat.lt_of_lt_of_le (by have:=World.block_lt_of_cell? _ _ hw529_0;first|rwa [add_block] at this|exact this) GW530.out))|(dsimp only;exact Nat.ne_of_lt (Nat.lt_of_lt_of_le (by have:=World.block_lt_of_cell? _ _ hw529_0;first|rwa [add_block] at this|exact this) GW530.out))) _).trans (((cell_far (p:=⟨gb530,_,none⟩) (by first|exact Nat.ne_of_lt (Nat.lt_of_lt_of_le (by have:=World.block_lt_of_cell? _ _ hw529_0;first|rwa [add_block] at this|exact this) GW530.out)|(rw [add_block];exact Nat.ne_of_lt (Nat.lt_of_lt_of_le (by have:=World.block_lt_of_cell? _ _ hw529_0;first|rwa [add_block] at this|exact this) GW530.out))|(show (Addr.add _ _).block ≠ _;rw [add_block];exact Nat.ne_of_lt (Nat.lt_of_lt_of_le (by have:=World.block_lt_of_cell? _ _ hw529_0;first|rwa [add_block] at this|exact this) GW530.out))|(dsimp only;exact Nat.ne_of_lt (Nat.lt_of_lt_of_le (by have:=World.block_lt_of_cell? _ _ hw529_0;first|rwa [add_block] at this|exact this) GW530.out))) _).trans (((cell_far (p:=⟨gb530,_,none⟩) (by first|exact Nat.ne_of_lt (Nat.lt_of_lt_of_le (by have:=World.block_lt_of_cell? _ _ hw529_0;first|rwa [add_block] at this|exact this) GW530.out)|(rw [add_block];exact Nat.ne_of_lt (Nat.lt_of_lt_of_le (by have:=World.block_lt_of_cell? _ _ hw529_0;first|rwa [add_block] at this|exact this) GW530.out))|(show (Addr.add _ _).block ≠ _;rw [add_block];exact Nat.ne_of_lt (Nat.lt_of_lt_of_le (by have:=World.block_lt_of_cell? _ _ hw529_0;first|rwa [add_block] at this|exact this) GW530.out))|(dsimp only;exact Nat.ne_of_lt (Nat.lt_of_lt_of_le (by have:=World.block_lt_of_cell? _ _ hw529_0;first|rwa [add_block] at this|exact this) GW530.out))) _).trans (hHeld.2.2.2))))))))⟩ (fun hHeld=>?_)
       clear hK K
       refine done_ (done_of HT_.out (by kernel_rfl)) ?_
       have hnb62:=NB527_530.out
       have hnc62:=NB530_527.out
       have hcz63_0 : w57.cell? ⟨gb527,0,none⟩ = some (.int .i64 t525):=(blk_cell BK527.out 0).trans rfl
       have hcz63_1 : w57.cell? ⟨gb527,1,none⟩ = some (.int .i64 t526):=(blk_cell BK527.out 1).trans rfl
       have hfz63_0:=blk_frozen BK527.out 0
       have hfz63_1:=blk_frozen BK527.out 1
       have hnb64:=NB523_530.out
       have hnc64:=NB530_523.out
       have hcz65_0 : w57.cell? ⟨gb523,0,none⟩ = some (.int .i64 0):=(blk_cell BK523.out 0).trans rfl
       have hcz65_1 : w57.cell? ⟨gb523,1,none⟩ = some (.int .i64 0):=(blk_cell BK523.out 1).trans rfl
       have hcz65_2 : w57.cell? ⟨gb523,2,none⟩ = some (.int .i64 0):=(blk_cell BK523.out 2).trans rfl
       have hcz65_3 : w57.cell? ⟨gb523,3,none⟩ = some (.int .i64 0):=(blk_cell BK523.out 3).trans rfl
       have hcz65_4 : w57.cell? ⟨gb523,4,none⟩ = some (.slice none 0 0):=(blk_cell BK523.out 4).trans rfl
       have hfz65_0:=blk_frozen BK523.out 0
       have hfz65_1:=blk_frozen BK523.out 1
       have hfz65_2:=blk_frozen BK523.out 2
       have hfz65_3:=blk_frozen BK523.out 3
       have hfz65_4:=blk_frozen BK523.out 4
       try go_wp2
       refine bodyPost_ret (results_cell_row rfl _ _ gb523 47 #[.int .i64 3,.int .i64 0,.int .i64 0,.int .i64 0,.slice none 0 0] (0,0) _ rfl (by (with_reducible repeat (first|refine blk_drewN ?_ _|refine blk_drew ?_|refine blk_alloc ?_ _));refine blk_put (cs:=#[.int .i64 3,.int .i64 0,.int .i64 0,.int .i64 0,.slice none 0 0]) ?_ 4 _ rfl;(with_reducible repeat (first|refine blk_drewN ?_ _|refine blk_drew ?_|refine blk_alloc ?_ _));refine blk_put (cs:=#[.int .i64 3,.int .i64 0,.int .i64 0,.int .i64 0,.slice none 0 0]) ?_ 3 _ rfl;(with_reducible repeat (first|refine blk_drewN ?_ _|refine blk_drew ?_|refine blk_alloc ?_ _));refine blk_put (cs:=#[.int .i64 3,.int .i64 0,.int .i64 0,.int .i64 0,.slice none 0 0]) ?_ 2 _ rfl;(with_reducible repeat (first|refine blk_drewN ?_ _|refine blk_drew ?_|refine blk_alloc ?_ _));refine blk_put (cs:=#[.int .i64 3,.int .i64 0,.int .i64 0,.int .i64 0,.slice none 0 0]) ?_ 1 _ rfl;(with_reducible repeat (first|refine blk_drewN ?_ _|refine blk_drew ?_|refine blk_alloc ?_ _));refine blk_put (cs:=#[.int .i64 0,.int .i64 0,.int .i64 0,.int .i64 0,.slice none 0 0]) ?_ 0 _ rfl;(with_reducible repeat (first|refine blk_drewN ?_ _|refine blk_drew ?_|refine blk_alloc ?_ _));refine blk_far ?_ NB523_530.out _;(with_reducible repeat (first|refine blk_drewN ?_ _|refine blk_drew ?_|refine blk_alloc ?_ _));refine blk_far ?_ NB523_530.out _;(with_reducible repeat (first|refine blk_drewN ?_ _|refine blk_drew ?_|refine blk_alloc ?_ _));refine blk_far ?_ NB523_530.out _;(with_reducible repeat (first|refine blk_drewN ?_ _|refine blk_drew ?_|refine blk_alloc ?_ _));refine blk_far ?_ NB523_530.out _;(with_reducible repeat (first|refine blk_drewN ?_ _|refine blk_drew ?_|refine blk_alloc ?_ _));exact BK523.out) Try.underlying47 rfl (by kernel_rfl)) rfl ?_
       exact⟨_,by first|rfl|(simp [errW_none,errW_some] <;> rfl)|(simp [*,errW_none,errW_some] <;> rfl),by first|exact Kd.R_nil _ _ _ _ _|exact Kd.N_nil _ _ _ _ _|exact Kd.V_nil _ _ _ _ _|exact Kd.Q_nil _ _ _ _ _|exact Kd.S_nil _ _ _ _ _,by repeat (first|(with_reducible first|exact HB.out|apply below_alloc|apply pw_below_drewN|apply below_drew1|refine below_set ?_ GE523.out|refine below_set ?_ GE527.out|refine below_set ?_ GE530.out)|exact HB.out)⟩
     ·rw [if_neg c9] at H
      exact absurd H (by simp)
    ·rw [if_neg c8] at H
     exact absurd H (by simp)
   ·rw [if_neg c6] at H
    have c6b0 : ((rd l0 0) == 1) = false:=beq_eq_false_iff_ne.mpr c6
    have c6b1 : ((rd l0 0) != 1) = true:=bne_iff_ne.mpr c6
    simp only [Option.some.injEq,Prod.mk.injEq] at H
    obtain⟨rfl,rfl,rfl,rfl,rfl⟩:=H
    go_enter Try.func34,Try.ntmps34
    go_wp2_with (first|((with_reducible refine gate_dst (N:=2) rfl ?_);refine box_event ?hg (N:=2) ?hd (cs:=#[.int .i64 0,.int .i64 0,.int .i64 0,.int .i64 0,.slice none 0 0]) (t:=47) ?hr ?_;(case hd=>rfl);(case hg=>rfl);(case hr=>first|(go_simp;done)|(go_simp;rfl));intro gb523 hg w66 hbox hb;have n0_:=Aside0.mk (below_step (by repeat(first|(with_reducible first|exact HB.out|apply below_alloc|apply pw_below_drewN|apply below_drew1)|exact HB.out)) hb);have n1_:=Aside0.mk (hbox);have n2_:=Aside0.mk ((by rw [hg];exact (below_size (by repeat(first|(with_reducible first|exact HB.out|apply below_alloc|apply pw_below_drewN|apply below_drew1)|exact HB.out))) : w.heap.size ≤ gb523));have n3_:=Aside0.mk ((by rw [hg];exact (below_size (by repeat(first|(with_reducible first|exact HB.out|apply below_alloc|apply pw_below_drewN|apply below_drew1)|exact HB.out))) : w.heap.size ≤ gb523));clear HB;have HB:=n0_;have BK523:=n1_;have GW523:=n2_;have GE523:=n3_;clear n0_ n1_ n2_ n3_;clear hb hbox hg;have p524 : 0 ≤ (0 : Int):=(by omega);have q524 : 0 < (l0.length : Int):=of_decide_eq_true (by first|(with_reducible assumption)|assumption);obtain⟨ad524,e524,hx524_0⟩:=Kd.at_int HR0.out 0 p524 q524;cases e524;have qi524 : (0 < l0.length) = True:=eq_true (by omega);(try rw [show ((0 : Int)).toNat = 0 from rfl] at hx524_0);(try rw [Addr.add_zero'] at hx524_0);replace hx524_0:=(HB.out.cell (World.block_lt_of_cell? w _ hx524_0)).trans hx524_0;replace p524:=eq_true p524;replace q524:=eq_true q524;have hcz67_0 : w66.cell? ⟨gb523,0,none⟩ = some (.int .i64 0):=(blk_cell BK523.out 0).trans rfl;have hcz67_1 : w66.cell? ⟨gb523,1,none⟩ = some (.int .i64 0):=(blk_cell BK523.out 1).trans rfl;have hcz67_2 : w66.cell? ⟨gb523,2,none⟩ = some (.int .i64 0):=(blk_cell BK523.out 2).trans rfl;have hcz67_3 : w66.cell? ⟨gb523,3,none⟩ = some (.int .i64 0):=(blk_cell BK523.out 3).trans rfl;have hcz67_4 : w66.cell? ⟨gb523,4,none⟩ = some (.slice none 0 0):=(blk_cell BK523.out 4).trans rfl;have hfz67_0:=blk_frozen BK523.out 0;have hfz67_1:=blk_frozen BK523.out 1;have hfz67_2:=blk_frozen BK523.out 2;have hfz67_3:=blk_frozen BK523.out 3;have hfz67_4:=blk_frozen BK523.out 4))
    refine bodyPost_ret (results_cell_row rfl _ _ gb523 47 #[.int .i64 1,.int .i64 0,.int .i64 0,.int .i64 0,.slice none 0 0] (0,0) _ rfl (by (with_reducible repeat (first|refine blk_drewN ?_ _|refine blk_drew ?_|refine blk_alloc ?_ _));refine blk_put (cs:=#[.int .i64 1,.int .i64 0,.int .i64 0,.int .i64 0,.slice none 0 0]) ?_ 4 _ rfl;(with_reducible repeat (first|refine blk_drewN ?_ _|refine blk_drew ?_|refine blk_alloc ?_ _));refine blk_put (cs:=#[.int .i64 1,.int .i64 0,.int .i64 0,.int .i64 0,.slice none 0 0]) ?_ 3 _ rfl;(with_reducible repeat (first|refine blk_drewN ?_ _|refine blk_drew ?_|refine blk_alloc ?_ _));refine blk_put (cs:=#[.int .i64 1,.int .i64 0,.int .i64 0,.int .i64 0,.slice none 0 0]) ?_ 2 _ rfl;(with_reducible repeat (first|refine blk_drewN ?_ _|refine blk_drew ?_|refine blk_alloc ?_ _));refine blk_put (cs:=#[.int .i64 1,.int .i64 0,.int .i64 0,.int .i64 0,.slice none 0 0]) ?_ 1 _ rfl;(with_reducible repeat (first|refine blk_drewN ?_ _|refine blk_drew ?_|refine blk_alloc ?_ _));refine blk_put (cs:=#[.int .i64 0,.int .i64 0,.int .i64 0,.int .i64 0,.slice none 0 0]) ?_ 0 _ rfl;(with_reducible repeat (first|refine blk_drewN ?_ _|refine blk_drew ?_|refine blk_alloc ?_ _));exact BK523.out) Try.underlying47 rfl (by kernel_rfl)) rfl ?_
    exact⟨_,by first|rfl|(simp [errW_none,errW_some] <;> rfl)|(simp [*,errW_none,errW_some] <;> rfl),by first|exact Kd.R_nil _ _ _ _ _|exact Kd.N_nil _ _ _ _ _|exact Kd.V_nil _ _ _ _ _|exact Kd.Q_nil _ _ _ _ _|exact Kd.S_nil _ _ _ _ _,by repeat (first|(with_reducible first|exact HB.out|apply below_alloc|apply pw_below_drewN|apply below_drew1|refine below_set ?_ GE523.out)|exact HB.out)⟩
  ·rw [if_neg c5] at H
   exact absurd H (by simp)

end Go.Proofs.Ytofickldnpndbaa.All
