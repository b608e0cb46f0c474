-- Laid by wip/myprint.py of this repo over the kit's print (the functions' texts by the kit's program, some by hand). Not trusted: Lean checks it.
import Derived.Test.YtofickldnpndbaaAllx0
import Derived.Test.YtofickldnpndbaaAllx20
import Derived.Test.YtofickldnpndbaaAllx6
import Derived.Test.YtofickldnpndbaaAllx111
import Derived.Test.YtofickldnpndbaaAllx519
import Derived.Test.YtofickldnpndbaaAllx113
import Derived.Test.YtofickldnpndbaaAllx150
namespace Go.Proofs.Ytofickldnpndbaa.All
open Go.RowKit Go.Proofs.YtofickldnpndbaaW.PrintWords Go.Proofs.YtofickldnpndbaaW.PrintLast Go.Proofs.YtofickldnpndbaaW.PrintMore
attribute [local go_sem] max2_int min2_int max_two min_two max_three min_three max_four min_four
set_option linter.unusedVariables false
set_option linter.unusedSimpArgs false

open Bool renaming true → Y, false → Z
open List renaming setIfInBounds_toArray → sa_, set_cons_zero → sb_, set_cons_succ → sc_
open Go.Proofs.YtofickldnpndbaaW.PrintWords.Kd renaming R_alloc → az5, R_drewN → bz5, R_drew → cz5, R_below → dz5, R_far → ez5, R_base → fz5, R_mono → gz5, R_types → hz5, R_reads' → iz5, R_elder' → jz5, R_new' → kz5
open Go.Proofs.YtofickldnpndbaaW.PrintWords renaming pw_below_drewN → ay5, below_alloc → by5, below_drew1 → cy5, below_set → dy5, blk_drewN → ey5, blk_alloc → fy5, blk_drew → gy5, blk_below → hy5
open Aside0 renaming mk → zz5
attribute [local go_sem] fldNonces27_0 fldNonces27_1
attribute [local go_sem] fldNoncesL
set_option maxHeartbeats 8000000 in
set_option maxRecDepth 100000 in
theorem laws_FnNonces.calls (k : Nat) (A0 : Option Addr) (c0 : Nat) (l0 : List Int) (r : Bool) (w : World) (hr0 : Kd.C (Kd.int .u8) w A0 l0.length l0) (hc0 : l0.length ≤ c0) (h : laws_FnNonces.f k l0 = some r) :
  Calls Try.prog 5 #[.slice A0 l0.length c0] w fun e w'=>e = .returned (.bool r) ∧ Below w.heap.size w w':=by
 have hu27:=Try.underlying27
 have HR0:=zz5 hr0
 have HC0:=zz5 hc0
 clear hr0 hc0
 have HB:=zz5 (Below.refl w.heap.size w)
 have H : ((laws_lwBig.f l0).bind fun t532=>(if t532 = true then (some true) else ((spec_DrawNonceOf.f l0).bind fun bt533=>((impl_NonceOf.f k bt533.1 bt533.2).bind fun bt535=>((spec_DrawHeadOf.f l0).bind fun bt540=>((impl_HeadOf.f k bt540.1 bt540.2.1 bt540.2.2).bind fun bt543=>((spec_NonceOf.f k bt533.1 bt533.2).bind fun bt548=>(if bt535.1 = bt548.1 then ((spec_HeadOf.f k bt540.1 bt540.2.1 bt540.2.2).bind fun bt552=>(if bt543.1 = bt552.1 then ((spec_HeadOf.f k bt540.1 bt540.2.1 bt540.2.2).bind fun bt556=>((laws_lwSame.f bt543.2 bt556.2).bind fun t560=>(laws_FnNonces.j0 k bt533.1 bt533.2 (!t560) bt535.1 bt535.2 bt543.1 bt543.2))) else (laws_FnNonces.j0 k bt533.1 bt533.2 true bt535.1 bt535.2 bt543.1 bt543.2))) else (laws_FnNonces.j0 k bt533.1 bt533.2 true bt535.1 bt535.2 bt543.1 bt543.2))))))))) = some r:=h
 clear h
 replace H:=Option.bind_eq_some_iff.mp H
 obtain⟨t532,A20,H⟩:=H
 replace H : (if t532 = true then (some true) else ((spec_DrawNonceOf.f l0).bind fun bt533=>((impl_NonceOf.f k bt533.1 bt533.2).bind fun bt535=>((spec_DrawHeadOf.f l0).bind fun bt540=>((impl_HeadOf.f k bt540.1 bt540.2.1 bt540.2.2).bind fun bt543=>((spec_NonceOf.f k bt533.1 bt533.2).bind fun bt548=>(if bt535.1 = bt548.1 then ((spec_HeadOf.f k bt540.1 bt540.2.1 bt540.2.2).bind fun bt552=>(if bt543.1 = bt552.1 then ((spec_HeadOf.f k bt540.1 bt540.2.1 bt540.2.2).bind fun bt556=>((laws_lwSame.f bt543.2 bt556.2).bind fun t560=>(laws_FnNonces.j0 k bt533.1 bt533.2 (!t560) bt535.1 bt535.2 bt543.1 bt543.2))) else (laws_FnNonces.j0 k bt533.1 bt533.2 true bt535.1 bt535.2 bt543.1 bt543.2))) else (laws_FnNonces.j0 k bt533.1 bt533.2 true bt535.1 bt535.2 bt543.1 bt543.2)))))))) = some r:=H
 have A2:=zz5 A20
 clear A20
 by_cases c3 : t532 = true
 ·subst c3
  have H1 : (some true) = some r:=by rw [if_pos rfl] at H;exact H
  clear H
  have H:=H1
  clear H1
  obtain rfl:=Option.some.inj H
  go_enter Try.func5,Try.ntmps5
  go_wp2_with (first|((with_reducible refine gate_callee (f:=7) rfl ?_);refine goesL_ (some 13) rfl rfl Try.func7 (by kernel_rfl) rfl #[.slice A0 l0.length c0] rfl (by (try simp only [List.map_toArray,List.map_cons,List.map_nil]);first|done|rfl|(simp only [List.length_drop,List.length_take];rfl)) ?_;(with_reducible refine (laws_lwBig.calls _ _ l0 true _ ?side1 ?side2 A2.out).mono ?_);(case side1=>repeat (first|exact HR0.out|(with_reducible refine Kd.C_alloc ?_ _)|(with_reducible refine Kd.C_drewN ?_ _)|(with_reducible refine Kd.C_drew ?_)));(case side2=>exact HC0.out);rintro e w' ⟨rfl,⟨nd,rfl⟩⟩;refine ⟨_,rfl,?_⟩))
  go_ret
  exact⟨by first|rfl|(simp [errW_none,errW_some] <;> rfl)|(simp [*,errW_none,errW_some] <;> rfl),by repeat (first|(with_reducible first|exact HB.out|apply by5|apply ay5|apply cy5)|exact HB.out)⟩
 ·replace c3:=Bool.eq_false_iff.mpr c3
  subst c3
  have H1 : ((spec_DrawNonceOf.f l0).bind fun bt533=>((impl_NonceOf.f k bt533.1 bt533.2).bind fun bt535=>((spec_DrawHeadOf.f l0).bind fun bt540=>((impl_HeadOf.f k bt540.1 bt540.2.1 bt540.2.2).bind fun bt543=>((spec_NonceOf.f k bt533.1 bt533.2).bind fun bt548=>(if bt535.1 = bt548.1 then ((spec_HeadOf.f k bt540.1 bt540.2.1 bt540.2.2).bind fun bt552=>(if bt543.1 = bt552.1 then ((spec_HeadOf.f k bt540.1 bt540.2.1 bt540.2.2).bind fun bt556=>((laws_lwSame.f bt543.2 bt556.2).bind fun t560=>(laws_FnNonces.j0 k bt533.1 bt533.2 (!t560) bt535.1 bt535.2 bt543.1 bt543.2))) else (laws_FnNonces.j0 k bt533.1 bt533.2 true bt535.1 bt535.2 bt543.1 bt543.2))) else (laws_FnNonces.j0 k bt533.1 bt533.2 true bt535.1 bt535.2 bt543.1 bt543.2))))))) = some r:=by rw [if_neg (show ¬ (false = true) by decide)] at H;exact H
  clear H
  have H:=H1
  clear H1
  replace H:=Option.bind_eq_some_iff.mp H
  obtain⟨⟨t533,t534⟩,A40,H⟩:=H
  replace H : ((impl_NonceOf.f k t533 t534).bind fun bt535=>((spec_DrawHeadOf.f l0).bind fun bt540=>((impl_HeadOf.f k bt540.1 bt540.2.1 bt540.2.2).bind fun bt543=>((spec_NonceOf.f k t533 t534).bind fun bt548=>(if bt535.1 = bt548.1 then ((spec_HeadOf.f k bt540.1 bt540.2.1 bt540.2.2).bind fun bt552=>(if bt543.1 = bt552.1 then ((spec_HeadOf.f k bt540.1 bt540.2.1 bt540.2.2).bind fun bt556=>((laws_lwSame.f bt543.2 bt556.2).bind fun t560=>(laws_FnNonces.j0 k t533 t534 (!t560) bt535.1 bt535.2 bt543.1 bt543.2))) else (laws_FnNonces.j0 k t533 t534 true bt535.1 bt535.2 bt543.1 bt543.2))) else (laws_FnNonces.j0 k t533 t534 true bt535.1 bt535.2 bt543.1 bt543.2)))))) = some r:=H
  have A4:=zz5 A40
  clear A40
  replace H:=Option.bind_eq_some_iff.mp H
  obtain⟨⟨t535,t536⟩,A50,H⟩:=H
  replace H : ((spec_DrawHeadOf.f l0).bind fun bt540=>((impl_HeadOf.f k bt540.1 bt540.2.1 bt540.2.2).bind fun bt543=>((spec_NonceOf.f k t533 t534).bind fun bt548=>(if t535 = bt548.1 then ((spec_HeadOf.f k bt540.1 bt540.2.1 bt540.2.2).bind fun bt552=>(if bt543.1 = bt552.1 then ((spec_HeadOf.f k bt540.1 bt540.2.1 bt540.2.2).bind fun bt556=>((laws_lwSame.f bt543.2 bt556.2).bind fun t560=>(laws_FnNonces.j0 k t533 t534 (!t560) t535 t536 bt543.1 bt543.2))) else (laws_FnNonces.j0 k t533 t534 true t535 t536 bt543.1 bt543.2))) else (laws_FnNonces.j0 k t533 t534 true t535 t536 bt543.1 bt543.2))))) = some r:=H
  have A5:=zz5 A50
  clear A50
  replace H:=Option.bind_eq_some_iff.mp H
  obtain⟨⟨t540,t541,t542⟩,A60,H⟩:=H
  replace H : ((impl_HeadOf.f k t540 t541 t542).bind fun bt543=>((spec_NonceOf.f k t533 t534).bind fun bt548=>(if t535 = bt548.1 then ((spec_HeadOf.f k t540 t541 t542).bind fun bt552=>(if bt543.1 = bt552.1 then ((spec_HeadOf.f k t540 t541 t542).bind fun bt556=>((laws_lwSame.f bt543.2 bt556.2).bind fun t560=>(laws_FnNonces.j0 k t533 t534 (!t560) t535 t536 bt543.1 bt543.2))) else (laws_FnNonces.j0 k t533 t534 true t535 t536 bt543.1 bt543.2))) else (laws_FnNonces.j0 k t533 t534 true t535 t536 bt543.1 bt543.2)))) = some r:=H
  have A6:=zz5 A60
  clear A60
  replace H:=Option.bind_eq_some_iff.mp H
  obtain⟨⟨t543,t544⟩,A70,H⟩:=H
  replace H : ((spec_NonceOf.f k t533 t534).bind fun bt548=>(if t535 = bt548.1 then ((spec_HeadOf.f k t540 t541 t542).bind fun bt552=>(if t543 = bt552.1 then ((spec_HeadOf.f k t540 t541 t542).bind fun bt556=>((laws_lwSame.f t544 bt556.2).bind fun t560=>(laws_FnNonces.j0 k t533 t534 (!t560) t535 t536 t543 t544))) else (laws_FnNonces.j0 k t533 t534 true t535 t536 t543 t544))) else (laws_FnNonces.j0 k t533 t534 true t535 t536 t543 t544))) = some r:=H
  have A7:=zz5 A70
  clear A70
  have HC8:=zz5 H
  clear H
  go_enter Try.func5,Try.ntmps5
  go_upto_region 7 with (first|((with_reducible refine gate_callee (f:=7) rfl ?_);refine goesL_ (some 13) rfl rfl Try.func7 (by kernel_rfl) rfl #[.slice A0 l0.length c0] rfl (by (try simp only [List.map_toArray,List.map_cons,List.map_nil]);first|done|rfl|(simp only [List.length_drop,List.length_take];rfl)) ?_;(with_reducible refine (laws_lwBig.calls _ _ l0 false _ ?side1 ?side2 A2.out).mono ?_);(case side1=>repeat (first|exact HR0.out|(with_reducible refine Kd.C_alloc ?_ _)|(with_reducible refine Kd.C_drewN ?_ _)|(with_reducible refine Kd.C_drew ?_)));(case side2=>exact HC0.out);rintro e w' ⟨rfl,⟨nd,rfl⟩⟩;refine ⟨_,rfl,?_⟩)|((with_reducible refine gate_callee (f:=28) rfl ?_);refine goesL_ (some 16) rfl rfl Try.func28 (by kernel_rfl) rfl #[.slice A0 l0.length c0] rfl (by (try simp only [List.map_toArray,List.map_cons,List.map_nil]);first|done|rfl|(simp only [List.length_drop,List.length_take];rfl)) ?_;(with_reducible refine (spec_DrawNonceOf.calls _ _ l0 t533 t534 _ ?side1 ?side2 A4.out).mono ?_);(case side1=>repeat (first|exact HR0.out|(with_reducible refine Kd.C_alloc ?_ _)|(with_reducible refine Kd.C_drewN ?_ _)|(with_reducible refine Kd.C_drew ?_)));(case side2=>exact HC0.out);rintro e w9 ⟨rfl,hb⟩;refine ⟨_,rfl,?_⟩;have n0_:=zz5 (below_step (by repeat(first|(with_reducible first|exact HB.out|apply by5|apply ay5|apply cy5)|exact HB.out)) hb);clear HB;have HB:=n0_;clear n0_;(try clear hb);(try clear hb2);(try clear hk);(try clear hi))|((with_reducible refine gate_callee (f:=29) rfl ?_);refine goesL_ (some 21) rfl rfl Try.func29 (by kernel_rfl) rfl #[.int .i64 t533,.int .i64 t534] rfl (by (try simp only [List.map_toArray,List.map_cons,List.map_nil]);first|done|rfl|(simp only [List.length_drop,List.length_take];rfl)) ?_;(with_reducible refine (impl_NonceOf.calls k t533 t534 t535 t536 _ A5.out).mono ?_);rintro e w10 ⟨v537,rfl,ho0,hb⟩;refine ⟨_,rfl,?_⟩;have n0_:=zz5 (Kd.R_lower ho0 (below_size (by repeat(first|(with_reducible first|exact HB.out|apply by5|apply ay5|apply cy5)|exact HB.out))));have n1_:=zz5 (below_step (by repeat(first|(with_reducible first|exact HB.out|apply by5|apply ay5|apply cy5)|exact HB.out)) hb);clear HB;have HO538:=n0_;have HB:=n1_;clear n0_ n1_;(try clear hb);(try clear hb2);(try clear hk);(try clear hi);(try clear ho0))|((with_reducible refine gate_dst (N:=5) rfl ?_);(try (refine gate_guard (by rfl) ?_;dsimp only));refine box_event ?hg (N:=5) ?hd (cs:=#[.int .i64 0,.slice none 0 0]) (t:=27) ?hr ?_;(case hd=>rfl);(case hg=>rfl);(case hr=>first|(go_simp;done)|(go_simp;rfl));intro gb539 hg w11 hbox hb;have n0_:=zz5 (dz5 (by (with_reducible repeat (first|apply az5|apply bz5|apply cz5));exact HO538.out) hb);have n1_:=zz5 (below_step (by repeat(first|(with_reducible first|exact HB.out|apply by5|apply ay5|apply cy5)|exact HB.out)) hb);have n2_:=zz5 (hbox);have n3_:=zz5 ((by rw [hg];exact (below_size (by repeat(first|(with_reducible first|exact HB.out|apply by5|apply ay5|apply cy5)|exact HB.out))) : w.heap.size ≤ gb539));have n4_:=zz5 ((by rw [hg];exact (below_size (by repeat(first|(with_reducible first|exact HB.out|apply by5|apply ay5|apply cy5)|exact HB.out))) : w.heap.size ≤ gb539));clear HO538;clear HB;have HO538:=n0_;have HB:=n1_;have BK539:=n2_;have GW539:=n3_;have GE539:=n4_;clear n0_ n1_ n2_ n3_ n4_;clear hb hbox hg;have hcz12_0 : w11.cell? ⟨gb539,0,none⟩ = some (.int .i64 0):=(blk_cell BK539.out 0).trans rfl;have hcz12_1 : w11.cell? ⟨gb539,1,none⟩ = some (.slice none 0 0):=(blk_cell BK539.out 1).trans rfl;have hfz12_0:=blk_frozen BK539.out 0;have hfz12_1:=blk_frozen BK539.out 1;obtain⟨Ao13,co13,eo13⟩:=Kd.R_slice HO538.out;subst eo13)|((with_reducible refine gate_callee (f:=30) rfl ?_);refine goesL_ (some 24) rfl rfl Try.func30 (by kernel_rfl) rfl #[.slice A0 l0.length c0] rfl (by (try simp only [List.map_toArray,List.map_cons,List.map_nil]);first|done|rfl|(simp only [List.length_drop,List.length_take];rfl)) ?_;(with_reducible refine (spec_DrawHeadOf.calls _ _ l0 t540 t541 t542 _ ?side1 ?side2 A6.out).mono ?_);(case side1=>exact Kd.C_below HR0.out (by repeat(first|(with_reducible first|exact HB.out|apply by5|apply ay5|apply cy5|refine dy5 ?_ GE539.out)|exact HB.out)));(case side2=>exact HC0.out);rintro e w14 ⟨rfl,hb⟩;refine ⟨_,rfl,?_⟩;have n0_:=zz5 (dz5 (by (with_reducible repeat (first|apply az5|apply bz5|apply cz5));exact (gz5 (ez5 (p:=⟨gb539,1,none⟩) (ez5 (p:=⟨gb539,0,none⟩) (hz5 HO538.out BK539.out (by decide)) (fun _ hk=>hk.2) (.int .i64 t535)) (fun _ hk=>hk.2) (.slice Ao13 t536.length co13)) (fun _ h_=>h_.1))) hb);have n1_:=zz5 (hy5 (g:=gb539) (o:=.cells #[.int .i64 t535,.slice Ao13 t536.length co13] 27 (0,0)) (by (with_reducible repeat (first|refine ey5 ?_ _|refine gy5 ?_|refine fy5 ?_ _));refine blk_put (cs:=#[.int .i64 t535,.slice none 0 0]) ?_ 1 _ rfl;(with_reducible repeat (first|refine ey5 ?_ _|refine gy5 ?_|refine fy5 ?_ _));refine blk_put (cs:=#[.int .i64 0,.slice none 0 0]) ?_ 0 _ rfl;(with_reducible repeat (first|refine ey5 ?_ _|refine gy5 ?_|refine fy5 ?_ _));exact BK539.out) hb);have n2_:=zz5 (below_step (by repeat(first|(with_reducible first|exact HB.out|apply by5|apply ay5|apply cy5|refine dy5 ?_ GE539.out)|exact HB.out)) hb);clear HO538;clear BK539;clear HB;have HO538:=n0_;have BK539:=n1_;have HB:=n2_;clear n0_ n1_ n2_;(try clear hb);(try clear hb2);(try clear hk);(try clear hi))|((with_reducible refine gate_callee (f:=31) rfl ?_);refine goesL_ (some 31) rfl rfl Try.func31 (by kernel_rfl) rfl #[.int .i64 t540,.int .i64 t541,.int .i64 t542] rfl (by (try simp only [List.map_toArray,List.map_cons,List.map_nil]);first|done|rfl|(simp only [List.length_drop,List.length_take];rfl)) ?_;(with_reducible refine (impl_HeadOf.calls k t540 t541 t542 t543 t544 _ A7.out).mono ?_);rintro e w15 ⟨v545,rfl,ho0,hb⟩;refine ⟨_,rfl,?_⟩;have n0_:=zz5 (jz5 (by (with_reducible repeat (first|apply az5|apply bz5|apply cz5));exact HO538.out) (fz5 ho0) hb);have n1_:=zz5 (Kd.R_lower (kz5 ho0 (Kd.R_lt (by (with_reducible repeat (first|apply az5|apply bz5|apply cz5));exact HO538.out))) (below_size (by repeat(first|(with_reducible first|exact HB.out|apply by5|apply ay5|apply cy5|refine dy5 ?_ GE539.out)|exact HB.out))));have n2_:=zz5 (hy5 (g:=gb539) (o:=.cells #[.int .i64 t535,.slice Ao13 t536.length co13] 27 (0,0)) (by (with_reducible repeat (first|refine ey5 ?_ _|refine gy5 ?_|refine fy5 ?_ _));exact BK539.out) hb);have n3_:=zz5 (below_step (by repeat(first|(with_reducible first|exact HB.out|apply by5|apply ay5|apply cy5|refine dy5 ?_ GE539.out)|exact HB.out)) hb);clear HO538;clear BK539;clear HB;have HO538:=n0_;have HO546:=n1_;have BK539:=n2_;have HB:=n3_;clear n0_ n1_ n2_ n3_;(try clear hb);(try clear hb2);(try clear hk);(try clear hi);(try clear ho0))|((with_reducible refine gate_dst (N:=9) rfl ?_);(try (refine gate_guard (by rfl) ?_;dsimp only));refine box_event ?hg (N:=9) ?hd (cs:=#[.int .i64 0,.slice none 0 0]) (t:=27) ?hr ?_;(case hd=>rfl);(case hg=>rfl);(case hr=>first|(go_simp;done)|(go_simp;rfl));intro gb547 hg w16 hbox hb;have n0_:=zz5 (dz5 (by (with_reducible repeat (first|apply az5|apply bz5|apply cz5));exact HO538.out) hb);have n1_:=zz5 (dz5 (by (with_reducible repeat (first|apply az5|apply bz5|apply cz5));exact HO546.out) hb);have n2_:=zz5 (hy5 (g:=gb539) (o:=.cells #[.int .i64 t535,.slice Ao13 t536.length co13] 27 (0,0)) (by (with_reducible repeat (first|refine ey5 ?_ _|refine gy5 ?_|refine fy5 ?_ _));exact BK539.out) hb);have n3_:=zz5 (below_step (by repeat(first|(with_reducible first|exact HB.out|apply by5|apply ay5|apply cy5|refine dy5 ?_ GE539.out)|exact HB.out)) hb);have n4_:=zz5 (hbox);have n5_:=zz5 ((by rw [hg];exact (below_size (by repeat(first|(with_reducible first|exact HB.out|apply by5|apply ay5|apply cy5|refine dy5 ?_ GE539.out)|exact HB.out))) : w.heap.size ≤ gb547));have n6_:=zz5 ((by rw [hg];exact (below_size (by repeat(first|(with_reducible first|exact HB.out|apply by5|apply ay5|apply cy5|refine dy5 ?_ GE539.out)|exact HB.out))) : w.heap.size ≤ gb547));have n7_:=zz5 ((by rw [hg];exact Nat.ne_of_lt (blk_lt (g:=gb539) (o:=.cells #[.int .i64 t535,.slice Ao13 t536.length co13] 27 (0,0)) (by (with_reducible repeat (first|refine ey5 ?_ _|refine gy5 ?_|refine fy5 ?_ _));exact BK539.out)) : gb539 ≠ gb547));have n8_:=zz5 ((by rw [hg];exact Nat.ne_of_gt (blk_lt (g:=gb539) (o:=.cells #[.int .i64 t535,.slice Ao13 t536.length co13] 27 (0,0)) (by (with_reducible repeat (first|refine ey5 ?_ _|refine gy5 ?_|refine fy5 ?_ _));exact BK539.out)) : gb547 ≠ gb539));clear HO538;clear HO546;clear BK539;clear HB;have HO538:=n0_;have HO546:=n1_;have BK539:=n2_;have HB:=n3_;have BK547:=n4_;have GW547:=n5_;have GE547:=n6_;have NB539_547:=n7_;have NB547_539:=n8_;clear n0_ n1_ n2_ n3_ n4_ n5_ n6_ n7_ n8_;clear hb hbox hg;have hnb17:=NB547_539.out;have hnc17:=NB539_547.out;have hcz18_0 : w16.cell? ⟨gb547,0,none⟩ = some (.int .i64 0):=(blk_cell BK547.out 0).trans rfl;have hcz18_1 : w16.cell? ⟨gb547,1,none⟩ = some (.slice none 0 0):=(blk_cell BK547.out 1).trans rfl;have hfz18_0:=blk_frozen BK547.out 0;have hfz18_1:=blk_frozen BK547.out 1;obtain⟨Ao19,co19,eo19⟩:=Kd.R_slice HO546.out;subst eo19))
  (try simp only [Act.put,sa_,sb_,sc_])
  go_cut [59] (fun v59 wc=>∃ (kq : Nat) (x59_7 : Bool),v59 = .bool x59_7 ∧ Aside0 (laws_FnNonces.j0 kq t533 t534 x59_7 t535 t536 t543 t544 = some r) ∧ Aside0 (kq ≤ k) ∧ Aside0 (Kd.R (Kd.int .u8) 5 wc w.heap.size (fun k_=>some k_ ≠ ((.slice Ao19 t544.length co19) : Value).ownBlock) (.slice Ao13 t536.length co13) t536) ∧ Aside0 (Kd.R (Kd.int .u8) 5 wc w.heap.size (fun k_=>some k_ ≠ ((.slice Ao13 t536.length co13) : Value).ownBlock) (.slice Ao19 t544.length co19) t544) ∧ Aside0 (wc.heap[gb539]? = some (.cells #[.int .i64 t535,(.slice Ao13 t536.length co13)] 27 (0,0))) ∧ Aside0 (wc.heap[gb547]? = some (.cells #[.int .i64 t543,(.slice Ao19 t544.length co19)] 27 (0,0))) ∧ Aside0 (Below w.heap.size w wc))
  case first =>
   have H:=HC8.out
   clear HC8
   replace H:=Option.bind_eq_some_iff.mp H
   obtain⟨⟨t548,t549⟩,A200,H⟩:=H
   replace H : (if t535 = t548 then ((spec_HeadOf.f k t540 t541 t542).bind fun bt552=>(if t543 = bt552.1 then ((spec_HeadOf.f k t540 t541 t542).bind fun bt556=>((laws_lwSame.f t544 bt556.2).bind fun t560=>(laws_FnNonces.j0 k t533 t534 (!t560) t535 t536 t543 t544))) else (laws_FnNonces.j0 k t533 t534 true t535 t536 t543 t544))) else (laws_FnNonces.j0 k t533 t534 true t535 t536 t543 t544)) = some r:=H
   have A20:=zz5 A200
   clear A200
   by_cases c21 : t535 = t548
   ·rw [if_pos c21] at H
    have c21b0 : (t535 == t548) = true:=beq_iff_eq.mpr c21
    have c21b1 : (t535 != t548) = false:=bne_eq_false_iff_eq.mpr c21
    clear c21
    (first|rw [c21b0]|(simp only [i64_w,i32_w];rw [c21b0])|skip)
    replace H:=Option.bind_eq_some_iff.mp H
    obtain⟨⟨t552,t553⟩,A220,H⟩:=H
    replace H : (if t543 = t552 then ((spec_HeadOf.f k t540 t541 t542).bind fun bt556=>((laws_lwSame.f t544 bt556.2).bind fun t560=>(laws_FnNonces.j0 k t533 t534 (!t560) t535 t536 t543 t544))) else (laws_FnNonces.j0 k t533 t534 true t535 t536 t543 t544)) = some r:=H
    have A22:=zz5 A220
    clear A220
    by_cases c23 : t543 = t552
    ·rw [if_pos c23] at H
     have c23b0 : (t543 == t552) = true:=beq_iff_eq.mpr c23
     have c23b1 : (t543 != t552) = false:=bne_eq_false_iff_eq.mpr c23
     clear c23
     replace H:=Option.bind_eq_some_iff.mp H
     obtain⟨⟨t556,t557⟩,A240,H⟩:=H
     replace H : ((laws_lwSame.f t544 t557).bind fun t560=>(laws_FnNonces.j0 k t533 t534 (!t560) t535 t536 t543 t544)) = some r:=H
     have A24:=zz5 A240
     clear A240
     replace H:=Option.bind_eq_some_iff.mp H
     obtain⟨t560,A250,H⟩:=H
     replace H : (laws_FnNonces.j0 k t533 t534 (!t560) t535 t536 t543 t544) = some r:=H
     have A25:=zz5 A250
     clear A250
     have H':=zz5 H
     clear H
     try go_wp2
     have n0_ : Aside0 (Kd.R (Kd.int .u8) 5 ((w16.setCell ⟨gb547,0,none⟩ (.int .i64 t543)).setCell ⟨gb547,1,none⟩ (.slice Ao19 t544.length co19)) w.heap.size (fun k_=>some k_ ≠ (.slice Ao19 t544.length co19 : Value).ownBlock) (.slice Ao13 t536.length co13) t536):=⟨by (with_reducible repeat (first|apply az5|apply bz5|apply cz5));exact gz5 (ez5 (p:=⟨gb547,1,none⟩) (ez5 (p:=⟨gb547,0,none⟩) (hz5 HO538.out BK547.out (by decide)) (fun _ hk=>hk.2) (.int .i64 t543)) (fun _ hk=>hk.2) (.slice Ao19 t544.length co19)) (fun _ hk=>hk.1.2)⟩
     have n1_ : Aside0 (Kd.R (Kd.int .u8) 5 ((w16.setCell ⟨gb547,0,none⟩ (.int .i64 t543)).setCell ⟨gb547,1,none⟩ (.slice Ao19 t544.length co19)) w.heap.size (fun k_=>some k_ ≠ (.slice Ao13 t536.length co13 : Value).ownBlock) (.slice Ao19 t544.length co19) t544):=⟨by (with_reducible repeat (first|apply az5|apply bz5|apply cz5));exact gz5 (ez5 (p:=⟨gb547,1,none⟩) (ez5 (p:=⟨gb547,0,none⟩) (hz5 HO546.out BK547.out (by decide)) (fun _ hk=>hk.2) (.int .i64 t543)) (fun _ hk=>hk.2) (.slice Ao19 t544.length co19)) (fun _ hk=>hk.1.2)⟩
     have n2_ : Aside0 (((w16.setCell ⟨gb547,0,none⟩ (.int .i64 t543)).setCell ⟨gb547,1,none⟩ (.slice Ao19 t544.length co19)).heap[gb539]? = some (.cells #[.int .i64 t535,.slice Ao13 t536.length co13] 27 (0,0))):=⟨by (with_reducible repeat (first|refine ey5 ?_ _|refine gy5 ?_|refine fy5 ?_ _));refine blk_far ?_ NB539_547.out _;(with_reducible repeat (first|refine ey5 ?_ _|refine gy5 ?_|refine fy5 ?_ _));refine blk_far ?_ NB539_547.out _;(with_reducible repeat (first|refine ey5 ?_ _|refine gy5 ?_|refine fy5 ?_ _));exact BK539.out⟩
     have n3_ : Aside0 (((w16.setCell ⟨gb547,0,none⟩ (.int .i64 t543)).setCell ⟨gb547,1,none⟩ (.slice Ao19 t544.length co19)).heap[gb547]? = some (.cells #[.int .i64 t543,.slice Ao19 t544.length co19] 27 (0,0))):=⟨by (with_reducible repeat (first|refine ey5 ?_ _|refine gy5 ?_|refine fy5 ?_ _));refine blk_put (cs:=#[.int .i64 t543,.slice none 0 0]) ?_ 1 _ rfl;(with_reducible repeat (first|refine ey5 ?_ _|refine gy5 ?_|refine fy5 ?_ _));refine blk_put (cs:=#[.int .i64 0,.slice none 0 0]) ?_ 0 _ rfl;(with_reducible repeat (first|refine ey5 ?_ _|refine gy5 ?_|refine fy5 ?_ _));exact BK547.out⟩
     have n4_ : Aside0 (Below w.heap.size w ((w16.setCell ⟨gb547,0,none⟩ (.int .i64 t543)).setCell ⟨gb547,1,none⟩ (.slice Ao19 t544.length co19))):=⟨by repeat (first|(with_reducible first|exact HB.out|apply by5|apply ay5|apply cy5|refine dy5 ?_ GE539.out|refine dy5 ?_ GE547.out)|exact HB.out)⟩
     (try clear HO538);(try clear HO546);(try clear BK539)
     (try clear BK547)
     (try clear HB)
     generalize ((w16.setCell ⟨gb547,0,none⟩ (.int .i64 t543)).setCell ⟨gb547,1,none⟩ (.slice Ao19 t544.length co19)) = w26 at n0_ n1_ n2_ n3_ n4_ ⊢
     have HO538:=n0_
     have HO546:=n1_
     have BK539:=n2_
     have BK547:=n3_
     have HB:=n4_
     clear n0_ n1_ n2_ n3_ n4_
     have n0_:=zz5 (cz5 HO538.out)
     have n1_:=zz5 (cz5 HO546.out)
     have n2_:=zz5 (gy5 BK539.out)
     have n3_:=zz5 (gy5 BK547.out)
     have n4_:=zz5 (cy5 HB.out)
     clear HO538
     clear HO546
     clear BK539
     clear BK547
     clear HB
     have HO538:=n0_
     have HO546:=n1_
     have BK539:=n2_
     have BK547:=n3_
     have HB:=n4_
     clear n0_ n1_ n2_ n3_ n4_
     refine start_ (n:=28) (S:=fun w'=>w'.cell? ⟨gb539,0,none⟩ = some (.int .i64 t535) ∧ w'.cell? ⟨gb539,1,none⟩ = some (.slice Ao13 t536.length co13) ∧ w'.cell? ⟨gb547,0,none⟩ = some (.int .i64 t543) ∧ w'.cell? ⟨gb547,1,none⟩ = some (.slice Ao19 t544.length co19)) (ds:=[]) #[Z,Z,Z,Z,Z,Z,Z,Z,Z,Z,Z,Z,Z,Z,Z,Z,Z,Z,Z,Z,Z,Z,Z,Z,Z,Z,Z,Z] (by kernel_rfl) rfl rfl ⟨(blk_cell BK539.out 0).trans rfl,(blk_cell BK539.out 1).trans rfl,(blk_cell BK547.out 0).trans rfl,(blk_cell BK547.out 1).trans rfl⟩ (fun hHeld=>?_);refine with_tabW laws_FnNonces.tab7 laws_FnNonces.bits7 (fun HT_ HW_=>?_)
     generalize w26.drew = w27 at HO538 HO546 BK539 BK547 HB hHeld ⊢
     refine pure_ (i:=0) (N:=some 32) (v:=?_) (a':=?_) #[Y,Z,Z,Z,Z,Z,Z,Z,Z,Z,Z,Z,Z,Z,Z,Z,Z,Z,Z,Z,Z,Z,Z,Z,Z,Z,Z,Z] rfl rfl (any_of HT_.out (by kernel_rfl)) (fun _ _ _ h=>h) (Or.inl ⟨by rfl,?_⟩) ?_ ?_
     rotate_left
     ·intro w';go_simp;with_reducible rfl
     rotate_left
     ·simp only [Act.put,sa_,sb_,sc_,i64_w];rfl
     refine pure_ (i:=2) (N:=some 34) (v:=?_) (a':=?_) #[Y,Z,Y,Z,Z,Z,Z,Z,Z,Z,Z,Z,Z,Z,Z,Z,Z,Z,Z,Z,Z,Z,Z,Z,Z,Z,Z,Z] rfl rfl (any_of HT_.out (by kernel_rfl)) (fun _ _ _ h=>h) (Or.inl ⟨by rfl,?_⟩) ?_ ?_
     rotate_left
     ·intro w';go_simp;with_reducible rfl
     rotate_left
     ·simp only [Act.put,sa_,sb_,sc_,i64_w];rfl
     refine pure_ (i:=3) (N:=some 35) (v:=?_) (a':=?_) #[Y,Z,Y,Y,Z,Z,Z,Z,Z,Z,Z,Z,Z,Z,Z,Z,Z,Z,Z,Z,Z,Z,Z,Z,Z,Z,Z,Z] rfl rfl (any_of HT_.out (by kernel_rfl)) (fun _ _ _ h=>h) (Or.inl ⟨by rfl,?_⟩) ?_ ?_
     rotate_left
     ·intro w';go_simp;with_reducible rfl
     rotate_left
     ·simp only [Act.put,sa_,sb_,sc_,i64_w];rfl
     refine take_ (i:=1) (N:=some 33) (v:=?_) (a':=?_) #[Y,Y,Y,Y,Z,Z,Z,Z,Z,Z,Z,Z,Z,Z,Z,Z,Z,Z,Z,Z,Z,Z,Z,Z,Z,Z,Z,Z] rfl rfl (take_ofW HT_.out HW_.out (by kernel_rfl)) (fun _ _ _ h=>h) (Or.inl ⟨by rfl,?_⟩) hHeld ?_ ?_
     rotate_left
     ·rintro w' ⟨s0,s1,s2,s3⟩
      go_simp
      with_reducible rfl
     rotate_left
     ·simp only [Act.put,sa_,sb_,sc_,i64_w];rfl
     refine one_ (i:=4) (N:=some 36) #[Y,Y,Y,Y,Y,Z,Z,Z,Z,Z,Z,Z,Z,Z,Z,Z,Z,Z,Z,Z,Z,Z,Z,Z,Z,Z,Z,Z] rfl rfl (one_of HT_.out (by kernel_rfl)) (by decide) (fun K hK=>?_)
     refine goes_ Try.func32 (by kernel_rfl) rfl #[.int .i64 t533,.int .i64 t534] (by rfl) rfl rfl (by (try simp only [List.map_toArray,List.map_cons,List.map_nil]);first|done|rfl|(simp only [List.length_drop,List.length_take];rfl)) ?_
     with_reducible refine (spec_NonceOf.calls k t533 t534 t548 t549 _ A20.out).mono ?_
     rintro e w28 ⟨v550,rfl,ho0,hb⟩
     refine ⟨_,rfl,?_⟩
     have n0_:=zz5 (jz5 (by (with_reducible repeat (first|apply az5|apply bz5|apply cz5));exact HO538.out) (fz5 ho0) hb)
     have n1_:=zz5 (jz5 (by (with_reducible repeat (first|apply az5|apply bz5|apply cz5));exact HO546.out) (fz5 ho0) hb)
     have n2_:=zz5 (Kd.R_lower (kz5 (kz5 ho0 (Kd.R_lt (by (with_reducible repeat (first|apply az5|apply bz5|apply cz5));exact HO538.out))) (Kd.R_lt (by (with_reducible repeat (first|apply az5|apply bz5|apply cz5));exact HO546.out))) (below_size (by repeat(first|(with_reducible first|exact HB.out|apply by5|apply ay5|apply cy5|refine dy5 ?_ GE539.out|refine dy5 ?_ GE547.out)|exact HB.out))))
     have n3_:=zz5 (hy5 (g:=gb539) (o:=.cells #[.int .i64 t535,.slice Ao13 t536.length co13] 27 (0,0)) (by (with_reducible repeat (first|refine ey5 ?_ _|refine gy5 ?_|refine fy5 ?_ _));exact BK539.out) hb)
     have n4_:=zz5 (hy5 (g:=gb547) (o:=.cells #[.int .i64 t543,.slice Ao19 t544.length co19] 27 (0,0)) (by (with_reducible repeat (first|refine ey5 ?_ _|refine gy5 ?_|refine fy5 ?_ _));exact BK547.out) hb)
     have n5_:=zz5 (below_step (by repeat(first|(with_reducible first|exact HB.out|apply by5|apply ay5|apply cy5|refine dy5 ?_ GE539.out|refine dy5 ?_ GE547.out)|exact HB.out)) hb)
     clear HO538
     clear HO546
     clear BK539
     clear BK547
     clear HB
     have HO538:=n0_
     have HO546:=n1_
     have HO551:=n2_
     have BK539:=n3_
     have BK547:=n4_
     have HB:=n5_
     clear n0_ n1_ n2_ n3_ n4_ n5_
     (try clear hb);(try clear hb2);(try clear hk)
     (try clear hi)
     (try clear ho0)
     refine hK.out _ _ ⟨(blk_cell BK539.out 0).trans rfl,(blk_cell BK539.out 1).trans rfl,(blk_cell BK547.out 0).trans rfl,(blk_cell BK547.out 1).trans rfl⟩ (fun hHeld=>?_)
     clear hK K
     refine norm_ (a':=?_) ?_ ?_
     rotate_left
     ·show Act.put _ (some 36) _ = _
      simp only [Act.put,sa_,sb_,sc_,i64_w]
      rfl
     refine pure_ (i:=5) (N:=some 37) (v:=?_) (a':=?_) #[Y,Y,Y,Y,Y,Y,Z,Z,Z,Z,Z,Z,Z,Z,Z,Z,Z,Z,Z,Z,Z,Z,Z,Z,Z,Z,Z,Z] rfl rfl (any_of HT_.out (by kernel_rfl)) (fun _ _ _ h=>h) (Or.inl ⟨by rfl,?_⟩) ?_ ?_
     rotate_left
     ·intro w';go_simp;with_reducible rfl
     rotate_left
     ·simp only [Act.put,sa_,sb_,sc_,i64_w];rfl
     refine pure_ (i:=6) (N:=some 38) (v:=?_) (a':=?_) #[Y,Y,Y,Y,Y,Y,Y,Z,Z,Z,Z,Z,Z,Z,Z,Z,Z,Z,Z,Z,Z,Z,Z,Z,Z,Z,Z,Z] rfl rfl (any_of HT_.out (by kernel_rfl)) (fun _ _ _ h=>h) (Or.inl ⟨by rfl,?_⟩) ?_ ?_
     rotate_left
     ·intro w';go_simp;with_reducible rfl
     rotate_left
     ·simp only [Act.put,sa_,sb_,sc_,i64_w];rfl
     refine pure_ (i:=7) (N:=some 39) (v:=?_) (a':=?_) #[Y,Y,Y,Y,Y,Y,Y,Y,Z,Z,Z,Z,Z,Z,Z,Z,Z,Z,Z,Z,Z,Z,Z,Z,Z,Z,Z,Z] rfl rfl (any_of HT_.out (by kernel_rfl)) (fun _ _ _ h=>h) (Or.inl ⟨by rfl,?_⟩) ?_ ?_
     rotate_left
     ·intro w';go_simp;with_reducible rfl
     rotate_left
     ·simp only [Act.put,sa_,sb_,sc_,i64_w];rfl
     refine pure_ (i:=8) (N:=some 40) (v:=?_) (a':=?_) #[Y,Y,Y,Y,Y,Y,Y,Y,Y,Z,Z,Z,Z,Z,Z,Z,Z,Z,Z,Z,Z,Z,Z,Z,Z,Z,Z,Z] rfl rfl (any_of HT_.out (by kernel_rfl)) (fun _ _ _ h=>h) (Or.inl ⟨by rfl,?_⟩) ?_ ?_
     rotate_left
     ·intro w';go_simp;with_reducible rfl
     rotate_left
     ·simp only [Act.put,sa_,sb_,sc_,i64_w];rfl
     refine pure_ (i:=10) (N:=some 42) (v:=?_) (a':=?_) #[Y,Y,Y,Y,Y,Y,Y,Y,Y,Z,Y,Z,Z,Z,Z,Z,Z,Z,Z,Z,Z,Z,Z,Z,Z,Z,Z,Z] rfl rfl (any_of HT_.out (by kernel_rfl)) (fun _ _ _ h=>h) (Or.inl ⟨by rfl,?_⟩) ?_ ?_
     rotate_left
     ·intro w';go_simp;with_reducible rfl
     rotate_left
     ·simp only [Act.put,sa_,sb_,sc_,i64_w];rfl
     refine pure_ (i:=11) (N:=some 43) (v:=?_) (a':=?_) #[Y,Y,Y,Y,Y,Y,Y,Y,Y,Z,Y,Y,Z,Z,Z,Z,Z,Z,Z,Z,Z,Z,Z,Z,Z,Z,Z,Z] rfl rfl (any_of HT_.out (by kernel_rfl)) (fun _ _ _ h=>h) (Or.inl ⟨by rfl,?_⟩) ?_ ?_
     rotate_left
     ·intro w';go_simp;with_reducible rfl
     rotate_left
     ·simp only [Act.put,sa_,sb_,sc_,i64_w];rfl
     refine pure_ (i:=12) (N:=some 44) (v:=?_) (a':=?_) #[Y,Y,Y,Y,Y,Y,Y,Y,Y,Z,Y,Y,Y,Z,Z,Z,Z,Z,Z,Z,Z,Z,Z,Z,Z,Z,Z,Z] rfl rfl (any_of HT_.out (by kernel_rfl)) (fun _ _ _ h=>h) (Or.inl ⟨by rfl,?_⟩) ?_ ?_
     rotate_left
     ·intro w';go_simp;with_reducible rfl
     rotate_left
     ·simp only [Act.put,sa_,sb_,sc_,i64_w];rfl
     refine take_ (i:=9) (N:=some 41) (v:=?_) (a':=?_) #[Y,Y,Y,Y,Y,Y,Y,Y,Y,Y,Y,Y,Y,Z,Z,Z,Z,Z,Z,Z,Z,Z,Z,Z,Z,Z,Z,Z] rfl rfl (take_ofW HT_.out HW_.out (by kernel_rfl)) (fun _ _ _ h=>h) (Or.inl ⟨by rfl,?_⟩) hHeld ?_ ?_
     rotate_left
     ·rintro w' ⟨s0,s1,s2,s3⟩
      go_simp
      with_reducible rfl
     rotate_left
     ·simp only [Act.put,sa_,sb_,sc_,i64_w];rfl
     refine one_ (i:=13) (N:=some 45) #[Y,Y,Y,Y,Y,Y,Y,Y,Y,Y,Y,Y,Y,Y,Z,Z,Z,Z,Z,Z,Z,Z,Z,Z,Z,Z,Z,Z] rfl rfl (one_of HT_.out (by kernel_rfl)) (by decide) (fun K hK=>?_)
     refine goes_ Try.func33 (by kernel_rfl) rfl #[.int .i64 t540,.int .i64 t541,.int .i64 t542] (by rfl) rfl rfl (by (try simp only [List.map_toArray,List.map_cons,List.map_nil]);first|done|rfl|(simp only [List.length_drop,List.length_take];rfl)) ?_
     with_reducible refine (spec_HeadOf.calls k t540 t541 t542 t552 t553 _ A22.out).mono ?_
     rintro e w29 ⟨v554,rfl,ho0,hb⟩
     refine ⟨_,rfl,?_⟩
     have n0_:=zz5 (jz5 (by (with_reducible repeat (first|apply az5|apply bz5|apply cz5));exact HO538.out) (fz5 ho0) hb)
     have n1_:=zz5 (jz5 (by (with_reducible repeat (first|apply az5|apply bz5|apply cz5));exact HO546.out) (fz5 ho0) hb)
     have n2_:=zz5 (jz5 (by (with_reducible repeat (first|apply az5|apply bz5|apply cz5));exact HO551.out) (fz5 ho0) hb)
     have n3_:=zz5 (Kd.R_lower (kz5 (kz5 (kz5 ho0 (Kd.R_lt (by (with_reducible repeat (first|apply az5|apply bz5|apply cz5));exact HO538.out))) (Kd.R_lt (by (with_reducible repeat (first|apply az5|apply bz5|apply cz5));exact HO546.out))) (Kd.R_lt (by (with_reducible repeat (first|apply az5|apply bz5|apply cz5));exact HO551.out))) (below_size (by repeat(first|(with_reducible first|exact HB.out|apply by5|apply ay5|apply cy5|refine dy5 ?_ GE539.out|refine dy5 ?_ GE547.out)|exact HB.out))))
     have n4_:=zz5 (hy5 (g:=gb539) (o:=.cells #[.int .i64 t535,.slice Ao13 t536.length co13] 27 (0,0)) (by (with_reducible repeat (first|refine ey5 ?_ _|refine gy5 ?_|refine fy5 ?_ _));exact BK539.out) hb)
     have n5_:=zz5 (hy5 (g:=gb547) (o:=.cells #[.int .i64 t543,.slice Ao19 t544.length co19] 27 (0,0)) (by (with_reducible repeat (first|refine ey5 ?_ _|refine gy5 ?_|refine fy5 ?_ _));exact BK547.out) hb)
     have n6_:=zz5 (below_step (by repeat(first|(with_reducible first|exact HB.out|apply by5|apply ay5|apply cy5|refine dy5 ?_ GE539.out|refine dy5 ?_ GE547.out)|exact HB.out)) hb)
     clear HO538
     clear HO546
     clear HO551
     clear BK539
     clear BK547
     clear HB
     have HO538:=n0_
     have HO546:=n1_
     have HO551:=n2_
     have HO555:=n3_
     have BK539:=n4_
     have BK547:=n5_
     have HB:=n6_
     clear n0_ n1_ n2_ n3_ n4_ n5_ n6_
     (try clear hb);(try clear hb2);(try clear hk)
     (try clear hi)
     (try clear ho0)
     refine hK.out _ _ ⟨(blk_cell BK539.out 0).trans rfl,(blk_cell BK539.out 1).trans rfl,(blk_cell BK547.out 0).trans rfl,(blk_cell BK547.out 1).trans rfl⟩ (fun hHeld=>?_)
     clear hK K
     refine norm_ (a':=?_) ?_ ?_
     rotate_left
     ·show Act.put _ (some 45) _ = _
      simp only [Act.put,sa_,sb_,sc_,i64_w]
      rfl
     refine pure_ (i:=14) (N:=some 46) (v:=?_) (a':=?_) #[Y,Y,Y,Y,Y,Y,Y,Y,Y,Y,Y,Y,Y,Y,Y,Z,Z,Z,Z,Z,Z,Z,Z,Z,Z,Z,Z,Z] rfl rfl (any_of HT_.out (by kernel_rfl)) (fun _ _ _ h=>h) (Or.inl ⟨by rfl,?_⟩) ?_ ?_
     rotate_left
     ·intro w';go_simp;with_reducible rfl
     rotate_left
     ·simp only [Act.put,sa_,sb_,sc_,i64_w];rfl
     refine pure_ (i:=15) (N:=some 47) (v:=?_) (a':=?_) #[Y,Y,Y,Y,Y,Y,Y,Y,Y,Y,Y,Y,Y,Y,Y,Y,Z,Z,Z,Z,Z,Z,Z,Z,Z,Z,Z,Z] rfl rfl (any_of HT_.out (by kernel_rfl)) (fun _ _ _ h=>h) (Or.inl ⟨by rfl,?_⟩) ?_ ?_
     rotate_left
     ·intro w';go_simp;with_reducible rfl
     rotate_left
     ·simp only [Act.put,sa_,sb_,sc_,i64_w];rfl
     refine pure_ (i:=16) (N:=some 48) (v:=?_) (a':=?_) #[Y,Y,Y,Y,Y,Y,Y,Y,Y,Y,Y,Y,Y,Y,Y,Y,Y,Z,Z,Z,Z,Z,Z,Z,Z,Z,Z,Z] rfl rfl (any_of HT_.out (by kernel_rfl)) (fun _ _ _ h=>h) (Or.inl ⟨by rfl,?_⟩) ?_ ?_
     rotate_left
     ·intro w';go_simp;with_reducible rfl
     rotate_left
     ·simp only [Act.put,sa_,sb_,sc_,i64_w];rfl
     refine pure_ (i:=17) (N:=some 49) (v:=?_) (a':=?_) #[Y,Y,Y,Y,Y,Y,Y,Y,Y,Y,Y,Y,Y,Y,Y,Y,Y,Y,Z,Z,Z,Z,Z,Z,Z,Z,Z,Z] rfl rfl (any_of HT_.out (by kernel_rfl)) (fun _ _ _ h=>h) (Or.inl ⟨by rfl,?_⟩) ?_ ?_
     rotate_left
     ·intro w';go_simp;with_reducible rfl
     rotate_left
     ·simp only [Act.put,sa_,sb_,sc_,i64_w];rfl
     refine pure_ (i:=18) (N:=some 50) (v:=?_) (a':=?_) #[Y,Y,Y,Y,Y,Y,Y,Y,Y,Y,Y,Y,Y,Y,Y,Y,Y,Y,Y,Z,Z,Z,Z,Z,Z,Z,Z,Z] rfl rfl (any_of HT_.out (by kernel_rfl)) (fun _ _ _ h=>h) (Or.inl ⟨by rfl,?_⟩) ?_ ?_
     rotate_left
     ·intro w';go_simp;with_reducible rfl
     rotate_left
     ·simp only [Act.put,sa_,sb_,sc_,i64_w];rfl
     refine pure_ (i:=20) (N:=some 52) (v:=?_) (a':=?_) #[Y,Y,Y,Y,Y,Y,Y,Y,Y,Y,Y,Y,Y,Y,Y,Y,Y,Y,Y,Z,Y,Z,Z,Z,Z,Z,Z,Z] rfl rfl (any_of HT_.out (by kernel_rfl)) (fun _ _ _ h=>h) (Or.inl ⟨by rfl,?_⟩) ?_ ?_
     rotate_left
     ·intro w';go_simp;with_reducible rfl
     rotate_left
     ·simp only [Act.put,sa_,sb_,sc_,i64_w];rfl
     refine pure_ (i:=21) (N:=some 53) (v:=?_) (a':=?_) #[Y,Y,Y,Y,Y,Y,Y,Y,Y,Y,Y,Y,Y,Y,Y,Y,Y,Y,Y,Z,Y,Y,Z,Z,Z,Z,Z,Z] rfl rfl (any_of HT_.out (by kernel_rfl)) (fun _ _ _ h=>h) (Or.inl ⟨by rfl,?_⟩) ?_ ?_
     rotate_left
     ·intro w';go_simp;with_reducible rfl
     rotate_left
     ·simp only [Act.put,sa_,sb_,sc_,i64_w];rfl
     refine pure_ (i:=22) (N:=some 54) (v:=?_) (a':=?_) #[Y,Y,Y,Y,Y,Y,Y,Y,Y,Y,Y,Y,Y,Y,Y,Y,Y,Y,Y,Z,Y,Y,Y,Z,Z,Z,Z,Z] rfl rfl (any_of HT_.out (by kernel_rfl)) (fun _ _ _ h=>h) (Or.inl ⟨by rfl,?_⟩) ?_ ?_
     rotate_left
     ·intro w';go_simp;with_reducible rfl
     rotate_left
     ·simp only [Act.put,sa_,sb_,sc_,i64_w];rfl
     refine take_ (i:=19) (N:=some 51) (v:=?_) (a':=?_) #[Y,Y,Y,Y,Y,Y,Y,Y,Y,Y,Y,Y,Y,Y,Y,Y,Y,Y,Y,Y,Y,Y,Y,Z,Z,Z,Z,Z] rfl rfl (take_ofW HT_.out HW_.out (by kernel_rfl)) (fun _ _ _ h=>h) (Or.inl ⟨by rfl,?_⟩) hHeld ?_ ?_
     rotate_left
     ·rintro w' ⟨s0,s1,s2,s3⟩
      go_simp
      with_reducible rfl
     rotate_left
     ·simp only [Act.put,sa_,sb_,sc_,i64_w];rfl
     refine one_ (i:=23) (N:=some 55) #[Y,Y,Y,Y,Y,Y,Y,Y,Y,Y,Y,Y,Y,Y,Y,Y,Y,Y,Y,Y,Y,Y,Y,Y,Z,Z,Z,Z] rfl rfl (one_of HT_.out (by kernel_rfl)) (by decide) (fun K hK=>?_)
     refine goes_ Try.func33 (by kernel_rfl) rfl #[.int .i64 t540,.int .i64 t541,.int .i64 t542] (by rfl) rfl rfl (by (try simp only [List.map_toArray,List.map_cons,List.map_nil]);first|done|rfl|(simp only [List.length_drop,List.length_take];rfl)) ?_
     with_reducible refine (spec_HeadOf.calls k t540 t541 t542 t556 t557 _ A24.out).mono ?_
     rintro e w30 ⟨v558,rfl,ho0,hb⟩
     refine ⟨_,rfl,?_⟩
     have n0_:=zz5 (jz5 (by (with_reducible repeat (first|apply az5|apply bz5|apply cz5));exact HO538.out) (fz5 ho0) hb)
     have n1_:=zz5 (jz5 (by (with_reducible repeat (first|apply az5|apply bz5|apply cz5));exact HO546.out) (fz5 ho0) hb)
     have n2_:=zz5 (jz5 (by (with_reducible repeat (first|apply az5|apply bz5|apply cz5));exact HO551.out) (fz5 ho0) hb)
     have n3_:=zz5 (jz5 (by (with_reducible repeat (first|apply az5|apply bz5|apply cz5));exact HO555.out) (fz5 ho0) hb)
     have n4_:=zz5 (Kd.R_lower (kz5 (kz5 (kz5 (kz5 ho0 (Kd.R_lt (by (with_reducible repeat (first|apply az5|apply bz5|apply cz5));exact HO538.out))) (Kd.R_lt (by (with_reducible repeat (first|apply az5|apply bz5|apply cz5));exact HO546.out))) (Kd.R_lt (by (with_reducible repeat (first|apply az5|apply bz5|apply cz5));exact HO551.out))) (Kd.R_lt (by (with_reducible repeat (first|apply az5|apply bz5|apply cz5));exact HO555.out))) (below_size (by repeat(first|(with_reducible first|exact HB.out|apply by5|apply ay5|apply cy5|refine dy5 ?_ GE539.out|refine dy5 ?_ GE547.out)|exact HB.out))))
     have n5_:=zz5 (hy5 (g:=gb539) (o:=.cells #[.int .i64 t535,.slice Ao13 t536.length co13] 27 (0,0)) (by (with_reducible repeat (first|refine ey5 ?_ _|refine gy5 ?_|refine fy5 ?_ _));exact BK539.out) hb)
     have n6_:=zz5 (hy5 (g:=gb547) (o:=.cells #[.int .i64 t543,.slice Ao19 t544.length co19] 27 (0,0)) (by (with_reducible repeat (first|refine ey5 ?_ _|refine gy5 ?_|refine fy5 ?_ _));exact BK547.out) hb)
     have n7_:=zz5 (below_step (by repeat(first|(with_reducible first|exact HB.out|apply by5|apply ay5|apply cy5|refine dy5 ?_ GE539.out|refine dy5 ?_ GE547.out)|exact HB.out)) hb)
     clear HO538
     clear HO546
     clear HO551
     clear HO555
     clear BK539
     clear BK547
     clear HB
     have HO538:=n0_
     have HO546:=n1_
     have HO551:=n2_
     have HO555:=n3_
     have HO559:=n4_
     have BK539:=n5_
     have BK547:=n6_
     have HB:=n7_
     clear n0_ n1_ n2_ n3_ n4_ n5_ n6_ n7_
     (try clear hb);(try clear hb2);(try clear hk)
     (try clear hi)
     (try clear ho0)
     obtain⟨Ao31,co31,eo31⟩:=Kd.R_slice HO559.out
     (first|subst eo31|(injection eo31 with f1_ f2_ f3_;have f4_:=f1_.symm;have f5_:=f3_.symm;clear f1_ f2_ f3_;subst f4_;subst f5_))
     refine hK.out _ _ ⟨(blk_cell BK539.out 0).trans rfl,(blk_cell BK539.out 1).trans rfl,(blk_cell BK547.out 0).trans rfl,(blk_cell BK547.out 1).trans rfl⟩ (fun hHeld=>?_)
     clear hK K
     refine norm_ (a':=?_) ?_ ?_
     rotate_left
     ·show Act.put _ (some 55) _ = _
      simp only [Act.put,sa_,sb_,sc_,i64_w]
      rfl
     refine pure_ (i:=24) (N:=some 56) (v:=?_) (a':=?_) #[Y,Y,Y,Y,Y,Y,Y,Y,Y,Y,Y,Y,Y,Y,Y,Y,Y,Y,Y,Y,Y,Y,Y,Y,Y,Z,Z,Z] rfl rfl (any_of HT_.out (by kernel_rfl)) (fun _ _ _ h=>h) (Or.inl ⟨by rfl,?_⟩) ?_ ?_
     rotate_left
     ·intro w';go_simp;with_reducible rfl
     rotate_left
     ·simp only [Act.put,sa_,sb_,sc_,i64_w];rfl
     refine one_ (i:=25) (N:=some 57) #[Y,Y,Y,Y,Y,Y,Y,Y,Y,Y,Y,Y,Y,Y,Y,Y,Y,Y,Y,Y,Y,Y,Y,Y,Y,Y,Z,Z] rfl rfl (one_of HT_.out (by kernel_rfl)) (by decide) (fun K hK=>?_)
     refine goes_ Try.func19 (by kernel_rfl) rfl #[.slice Ao19 t544.length co19,.slice Ao31 t557.length co31] (by rfl) rfl rfl (by (try simp only [List.map_toArray,List.map_cons,List.map_nil]);first|done|rfl|(simp only [List.length_drop,List.length_take];rfl)) ?_
     with_reducible refine (laws_lwSame.calls _ _ t544 _ _ t557 t560 _ ?side1 ?side2 ?side3 ?side4 A25.out).mono ?_
     (case side1=>repeat (first|exact (iz5 HO546.out).2.2|(with_reducible refine Kd.C_alloc ?_ _)|(with_reducible refine Kd.C_drewN ?_ _)|(with_reducible refine Kd.C_drew ?_)))
     (case side2=>exact (iz5 HO546.out).2.1)
     (case side3=>repeat (first|exact (iz5 HO559.out).2.2|(with_reducible refine Kd.C_alloc ?_ _)|(with_reducible refine Kd.C_drewN ?_ _)|(with_reducible refine Kd.C_drew ?_)))
     (case side4=>exact (iz5 HO559.out).2.1)
     rintro e w' ⟨rfl,⟨nd,rfl⟩⟩
     refine ⟨_,rfl,?_⟩
     refine hK.out _ _ ⟨(blk_cell BK539.out 0).trans rfl,(blk_cell BK539.out 1).trans rfl,(blk_cell BK547.out 0).trans rfl,(blk_cell BK547.out 1).trans rfl⟩ (fun hHeld=>?_)
     clear hK K
     refine norm_ (a':=?_) ?_ ?_
     rotate_left
     ·show Act.put _ (some 57) _ = _
      simp only [Act.put,sa_,sb_,sc_,i64_w]
      rfl
     refine pure_ (i:=26) (N:=some 58) (v:=?_) (a':=?_) #[Y,Y,Y,Y,Y,Y,Y,Y,Y,Y,Y,Y,Y,Y,Y,Y,Y,Y,Y,Y,Y,Y,Y,Y,Y,Y,Y,Z] rfl rfl (any_of HT_.out (by kernel_rfl)) (fun _ _ _ h=>h) (Or.inl ⟨by rfl,?_⟩) ?_ ?_
     rotate_left
     ·intro w';go_simp;with_reducible rfl
     rotate_left
     ·simp only [Act.put,sa_,sb_,sc_,i64_w];rfl
     refine pure_ (i:=27) (N:=some 59) (v:=?_) (a':=?_) #[Y,Y,Y,Y,Y,Y,Y,Y,Y,Y,Y,Y,Y,Y,Y,Y,Y,Y,Y,Y,Y,Y,Y,Y,Y,Y,Y,Y] rfl rfl (any_of HT_.out (by kernel_rfl)) (fun _ _ _ h=>h) (Or.inl ⟨by rfl,?_⟩) ?_ ?_
     rotate_left
     ·intro w';go_simp;with_reducible rfl
     rotate_left
     ·simp only [Act.put,sa_,sb_,sc_,i64_w];rfl
     refine done_ (done_of HT_.out (by kernel_rfl)) ?_
     try go_wp2
     go_meet
     case rel=>exact⟨_,(!t560),(by first|rfl|(simp;done)|(simp [*];done)),H',⟨by first|omega|exact Nat.le_refl _⟩,⟨by (with_reducible repeat (first|apply az5|apply bz5|apply cz5));exact gz5 HO538.out (fun _ hk=>hk.1.1.1)⟩,⟨by (with_reducible repeat (first|apply az5|apply bz5|apply cz5));exact gz5 HO546.out (fun _ hk=>hk.1.1.1)⟩,⟨by (with_reducible repeat (first|refine ey5 ?_ _|refine gy5 ?_|refine fy5 ?_ _));exact BK539.out⟩,⟨by (with_reducible repeat (first|refine ey5 ?_ _|refine gy5 ?_|refine fy5 ?_ _));exact BK547.out⟩,⟨by repeat (first|(with_reducible first|exact HB.out|apply by5|apply ay5|apply cy5|refine dy5 ?_ GE539.out|refine dy5 ?_ GE547.out)|exact HB.out)⟩⟩
    ·rw [if_neg c23] at H
     have c23b0 : (t543 == t552) = false:=beq_eq_false_iff_ne.mpr c23
     have c23b1 : (t543 != t552) = true:=bne_iff_ne.mpr c23
     have H':=zz5 H
     clear H
     try go_wp2
     have n0_ : Aside0 (Kd.R (Kd.int .u8) 5 ((w16.setCell ⟨gb547,0,none⟩ (.int .i64 t543)).setCell ⟨gb547,1,none⟩ (.slice Ao19 t544.length co19)) w.heap.size (fun k_=>some k_ ≠ (.slice Ao19 t544.length co19 : Value).ownBlock) (.slice Ao13 t536.length co13) t536):=⟨by (with_reducible repeat (first|apply az5|apply bz5|apply cz5));exact gz5 (ez5 (p:=⟨gb547,1,none⟩) (ez5 (p:=⟨gb547,0,none⟩) (hz5 HO538.out BK547.out (by decide)) (fun _ hk=>hk.2) (.int .i64 t543)) (fun _ hk=>hk.2) (.slice Ao19 t544.length co19)) (fun _ hk=>hk.1.2)⟩
     have n1_ : Aside0 (Kd.R (Kd.int .u8) 5 ((w16.setCell ⟨gb547,0,none⟩ (.int .i64 t543)).setCell ⟨gb547,1,none⟩ (.slice Ao19 t544.length co19)) w.heap.size (fun k_=>some k_ ≠ (.slice Ao13 t536.length co13 : Value).ownBlock) (.slice Ao19 t544.length co19) t544):=⟨by (with_reducible repeat (first|apply az5|apply bz5|apply cz5));exact gz5 (ez5 (p:=⟨gb547,1,none⟩) (ez5 (p:=⟨gb547,0,none⟩) (hz5 HO546.out BK547.out (by decide)) (fun _ hk=>hk.2) (.int .i64 t543)) (fun _ hk=>hk.2) (.slice Ao19 t544.length co19)) (fun _ hk=>hk.1.2)⟩
     have n2_ : Aside0 (((w16.setCell ⟨gb547,0,none⟩ (.int .i64 t543)).setCell ⟨gb547,1,none⟩ (.slice Ao19 t544.length co19)).heap[gb539]? = some (.cells #[.int .i64 t535,.slice Ao13 t536.length co13] 27 (0,0))):=⟨by (with_reducible repeat (first|refine ey5 ?_ _|refine gy5 ?_|refine fy5 ?_ _));refine blk_far ?_ NB539_547.out _;(with_reducible repeat (first|refine ey5 ?_ _|refine gy5 ?_|refine fy5 ?_ _));refine blk_far ?_ NB539_547.out _;(with_reducible repeat (first|refine ey5 ?_ _|refine gy5 ?_|refine fy5 ?_ _));exact BK539.out⟩
     have n3_ : Aside0 (((w16.setCell ⟨gb547,0,none⟩ (.int .i64 t543)).setCell ⟨gb547,1,none⟩ (.slice Ao19 t544.length co19)).heap[gb547]? = some (.cells #[.int .i64 t543,.slice Ao19 t544.length co19] 27 (0,0))):=⟨by (with_reducible repeat (first|refine ey5 ?_ _|refine gy5 ?_|refine fy5 ?_ _));refine blk_put (cs:=#[.int .i64 t543,.slice none 0 0]) ?_ 1 _ rfl;(with_reducible repeat (first|refine ey5 ?_ _|refine gy5 ?_|refine fy5 ?_ _));refine blk_put (cs:=#[.int .i64 0,.slice none 0 0]) ?_ 0 _ rfl;(with_reducible repeat (first|refine ey5 ?_ _|refine gy5 ?_|refine fy5 ?_ _));exact BK547.out⟩
     have n4_ : Aside0 (Below w.heap.size w ((w16.setCell ⟨gb547,0,none⟩ (.int .i64 t543)).setCell ⟨gb547,1,none⟩ (.slice Ao19 t544.length co19))):=⟨by repeat (first|(with_reducible first|exact HB.out|apply by5|apply ay5|apply cy5|refine dy5 ?_ GE539.out|refine dy5 ?_ GE547.out)|exact HB.out)⟩
     (try clear HO538);(try clear HO546);(try clear BK539)
     (try clear BK547)
     (try clear HB)
     generalize ((w16.setCell ⟨gb547,0,none⟩ (.int .i64 t543)).setCell ⟨gb547,1,none⟩ (.slice Ao19 t544.length co19)) = w32 at n0_ n1_ n2_ n3_ n4_ ⊢
     have HO538:=n0_
     have HO546:=n1_
     have BK539:=n2_
     have BK547:=n3_
     have HB:=n4_
     clear n0_ n1_ n2_ n3_ n4_
     have n0_:=zz5 (cz5 HO538.out)
     have n1_:=zz5 (cz5 HO546.out)
     have n2_:=zz5 (gy5 BK539.out)
     have n3_:=zz5 (gy5 BK547.out)
     have n4_:=zz5 (cy5 HB.out)
     clear HO538
     clear HO546
     clear BK539
     clear BK547
     clear HB
     have HO538:=n0_
     have HO546:=n1_
     have BK539:=n2_
     have BK547:=n3_
     have HB:=n4_
     clear n0_ n1_ n2_ n3_ n4_
     refine start_ (n:=28) (S:=fun w'=>w'.cell? ⟨gb539,0,none⟩ = some (.int .i64 t535) ∧ w'.cell? ⟨gb539,1,none⟩ = some (.slice Ao13 t536.length co13) ∧ w'.cell? ⟨gb547,0,none⟩ = some (.int .i64 t543) ∧ w'.cell? ⟨gb547,1,none⟩ = some (.slice Ao19 t544.length co19)) (ds:=[]) #[Z,Z,Z,Z,Z,Z,Z,Z,Z,Z,Z,Z,Z,Z,Z,Z,Z,Z,Z,Z,Z,Z,Z,Z,Z,Z,Z,Z] (by kernel_rfl) rfl rfl ⟨(blk_cell BK539.out 0).trans rfl,(blk_cell BK539.out 1).trans rfl,(blk_cell BK547.out 0).trans rfl,(blk_cell BK547.out 1).trans rfl⟩ (fun hHeld=>?_);refine with_tabW laws_FnNonces.tab7 laws_FnNonces.bits7 (fun HT_ HW_=>?_)
     generalize w32.drew = w33 at HO538 HO546 BK539 BK547 HB hHeld ⊢
     refine pure_ (i:=0) (N:=some 32) (v:=?_) (a':=?_) #[Y,Z,Z,Z,Z,Z,Z,Z,Z,Z,Z,Z,Z,Z,Z,Z,Z,Z,Z,Z,Z,Z,Z,Z,Z,Z,Z,Z] rfl rfl (any_of HT_.out (by kernel_rfl)) (fun _ _ _ h=>h) (Or.inl ⟨by rfl,?_⟩) ?_ ?_
     rotate_left
     ·intro w';go_simp;with_reducible rfl
     rotate_left
     ·simp only [Act.put,sa_,sb_,sc_,i64_w];rfl
     refine pure_ (i:=2) (N:=some 34) (v:=?_) (a':=?_) #[Y,Z,Y,Z,Z,Z,Z,Z,Z,Z,Z,Z,Z,Z,Z,Z,Z,Z,Z,Z,Z,Z,Z,Z,Z,Z,Z,Z] rfl rfl (any_of HT_.out (by kernel_rfl)) (fun _ _ _ h=>h) (Or.inl ⟨by rfl,?_⟩) ?_ ?_
     rotate_left
     ·intro w';go_simp;with_reducible rfl
     rotate_left
     ·simp only [Act.put,sa_,sb_,sc_,i64_w];rfl
     refine pure_ (i:=3) (N:=some 35) (v:=?_) (a':=?_) #[Y,Z,Y,Y,Z,Z,Z,Z,Z,Z,Z,Z,Z,Z,Z,Z,Z,Z,Z,Z,Z,Z,Z,Z,Z,Z,Z,Z] rfl rfl (any_of HT_.out (by kernel_rfl)) (fun _ _ _ h=>h) (Or.inl ⟨by rfl,?_⟩) ?_ ?_
     rotate_left
     ·intro w';go_simp;with_reducible rfl
     rotate_left
     ·simp only [Act.put,sa_,sb_,sc_,i64_w];rfl
     refine take_ (i:=1) (N:=some 33) (v:=?_) (a':=?_) #[Y,Y,Y,Y,Z,Z,Z,Z,Z,Z,Z,Z,Z,Z,Z,Z,Z,Z,Z,Z,Z,Z,Z,Z,Z,Z,Z,Z] rfl rfl (take_ofW HT_.out HW_.out (by kernel_rfl)) (fun _ _ _ h=>h) (Or.inl ⟨by rfl,?_⟩) hHeld ?_ ?_
     rotate_left
     ·rintro w' ⟨s0,s1,s2,s3⟩
      go_simp
      with_reducible rfl
     rotate_left
     ·simp only [Act.put,sa_,sb_,sc_,i64_w];rfl
     refine one_ (i:=4) (N:=some 36) #[Y,Y,Y,Y,Y,Z,Z,Z,Z,Z,Z,Z,Z,Z,Z,Z,Z,Z,Z,Z,Z,Z,Z,Z,Z,Z,Z,Z] rfl rfl (one_of HT_.out (by kernel_rfl)) (by decide) (fun K hK=>?_)
     refine goes_ Try.func32 (by kernel_rfl) rfl #[.int .i64 t533,.int .i64 t534] (by rfl) rfl rfl (by (try simp only [List.map_toArray,List.map_cons,List.map_nil]);first|done|rfl|(simp only [List.length_drop,List.length_take];rfl)) ?_
     with_reducible refine (spec_NonceOf.calls k t533 t534 t548 t549 _ A20.out).mono ?_
     rintro e w34 ⟨v550,rfl,ho0,hb⟩
     refine ⟨_,rfl,?_⟩
     have n0_:=zz5 (jz5 (by (with_reducible repeat (first|apply az5|apply bz5|apply cz5));exact HO538.out) (fz5 ho0) hb)
     have n1_:=zz5 (jz5 (by (with_reducible repeat (first|apply az5|apply bz5|apply cz5));exact HO546.out) (fz5 ho0) hb)
     have n2_:=zz5 (Kd.R_lower (kz5 (kz5 ho0 (Kd.R_lt (by (with_reducible repeat (first|apply az5|apply bz5|apply cz5));exact HO538.out))) (Kd.R_lt (by (with_reducible repeat (first|apply az5|apply bz5|apply cz5));exact HO546.out))) (below_size (by repeat(first|(with_reducible first|exact HB.out|apply by5|apply ay5|apply cy5|refine dy5 ?_ GE539.out|refine dy5 ?_ GE547.out)|exact HB.out))))
     have n3_:=zz5 (hy5 (g:=gb539) (o:=.cells #[.int .i64 t535,.slice Ao13 t536.length co13] 27 (0,0)) (by (with_reducible repeat (first|refine ey5 ?_ _|refine gy5 ?_|refine fy5 ?_ _));exact BK539.out) hb)
     have n4_:=zz5 (hy5 (g:=gb547) (o:=.cells #[.int .i64 t543,.slice Ao19 t544.length co19] 27 (0,0)) (by (with_reducible repeat (first|refine ey5 ?_ _|refine gy5 ?_|refine fy5 ?_ _));exact BK547.out) hb)
     have n5_:=zz5 (below_step (by repeat(first|(with_reducible first|exact HB.out|apply by5|apply ay5|apply cy5|refine dy5 ?_ GE539.out|refine dy5 ?_ GE547.out)|exact HB.out)) hb)
     clear HO538
     clear HO546
     clear BK539
     clear BK547
     clear HB
     have HO538:=n0_
     have HO546:=n1_
     have HO551:=n2_
     have BK539:=n3_
     have BK547:=n4_
     have HB:=n5_
     clear n0_ n1_ n2_ n3_ n4_ n5_
     (try clear hb);(try clear hb2);(try clear hk)
     (try clear hi)
     (try clear ho0)
     refine hK.out _ _ ⟨(blk_cell BK539.out 0).trans rfl,(blk_cell BK539.out 1).trans rfl,(blk_cell BK547.out 0).trans rfl,(blk_cell BK547.out 1).trans rfl⟩ (fun hHeld=>?_)
     clear hK K
     refine norm_ (a':=?_) ?_ ?_
     rotate_left
     ·show Act.put _ (some 36) _ = _
      simp only [Act.put,sa_,sb_,sc_,i64_w]
      rfl
     refine pure_ (i:=5) (N:=some 37) (v:=?_) (a':=?_) #[Y,Y,Y,Y,Y,Y,Z,Z,Z,Z,Z,Z,Z,Z,Z,Z,Z,Z,Z,Z,Z,Z,Z,Z,Z,Z,Z,Z] rfl rfl (any_of HT_.out (by kernel_rfl)) (fun _ _ _ h=>h) (Or.inl ⟨by rfl,?_⟩) ?_ ?_
     rotate_left
     ·intro w';go_simp;with_reducible rfl
     rotate_left
     ·simp only [Act.put,sa_,sb_,sc_,i64_w];rfl
     refine pure_ (i:=6) (N:=some 38) (v:=?_) (a':=?_) #[Y,Y,Y,Y,Y,Y,Y,Z,Z,Z,Z,Z,Z,Z,Z,Z,Z,Z,Z,Z,Z,Z,Z,Z,Z,Z,Z,Z] rfl rfl (any_of HT_.out (by kernel_rfl)) (fun _ _ _ h=>h) (Or.inl ⟨by rfl,?_⟩) ?_ ?_
     rotate_left
     ·intro w';go_simp;with_reducible rfl
     rotate_left
     ·simp only [Act.put,sa_,sb_,sc_,i64_w];rfl
     refine pure_ (i:=7) (N:=some 39) (v:=?_) (a':=?_) #[Y,Y,Y,Y,Y,Y,Y,Y,Z,Z,Z,Z,Z,Z,Z,Z,Z,Z,Z,Z,Z,Z,Z,Z,Z,Z,Z,Z] rfl rfl (any_of HT_.out (by kernel_rfl)) (fun _ _ _ h=>h) (Or.inl ⟨by rfl,?_⟩) ?_ ?_
     rotate_left
     ·intro w';go_simp;with_reducible rfl
     rotate_left
     ·simp only [Act.put,sa_,sb_,sc_,i64_w];rfl
     refine pure_ (i:=8) (N:=some 40) (v:=?_) (a':=?_) #[Y,Y,Y,Y,Y,Y,Y,Y,Y,Z,Z,Z,Z,Z,Z,Z,Z,Z,Z,Z,Z,Z,Z,Z,Z,Z,Z,Z] rfl rfl (any_of HT_.out (by kernel_rfl)) (fun _ _ _ h=>h) (Or.inl ⟨by rfl,?_⟩) ?_ ?_
     rotate_left
     ·intro w';go_simp;with_reducible rfl
     rotate_left
     ·simp only [Act.put,sa_,sb_,sc_,i64_w];rfl
     refine pure_ (i:=10) (N:=some 42) (v:=?_) (a':=?_) #[Y,Y,Y,Y,Y,Y,Y,Y,Y,Z,Y,Z,Z,Z,Z,Z,Z,Z,Z,Z,Z,Z,Z,Z,Z,Z,Z,Z] rfl rfl (any_of HT_.out (by kernel_rfl)) (fun _ _ _ h=>h) (Or.inl ⟨by rfl,?_⟩) ?_ ?_
     rotate_left
     ·intro w';go_simp;with_reducible rfl
     rotate_left
     ·simp only [Act.put,sa_,sb_,sc_,i64_w];rfl
     refine pure_ (i:=11) (N:=some 43) (v:=?_) (a':=?_) #[Y,Y,Y,Y,Y,Y,Y,Y,Y,Z,Y,Y,Z,Z,Z,Z,Z,Z,Z,Z,Z,Z,Z,Z,Z,Z,Z,Z] rfl rfl (any_of HT_.out (by kernel_rfl)) (fun _ _ _ h=>h) (Or.inl ⟨by rfl,?_⟩) ?_ ?_
     rotate_left
     ·intro w';go_simp;with_reducible rfl
     rotate_left
     ·simp only [Act.put,sa_,sb_,sc_,i64_w];rfl
     refine pure_ (i:=12) (N:=some 44) (v:=?_) (a':=?_) #[Y,Y,Y,Y,Y,Y,Y,Y,Y,Z,Y,Y,Y,Z,Z,Z,Z,Z,Z,Z,Z,Z,Z,Z,Z,Z,Z,Z] rfl rfl (any_of HT_.out (by kernel_rfl)) (fun _ _ _ h=>h) (Or.inl ⟨by rfl,?_⟩) ?_ ?_
     rotate_left
     ·intro w';go_simp;with_reducible rfl
     rotate_left
     ·simp only [Act.put,sa_,sb_,sc_,i64_w];rfl
     refine take_ (i:=9) (N:=some 41) (v:=?_) (a':=?_) #[Y,Y,Y,Y,Y,Y,Y,Y,Y,Y,Y,Y,Y,Z,Z,Z,Z,Z,Z,Z,Z,Z,Z,Z,Z,Z,Z,Z] rfl rfl (take_ofW HT_.out HW_.out (by kernel_rfl)) (fun _ _ _ h=>h) (Or.inl ⟨by rfl,?_⟩) hHeld ?_ ?_
     rotate_left
     ·rintro w' ⟨s0,s1,s2,s3⟩
      go_simp
      with_reducible rfl
     rotate_left
     ·simp only [Act.put,sa_,sb_,sc_,i64_w];rfl
     refine one_ (i:=13) (N:=some 45) #[Y,Y,Y,Y,Y,Y,Y,Y,Y,Y,Y,Y,Y,Y,Z,Z,Z,Z,Z,Z,Z,Z,Z,Z,Z,Z,Z,Z] rfl rfl (one_of HT_.out (by kernel_rfl)) (by decide) (fun K hK=>?_)
     refine goes_ Try.func33 (by kernel_rfl) rfl #[.int .i64 t540,.int .i64 t541,.int .i64 t542] (by rfl) rfl rfl (by (try simp only [List.map_toArray,List.map_cons,List.map_nil]);first|done|rfl|(simp only [List.length_drop,List.length_take];rfl)) ?_
     with_reducible refine (spec_HeadOf.calls k t540 t541 t542 t552 t553 _ A22.out).mono ?_
     rintro e w35 ⟨v554,rfl,ho0,hb⟩
     refine ⟨_,rfl,?_⟩
     have n0_:=zz5 (jz5 (by (with_reducible repeat (first|apply az5|apply bz5|apply cz5));exact HO538.out) (fz5 ho0) hb)
     have n1_:=zz5 (jz5 (by (with_reducible repeat (first|apply az5|apply bz5|apply cz5));exact HO546.out) (fz5 ho0) hb)
     have n2_:=zz5 (jz5 (by (with_reducible repeat (first|apply az5|apply bz5|apply cz5));exact HO551.out) (fz5 ho0) hb)
     have n3_:=zz5 (Kd.R_lower (kz5 (kz5 (kz5 ho0 (Kd.R_lt (by (with_reducible repeat (first|apply az5|apply bz5|apply cz5));exact HO538.out))) (Kd.R_lt (by (with_reducible repeat (first|apply az5|apply bz5|apply cz5));exact HO546.out))) (Kd.R_lt (by (with_reducible repeat (first|apply az5|apply bz5|apply cz5));exact HO551.out))) (below_size (by repeat(first|(with_reducible first|exact HB.out|apply by5|apply ay5|apply cy5|refine dy5 ?_ GE539.out|refine dy5 ?_ GE547.out)|exact HB.out))))
     have n4_:=zz5 (hy5 (g:=gb539) (o:=.cells #[.int .i64 t535,.slice Ao13 t536.length co13] 27 (0,0)) (by (with_reducible repeat (first|refine ey5 ?_ _|refine gy5 ?_|refine fy5 ?_ _));exact BK539.out) hb)
     have n5_:=zz5 (hy5 (g:=gb547) (o:=.cells #[.int .i64 t543,.slice Ao19 t544.length co19] 27 (0,0)) (by (with_reducible repeat (first|refine ey5 ?_ _|refine gy5 ?_|refine fy5 ?_ _));exact BK547.out) hb)
     have n6_:=zz5 (below_step (by repeat(first|(with_reducible first|exact HB.out|apply by5|apply ay5|apply cy5|refine dy5 ?_ GE539.out|refine dy5 ?_ GE547.out)|exact HB.out)) hb)
     clear HO538
     clear HO546
     clear HO551
     clear BK539
     clear BK547
     clear HB
     have HO538:=n0_
     have HO546:=n1_
     have HO551:=n2_
     have HO555:=n3_
     have BK539:=n4_
     have BK547:=n5_
     have HB:=n6_
     clear n0_ n1_ n2_ n3_ n4_ n5_ n6_
     (try clear hb);(try clear hb2);(try clear hk)
     (try clear hi)
     (try clear ho0)
     refine hK.out _ _ ⟨(blk_cell BK539.out 0).trans rfl,(blk_cell BK539.out 1).trans rfl,(blk_cell BK547.out 0).trans rfl,(blk_cell BK547.out 1).trans rfl⟩ (fun hHeld=>?_)
     clear hK K
     refine norm_ (a':=?_) ?_ ?_
     rotate_left
     ·show Act.put _ (some 45) _ = _
      simp only [Act.put,sa_,sb_,sc_,i64_w]
      rfl
     refine pure_ (i:=14) (N:=some 46) (v:=?_) (a':=?_) #[Y,Y,Y,Y,Y,Y,Y,Y,Y,Y,Y,Y,Y,Y,Y,Z,Z,Z,Z,Z,Z,Z,Z,Z,Z,Z,Z,Z] rfl rfl (any_of HT_.out (by kernel_rfl)) (fun _ _ _ h=>h) (Or.inl ⟨by rfl,?_⟩) ?_ ?_
     rotate_left
     ·intro w';go_simp;with_reducible rfl
     rotate_left
     ·simp only [Act.put,sa_,sb_,sc_,i64_w];rfl
     refine pure_ (i:=15) (N:=some 47) (v:=?_) (a':=?_) #[Y,Y,Y,Y,Y,Y,Y,Y,Y,Y,Y,Y,Y,Y,Y,Y,Z,Z,Z,Z,Z,Z,Z,Z,Z,Z,Z,Z] rfl rfl (any_of HT_.out (by kernel_rfl)) (fun _ _ _ h=>h) (Or.inl ⟨by rfl,?_⟩) ?_ ?_
     rotate_left
     ·intro w';go_simp;with_reducible rfl
     rotate_left
     ·simp only [Act.put,sa_,sb_,sc_,i64_w];rfl
     refine pure_ (i:=16) (N:=some 48) (v:=?_) (a':=?_) #[Y,Y,Y,Y,Y,Y,Y,Y,Y,Y,Y,Y,Y,Y,Y,Y,Y,Z,Z,Z,Z,Z,Z,Z,Z,Z,Z,Z] rfl rfl (any_of HT_.out (by kernel_rfl)) (fun _ _ _ h=>h) (Or.inl ⟨by rfl,?_⟩) ?_ ?_
     rotate_left
     ·intro w';go_simp;with_reducible rfl
     rotate_left
     ·simp only [Act.put,sa_,sb_,sc_,i64_w];rfl
     refine pure_ (i:=17) (N:=some 49) (v:=?_) (a':=?_) #[Y,Y,Y,Y,Y,Y,Y,Y,Y,Y,Y,Y,Y,Y,Y,Y,Y,Y,Z,Z,Z,Z,Z,Z,Z,Z,Z,Z] rfl rfl (any_of HT_.out (by kernel_rfl)) (fun _ _ _ h=>h) (Or.inl ⟨by rfl,?_⟩) ?_ ?_
     rotate_left
     ·intro w';go_simp;with_reducible rfl
     rotate_left
     ·simp only [Act.put,sa_,sb_,sc_,i64_w];rfl
     refine pure_ (i:=18) (N:=some 50) (v:=undef) (a':=?_) #[Y,Y,Y,Y,Y,Y,Y,Y,Y,Y,Y,Y,Y,Y,Y,Y,Y,Y,Y,Z,Z,Z,Z,Z,Z,Z,Z,Z] rfl rfl (any_of HT_.out (by kernel_rfl)) (fun _ _ _ h=>h) (Or.inr ⟨by rfl,rfl⟩) ?_ ?_
     rotate_left
     ·simp only [Act.put,sa_,sb_,sc_,i64_w];rfl
     refine pure_ (i:=19) (N:=some 51) (v:=undef) (a':=?_) #[Y,Y,Y,Y,Y,Y,Y,Y,Y,Y,Y,Y,Y,Y,Y,Y,Y,Y,Y,Y,Z,Z,Z,Z,Z,Z,Z,Z] rfl rfl (any_of HT_.out (by kernel_rfl)) (fun _ _ _ h=>h) (Or.inr ⟨by rfl,rfl⟩) ?_ ?_
     rotate_left
     ·simp only [Act.put,sa_,sb_,sc_,i64_w];rfl
     refine pure_ (i:=20) (N:=some 52) (v:=undef) (a':=?_) #[Y,Y,Y,Y,Y,Y,Y,Y,Y,Y,Y,Y,Y,Y,Y,Y,Y,Y,Y,Y,Y,Z,Z,Z,Z,Z,Z,Z] rfl rfl (any_of HT_.out (by kernel_rfl)) (fun _ _ _ h=>h) (Or.inr ⟨by rfl,rfl⟩) ?_ ?_
     rotate_left
     ·simp only [Act.put,sa_,sb_,sc_,i64_w];rfl
     refine pure_ (i:=21) (N:=some 53) (v:=undef) (a':=?_) #[Y,Y,Y,Y,Y,Y,Y,Y,Y,Y,Y,Y,Y,Y,Y,Y,Y,Y,Y,Y,Y,Y,Z,Z,Z,Z,Z,Z] rfl rfl (any_of HT_.out (by kernel_rfl)) (fun _ _ _ h=>h) (Or.inr ⟨by rfl,rfl⟩) ?_ ?_
     rotate_left
     ·simp only [Act.put,sa_,sb_,sc_,i64_w];rfl
     refine pure_ (i:=22) (N:=some 54) (v:=undef) (a':=?_) #[Y,Y,Y,Y,Y,Y,Y,Y,Y,Y,Y,Y,Y,Y,Y,Y,Y,Y,Y,Y,Y,Y,Y,Z,Z,Z,Z,Z] rfl rfl (any_of HT_.out (by kernel_rfl)) (fun _ _ _ h=>h) (Or.inr ⟨by rfl,rfl⟩) ?_ ?_
     rotate_left
     ·simp only [Act.put,sa_,sb_,sc_,i64_w];rfl
     refine pure_ (i:=23) (N:=some 55) (v:=undef) (a':=?_) #[Y,Y,Y,Y,Y,Y,Y,Y,Y,Y,Y,Y,Y,Y,Y,Y,Y,Y,Y,Y,Y,Y,Y,Y,Z,Z,Z,Z] rfl rfl (any_of HT_.out (by kernel_rfl)) (fun _ _ _ h=>h) (Or.inr ⟨by rfl,rfl⟩) ?_ ?_
     rotate_left
     ·simp only [Act.put,sa_,sb_,sc_,i64_w];rfl
     refine pure_ (i:=24) (N:=some 56) (v:=undef) (a':=?_) #[Y,Y,Y,Y,Y,Y,Y,Y,Y,Y,Y,Y,Y,Y,Y,Y,Y,Y,Y,Y,Y,Y,Y,Y,Y,Z,Z,Z] rfl rfl (any_of HT_.out (by kernel_rfl)) (fun _ _ _ h=>h) (Or.inr ⟨by rfl,rfl⟩) ?_ ?_
     rotate_left
     ·simp only [Act.put,sa_,sb_,sc_,i64_w];rfl
     refine pure_ (i:=25) (N:=some 57) (v:=undef) (a':=?_) #[Y,Y,Y,Y,Y,Y,Y,Y,Y,Y,Y,Y,Y,Y,Y,Y,Y,Y,Y,Y,Y,Y,Y,Y,Y,Y,Z,Z] rfl rfl (any_of HT_.out (by kernel_rfl)) (fun _ _ _ h=>h) (Or.inr ⟨by rfl,rfl⟩) ?_ ?_
     rotate_left
     ·simp only [Act.put,sa_,sb_,sc_,i64_w];rfl
     refine pure_ (i:=26) (N:=some 58) (v:=undef) (a':=?_) #[Y,Y,Y,Y,Y,Y,Y,Y,Y,Y,Y,Y,Y,Y,Y,Y,Y,Y,Y,Y,Y,Y,Y,Y,Y,Y,Y,Z] rfl rfl (any_of HT_.out (by kernel_rfl)) (fun _ _ _ h=>h) (Or.inr ⟨by rfl,rfl⟩) ?_ ?_
     rotate_left
     ·simp only [Act.put,sa_,sb_,sc_,i64_w];rfl
     refine pure_ (i:=27) (N:=some 59) (v:=?_) (a':=?_) #[Y,Y,Y,Y,Y,Y,Y,Y,Y,Y,Y,Y,Y,Y,Y,Y,Y,Y,Y,Y,Y,Y,Y,Y,Y,Y,Y,Y] rfl rfl (any_of HT_.out (by kernel_rfl)) (fun _ _ _ h=>h) (Or.inl ⟨by rfl,?_⟩) ?_ ?_
     rotate_left
     ·intro w';go_simp;with_reducible rfl
     rotate_left
     ·simp only [Act.put,sa_,sb_,sc_,i64_w];rfl
     refine done_ (done_of HT_.out (by kernel_rfl)) ?_
     try go_wp2
     go_meet
     case rel=>exact⟨_,(true),(by first|rfl|(simp;done)|(simp [*];done)),H',⟨by first|omega|exact Nat.le_refl _⟩,⟨by (with_reducible repeat (first|apply az5|apply bz5|apply cz5));exact gz5 HO538.out (fun _ hk=>hk.1.1)⟩,⟨by (with_reducible repeat (first|apply az5|apply bz5|apply cz5));exact gz5 HO546.out (fun _ hk=>hk.1.1)⟩,⟨by (with_reducible repeat (first|refine ey5 ?_ _|refine gy5 ?_|refine fy5 ?_ _));exact BK539.out⟩,⟨by (with_reducible repeat (first|refine ey5 ?_ _|refine gy5 ?_|refine fy5 ?_ _));exact BK547.out⟩,⟨by repeat (first|(with_reducible first|exact HB.out|apply by5|apply ay5|apply cy5|refine dy5 ?_ GE539.out|refine dy5 ?_ GE547.out)|exact HB.out)⟩⟩
   ·rw [if_neg c21] at H
    have c21b0 : (t535 == t548) = false:=beq_eq_false_iff_ne.mpr c21
    have c21b1 : (t535 != t548) = true:=bne_iff_ne.mpr c21
    (first|rw [c21b0]|(simp only [i64_w,i32_w];rw [c21b0])|skip)
    have H':=zz5 H
    clear H
    try go_wp2
    have n0_ : Aside0 (Kd.R (Kd.int .u8) 5 ((w16.setCell ⟨gb547,0,none⟩ (.int .i64 t543)).setCell ⟨gb547,1,none⟩ (.slice Ao19 t544.length co19)) w.heap.size (fun k_=>some k_ ≠ (.slice Ao19 t544.length co19 : Value).ownBlock) (.slice Ao13 t536.length co13) t536):=⟨by (with_reducible repeat (first|apply az5|apply bz5|apply cz5));exact gz5 (ez5 (p:=⟨gb547,1,none⟩) (ez5 (p:=⟨gb547,0,none⟩) (hz5 HO538.out BK547.out (by decide)) (fun _ hk=>hk.2) (.int .i64 t543)) (fun _ hk=>hk.2) (.slice Ao19 t544.length co19)) (fun _ hk=>hk.1.2)⟩
    have n1_ : Aside0 (Kd.R (Kd.int .u8) 5 ((w16.setCell ⟨gb547,0,none⟩ (.int .i64 t543)).setCell ⟨gb547,1,none⟩ (.slice Ao19 t544.length co19)) w.heap.size (fun k_=>some k_ ≠ (.slice Ao13 t536.length co13 : Value).ownBlock) (.slice Ao19 t544.length co19) t544):=⟨by (with_reducible repeat (first|apply az5|apply bz5|apply cz5));exact gz5 (ez5 (p:=⟨gb547,1,none⟩) (ez5 (p:=⟨gb547,0,none⟩) (hz5 HO546.out BK547.out (by decide)) (fun _ hk=>hk.2) (.int .i64 t543)) (fun _ hk=>hk.2) (.slice Ao19 t544.length co19)) (fun _ hk=>hk.1.2)⟩
    have n2_ : Aside0 (((w16.setCell ⟨gb547,0,none⟩ (.int .i64 t543)).setCell ⟨gb547,1,none⟩ (.slice Ao19 t544.length co19)).heap[gb539]? = some (.cells #[.int .i64 t535,.slice Ao13 t536.length co13] 27 (0,0))):=⟨by (with_reducible repeat (first|refine ey5 ?_ _|refine gy5 ?_|refine fy5 ?_ _));refine blk_far ?_ NB539_547.out _;(with_reducible repeat (first|refine ey5 ?_ _|refine gy5 ?_|refine fy5 ?_ _));refine blk_far ?_ NB539_547.out _;(with_reducible repeat (first|refine ey5 ?_ _|refine gy5 ?_|refine fy5 ?_ _));exact BK539.out⟩
    have n3_ : Aside0 (((w16.setCell ⟨gb547,0,none⟩ (.int .i64 t543)).setCell ⟨gb547,1,none⟩ (.slice Ao19 t544.length co19)).heap[gb547]? = some (.cells #[.int .i64 t543,.slice Ao19 t544.length co19] 27 (0,0))):=⟨by (with_reducible repeat (first|refine ey5 ?_ _|refine gy5 ?_|refine fy5 ?_ _));refine blk_put (cs:=#[.int .i64 t543,.slice none 0 0]) ?_ 1 _ rfl;(with_reducible repeat (first|refine ey5 ?_ _|refine gy5 ?_|refine fy5 ?_ _));refine blk_put (cs:=#[.int .i64 0,.slice none 0 0]) ?_ 0 _ rfl;(with_reducible repeat (first|refine ey5 ?_ _|refine gy5 ?_|refine fy5 ?_ _));exact BK547.out⟩
    have n4_ : Aside0 (Below w.heap.size w ((w16.setCell ⟨gb547,0,none⟩ (.int .i64 t543)).setCell ⟨gb547,1,none⟩ (.slice Ao19 t544.length co19))):=⟨by repeat (first|(with_reducible first|exact HB.out|apply by5|apply ay5|apply cy5|refine dy5 ?_ GE539.out|refine dy5 ?_ GE547.out)|exact HB.out)⟩
    (try clear HO538);(try clear HO546);(try clear BK539)
    (try clear BK547)
    (try clear HB)
    generalize ((w16.setCell ⟨gb547,0,none⟩ (.int .i64 t543)).setCell ⟨gb547,1,none⟩ (.slice Ao19 t544.length co19)) = w36 at n0_ n1_ n2_ n3_ n4_ ⊢
    have HO538:=n0_
    have HO546:=n1_
    have BK539:=n2_
    have BK547:=n3_
    have HB:=n4_
    clear n0_ n1_ n2_ n3_ n4_
    have n0_:=zz5 (cz5 HO538.out)
    have n1_:=zz5 (cz5 HO546.out)
    have n2_:=zz5 (gy5 BK539.out)
    have n3_:=zz5 (gy5 BK547.out)
    have n4_:=zz5 (cy5 HB.out)
    clear HO538
    clear HO546
    clear BK539
    clear BK547
    clear HB
    have HO538:=n0_
    have HO546:=n1_
    have BK539:=n2_
    have BK547:=n3_
    have HB:=n4_
    clear n0_ n1_ n2_ n3_ n4_
    refine start_ (n:=28) (S:=fun w'=>w'.cell? ⟨gb539,0,none⟩ = some (.int .i64 t535) ∧ w'.cell? ⟨gb539,1,none⟩ = some (.slice Ao13 t536.length co13)) (ds:=[]) #[Z,Z,Z,Z,Z,Z,Z,Z,Z,Z,Z,Z,Z,Z,Z,Z,Z,Z,Z,Z,Z,Z,Z,Z,Z,Z,Z,Z] (by kernel_rfl) rfl rfl ⟨(blk_cell BK539.out 0).trans rfl,(blk_cell BK539.out 1).trans rfl⟩ (fun hHeld=>?_);refine with_tabW laws_FnNonces.tab7 laws_FnNonces.bits7 (fun HT_ HW_=>?_)
    generalize w36.drew = w37 at HO538 HO546 BK539 BK547 HB hHeld ⊢
    refine pure_ (i:=0) (N:=some 32) (v:=?_) (a':=?_) #[Y,Z,Z,Z,Z,Z,Z,Z,Z,Z,Z,Z,Z,Z,Z,Z,Z,Z,Z,Z,Z,Z,Z,Z,Z,Z,Z,Z] rfl rfl (any_of HT_.out (by kernel_rfl)) (fun _ _ _ h=>h) (Or.inl ⟨by rfl,?_⟩) ?_ ?_
    rotate_left
    ·intro w';go_simp;with_reducible rfl
    rotate_left
    ·simp only [Act.put,sa_,sb_,sc_,i64_w];rfl
    refine pure_ (i:=2) (N:=some 34) (v:=?_) (a':=?_) #[Y,Z,Y,Z,Z,Z,Z,Z,Z,Z,Z,Z,Z,Z,Z,Z,Z,Z,Z,Z,Z,Z,Z,Z,Z,Z,Z,Z] rfl rfl (any_of HT_.out (by kernel_rfl)) (fun _ _ _ h=>h) (Or.inl ⟨by rfl,?_⟩) ?_ ?_
    rotate_left
    ·intro w';go_simp;with_reducible rfl
    rotate_left
    ·simp only [Act.put,sa_,sb_,sc_,i64_w];rfl
    refine pure_ (i:=3) (N:=some 35) (v:=?_) (a':=?_) #[Y,Z,Y,Y,Z,Z,Z,Z,Z,Z,Z,Z,Z,Z,Z,Z,Z,Z,Z,Z,Z,Z,Z,Z,Z,Z,Z,Z] rfl rfl (any_of HT_.out (by kernel_rfl)) (fun _ _ _ h=>h) (Or.inl ⟨by rfl,?_⟩) ?_ ?_
    rotate_left
    ·intro w';go_simp;with_reducible rfl
    rotate_left
    ·simp only [Act.put,sa_,sb_,sc_,i64_w];rfl
    refine take_ (i:=1) (N:=some 33) (v:=?_) (a':=?_) #[Y,Y,Y,Y,Z,Z,Z,Z,Z,Z,Z,Z,Z,Z,Z,Z,Z,Z,Z,Z,Z,Z,Z,Z,Z,Z,Z,Z] rfl rfl (take_ofW HT_.out HW_.out (by kernel_rfl)) (fun _ _ _ h=>h) (Or.inl ⟨by rfl,?_⟩) hHeld ?_ ?_
    rotate_left
    ·rintro w' ⟨s0,s1⟩
     go_simp
     with_reducible rfl
    rotate_left
    ·simp only [Act.put,sa_,sb_,sc_,i64_w];rfl
    refine one_ (i:=4) (N:=some 36) #[Y,Y,Y,Y,Y,Z,Z,Z,Z,Z,Z,Z,Z,Z,Z,Z,Z,Z,Z,Z,Z,Z,Z,Z,Z,Z,Z,Z] rfl rfl (one_of HT_.out (by kernel_rfl)) (by decide) (fun K hK=>?_)
    refine goes_ Try.func32 (by kernel_rfl) rfl #[.int .i64 t533,.int .i64 t534] (by rfl) rfl rfl (by (try simp only [List.map_toArray,List.map_cons,List.map_nil]);first|done|rfl|(simp only [List.length_drop,List.length_take];rfl)) ?_
    with_reducible refine (spec_NonceOf.calls k t533 t534 t548 t549 _ A20.out).mono ?_
    rintro e w38 ⟨v550,rfl,ho0,hb⟩
    refine ⟨_,rfl,?_⟩
    have n0_:=zz5 (jz5 (by (with_reducible repeat (first|apply az5|apply bz5|apply cz5));exact HO538.out) (fz5 ho0) hb)
    have n1_:=zz5 (jz5 (by (with_reducible repeat (first|apply az5|apply bz5|apply cz5));exact HO546.out) (fz5 ho0) hb)
    have n2_:=zz5 (Kd.R_lower (kz5 (kz5 ho0 (Kd.R_lt (by (with_reducible repeat (first|apply az5|apply bz5|apply cz5));exact HO538.out))) (Kd.R_lt (by (with_reducible repeat (first|apply az5|apply bz5|apply cz5));exact HO546.out))) (below_size (by repeat(first|(with_reducible first|exact HB.out|apply by5|apply ay5|apply cy5|refine dy5 ?_ GE539.out|refine dy5 ?_ GE547.out)|exact HB.out))))
    have n3_:=zz5 (hy5 (g:=gb539) (o:=.cells #[.int .i64 t535,.slice Ao13 t536.length co13] 27 (0,0)) (by (with_reducible repeat (first|refine ey5 ?_ _|refine gy5 ?_|refine fy5 ?_ _));exact BK539.out) hb)
    have n4_:=zz5 (hy5 (g:=gb547) (o:=.cells #[.int .i64 t543,.slice Ao19 t544.length co19] 27 (0,0)) (by (with_reducible repeat (first|refine ey5 ?_ _|refine gy5 ?_|refine fy5 ?_ _));exact BK547.out) hb)
    have n5_:=zz5 (below_step (by repeat(first|(with_reducible first|exact HB.out|apply by5|apply ay5|apply cy5|refine dy5 ?_ GE539.out|refine dy5 ?_ GE547.out)|exact HB.out)) hb)
    clear HO538
    clear HO546
    clear BK539
    clear BK547
    clear HB
    have HO538:=n0_
    have HO546:=n1_
    have HO551:=n2_
    have BK539:=n3_
    have BK547:=n4_
    have HB:=n5_
    clear n0_ n1_ n2_ n3_ n4_ n5_
    (try clear hb);(try clear hb2);(try clear hk)
    (try clear hi)
    (try clear ho0)
    refine hK.out _ _ ⟨(blk_cell BK539.out 0).trans rfl,(blk_cell BK539.out 1).trans rfl⟩ (fun hHeld=>?_)
    clear hK K
    refine norm_ (a':=?_) ?_ ?_
    rotate_left
    ·show Act.put _ (some 36) _ = _
     simp only [Act.put,sa_,sb_,sc_,i64_w]
     rfl
    refine pure_ (i:=5) (N:=some 37) (v:=?_) (a':=?_) #[Y,Y,Y,Y,Y,Y,Z,Z,Z,Z,Z,Z,Z,Z,Z,Z,Z,Z,Z,Z,Z,Z,Z,Z,Z,Z,Z,Z] rfl rfl (any_of HT_.out (by kernel_rfl)) (fun _ _ _ h=>h) (Or.inl ⟨by rfl,?_⟩) ?_ ?_
    rotate_left
    ·intro w';go_simp;with_reducible rfl
    rotate_left
    ·simp only [Act.put,sa_,sb_,sc_,i64_w];rfl
    refine pure_ (i:=6) (N:=some 38) (v:=?_) (a':=?_) #[Y,Y,Y,Y,Y,Y,Y,Z,Z,Z,Z,Z,Z,Z,Z,Z,Z,Z,Z,Z,Z,Z,Z,Z,Z,Z,Z,Z] rfl rfl (any_of HT_.out (by kernel_rfl)) (fun _ _ _ h=>h) (Or.inl ⟨by rfl,?_⟩) ?_ ?_
    rotate_left
    ·intro w';go_simp;with_reducible rfl
    rotate_left
    ·simp only [Act.put,sa_,sb_,sc_,i64_w];rfl
    refine pure_ (i:=7) (N:=some 39) (v:=?_) (a':=?_) #[Y,Y,Y,Y,Y,Y,Y,Y,Z,Z,Z,Z,Z,Z,Z,Z,Z,Z,Z,Z,Z,Z,Z,Z,Z,Z,Z,Z] rfl rfl (any_of HT_.out (by kernel_rfl)) (fun _ _ _ h=>h) (Or.inl ⟨by rfl,?_⟩) ?_ ?_
    rotate_left
    ·intro w';go_simp;with_reducible rfl
    rotate_left
    ·simp only [Act.put,sa_,sb_,sc_,i64_w];rfl
    refine pure_ (i:=8) (N:=some 40) (v:=undef) (a':=?_) #[Y,Y,Y,Y,Y,Y,Y,Y,Y,Z,Z,Z,Z,Z,Z,Z,Z,Z,Z,Z,Z,Z,Z,Z,Z,Z,Z,Z] rfl rfl (any_of HT_.out (by kernel_rfl)) (fun _ _ _ h=>h) (Or.inr ⟨by rfl,rfl⟩) ?_ ?_
    rotate_left
    ·simp only [Act.put,sa_,sb_,sc_,i64_w];rfl
    refine pure_ (i:=9) (N:=some 41) (v:=undef) (a':=?_) #[Y,Y,Y,Y,Y,Y,Y,Y,Y,Y,Z,Z,Z,Z,Z,Z,Z,Z,Z,Z,Z,Z,Z,Z,Z,Z,Z,Z] rfl rfl (any_of HT_.out (by kernel_rfl)) (fun _ _ _ h=>h) (Or.inr ⟨by rfl,rfl⟩) ?_ ?_
    rotate_left
    ·simp only [Act.put,sa_,sb_,sc_,i64_w];rfl
    refine pure_ (i:=10) (N:=some 42) (v:=undef) (a':=?_) #[Y,Y,Y,Y,Y,Y,Y,Y,Y,Y,Y,Z,Z,Z,Z,Z,Z,Z,Z,Z,Z,Z,Z,Z,Z,Z,Z,Z] rfl rfl (any_of HT_.out (by kernel_rfl)) (fun _ _ _ h=>h) (Or.inr ⟨by rfl,rfl⟩) ?_ ?_
    rotate_left
    ·simp only [Act.put,sa_,sb_,sc_,i64_w];rfl
    refine pure_ (i:=11) (N:=some 43) (v:=undef) (a':=?_) #[Y,Y,Y,Y,Y,Y,Y,Y,Y,Y,Y,Y,Z,Z,Z,Z,Z,Z,Z,Z,Z,Z,Z,Z,Z,Z,Z,Z] rfl rfl (any_of HT_.out (by kernel_rfl)) (fun _ _ _ h=>h) (Or.inr ⟨by rfl,rfl⟩) ?_ ?_
    rotate_left
    ·simp only [Act.put,sa_,sb_,sc_,i64_w];rfl
    refine pure_ (i:=12) (N:=some 44) (v:=undef) (a':=?_) #[Y,Y,Y,Y,Y,Y,Y,Y,Y,Y,Y,Y,Y,Z,Z,Z,Z,Z,Z,Z,Z,Z,Z,Z,Z,Z,Z,Z] rfl rfl (any_of HT_.out (by kernel_rfl)) (fun _ _ _ h=>h) (Or.inr ⟨by rfl,rfl⟩) ?_ ?_
    rotate_left
    ·simp only [Act.put,sa_,sb_,sc_,i64_w];rfl
    refine pure_ (i:=13) (N:=some 45) (v:=undef) (a':=?_) #[Y,Y,Y,Y,Y,Y,Y,Y,Y,Y,Y,Y,Y,Y,Z,Z,Z,Z,Z,Z,Z,Z,Z,Z,Z,Z,Z,Z] rfl rfl (any_of HT_.out (by kernel_rfl)) (fun _ _ _ h=>h) (Or.inr ⟨by rfl,rfl⟩) ?_ ?_
    rotate_left
    ·simp only [Act.put,sa_,sb_,sc_,i64_w];rfl
    refine pure_ (i:=14) (N:=some 46) (v:=undef) (a':=?_) #[Y,Y,Y,Y,Y,Y,Y,Y,Y,Y,Y,Y,Y,Y,Y,Z,Z,Z,Z,Z,Z,Z,Z,Z,Z,Z,Z,Z] rfl rfl (any_of HT_.out (by kernel_rfl)) (fun _ _ _ h=>h) (Or.inr ⟨by rfl,rfl⟩) ?_ ?_
    rotate_left
    ·simp only [Act.put,sa_,sb_,sc_,i64_w];rfl
    refine pure_ (i:=15) (N:=some 47) (v:=undef) (a':=?_) #[Y,Y,Y,Y,Y,Y,Y,Y,Y,Y,Y,Y,Y,Y,Y,Y,Z,Z,Z,Z,Z,Z,Z,Z,Z,Z,Z,Z] rfl rfl (any_of HT_.out (by kernel_rfl)) (fun _ _ _ h=>h) (Or.inr ⟨by rfl,rfl⟩) ?_ ?_
    rotate_left
    ·simp only [Act.put,sa_,sb_,sc_,i64_w];rfl
    refine pure_ (i:=16) (N:=some 48) (v:=?_) (a':=?_) #[Y,Y,Y,Y,Y,Y,Y,Y,Y,Y,Y,Y,Y,Y,Y,Y,Y,Z,Z,Z,Z,Z,Z,Z,Z,Z,Z,Z] rfl rfl (any_of HT_.out (by kernel_rfl)) (fun _ _ _ h=>h) (Or.inl ⟨by rfl,?_⟩) ?_ ?_
    rotate_left
    ·intro w';go_simp;with_reducible rfl
    rotate_left
    ·simp only [Act.put,sa_,sb_,sc_,i64_w];rfl
    refine pure_ (i:=17) (N:=some 49) (v:=?_) (a':=?_) #[Y,Y,Y,Y,Y,Y,Y,Y,Y,Y,Y,Y,Y,Y,Y,Y,Y,Y,Z,Z,Z,Z,Z,Z,Z,Z,Z,Z] rfl rfl (any_of HT_.out (by kernel_rfl)) (fun _ _ _ h=>h) (Or.inl ⟨by rfl,?_⟩) ?_ ?_
    rotate_left
    ·intro w';go_simp;with_reducible rfl
    rotate_left
    ·simp only [Act.put,sa_,sb_,sc_,i64_w];rfl
    refine pure_ (i:=18) (N:=some 50) (v:=undef) (a':=?_) #[Y,Y,Y,Y,Y,Y,Y,Y,Y,Y,Y,Y,Y,Y,Y,Y,Y,Y,Y,Z,Z,Z,Z,Z,Z,Z,Z,Z] rfl rfl (any_of HT_.out (by kernel_rfl)) (fun _ _ _ h=>h) (Or.inr ⟨by rfl,rfl⟩) ?_ ?_
    rotate_left
    ·simp only [Act.put,sa_,sb_,sc_,i64_w];rfl
    refine pure_ (i:=19) (N:=some 51) (v:=undef) (a':=?_) #[Y,Y,Y,Y,Y,Y,Y,Y,Y,Y,Y,Y,Y,Y,Y,Y,Y,Y,Y,Y,Z,Z,Z,Z,Z,Z,Z,Z] rfl rfl (any_of HT_.out (by kernel_rfl)) (fun _ _ _ h=>h) (Or.inr ⟨by rfl,rfl⟩) ?_ ?_
    rotate_left
    ·simp only [Act.put,sa_,sb_,sc_,i64_w];rfl
    refine pure_ (i:=20) (N:=some 52) (v:=undef) (a':=?_) #[Y,Y,Y,Y,Y,Y,Y,Y,Y,Y,Y,Y,Y,Y,Y,Y,Y,Y,Y,Y,Y,Z,Z,Z,Z,Z,Z,Z] rfl rfl (any_of HT_.out (by kernel_rfl)) (fun _ _ _ h=>h) (Or.inr ⟨by rfl,rfl⟩) ?_ ?_
    rotate_left
    ·simp only [Act.put,sa_,sb_,sc_,i64_w];rfl
    refine pure_ (i:=21) (N:=some 53) (v:=undef) (a':=?_) #[Y,Y,Y,Y,Y,Y,Y,Y,Y,Y,Y,Y,Y,Y,Y,Y,Y,Y,Y,Y,Y,Y,Z,Z,Z,Z,Z,Z] rfl rfl (any_of HT_.out (by kernel_rfl)) (fun _ _ _ h=>h) (Or.inr ⟨by rfl,rfl⟩) ?_ ?_
    rotate_left
    ·simp only [Act.put,sa_,sb_,sc_,i64_w];rfl
    refine pure_ (i:=22) (N:=some 54) (v:=undef) (a':=?_) #[Y,Y,Y,Y,Y,Y,Y,Y,Y,Y,Y,Y,Y,Y,Y,Y,Y,Y,Y,Y,Y,Y,Y,Z,Z,Z,Z,Z] rfl rfl (any_of HT_.out (by kernel_rfl)) (fun _ _ _ h=>h) (Or.inr ⟨by rfl,rfl⟩) ?_ ?_
    rotate_left
    ·simp only [Act.put,sa_,sb_,sc_,i64_w];rfl
    refine pure_ (i:=23) (N:=some 55) (v:=undef) (a':=?_) #[Y,Y,Y,Y,Y,Y,Y,Y,Y,Y,Y,Y,Y,Y,Y,Y,Y,Y,Y,Y,Y,Y,Y,Y,Z,Z,Z,Z] rfl rfl (any_of HT_.out (by kernel_rfl)) (fun _ _ _ h=>h) (Or.inr ⟨by rfl,rfl⟩) ?_ ?_
    rotate_left
    ·simp only [Act.put,sa_,sb_,sc_,i64_w];rfl
    refine pure_ (i:=24) (N:=some 56) (v:=undef) (a':=?_) #[Y,Y,Y,Y,Y,Y,Y,Y,Y,Y,Y,Y,Y,Y,Y,Y,Y,Y,Y,Y,Y,Y,Y,Y,Y,Z,Z,Z] rfl rfl (any_of HT_.out (by kernel_rfl)) (fun _ _ _ h=>h) (Or.inr ⟨by rfl,rfl⟩) ?_ ?_
    rotate_left
    ·simp only [Act.put,sa_,sb_,sc_,i64_w];rfl
    refine pure_ (i:=25) (N:=some 57) (v:=undef) (a':=?_) #[Y,Y,Y,Y,Y,Y,Y,Y,Y,Y,Y,Y,Y,Y,Y,Y,Y,Y,Y,Y,Y,Y,Y,Y,Y,Y,Z,Z] rfl rfl (any_of HT_.out (by kernel_rfl)) (fun _ _ _ h=>h) (Or.inr ⟨by rfl,rfl⟩) ?_ ?_
    rotate_left
    ·simp only [Act.put,sa_,sb_,sc_,i64_w];rfl
    refine pure_ (i:=26) (N:=some 58) (v:=undef) (a':=?_) #[Y,Y,Y,Y,Y,Y,Y,Y,Y,Y,Y,Y,Y,Y,Y,Y,Y,Y,Y,Y,Y,Y,Y,Y,Y,Y,Y,Z] rfl rfl (any_of HT_.out (by kernel_rfl)) (fun _ _ _ h=>h) (Or.inr ⟨by rfl,rfl⟩) ?_ ?_
    rotate_left
    ·simp only [Act.put,sa_,sb_,sc_,i64_w];rfl
    refine pure_ (i:=27) (N:=some 59) (v:=?_) (a':=?_) #[Y,Y,Y,Y,Y,Y,Y,Y,Y,Y,Y,Y,Y,Y,Y,Y,Y,Y,Y,Y,Y,Y,Y,Y,Y,Y,Y,Y] rfl rfl (any_of HT_.out (by kernel_rfl)) (fun _ _ _ h=>h) (Or.inl ⟨by rfl,?_⟩) ?_ ?_
    rotate_left
    ·intro w';go_simp;with_reducible rfl
    rotate_left
    ·simp only [Act.put,sa_,sb_,sc_,i64_w];rfl
    refine done_ (done_of HT_.out (by kernel_rfl)) ?_
    try go_wp2
    go_meet
    case rel=>exact⟨_,(true),(by first|rfl|(simp;done)|(simp [*];done)),H',⟨by first|omega|exact Nat.le_refl _⟩,⟨by (with_reducible repeat (first|apply az5|apply bz5|apply cz5));exact gz5 HO538.out (fun _ hk=>hk.1)⟩,⟨by (with_reducible repeat (first|apply az5|apply bz5|apply cz5));exact gz5 HO546.out (fun _ hk=>hk.1)⟩,⟨by (with_reducible repeat (first|refine ey5 ?_ _|refine gy5 ?_|refine fy5 ?_ _));exact BK539.out⟩,⟨by (with_reducible repeat (first|refine ey5 ?_ _|refine gy5 ?_|refine fy5 ?_ _));exact BK547.out⟩,⟨by repeat (first|(with_reducible first|exact HB.out|apply by5|apply ay5|apply cy5|refine dy5 ?_ GE539.out|refine dy5 ?_ GE547.out)|exact HB.out)⟩⟩
  case rest =>
   clear HC8
   try clear c1
   try clear c2
   try clear p2
   try clear c3
   try clear c19
   try clear c21
   try clear c21b0
   try clear c21b1
   try clear c23
   try clear c23b0
   try clear c23b1
   try clear c32
   try clear c33
   obtain⟨kq,x59_7,rfl,HA,HJ7,HO_540001,HO_548001,BK539,BK547,HB⟩:=hcut
   cases kq with
  |zero=>exact absurd HA.out (by simp [laws_FnNonces.j0])
  |succ kj7 =>
    have H:=HA.out
    clear HA
    simp only [laws_FnNonces.j0] at H
    by_cases c39 : x59_7 = true
    ·subst c39
     have H1 : (some false) = some r:=by rw [if_pos rfl] at H;exact H
     clear H
     have H:=H1
     clear H1
     obtain rfl:=Option.some.inj H
     go_wp2
     go_ret
     exact⟨by first|rfl|(simp [errW_none,errW_some] <;> rfl)|(simp [*,errW_none,errW_some] <;> rfl),by repeat (first|(with_reducible first|exact HB.out|apply by5|apply ay5|apply cy5|refine dy5 ?_ GE539.out|refine dy5 ?_ GE547.out)|exact HB.out)⟩
    ·replace c39:=Bool.eq_false_iff.mpr c39
     subst c39
     have H1 : (if t543 = 0 then (if (t544.length : Int) = 11 then ((impl_ReadHead.f kj7 t544).bind fun bt561=>(laws_FnNonces.j1 kj7 t533 t534 (bt561.1 != 0) t535 t536)) else (laws_FnNonces.j1 kj7 t533 t534 true t535 t536)) else (laws_FnNonces.j1 kj7 t533 t534 false t535 t536)) = some r:=by rw [if_neg (show ¬ (false = true) by decide)] at H;exact H
     clear H
     have H:=H1
     clear H1
     have HC40:=zz5 H
     clear H
     go_upto_region 9 with (fail)
     go_cut [75] (fun v75 wc=>∃ (kq : Nat) (x75_39 : Bool),v75 = .bool x75_39 ∧ Aside0 (laws_FnNonces.j1 kq t533 t534 x75_39 t535 t536 = some r) ∧ Aside0 (kq ≤ kj7) ∧ Aside0 (Kd.R (Kd.int .u8) 5 wc w.heap.size (fun k_=>some k_ ≠ ((.slice Ao19 t544.length co19) : Value).ownBlock) (.slice Ao13 t536.length co13) t536) ∧ Aside0 (Kd.R (Kd.int .u8) 5 wc w.heap.size (fun k_=>some k_ ≠ ((.slice Ao13 t536.length co13) : Value).ownBlock) (.slice Ao19 t544.length co19) t544) ∧ Aside0 (wc.heap[gb539]? = some (.cells #[.int .i64 t535,(.slice Ao13 t536.length co13)] 27 (0,0))) ∧ Aside0 (wc.heap[gb547]? = some (.cells #[.int .i64 t543,(.slice Ao19 t544.length co19)] 27 (0,0))) ∧ Aside0 (Below w.heap.size w wc))
     case first =>
      have H:=HC40.out
      clear HC40
      by_cases c41 : t543 = 0
      ·rw [if_pos c41] at H
       have c41b0 : (t543 == 0) = true:=beq_iff_eq.mpr c41
       have c41b1 : (t543 != 0) = false:=bne_eq_false_iff_eq.mpr c41
       clear c41
       (first|rw [c41b0]|(simp only [i64_w,i32_w];rw [c41b0])|skip)
       by_cases c42 : (t544.length : Int) = 11
       ·rw [if_pos c42] at H
        have c42b0 : ((t544.length : Int) == 11) = true:=beq_iff_eq.mpr c42
        have c42b1 : ((t544.length : Int) != 11) = false:=bne_eq_false_iff_eq.mpr c42
        clear c42
        replace H:=Option.bind_eq_some_iff.mp H
        obtain⟨⟨t561,t562,t563,t564,t565⟩,A430,H⟩:=H
        replace H : (laws_FnNonces.j1 kj7 t533 t534 (t561 != 0) t535 t536) = some r:=H
        have A43:=zz5 A430
        clear A430
        have H':=zz5 H
        clear H
        have hnb44:=NB547_539.out
        have hnc44:=NB539_547.out
        have hcz45_0 : wc.cell? ⟨gb547,0,none⟩ = some (.int .i64 t543):=(blk_cell BK547.out 0).trans rfl
        have hcz45_1 : wc.cell? ⟨gb547,1,none⟩ = some (.slice Ao19 t544.length co19):=(blk_cell BK547.out 1).trans rfl
        have hfz45_0:=blk_frozen BK547.out 0
        have hfz45_1:=blk_frozen BK547.out 1
        go_wp2_with (first|(go_at_call 34;(with_reducible refine (impl_ReadHead.calls kj7 _ _ t544 t561 t562 t563 t564 t565 _ ?side1 ?side2 A43.out).mono ?_);(case side1=>repeat (first|exact (iz5 HO_548001.out).2.2|(with_reducible refine Kd.C_alloc ?_ _)|(with_reducible refine Kd.C_drewN ?_ _)|(with_reducible refine Kd.C_drew ?_)));(case side2=>exact (iz5 HO_548001.out).2.1);rintro e w46 ⟨v566,rfl,ho0,hb⟩;have n0_:=zz5 (jz5 (by (with_reducible repeat (first|apply az5|apply bz5|apply cz5));exact HO_540001.out) (fz5 ho0) hb);have n1_:=zz5 (jz5 (by (with_reducible repeat (first|apply az5|apply bz5|apply cz5));exact HO_548001.out) (fz5 ho0) hb);have n2_:=zz5 (Kd.R_lower (kz5 (kz5 ho0 (Kd.R_lt (by (with_reducible repeat (first|apply az5|apply bz5|apply cz5));exact HO_540001.out))) (Kd.R_lt (by (with_reducible repeat (first|apply az5|apply bz5|apply cz5));exact HO_548001.out))) (below_size (by repeat(first|(with_reducible first|exact HB.out|apply by5|apply ay5|apply cy5|refine dy5 ?_ GE539.out|refine dy5 ?_ GE547.out)|exact HB.out))));have n3_:=zz5 (hy5 (g:=gb539) (o:=.cells #[.int .i64 t535,.slice Ao13 t536.length co13] 27 (0,0)) (by (with_reducible repeat (first|refine ey5 ?_ _|refine gy5 ?_|refine fy5 ?_ _));exact BK539.out) hb);have n4_:=zz5 (hy5 (g:=gb547) (o:=.cells #[.int .i64 t543,.slice Ao19 t544.length co19] 27 (0,0)) (by (with_reducible repeat (first|refine ey5 ?_ _|refine gy5 ?_|refine fy5 ?_ _));exact BK547.out) hb);have n5_:=zz5 (below_step (by repeat(first|(with_reducible first|exact HB.out|apply by5|apply ay5|apply cy5|refine dy5 ?_ GE539.out|refine dy5 ?_ GE547.out)|exact HB.out)) hb);clear HO_540001;clear HO_548001;clear BK539;clear BK547;clear HB;have HO_540001:=n0_;have HO_548001:=n1_;have HO567:=n2_;have BK539:=n3_;have BK547:=n4_;have HB:=n5_;clear n0_ n1_ n2_ n3_ n4_ n5_;(try clear hb);(try clear hb2);(try clear hk);(try clear hi);(try clear ho0)))
        go_meet
        case rel=>exact⟨_,((t561 != 0)),(by first|rfl|(simp;done)|(simp [*];done)),H',⟨by have:=HJ7.out;first|omega|exact Nat.le_refl _⟩,⟨by (with_reducible repeat (first|apply az5|apply bz5|apply cz5));exact gz5 HO_540001.out (fun _ hk=>hk.1)⟩,⟨by (with_reducible repeat (first|apply az5|apply bz5|apply cz5));exact gz5 HO_548001.out (fun _ hk=>hk.1)⟩,⟨by (with_reducible repeat (first|refine ey5 ?_ _|refine gy5 ?_|refine fy5 ?_ _));exact BK539.out⟩,⟨by (with_reducible repeat (first|refine ey5 ?_ _|refine gy5 ?_|refine fy5 ?_ _));exact BK547.out⟩,⟨by repeat (first|(with_reducible first|exact HB.out|apply by5|apply ay5|apply cy5|refine dy5 ?_ GE539.out|refine dy5 ?_ GE547.out)|exact HB.out)⟩⟩
       ·rw [if_neg c42] at H
        have c42b0 : ((t544.length : Int) == 11) = false:=beq_eq_false_iff_ne.mpr c42
        have c42b1 : ((t544.length : Int) != 11) = true:=bne_iff_ne.mpr c42
        have H':=zz5 H
        clear H
        have hnb47:=NB547_539.out
        have hnc47:=NB539_547.out
        have hcz48_0 : wc.cell? ⟨gb547,0,none⟩ = some (.int .i64 t543):=(blk_cell BK547.out 0).trans rfl
        have hcz48_1 : wc.cell? ⟨gb547,1,none⟩ = some (.slice Ao19 t544.length co19):=(blk_cell BK547.out 1).trans rfl
        have hfz48_0:=blk_frozen BK547.out 0
        have hfz48_1:=blk_frozen BK547.out 1
        go_wp2
        go_meet
        case rel=>exact⟨_,(true),(by first|rfl|(simp;done)|(simp [*];done)),H',⟨by have:=HJ7.out;first|omega|exact Nat.le_refl _⟩,⟨by (with_reducible repeat (first|apply az5|apply bz5|apply cz5));exact HO_540001.out⟩,⟨by (with_reducible repeat (first|apply az5|apply bz5|apply cz5));exact HO_548001.out⟩,⟨by (with_reducible repeat (first|refine ey5 ?_ _|refine gy5 ?_|refine fy5 ?_ _));exact BK539.out⟩,⟨by (with_reducible repeat (first|refine ey5 ?_ _|refine gy5 ?_|refine fy5 ?_ _));exact BK547.out⟩,⟨by repeat (first|(with_reducible first|exact HB.out|apply by5|apply ay5|apply cy5|refine dy5 ?_ GE539.out|refine dy5 ?_ GE547.out)|exact HB.out)⟩⟩
      ·rw [if_neg c41] at H
       have c41b0 : (t543 == 0) = false:=beq_eq_false_iff_ne.mpr c41
       have c41b1 : (t543 != 0) = true:=bne_iff_ne.mpr c41
       (first|rw [c41b0]|(simp only [i64_w,i32_w];rw [c41b0])|skip)
       have H':=zz5 H
       clear H
       have hnb49:=NB547_539.out
       have hnc49:=NB539_547.out
       have hcz50_0 : wc.cell? ⟨gb547,0,none⟩ = some (.int .i64 t543):=(blk_cell BK547.out 0).trans rfl
       have hcz50_1 : wc.cell? ⟨gb547,1,none⟩ = some (.slice Ao19 t544.length co19):=(blk_cell BK547.out 1).trans rfl
       have hfz50_0:=blk_frozen BK547.out 0
       have hfz50_1:=blk_frozen BK547.out 1
       go_wp2
       go_meet
       case rel=>exact⟨_,(false),(by first|rfl|(simp;done)|(simp [*];done)),H',⟨by have:=HJ7.out;first|omega|exact Nat.le_refl _⟩,⟨by (with_reducible repeat (first|apply az5|apply bz5|apply cz5));exact HO_540001.out⟩,⟨by (with_reducible repeat (first|apply az5|apply bz5|apply cz5));exact HO_548001.out⟩,⟨by (with_reducible repeat (first|refine ey5 ?_ _|refine gy5 ?_|refine fy5 ?_ _));exact BK539.out⟩,⟨by (with_reducible repeat (first|refine ey5 ?_ _|refine gy5 ?_|refine fy5 ?_ _));exact BK547.out⟩,⟨by repeat (first|(with_reducible first|exact HB.out|apply by5|apply ay5|apply cy5|refine dy5 ?_ GE539.out|refine dy5 ?_ GE547.out)|exact HB.out)⟩⟩
     case rest =>
      clear HC40
      try clear c1
      try clear c2
      try clear p2
      try clear c3
      try clear c4
      try clear c19
      try clear c21
      try clear c21b0
      try clear c21b1
      try clear c23
      try clear c23b0
      try clear c23b1
      try clear c32
      try clear c33
      try clear c39
      try clear c41
      try clear c41b0
      try clear c41b1
      try clear c42
      try clear c42b0
      try clear c42b1
      try clear c44
      try clear c47
      try clear c49
      try clear hcz45_0
      try clear hcz45_1
      try clear hcz48_0
      try clear hcz48_1
      try clear hcz50_0
      try clear hcz50_1
      try clear hfz45_0
      try clear hfz45_1
      try clear hfz48_0
      try clear hfz48_1
      try clear hfz50_0
      try clear hfz50_1
      try clear p2
      obtain⟨kq,x75_39,rfl,HA,HJ39,HO_540001,HO_548001,BK539,BK547,HB⟩:=hcut
      cases kq with
     |zero=>exact absurd HA.out (by simp [laws_FnNonces.j1])
     |succ kj39 =>
       have H:=HA.out
       clear HA
       simp only [laws_FnNonces.j1] at H
       by_cases c51 : x75_39 = true
       ·subst c51
        have H1 : (some false) = some r:=by rw [if_pos rfl] at H;exact H
        clear H
        have H:=H1
        clear H1
        obtain rfl:=Option.some.inj H
        go_wp2
        go_ret
        exact⟨by first|rfl|(simp [errW_none,errW_some] <;> rfl)|(simp [*,errW_none,errW_some] <;> rfl),by repeat (first|(with_reducible first|exact HB.out|apply by5|apply ay5|apply cy5|refine dy5 ?_ GE539.out|refine dy5 ?_ GE547.out)|exact HB.out)⟩
       ·replace c51:=Bool.eq_false_iff.mpr c51
        subst c51
        have H1 : (if t535 = 0 then ((impl_NonceOf.f kj39 (Int.tmod (wrap64 (t533 + 1)) 16) t534).bind fun bt568=>((impl_NonceOf.f kj39 t533 (wrap64 ((wrap64 (Int.tdiv t534 2)) + 1))).bind fun bt573=>(if (t536.length : Int) = 12 then ((laws_lwSame.f bt568.2 t536).bind fun t578=>(if t578 = true then (some false) else (if (wrap64 ((wrap64 (Int.tdiv t534 2)) + 1)) = t534 then ((spec_NonceOf.f kj39 t533 t534).bind fun bt579=>((laws_lwSame.f t536 bt579.2).bind fun t583=>(some t583))) else ((laws_lwSame.f bt573.2 t536).bind fun t584=>(if t584 = true then (some false) else ((spec_NonceOf.f kj39 t533 t534).bind fun bt585=>((laws_lwSame.f t536 bt585.2).bind fun t589=>(some t589)))))))) else (some false)))) else (some true)) = some r:=by rw [if_neg (show ¬ (false = true) by decide)] at H;exact H
        clear H
        have H:=H1
        clear H1
        by_cases c52 : t535 = 0
        ·rw [if_pos c52] at H
         have c52b0 : (t535 == 0) = true:=beq_iff_eq.mpr c52
         have c52b1 : (t535 != 0) = false:=bne_eq_false_iff_eq.mpr c52
         clear c52
         replace H:=Option.bind_eq_some_iff.mp H
         obtain⟨⟨t568,t569⟩,A530,H⟩:=H
         replace H : ((impl_NonceOf.f kj39 t533 (wrap64 ((wrap64 (Int.tdiv t534 2)) + 1))).bind fun bt573=>(if (t536.length : Int) = 12 then ((laws_lwSame.f t569 t536).bind fun t578=>(if t578 = true then (some false) else (if (wrap64 ((wrap64 (Int.tdiv t534 2)) + 1)) = t534 then ((spec_NonceOf.f kj39 t533 t534).bind fun bt579=>((laws_lwSame.f t536 bt579.2).bind fun t583=>(some t583))) else ((laws_lwSame.f bt573.2 t536).bind fun t584=>(if t584 = true then (some false) else ((spec_NonceOf.f kj39 t533 t534).bind fun bt585=>((laws_lwSame.f t536 bt585.2).bind fun t589=>(some t589)))))))) else (some false))) = some r:=H
         have A53:=zz5 A530
         clear A530
         replace H:=Option.bind_eq_some_iff.mp H
         obtain⟨⟨t573,t574⟩,A540,H⟩:=H
         replace H : (if (t536.length : Int) = 12 then ((laws_lwSame.f t569 t536).bind fun t578=>(if t578 = true then (some false) else (if (wrap64 ((wrap64 (Int.tdiv t534 2)) + 1)) = t534 then ((spec_NonceOf.f kj39 t533 t534).bind fun bt579=>((laws_lwSame.f t536 bt579.2).bind fun t583=>(some t583))) else ((laws_lwSame.f t574 t536).bind fun t584=>(if t584 = true then (some false) else ((spec_NonceOf.f kj39 t533 t534).bind fun bt585=>((laws_lwSame.f t536 bt585.2).bind fun t589=>(some t589)))))))) else (some false)) = some r:=H
         have A54:=zz5 A540
         clear A540
         by_cases c55 : (t536.length : Int) = 12
         ·rw [if_pos c55] at H
          have c55b0 : ((t536.length : Int) == 12) = true:=beq_iff_eq.mpr c55
          have c55b1 : ((t536.length : Int) != 12) = false:=bne_eq_false_iff_eq.mpr c55
          clear c55
          replace H:=Option.bind_eq_some_iff.mp H
          obtain⟨t578,A560,H⟩:=H
          replace H : (if t578 = true then (some false) else (if (wrap64 ((wrap64 (Int.tdiv t534 2)) + 1)) = t534 then ((spec_NonceOf.f kj39 t533 t534).bind fun bt579=>((laws_lwSame.f t536 bt579.2).bind fun t583=>(some t583))) else ((laws_lwSame.f t574 t536).bind fun t584=>(if t584 = true then (some false) else ((spec_NonceOf.f kj39 t533 t534).bind fun bt585=>((laws_lwSame.f t536 bt585.2).bind fun t589=>(some t589))))))) = some r:=H
          have A56:=zz5 A560
          clear A560
          by_cases c57 : t578 = true
          ·subst c57
           have H1 : (some false) = some r:=by rw [if_pos rfl] at H;exact H
           clear H
           have H:=H1
           clear H1
           obtain rfl:=Option.some.inj H
           have hnb58:=NB539_547.out
           have hnc58:=NB547_539.out
           have hcz59_0 : wc.cell? ⟨gb539,0,none⟩ = some (.int .i64 t535):=(blk_cell BK539.out 0).trans rfl
           have hcz59_1 : wc.cell? ⟨gb539,1,none⟩ = some (.slice Ao13 t536.length co13):=(blk_cell BK539.out 1).trans rfl
           have hfz59_0:=blk_frozen BK539.out 0
           have hfz59_1:=blk_frozen BK539.out 1
           try go_wp2_with (first|((with_reducible refine gate_callee (f:=29) rfl ?_);refine goesL_ (some 83) rfl rfl Try.func29 (by kernel_rfl) rfl #[.int .i64 (Int.tmod (wrap64 (t533 + 1)) 16),.int .i64 t534] rfl (by (try simp only [List.map_toArray,List.map_cons,List.map_nil]);first|done|rfl|(simp only [List.length_drop,List.length_take];rfl)) ?_;(with_reducible refine (impl_NonceOf.calls kj39 (Int.tmod (wrap64 (t533 + 1)) 16) t534 t568 t569 _ A53.out).mono ?_);rintro e w60 ⟨v570,rfl,ho0,hb⟩;refine ⟨_,rfl,?_⟩;have n0_:=zz5 (jz5 (by (with_reducible repeat (first|apply az5|apply bz5|apply cz5));exact HO_540001.out) (fz5 ho0) hb);have n1_:=zz5 (jz5 (by (with_reducible repeat (first|apply az5|apply bz5|apply cz5));exact HO_548001.out) (fz5 ho0) hb);have n2_:=zz5 (Kd.R_lower (kz5 (kz5 ho0 (Kd.R_lt (by (with_reducible repeat (first|apply az5|apply bz5|apply cz5));exact HO_540001.out))) (Kd.R_lt (by (with_reducible repeat (first|apply az5|apply bz5|apply cz5));exact HO_548001.out))) (below_size (by repeat(first|(with_reducible first|exact HB.out|apply by5|apply ay5|apply cy5|refine dy5 ?_ GE539.out|refine dy5 ?_ GE547.out)|exact HB.out))));have n3_:=zz5 (hy5 (g:=gb539) (o:=.cells #[.int .i64 t535,.slice Ao13 t536.length co13] 27 (0,0)) (by (with_reducible repeat (first|refine ey5 ?_ _|refine gy5 ?_|refine fy5 ?_ _));exact BK539.out) hb);have n4_:=zz5 (hy5 (g:=gb547) (o:=.cells #[.int .i64 t543,.slice Ao19 t544.length co19] 27 (0,0)) (by (with_reducible repeat (first|refine ey5 ?_ _|refine gy5 ?_|refine fy5 ?_ _));exact BK547.out) hb);have n5_:=zz5 (below_step (by repeat(first|(with_reducible first|exact HB.out|apply by5|apply ay5|apply cy5|refine dy5 ?_ GE539.out|refine dy5 ?_ GE547.out)|exact HB.out)) hb);clear HO_540001;clear HO_548001;clear BK539;clear BK547;clear HB;have HO_540001:=n0_;have HO_548001:=n1_;have HO571:=n2_;have BK539:=n3_;have BK547:=n4_;have HB:=n5_;clear n0_ n1_ n2_ n3_ n4_ n5_;(try clear hb);(try clear hb2);(try clear hk);(try clear hi);(try clear ho0))|((with_reducible refine gate_dst (N:=10) rfl ?_);(try (refine gate_guard (by rfl) ?_;dsimp only));refine box_event ?hg (N:=10) ?hd (cs:=#[.int .i64 0,.slice none 0 0]) (t:=27) ?hr ?_;(case hd=>rfl);(case hg=>rfl);(case hr=>first|(go_simp;done)|(go_simp;rfl));intro gb572 hg w61 hbox hb;have n0_:=zz5 (dz5 (by (with_reducible repeat (first|apply az5|apply bz5|apply cz5));exact HO_540001.out) hb);have n1_:=zz5 (dz5 (by (with_reducible repeat (first|apply az5|apply bz5|apply cz5));exact HO_548001.out) hb);have n2_:=zz5 (dz5 (by (with_reducible repeat (first|apply az5|apply bz5|apply cz5));exact HO571.out) hb);have n3_:=zz5 (hy5 (g:=gb539) (o:=.cells #[.int .i64 t535,.slice Ao13 t536.length co13] 27 (0,0)) (by (with_reducible repeat (first|refine ey5 ?_ _|refine gy5 ?_|refine fy5 ?_ _));exact BK539.out) hb);have n4_:=zz5 (hy5 (g:=gb547) (o:=.cells #[.int .i64 t543,.slice Ao19 t544.length co19] 27 (0,0)) (by (with_reducible repeat (first|refine ey5 ?_ _|refine gy5 ?_|refine fy5 ?_ _));exact BK547.out) hb);have n5_:=zz5 (below_step (by repeat(first|(with_reducible first|exact HB.out|apply by5|apply ay5|apply cy5|refine dy5 ?_ GE539.out|refine dy5 ?_ GE547.out)|exact HB.out)) hb);have n6_:=zz5 (hbox);have n7_:=zz5 ((by rw [hg];exact (below_size (by repeat(first|(with_reducible first|exact HB.out|apply by5|apply ay5|apply cy5|refine dy5 ?_ GE539.out|refine dy5 ?_ GE547.out)|exact HB.out))) : w.heap.size ≤ gb572));have n8_:=zz5 ((by rw [hg];exact (below_size (by repeat(first|(with_reducible first|exact HB.out|apply by5|apply ay5|apply cy5|refine dy5 ?_ GE539.out|refine dy5 ?_ GE547.out)|exact HB.out))) : w.heap.size ≤ gb572));have n9_:=zz5 ((by rw [hg];exact Nat.ne_of_lt (blk_lt (g:=gb539) (o:=.cells #[.int .i64 t535,.slice Ao13 t536.length co13] 27 (0,0)) (by (with_reducible repeat (first|refine ey5 ?_ _|refine gy5 ?_|refine fy5 ?_ _));exact BK539.out)) : gb539 ≠ gb572));have n10_:=zz5 ((by rw [hg];exact Nat.ne_of_gt (blk_lt (g:=gb539) (o:=.cells #[.int .i64 t535,.slice Ao13 t536.length co13] 27 (0,0)) (by (with_reducible repeat (first|refine ey5 ?_ _|refine gy5 ?_|refine fy5 ?_ _));exact BK539.out)) : gb572 ≠ gb539));have n11_:=zz5 ((by rw [hg];exact Nat.ne_of_lt (blk_lt (g:=gb547) (o:=.cells #[.int .i64 t543,.slice Ao19 t544.length co19] 27 (0,0)) (by (with_reducible repeat (first|refine ey5 ?_ _|refine gy5 ?_|refine fy5 ?_ _));exact BK547.out)) : gb547 ≠ gb572));have n12_:=zz5 ((by rw [hg];exact Nat.ne_of_gt (blk_lt (g:=gb547) (o:=.cells #[.int .i64 t543,.slice Ao19 t544.length co19] 27 (0,0)) (by (with_reducible repeat (first|refine ey5 ?_ _|refine gy5 ?_|refine fy5 ?_ _));exact BK547.out)) : gb572 ≠ gb547));clear HO_540001;clear HO_548001;clear HO571;clear BK539;clear BK547;clear HB;have HO_540001:=n0_;have HO_548001:=n1_;have HO571:=n2_;have BK539:=n3_;have BK547:=n4_;have HB:=n5_;have BK572:=n6_;have GW572:=n7_;have GE572:=n8_;have NB539_572:=n9_;have NB572_539:=n10_;have NB547_572:=n11_;have NB572_547:=n12_;clear n0_ n1_ n2_ n3_ n4_ n5_ n6_ n7_ n8_ n9_ n10_ n11_ n12_;clear hb hbox hg;have hnb62:=NB572_539.out;have hnc62:=NB539_572.out;have hnb63:=NB572_547.out;have hnc63:=NB547_572.out;have hcz64_0 : w61.cell? ⟨gb572,0,none⟩ = some (.int .i64 0):=(blk_cell BK572.out 0).trans rfl;have hcz64_1 : w61.cell? ⟨gb572,1,none⟩ = some (.slice none 0 0):=(blk_cell BK572.out 1).trans rfl;have hfz64_0:=blk_frozen BK572.out 0;have hfz64_1:=blk_frozen BK572.out 1;obtain⟨Ao65,co65,eo65⟩:=Kd.R_slice HO571.out;subst eo65)|((with_reducible refine gate_callee (f:=29) rfl ?_);refine goesL_ (some 88) rfl rfl Try.func29 (by kernel_rfl) rfl #[.int .i64 t533,.int .i64 (wrap64 ((wrap64 (Int.tdiv t534 2)) + 1))] rfl (by (try simp only [List.map_toArray,List.map_cons,List.map_nil]);first|done|rfl|(simp only [List.length_drop,List.length_take];rfl)) ?_;(with_reducible refine (impl_NonceOf.calls kj39 t533 (wrap64 ((wrap64 (Int.tdiv t534 2)) + 1)) t573 t574 _ A54.out).mono ?_);rintro e w66 ⟨v575,rfl,ho0,hb⟩;refine ⟨_,rfl,?_⟩;have n0_:=zz5 (jz5 (by (with_reducible repeat (first|apply az5|apply bz5|apply cz5));exact (gz5 (ez5 (p:=⟨gb572,1,none⟩) (ez5 (p:=⟨gb572,0,none⟩) (hz5 HO_540001.out BK572.out (by decide)) (fun _ hk=>hk.2) (.int .i64 t568)) (fun _ hk=>hk.2) (.slice Ao65 t569.length co65)) (fun _ h_=>h_.1))) (fz5 ho0) hb);have n1_:=zz5 (jz5 (by (with_reducible repeat (first|apply az5|apply bz5|apply cz5));exact (gz5 (ez5 (p:=⟨gb572,1,none⟩) (ez5 (p:=⟨gb572,0,none⟩) (hz5 HO_548001.out BK572.out (by decide)) (fun _ hk=>hk.2) (.int .i64 t568)) (fun _ hk=>hk.2) (.slice Ao65 t569.length co65)) (fun _ h_=>h_.1))) (fz5 ho0) hb);have n2_:=zz5 (jz5 (by (with_reducible repeat (first|apply az5|apply bz5|apply cz5));exact (gz5 (ez5 (p:=⟨gb572,1,none⟩) (ez5 (p:=⟨gb572,0,none⟩) (hz5 HO571.out BK572.out (by decide)) (fun _ hk=>hk.2) (.int .i64 t568)) (fun _ hk=>hk.2) (.slice Ao65 t569.length co65)) (fun _ h_=>h_.1))) (fz5 ho0) hb);have n3_:=zz5 (Kd.R_lower (kz5 (kz5 (kz5 ho0 (Kd.R_lt (by (with_reducible repeat (first|apply az5|apply bz5|apply cz5));exact (gz5 (ez5 (p:=⟨gb572,1,none⟩) (ez5 (p:=⟨gb572,0,none⟩) (hz5 HO_540001.out BK572.out (by decide)) (fun _ hk=>hk.2) (.int .i64 t568)) (fun _ hk=>hk.2) (.slice Ao65 t569.length co65)) (fun _ h_=>h_.1))))) (Kd.R_lt (by (with_reducible repeat (first|apply az5|apply bz5|apply cz5));exact (gz5 (ez5 (p:=⟨gb572,1,none⟩) (ez5 (p:=⟨gb572,0,none⟩) (hz5 HO_548001.out BK572.out (by decide)) (fun _ hk=>hk.2) (.int .i64 t568)) (fun _ hk=>hk.2) (.slice Ao65 t569.length co65)) (fun _ h_=>h_.1))))) (Kd.R_lt (by (with_reducible repeat (first|apply az5|apply bz5|apply cz5));exact (gz5 (ez5 (p:=⟨gb572,1,none⟩) (ez5 (p:=⟨gb572,0,none⟩) (hz5 HO571.out BK572.out (by decide)) (fun _ hk=>hk.2) (.int .i64 t568)) (fun _ hk=>hk.2) (.slice Ao65 t569.length co65)) (fun _ h_=>h_.1))))) (below_size (by repeat(first|(with_reducible first|exact HB.out|apply by5|apply ay5|apply cy5|refine dy5 ?_ GE539.out|refine dy5 ?_ GE547.out|refine dy5 ?_ GE572.out)|exact HB.out))));have n4_:=zz5 (hy5 (g:=gb539) (o:=.cells #[.int .i64 t535,.slice Ao13 t536.length co13] 27 (0,0)) (by (with_reducible repeat (first|refine ey5 ?_ _|refine gy5 ?_|refine fy5 ?_ _));refine blk_far ?_ NB539_572.out _;(with_reducible repeat (first|refine ey5 ?_ _|refine gy5 ?_|refine fy5 ?_ _));refine blk_far ?_ NB539_572.out _;(with_reducible repeat (first|refine ey5 ?_ _|refine gy5 ?_|refine fy5 ?_ _));exact BK539.out) hb);have n5_:=zz5 (hy5 (g:=gb547) (o:=.cells #[.int .i64 t543,.slice Ao19 t544.length co19] 27 (0,0)) (by (with_reducible repeat (first|refine ey5 ?_ _|refine gy5 ?_|refine fy5 ?_ _));refine blk_far ?_ NB547_572.out _;(with_reducible repeat (first|refine ey5 ?_ _|refine gy5 ?_|refine fy5 ?_ _));refine blk_far ?_ NB547_572.out _;(with_reducible repeat (first|refine ey5 ?_ _|refine gy5 ?_|refine fy5 ?_ _));exact BK547.out) hb);have n6_:=zz5 (hy5 (g:=gb572) (o:=.cells #[.int .i64 t568,.slice Ao65 t569.length co65] 27 (0,0)) (by (with_reducible repeat (first|refine ey5 ?_ _|refine gy5 ?_|refine fy5 ?_ _));refine blk_put (cs:=#[.int .i64 t568,.slice none 0 0]) ?_ 1 _ rfl;(with_reducible repeat (first|refine ey5 ?_ _|refine gy5 ?_|refine fy5 ?_ _));refine blk_put (cs:=#[.int .i64 0,.slice none 0 0]) ?_ 0 _ rfl;(with_reducible repeat (first|refine ey5 ?_ _|refine gy5 ?_|refine fy5 ?_ _));exact BK572.out) hb);have n7_:=zz5 (below_step (by repeat(first|(with_reducible first|exact HB.out|apply by5|apply ay5|apply cy5|refine dy5 ?_ GE539.out|refine dy5 ?_ GE547.out|refine dy5 ?_ GE572.out)|exact HB.out)) hb);clear HO_540001;clear HO_548001;clear HO571;clear BK539;clear BK547;clear BK572;clear HB;have HO_540001:=n0_;have HO_548001:=n1_;have HO571:=n2_;have HO576:=n3_;have BK539:=n4_;have BK547:=n5_;have BK572:=n6_;have HB:=n7_;clear n0_ n1_ n2_ n3_ n4_ n5_ n6_ n7_;(try clear hb);(try clear hb2);(try clear hk);(try clear hi);(try clear ho0))|((with_reducible refine gate_dst (N:=11) rfl ?_);(try (refine gate_guard (by rfl) ?_;dsimp only));refine box_event ?hg (N:=11) ?hd (cs:=#[.int .i64 0,.slice none 0 0]) (t:=27) ?hr ?_;(case hd=>rfl);(case hg=>rfl);(case hr=>first|(go_simp;done)|(go_simp;rfl));intro gb577 hg w67 hbox hb;have n0_:=zz5 (dz5 (by (with_reducible repeat (first|apply az5|apply bz5|apply cz5));exact HO_540001.out) hb);have n1_:=zz5 (dz5 (by (with_reducible repeat (first|apply az5|apply bz5|apply cz5));exact HO_548001.out) hb);have n2_:=zz5 (dz5 (by (with_reducible repeat (first|apply az5|apply bz5|apply cz5));exact HO571.out) hb);have n3_:=zz5 (dz5 (by (with_reducible repeat (first|apply az5|apply bz5|apply cz5));exact HO576.out) hb);have n4_:=zz5 (hy5 (g:=gb539) (o:=.cells #[.int .i64 t535,.slice Ao13 t536.length co13] 27 (0,0)) (by (with_reducible repeat (first|refine ey5 ?_ _|refine gy5 ?_|refine fy5 ?_ _));exact BK539.out) hb);have n5_:=zz5 (hy5 (g:=gb547) (o:=.cells #[.int .i64 t543,.slice Ao19 t544.length co19] 27 (0,0)) (by (with_reducible repeat (first|refine ey5 ?_ _|refine gy5 ?_|refine fy5 ?_ _));exact BK547.out) hb);have n6_:=zz5 (hy5 (g:=gb572) (o:=.cells #[.int .i64 t568,.slice Ao65 t569.length co65] 27 (0,0)) (by (with_reducible repeat (first|refine ey5 ?_ _|refine gy5 ?_|refine fy5 ?_ _));exact BK572.out) hb);have n7_:=zz5 (below_step (by repeat(first|(with_reducible first|exact HB.out|apply by5|apply ay5|apply cy5|refine dy5 ?_ GE539.out|refine dy5 ?_ GE547.out|refine dy5 ?_ GE572.out)|exact HB.out)) hb);have n8_:=zz5 (hbox);have n9_:=zz5 ((by rw [hg];exact (below_size (by repeat(first|(with_reducible first|exact HB.out|apply by5|apply ay5|apply cy5|refine dy5 ?_ GE539.out|refine dy5 ?_ GE547.out|refine dy5 ?_ GE572.out)|exact HB.out))) : w.heap.size ≤ gb577));have n10_:=zz5 ((by rw [hg];exact (below_size (by repeat(first|(with_reducible first|exact HB.out|apply by5|apply ay5|apply cy5|refine dy5 ?_ GE539.out|refine dy5 ?_ GE547.out|refine dy5 ?_ GE572.out)|exact HB.out))) : w.heap.size ≤ gb577));have n11_:=zz5 ((by rw [hg];exact Nat.ne_of_lt (blk_lt (g:=gb539) (o:=.cells #[.int .i64 t535,.slice Ao13 t536.length co13] 27 (0,0)) (by (with_reducible repeat (first|refine ey5 ?_ _|refine gy5 ?_|refine fy5 ?_ _));exact BK539.out)) : gb539 ≠ gb577));have n12_:=zz5 ((by rw [hg];exact Nat.ne_of_gt (blk_lt (g:=gb539) (o:=.cells #[.int .i64 t535,.slice Ao13 t536.length co13] 27 (0,0)) (by (with_reducible repeat (first|refine ey5 ?_ _|refine gy5 ?_|refine fy5 ?_ _));exact BK539.out)) : gb577 ≠ gb539));have n13_:=zz5 ((by rw [hg];exact Nat.ne_of_lt (blk_lt (g:=gb547) (o:=.cells #[.int .i64 t543,.slice Ao19 t544.length co19] 27 (0,0)) (by (with_reducible repeat (first|refine ey5 ?_ _|refine gy5 ?_|refine fy5 ?_ _));exact BK547.out)) : gb547 ≠ gb577));have n14_:=zz5 ((by rw [hg];exact Nat.ne_of_gt (blk_lt (g:=gb547) (o:=.cells #[.int .i64 t543,.slice Ao19 t544.length co19] 27 (0,0)) (by (with_reducible repeat (first|refine ey5 ?_ _|refine gy5 ?_|refine fy5 ?_ _));exact BK547.out)) : gb577 ≠ gb547));have n15_:=zz5 ((by rw [hg];exact Nat.ne_of_lt (blk_lt (g:=gb572) (o:=.cells #[.int .i64 t568,.slice Ao65 t569.length co65] 27 (0,0)) (by (with_reducible repeat (first|refine ey5 ?_ _|refine gy5 ?_|refine fy5 ?_ _));exact BK572.out)) : gb572 ≠ gb577));have n16_:=zz5 ((by rw [hg];exact Nat.ne_of_gt (blk_lt (g:=gb572) (o:=.cells #[.int .i64 t568,.slice Ao65 t569.length co65] 27 (0,0)) (by (with_reducible repeat (first|refine ey5 ?_ _|refine gy5 ?_|refine fy5 ?_ _));exact BK572.out)) : gb577 ≠ gb572));clear HO_540001;clear HO_548001;clear HO571;clear HO576;clear BK539;clear BK547;clear BK572;clear HB;have HO_540001:=n0_;have HO_548001:=n1_;have HO571:=n2_;have HO576:=n3_;have BK539:=n4_;have BK547:=n5_;have BK572:=n6_;have HB:=n7_;have BK577:=n8_;have GW577:=n9_;have GE577:=n10_;have NB539_577:=n11_;have NB577_539:=n12_;have NB547_577:=n13_;have NB577_547:=n14_;have NB572_577:=n15_;have NB577_572:=n16_;clear n0_ n1_ n2_ n3_ n4_ n5_ n6_ n7_ n8_ n9_ n10_ n11_ n12_ n13_ n14_ n15_ n16_;clear hb hbox hg;have hnb68:=NB577_539.out;have hnc68:=NB539_577.out;have hnb69:=NB577_547.out;have hnc69:=NB547_577.out;have hnb70:=NB577_572.out;have hnc70:=NB572_577.out;have hcz71_0 : w67.cell? ⟨gb577,0,none⟩ = some (.int .i64 0):=(blk_cell BK577.out 0).trans rfl;have hcz71_1 : w67.cell? ⟨gb577,1,none⟩ = some (.slice none 0 0):=(blk_cell BK577.out 1).trans rfl;have hfz71_0:=blk_frozen BK577.out 0;have hfz71_1:=blk_frozen BK577.out 1;obtain⟨Ao72,co72,eo72⟩:=Kd.R_slice HO576.out;subst eo72))
           have n0_ : Aside0 (Kd.R (Kd.int .u8) 5 ((w67.setCell ⟨gb577,0,none⟩ (.int .i64 t573)).setCell ⟨gb577,1,none⟩ (.slice Ao72 t574.length co72)) w.heap.size (fun k_=>some k_ ≠ (.slice Ao19 t544.length co19 : Value).ownBlock ∧ some k_ ≠ (.slice Ao65 t569.length co65 : Value).ownBlock ∧ some k_ ≠ (.slice Ao72 t574.length co72 : Value).ownBlock) (.slice Ao13 t536.length co13) t536):=⟨by (with_reducible repeat (first|apply az5|apply bz5|apply cz5));exact gz5 (ez5 (p:=⟨gb577,1,none⟩) (ez5 (p:=⟨gb577,0,none⟩) (hz5 HO_540001.out BK577.out (by decide)) (fun _ hk=>hk.2) (.int .i64 t573)) (fun _ hk=>hk.2) (.slice Ao72 t574.length co72)) (fun _ hk=>⟨hk.1.1.1,⟨hk.1.1.2,hk.1.2⟩⟩)⟩
           have n1_ : Aside0 (Kd.R (Kd.int .u8) 5 ((w67.setCell ⟨gb577,0,none⟩ (.int .i64 t573)).setCell ⟨gb577,1,none⟩ (.slice Ao72 t574.length co72)) w.heap.size (fun k_=>some k_ ≠ (.slice Ao13 t536.length co13 : Value).ownBlock ∧ some k_ ≠ (.slice Ao65 t569.length co65 : Value).ownBlock ∧ some k_ ≠ (.slice Ao72 t574.length co72 : Value).ownBlock) (.slice Ao19 t544.length co19) t544):=⟨by (with_reducible repeat (first|apply az5|apply bz5|apply cz5));exact gz5 (ez5 (p:=⟨gb577,1,none⟩) (ez5 (p:=⟨gb577,0,none⟩) (hz5 HO_548001.out BK577.out (by decide)) (fun _ hk=>hk.2) (.int .i64 t573)) (fun _ hk=>hk.2) (.slice Ao72 t574.length co72)) (fun _ hk=>⟨hk.1.1.1,⟨hk.1.1.2,hk.1.2⟩⟩)⟩
           have n2_ : Aside0 (Kd.R (Kd.int .u8) 5 ((w67.setCell ⟨gb577,0,none⟩ (.int .i64 t573)).setCell ⟨gb577,1,none⟩ (.slice Ao72 t574.length co72)) w.heap.size (fun k_=>some k_ ≠ (.slice Ao13 t536.length co13 : Value).ownBlock ∧ some k_ ≠ (.slice Ao19 t544.length co19 : Value).ownBlock ∧ some k_ ≠ (.slice Ao72 t574.length co72 : Value).ownBlock) (.slice Ao65 t569.length co65) t569):=⟨by (with_reducible repeat (first|apply az5|apply bz5|apply cz5));exact gz5 (ez5 (p:=⟨gb577,1,none⟩) (ez5 (p:=⟨gb577,0,none⟩) (hz5 HO571.out BK577.out (by decide)) (fun _ hk=>hk.2) (.int .i64 t573)) (fun _ hk=>hk.2) (.slice Ao72 t574.length co72)) (fun _ hk=>⟨hk.1.1.1.2,⟨hk.1.1.2,hk.1.2⟩⟩)⟩
           have n3_ : Aside0 (Kd.R (Kd.int .u8) 5 ((w67.setCell ⟨gb577,0,none⟩ (.int .i64 t573)).setCell ⟨gb577,1,none⟩ (.slice Ao72 t574.length co72)) w.heap.size (fun k_=>some k_ ≠ (.slice Ao13 t536.length co13 : Value).ownBlock ∧ some k_ ≠ (.slice Ao19 t544.length co19 : Value).ownBlock ∧ some k_ ≠ (.slice Ao65 t569.length co65 : Value).ownBlock) (.slice Ao72 t574.length co72) t574):=⟨by (with_reducible repeat (first|apply az5|apply bz5|apply cz5));exact gz5 (ez5 (p:=⟨gb577,1,none⟩) (ez5 (p:=⟨gb577,0,none⟩) (hz5 HO576.out BK577.out (by decide)) (fun _ hk=>hk.2) (.int .i64 t573)) (fun _ hk=>hk.2) (.slice Ao72 t574.length co72)) (fun _ hk=>⟨hk.1.1.1.2,⟨hk.1.1.2,hk.1.2⟩⟩)⟩
           have n4_ : Aside0 (((w67.setCell ⟨gb577,0,none⟩ (.int .i64 t573)).setCell ⟨gb577,1,none⟩ (.slice Ao72 t574.length co72)).heap[gb539]? = some (.cells #[.int .i64 t535,.slice Ao13 t536.length co13] 27 (0,0))):=⟨by (with_reducible repeat (first|refine ey5 ?_ _|refine gy5 ?_|refine fy5 ?_ _));refine blk_far ?_ NB539_577.out _;(with_reducible repeat (first|refine ey5 ?_ _|refine gy5 ?_|refine fy5 ?_ _));refine blk_far ?_ NB539_577.out _;(with_reducible repeat (first|refine ey5 ?_ _|refine gy5 ?_|refine fy5 ?_ _));exact BK539.out⟩
           have n5_ : Aside0 (((w67.setCell ⟨gb577,0,none⟩ (.int .i64 t573)).setCell ⟨gb577,1,none⟩ (.slice Ao72 t574.length co72)).heap[gb547]? = some (.cells #[.int .i64 t543,.slice Ao19 t544.length co19] 27 (0,0))):=⟨by (with_reducible repeat (first|refine ey5 ?_ _|refine gy5 ?_|refine fy5 ?_ _));refine blk_far ?_ NB547_577.out _;(with_reducible repeat (first|refine ey5 ?_ _|refine gy5 ?_|refine fy5 ?_ _));refine blk_far ?_ NB547_577.out _;(with_reducible repeat (first|refine ey5 ?_ _|refine gy5 ?_|refine fy5 ?_ _));exact BK547.out⟩
           have n6_ : Aside0 (((w67.setCell ⟨gb577,0,none⟩ (.int .i64 t573)).setCell ⟨gb577,1,none⟩ (.slice Ao72 t574.length co72)).heap[gb572]? = some (.cells #[.int .i64 t568,.slice Ao65 t569.length co65] 27 (0,0))):=⟨by (with_reducible repeat (first|refine ey5 ?_ _|refine gy5 ?_|refine fy5 ?_ _));refine blk_far ?_ NB572_577.out _;(with_reducible repeat (first|refine ey5 ?_ _|refine gy5 ?_|refine fy5 ?_ _));refine blk_far ?_ NB572_577.out _;(with_reducible repeat (first|refine ey5 ?_ _|refine gy5 ?_|refine fy5 ?_ _));exact BK572.out⟩
           have n7_ : Aside0 (((w67.setCell ⟨gb577,0,none⟩ (.int .i64 t573)).setCell ⟨gb577,1,none⟩ (.slice Ao72 t574.length co72)).heap[gb577]? = some (.cells #[.int .i64 t573,.slice Ao72 t574.length co72] 27 (0,0))):=⟨by (with_reducible repeat (first|refine ey5 ?_ _|refine gy5 ?_|refine fy5 ?_ _));refine blk_put (cs:=#[.int .i64 t573,.slice none 0 0]) ?_ 1 _ rfl;(with_reducible repeat (first|refine ey5 ?_ _|refine gy5 ?_|refine fy5 ?_ _));refine blk_put (cs:=#[.int .i64 0,.slice none 0 0]) ?_ 0 _ rfl;(with_reducible repeat (first|refine ey5 ?_ _|refine gy5 ?_|refine fy5 ?_ _));exact BK577.out⟩
           have n8_ : Aside0 (Below w.heap.size w ((w67.setCell ⟨gb577,0,none⟩ (.int .i64 t573)).setCell ⟨gb577,1,none⟩ (.slice Ao72 t574.length co72))):=⟨by repeat (first|(with_reducible first|exact HB.out|apply by5|apply ay5|apply cy5|refine dy5 ?_ GE539.out|refine dy5 ?_ GE547.out|refine dy5 ?_ GE572.out|refine dy5 ?_ GE577.out)|exact HB.out)⟩
           (try clear HO_540001);(try clear HO_548001);(try clear HO571)
           (try clear HO576);(try clear BK539);(try clear BK547)
           (try clear BK572);(try clear BK577);(try clear HB)
           generalize ((w67.setCell ⟨gb577,0,none⟩ (.int .i64 t573)).setCell ⟨gb577,1,none⟩ (.slice Ao72 t574.length co72)) = w73 at n0_ n1_ n2_ n3_ n4_ n5_ n6_ n7_ n8_ ⊢
           have HO_540001:=n0_
           have HO_548001:=n1_
           have HO571:=n2_
           have HO576:=n3_
           have BK539:=n4_
           have BK547:=n5_
           have BK572:=n6_
           have BK577:=n7_
           have HB:=n8_
           clear n0_ n1_ n2_ n3_ n4_ n5_ n6_ n7_ n8_
           have n0_:=zz5 (cz5 HO_540001.out)
           have n1_:=zz5 (cz5 HO_548001.out)
           have n2_:=zz5 (cz5 HO571.out)
           have n3_:=zz5 (cz5 HO576.out)
           have n4_:=zz5 (gy5 BK539.out)
           have n5_:=zz5 (gy5 BK547.out)
           have n6_:=zz5 (gy5 BK572.out)
           have n7_:=zz5 (gy5 BK577.out)
           have n8_:=zz5 (cy5 HB.out)
           clear HO_540001
           clear HO_548001
           clear HO571
           clear HO576
           clear BK539
           clear BK547
           clear BK572
           clear BK577
           clear HB
           have HO_540001:=n0_
           have HO_548001:=n1_
           have HO571:=n2_
           have HO576:=n3_
           have BK539:=n4_
           have BK547:=n5_
           have BK572:=n6_
           have BK577:=n7_
           have HB:=n8_
           clear n0_ n1_ n2_ n3_ n4_ n5_ n6_ n7_ n8_
           refine start_ (n:=37) (S:=fun w'=>w'.cell? ⟨gb539,0,none⟩ = some (.int .i64 t535) ∧ w'.cell? ⟨gb539,1,none⟩ = some (.slice Ao13 t536.length co13) ∧ w'.cell? ⟨gb572,0,none⟩ = some (.int .i64 t568) ∧ w'.cell? ⟨gb572,1,none⟩ = some (.slice Ao65 t569.length co65)) (ds:=[]) #[Z,Z,Z,Z,Z,Z,Z,Z,Z,Z,Z,Z,Z,Z,Z,Z,Z,Z,Z,Z,Z,Z,Z,Z,Z,Z,Z,Z,Z,Z,Z,Z,Z,Z,Z,Z,Z] (by kernel_rfl) rfl rfl ⟨(blk_cell BK539.out 0).trans rfl,(blk_cell BK539.out 1).trans rfl,(blk_cell BK572.out 0).trans rfl,(blk_cell BK572.out 1).trans rfl⟩ (fun hHeld=>?_);refine with_tabW laws_FnNonces.tab15 laws_FnNonces.bits15 (fun HT_ HW_=>?_)
           generalize w73.drew = w74 at HO_540001 HO_548001 HO571 HO576 BK539 BK547 BK572 BK577 HB hHeld ⊢
           refine pure_ (i:=0) (N:=some 89) (v:=?_) (a':=?_) #[Y,Z,Z,Z,Z,Z,Z,Z,Z,Z,Z,Z,Z,Z,Z,Z,Z,Z,Z,Z,Z,Z,Z,Z,Z,Z,Z,Z,Z,Z,Z,Z,Z,Z,Z,Z,Z] rfl rfl (any_of HT_.out (by kernel_rfl)) (fun _ _ _ h=>h) (Or.inl ⟨by rfl,?_⟩) ?_ ?_
           rotate_left
           ·intro w';go_simp;with_reducible rfl
           rotate_left
           ·simp only [Act.put,sa_,sb_,sc_,i64_w];rfl
           refine take_ (i:=1) (N:=some 90) (v:=?_) (a':=?_) #[Y,Y,Z,Z,Z,Z,Z,Z,Z,Z,Z,Z,Z,Z,Z,Z,Z,Z,Z,Z,Z,Z,Z,Z,Z,Z,Z,Z,Z,Z,Z,Z,Z,Z,Z,Z,Z] rfl rfl (take_ofW HT_.out HW_.out (by kernel_rfl)) (fun _ _ _ h=>h) (Or.inl ⟨by rfl,?_⟩) hHeld ?_ ?_
           rotate_left
           ·rintro w' ⟨s0,s1,s2,s3⟩
            go_simp
            with_reducible rfl
           rotate_left
           ·simp only [Act.put,sa_,sb_,sc_,i64_w];rfl
           refine pure_ (i:=2) (N:=some 91) (v:=?_) (a':=?_) #[Y,Y,Y,Z,Z,Z,Z,Z,Z,Z,Z,Z,Z,Z,Z,Z,Z,Z,Z,Z,Z,Z,Z,Z,Z,Z,Z,Z,Z,Z,Z,Z,Z,Z,Z,Z,Z] rfl rfl (any_of HT_.out (by kernel_rfl)) (fun _ _ _ h=>h) (Or.inl ⟨by rfl,?_⟩) ?_ ?_
           rotate_left
           ·intro w';go_simp;with_reducible rfl
           rotate_left
           ·simp only [Act.put,sa_,sb_,sc_,i64_w];rfl
           refine pure_ (i:=3) (N:=some 92) (v:=?_) (a':=?_) #[Y,Y,Y,Y,Z,Z,Z,Z,Z,Z,Z,Z,Z,Z,Z,Z,Z,Z,Z,Z,Z,Z,Z,Z,Z,Z,Z,Z,Z,Z,Z,Z,Z,Z,Z,Z,Z] rfl rfl (any_of HT_.out (by kernel_rfl)) (fun _ _ _ h=>h) (Or.inl ⟨by rfl,?_⟩) ?_ ?_
           rotate_left
           ·intro w';go_simp;with_reducible rfl
           rotate_left
           ·simp only [Act.put,sa_,sb_,sc_,i64_w];rfl
           refine pure_ (i:=4) (N:=some 93) (v:=?_) (a':=?_) #[Y,Y,Y,Y,Y,Z,Z,Z,Z,Z,Z,Z,Z,Z,Z,Z,Z,Z,Z,Z,Z,Z,Z,Z,Z,Z,Z,Z,Z,Z,Z,Z,Z,Z,Z,Z,Z] rfl rfl (any_of HT_.out (by kernel_rfl)) (fun _ _ _ h=>h) (Or.inl ⟨by rfl,?_⟩) ?_ ?_
           rotate_left
           ·intro w';go_simp;with_reducible rfl
           rotate_left
           ·simp only [Act.put,sa_,sb_,sc_,i64_w];rfl
           refine pure_ (i:=5) (N:=some 94) (v:=?_) (a':=?_) #[Y,Y,Y,Y,Y,Y,Z,Z,Z,Z,Z,Z,Z,Z,Z,Z,Z,Z,Z,Z,Z,Z,Z,Z,Z,Z,Z,Z,Z,Z,Z,Z,Z,Z,Z,Z,Z] rfl rfl (any_of HT_.out (by kernel_rfl)) (fun _ _ _ h=>h) (Or.inl ⟨by rfl,?_⟩) ?_ ?_
           rotate_left
           ·intro w';go_simp;with_reducible rfl
           rotate_left
           ·simp only [Act.put,sa_,sb_,sc_,i64_w];rfl
           refine pure_ (i:=7) (N:=some 96) (v:=?_) (a':=?_) #[Y,Y,Y,Y,Y,Y,Z,Y,Z,Z,Z,Z,Z,Z,Z,Z,Z,Z,Z,Z,Z,Z,Z,Z,Z,Z,Z,Z,Z,Z,Z,Z,Z,Z,Z,Z,Z] rfl rfl (any_of HT_.out (by kernel_rfl)) (fun _ _ _ h=>h) (Or.inl ⟨by rfl,?_⟩) ?_ ?_
           rotate_left
           ·intro w';go_simp;with_reducible rfl
           rotate_left
           ·simp only [Act.put,sa_,sb_,sc_,i64_w];rfl
           refine take_ (i:=6) (N:=some 95) (v:=?_) (a':=?_) #[Y,Y,Y,Y,Y,Y,Y,Y,Z,Z,Z,Z,Z,Z,Z,Z,Z,Z,Z,Z,Z,Z,Z,Z,Z,Z,Z,Z,Z,Z,Z,Z,Z,Z,Z,Z,Z] rfl rfl (take_ofW HT_.out HW_.out (by kernel_rfl)) (fun _ _ _ h=>h) (Or.inl ⟨by rfl,?_⟩) hHeld ?_ ?_
           rotate_left
           ·rintro w' ⟨s0,s1,s2,s3⟩
            go_simp
            with_reducible rfl
           rotate_left
           ·simp only [Act.put,sa_,sb_,sc_,i64_w];rfl
           refine take_ (i:=8) (N:=some 97) (v:=?_) (a':=?_) #[Y,Y,Y,Y,Y,Y,Y,Y,Y,Z,Z,Z,Z,Z,Z,Z,Z,Z,Z,Z,Z,Z,Z,Z,Z,Z,Z,Z,Z,Z,Z,Z,Z,Z,Z,Z,Z] rfl rfl (take_ofW HT_.out HW_.out (by kernel_rfl)) (fun _ _ _ h=>h) (Or.inl ⟨by rfl,?_⟩) hHeld ?_ ?_
           rotate_left
           ·rintro w' ⟨s0,s1,s2,s3⟩
            go_simp
            with_reducible rfl
           rotate_left
           ·simp only [Act.put,sa_,sb_,sc_,i64_w];rfl
           refine one_ (i:=9) (N:=some 98) #[Y,Y,Y,Y,Y,Y,Y,Y,Y,Y,Z,Z,Z,Z,Z,Z,Z,Z,Z,Z,Z,Z,Z,Z,Z,Z,Z,Z,Z,Z,Z,Z,Z,Z,Z,Z,Z] rfl rfl (one_of HT_.out (by kernel_rfl)) (by decide) (fun K hK=>?_)
           refine goes_ Try.func19 (by kernel_rfl) rfl #[.slice Ao65 t569.length co65,.slice Ao13 t536.length co13] (by rfl) rfl rfl (by (try simp only [List.map_toArray,List.map_cons,List.map_nil]);first|done|rfl|(simp only [List.length_drop,List.length_take];rfl)) ?_
           with_reducible refine (laws_lwSame.calls _ _ t569 _ _ t536 true _ ?side1 ?side2 ?side3 ?side4 A56.out).mono ?_
           (case side1=>repeat (first|exact (iz5 HO571.out).2.2|(with_reducible refine Kd.C_alloc ?_ _)|(with_reducible refine Kd.C_drewN ?_ _)|(with_reducible refine Kd.C_drew ?_)))
           (case side2=>exact (iz5 HO571.out).2.1)
           (case side3=>repeat (first|exact (iz5 HO_540001.out).2.2|(with_reducible refine Kd.C_alloc ?_ _)|(with_reducible refine Kd.C_drewN ?_ _)|(with_reducible refine Kd.C_drew ?_)))
           (case side4=>exact (iz5 HO_540001.out).2.1)
           rintro e w' ⟨rfl,⟨nd,rfl⟩⟩
           refine ⟨_,rfl,?_⟩
           refine hK.out _ _ ⟨(blk_cell BK539.out 0).trans rfl,(blk_cell BK539.out 1).trans rfl,(blk_cell BK572.out 0).trans rfl,(blk_cell BK572.out 1).trans rfl⟩ (fun hHeld=>?_)
           clear hK K
           refine norm_ (a':=?_) ?_ ?_
           rotate_left
           ·show Act.put _ (some 98) _ = _
            simp only [Act.put,sa_,sb_,sc_,i64_w]
            rfl
           refine pure_ (i:=10) (N:=some 99) (v:=?_) (a':=?_) #[Y,Y,Y,Y,Y,Y,Y,Y,Y,Y,Y,Z,Z,Z,Z,Z,Z,Z,Z,Z,Z,Z,Z,Z,Z,Z,Z,Z,Z,Z,Z,Z,Z,Z,Z,Z,Z] rfl rfl (any_of HT_.out (by kernel_rfl)) (fun _ _ _ h=>h) (Or.inl ⟨by rfl,?_⟩) ?_ ?_
           rotate_left
           ·intro w';go_simp;with_reducible rfl
           rotate_left
           ·simp only [Act.put,sa_,sb_,sc_,i64_w];rfl
           refine pure_ (i:=11) (N:=some 100) (v:=?_) (a':=?_) #[Y,Y,Y,Y,Y,Y,Y,Y,Y,Y,Y,Y,Z,Z,Z,Z,Z,Z,Z,Z,Z,Z,Z,Z,Z,Z,Z,Z,Z,Z,Z,Z,Z,Z,Z,Z,Z] rfl rfl (any_of HT_.out (by kernel_rfl)) (fun _ _ _ h=>h) (Or.inl ⟨by rfl,?_⟩) ?_ ?_
           rotate_left
           ·intro w';go_simp;with_reducible rfl
           rotate_left
           ·simp only [Act.put,sa_,sb_,sc_,i64_w];rfl
           refine pure_ (i:=12) (N:=some 101) (v:=?_) (a':=?_) #[Y,Y,Y,Y,Y,Y,Y,Y,Y,Y,Y,Y,Y,Z,Z,Z,Z,Z,Z,Z,Z,Z,Z,Z,Z,Z,Z,Z,Z,Z,Z,Z,Z,Z,Z,Z,Z] rfl rfl (any_of HT_.out (by kernel_rfl)) (fun _ _ _ h=>h) (Or.inl ⟨by rfl,?_⟩) ?_ ?_
           rotate_left
           ·intro w';go_simp;with_reducible rfl
           rotate_left
           ·simp only [Act.put,sa_,sb_,sc_,i64_w];rfl
           refine pure_ (i:=13) (N:=some 102) (v:=undef) (a':=?_) #[Y,Y,Y,Y,Y,Y,Y,Y,Y,Y,Y,Y,Y,Y,Z,Z,Z,Z,Z,Z,Z,Z,Z,Z,Z,Z,Z,Z,Z,Z,Z,Z,Z,Z,Z,Z,Z] rfl rfl (any_of HT_.out (by kernel_rfl)) (fun _ _ _ h=>h) (Or.inr ⟨by rfl,rfl⟩) ?_ ?_
           rotate_left
           ·simp only [Act.put,sa_,sb_,sc_,i64_w];rfl
           refine pure_ (i:=14) (N:=some 103) (v:=undef) (a':=?_) #[Y,Y,Y,Y,Y,Y,Y,Y,Y,Y,Y,Y,Y,Y,Y,Z,Z,Z,Z,Z,Z,Z,Z,Z,Z,Z,Z,Z,Z,Z,Z,Z,Z,Z,Z,Z,Z] rfl rfl (any_of HT_.out (by kernel_rfl)) (fun _ _ _ h=>h) (Or.inr ⟨by rfl,rfl⟩) ?_ ?_
           rotate_left
           ·simp only [Act.put,sa_,sb_,sc_,i64_w];rfl
           refine pure_ (i:=15) (N:=some 104) (v:=undef) (a':=?_) #[Y,Y,Y,Y,Y,Y,Y,Y,Y,Y,Y,Y,Y,Y,Y,Y,Z,Z,Z,Z,Z,Z,Z,Z,Z,Z,Z,Z,Z,Z,Z,Z,Z,Z,Z,Z,Z] rfl rfl (any_of HT_.out (by kernel_rfl)) (fun _ _ _ h=>h) (Or.inr ⟨by rfl,rfl⟩) ?_ ?_
           rotate_left
           ·simp only [Act.put,sa_,sb_,sc_,i64_w];rfl
           refine pure_ (i:=16) (N:=some 105) (v:=undef) (a':=?_) #[Y,Y,Y,Y,Y,Y,Y,Y,Y,Y,Y,Y,Y,Y,Y,Y,Y,Z,Z,Z,Z,Z,Z,Z,Z,Z,Z,Z,Z,Z,Z,Z,Z,Z,Z,Z,Z] rfl rfl (any_of HT_.out (by kernel_rfl)) (fun _ _ _ h=>h) (Or.inr ⟨by rfl,rfl⟩) ?_ ?_
           rotate_left
           ·simp only [Act.put,sa_,sb_,sc_,i64_w];rfl
           refine pure_ (i:=17) (N:=some 106) (v:=undef) (a':=?_) #[Y,Y,Y,Y,Y,Y,Y,Y,Y,Y,Y,Y,Y,Y,Y,Y,Y,Y,Z,Z,Z,Z,Z,Z,Z,Z,Z,Z,Z,Z,Z,Z,Z,Z,Z,Z,Z] rfl rfl (any_of HT_.out (by kernel_rfl)) (fun _ _ _ h=>h) (Or.inr ⟨by rfl,rfl⟩) ?_ ?_
           rotate_left
           ·simp only [Act.put,sa_,sb_,sc_,i64_w];rfl
           refine pure_ (i:=18) (N:=some 107) (v:=undef) (a':=?_) #[Y,Y,Y,Y,Y,Y,Y,Y,Y,Y,Y,Y,Y,Y,Y,Y,Y,Y,Y,Z,Z,Z,Z,Z,Z,Z,Z,Z,Z,Z,Z,Z,Z,Z,Z,Z,Z] rfl rfl (any_of HT_.out (by kernel_rfl)) (fun _ _ _ h=>h) (Or.inr ⟨by rfl,rfl⟩) ?_ ?_
           rotate_left
           ·simp only [Act.put,sa_,sb_,sc_,i64_w];rfl
           refine pure_ (i:=19) (N:=some 108) (v:=undef) (a':=?_) #[Y,Y,Y,Y,Y,Y,Y,Y,Y,Y,Y,Y,Y,Y,Y,Y,Y,Y,Y,Y,Z,Z,Z,Z,Z,Z,Z,Z,Z,Z,Z,Z,Z,Z,Z,Z,Z] rfl rfl (any_of HT_.out (by kernel_rfl)) (fun _ _ _ h=>h) (Or.inr ⟨by rfl,rfl⟩) ?_ ?_
           rotate_left
           ·simp only [Act.put,sa_,sb_,sc_,i64_w];rfl
           refine pure_ (i:=20) (N:=some 109) (v:=undef) (a':=?_) #[Y,Y,Y,Y,Y,Y,Y,Y,Y,Y,Y,Y,Y,Y,Y,Y,Y,Y,Y,Y,Y,Z,Z,Z,Z,Z,Z,Z,Z,Z,Z,Z,Z,Z,Z,Z,Z] rfl rfl (any_of HT_.out (by kernel_rfl)) (fun _ _ _ h=>h) (Or.inr ⟨by rfl,rfl⟩) ?_ ?_
           rotate_left
           ·simp only [Act.put,sa_,sb_,sc_,i64_w];rfl
           refine pure_ (i:=21) (N:=some 110) (v:=undef) (a':=?_) #[Y,Y,Y,Y,Y,Y,Y,Y,Y,Y,Y,Y,Y,Y,Y,Y,Y,Y,Y,Y,Y,Y,Z,Z,Z,Z,Z,Z,Z,Z,Z,Z,Z,Z,Z,Z,Z] rfl rfl (any_of HT_.out (by kernel_rfl)) (fun _ _ _ h=>h) (Or.inr ⟨by rfl,rfl⟩) ?_ ?_
           rotate_left
           ·simp only [Act.put,sa_,sb_,sc_,i64_w];rfl
           refine pure_ (i:=22) (N:=some 111) (v:=undef) (a':=?_) #[Y,Y,Y,Y,Y,Y,Y,Y,Y,Y,Y,Y,Y,Y,Y,Y,Y,Y,Y,Y,Y,Y,Y,Z,Z,Z,Z,Z,Z,Z,Z,Z,Z,Z,Z,Z,Z] rfl rfl (any_of HT_.out (by kernel_rfl)) (fun _ _ _ h=>h) (Or.inr ⟨by rfl,rfl⟩) ?_ ?_
           rotate_left
           ·simp only [Act.put,sa_,sb_,sc_,i64_w];rfl
           refine pure_ (i:=23) (N:=some 112) (v:=undef) (a':=?_) #[Y,Y,Y,Y,Y,Y,Y,Y,Y,Y,Y,Y,Y,Y,Y,Y,Y,Y,Y,Y,Y,Y,Y,Y,Z,Z,Z,Z,Z,Z,Z,Z,Z,Z,Z,Z,Z] rfl rfl (any_of HT_.out (by kernel_rfl)) (fun _ _ _ h=>h) (Or.inr ⟨by rfl,rfl⟩) ?_ ?_
           rotate_left
           ·simp only [Act.put,sa_,sb_,sc_,i64_w];rfl
           refine pure_ (i:=24) (N:=some 113) (v:=undef) (a':=?_) #[Y,Y,Y,Y,Y,Y,Y,Y,Y,Y,Y,Y,Y,Y,Y,Y,Y,Y,Y,Y,Y,Y,Y,Y,Y,Z,Z,Z,Z,Z,Z,Z,Z,Z,Z,Z,Z] rfl rfl (any_of HT_.out (by kernel_rfl)) (fun _ _ _ h=>h) (Or.inr ⟨by rfl,rfl⟩) ?_ ?_
           rotate_left
           ·simp only [Act.put,sa_,sb_,sc_,i64_w];rfl
           refine pure_ (i:=25) (N:=some 114) (v:=undef) (a':=?_) #[Y,Y,Y,Y,Y,Y,Y,Y,Y,Y,Y,Y,Y,Y,Y,Y,Y,Y,Y,Y,Y,Y,Y,Y,Y,Y,Z,Z,Z,Z,Z,Z,Z,Z,Z,Z,Z] rfl rfl (any_of HT_.out (by kernel_rfl)) (fun _ _ _ h=>h) (Or.inr ⟨by rfl,rfl⟩) ?_ ?_
           rotate_left
           ·simp only [Act.put,sa_,sb_,sc_,i64_w];rfl
           refine pure_ (i:=26) (N:=some 115) (v:=?_) (a':=?_) #[Y,Y,Y,Y,Y,Y,Y,Y,Y,Y,Y,Y,Y,Y,Y,Y,Y,Y,Y,Y,Y,Y,Y,Y,Y,Y,Y,Z,Z,Z,Z,Z,Z,Z,Z,Z,Z] rfl rfl (any_of HT_.out (by kernel_rfl)) (fun _ _ _ h=>h) (Or.inl ⟨by rfl,?_⟩) ?_ ?_
           rotate_left
           ·intro w';go_simp;with_reducible rfl
           rotate_left
           ·simp only [Act.put,sa_,sb_,sc_,i64_w];rfl
           refine pure_ (i:=27) (N:=some 116) (v:=?_) (a':=?_) #[Y,Y,Y,Y,Y,Y,Y,Y,Y,Y,Y,Y,Y,Y,Y,Y,Y,Y,Y,Y,Y,Y,Y,Y,Y,Y,Y,Y,Z,Z,Z,Z,Z,Z,Z,Z,Z] rfl rfl (any_of HT_.out (by kernel_rfl)) (fun _ _ _ h=>h) (Or.inl ⟨by rfl,?_⟩) ?_ ?_
           rotate_left
           ·intro w';go_simp;with_reducible rfl
           rotate_left
           ·simp only [Act.put,sa_,sb_,sc_,i64_w];rfl
           refine pure_ (i:=28) (N:=some 117) (v:=undef) (a':=?_) #[Y,Y,Y,Y,Y,Y,Y,Y,Y,Y,Y,Y,Y,Y,Y,Y,Y,Y,Y,Y,Y,Y,Y,Y,Y,Y,Y,Y,Y,Z,Z,Z,Z,Z,Z,Z,Z] rfl rfl (any_of HT_.out (by kernel_rfl)) (fun _ _ _ h=>h) (Or.inr ⟨by rfl,rfl⟩) ?_ ?_
           rotate_left
           ·simp only [Act.put,sa_,sb_,sc_,i64_w];rfl
           refine pure_ (i:=29) (N:=some 118) (v:=undef) (a':=?_) #[Y,Y,Y,Y,Y,Y,Y,Y,Y,Y,Y,Y,Y,Y,Y,Y,Y,Y,Y,Y,Y,Y,Y,Y,Y,Y,Y,Y,Y,Y,Z,Z,Z,Z,Z,Z,Z] rfl rfl (any_of HT_.out (by kernel_rfl)) (fun _ _ _ h=>h) (Or.inr ⟨by rfl,rfl⟩) ?_ ?_
           rotate_left
           ·simp only [Act.put,sa_,sb_,sc_,i64_w];rfl
           refine pure_ (i:=30) (N:=some 119) (v:=undef) (a':=?_) #[Y,Y,Y,Y,Y,Y,Y,Y,Y,Y,Y,Y,Y,Y,Y,Y,Y,Y,Y,Y,Y,Y,Y,Y,Y,Y,Y,Y,Y,Y,Y,Z,Z,Z,Z,Z,Z] rfl rfl (any_of HT_.out (by kernel_rfl)) (fun _ _ _ h=>h) (Or.inr ⟨by rfl,rfl⟩) ?_ ?_
           rotate_left
           ·simp only [Act.put,sa_,sb_,sc_,i64_w];rfl
           refine pure_ (i:=31) (N:=some 120) (v:=undef) (a':=?_) #[Y,Y,Y,Y,Y,Y,Y,Y,Y,Y,Y,Y,Y,Y,Y,Y,Y,Y,Y,Y,Y,Y,Y,Y,Y,Y,Y,Y,Y,Y,Y,Y,Z,Z,Z,Z,Z] rfl rfl (any_of HT_.out (by kernel_rfl)) (fun _ _ _ h=>h) (Or.inr ⟨by rfl,rfl⟩) ?_ ?_
           rotate_left
           ·simp only [Act.put,sa_,sb_,sc_,i64_w];rfl
           refine pure_ (i:=32) (N:=some 121) (v:=undef) (a':=?_) #[Y,Y,Y,Y,Y,Y,Y,Y,Y,Y,Y,Y,Y,Y,Y,Y,Y,Y,Y,Y,Y,Y,Y,Y,Y,Y,Y,Y,Y,Y,Y,Y,Y,Z,Z,Z,Z] rfl rfl (any_of HT_.out (by kernel_rfl)) (fun _ _ _ h=>h) (Or.inr ⟨by rfl,rfl⟩) ?_ ?_
           rotate_left
           ·simp only [Act.put,sa_,sb_,sc_,i64_w];rfl
           refine pure_ (i:=33) (N:=some 122) (v:=undef) (a':=?_) #[Y,Y,Y,Y,Y,Y,Y,Y,Y,Y,Y,Y,Y,Y,Y,Y,Y,Y,Y,Y,Y,Y,Y,Y,Y,Y,Y,Y,Y,Y,Y,Y,Y,Y,Z,Z,Z] rfl rfl (any_of HT_.out (by kernel_rfl)) (fun _ _ _ h=>h) (Or.inr ⟨by rfl,rfl⟩) ?_ ?_
           rotate_left
           ·simp only [Act.put,sa_,sb_,sc_,i64_w];rfl
           refine pure_ (i:=34) (N:=some 123) (v:=undef) (a':=?_) #[Y,Y,Y,Y,Y,Y,Y,Y,Y,Y,Y,Y,Y,Y,Y,Y,Y,Y,Y,Y,Y,Y,Y,Y,Y,Y,Y,Y,Y,Y,Y,Y,Y,Y,Y,Z,Z] rfl rfl (any_of HT_.out (by kernel_rfl)) (fun _ _ _ h=>h) (Or.inr ⟨by rfl,rfl⟩) ?_ ?_
           rotate_left
           ·simp only [Act.put,sa_,sb_,sc_,i64_w];rfl
           refine pure_ (i:=35) (N:=some 124) (v:=?_) (a':=?_) #[Y,Y,Y,Y,Y,Y,Y,Y,Y,Y,Y,Y,Y,Y,Y,Y,Y,Y,Y,Y,Y,Y,Y,Y,Y,Y,Y,Y,Y,Y,Y,Y,Y,Y,Y,Y,Z] rfl rfl (any_of HT_.out (by kernel_rfl)) (fun _ _ _ h=>h) (Or.inl ⟨by rfl,?_⟩) ?_ ?_
           rotate_left
           ·intro w';go_simp;with_reducible rfl
           rotate_left
           ·simp only [Act.put,sa_,sb_,sc_,i64_w];rfl
           refine pure_ (i:=36) (N:=some 2) (v:=?_) (a':=?_) #[Y,Y,Y,Y,Y,Y,Y,Y,Y,Y,Y,Y,Y,Y,Y,Y,Y,Y,Y,Y,Y,Y,Y,Y,Y,Y,Y,Y,Y,Y,Y,Y,Y,Y,Y,Y,Y] rfl rfl (any_of HT_.out (by kernel_rfl)) (fun _ _ _ h=>h) (Or.inl ⟨by rfl,?_⟩) ?_ ?_
           rotate_left
           ·intro w';go_simp;with_reducible rfl
           rotate_left
           ·simp only [Act.put,sa_,sb_,sc_,i64_w];rfl
           refine done_ (done_of HT_.out (by kernel_rfl)) ?_
           try go_wp2
           go_ret
           exact⟨by first|rfl|(simp [errW_none,errW_some] <;> rfl)|(simp [*,errW_none,errW_some] <;> rfl),by repeat (first|(with_reducible first|exact HB.out|apply by5|apply ay5|apply cy5|refine dy5 ?_ GE539.out|refine dy5 ?_ GE547.out|refine dy5 ?_ GE572.out|refine dy5 ?_ GE577.out)|exact HB.out)⟩
          ·replace c57:=Bool.eq_false_iff.mpr c57
           subst c57
           have H1 : (if (wrap64 ((wrap64 (Int.tdiv t534 2)) + 1)) = t534 then ((spec_NonceOf.f kj39 t533 t534).bind fun bt579=>((laws_lwSame.f t536 bt579.2).bind fun t583=>(some t583))) else ((laws_lwSame.f t574 t536).bind fun t584=>(if t584 = true then (some false) else ((spec_NonceOf.f kj39 t533 t534).bind fun bt585=>((laws_lwSame.f t536 bt585.2).bind fun t589=>(some t589)))))) = some r:=by rw [if_neg (show ¬ (false = true) by decide)] at H;exact H
           clear H
           have H:=H1
           clear H1
           by_cases c75 : (wrap64 ((wrap64 (Int.tdiv t534 2)) + 1)) = t534
           ·rw [if_pos c75] at H
            have c75b0 : ((wrap64 ((wrap64 (Int.tdiv t534 2)) + 1)) == t534) = true:=beq_iff_eq.mpr c75
            have c75b1 : ((wrap64 ((wrap64 (Int.tdiv t534 2)) + 1)) != t534) = false:=bne_eq_false_iff_eq.mpr c75
            clear c75
            replace H:=Option.bind_eq_some_iff.mp H
            obtain⟨⟨t579,t580⟩,A760,H⟩:=H
            replace H : ((laws_lwSame.f t536 t580).bind fun t583=>(some t583)) = some r:=H
            have A76:=zz5 A760
            clear A760
            replace H:=Option.bind_eq_some_iff.mp H
            obtain⟨t583,A770,H⟩:=H
            replace H : (some t583) = some r:=H
            have A77:=zz5 A770
            clear A770
            obtain rfl:=Option.some.inj H
            have hnb78:=NB539_547.out
            have hnc78:=NB547_539.out
            have hcz79_0 : wc.cell? ⟨gb539,0,none⟩ = some (.int .i64 t535):=(blk_cell BK539.out 0).trans rfl
            have hcz79_1 : wc.cell? ⟨gb539,1,none⟩ = some (.slice Ao13 t536.length co13):=(blk_cell BK539.out 1).trans rfl
            have hfz79_0:=blk_frozen BK539.out 0
            have hfz79_1:=blk_frozen BK539.out 1
            try go_wp2_with (first|((with_reducible refine gate_callee (f:=29) rfl ?_);refine goesL_ (some 83) rfl rfl Try.func29 (by kernel_rfl) rfl #[.int .i64 (Int.tmod (wrap64 (t533 + 1)) 16),.int .i64 t534] rfl (by (try simp only [List.map_toArray,List.map_cons,List.map_nil]);first|done|rfl|(simp only [List.length_drop,List.length_take];rfl)) ?_;(with_reducible refine (impl_NonceOf.calls kj39 (Int.tmod (wrap64 (t533 + 1)) 16) t534 t568 t569 _ A53.out).mono ?_);rintro e w80 ⟨v570,rfl,ho0,hb⟩;refine ⟨_,rfl,?_⟩;have n0_:=zz5 (jz5 (by (with_reducible repeat (first|apply az5|apply bz5|apply cz5));exact HO_540001.out) (fz5 ho0) hb);have n1_:=zz5 (jz5 (by (with_reducible repeat (first|apply az5|apply bz5|apply cz5));exact HO_548001.out) (fz5 ho0) hb);have n2_:=zz5 (Kd.R_lower (kz5 (kz5 ho0 (Kd.R_lt (by (with_reducible repeat (first|apply az5|apply bz5|apply cz5));exact HO_540001.out))) (Kd.R_lt (by (with_reducible repeat (first|apply az5|apply bz5|apply cz5));exact HO_548001.out))) (below_size (by repeat(first|(with_reducible first|exact HB.out|apply by5|apply ay5|apply cy5|refine dy5 ?_ GE539.out|refine dy5 ?_ GE547.out)|exact HB.out))));have n3_:=zz5 (hy5 (g:=gb539) (o:=.cells #[.int .i64 t535,.slice Ao13 t536.length co13] 27 (0,0)) (by (with_reducible repeat (first|refine ey5 ?_ _|refine gy5 ?_|refine fy5 ?_ _));exact BK539.out) hb);have n4_:=zz5 (hy5 (g:=gb547) (o:=.cells #[.int .i64 t543,.slice Ao19 t544.length co19] 27 (0,0)) (by (with_reducible repeat (first|refine ey5 ?_ _|refine gy5 ?_|refine fy5 ?_ _));exact BK547.out) hb);have n5_:=zz5 (below_step (by repeat(first|(with_reducible first|exact HB.out|apply by5|apply ay5|apply cy5|refine dy5 ?_ GE539.out|refine dy5 ?_ GE547.out)|exact HB.out)) hb);clear HO_540001;clear HO_548001;clear BK539;clear BK547;clear HB;have HO_540001:=n0_;have HO_548001:=n1_;have HO571:=n2_;have BK539:=n3_;have BK547:=n4_;have HB:=n5_;clear n0_ n1_ n2_ n3_ n4_ n5_;(try clear hb);(try clear hb2);(try clear hk);(try clear hi);(try clear ho0))|((with_reducible refine gate_dst (N:=10) rfl ?_);(try (refine gate_guard (by rfl) ?_;dsimp only));refine box_event ?hg (N:=10) ?hd (cs:=#[.int .i64 0,.slice none 0 0]) (t:=27) ?hr ?_;(case hd=>rfl);(case hg=>rfl);(case hr=>first|(go_simp;done)|(go_simp;rfl));intro gb572 hg w81 hbox hb;have n0_:=zz5 (dz5 (by (with_reducible repeat (first|apply az5|apply bz5|apply cz5));exact HO_540001.out) hb);have n1_:=zz5 (dz5 (by (with_reducible repeat (first|apply az5|apply bz5|apply cz5));exact HO_548001.out) hb);have n2_:=zz5 (dz5 (by (with_reducible repeat (first|apply az5|apply bz5|apply cz5));exact HO571.out) hb);have n3_:=zz5 (hy5 (g:=gb539) (o:=.cells #[.int .i64 t535,.slice Ao13 t536.length co13] 27 (0,0)) (by (with_reducible repeat (first|refine ey5 ?_ _|refine gy5 ?_|refine fy5 ?_ _));exact BK539.out) hb);have n4_:=zz5 (hy5 (g:=gb547) (o:=.cells #[.int .i64 t543,.slice Ao19 t544.length co19] 27 (0,0)) (by (with_reducible repeat (first|refine ey5 ?_ _|refine gy5 ?_|refine fy5 ?_ _));exact BK547.out) hb);have n5_:=zz5 (below_step (by repeat(first|(with_reducible first|exact HB.out|apply by5|apply ay5|apply cy5|refine dy5 ?_ GE539.out|refine dy5 ?_ GE547.out)|exact HB.out)) hb);have n6_:=zz5 (hbox);have n7_:=zz5 ((by rw [hg];exact (below_size (by repeat(first|(with_reducible first|exact HB.out|apply by5|apply ay5|apply cy5|refine dy5 ?_ GE539.out|refine dy5 ?_ GE547.out)|exact HB.out))) : w.heap.size ≤ gb572));have n8_:=zz5 ((by rw [hg];exact (below_size (by repeat(first|(with_reducible first|exact HB.out|apply by5|apply ay5|apply cy5|refine dy5 ?_ GE539.out|refine dy5 ?_ GE547.out)|exact HB.out))) : w.heap.size ≤ gb572));have n9_:=zz5 ((by rw [hg];exact Nat.ne_of_lt (blk_lt (g:=gb539) (o:=.cells #[.int .i64 t535,.slice Ao13 t536.length co13] 27 (0,0)) (by (with_reducible repeat (first|refine ey5 ?_ _|refine gy5 ?_|refine fy5 ?_ _));exact BK539.out)) : gb539 ≠ gb572));have n10_:=zz5 ((by rw [hg];exact Nat.ne_of_gt (blk_lt (g:=gb539) (o:=.cells #[.int .i64 t535,.slice Ao13 t536.length co13] 27 (0,0)) (by (with_reducible repeat (first|refine ey5 ?_ _|refine gy5 ?_|refine fy5 ?_ _));exact BK539.out)) : gb572 ≠ gb539));have n11_:=zz5 ((by rw [hg];exact Nat.ne_of_lt (blk_lt (g:=gb547) (o:=.cells #[.int .i64 t543,.slice Ao19 t544.length co19] 27 (0,0)) (by (with_reducible repeat (first|refine ey5 ?_ _|refine gy5 ?_|refine fy5 ?_ _));exact BK547.out)) : gb547 ≠ gb572));have n12_:=zz5 ((by rw [hg];exact Nat.ne_of_gt (blk_lt (g:=gb547) (o:=.cells #[.int .i64 t543,.slice Ao19 t544.length co19] 27 (0,0)) (by (with_reducible repeat (first|refine ey5 ?_ _|refine gy5 ?_|refine fy5 ?_ _));exact BK547.out)) : gb572 ≠ gb547));clear HO_540001;clear HO_548001;clear HO571;clear BK539;clear BK547;clear HB;have HO_540001:=n0_;have HO_548001:=n1_;have HO571:=n2_;have BK539:=n3_;have BK547:=n4_;have HB:=n5_;have BK572:=n6_;have GW572:=n7_;have GE572:=n8_;have NB539_572:=n9_;have NB572_539:=n10_;have NB547_572:=n11_;have NB572_547:=n12_;clear n0_ n1_ n2_ n3_ n4_ n5_ n6_ n7_ n8_ n9_ n10_ n11_ n12_;clear hb hbox hg;have hnb82:=NB572_539.out;have hnc82:=NB539_572.out;have hnb83:=NB572_547.out;have hnc83:=NB547_572.out;have hcz84_0 : w81.cell? ⟨gb572,0,none⟩ = some (.int .i64 0):=(blk_cell BK572.out 0).trans rfl;have hcz84_1 : w81.cell? ⟨gb572,1,none⟩ = some (.slice none 0 0):=(blk_cell BK572.out 1).trans rfl;have hfz84_0:=blk_frozen BK572.out 0;have hfz84_1:=blk_frozen BK572.out 1;obtain⟨Ao85,co85,eo85⟩:=Kd.R_slice HO571.out;subst eo85)|((with_reducible refine gate_callee (f:=29) rfl ?_);refine goesL_ (some 88) rfl rfl Try.func29 (by kernel_rfl) rfl #[.int .i64 t533,.int .i64 (wrap64 ((wrap64 (Int.tdiv t534 2)) + 1))] rfl (by (try simp only [List.map_toArray,List.map_cons,List.map_nil]);first|done|rfl|(simp only [List.length_drop,List.length_take];rfl)) ?_;(with_reducible refine (impl_NonceOf.calls kj39 t533 (wrap64 ((wrap64 (Int.tdiv t534 2)) + 1)) t573 t574 _ A54.out).mono ?_);rintro e w86 ⟨v575,rfl,ho0,hb⟩;refine ⟨_,rfl,?_⟩;have n0_:=zz5 (jz5 (by (with_reducible repeat (first|apply az5|apply bz5|apply cz5));exact (gz5 (ez5 (p:=⟨gb572,1,none⟩) (ez5 (p:=⟨gb572,0,none⟩) (hz5 HO_540001.out BK572.out (by decide)) (fun _ hk=>hk.2) (.int .i64 t568)) (fun _ hk=>hk.2) (.slice Ao85 t569.length co85)) (fun _ h_=>h_.1))) (fz5 ho0) hb);have n1_:=zz5 (jz5 (by (with_reducible repeat (first|apply az5|apply bz5|apply cz5));exact (gz5 (ez5 (p:=⟨gb572,1,none⟩) (ez5 (p:=⟨gb572,0,none⟩) (hz5 HO_548001.out BK572.out (by decide)) (fun _ hk=>hk.2) (.int .i64 t568)) (fun _ hk=>hk.2) (.slice Ao85 t569.length co85)) (fun _ h_=>h_.1))) (fz5 ho0) hb);have n2_:=zz5 (jz5 (by (with_reducible repeat (first|apply az5|apply bz5|apply cz5));exact (gz5 (ez5 (p:=⟨gb572,1,none⟩) (ez5 (p:=⟨gb572,0,none⟩) (hz5 HO571.out BK572.out (by decide)) (fun _ hk=>hk.2) (.int .i64 t568)) (fun _ hk=>hk.2) (.slice Ao85 t569.length co85)) (fun _ h_=>h_.1))) (fz5 ho0) hb);have n3_:=zz5 (Kd.R_lower (kz5 (kz5 (kz5 ho0 (Kd.R_lt (by (with_reducible repeat (first|apply az5|apply bz5|apply cz5));exact (gz5 (ez5 (p:=⟨gb572,1,none⟩) (ez5 (p:=⟨gb572,0,none⟩) (hz5 HO_540001.out BK572.out (by decide)) (fun _ hk=>hk.2) (.int .i64 t568)) (fun _ hk=>hk.2) (.slice Ao85 t569.length co85)) (fun _ h_=>h_.1))))) (Kd.R_lt (by (with_reducible repeat (first|apply az5|apply bz5|apply cz5));exact (gz5 (ez5 (p:=⟨gb572,1,none⟩) (ez5 (p:=⟨gb572,0,none⟩) (hz5 HO_548001.out BK572.out (by decide)) (fun _ hk=>hk.2) (.int .i64 t568)) (fun _ hk=>hk.2) (.slice Ao85 t569.length co85)) (fun _ h_=>h_.1))))) (Kd.R_lt (by (with_reducible repeat (first|apply az5|apply bz5|apply cz5));exact (gz5 (ez5 (p:=⟨gb572,1,none⟩) (ez5 (p:=⟨gb572,0,none⟩) (hz5 HO571.out BK572.out (by decide)) (fun _ hk=>hk.2) (.int .i64 t568)) (fun _ hk=>hk.2) (.slice Ao85 t569.length co85)) (fun _ h_=>h_.1))))) (below_size (by repeat(first|(with_reducible first|exact HB.out|apply by5|apply ay5|apply cy5|refine dy5 ?_ GE539.out|refine dy5 ?_ GE547.out|refine dy5 ?_ GE572.out)|exact HB.out))));have n4_:=zz5 (hy5 (g:=gb539) (o:=.cells #[.int .i64 t535,.slice Ao13 t536.length co13] 27 (0,0)) (by (with_reducible repeat (first|refine ey5 ?_ _|refine gy5 ?_|refine fy5 ?_ _));refine blk_far ?_ NB539_572.out _;(with_reducible repeat (first|refine ey5 ?_ _|refine gy5 ?_|refine fy5 ?_ _));refine blk_far ?_ NB539_572.out _;(with_reducible repeat (first|refine ey5 ?_ _|refine gy5 ?_|refine fy5 ?_ _));exact BK539.out) hb);have n5_:=zz5 (hy5 (g:=gb547) (o:=.cells #[.int .i64 t543,.slice Ao19 t544.length co19] 27 (0,0)) (by (with_reducible repeat (first|refine ey5 ?_ _|refine gy5 ?_|refine fy5 ?_ _));refine blk_far ?_ NB547_572.out _;(with_reducible repeat (first|refine ey5 ?_ _|refine gy5 ?_|refine fy5 ?_ _));refine blk_far ?_ NB547_572.out _;(with_reducible repeat (first|refine ey5 ?_ _|refine gy5 ?_|refine fy5 ?_ _));exact BK547.out) hb);have n6_:=zz5 (hy5 (g:=gb572) (o:=.cells #[.int .i64 t568,.slice Ao85 t569.length co85] 27 (0,0)) (by (with_reducible repeat (first|refine ey5 ?_ _|refine gy5 ?_|refine fy5 ?_ _));refine blk_put (cs:=#[.int .i64 t568,.slice none 0 0]) ?_ 1 _ rfl;(with_reducible repeat (first|refine ey5 ?_ _|refine gy5 ?_|refine fy5 ?_ _));refine blk_put (cs:=#[.int .i64 0,.slice none 0 0]) ?_ 0 _ rfl;(with_reducible repeat (first|refine ey5 ?_ _|refine gy5 ?_|refine fy5 ?_ _));exact BK572.out) hb);have n7_:=zz5 (below_step (by repeat(first|(with_reducible first|exact HB.out|apply by5|apply ay5|apply cy5|refine dy5 ?_ GE539.out|refine dy5 ?_ GE547.out|refine dy5 ?_ GE572.out)|exact HB.out)) hb);clear HO_540001;clear HO_548001;clear HO571;clear BK539;clear BK547;clear BK572;clear HB;have HO_540001:=n0_;have HO_548001:=n1_;have HO571:=n2_;have HO576:=n3_;have BK539:=n4_;have BK547:=n5_;have BK572:=n6_;have HB:=n7_;clear n0_ n1_ n2_ n3_ n4_ n5_ n6_ n7_;(try clear hb);(try clear hb2);(try clear hk);(try clear hi);(try clear ho0))|((with_reducible refine gate_dst (N:=11) rfl ?_);(try (refine gate_guard (by rfl) ?_;dsimp only));refine box_event ?hg (N:=11) ?hd (cs:=#[.int .i64 0,.slice none 0 0]) (t:=27) ?hr ?_;(case hd=>rfl);(case hg=>rfl);(case hr=>first|(go_simp;done)|(go_simp;rfl));intro gb577 hg w87 hbox hb;have n0_:=zz5 (dz5 (by (with_reducible repeat (first|apply az5|apply bz5|apply cz5));exact HO_540001.out) hb);have n1_:=zz5 (dz5 (by (with_reducible repeat (first|apply az5|apply bz5|apply cz5));exact HO_548001.out) hb);have n2_:=zz5 (dz5 (by (with_reducible repeat (first|apply az5|apply bz5|apply cz5));exact HO571.out) hb);have n3_:=zz5 (dz5 (by (with_reducible repeat (first|apply az5|apply bz5|apply cz5));exact HO576.out) hb);have n4_:=zz5 (hy5 (g:=gb539) (o:=.cells #[.int .i64 t535,.slice Ao13 t536.length co13] 27 (0,0)) (by (with_reducible repeat (first|refine ey5 ?_ _|refine gy5 ?_|refine fy5 ?_ _));exact BK539.out) hb);have n5_:=zz5 (hy5 (g:=gb547) (o:=.cells #[.int .i64 t543,.slice Ao19 t544.length co19] 27 (0,0)) (by (with_reducible repeat (first|refine ey5 ?_ _|refine gy5 ?_|refine fy5 ?_ _));exact BK547.out) hb);have n6_:=zz5 (hy5 (g:=gb572) (o:=.cells #[.int .i64 t568,.slice Ao85 t569.length co85] 27 (0,0)) (by (with_reducible repeat (first|refine ey5 ?_ _|refine gy5 ?_|refine fy5 ?_ _));exact BK572.out) hb);have n7_:=zz5 (below_step (by repeat(first|(with_reducible first|exact HB.out|apply by5|apply ay5|apply cy5|refine dy5 ?_ GE539.out|refine dy5 ?_ GE547.out|refine dy5 ?_ GE572.out)|exact HB.out)) hb);have n8_:=zz5 (hbox);have n9_:=zz5 ((by rw [hg];exact (below_size (by repeat(first|(with_reducible first|exact HB.out|apply by5|apply ay5|apply cy5|refine dy5 ?_ GE539.out|refine dy5 ?_ GE547.out|refine dy5 ?_ GE572.out)|exact HB.out))) : w.heap.size ≤ gb577));have n10_:=zz5 ((by rw [hg];exact (below_size (by repeat(first|(with_reducible first|exact HB.out|apply by5|apply ay5|apply cy5|refine dy5 ?_ GE539.out|refine dy5 ?_ GE547.out|refine dy5 ?_ GE572.out)|exact HB.out))) : w.heap.size ≤ gb577));have n11_:=zz5 ((by rw [hg];exact Nat.ne_of_lt (blk_lt (g:=gb539) (o:=.cells #[.int .i64 t535,.slice Ao13 t536.length co13] 27 (0,0)) (by (with_reducible repeat (first|refine ey5 ?_ _|refine gy5 ?_|refine fy5 ?_ _));exact BK539.out)) : gb539 ≠ gb577));have n12_:=zz5 ((by rw [hg];exact Nat.ne_of_gt (blk_lt (g:=gb539) (o:=.cells #[.int .i64 t535,.slice Ao13 t536.length co13] 27 (0,0)) (by (with_reducible repeat (first|refine ey5 ?_ _|refine gy5 ?_|refine fy5 ?_ _));exact BK539.out)) : gb577 ≠ gb539));have n13_:=zz5 ((by rw [hg];exact Nat.ne_of_lt (blk_lt (g:=gb547) (o:=.cells #[.int .i64 t543,.slice Ao19 t544.length co19] 27 (0,0)) (by (with_reducible repeat (first|refine ey5 ?_ _|refine gy5 ?_|refine fy5 ?_ _));exact BK547.out)) : gb547 ≠ gb577));have n14_:=zz5 ((by rw [hg];exact Nat.ne_of_gt (blk_lt (g:=gb547) (o:=.cells #[.int .i64 t543,.slice Ao19 t544.length co19] 27 (0,0)) (by (with_reducible repeat (first|refine ey5 ?_ _|refine gy5 ?_|refine fy5 ?_ _));exact BK547.out)) : gb577 ≠ gb547));have n15_:=zz5 ((by rw [hg];exact Nat.ne_of_lt (blk_lt (g:=gb572) (o:=.cells #[.int .i64 t568,.slice Ao85 t569.length co85] 27 (0,0)) (by (with_reducible repeat (first|refine ey5 ?_ _|refine gy5 ?_|refine fy5 ?_ _));exact BK572.out)) : gb572 ≠ gb577));have n16_:=zz5 ((by rw [hg];exact Nat.ne_of_gt (blk_lt (g:=gb572) (o:=.cells #[.int .i64 t568,.slice Ao85 t569.length co85] 27 (0,0)) (by (with_reducible repeat (first|refine ey5 ?_ _|refine gy5 ?_|refine fy5 ?_ _));exact BK572.out)) : gb577 ≠ gb572));clear HO_540001;clear HO_548001;clear HO571;clear HO576;clear BK539;clear BK547;clear BK572;clear HB;have HO_540001:=n0_;have HO_548001:=n1_;have HO571:=n2_;have HO576:=n3_;have BK539:=n4_;have BK547:=n5_;have BK572:=n6_;have HB:=n7_;have BK577:=n8_;have GW577:=n9_;have GE577:=n10_;have NB539_577:=n11_;have NB577_539:=n12_;have NB547_577:=n13_;have NB577_547:=n14_;have NB572_577:=n15_;have NB577_572:=n16_;clear n0_ n1_ n2_ n3_ n4_ n5_ n6_ n7_ n8_ n9_ n10_ n11_ n12_ n13_ n14_ n15_ n16_;clear hb hbox hg;have hnb88:=NB577_539.out;have hnc88:=NB539_577.out;have hnb89:=NB577_547.out;have hnc89:=NB547_577.out;have hnb90:=NB577_572.out;have hnc90:=NB572_577.out;have hcz91_0 : w87.cell? ⟨gb577,0,none⟩ = some (.int .i64 0):=(blk_cell BK577.out 0).trans rfl;have hcz91_1 : w87.cell? ⟨gb577,1,none⟩ = some (.slice none 0 0):=(blk_cell BK577.out 1).trans rfl;have hfz91_0:=blk_frozen BK577.out 0;have hfz91_1:=blk_frozen BK577.out 1;obtain⟨Ao92,co92,eo92⟩:=Kd.R_slice HO576.out;subst eo92))
            have n0_ : Aside0 (Kd.R (Kd.int .u8) 5 ((w87.setCell ⟨gb577,0,none⟩ (.int .i64 t573)).setCell ⟨gb577,1,none⟩ (.slice Ao92 t574.length co92)) w.heap.size (fun k_=>some k_ ≠ (.slice Ao19 t544.length co19 : Value).ownBlock ∧ some k_ ≠ (.slice Ao85 t569.length co85 : Value).ownBlock ∧ some k_ ≠ (.slice Ao92 t574.length co92 : Value).ownBlock) (.slice Ao13 t536.length co13) t536):=⟨by (with_reducible repeat (first|apply az5|apply bz5|apply cz5));exact gz5 (ez5 (p:=⟨gb577,1,none⟩) (ez5 (p:=⟨gb577,0,none⟩) (hz5 HO_540001.out BK577.out (by decide)) (fun _ hk=>hk.2) (.int .i64 t573)) (fun _ hk=>hk.2) (.slice Ao92 t574.length co92)) (fun _ hk=>⟨hk.1.1.1,⟨hk.1.1.2,hk.1.2⟩⟩)⟩
            have n1_ : Aside0 (Kd.R (Kd.int .u8) 5 ((w87.setCell ⟨gb577,0,none⟩ (.int .i64 t573)).setCell ⟨gb577,1,none⟩ (.slice Ao92 t574.length co92)) w.heap.size (fun k_=>some k_ ≠ (.slice Ao13 t536.length co13 : Value).ownBlock ∧ some k_ ≠ (.slice Ao85 t569.length co85 : Value).ownBlock ∧ some k_ ≠ (.slice Ao92 t574.length co92 : Value).ownBlock) (.slice Ao19 t544.length co19) t544):=⟨by (with_reducible repeat (first|apply az5|apply bz5|apply cz5));exact gz5 (ez5 (p:=⟨gb577,1,none⟩) (ez5 (p:=⟨gb577,0,none⟩) (hz5 HO_548001.out BK577.out (by decide)) (fun _ hk=>hk.2) (.int .i64 t573)) (fun _ hk=>hk.2) (.slice Ao92 t574.length co92)) (fun _ hk=>⟨hk.1.1.1,⟨hk.1.1.2,hk.1.2⟩⟩)⟩
            have n2_ : Aside0 (Kd.R (Kd.int .u8) 5 ((w87.setCell ⟨gb577,0,none⟩ (.int .i64 t573)).setCell ⟨gb577,1,none⟩ (.slice Ao92 t574.length co92)) w.heap.size (fun k_=>some k_ ≠ (.slice Ao13 t536.length co13 : Value).ownBlock ∧ some k_ ≠ (.slice Ao19 t544.length co19 : Value).ownBlock ∧ some k_ ≠ (.slice Ao92 t574.length co92 : Value).ownBlock) (.slice Ao85 t569.length co85) t569):=⟨by (with_reducible repeat (first|apply az5|apply bz5|apply cz5));exact gz5 (ez5 (p:=⟨gb577,1,none⟩) (ez5 (p:=⟨gb577,0,none⟩) (hz5 HO571.out BK577.out (by decide)) (fun _ hk=>hk.2) (.int .i64 t573)) (fun _ hk=>hk.2) (.slice Ao92 t574.length co92)) (fun _ hk=>⟨hk.1.1.1.2,⟨hk.1.1.2,hk.1.2⟩⟩)⟩
            have n3_ : Aside0 (Kd.R (Kd.int .u8) 5 ((w87.setCell ⟨gb577,0,none⟩ (.int .i64 t573)).setCell ⟨gb577,1,none⟩ (.slice Ao92 t574.length co92)) w.heap.size (fun k_=>some k_ ≠ (.slice Ao13 t536.length co13 : Value).ownBlock ∧ some k_ ≠ (.slice Ao19 t544.length co19 : Value).ownBlock ∧ some k_ ≠ (.slice Ao85 t569.length co85 : Value).ownBlock) (.slice Ao92 t574.length co92) t574):=⟨by (with_reducible repeat (first|apply az5|apply bz5|apply cz5));exact gz5 (ez5 (p:=⟨gb577,1,none⟩) (ez5 (p:=⟨gb577,0,none⟩) (hz5 HO576.out BK577.out (by decide)) (fun _ hk=>hk.2) (.int .i64 t573)) (fun _ hk=>hk.2) (.slice Ao92 t574.length co92)) (fun _ hk=>⟨hk.1.1.1.2,⟨hk.1.1.2,hk.1.2⟩⟩)⟩
            have n4_ : Aside0 (((w87.setCell ⟨gb577,0,none⟩ (.int .i64 t573)).setCell ⟨gb577,1,none⟩ (.slice Ao92 t574.length co92)).heap[gb539]? = some (.cells #[.int .i64 t535,.slice Ao13 t536.length co13] 27 (0,0))):=⟨by (with_reducible repeat (first|refine ey5 ?_ _|refine gy5 ?_|refine fy5 ?_ _));refine blk_far ?_ NB539_577.out _;(with_reducible repeat (first|refine ey5 ?_ _|refine gy5 ?_|refine fy5 ?_ _));refine blk_far ?_ NB539_577.out _;(with_reducible repeat (first|refine ey5 ?_ _|refine gy5 ?_|refine fy5 ?_ _));exact BK539.out⟩
            have n5_ : Aside0 (((w87.setCell ⟨gb577,0,none⟩ (.int .i64 t573)).setCell ⟨gb577,1,none⟩ (.slice Ao92 t574.length co92)).heap[gb547]? = some (.cells #[.int .i64 t543,.slice Ao19 t544.length co19] 27 (0,0))):=⟨by (with_reducible repeat (first|refine ey5 ?_ _|refine gy5 ?_|refine fy5 ?_ _));refine blk_far ?_ NB547_577.out _;(with_reducible repeat (first|refine ey5 ?_ _|refine gy5 ?_|refine fy5 ?_ _));refine blk_far ?_ NB547_577.out _;(with_reducible repeat (first|refine ey5 ?_ _|refine gy5 ?_|refine fy5 ?_ _));exact BK547.out⟩
            have n6_ : Aside0 (((w87.setCell ⟨gb577,0,none⟩ (.int .i64 t573)).setCell ⟨gb577,1,none⟩ (.slice Ao92 t574.length co92)).heap[gb572]? = some (.cells #[.int .i64 t568,.slice Ao85 t569.length co85] 27 (0,0))):=⟨by (with_reducible repeat (first|refine ey5 ?_ _|refine gy5 ?_|refine fy5 ?_ _));refine blk_far ?_ NB572_577.out _;(with_reducible repeat (first|refine ey5 ?_ _|refine gy5 ?_|refine fy5 ?_ _));refine blk_far ?_ NB572_577.out _;(with_reducible repeat (first|refine ey5 ?_ _|refine gy5 ?_|refine fy5 ?_ _));exact BK572.out⟩
            have n7_ : Aside0 (((w87.setCell ⟨gb577,0,none⟩ (.int .i64 t573)).setCell ⟨gb577,1,none⟩ (.slice Ao92 t574.length co92)).heap[gb577]? = some (.cells #[.int .i64 t573,.slice Ao92 t574.length co92] 27 (0,0))):=⟨by (with_reducible repeat (first|refine ey5 ?_ _|refine gy5 ?_|refine fy5 ?_ _));refine blk_put (cs:=#[.int .i64 t573,.slice none 0 0]) ?_ 1 _ rfl;(with_reducible repeat (first|refine ey5 ?_ _|refine gy5 ?_|refine fy5 ?_ _));refine blk_put (cs:=#[.int .i64 0,.slice none 0 0]) ?_ 0 _ rfl;(with_reducible repeat (first|refine ey5 ?_ _|refine gy5 ?_|refine fy5 ?_ _));exact BK577.out⟩
            have n8_ : Aside0 (Below w.heap.size w ((w87.setCell ⟨gb577,0,none⟩ (.int .i64 t573)).setCell ⟨gb577,1,none⟩ (.slice Ao92 t574.length co92))):=⟨by repeat (first|(with_reducible first|exact HB.out|apply by5|apply ay5|apply cy5|refine dy5 ?_ GE539.out|refine dy5 ?_ GE547.out|refine dy5 ?_ GE572.out|refine dy5 ?_ GE577.out)|exact HB.out)⟩
            (try clear HO_540001);(try clear HO_548001);(try clear HO571)
            (try clear HO576);(try clear BK539);(try clear BK547)
            (try clear BK572);(try clear BK577);(try clear HB)
            generalize ((w87.setCell ⟨gb577,0,none⟩ (.int .i64 t573)).setCell ⟨gb577,1,none⟩ (.slice Ao92 t574.length co92)) = w93 at n0_ n1_ n2_ n3_ n4_ n5_ n6_ n7_ n8_ ⊢
            have HO_540001:=n0_
            have HO_548001:=n1_
            have HO571:=n2_
            have HO576:=n3_
            have BK539:=n4_
            have BK547:=n5_
            have BK572:=n6_
            have BK577:=n7_
            have HB:=n8_
            clear n0_ n1_ n2_ n3_ n4_ n5_ n6_ n7_ n8_
            have n0_:=zz5 (cz5 HO_540001.out)
            have n1_:=zz5 (cz5 HO_548001.out)
            have n2_:=zz5 (cz5 HO571.out)
            have n3_:=zz5 (cz5 HO576.out)
            have n4_:=zz5 (gy5 BK539.out)
            have n5_:=zz5 (gy5 BK547.out)
            have n6_:=zz5 (gy5 BK572.out)
            have n7_:=zz5 (gy5 BK577.out)
            have n8_:=zz5 (cy5 HB.out)
            clear HO_540001
            clear HO_548001
            clear HO571
            clear HO576
            clear BK539
            clear BK547
            clear BK572
            clear BK577
            clear HB
            have HO_540001:=n0_
            have HO_548001:=n1_
            have HO571:=n2_
            have HO576:=n3_
            have BK539:=n4_
            have BK547:=n5_
            have BK572:=n6_
            have BK577:=n7_
            have HB:=n8_
            clear n0_ n1_ n2_ n3_ n4_ n5_ n6_ n7_ n8_
            refine start_ (n:=37) (S:=fun w'=>w'.cell? ⟨gb539,0,none⟩ = some (.int .i64 t535) ∧ w'.cell? ⟨gb539,1,none⟩ = some (.slice Ao13 t536.length co13) ∧ w'.cell? ⟨gb572,0,none⟩ = some (.int .i64 t568) ∧ w'.cell? ⟨gb572,1,none⟩ = some (.slice Ao85 t569.length co85)) (ds:=[]) #[Z,Z,Z,Z,Z,Z,Z,Z,Z,Z,Z,Z,Z,Z,Z,Z,Z,Z,Z,Z,Z,Z,Z,Z,Z,Z,Z,Z,Z,Z,Z,Z,Z,Z,Z,Z,Z] (by kernel_rfl) rfl rfl ⟨(blk_cell BK539.out 0).trans rfl,(blk_cell BK539.out 1).trans rfl,(blk_cell BK572.out 0).trans rfl,(blk_cell BK572.out 1).trans rfl⟩ (fun hHeld=>?_);refine with_tabW laws_FnNonces.tab15 laws_FnNonces.bits15 (fun HT_ HW_=>?_)
            generalize w93.drew = w94 at HO_540001 HO_548001 HO571 HO576 BK539 BK547 BK572 BK577 HB hHeld ⊢
            refine pure_ (i:=0) (N:=some 89) (v:=?_) (a':=?_) #[Y,Z,Z,Z,Z,Z,Z,Z,Z,Z,Z,Z,Z,Z,Z,Z,Z,Z,Z,Z,Z,Z,Z,Z,Z,Z,Z,Z,Z,Z,Z,Z,Z,Z,Z,Z,Z] rfl rfl (any_of HT_.out (by kernel_rfl)) (fun _ _ _ h=>h) (Or.inl ⟨by rfl,?_⟩) ?_ ?_
            rotate_left
            ·intro w';go_simp;with_reducible rfl
            rotate_left
            ·simp only [Act.put,sa_,sb_,sc_,i64_w];rfl
            refine take_ (i:=1) (N:=some 90) (v:=?_) (a':=?_) #[Y,Y,Z,Z,Z,Z,Z,Z,Z,Z,Z,Z,Z,Z,Z,Z,Z,Z,Z,Z,Z,Z,Z,Z,Z,Z,Z,Z,Z,Z,Z,Z,Z,Z,Z,Z,Z] rfl rfl (take_ofW HT_.out HW_.out (by kernel_rfl)) (fun _ _ _ h=>h) (Or.inl ⟨by rfl,?_⟩) hHeld ?_ ?_
            rotate_left
            ·rintro w' ⟨s0,s1,s2,s3⟩
             go_simp
             with_reducible rfl
            rotate_left
            ·simp only [Act.put,sa_,sb_,sc_,i64_w];rfl
            refine pure_ (i:=2) (N:=some 91) (v:=?_) (a':=?_) #[Y,Y,Y,Z,Z,Z,Z,Z,Z,Z,Z,Z,Z,Z,Z,Z,Z,Z,Z,Z,Z,Z,Z,Z,Z,Z,Z,Z,Z,Z,Z,Z,Z,Z,Z,Z,Z] rfl rfl (any_of HT_.out (by kernel_rfl)) (fun _ _ _ h=>h) (Or.inl ⟨by rfl,?_⟩) ?_ ?_
            rotate_left
            ·intro w';go_simp;with_reducible rfl
            rotate_left
            ·simp only [Act.put,sa_,sb_,sc_,i64_w];rfl
            refine pure_ (i:=3) (N:=some 92) (v:=?_) (a':=?_) #[Y,Y,Y,Y,Z,Z,Z,Z,Z,Z,Z,Z,Z,Z,Z,Z,Z,Z,Z,Z,Z,Z,Z,Z,Z,Z,Z,Z,Z,Z,Z,Z,Z,Z,Z,Z,Z] rfl rfl (any_of HT_.out (by kernel_rfl)) (fun _ _ _ h=>h) (Or.inl ⟨by rfl,?_⟩) ?_ ?_
            rotate_left
            ·intro w';go_simp;with_reducible rfl
            rotate_left
            ·simp only [Act.put,sa_,sb_,sc_,i64_w];rfl
            refine pure_ (i:=4) (N:=some 93) (v:=?_) (a':=?_) #[Y,Y,Y,Y,Y,Z,Z,Z,Z,Z,Z,Z,Z,Z,Z,Z,Z,Z,Z,Z,Z,Z,Z,Z,Z,Z,Z,Z,Z,Z,Z,Z,Z,Z,Z,Z,Z] rfl rfl (any_of HT_.out (by kernel_rfl)) (fun _ _ _ h=>h) (Or.inl ⟨by rfl,?_⟩) ?_ ?_
            rotate_left
            ·intro w';go_simp;with_reducible rfl
            rotate_left
            ·simp only [Act.put,sa_,sb_,sc_,i64_w];rfl
            refine pure_ (i:=5) (N:=some 94) (v:=?_) (a':=?_) #[Y,Y,Y,Y,Y,Y,Z,Z,Z,Z,Z,Z,Z,Z,Z,Z,Z,Z,Z,Z,Z,Z,Z,Z,Z,Z,Z,Z,Z,Z,Z,Z,Z,Z,Z,Z,Z] rfl rfl (any_of HT_.out (by kernel_rfl)) (fun _ _ _ h=>h) (Or.inl ⟨by rfl,?_⟩) ?_ ?_
            rotate_left
            ·intro w';go_simp;with_reducible rfl
            rotate_left
            ·simp only [Act.put,sa_,sb_,sc_,i64_w];rfl
            refine pure_ (i:=7) (N:=some 96) (v:=?_) (a':=?_) #[Y,Y,Y,Y,Y,Y,Z,Y,Z,Z,Z,Z,Z,Z,Z,Z,Z,Z,Z,Z,Z,Z,Z,Z,Z,Z,Z,Z,Z,Z,Z,Z,Z,Z,Z,Z,Z] rfl rfl (any_of HT_.out (by kernel_rfl)) (fun _ _ _ h=>h) (Or.inl ⟨by rfl,?_⟩) ?_ ?_
            rotate_left
            ·intro w';go_simp;with_reducible rfl
            rotate_left
            ·simp only [Act.put,sa_,sb_,sc_,i64_w];rfl
            refine take_ (i:=6) (N:=some 95) (v:=?_) (a':=?_) #[Y,Y,Y,Y,Y,Y,Y,Y,Z,Z,Z,Z,Z,Z,Z,Z,Z,Z,Z,Z,Z,Z,Z,Z,Z,Z,Z,Z,Z,Z,Z,Z,Z,Z,Z,Z,Z] rfl rfl (take_ofW HT_.out HW_.out (by kernel_rfl)) (fun _ _ _ h=>h) (Or.inl ⟨by rfl,?_⟩) hHeld ?_ ?_
            rotate_left
            ·rintro w' ⟨s0,s1,s2,s3⟩
             go_simp
             with_reducible rfl
            rotate_left
            ·simp only [Act.put,sa_,sb_,sc_,i64_w];rfl
            refine take_ (i:=8) (N:=some 97) (v:=?_) (a':=?_) #[Y,Y,Y,Y,Y,Y,Y,Y,Y,Z,Z,Z,Z,Z,Z,Z,Z,Z,Z,Z,Z,Z,Z,Z,Z,Z,Z,Z,Z,Z,Z,Z,Z,Z,Z,Z,Z] rfl rfl (take_ofW HT_.out HW_.out (by kernel_rfl)) (fun _ _ _ h=>h) (Or.inl ⟨by rfl,?_⟩) hHeld ?_ ?_
            rotate_left
            ·rintro w' ⟨s0,s1,s2,s3⟩
             go_simp
             with_reducible rfl
            rotate_left
            ·simp only [Act.put,sa_,sb_,sc_,i64_w];rfl
            refine one_ (i:=9) (N:=some 98) #[Y,Y,Y,Y,Y,Y,Y,Y,Y,Y,Z,Z,Z,Z,Z,Z,Z,Z,Z,Z,Z,Z,Z,Z,Z,Z,Z,Z,Z,Z,Z,Z,Z,Z,Z,Z,Z] rfl rfl (one_of HT_.out (by kernel_rfl)) (by decide) (fun K hK=>?_)
            refine goes_ Try.func19 (by kernel_rfl) rfl #[.slice Ao85 t569.length co85,.slice Ao13 t536.length co13] (by rfl) rfl rfl (by (try simp only [List.map_toArray,List.map_cons,List.map_nil]);first|done|rfl|(simp only [List.length_drop,List.length_take];rfl)) ?_
            with_reducible refine (laws_lwSame.calls _ _ t569 _ _ t536 false _ ?side1 ?side2 ?side3 ?side4 A56.out).mono ?_
            (case side1=>repeat (first|exact (iz5 HO571.out).2.2|(with_reducible refine Kd.C_alloc ?_ _)|(with_reducible refine Kd.C_drewN ?_ _)|(with_reducible refine Kd.C_drew ?_)))
            (case side2=>exact (iz5 HO571.out).2.1)
            (case side3=>repeat (first|exact (iz5 HO_540001.out).2.2|(with_reducible refine Kd.C_alloc ?_ _)|(with_reducible refine Kd.C_drewN ?_ _)|(with_reducible refine Kd.C_drew ?_)))
            (case side4=>exact (iz5 HO_540001.out).2.1)
            rintro e w' ⟨rfl,⟨nd,rfl⟩⟩
            refine ⟨_,rfl,?_⟩
            refine hK.out _ _ ⟨(blk_cell BK539.out 0).trans rfl,(blk_cell BK539.out 1).trans rfl,(blk_cell BK572.out 0).trans rfl,(blk_cell BK572.out 1).trans rfl⟩ (fun hHeld=>?_)
            clear hK K
            refine norm_ (a':=?_) ?_ ?_
            rotate_left
            ·show Act.put _ (some 98) _ = _
             simp only [Act.put,sa_,sb_,sc_,i64_w]
             rfl
            refine pure_ (i:=10) (N:=some 99) (v:=?_) (a':=?_) #[Y,Y,Y,Y,Y,Y,Y,Y,Y,Y,Y,Z,Z,Z,Z,Z,Z,Z,Z,Z,Z,Z,Z,Z,Z,Z,Z,Z,Z,Z,Z,Z,Z,Z,Z,Z,Z] rfl rfl (any_of HT_.out (by kernel_rfl)) (fun _ _ _ h=>h) (Or.inl ⟨by rfl,?_⟩) ?_ ?_
            rotate_left
            ·intro w';go_simp;with_reducible rfl
            rotate_left
            ·simp only [Act.put,sa_,sb_,sc_,i64_w];rfl
            refine pure_ (i:=11) (N:=some 100) (v:=?_) (a':=?_) #[Y,Y,Y,Y,Y,Y,Y,Y,Y,Y,Y,Y,Z,Z,Z,Z,Z,Z,Z,Z,Z,Z,Z,Z,Z,Z,Z,Z,Z,Z,Z,Z,Z,Z,Z,Z,Z] rfl rfl (any_of HT_.out (by kernel_rfl)) (fun _ _ _ h=>h) (Or.inl ⟨by rfl,?_⟩) ?_ ?_
            rotate_left
            ·intro w';go_simp;with_reducible rfl
            rotate_left
            ·simp only [Act.put,sa_,sb_,sc_,i64_w];rfl
            refine pure_ (i:=12) (N:=some 101) (v:=?_) (a':=?_) #[Y,Y,Y,Y,Y,Y,Y,Y,Y,Y,Y,Y,Y,Z,Z,Z,Z,Z,Z,Z,Z,Z,Z,Z,Z,Z,Z,Z,Z,Z,Z,Z,Z,Z,Z,Z,Z] rfl rfl (any_of HT_.out (by kernel_rfl)) (fun _ _ _ h=>h) (Or.inl ⟨by rfl,?_⟩) ?_ ?_
            rotate_left
            ·intro w';go_simp;with_reducible rfl
            rotate_left
            ·simp only [Act.put,sa_,sb_,sc_,i64_w];rfl
            refine pure_ (i:=13) (N:=some 102) (v:=?_) (a':=?_) #[Y,Y,Y,Y,Y,Y,Y,Y,Y,Y,Y,Y,Y,Y,Z,Z,Z,Z,Z,Z,Z,Z,Z,Z,Z,Z,Z,Z,Z,Z,Z,Z,Z,Z,Z,Z,Z] rfl rfl (any_of HT_.out (by kernel_rfl)) (fun _ _ _ h=>h) (Or.inl ⟨by rfl,?_⟩) ?_ ?_
            rotate_left
            ·intro w';go_simp;with_reducible rfl
            rotate_left
            ·simp only [Act.put,sa_,sb_,sc_,i64_w];rfl
            refine pure_ (i:=14) (N:=some 103) (v:=?_) (a':=?_) #[Y,Y,Y,Y,Y,Y,Y,Y,Y,Y,Y,Y,Y,Y,Y,Z,Z,Z,Z,Z,Z,Z,Z,Z,Z,Z,Z,Z,Z,Z,Z,Z,Z,Z,Z,Z,Z] rfl rfl (any_of HT_.out (by kernel_rfl)) (fun _ _ _ h=>h) (Or.inl ⟨by rfl,?_⟩) ?_ ?_
            rotate_left
            ·intro w';go_simp;with_reducible rfl
            rotate_left
            ·simp only [Act.put,sa_,sb_,sc_,i64_w];rfl
            refine pure_ (i:=15) (N:=some 104) (v:=?_) (a':=?_) #[Y,Y,Y,Y,Y,Y,Y,Y,Y,Y,Y,Y,Y,Y,Y,Y,Z,Z,Z,Z,Z,Z,Z,Z,Z,Z,Z,Z,Z,Z,Z,Z,Z,Z,Z,Z,Z] rfl rfl (any_of HT_.out (by kernel_rfl)) (fun _ _ _ h=>h) (Or.inl ⟨by rfl,?_⟩) ?_ ?_
            rotate_left
            ·intro w';go_simp;with_reducible rfl
            rotate_left
            ·simp only [Act.put,sa_,sb_,sc_,i64_w];rfl
            refine pure_ (i:=16) (N:=some 105) (v:=?_) (a':=?_) #[Y,Y,Y,Y,Y,Y,Y,Y,Y,Y,Y,Y,Y,Y,Y,Y,Y,Z,Z,Z,Z,Z,Z,Z,Z,Z,Z,Z,Z,Z,Z,Z,Z,Z,Z,Z,Z] rfl rfl (any_of HT_.out (by kernel_rfl)) (fun _ _ _ h=>h) (Or.inl ⟨by rfl,?_⟩) ?_ ?_
            rotate_left
            ·intro w';go_simp;with_reducible rfl
            rotate_left
            ·simp only [Act.put,sa_,sb_,sc_,i64_w];rfl
            refine pure_ (i:=17) (N:=some 106) (v:=?_) (a':=?_) #[Y,Y,Y,Y,Y,Y,Y,Y,Y,Y,Y,Y,Y,Y,Y,Y,Y,Y,Z,Z,Z,Z,Z,Z,Z,Z,Z,Z,Z,Z,Z,Z,Z,Z,Z,Z,Z] rfl rfl (any_of HT_.out (by kernel_rfl)) (fun _ _ _ h=>h) (Or.inl ⟨by rfl,?_⟩) ?_ ?_
            rotate_left
            ·intro w';go_simp;with_reducible rfl
            rotate_left
            ·simp only [Act.put,sa_,sb_,sc_,i64_w];rfl
            refine pure_ (i:=18) (N:=some 107) (v:=?_) (a':=?_) #[Y,Y,Y,Y,Y,Y,Y,Y,Y,Y,Y,Y,Y,Y,Y,Y,Y,Y,Y,Z,Z,Z,Z,Z,Z,Z,Z,Z,Z,Z,Z,Z,Z,Z,Z,Z,Z] rfl rfl (any_of HT_.out (by kernel_rfl)) (fun _ _ _ h=>h) (Or.inl ⟨by rfl,?_⟩) ?_ ?_
            rotate_left
            ·intro w';go_simp;with_reducible rfl
            rotate_left
            ·simp only [Act.put,sa_,sb_,sc_,i64_w];rfl
            refine pure_ (i:=19) (N:=some 108) (v:=undef) (a':=?_) #[Y,Y,Y,Y,Y,Y,Y,Y,Y,Y,Y,Y,Y,Y,Y,Y,Y,Y,Y,Y,Z,Z,Z,Z,Z,Z,Z,Z,Z,Z,Z,Z,Z,Z,Z,Z,Z] rfl rfl (any_of HT_.out (by kernel_rfl)) (fun _ _ _ h=>h) (Or.inr ⟨by rfl,rfl⟩) ?_ ?_
            rotate_left
            ·simp only [Act.put,sa_,sb_,sc_,i64_w];rfl
            refine pure_ (i:=20) (N:=some 109) (v:=undef) (a':=?_) #[Y,Y,Y,Y,Y,Y,Y,Y,Y,Y,Y,Y,Y,Y,Y,Y,Y,Y,Y,Y,Y,Z,Z,Z,Z,Z,Z,Z,Z,Z,Z,Z,Z,Z,Z,Z,Z] rfl rfl (any_of HT_.out (by kernel_rfl)) (fun _ _ _ h=>h) (Or.inr ⟨by rfl,rfl⟩) ?_ ?_
            rotate_left
            ·simp only [Act.put,sa_,sb_,sc_,i64_w];rfl
            refine pure_ (i:=21) (N:=some 110) (v:=undef) (a':=?_) #[Y,Y,Y,Y,Y,Y,Y,Y,Y,Y,Y,Y,Y,Y,Y,Y,Y,Y,Y,Y,Y,Y,Z,Z,Z,Z,Z,Z,Z,Z,Z,Z,Z,Z,Z,Z,Z] rfl rfl (any_of HT_.out (by kernel_rfl)) (fun _ _ _ h=>h) (Or.inr ⟨by rfl,rfl⟩) ?_ ?_
            rotate_left
            ·simp only [Act.put,sa_,sb_,sc_,i64_w];rfl
            refine pure_ (i:=22) (N:=some 111) (v:=undef) (a':=?_) #[Y,Y,Y,Y,Y,Y,Y,Y,Y,Y,Y,Y,Y,Y,Y,Y,Y,Y,Y,Y,Y,Y,Y,Z,Z,Z,Z,Z,Z,Z,Z,Z,Z,Z,Z,Z,Z] rfl rfl (any_of HT_.out (by kernel_rfl)) (fun _ _ _ h=>h) (Or.inr ⟨by rfl,rfl⟩) ?_ ?_
            rotate_left
            ·simp only [Act.put,sa_,sb_,sc_,i64_w];rfl
            refine pure_ (i:=23) (N:=some 112) (v:=undef) (a':=?_) #[Y,Y,Y,Y,Y,Y,Y,Y,Y,Y,Y,Y,Y,Y,Y,Y,Y,Y,Y,Y,Y,Y,Y,Y,Z,Z,Z,Z,Z,Z,Z,Z,Z,Z,Z,Z,Z] rfl rfl (any_of HT_.out (by kernel_rfl)) (fun _ _ _ h=>h) (Or.inr ⟨by rfl,rfl⟩) ?_ ?_
            rotate_left
            ·simp only [Act.put,sa_,sb_,sc_,i64_w];rfl
            refine pure_ (i:=24) (N:=some 113) (v:=undef) (a':=?_) #[Y,Y,Y,Y,Y,Y,Y,Y,Y,Y,Y,Y,Y,Y,Y,Y,Y,Y,Y,Y,Y,Y,Y,Y,Y,Z,Z,Z,Z,Z,Z,Z,Z,Z,Z,Z,Z] rfl rfl (any_of HT_.out (by kernel_rfl)) (fun _ _ _ h=>h) (Or.inr ⟨by rfl,rfl⟩) ?_ ?_
            rotate_left
            ·simp only [Act.put,sa_,sb_,sc_,i64_w];rfl
            refine pure_ (i:=25) (N:=some 114) (v:=?_) (a':=?_) #[Y,Y,Y,Y,Y,Y,Y,Y,Y,Y,Y,Y,Y,Y,Y,Y,Y,Y,Y,Y,Y,Y,Y,Y,Y,Y,Z,Z,Z,Z,Z,Z,Z,Z,Z,Z,Z] rfl rfl (any_of HT_.out (by kernel_rfl)) (fun _ _ _ h=>h) (Or.inl ⟨by rfl,?_⟩) ?_ ?_
            rotate_left
            ·intro w';go_simp;with_reducible rfl
            rotate_left
            ·simp only [Act.put,sa_,sb_,sc_,i64_w];rfl
            refine pure_ (i:=26) (N:=some 115) (v:=?_) (a':=?_) #[Y,Y,Y,Y,Y,Y,Y,Y,Y,Y,Y,Y,Y,Y,Y,Y,Y,Y,Y,Y,Y,Y,Y,Y,Y,Y,Y,Z,Z,Z,Z,Z,Z,Z,Z,Z,Z] rfl rfl (any_of HT_.out (by kernel_rfl)) (fun _ _ _ h=>h) (Or.inl ⟨by rfl,?_⟩) ?_ ?_
            rotate_left
            ·intro w';go_simp;with_reducible rfl
            rotate_left
            ·simp only [Act.put,sa_,sb_,sc_,i64_w];rfl
            refine pure_ (i:=27) (N:=some 116) (v:=?_) (a':=?_) #[Y,Y,Y,Y,Y,Y,Y,Y,Y,Y,Y,Y,Y,Y,Y,Y,Y,Y,Y,Y,Y,Y,Y,Y,Y,Y,Y,Y,Z,Z,Z,Z,Z,Z,Z,Z,Z] rfl rfl (any_of HT_.out (by kernel_rfl)) (fun _ _ _ h=>h) (Or.inl ⟨by rfl,?_⟩) ?_ ?_
            rotate_left
            ·intro w';go_simp;with_reducible rfl
            rotate_left
            ·simp only [Act.put,sa_,sb_,sc_,i64_w];rfl
            refine pure_ (i:=28) (N:=some 117) (v:=?_) (a':=?_) #[Y,Y,Y,Y,Y,Y,Y,Y,Y,Y,Y,Y,Y,Y,Y,Y,Y,Y,Y,Y,Y,Y,Y,Y,Y,Y,Y,Y,Y,Z,Z,Z,Z,Z,Z,Z,Z] rfl rfl (any_of HT_.out (by kernel_rfl)) (fun _ _ _ h=>h) (Or.inl ⟨by rfl,?_⟩) ?_ ?_
            rotate_left
            ·intro w';go_simp;with_reducible rfl
            rotate_left
            ·simp only [Act.put,sa_,sb_,sc_,i64_w];rfl
            refine pure_ (i:=30) (N:=some 119) (v:=?_) (a':=?_) #[Y,Y,Y,Y,Y,Y,Y,Y,Y,Y,Y,Y,Y,Y,Y,Y,Y,Y,Y,Y,Y,Y,Y,Y,Y,Y,Y,Y,Y,Z,Y,Z,Z,Z,Z,Z,Z] rfl rfl (any_of HT_.out (by kernel_rfl)) (fun _ _ _ h=>h) (Or.inl ⟨by rfl,?_⟩) ?_ ?_
            rotate_left
            ·intro w';go_simp;with_reducible rfl
            rotate_left
            ·simp only [Act.put,sa_,sb_,sc_,i64_w];rfl
            refine pure_ (i:=31) (N:=some 120) (v:=?_) (a':=?_) #[Y,Y,Y,Y,Y,Y,Y,Y,Y,Y,Y,Y,Y,Y,Y,Y,Y,Y,Y,Y,Y,Y,Y,Y,Y,Y,Y,Y,Y,Z,Y,Y,Z,Z,Z,Z,Z] rfl rfl (any_of HT_.out (by kernel_rfl)) (fun _ _ _ h=>h) (Or.inl ⟨by rfl,?_⟩) ?_ ?_
            rotate_left
            ·intro w';go_simp;with_reducible rfl
            rotate_left
            ·simp only [Act.put,sa_,sb_,sc_,i64_w];rfl
            refine take_ (i:=29) (N:=some 118) (v:=?_) (a':=?_) #[Y,Y,Y,Y,Y,Y,Y,Y,Y,Y,Y,Y,Y,Y,Y,Y,Y,Y,Y,Y,Y,Y,Y,Y,Y,Y,Y,Y,Y,Y,Y,Y,Z,Z,Z,Z,Z] rfl rfl (take_ofW HT_.out HW_.out (by kernel_rfl)) (fun _ _ _ h=>h) (Or.inl ⟨by rfl,?_⟩) hHeld ?_ ?_
            rotate_left
            ·rintro w' ⟨s0,s1,s2,s3⟩
             go_simp
             with_reducible rfl
            rotate_left
            ·simp only [Act.put,sa_,sb_,sc_,i64_w];rfl
            refine one_ (i:=32) (N:=some 121) #[Y,Y,Y,Y,Y,Y,Y,Y,Y,Y,Y,Y,Y,Y,Y,Y,Y,Y,Y,Y,Y,Y,Y,Y,Y,Y,Y,Y,Y,Y,Y,Y,Y,Z,Z,Z,Z] rfl rfl (one_of HT_.out (by kernel_rfl)) (by decide) (fun K hK=>?_)
            refine goes_ Try.func32 (by kernel_rfl) rfl #[.int .i64 t533,.int .i64 t534] (by rfl) rfl rfl (by (try simp only [List.map_toArray,List.map_cons,List.map_nil]);first|done|rfl|(simp only [List.length_drop,List.length_take];rfl)) ?_
            with_reducible refine (spec_NonceOf.calls kj39 t533 t534 t579 t580 _ A76.out).mono ?_
            rintro e w95 ⟨v581,rfl,ho0,hb⟩
            refine ⟨_,rfl,?_⟩
            have n0_:=zz5 (jz5 (by (with_reducible repeat (first|apply az5|apply bz5|apply cz5));exact HO_540001.out) (fz5 ho0) hb)
            have n1_:=zz5 (jz5 (by (with_reducible repeat (first|apply az5|apply bz5|apply cz5));exact HO_548001.out) (fz5 ho0) hb)
            have n2_:=zz5 (jz5 (by (with_reducible repeat (first|apply az5|apply bz5|apply cz5));exact HO571.out) (fz5 ho0) hb)
            have n3_:=zz5 (jz5 (by (with_reducible repeat (first|apply az5|apply bz5|apply cz5));exact HO576.out) (fz5 ho0) hb)
            have n4_:=zz5 (Kd.R_lower (kz5 (kz5 (kz5 (kz5 ho0 (Kd.R_lt (by (with_reducible repeat (first|apply az5|apply bz5|apply cz5));exact HO_540001.out))) (Kd.R_lt (by (with_reducible repeat (first|apply az5|apply bz5|apply cz5));exact HO_548001.out))) (Kd.R_lt (by (with_reducible repeat (first|apply az5|apply bz5|apply cz5));exact HO571.out))) (Kd.R_lt (by (with_reducible repeat (first|apply az5|apply bz5|apply cz5));exact HO576.out))) (below_size (by repeat(first|(with_reducible first|exact HB.out|apply by5|apply ay5|apply cy5|refine dy5 ?_ GE539.out|refine dy5 ?_ GE547.out|refine dy5 ?_ GE572.out|refine dy5 ?_ GE577.out)|exact HB.out))))
            have n5_:=zz5 (hy5 (g:=gb539) (o:=.cells #[.int .i64 t535,.slice Ao13 t536.length co13] 27 (0,0)) (by (with_reducible repeat (first|refine ey5 ?_ _|refine gy5 ?_|refine fy5 ?_ _));exact BK539.out) hb)
            have n6_:=zz5 (hy5 (g:=gb547) (o:=.cells #[.int .i64 t543,.slice Ao19 t544.length co19] 27 (0,0)) (by (with_reducible repeat (first|refine ey5 ?_ _|refine gy5 ?_|refine fy5 ?_ _));exact BK547.out) hb)
            have n7_:=zz5 (hy5 (g:=gb572) (o:=.cells #[.int .i64 t568,.slice Ao85 t569.length co85] 27 (0,0)) (by (with_reducible repeat (first|refine ey5 ?_ _|refine gy5 ?_|refine fy5 ?_ _));exact BK572.out) hb)
            have n8_:=zz5 (hy5 (g:=gb577) (o:=.cells #[.int .i64 t573,.slice Ao92 t574.length co92] 27 (0,0)) (by (with_reducible repeat (first|refine ey5 ?_ _|refine gy5 ?_|refine fy5 ?_ _));exact BK577.out) hb)
            have n9_:=zz5 (below_step (by repeat(first|(with_reducible first|exact HB.out|apply by5|apply ay5|apply cy5|refine dy5 ?_ GE539.out|refine dy5 ?_ GE547.out|refine dy5 ?_ GE572.out|refine dy5 ?_ GE577.out)|exact HB.out)) hb)
            clear HO_540001
            clear HO_548001
            clear HO571
            clear HO576
            clear BK539
            clear BK547
            clear BK572
            clear BK577
            clear HB
            have HO_540001:=n0_
            have HO_548001:=n1_
            have HO571:=n2_
            have HO576:=n3_
            have HO582:=n4_
            have BK539:=n5_
            have BK547:=n6_
            have BK572:=n7_
            have BK577:=n8_
            have HB:=n9_
            clear n0_ n1_ n2_ n3_ n4_ n5_ n6_ n7_ n8_ n9_
            (try clear hb);(try clear hb2);(try clear hk)
            (try clear hi)
            (try clear ho0)
            obtain⟨Ao96,co96,eo96⟩:=Kd.R_slice HO582.out
            (first|subst eo96|(injection eo96 with f1_ f2_ f3_;have f4_:=f1_.symm;have f5_:=f3_.symm;clear f1_ f2_ f3_;subst f4_;subst f5_))
            refine hK.out _ _ ⟨(blk_cell BK539.out 0).trans rfl,(blk_cell BK539.out 1).trans rfl,(blk_cell BK572.out 0).trans rfl,(blk_cell BK572.out 1).trans rfl⟩ (fun hHeld=>?_)
            clear hK K
            refine norm_ (a':=?_) ?_ ?_
            rotate_left
            ·show Act.put _ (some 121) _ = _
             simp only [Act.put,sa_,sb_,sc_,i64_w]
             rfl
            refine pure_ (i:=33) (N:=some 122) (v:=?_) (a':=?_) #[Y,Y,Y,Y,Y,Y,Y,Y,Y,Y,Y,Y,Y,Y,Y,Y,Y,Y,Y,Y,Y,Y,Y,Y,Y,Y,Y,Y,Y,Y,Y,Y,Y,Y,Z,Z,Z] rfl rfl (any_of HT_.out (by kernel_rfl)) (fun _ _ _ h=>h) (Or.inl ⟨by rfl,?_⟩) ?_ ?_
            rotate_left
            ·intro w';go_simp;with_reducible rfl
            rotate_left
            ·simp only [Act.put,sa_,sb_,sc_,i64_w];rfl
            refine one_ (i:=34) (N:=some 123) #[Y,Y,Y,Y,Y,Y,Y,Y,Y,Y,Y,Y,Y,Y,Y,Y,Y,Y,Y,Y,Y,Y,Y,Y,Y,Y,Y,Y,Y,Y,Y,Y,Y,Y,Y,Z,Z] rfl rfl (one_of HT_.out (by kernel_rfl)) (by decide) (fun K hK=>?_)
            refine goes_ Try.func19 (by kernel_rfl) rfl #[.slice Ao13 t536.length co13,.slice Ao96 t580.length co96] (by rfl) rfl rfl (by (try simp only [List.map_toArray,List.map_cons,List.map_nil]);first|done|rfl|(simp only [List.length_drop,List.length_take];rfl)) ?_
            with_reducible refine (laws_lwSame.calls _ _ t536 _ _ t580 t583 _ ?side1 ?side2 ?side3 ?side4 A77.out).mono ?_
            (case side1=>repeat (first|exact (iz5 HO_540001.out).2.2|(with_reducible refine Kd.C_alloc ?_ _)|(with_reducible refine Kd.C_drewN ?_ _)|(with_reducible refine Kd.C_drew ?_)))
            (case side2=>exact (iz5 HO_540001.out).2.1)
            (case side3=>repeat (first|exact (iz5 HO582.out).2.2|(with_reducible refine Kd.C_alloc ?_ _)|(with_reducible refine Kd.C_drewN ?_ _)|(with_reducible refine Kd.C_drew ?_)))
            (case side4=>exact (iz5 HO582.out).2.1)
            rintro e w' ⟨rfl,⟨nd,rfl⟩⟩
            refine ⟨_,rfl,?_⟩
            refine hK.out _ _ ⟨(blk_cell BK539.out 0).trans rfl,(blk_cell BK539.out 1).trans rfl,(blk_cell BK572.out 0).trans rfl,(blk_cell BK572.out 1).trans rfl⟩ (fun hHeld=>?_)
            clear hK K
            refine norm_ (a':=?_) ?_ ?_
            rotate_left
            ·show Act.put _ (some 123) _ = _
             simp only [Act.put,sa_,sb_,sc_,i64_w]
             rfl
            refine pure_ (i:=35) (N:=some 124) (v:=?_) (a':=?_) #[Y,Y,Y,Y,Y,Y,Y,Y,Y,Y,Y,Y,Y,Y,Y,Y,Y,Y,Y,Y,Y,Y,Y,Y,Y,Y,Y,Y,Y,Y,Y,Y,Y,Y,Y,Y,Z] rfl rfl (any_of HT_.out (by kernel_rfl)) (fun _ _ _ h=>h) (Or.inl ⟨by rfl,?_⟩) ?_ ?_
            rotate_left
            ·intro w';go_simp;with_reducible rfl
            rotate_left
            ·simp only [Act.put,sa_,sb_,sc_,i64_w];rfl
            refine pure_ (i:=36) (N:=some 2) (v:=?_) (a':=?_) #[Y,Y,Y,Y,Y,Y,Y,Y,Y,Y,Y,Y,Y,Y,Y,Y,Y,Y,Y,Y,Y,Y,Y,Y,Y,Y,Y,Y,Y,Y,Y,Y,Y,Y,Y,Y,Y] rfl rfl (any_of HT_.out (by kernel_rfl)) (fun _ _ _ h=>h) (Or.inl ⟨by rfl,?_⟩) ?_ ?_
            rotate_left
            ·intro w';go_simp;with_reducible rfl
            rotate_left
            ·simp only [Act.put,sa_,sb_,sc_,i64_w];rfl
            refine done_ (done_of HT_.out (by kernel_rfl)) ?_
            try go_wp2
            go_ret
            exact⟨by first|rfl|(simp [errW_none,errW_some] <;> rfl)|(simp [*,errW_none,errW_some] <;> rfl),by repeat (first|(with_reducible first|exact HB.out|apply by5|apply ay5|apply cy5|refine dy5 ?_ GE539.out|refine dy5 ?_ GE547.out|refine dy5 ?_ GE572.out|refine dy5 ?_ GE577.out)|exact HB.out)⟩
           ·rw [if_neg c75] at H
            have c75b0 : ((wrap64 ((wrap64 (Int.tdiv t534 2)) + 1)) == t534) = false:=beq_eq_false_iff_ne.mpr c75
            have c75b1 : ((wrap64 ((wrap64 (Int.tdiv t534 2)) + 1)) != t534) = true:=bne_iff_ne.mpr c75
            replace H:=Option.bind_eq_some_iff.mp H
            obtain⟨t584,A970,H⟩:=H
            replace H : (if t584 = true then (some false) else ((spec_NonceOf.f kj39 t533 t534).bind fun bt585=>((laws_lwSame.f t536 bt585.2).bind fun t589=>(some t589)))) = some r:=H
            have A97:=zz5 A970
            clear A970
            by_cases c98 : t584 = true
            ·subst c98
             have H1 : (some false) = some r:=by rw [if_pos rfl] at H;exact H
             clear H
             have H:=H1
             clear H1
             obtain rfl:=Option.some.inj H
             have hnb99:=NB539_547.out
             have hnc99:=NB547_539.out
             have hcz100_0 : wc.cell? ⟨gb539,0,none⟩ = some (.int .i64 t535):=(blk_cell BK539.out 0).trans rfl
             have hcz100_1 : wc.cell? ⟨gb539,1,none⟩ = some (.slice Ao13 t536.length co13):=(blk_cell BK539.out 1).trans rfl
             have hfz100_0:=blk_frozen BK539.out 0
             have hfz100_1:=blk_frozen BK539.out 1
             try go_wp2_with (first|((with_reducible refine gate_callee (f:=29) rfl ?_);refine goesL_ (some 83) rfl rfl Try.func29 (by kernel_rfl) rfl #[.int .i64 (Int.tmod (wrap64 (t533 + 1)) 16),.int .i64 t534] rfl (by (try simp only [List.map_toArray,List.map_cons,List.map_nil]);first|done|rfl|(simp only [List.length_drop,List.length_take];rfl)) ?_;(with_reducible refine (impl_NonceOf.calls kj39 (Int.tmod (wrap64 (t533 + 1)) 16) t534 t568 t569 _ A53.out).mono ?_);rintro e w101 ⟨v570,rfl,ho0,hb⟩;refine ⟨_,rfl,?_⟩;have n0_:=zz5 (jz5 (by (with_reducible repeat (first|apply az5|apply bz5|apply cz5));exact HO_540001.out) (fz5 ho0) hb);have n1_:=zz5 (jz5 (by (with_reducible repeat (first|apply az5|apply bz5|apply cz5));exact HO_548001.out) (fz5 ho0) hb);have n2_:=zz5 (Kd.R_lower (kz5 (kz5 ho0 (Kd.R_lt (by (with_reducible repeat (first|apply az5|apply bz5|apply cz5));exact HO_540001.out))) (Kd.R_lt (by (with_reducible repeat (first|apply az5|apply bz5|apply cz5));exact HO_548001.out))) (below_size (by repeat(first|(with_reducible first|exact HB.out|apply by5|apply ay5|apply cy5|refine dy5 ?_ GE539.out|refine dy5 ?_ GE547.out)|exact HB.out))));have n3_:=zz5 (hy5 (g:=gb539) (o:=.cells #[.int .i64 t535,.slice Ao13 t536.length co13] 27 (0,0)) (by (with_reducible repeat (first|refine ey5 ?_ _|refine gy5 ?_|refine fy5 ?_ _));exact BK539.out) hb);have n4_:=zz5 (hy5 (g:=gb547) (o:=.cells #[.int .i64 t543,.slice Ao19 t544.length co19] 27 (0,0)) (by (with_reducible repeat (first|refine ey5 ?_ _|refine gy5 ?_|refine fy5 ?_ _));exact BK547.out) hb);have n5_:=zz5 (below_step (by repeat(first|(with_reducible first|exact HB.out|apply by5|apply ay5|apply cy5|refine dy5 ?_ GE539.out|refine dy5 ?_ GE547.out)|exact HB.out)) hb);clear HO_540001;clear HO_548001;clear BK539;clear BK547;clear HB;have HO_540001:=n0_;have HO_548001:=n1_;have HO571:=n2_;have BK539:=n3_;have BK547:=n4_;have HB:=n5_;clear n0_ n1_ n2_ n3_ n4_ n5_;(try clear hb);(try clear hb2);(try clear hk);(try clear hi);(try clear ho0))|((with_reducible refine gate_dst (N:=10) rfl ?_);(try (refine gate_guard (by rfl) ?_;dsimp only));refine box_event ?hg (N:=10) ?hd (cs:=#[.int .i64 0,.slice none 0 0]) (t:=27) ?hr ?_;(case hd=>rfl);(case hg=>rfl);(case hr=>first|(go_simp;done)|(go_simp;rfl));intro gb572 hg w102 hbox hb;have n0_:=zz5 (dz5 (by (with_reducible repeat (first|apply az5|apply bz5|apply cz5));exact HO_540001.out) hb);have n1_:=zz5 (dz5 (by (with_reducible repeat (first|apply az5|apply bz5|apply cz5));exact HO_548001.out) hb);have n2_:=zz5 (dz5 (by (with_reducible repeat (first|apply az5|apply bz5|apply cz5));exact HO571.out) hb);have n3_:=zz5 (hy5 (g:=gb539) (o:=.cells #[.int .i64 t535,.slice Ao13 t536.length co13] 27 (0,0)) (by (with_reducible repeat (first|refine ey5 ?_ _|refine gy5 ?_|refine fy5 ?_ _));exact BK539.out) hb);have n4_:=zz5 (hy5 (g:=gb547) (o:=.cells #[.int .i64 t543,.slice Ao19 t544.length co19] 27 (0,0)) (by (with_reducible repeat (first|refine ey5 ?_ _|refine gy5 ?_|refine fy5 ?_ _));exact BK547.out) hb);have n5_:=zz5 (below_step (by repeat(first|(with_reducible first|exact HB.out|apply by5|apply ay5|apply cy5|refine dy5 ?_ GE539.out|refine dy5 ?_ GE547.out)|exact HB.out)) hb);have n6_:=zz5 (hbox);have n7_:=zz5 ((by rw [hg];exact (below_size (by repeat(first|(with_reducible first|exact HB.out|apply by5|apply ay5|apply cy5|refine dy5 ?_ GE539.out|refine dy5 ?_ GE547.out)|exact HB.out))) : w.heap.size ≤ gb572));have n8_:=zz5 ((by rw [hg];exact (below_size (by repeat(first|(with_reducible first|exact HB.out|apply by5|apply ay5|apply cy5|refine dy5 ?_ GE539.out|refine dy5 ?_ GE547.out)|exact HB.out))) : w.heap.size ≤ gb572));have n9_:=zz5 ((by rw [hg];exact Nat.ne_of_lt (blk_lt (g:=gb539) (o:=.cells #[.int .i64 t535,.slice Ao13 t536.length co13] 27 (0,0)) (by (with_reducible repeat (first|refine ey5 ?_ _|refine gy5 ?_|refine fy5 ?_ _));exact BK539.out)) : gb539 ≠ gb572));have n10_:=zz5 ((by rw [hg];exact Nat.ne_of_gt (blk_lt (g:=gb539) (o:=.cells #[.int .i64 t535,.slice Ao13 t536.length co13] 27 (0,0)) (by (with_reducible repeat (first|refine ey5 ?_ _|refine gy5 ?_|refine fy5 ?_ _));exact BK539.out)) : gb572 ≠ gb539));have n11_:=zz5 ((by rw [hg];exact Nat.ne_of_lt (blk_lt (g:=gb547) (o:=.cells #[.int .i64 t543,.slice Ao19 t544.length co19] 27 (0,0)) (by (with_reducible repeat (first|refine ey5 ?_ _|refine gy5 ?_|refine fy5 ?_ _));exact BK547.out)) : gb547 ≠ gb572));have n12_:=zz5 ((by rw [hg];exact Nat.ne_of_gt (blk_lt (g:=gb547) (o:=.cells #[.int .i64 t543,.slice Ao19 t544.length co19] 27 (0,0)) (by (with_reducible repeat (first|refine ey5 ?_ _|refine gy5 ?_|refine fy5 ?_ _));exact BK547.out)) : gb572 ≠ gb547));clear HO_540001;clear HO_548001;clear HO571;clear BK539;clear BK547;clear HB;have HO_540001:=n0_;have HO_548001:=n1_;have HO571:=n2_;have BK539:=n3_;have BK547:=n4_;have HB:=n5_;have BK572:=n6_;have GW572:=n7_;have GE572:=n8_;have NB539_572:=n9_;have NB572_539:=n10_;have NB547_572:=n11_;have NB572_547:=n12_;clear n0_ n1_ n2_ n3_ n4_ n5_ n6_ n7_ n8_ n9_ n10_ n11_ n12_;clear hb hbox hg;have hnb103:=NB572_539.out;have hnc103:=NB539_572.out;have hnb104:=NB572_547.out;have hnc104:=NB547_572.out;have hcz105_0 : w102.cell? ⟨gb572,0,none⟩ = some (.int .i64 0):=(blk_cell BK572.out 0).trans rfl;have hcz105_1 : w102.cell? ⟨gb572,1,none⟩ = some (.slice none 0 0):=(blk_cell BK572.out 1).trans rfl;have hfz105_0:=blk_frozen BK572.out 0;have hfz105_1:=blk_frozen BK572.out 1;obtain⟨Ao106,co106,eo106⟩:=Kd.R_slice HO571.out;subst eo106)|((with_reducible refine gate_callee (f:=29) rfl ?_);refine goesL_ (some 88) rfl rfl Try.func29 (by kernel_rfl) rfl #[.int .i64 t533,.int .i64 (wrap64 ((wrap64 (Int.tdiv t534 2)) + 1))] rfl (by (try simp only [List.map_toArray,List.map_cons,List.map_nil]);first|done|rfl|(simp only [List.length_drop,List.length_take];rfl)) ?_;(with_reducible refine (impl_NonceOf.calls kj39 t533 (wrap64 ((wrap64 (Int.tdiv t534 2)) + 1)) t573 t574 _ A54.out).mono ?_);rintro e w107 ⟨v575,rfl,ho0,hb⟩;refine ⟨_,rfl,?_⟩;have n0_:=zz5 (jz5 (by (with_reducible repeat (first|apply az5|apply bz5|apply cz5));exact (gz5 (ez5 (p:=⟨gb572,1,none⟩) (ez5 (p:=⟨gb572,0,none⟩) (hz5 HO_540001.out BK572.out (by decide)) (fun _ hk=>hk.2) (.int .i64 t568)) (fun _ hk=>hk.2) (.slice Ao106 t569.length co106)) (fun _ h_=>h_.1))) (fz5 ho0) hb);have n1_:=zz5 (jz5 (by (with_reducible repeat (first|apply az5|apply bz5|apply cz5));exact (gz5 (ez5 (p:=⟨gb572,1,none⟩) (ez5 (p:=⟨gb572,0,none⟩) (hz5 HO_548001.out BK572.out (by decide)) (fun _ hk=>hk.2) (.int .i64 t568)) (fun _ hk=>hk.2) (.slice Ao106 t569.length co106)) (fun _ h_=>h_.1))) (fz5 ho0) hb);have n2_:=zz5 (jz5 (by (with_reducible repeat (first|apply az5|apply bz5|apply cz5));exact (gz5 (ez5 (p:=⟨gb572,1,none⟩) (ez5 (p:=⟨gb572,0,none⟩) (hz5 HO571.out BK572.out (by decide)) (fun _ hk=>hk.2) (.int .i64 t568)) (fun _ hk=>hk.2) (.slice Ao106 t569.length co106)) (fun _ h_=>h_.1))) (fz5 ho0) hb);have n3_:=zz5 (Kd.R_lower (kz5 (kz5 (kz5 ho0 (Kd.R_lt (by (with_reducible repeat (first|apply az5|apply bz5|apply cz5));exact (gz5 (ez5 (p:=⟨gb572,1,none⟩) (ez5 (p:=⟨gb572,0,none⟩) (hz5 HO_540001.out BK572.out (by decide)) (fun _ hk=>hk.2) (.int .i64 t568)) (fun _ hk=>hk.2) (.slice Ao106 t569.length co106)) (fun _ h_=>h_.1))))) (Kd.R_lt (by (with_reducible repeat (first|apply az5|apply bz5|apply cz5));exact (gz5 (ez5 (p:=⟨gb572,1,none⟩) (ez5 (p:=⟨gb572,0,none⟩) (hz5 HO_548001.out BK572.out (by decide)) (fun _ hk=>hk.2) (.int .i64 t568)) (fun _ hk=>hk.2) (.slice Ao106 t569.length co106)) (fun _ h_=>h_.1))))) (Kd.R_lt (by (with_reducible repeat (first|apply az5|apply bz5|apply cz5));exact (gz5 (ez5 (p:=⟨gb572,1,none⟩) (ez5 (p:=⟨gb572,0,none⟩) (hz5 HO571.out BK572.out (by decide)) (fun _ hk=>hk.2) (.int .i64 t568)) (fun _ hk=>hk.2) (.slice Ao106 t569.length co106)) (fun _ h_=>h_.1))))) (below_size (by repeat(first|(with_reducible first|exact HB.out|apply by5|apply ay5|apply cy5|refine dy5 ?_ GE539.out|refine dy5 ?_ GE547.out|refine dy5 ?_ GE572.out)|exact HB.out))));have n4_:=zz5 (hy5 (g:=gb539) (o:=.cells #[.int .i64 t535,.slice Ao13 t536.length co13] 27 (0,0)) (by (with_reducible repeat (first|refine ey5 ?_ _|refine gy5 ?_|refine fy5 ?_ _));refine blk_far ?_ NB539_572.out _;(with_reducible repeat (first|refine ey5 ?_ _|refine gy5 ?_|refine fy5 ?_ _));refine blk_far ?_ NB539_572.out _;(with_reducible repeat (first|refine ey5 ?_ _|refine gy5 ?_|refine fy5 ?_ _));exact BK539.out) hb);have n5_:=zz5 (hy5 (g:=gb547) (o:=.cells #[.int .i64 t543,.slice Ao19 t544.length co19] 27 (0,0)) (by (with_reducible repeat (first|refine ey5 ?_ _|refine gy5 ?_|refine fy5 ?_ _));refine blk_far ?_ NB547_572.out _;(with_reducible repeat (first|refine ey5 ?_ _|refine gy5 ?_|refine fy5 ?_ _));refine blk_far ?_ NB547_572.out _;(with_reducible repeat (first|refine ey5 ?_ _|refine gy5 ?_|refine fy5 ?_ _));exact BK547.out) hb);have n6_:=zz5 (hy5 (g:=gb572) (o:=.cells #[.int .i64 t568,.slice Ao106 t569.length co106] 27 (0,0)) (by (with_reducible repeat (first|refine ey5 ?_ _|refine gy5 ?_|refine fy5 ?_ _));refine blk_put (cs:=#[.int .i64 t568,.slice none 0 0]) ?_ 1 _ rfl;(with_reducible repeat (first|refine ey5 ?_ _|refine gy5 ?_|refine fy5 ?_ _));refine blk_put (cs:=#[.int .i64 0,.slice none 0 0]) ?_ 0 _ rfl;(with_reducible repeat (first|refine ey5 ?_ _|refine gy5 ?_|refine fy5 ?_ _));exact BK572.out) hb);have n7_:=zz5 (below_step (by repeat(first|(with_reducible first|exact HB.out|apply by5|apply ay5|apply cy5|refine dy5 ?_ GE539.out|refine dy5 ?_ GE547.out|refine dy5 ?_ GE572.out)|exact HB.out)) hb);clear HO_540001;clear HO_548001;clear HO571;clear BK539;clear BK547;clear BK572;clear HB;have HO_540001:=n0_;have HO_548001:=n1_;have HO571:=n2_;have HO576:=n3_;have BK539:=n4_;have BK547:=n5_;have BK572:=n6_;have HB:=n7_;clear n0_ n1_ n2_ n3_ n4_ n5_ n6_ n7_;(try clear hb);(try clear hb2);(try clear hk);(try clear hi);(try clear ho0))|((with_reducible refine gate_dst (N:=11) rfl ?_);(try (refine gate_guard (by rfl) ?_;dsimp only));refine box_event ?hg (N:=11) ?hd (cs:=#[.int .i64 0,.slice none 0 0]) (t:=27) ?hr ?_;(case hd=>rfl);(case hg=>rfl);(case hr=>first|(go_simp;done)|(go_simp;rfl));intro gb577 hg w108 hbox hb;have n0_:=zz5 (dz5 (by (with_reducible repeat (first|apply az5|apply bz5|apply cz5));exact HO_540001.out) hb);have n1_:=zz5 (dz5 (by (with_reducible repeat (first|apply az5|apply bz5|apply cz5));exact HO_548001.out) hb);have n2_:=zz5 (dz5 (by (with_reducible repeat (first|apply az5|apply bz5|apply cz5));exact HO571.out) hb);have n3_:=zz5 (dz5 (by (with_reducible repeat (first|apply az5|apply bz5|apply cz5));exact HO576.out) hb);have n4_:=zz5 (hy5 (g:=gb539) (o:=.cells #[.int .i64 t535,.slice Ao13 t536.length co13] 27 (0,0)) (by (with_reducible repeat (first|refine ey5 ?_ _|refine gy5 ?_|refine fy5 ?_ _));exact BK539.out) hb);have n5_:=zz5 (hy5 (g:=gb547) (o:=.cells #[.int .i64 t543,.slice Ao19 t544.length co19] 27 (0,0)) (by (with_reducible repeat (first|refine ey5 ?_ _|refine gy5 ?_|refine fy5 ?_ _));exact BK547.out) hb);have n6_:=zz5 (hy5 (g:=gb572) (o:=.cells #[.int .i64 t568,.slice Ao106 t569.length co106] 27 (0,0)) (by (with_reducible repeat (first|refine ey5 ?_ _|refine gy5 ?_|refine fy5 ?_ _));exact BK572.out) hb);have n7_:=zz5 (below_step (by repeat(first|(with_reducible first|exact HB.out|apply by5|apply ay5|apply cy5|refine dy5 ?_ GE539.out|refine dy5 ?_ GE547.out|refine dy5 ?_ GE572.out)|exact HB.out)) hb);have n8_:=zz5 (hbox);have n9_:=zz5 ((by rw [hg];exact (below_size (by repeat(first|(with_reducible first|exact HB.out|apply by5|apply ay5|apply cy5|refine dy5 ?_ GE539.out|refine dy5 ?_ GE547.out|refine dy5 ?_ GE572.out)|exact HB.out))) : w.heap.size ≤ gb577));have n10_:=zz5 ((by rw [hg];exact (below_size (by repeat(first|(with_reducible first|exact HB.out|apply by5|apply ay5|apply cy5|refine dy5 ?_ GE539.out|refine dy5 ?_ GE547.out|refine dy5 ?_ GE572.out)|exact HB.out))) : w.heap.size ≤ gb577));have n11_:=zz5 ((by rw [hg];exact Nat.ne_of_lt (blk_lt (g:=gb539) (o:=.cells #[.int .i64 t535,.slice Ao13 t536.length co13] 27 (0,0)) (by (with_reducible repeat (first|refine ey5 ?_ _|refine gy5 ?_|refine fy5 ?_ _));exact BK539.out)) : gb539 ≠ gb577));have n12_:=zz5 ((by rw [hg];exact Nat.ne_of_gt (blk_lt (g:=gb539) (o:=.cells #[.int .i64 t535,.slice Ao13 t536.length co13] 27 (0,0)) (by (with_reducible repeat (first|refine ey5 ?_ _|refine gy5 ?_|refine fy5 ?_ _));exact BK539.out)) : gb577 ≠ gb539));have n13_:=zz5 ((by rw [hg];exact Nat.ne_of_lt (blk_lt (g:=gb547) (o:=.cells #[.int .i64 t543,.slice Ao19 t544.length co19] 27 (0,0)) (by (with_reducible repeat (first|refine ey5 ?_ _|refine gy5 ?_|refine fy5 ?_ _));exact BK547.out)) : gb547 ≠ gb577));have n14_:=zz5 ((by rw [hg];exact Nat.ne_of_gt (blk_lt (g:=gb547) (o:=.cells #[.int .i64 t543,.slice Ao19 t544.length co19] 27 (0,0)) (by (with_reducible repeat (first|refine ey5 ?_ _|refine gy5 ?_|refine fy5 ?_ _));exact BK547.out)) : gb577 ≠ gb547));have n15_:=zz5 ((by rw [hg];exact Nat.ne_of_lt (blk_lt (g:=gb572) (o:=.cells #[.int .i64 t568,.slice Ao106 t569.length co106] 27 (0,0)) (by (with_reducible repeat (first|refine ey5 ?_ _|refine gy5 ?_|refine fy5 ?_ _));exact BK572.out)) : gb572 ≠ gb577));have n16_:=zz5 ((by rw [hg];exact Nat.ne_of_gt (blk_lt (g:=gb572) (o:=.cells #[.int .i64 t568,.slice Ao106 t569.length co106] 27 (0,0)) (by (with_reducible repeat (first|refine ey5 ?_ _|refine gy5 ?_|refine fy5 ?_ _));exact BK572.out)) : gb577 ≠ gb572));clear HO_540001;clear HO_548001;clear HO571;clear HO576;clear BK539;clear BK547;clear BK572;clear HB;have HO_540001:=n0_;have HO_548001:=n1_;have HO571:=n2_;have HO576:=n3_;have BK539:=n4_;have BK547:=n5_;have BK572:=n6_;have HB:=n7_;have BK577:=n8_;have GW577:=n9_;have GE577:=n10_;have NB539_577:=n11_;have NB577_539:=n12_;have NB547_577:=n13_;have NB577_547:=n14_;have NB572_577:=n15_;have NB577_572:=n16_;clear n0_ n1_ n2_ n3_ n4_ n5_ n6_ n7_ n8_ n9_ n10_ n11_ n12_ n13_ n14_ n15_ n16_;clear hb hbox hg;have hnb109:=NB577_539.out;have hnc109:=NB539_577.out;have hnb110:=NB577_547.out;have hnc110:=NB547_577.out;have hnb111:=NB577_572.out;have hnc111:=NB572_577.out;have hcz112_0 : w108.cell? ⟨gb577,0,none⟩ = some (.int .i64 0):=(blk_cell BK577.out 0).trans rfl;have hcz112_1 : w108.cell? ⟨gb577,1,none⟩ = some (.slice none 0 0):=(blk_cell BK577.out 1).trans rfl;have hfz112_0:=blk_frozen BK577.out 0;have hfz112_1:=blk_frozen BK577.out 1;obtain⟨Ao113,co113,eo113⟩:=Kd.R_slice HO576.out;subst eo113))
             have n0_ : Aside0 (Kd.R (Kd.int .u8) 5 ((w108.setCell ⟨gb577,0,none⟩ (.int .i64 t573)).setCell ⟨gb577,1,none⟩ (.slice Ao113 t574.length co113)) w.heap.size (fun k_=>some k_ ≠ (.slice Ao19 t544.length co19 : Value).ownBlock ∧ some k_ ≠ (.slice Ao106 t569.length co106 : Value).ownBlock ∧ some k_ ≠ (.slice Ao113 t574.length co113 : Value).ownBlock) (.slice Ao13 t536.length co13) t536):=⟨by (with_reducible repeat (first|apply az5|apply bz5|apply cz5));exact gz5 (ez5 (p:=⟨gb577,1,none⟩) (ez5 (p:=⟨gb577,0,none⟩) (hz5 HO_540001.out BK577.out (by decide)) (fun _ hk=>hk.2) (.int .i64 t573)) (fun _ hk=>hk.2) (.slice Ao113 t574.length co113)) (fun _ hk=>⟨hk.1.1.1,⟨hk.1.1.2,hk.1.2⟩⟩)⟩
             have n1_ : Aside0 (Kd.R (Kd.int .u8) 5 ((w108.setCell ⟨gb577,0,none⟩ (.int .i64 t573)).setCell ⟨gb577,1,none⟩ (.slice Ao113 t574.length co113)) w.heap.size (fun k_=>some k_ ≠ (.slice Ao13 t536.length co13 : Value).ownBlock ∧ some k_ ≠ (.slice Ao106 t569.length co106 : Value).ownBlock ∧ some k_ ≠ (.slice Ao113 t574.length co113 : Value).ownBlock) (.slice Ao19 t544.length co19) t544):=⟨by (with_reducible repeat (first|apply az5|apply bz5|apply cz5));exact gz5 (ez5 (p:=⟨gb577,1,none⟩) (ez5 (p:=⟨gb577,0,none⟩) (hz5 HO_548001.out BK577.out (by decide)) (fun _ hk=>hk.2) (.int .i64 t573)) (fun _ hk=>hk.2) (.slice Ao113 t574.length co113)) (fun _ hk=>⟨hk.1.1.1,⟨hk.1.1.2,hk.1.2⟩⟩)⟩
             have n2_ : Aside0 (Kd.R (Kd.int .u8) 5 ((w108.setCell ⟨gb577,0,none⟩ (.int .i64 t573)).setCell ⟨gb577,1,none⟩ (.slice Ao113 t574.length co113)) w.heap.size (fun k_=>some k_ ≠ (.slice Ao13 t536.length co13 : Value).ownBlock ∧ some k_ ≠ (.slice Ao19 t544.length co19 : Value).ownBlock ∧ some k_ ≠ (.slice Ao113 t574.length co113 : Value).ownBlock) (.slice Ao106 t569.length co106) t569):=⟨by (with_reducible repeat (first|apply az5|apply bz5|apply cz5));exact gz5 (ez5 (p:=⟨gb577,1,none⟩) (ez5 (p:=⟨gb577,0,none⟩) (hz5 HO571.out BK577.out (by decide)) (fun _ hk=>hk.2) (.int .i64 t573)) (fun _ hk=>hk.2) (.slice Ao113 t574.length co113)) (fun _ hk=>⟨hk.1.1.1.2,⟨hk.1.1.2,hk.1.2⟩⟩)⟩
             have n3_ : Aside0 (Kd.R (Kd.int .u8) 5 ((w108.setCell ⟨gb577,0,none⟩ (.int .i64 t573)).setCell ⟨gb577,1,none⟩ (.slice Ao113 t574.length co113)) w.heap.size (fun k_=>some k_ ≠ (.slice Ao13 t536.length co13 : Value).ownBlock ∧ some k_ ≠ (.slice Ao19 t544.length co19 : Value).ownBlock ∧ some k_ ≠ (.slice Ao106 t569.length co106 : Value).ownBlock) (.slice Ao113 t574.length co113) t574):=⟨by (with_reducible repeat (first|apply az5|apply bz5|apply cz5));exact gz5 (ez5 (p:=⟨gb577,1,none⟩) (ez5 (p:=⟨gb577,0,none⟩) (hz5 HO576.out BK577.out (by decide)) (fun _ hk=>hk.2) (.int .i64 t573)) (fun _ hk=>hk.2) (.slice Ao113 t574.length co113)) (fun _ hk=>⟨hk.1.1.1.2,⟨hk.1.1.2,hk.1.2⟩⟩)⟩
             have n4_ : Aside0 (((w108.setCell ⟨gb577,0,none⟩ (.int .i64 t573)).setCell ⟨gb577,1,none⟩ (.slice Ao113 t574.length co113)).heap[gb539]? = some (.cells #[.int .i64 t535,.slice Ao13 t536.length co13] 27 (0,0))):=⟨by (with_reducible repeat (first|refine ey5 ?_ _|refine gy5 ?_|refine fy5 ?_ _));refine blk_far ?_ NB539_577.out _;(with_reducible repeat (first|refine ey5 ?_ _|refine gy5 ?_|refine fy5 ?_ _));refine blk_far ?_ NB539_577.out _;(with_reducible repeat (first|refine ey5 ?_ _|refine gy5 ?_|refine fy5 ?_ _));exact BK539.out⟩
             have n5_ : Aside0 (((w108.setCell ⟨gb577,0,none⟩ (.int .i64 t573)).setCell ⟨gb577,1,none⟩ (.slice Ao113 t574.length co113)).heap[gb547]? = some (.cells #[.int .i64 t543,.slice Ao19 t544.length co19] 27 (0,0))):=⟨by (with_reducible repeat (first|refine ey5 ?_ _|refine gy5 ?_|refine fy5 ?_ _));refine blk_far ?_ NB547_577.out _;(with_reducible repeat (first|refine ey5 ?_ _|refine gy5 ?_|refine fy5 ?_ _));refine blk_far ?_ NB547_577.out _;(with_reducible repeat (first|refine ey5 ?_ _|refine gy5 ?_|refine fy5 ?_ _));exact BK547.out⟩
             have n6_ : Aside0 (((w108.setCell ⟨gb577,0,none⟩ (.int .i64 t573)).setCell ⟨gb577,1,none⟩ (.slice Ao113 t574.length co113)).heap[gb572]? = some (.cells #[.int .i64 t568,.slice Ao106 t569.length co106] 27 (0,0))):=⟨by (with_reducible repeat (first|refine ey5 ?_ _|refine gy5 ?_|refine fy5 ?_ _));refine blk_far ?_ NB572_577.out _;(with_reducible repeat (first|refine ey5 ?_ _|refine gy5 ?_|refine fy5 ?_ _));refine blk_far ?_ NB572_577.out _;(with_reducible repeat (first|refine ey5 ?_ _|refine gy5 ?_|refine fy5 ?_ _));exact BK572.out⟩
             have n7_ : Aside0 (((w108.setCell ⟨gb577,0,none⟩ (.int .i64 t573)).setCell ⟨gb577,1,none⟩ (.slice Ao113 t574.length co113)).heap[gb577]? = some (.cells #[.int .i64 t573,.slice Ao113 t574.length co113] 27 (0,0))):=⟨by (with_reducible repeat (first|refine ey5 ?_ _|refine gy5 ?_|refine fy5 ?_ _));refine blk_put (cs:=#[.int .i64 t573,.slice none 0 0]) ?_ 1 _ rfl;(with_reducible repeat (first|refine ey5 ?_ _|refine gy5 ?_|refine fy5 ?_ _));refine blk_put (cs:=#[.int .i64 0,.slice none 0 0]) ?_ 0 _ rfl;(with_reducible repeat (first|refine ey5 ?_ _|refine gy5 ?_|refine fy5 ?_ _));exact BK577.out⟩
             have n8_ : Aside0 (Below w.heap.size w ((w108.setCell ⟨gb577,0,none⟩ (.int .i64 t573)).setCell ⟨gb577,1,none⟩ (.slice Ao113 t574.length co113))):=⟨by repeat (first|(with_reducible first|exact HB.out|apply by5|apply ay5|apply cy5|refine dy5 ?_ GE539.out|refine dy5 ?_ GE547.out|refine dy5 ?_ GE572.out|refine dy5 ?_ GE577.out)|exact HB.out)⟩
             (try clear HO_540001);(try clear HO_548001);(try clear HO571)
             (try clear HO576);(try clear BK539);(try clear BK547)
             (try clear BK572);(try clear BK577);(try clear HB)
             generalize ((w108.setCell ⟨gb577,0,none⟩ (.int .i64 t573)).setCell ⟨gb577,1,none⟩ (.slice Ao113 t574.length co113)) = w114 at n0_ n1_ n2_ n3_ n4_ n5_ n6_ n7_ n8_ ⊢
             have HO_540001:=n0_
             have HO_548001:=n1_
             have HO571:=n2_
             have HO576:=n3_
             have BK539:=n4_
             have BK547:=n5_
             have BK572:=n6_
             have BK577:=n7_
             have HB:=n8_
             clear n0_ n1_ n2_ n3_ n4_ n5_ n6_ n7_ n8_
             have n0_:=zz5 (cz5 HO_540001.out)
             have n1_:=zz5 (cz5 HO_548001.out)
             have n2_:=zz5 (cz5 HO571.out)
             have n3_:=zz5 (cz5 HO576.out)
             have n4_:=zz5 (gy5 BK539.out)
             have n5_:=zz5 (gy5 BK547.out)
             have n6_:=zz5 (gy5 BK572.out)
             have n7_:=zz5 (gy5 BK577.out)
             have n8_:=zz5 (cy5 HB.out)
             clear HO_540001
             clear HO_548001
             clear HO571
             clear HO576
             clear BK539
             clear BK547
             clear BK572
             clear BK577
             clear HB
             have HO_540001:=n0_
             have HO_548001:=n1_
             have HO571:=n2_
             have HO576:=n3_
             have BK539:=n4_
             have BK547:=n5_
             have BK572:=n6_
             have BK577:=n7_
             have HB:=n8_
             clear n0_ n1_ n2_ n3_ n4_ n5_ n6_ n7_ n8_
             refine start_ (n:=37) (S:=fun w'=>w'.cell? ⟨gb539,0,none⟩ = some (.int .i64 t535) ∧ w'.cell? ⟨gb539,1,none⟩ = some (.slice Ao13 t536.length co13) ∧ w'.cell? ⟨gb572,0,none⟩ = some (.int .i64 t568) ∧ w'.cell? ⟨gb572,1,none⟩ = some (.slice Ao106 t569.length co106) ∧ w'.cell? ⟨gb577,0,none⟩ = some (.int .i64 t573) ∧ w'.cell? ⟨gb577,1,none⟩ = some (.slice Ao113 t574.length co113)) (ds:=[]) #[Z,Z,Z,Z,Z,Z,Z,Z,Z,Z,Z,Z,Z,Z,Z,Z,Z,Z,Z,Z,Z,Z,Z,Z,Z,Z,Z,Z,Z,Z,Z,Z,Z,Z,Z,Z,Z] (by kernel_rfl) rfl rfl ⟨(blk_cell BK539.out 0).trans rfl,(blk_cell BK539.out 1).trans rfl,(blk_cell BK572.out 0).trans rfl,(blk_cell BK572.out 1).trans rfl,(blk_cell BK577.out 0).trans rfl,(blk_cell BK577.out 1).trans rfl⟩ (fun hHeld=>?_);refine with_tabW laws_FnNonces.tab15 laws_FnNonces.bits15 (fun HT_ HW_=>?_)
             generalize w114.drew = w115 at HO_540001 HO_548001 HO571 HO576 BK539 BK547 BK572 BK577 HB hHeld ⊢
             refine pure_ (i:=0) (N:=some 89) (v:=?_) (a':=?_) #[Y,Z,Z,Z,Z,Z,Z,Z,Z,Z,Z,Z,Z,Z,Z,Z,Z,Z,Z,Z,Z,Z,Z,Z,Z,Z,Z,Z,Z,Z,Z,Z,Z,Z,Z,Z,Z] rfl rfl (any_of HT_.out (by kernel_rfl)) (fun _ _ _ h=>h) (Or.inl ⟨by rfl,?_⟩) ?_ ?_
             rotate_left
             ·intro w';go_simp;with_reducible rfl
             rotate_left
             ·simp only [Act.put,sa_,sb_,sc_,i64_w];rfl
             refine take_ (i:=1) (N:=some 90) (v:=?_) (a':=?_) #[Y,Y,Z,Z,Z,Z,Z,Z,Z,Z,Z,Z,Z,Z,Z,Z,Z,Z,Z,Z,Z,Z,Z,Z,Z,Z,Z,Z,Z,Z,Z,Z,Z,Z,Z,Z,Z] rfl rfl (take_ofW HT_.out HW_.out (by kernel_rfl)) (fun _ _ _ h=>h) (Or.inl ⟨by rfl,?_⟩) hHeld ?_ ?_
             rotate_left
             ·rintro w' ⟨s0,s1,s2,s3,s4,s5⟩
              go_simp
              with_reducible rfl
             rotate_left
             ·simp only [Act.put,sa_,sb_,sc_,i64_w];rfl
             refine pure_ (i:=2) (N:=some 91) (v:=?_) (a':=?_) #[Y,Y,Y,Z,Z,Z,Z,Z,Z,Z,Z,Z,Z,Z,Z,Z,Z,Z,Z,Z,Z,Z,Z,Z,Z,Z,Z,Z,Z,Z,Z,Z,Z,Z,Z,Z,Z] rfl rfl (any_of HT_.out (by kernel_rfl)) (fun _ _ _ h=>h) (Or.inl ⟨by rfl,?_⟩) ?_ ?_
             rotate_left
             ·intro w';go_simp;with_reducible rfl
             rotate_left
             ·simp only [Act.put,sa_,sb_,sc_,i64_w];rfl
             refine pure_ (i:=3) (N:=some 92) (v:=?_) (a':=?_) #[Y,Y,Y,Y,Z,Z,Z,Z,Z,Z,Z,Z,Z,Z,Z,Z,Z,Z,Z,Z,Z,Z,Z,Z,Z,Z,Z,Z,Z,Z,Z,Z,Z,Z,Z,Z,Z] rfl rfl (any_of HT_.out (by kernel_rfl)) (fun _ _ _ h=>h) (Or.inl ⟨by rfl,?_⟩) ?_ ?_
             rotate_left
             ·intro w';go_simp;with_reducible rfl
             rotate_left
             ·simp only [Act.put,sa_,sb_,sc_,i64_w];rfl
             refine pure_ (i:=4) (N:=some 93) (v:=?_) (a':=?_) #[Y,Y,Y,Y,Y,Z,Z,Z,Z,Z,Z,Z,Z,Z,Z,Z,Z,Z,Z,Z,Z,Z,Z,Z,Z,Z,Z,Z,Z,Z,Z,Z,Z,Z,Z,Z,Z] rfl rfl (any_of HT_.out (by kernel_rfl)) (fun _ _ _ h=>h) (Or.inl ⟨by rfl,?_⟩) ?_ ?_
             rotate_left
             ·intro w';go_simp;with_reducible rfl
             rotate_left
             ·simp only [Act.put,sa_,sb_,sc_,i64_w];rfl
             refine pure_ (i:=5) (N:=some 94) (v:=?_) (a':=?_) #[Y,Y,Y,Y,Y,Y,Z,Z,Z,Z,Z,Z,Z,Z,Z,Z,Z,Z,Z,Z,Z,Z,Z,Z,Z,Z,Z,Z,Z,Z,Z,Z,Z,Z,Z,Z,Z] rfl rfl (any_of HT_.out (by kernel_rfl)) (fun _ _ _ h=>h) (Or.inl ⟨by rfl,?_⟩) ?_ ?_
             rotate_left
             ·intro w';go_simp;with_reducible rfl
             rotate_left
             ·simp only [Act.put,sa_,sb_,sc_,i64_w];rfl
             refine pure_ (i:=7) (N:=some 96) (v:=?_) (a':=?_) #[Y,Y,Y,Y,Y,Y,Z,Y,Z,Z,Z,Z,Z,Z,Z,Z,Z,Z,Z,Z,Z,Z,Z,Z,Z,Z,Z,Z,Z,Z,Z,Z,Z,Z,Z,Z,Z] rfl rfl (any_of HT_.out (by kernel_rfl)) (fun _ _ _ h=>h) (Or.inl ⟨by rfl,?_⟩) ?_ ?_
             rotate_left
             ·intro w';go_simp;with_reducible rfl
             rotate_left
             ·simp only [Act.put,sa_,sb_,sc_,i64_w];rfl
             refine take_ (i:=6) (N:=some 95) (v:=?_) (a':=?_) #[Y,Y,Y,Y,Y,Y,Y,Y,Z,Z,Z,Z,Z,Z,Z,Z,Z,Z,Z,Z,Z,Z,Z,Z,Z,Z,Z,Z,Z,Z,Z,Z,Z,Z,Z,Z,Z] rfl rfl (take_ofW HT_.out HW_.out (by kernel_rfl)) (fun _ _ _ h=>h) (Or.inl ⟨by rfl,?_⟩) hHeld ?_ ?_
             rotate_left
             ·rintro w' ⟨s0,s1,s2,s3,s4,s5⟩
              go_simp
              with_reducible rfl
             rotate_left
             ·simp only [Act.put,sa_,sb_,sc_,i64_w];rfl
             refine take_ (i:=8) (N:=some 97) (v:=?_) (a':=?_) #[Y,Y,Y,Y,Y,Y,Y,Y,Y,Z,Z,Z,Z,Z,Z,Z,Z,Z,Z,Z,Z,Z,Z,Z,Z,Z,Z,Z,Z,Z,Z,Z,Z,Z,Z,Z,Z] rfl rfl (take_ofW HT_.out HW_.out (by kernel_rfl)) (fun _ _ _ h=>h) (Or.inl ⟨by rfl,?_⟩) hHeld ?_ ?_
             rotate_left
             ·rintro w' ⟨s0,s1,s2,s3,s4,s5⟩
              go_simp
              with_reducible rfl
             rotate_left
             ·simp only [Act.put,sa_,sb_,sc_,i64_w];rfl
             refine one_ (i:=9) (N:=some 98) #[Y,Y,Y,Y,Y,Y,Y,Y,Y,Y,Z,Z,Z,Z,Z,Z,Z,Z,Z,Z,Z,Z,Z,Z,Z,Z,Z,Z,Z,Z,Z,Z,Z,Z,Z,Z,Z] rfl rfl (one_of HT_.out (by kernel_rfl)) (by decide) (fun K hK=>?_)
             refine goes_ Try.func19 (by kernel_rfl) rfl #[.slice Ao106 t569.length co106,.slice Ao13 t536.length co13] (by rfl) rfl rfl (by (try simp only [List.map_toArray,List.map_cons,List.map_nil]);first|done|rfl|(simp only [List.length_drop,List.length_take];rfl)) ?_
             with_reducible refine (laws_lwSame.calls _ _ t569 _ _ t536 false _ ?side1 ?side2 ?side3 ?side4 A56.out).mono ?_
             (case side1=>repeat (first|exact (iz5 HO571.out).2.2|(with_reducible refine Kd.C_alloc ?_ _)|(with_reducible refine Kd.C_drewN ?_ _)|(with_reducible refine Kd.C_drew ?_)))
             (case side2=>exact (iz5 HO571.out).2.1)
             (case side3=>repeat (first|exact (iz5 HO_540001.out).2.2|(with_reducible refine Kd.C_alloc ?_ _)|(with_reducible refine Kd.C_drewN ?_ _)|(with_reducible refine Kd.C_drew ?_)))
             (case side4=>exact (iz5 HO_540001.out).2.1)
             rintro e w' ⟨rfl,⟨nd,rfl⟩⟩
             refine ⟨_,rfl,?_⟩
             refine hK.out _ _ ⟨(blk_cell BK539.out 0).trans rfl,(blk_cell BK539.out 1).trans rfl,(blk_cell BK572.out 0).trans rfl,(blk_cell BK572.out 1).trans rfl,(blk_cell BK577.out 0).trans rfl,(blk_cell BK577.out 1).trans rfl⟩ (fun hHeld=>?_)
             clear hK K
             refine norm_ (a':=?_) ?_ ?_
             rotate_left
             ·show Act.put _ (some 98) _ = _
              simp only [Act.put,sa_,sb_,sc_,i64_w]
              rfl
             refine pure_ (i:=10) (N:=some 99) (v:=?_) (a':=?_) #[Y,Y,Y,Y,Y,Y,Y,Y,Y,Y,Y,Z,Z,Z,Z,Z,Z,Z,Z,Z,Z,Z,Z,Z,Z,Z,Z,Z,Z,Z,Z,Z,Z,Z,Z,Z,Z] rfl rfl (any_of HT_.out (by kernel_rfl)) (fun _ _ _ h=>h) (Or.inl ⟨by rfl,?_⟩) ?_ ?_
             rotate_left
             ·intro w';go_simp;with_reducible rfl
             rotate_left
             ·simp only [Act.put,sa_,sb_,sc_,i64_w];rfl
             refine pure_ (i:=11) (N:=some 100) (v:=?_) (a':=?_) #[Y,Y,Y,Y,Y,Y,Y,Y,Y,Y,Y,Y,Z,Z,Z,Z,Z,Z,Z,Z,Z,Z,Z,Z,Z,Z,Z,Z,Z,Z,Z,Z,Z,Z,Z,Z,Z] rfl rfl (any_of HT_.out (by kernel_rfl)) (fun _ _ _ h=>h) (Or.inl ⟨by rfl,?_⟩) ?_ ?_
             rotate_left
             ·intro w';go_simp;with_reducible rfl
             rotate_left
             ·simp only [Act.put,sa_,sb_,sc_,i64_w];rfl
             refine pure_ (i:=12) (N:=some 101) (v:=?_) (a':=?_) #[Y,Y,Y,Y,Y,Y,Y,Y,Y,Y,Y,Y,Y,Z,Z,Z,Z,Z,Z,Z,Z,Z,Z,Z,Z,Z,Z,Z,Z,Z,Z,Z,Z,Z,Z,Z,Z] rfl rfl (any_of HT_.out (by kernel_rfl)) (fun _ _ _ h=>h) (Or.inl ⟨by rfl,?_⟩) ?_ ?_
             rotate_left
             ·intro w';go_simp;with_reducible rfl
             rotate_left
             ·simp only [Act.put,sa_,sb_,sc_,i64_w];rfl
             refine pure_ (i:=13) (N:=some 102) (v:=?_) (a':=?_) #[Y,Y,Y,Y,Y,Y,Y,Y,Y,Y,Y,Y,Y,Y,Z,Z,Z,Z,Z,Z,Z,Z,Z,Z,Z,Z,Z,Z,Z,Z,Z,Z,Z,Z,Z,Z,Z] rfl rfl (any_of HT_.out (by kernel_rfl)) (fun _ _ _ h=>h) (Or.inl ⟨by rfl,?_⟩) ?_ ?_
             rotate_left
             ·intro w';go_simp;with_reducible rfl
             rotate_left
             ·simp only [Act.put,sa_,sb_,sc_,i64_w];rfl
             refine pure_ (i:=14) (N:=some 103) (v:=?_) (a':=?_) #[Y,Y,Y,Y,Y,Y,Y,Y,Y,Y,Y,Y,Y,Y,Y,Z,Z,Z,Z,Z,Z,Z,Z,Z,Z,Z,Z,Z,Z,Z,Z,Z,Z,Z,Z,Z,Z] rfl rfl (any_of HT_.out (by kernel_rfl)) (fun _ _ _ h=>h) (Or.inl ⟨by rfl,?_⟩) ?_ ?_
             rotate_left
             ·intro w';go_simp;with_reducible rfl
             rotate_left
             ·simp only [Act.put,sa_,sb_,sc_,i64_w];rfl
             refine pure_ (i:=15) (N:=some 104) (v:=?_) (a':=?_) #[Y,Y,Y,Y,Y,Y,Y,Y,Y,Y,Y,Y,Y,Y,Y,Y,Z,Z,Z,Z,Z,Z,Z,Z,Z,Z,Z,Z,Z,Z,Z,Z,Z,Z,Z,Z,Z] rfl rfl (any_of HT_.out (by kernel_rfl)) (fun _ _ _ h=>h) (Or.inl ⟨by rfl,?_⟩) ?_ ?_
             rotate_left
             ·intro w';go_simp;with_reducible rfl
             rotate_left
             ·simp only [Act.put,sa_,sb_,sc_,i64_w];rfl
             refine pure_ (i:=16) (N:=some 105) (v:=?_) (a':=?_) #[Y,Y,Y,Y,Y,Y,Y,Y,Y,Y,Y,Y,Y,Y,Y,Y,Y,Z,Z,Z,Z,Z,Z,Z,Z,Z,Z,Z,Z,Z,Z,Z,Z,Z,Z,Z,Z] rfl rfl (any_of HT_.out (by kernel_rfl)) (fun _ _ _ h=>h) (Or.inl ⟨by rfl,?_⟩) ?_ ?_
             rotate_left
             ·intro w';go_simp;with_reducible rfl
             rotate_left
             ·simp only [Act.put,sa_,sb_,sc_,i64_w];rfl
             refine pure_ (i:=17) (N:=some 106) (v:=?_) (a':=?_) #[Y,Y,Y,Y,Y,Y,Y,Y,Y,Y,Y,Y,Y,Y,Y,Y,Y,Y,Z,Z,Z,Z,Z,Z,Z,Z,Z,Z,Z,Z,Z,Z,Z,Z,Z,Z,Z] rfl rfl (any_of HT_.out (by kernel_rfl)) (fun _ _ _ h=>h) (Or.inl ⟨by rfl,?_⟩) ?_ ?_
             rotate_left
             ·intro w';go_simp;with_reducible rfl
             rotate_left
             ·simp only [Act.put,sa_,sb_,sc_,i64_w];rfl
             refine pure_ (i:=18) (N:=some 107) (v:=?_) (a':=?_) #[Y,Y,Y,Y,Y,Y,Y,Y,Y,Y,Y,Y,Y,Y,Y,Y,Y,Y,Y,Z,Z,Z,Z,Z,Z,Z,Z,Z,Z,Z,Z,Z,Z,Z,Z,Z,Z] rfl rfl (any_of HT_.out (by kernel_rfl)) (fun _ _ _ h=>h) (Or.inl ⟨by rfl,?_⟩) ?_ ?_
             rotate_left
             ·intro w';go_simp;with_reducible rfl
             rotate_left
             ·simp only [Act.put,sa_,sb_,sc_,i64_w];rfl
             refine pure_ (i:=19) (N:=some 108) (v:=?_) (a':=?_) #[Y,Y,Y,Y,Y,Y,Y,Y,Y,Y,Y,Y,Y,Y,Y,Y,Y,Y,Y,Y,Z,Z,Z,Z,Z,Z,Z,Z,Z,Z,Z,Z,Z,Z,Z,Z,Z] rfl rfl (any_of HT_.out (by kernel_rfl)) (fun _ _ _ h=>h) (Or.inl ⟨by rfl,?_⟩) ?_ ?_
             rotate_left
             ·intro w';go_simp;with_reducible rfl
             rotate_left
             ·simp only [Act.put,sa_,sb_,sc_,i64_w];rfl
             refine pure_ (i:=21) (N:=some 110) (v:=?_) (a':=?_) #[Y,Y,Y,Y,Y,Y,Y,Y,Y,Y,Y,Y,Y,Y,Y,Y,Y,Y,Y,Y,Z,Y,Z,Z,Z,Z,Z,Z,Z,Z,Z,Z,Z,Z,Z,Z,Z] rfl rfl (any_of HT_.out (by kernel_rfl)) (fun _ _ _ h=>h) (Or.inl ⟨by rfl,?_⟩) ?_ ?_
             rotate_left
             ·intro w';go_simp;with_reducible rfl
             rotate_left
             ·simp only [Act.put,sa_,sb_,sc_,i64_w];rfl
             refine take_ (i:=20) (N:=some 109) (v:=?_) (a':=?_) #[Y,Y,Y,Y,Y,Y,Y,Y,Y,Y,Y,Y,Y,Y,Y,Y,Y,Y,Y,Y,Y,Y,Z,Z,Z,Z,Z,Z,Z,Z,Z,Z,Z,Z,Z,Z,Z] rfl rfl (take_ofW HT_.out HW_.out (by kernel_rfl)) (fun _ _ _ h=>h) (Or.inl ⟨by rfl,?_⟩) hHeld ?_ ?_
             rotate_left
             ·rintro w' ⟨s0,s1,s2,s3,s4,s5⟩
              go_simp
              with_reducible rfl
             rotate_left
             ·simp only [Act.put,sa_,sb_,sc_,i64_w];rfl
             refine take_ (i:=22) (N:=some 111) (v:=?_) (a':=?_) #[Y,Y,Y,Y,Y,Y,Y,Y,Y,Y,Y,Y,Y,Y,Y,Y,Y,Y,Y,Y,Y,Y,Y,Z,Z,Z,Z,Z,Z,Z,Z,Z,Z,Z,Z,Z,Z] rfl rfl (take_ofW HT_.out HW_.out (by kernel_rfl)) (fun _ _ _ h=>h) (Or.inl ⟨by rfl,?_⟩) hHeld ?_ ?_
             rotate_left
             ·rintro w' ⟨s0,s1,s2,s3,s4,s5⟩
              go_simp
              with_reducible rfl
             rotate_left
             ·simp only [Act.put,sa_,sb_,sc_,i64_w];rfl
             refine one_ (i:=23) (N:=some 112) #[Y,Y,Y,Y,Y,Y,Y,Y,Y,Y,Y,Y,Y,Y,Y,Y,Y,Y,Y,Y,Y,Y,Y,Y,Z,Z,Z,Z,Z,Z,Z,Z,Z,Z,Z,Z,Z] rfl rfl (one_of HT_.out (by kernel_rfl)) (by decide) (fun K hK=>?_)
             refine goes_ Try.func19 (by kernel_rfl) rfl #[.slice Ao113 t574.length co113,.slice Ao13 t536.length co13] (by rfl) rfl rfl (by (try simp only [List.map_toArray,List.map_cons,List.map_nil]);first|done|rfl|(simp only [List.length_drop,List.length_take];rfl)) ?_
             with_reducible refine (laws_lwSame.calls _ _ t574 _ _ t536 true _ ?side1 ?side2 ?side3 ?side4 A97.out).mono ?_
             (case side1=>repeat (first|exact (iz5 HO576.out).2.2|(with_reducible refine Kd.C_alloc ?_ _)|(with_reducible refine Kd.C_drewN ?_ _)|(with_reducible refine Kd.C_drew ?_)))
             (case side2=>exact (iz5 HO576.out).2.1)
             (case side3=>repeat (first|exact (iz5 HO_540001.out).2.2|(with_reducible refine Kd.C_alloc ?_ _)|(with_reducible refine Kd.C_drewN ?_ _)|(with_reducible refine Kd.C_drew ?_)))
             (case side4=>exact (iz5 HO_540001.out).2.1)
             rintro e w' ⟨rfl,⟨nd,rfl⟩⟩
             refine ⟨_,rfl,?_⟩
             refine hK.out _ _ ⟨(blk_cell BK539.out 0).trans rfl,(blk_cell BK539.out 1).trans rfl,(blk_cell BK572.out 0).trans rfl,(blk_cell BK572.out 1).trans rfl,(blk_cell BK577.out 0).trans rfl,(blk_cell BK577.out 1).trans rfl⟩ (fun hHeld=>?_)
             clear hK K
             refine norm_ (a':=?_) ?_ ?_
             rotate_left
             ·show Act.put _ (some 112) _ = _
              simp only [Act.put,sa_,sb_,sc_,i64_w]
              rfl
             refine pure_ (i:=24) (N:=some 113) (v:=?_) (a':=?_) #[Y,Y,Y,Y,Y,Y,Y,Y,Y,Y,Y,Y,Y,Y,Y,Y,Y,Y,Y,Y,Y,Y,Y,Y,Y,Z,Z,Z,Z,Z,Z,Z,Z,Z,Z,Z,Z] rfl rfl (any_of HT_.out (by kernel_rfl)) (fun _ _ _ h=>h) (Or.inl ⟨by rfl,?_⟩) ?_ ?_
             rotate_left
             ·intro w';go_simp;with_reducible rfl
             rotate_left
             ·simp only [Act.put,sa_,sb_,sc_,i64_w];rfl
             refine pure_ (i:=25) (N:=some 114) (v:=?_) (a':=?_) #[Y,Y,Y,Y,Y,Y,Y,Y,Y,Y,Y,Y,Y,Y,Y,Y,Y,Y,Y,Y,Y,Y,Y,Y,Y,Y,Z,Z,Z,Z,Z,Z,Z,Z,Z,Z,Z] rfl rfl (any_of HT_.out (by kernel_rfl)) (fun _ _ _ h=>h) (Or.inl ⟨by rfl,?_⟩) ?_ ?_
             rotate_left
             ·intro w';go_simp;with_reducible rfl
             rotate_left
             ·simp only [Act.put,sa_,sb_,sc_,i64_w];rfl
             refine pure_ (i:=26) (N:=some 115) (v:=?_) (a':=?_) #[Y,Y,Y,Y,Y,Y,Y,Y,Y,Y,Y,Y,Y,Y,Y,Y,Y,Y,Y,Y,Y,Y,Y,Y,Y,Y,Y,Z,Z,Z,Z,Z,Z,Z,Z,Z,Z] rfl rfl (any_of HT_.out (by kernel_rfl)) (fun _ _ _ h=>h) (Or.inl ⟨by rfl,?_⟩) ?_ ?_
             rotate_left
             ·intro w';go_simp;with_reducible rfl
             rotate_left
             ·simp only [Act.put,sa_,sb_,sc_,i64_w];rfl
             refine pure_ (i:=27) (N:=some 116) (v:=?_) (a':=?_) #[Y,Y,Y,Y,Y,Y,Y,Y,Y,Y,Y,Y,Y,Y,Y,Y,Y,Y,Y,Y,Y,Y,Y,Y,Y,Y,Y,Y,Z,Z,Z,Z,Z,Z,Z,Z,Z] rfl rfl (any_of HT_.out (by kernel_rfl)) (fun _ _ _ h=>h) (Or.inl ⟨by rfl,?_⟩) ?_ ?_
             rotate_left
             ·intro w';go_simp;with_reducible rfl
             rotate_left
             ·simp only [Act.put,sa_,sb_,sc_,i64_w];rfl
             refine pure_ (i:=28) (N:=some 117) (v:=undef) (a':=?_) #[Y,Y,Y,Y,Y,Y,Y,Y,Y,Y,Y,Y,Y,Y,Y,Y,Y,Y,Y,Y,Y,Y,Y,Y,Y,Y,Y,Y,Y,Z,Z,Z,Z,Z,Z,Z,Z] rfl rfl (any_of HT_.out (by kernel_rfl)) (fun _ _ _ h=>h) (Or.inr ⟨by rfl,rfl⟩) ?_ ?_
             rotate_left
             ·simp only [Act.put,sa_,sb_,sc_,i64_w];rfl
             refine pure_ (i:=29) (N:=some 118) (v:=undef) (a':=?_) #[Y,Y,Y,Y,Y,Y,Y,Y,Y,Y,Y,Y,Y,Y,Y,Y,Y,Y,Y,Y,Y,Y,Y,Y,Y,Y,Y,Y,Y,Y,Z,Z,Z,Z,Z,Z,Z] rfl rfl (any_of HT_.out (by kernel_rfl)) (fun _ _ _ h=>h) (Or.inr ⟨by rfl,rfl⟩) ?_ ?_
             rotate_left
             ·simp only [Act.put,sa_,sb_,sc_,i64_w];rfl
             refine pure_ (i:=30) (N:=some 119) (v:=undef) (a':=?_) #[Y,Y,Y,Y,Y,Y,Y,Y,Y,Y,Y,Y,Y,Y,Y,Y,Y,Y,Y,Y,Y,Y,Y,Y,Y,Y,Y,Y,Y,Y,Y,Z,Z,Z,Z,Z,Z] rfl rfl (any_of HT_.out (by kernel_rfl)) (fun _ _ _ h=>h) (Or.inr ⟨by rfl,rfl⟩) ?_ ?_
             rotate_left
             ·simp only [Act.put,sa_,sb_,sc_,i64_w];rfl
             refine pure_ (i:=31) (N:=some 120) (v:=undef) (a':=?_) #[Y,Y,Y,Y,Y,Y,Y,Y,Y,Y,Y,Y,Y,Y,Y,Y,Y,Y,Y,Y,Y,Y,Y,Y,Y,Y,Y,Y,Y,Y,Y,Y,Z,Z,Z,Z,Z] rfl rfl (any_of HT_.out (by kernel_rfl)) (fun _ _ _ h=>h) (Or.inr ⟨by rfl,rfl⟩) ?_ ?_
             rotate_left
             ·simp only [Act.put,sa_,sb_,sc_,i64_w];rfl
             refine pure_ (i:=32) (N:=some 121) (v:=undef) (a':=?_) #[Y,Y,Y,Y,Y,Y,Y,Y,Y,Y,Y,Y,Y,Y,Y,Y,Y,Y,Y,Y,Y,Y,Y,Y,Y,Y,Y,Y,Y,Y,Y,Y,Y,Z,Z,Z,Z] rfl rfl (any_of HT_.out (by kernel_rfl)) (fun _ _ _ h=>h) (Or.inr ⟨by rfl,rfl⟩) ?_ ?_
             rotate_left
             ·simp only [Act.put,sa_,sb_,sc_,i64_w];rfl
             refine pure_ (i:=33) (N:=some 122) (v:=undef) (a':=?_) #[Y,Y,Y,Y,Y,Y,Y,Y,Y,Y,Y,Y,Y,Y,Y,Y,Y,Y,Y,Y,Y,Y,Y,Y,Y,Y,Y,Y,Y,Y,Y,Y,Y,Y,Z,Z,Z] rfl rfl (any_of HT_.out (by kernel_rfl)) (fun _ _ _ h=>h) (Or.inr ⟨by rfl,rfl⟩) ?_ ?_
             rotate_left
             ·simp only [Act.put,sa_,sb_,sc_,i64_w];rfl
             refine pure_ (i:=34) (N:=some 123) (v:=undef) (a':=?_) #[Y,Y,Y,Y,Y,Y,Y,Y,Y,Y,Y,Y,Y,Y,Y,Y,Y,Y,Y,Y,Y,Y,Y,Y,Y,Y,Y,Y,Y,Y,Y,Y,Y,Y,Y,Z,Z] rfl rfl (any_of HT_.out (by kernel_rfl)) (fun _ _ _ h=>h) (Or.inr ⟨by rfl,rfl⟩) ?_ ?_
             rotate_left
             ·simp only [Act.put,sa_,sb_,sc_,i64_w];rfl
             refine pure_ (i:=35) (N:=some 124) (v:=?_) (a':=?_) #[Y,Y,Y,Y,Y,Y,Y,Y,Y,Y,Y,Y,Y,Y,Y,Y,Y,Y,Y,Y,Y,Y,Y,Y,Y,Y,Y,Y,Y,Y,Y,Y,Y,Y,Y,Y,Z] rfl rfl (any_of HT_.out (by kernel_rfl)) (fun _ _ _ h=>h) (Or.inl ⟨by rfl,?_⟩) ?_ ?_
             rotate_left
             ·intro w';go_simp;with_reducible rfl
             rotate_left
             ·simp only [Act.put,sa_,sb_,sc_,i64_w];rfl
             refine pure_ (i:=36) (N:=some 2) (v:=?_) (a':=?_) #[Y,Y,Y,Y,Y,Y,Y,Y,Y,Y,Y,Y,Y,Y,Y,Y,Y,Y,Y,Y,Y,Y,Y,Y,Y,Y,Y,Y,Y,Y,Y,Y,Y,Y,Y,Y,Y] rfl rfl (any_of HT_.out (by kernel_rfl)) (fun _ _ _ h=>h) (Or.inl ⟨by rfl,?_⟩) ?_ ?_
             rotate_left
             ·intro w';go_simp;with_reducible rfl
             rotate_left
             ·simp only [Act.put,sa_,sb_,sc_,i64_w];rfl
             refine done_ (done_of HT_.out (by kernel_rfl)) ?_
             try go_wp2
             go_ret
             exact⟨by first|rfl|(simp [errW_none,errW_some] <;> rfl)|(simp [*,errW_none,errW_some] <;> rfl),by repeat (first|(with_reducible first|exact HB.out|apply by5|apply ay5|apply cy5|refine dy5 ?_ GE539.out|refine dy5 ?_ GE547.out|refine dy5 ?_ GE572.out|refine dy5 ?_ GE577.out)|exact HB.out)⟩
            ·replace c98:=Bool.eq_false_iff.mpr c98
             subst c98
             have H1 : ((spec_NonceOf.f kj39 t533 t534).bind fun bt585=>((laws_lwSame.f t536 bt585.2).bind fun t589=>(some t589))) = some r:=by rw [if_neg (show ¬ (false = true) by decide)] at H;exact H
             clear H
             have H:=H1
             clear H1
             replace H:=Option.bind_eq_some_iff.mp H
             obtain⟨⟨t585,t586⟩,A1160,H⟩:=H
             replace H : ((laws_lwSame.f t536 t586).bind fun t589=>(some t589)) = some r:=H
             have A116:=zz5 A1160
             clear A1160
             replace H:=Option.bind_eq_some_iff.mp H
             obtain⟨t589,A1170,H⟩:=H
             replace H : (some t589) = some r:=H
             have A117:=zz5 A1170
             clear A1170
             obtain rfl:=Option.some.inj H
             have hnb118:=NB539_547.out
             have hnc118:=NB547_539.out
             have hcz119_0 : wc.cell? ⟨gb539,0,none⟩ = some (.int .i64 t535):=(blk_cell BK539.out 0).trans rfl
             have hcz119_1 : wc.cell? ⟨gb539,1,none⟩ = some (.slice Ao13 t536.length co13):=(blk_cell BK539.out 1).trans rfl
             have hfz119_0:=blk_frozen BK539.out 0
             have hfz119_1:=blk_frozen BK539.out 1
             try go_wp2_with (first|((with_reducible refine gate_callee (f:=29) rfl ?_);refine goesL_ (some 83) rfl rfl Try.func29 (by kernel_rfl) rfl #[.int .i64 (Int.tmod (wrap64 (t533 + 1)) 16),.int .i64 t534] rfl (by (try simp only [List.map_toArray,List.map_cons,List.map_nil]);first|done|rfl|(simp only [List.length_drop,List.length_take];rfl)) ?_;(with_reducible refine (impl_NonceOf.calls kj39 (Int.tmod (wrap64 (t533 + 1)) 16) t534 t568 t569 _ A53.out).mono ?_);rintro e w120 ⟨v570,rfl,ho0,hb⟩;refine ⟨_,rfl,?_⟩;have n0_:=zz5 (jz5 (by (with_reducible repeat (first|apply az5|apply bz5|apply cz5));exact HO_540001.out) (fz5 ho0) hb);have n1_:=zz5 (jz5 (by (with_reducible repeat (first|apply az5|apply bz5|apply cz5));exact HO_548001.out) (fz5 ho0) hb);have n2_:=zz5 (Kd.R_lower (kz5 (kz5 ho0 (Kd.R_lt (by (with_reducible repeat (first|apply az5|apply bz5|apply cz5));exact HO_540001.out))) (Kd.R_lt (by (with_reducible repeat (first|apply az5|apply bz5|apply cz5));exact HO_548001.out))) (below_size (by repeat(first|(with_reducible first|exact HB.out|apply by5|apply ay5|apply cy5|refine dy5 ?_ GE539.out|refine dy5 ?_ GE547.out)|exact HB.out))));have n3_:=zz5 (hy5 (g:=gb539) (o:=.cells #[.int .i64 t535,.slice Ao13 t536.length co13] 27 (0,0)) (by (with_reducible repeat (first|refine ey5 ?_ _|refine gy5 ?_|refine fy5 ?_ _));exact BK539.out) hb);have n4_:=zz5 (hy5 (g:=gb547) (o:=.cells #[.int .i64 t543,.slice Ao19 t544.length co19] 27 (0,0)) (by (with_reducible repeat (first|refine ey5 ?_ _|refine gy5 ?_|refine fy5 ?_ _));exact BK547.out) hb);have n5_:=zz5 (below_step (by repeat(first|(with_reducible first|exact HB.out|apply by5|apply ay5|apply cy5|refine dy5 ?_ GE539.out|refine dy5 ?_ GE547.out)|exact HB.out)) hb);clear HO_540001;clear HO_548001;clear BK539;clear BK547;clear HB;have HO_540001:=n0_;have HO_548001:=n1_;have HO571:=n2_;have BK539:=n3_;have BK547:=n4_;have HB:=n5_;clear n0_ n1_ n2_ n3_ n4_ n5_;(try clear hb);(try clear hb2);(try clear hk);(try clear hi);(try clear ho0))|((with_reducible refine gate_dst (N:=10) rfl ?_);(try (refine gate_guard (by rfl) ?_;dsimp only));refine box_event ?hg (N:=10) ?hd (cs:=#[.int .i64 0,.slice none 0 0]) (t:=27) ?hr ?_;(case hd=>rfl);(case hg=>rfl);(case hr=>first|(go_simp;done)|(go_simp;rfl));intro gb572 hg w121 hbox hb;have n0_:=zz5 (dz5 (by (with_reducible repeat (first|apply az5|apply bz5|apply cz5));exact HO_540001.out) hb);have n1_:=zz5 (dz5 (by (with_reducible repeat (first|apply az5|apply bz5|apply cz5));exact HO_548001.out) hb);have n2_:=zz5 (dz5 (by (with_reducible repeat (first|apply az5|apply bz5|apply cz5));exact HO571.out) hb);have n3_:=zz5 (hy5 (g:=gb539) (o:=.cells #[.int .i64 t535,.slice Ao13 t536.length co13] 27 (0,0)) (by (with_reducible repeat (first|refine ey5 ?_ _|refine gy5 ?_|refine fy5 ?_ _));exact BK539.out) hb);have n4_:=zz5 (hy5 (g:=gb547) (o:=.cells #[.int .i64 t543,.slice Ao19 t544.length co19] 27 (0,0)) (by (with_reducible repeat (first|refine ey5 ?_ _|refine gy5 ?_|refine fy5 ?_ _));exact BK547.out) hb);have n5_:=zz5 (below_step (by repeat(first|(with_reducible first|exact HB.out|apply by5|apply ay5|apply cy5|refine dy5 ?_ GE539.out|refine dy5 ?_ GE547.out)|exact HB.out)) hb);have n6_:=zz5 (hbox);have n7_:=zz5 ((by rw [hg];exact (below_size (by repeat(first|(with_reducible first|exact HB.out|apply by5|apply ay5|apply cy5|refine dy5 ?_ GE539.out|refine dy5 ?_ GE547.out)|exact HB.out))) : w.heap.size ≤ gb572));have n8_:=zz5 ((by rw [hg];exact (below_size (by repeat(first|(with_reducible first|exact HB.out|apply by5|apply ay5|apply cy5|refine dy5 ?_ GE539.out|refine dy5 ?_ GE547.out)|exact HB.out))) : w.heap.size ≤ gb572));have n9_:=zz5 ((by rw [hg];exact Nat.ne_of_lt (blk_lt (g:=gb539) (o:=.cells #[.int .i64 t535,.slice Ao13 t536.length co13] 27 (0,0)) (by (with_reducible repeat (first|refine ey5 ?_ _|refine gy5 ?_|refine fy5 ?_ _));exact BK539.out)) : gb539 ≠ gb572));have n10_:=zz5 ((by rw [hg];exact Nat.ne_of_gt (blk_lt (g:=gb539) (o:=.cells #[.int .i64 t535,.slice Ao13 t536.length co13] 27 (0,0)) (by (with_reducible repeat (first|refine ey5 ?_ _|refine gy5 ?_|refine fy5 ?_ _));exact BK539.out)) : gb572 ≠ gb539));have n11_:=zz5 ((by rw [hg];exact Nat.ne_of_lt (blk_lt (g:=gb547) (o:=.cells #[.int .i64 t543,.slice Ao19 t544.length co19] 27 (0,0)) (by (with_reducible repeat (first|refine ey5 ?_ _|refine gy5 ?_|refine fy5 ?_ _));exact BK547.out)) : gb547 ≠ gb572));have n12_:=zz5 ((by rw [hg];exact Nat.ne_of_gt (blk_lt (g:=gb547) (o:=.cells #[.int .i64 t543,.slice Ao19 t544.length co19] 27 (0,0)) (by (with_reducible repeat (first|refine ey5 ?_ _|refine gy5 ?_|refine fy5 ?_ _));exact BK547.out)) : gb572 ≠ gb547));clear HO_540001;clear HO_548001;clear HO571;clear BK539;clear BK547;clear HB;have HO_540001:=n0_;have HO_548001:=n1_;have HO571:=n2_;have BK539:=n3_;have BK547:=n4_;have HB:=n5_;have BK572:=n6_;have GW572:=n7_;have GE572:=n8_;have NB539_572:=n9_;have NB572_539:=n10_;have NB547_572:=n11_;have NB572_547:=n12_;clear n0_ n1_ n2_ n3_ n4_ n5_ n6_ n7_ n8_ n9_ n10_ n11_ n12_;clear hb hbox hg;have hnb122:=NB572_539.out;have hnc122:=NB539_572.out;have hnb123:=NB572_547.out;have hnc123:=NB547_572.out;have hcz124_0 : w121.cell? ⟨gb572,0,none⟩ = some (.int .i64 0):=(blk_cell BK572.out 0).trans rfl;have hcz124_1 : w121.cell? ⟨gb572,1,none⟩ = some (.slice none 0 0):=(blk_cell BK572.out 1).trans rfl;have hfz124_0:=blk_frozen BK572.out 0;have hfz124_1:=blk_frozen BK572.out 1;obtain⟨Ao125,co125,eo125⟩:=Kd.R_slice HO571.out;subst eo125)|((with_reducible refine gate_callee (f:=29) rfl ?_);refine goesL_ (some 88) rfl rfl Try.func29 (by kernel_rfl) rfl #[.int .i64 t533,.int .i64 (wrap64 ((wrap64 (Int.tdiv t534 2)) + 1))] rfl (by (try simp only [List.map_toArray,List.map_cons,List.map_nil]);first|done|rfl|(simp only [List.length_drop,List.length_take];rfl)) ?_;(with_reducible refine (impl_NonceOf.calls kj39 t533 (wrap64 ((wrap64 (Int.tdiv t534 2)) + 1)) t573 t574 _ A54.out).mono ?_);rintro e w126 ⟨v575,rfl,ho0,hb⟩;refine ⟨_,rfl,?_⟩;have n0_:=zz5 (jz5 (by (with_reducible repeat (first|apply az5|apply bz5|apply cz5));exact (gz5 (ez5 (p:=⟨gb572,1,none⟩) (ez5 (p:=⟨gb572,0,none⟩) (hz5 HO_540001.out BK572.out (by decide)) (fun _ hk=>hk.2) (.int .i64 t568)) (fun _ hk=>hk.2) (.slice Ao125 t569.length co125)) (fun _ h_=>h_.1))) (fz5 ho0) hb);have n1_:=zz5 (jz5 (by (with_reducible repeat (first|apply az5|apply bz5|apply cz5));exact (gz5 (ez5 (p:=⟨gb572,1,none⟩) (ez5 (p:=⟨gb572,0,none⟩) (hz5 HO_548001.out BK572.out (by decide)) (fun _ hk=>hk.2) (.int .i64 t568)) (fun _ hk=>hk.2) (.slice Ao125 t569.length co125)) (fun _ h_=>h_.1))) (fz5 ho0) hb);have n2_:=zz5 (jz5 (by (with_reducible repeat (first|apply az5|apply bz5|apply cz5));exact (gz5 (ez5 (p:=⟨gb572,1,none⟩) (ez5 (p:=⟨gb572,0,none⟩) (hz5 HO571.out BK572.out (by decide)) (fun _ hk=>hk.2) (.int .i64 t568)) (fun _ hk=>hk.2) (.slice Ao125 t569.length co125)) (fun _ h_=>h_.1))) (fz5 ho0) hb);have n3_:=zz5 (Kd.R_lower (kz5 (kz5 (kz5 ho0 (Kd.R_lt (by (with_reducible repeat (first|apply az5|apply bz5|apply cz5));exact (gz5 (ez5 (p:=⟨gb572,1,none⟩) (ez5 (p:=⟨gb572,0,none⟩) (hz5 HO_540001.out BK572.out (by decide)) (fun _ hk=>hk.2) (.int .i64 t568)) (fun _ hk=>hk.2) (.slice Ao125 t569.length co125)) (fun _ h_=>h_.1))))) (Kd.R_lt (by (with_reducible repeat (first|apply az5|apply bz5|apply cz5));exact (gz5 (ez5 (p:=⟨gb572,1,none⟩) (ez5 (p:=⟨gb572,0,none⟩) (hz5 HO_548001.out BK572.out (by decide)) (fun _ hk=>hk.2) (.int .i64 t568)) (fun _ hk=>hk.2) (.slice Ao125 t569.length co125)) (fun _ h_=>h_.1))))) (Kd.R_lt (by (with_reducible repeat (first|apply az5|apply bz5|apply cz5));exact (gz5 (ez5 (p:=⟨gb572,1,none⟩) (ez5 (p:=⟨gb572,0,none⟩) (hz5 HO571.out BK572.out (by decide)) (fun _ hk=>hk.2) (.int .i64 t568)) (fun _ hk=>hk.2) (.slice Ao125 t569.length co125)) (fun _ h_=>h_.1))))) (below_size (by repeat(first|(with_reducible first|exact HB.out|apply by5|apply ay5|apply cy5|refine dy5 ?_ GE539.out|refine dy5 ?_ GE547.out|refine dy5 ?_ GE572.out)|exact HB.out))));have n4_:=zz5 (hy5 (g:=gb539) (o:=.cells #[.int .i64 t535,.slice Ao13 t536.length co13] 27 (0,0)) (by (with_reducible repeat (first|refine ey5 ?_ _|refine gy5 ?_|refine fy5 ?_ _));refine blk_far ?_ NB539_572.out _;(with_reducible repeat (first|refine ey5 ?_ _|refine gy5 ?_|refine fy5 ?_ _));refine blk_far ?_ NB539_572.out _;(with_reducible repeat (first|refine ey5 ?_ _|refine gy5 ?_|refine fy5 ?_ _));exact BK539.out) hb);have n5_:=zz5 (hy5 (g:=gb547) (o:=.cells #[.int .i64 t543,.slice Ao19 t544.length co19] 27 (0,0)) (by (with_reducible repeat (first|refine ey5 ?_ _|refine gy5 ?_|refine fy5 ?_ _));refine blk_far ?_ NB547_572.out _;(with_reducible repeat (first|refine ey5 ?_ _|refine gy5 ?_|refine fy5 ?_ _));refine blk_far ?_ NB547_572.out _;(with_reducible repeat (first|refine ey5 ?_ _|refine gy5 ?_|refine fy5 ?_ _));exact BK547.out) hb);have n6_:=zz5 (hy5 (g:=gb572) (o:=.cells #[.int .i64 t568,.slice Ao125 t569.length co125] 27 (0,0)) (by (with_reducible repeat (first|refine ey5 ?_ _|refine gy5 ?_|refine fy5 ?_ _));refine blk_put (cs:=#[.int .i64 t568,.slice none 0 0]) ?_ 1 _ rfl;(with_reducible repeat (first|refine ey5 ?_ _|refine gy5 ?_|refine fy5 ?_ _));refine blk_put (cs:=#[.int .i64 0,.slice none 0 0]) ?_ 0 _ rfl;(with_reducible repeat (first|refine ey5 ?_ _|refine gy5 ?_|refine fy5 ?_ _));exact BK572.out) hb);have n7_:=zz5 (below_step (by repeat(first|(with_reducible first|exact HB.out|apply by5|apply ay5|apply cy5|refine dy5 ?_ GE539.out|refine dy5 ?_ GE547.out|refine dy5 ?_ GE572.out)|exact HB.out)) hb);clear HO_540001;clear HO_548001;clear HO571;clear BK539;clear BK547;clear BK572;clear HB;have HO_540001:=n0_;have HO_548001:=n1_;have HO571:=n2_;have HO576:=n3_;have BK539:=n4_;have BK547:=n5_;have BK572:=n6_;have HB:=n7_;clear n0_ n1_ n2_ n3_ n4_ n5_ n6_ n7_;(try clear hb);(try clear hb2);(try clear hk);(try clear hi);(try clear ho0))|((with_reducible refine gate_dst (N:=11) rfl ?_);(try (refine gate_guard (by rfl) ?_;dsimp only));refine box_event ?hg (N:=11) ?hd (cs:=#[.int .i64 0,.slice none 0 0]) (t:=27) ?hr ?_;(case hd=>rfl);(case hg=>rfl);(case hr=>first|(go_simp;done)|(go_simp;rfl));intro gb577 hg w127 hbox hb;have n0_:=zz5 (dz5 (by (with_reducible repeat (first|apply az5|apply bz5|apply cz5));exact HO_540001.out) hb);have n1_:=zz5 (dz5 (by (with_reducible repeat (first|apply az5|apply bz5|apply cz5));exact HO_548001.out) hb);have n2_:=zz5 (dz5 (by (with_reducible repeat (first|apply az5|apply bz5|apply cz5));exact HO571.out) hb);have n3_:=zz5 (dz5 (by (with_reducible repeat (first|apply az5|apply bz5|apply cz5));exact HO576.out) hb);have n4_:=zz5 (hy5 (g:=gb539) (o:=.cells #[.int .i64 t535,.slice Ao13 t536.length co13] 27 (0,0)) (by (with_reducible repeat (first|refine ey5 ?_ _|refine gy5 ?_|refine fy5 ?_ _));exact BK539.out) hb);have n5_:=zz5 (hy5 (g:=gb547) (o:=.cells #[.int .i64 t543,.slice Ao19 t544.length co19] 27 (0,0)) (by (with_reducible repeat (first|refine ey5 ?_ _|refine gy5 ?_|refine fy5 ?_ _));exact BK547.out) hb);have n6_:=zz5 (hy5 (g:=gb572) (o:=.cells #[.int .i64 t568,.slice Ao125 t569.length co125] 27 (0,0)) (by (with_reducible repeat (first|refine ey5 ?_ _|refine gy5 ?_|refine fy5 ?_ _));exact BK572.out) hb);have n7_:=zz5 (below_step (by repeat(first|(with_reducible first|exact HB.out|apply by5|apply ay5|apply cy5|refine dy5 ?_ GE539.out|refine dy5 ?_ GE547.out|refine dy5 ?_ GE572.out)|exact HB.out)) hb);have n8_:=zz5 (hbox);have n9_:=zz5 ((by rw [hg];exact (below_size (by repeat(first|(with_reducible first|exact HB.out|apply by5|apply ay5|apply cy5|refine dy5 ?_ GE539.out|refine dy5 ?_ GE547.out|refine dy5 ?_ GE572.out)|exact HB.out))) : w.heap.size ≤ gb577));have n10_:=zz5 ((by rw [hg];exact (below_size (by repeat(first|(with_reducible first|exact HB.out|apply by5|apply ay5|apply cy5|refine dy5 ?_ GE539.out|refine dy5 ?_ GE547.out|refine dy5 ?_ GE572.out)|exact HB.out))) : w.heap.size ≤ gb577));have n11_:=zz5 ((by rw [hg];exact Nat.ne_of_lt (blk_lt (g:=gb539) (o:=.cells #[.int .i64 t535,.slice Ao13 t536.length co13] 27 (0,0)) (by (with_reducible repeat (first|refine ey5 ?_ _|refine gy5 ?_|refine fy5 ?_ _));exact BK539.out)) : gb539 ≠ gb577));have n12_:=zz5 ((by rw [hg];exact Nat.ne_of_gt (blk_lt (g:=gb539) (o:=.cells #[.int .i64 t535,.slice Ao13 t536.length co13] 27 (0,0)) (by (with_reducible repeat (first|refine ey5 ?_ _|refine gy5 ?_|refine fy5 ?_ _));exact BK539.out)) : gb577 ≠ gb539));have n13_:=zz5 ((by rw [hg];exact Nat.ne_of_lt (blk_lt (g:=gb547) (o:=.cells #[.int .i64 t543,.slice Ao19 t544.length co19] 27 (0,0)) (by (with_reducible repeat (first|refine ey5 ?_ _|refine gy5 ?_|refine fy5 ?_ _));exact BK547.out)) : gb547 ≠ gb577));have n14_:=zz5 ((by rw [hg];exact Nat.ne_of_gt (blk_lt (g:=gb547) (o:=.cells #[.int .i64 t543,.slice Ao19 t544.length co19] 27 (0,0)) (by (with_reducible repeat (first|refine ey5 ?_ _|refine gy5 ?_|refine fy5 ?_ _));exact BK547.out)) : gb577 ≠ gb547));have n15_:=zz5 ((by rw [hg];exact Nat.ne_of_lt (blk_lt (g:=gb572) (o:=.cells #[.int .i64 t568,.slice Ao125 t569.length co125] 27 (0,0)) (by (with_reducible repeat (first|refine ey5 ?_ _|refine gy5 ?_|refine fy5 ?_ _));exact BK572.out)) : gb572 ≠ gb577));have n16_:=zz5 ((by rw [hg];exact Nat.ne_of_gt (blk_lt (g:=gb572) (o:=.cells #[.int .i64 t568,.slice Ao125 t569.length co125] 27 (0,0)) (by (with_reducible repeat (first|refine ey5 ?_ _|refine gy5 ?_|refine fy5 ?_ _));exact BK572.out)) : gb577 ≠ gb572));clear HO_540001;clear HO_548001;clear HO571;clear HO576;clear BK539;clear BK547;clear BK572;clear HB;have HO_540001:=n0_;have HO_548001:=n1_;have HO571:=n2_;have HO576:=n3_;have BK539:=n4_;have BK547:=n5_;have BK572:=n6_;have HB:=n7_;have BK577:=n8_;have GW577:=n9_;have GE577:=n10_;have NB539_577:=n11_;have NB577_539:=n12_;have NB547_577:=n13_;have NB577_547:=n14_;have NB572_577:=n15_;have NB577_572:=n16_;clear n0_ n1_ n2_ n3_ n4_ n5_ n6_ n7_ n8_ n9_ n10_ n11_ n12_ n13_ n14_ n15_ n16_;clear hb hbox hg;have hnb128:=NB577_539.out;have hnc128:=NB539_577.out;have hnb129:=NB577_547.out;have hnc129:=NB547_577.out;have hnb130:=NB577_572.out;have hnc130:=NB572_577.out;have hcz131_0 : w127.cell? ⟨gb577,0,none⟩ = some (.int .i64 0):=(blk_cell BK577.out 0).trans rfl;have hcz131_1 : w127.cell? ⟨gb577,1,none⟩ = some (.slice none 0 0):=(blk_cell BK577.out 1).trans rfl;have hfz131_0:=blk_frozen BK577.out 0;have hfz131_1:=blk_frozen BK577.out 1;obtain⟨Ao132,co132,eo132⟩:=Kd.R_slice HO576.out;subst eo132))
             have n0_ : Aside0 (Kd.R (Kd.int .u8) 5 ((w127.setCell ⟨gb577,0,none⟩ (.int .i64 t573)).setCell ⟨gb577,1,none⟩ (.slice Ao132 t574.length co132)) w.heap.size (fun k_=>some k_ ≠ (.slice Ao19 t544.length co19 : Value).ownBlock ∧ some k_ ≠ (.slice Ao125 t569.length co125 : Value).ownBlock ∧ some k_ ≠ (.slice Ao132 t574.length co132 : Value).ownBlock) (.slice Ao13 t536.length co13) t536):=⟨by (with_reducible repeat (first|apply az5|apply bz5|apply cz5));exact gz5 (ez5 (p:=⟨gb577,1,none⟩) (ez5 (p:=⟨gb577,0,none⟩) (hz5 HO_540001.out BK577.out (by decide)) (fun _ hk=>hk.2) (.int .i64 t573)) (fun _ hk=>hk.2) (.slice Ao132 t574.length co132)) (fun _ hk=>⟨hk.1.1.1,⟨hk.1.1.2,hk.1.2⟩⟩)⟩
             have n1_ : Aside0 (Kd.R (Kd.int .u8) 5 ((w127.setCell ⟨gb577,0,none⟩ (.int .i64 t573)).setCell ⟨gb577,1,none⟩ (.slice Ao132 t574.length co132)) w.heap.size (fun k_=>some k_ ≠ (.slice Ao13 t536.length co13 : Value).ownBlock ∧ some k_ ≠ (.slice Ao125 t569.length co125 : Value).ownBlock ∧ some k_ ≠ (.slice Ao132 t574.length co132 : Value).ownBlock) (.slice Ao19 t544.length co19) t544):=⟨by (with_reducible repeat (first|apply az5|apply bz5|apply cz5));exact gz5 (ez5 (p:=⟨gb577,1,none⟩) (ez5 (p:=⟨gb577,0,none⟩) (hz5 HO_548001.out BK577.out (by decide)) (fun _ hk=>hk.2) (.int .i64 t573)) (fun _ hk=>hk.2) (.slice Ao132 t574.length co132)) (fun _ hk=>⟨hk.1.1.1,⟨hk.1.1.2,hk.1.2⟩⟩)⟩
             have n2_ : Aside0 (Kd.R (Kd.int .u8) 5 ((w127.setCell ⟨gb577,0,none⟩ (.int .i64 t573)).setCell ⟨gb577,1,none⟩ (.slice Ao132 t574.length co132)) w.heap.size (fun k_=>some k_ ≠ (.slice Ao13 t536.length co13 : Value).ownBlock ∧ some k_ ≠ (.slice Ao19 t544.length co19 : Value).ownBlock ∧ some k_ ≠ (.slice Ao132 t574.length co132 : Value).ownBlock) (.slice Ao125 t569.length co125) t569):=⟨by (with_reducible repeat (first|apply az5|apply bz5|apply cz5));exact gz5 (ez5 (p:=⟨gb577,1,none⟩) (ez5 (p:=⟨gb577,0,none⟩) (hz5 HO571.out BK577.out (by decide)) (fun _ hk=>hk.2) (.int .i64 t573)) (fun _ hk=>hk.2) (.slice Ao132 t574.length co132)) (fun _ hk=>⟨hk.1.1.1.2,⟨hk.1.1.2,hk.1.2⟩⟩)⟩
             have n3_ : Aside0 (Kd.R (Kd.int .u8) 5 ((w127.setCell ⟨gb577,0,none⟩ (.int .i64 t573)).setCell ⟨gb577,1,none⟩ (.slice Ao132 t574.length co132)) w.heap.size (fun k_=>some k_ ≠ (.slice Ao13 t536.length co13 : Value).ownBlock ∧ some k_ ≠ (.slice Ao19 t544.length co19 : Value).ownBlock ∧ some k_ ≠ (.slice Ao125 t569.length co125 : Value).ownBlock) (.slice Ao132 t574.length co132) t574):=⟨by (with_reducible repeat (first|apply az5|apply bz5|apply cz5));exact gz5 (ez5 (p:=⟨gb577,1,none⟩) (ez5 (p:=⟨gb577,0,none⟩) (hz5 HO576.out BK577.out (by decide)) (fun _ hk=>hk.2) (.int .i64 t573)) (fun _ hk=>hk.2) (.slice Ao132 t574.length co132)) (fun _ hk=>⟨hk.1.1.1.2,⟨hk.1.1.2,hk.1.2⟩⟩)⟩
             have n4_ : Aside0 (((w127.setCell ⟨gb577,0,none⟩ (.int .i64 t573)).setCell ⟨gb577,1,none⟩ (.slice Ao132 t574.length co132)).heap[gb539]? = some (.cells #[.int .i64 t535,.slice Ao13 t536.length co13] 27 (0,0))):=⟨by (with_reducible repeat (first|refine ey5 ?_ _|refine gy5 ?_|refine fy5 ?_ _));refine blk_far ?_ NB539_577.out _;(with_reducible repeat (first|refine ey5 ?_ _|refine gy5 ?_|refine fy5 ?_ _));refine blk_far ?_ NB539_577.out _;(with_reducible repeat (first|refine ey5 ?_ _|refine gy5 ?_|refine fy5 ?_ _));exact BK539.out⟩
             have n5_ : Aside0 (((w127.setCell ⟨gb577,0,none⟩ (.int .i64 t573)).setCell ⟨gb577,1,none⟩ (.slice Ao132 t574.length co132)).heap[gb547]? = some (.cells #[.int .i64 t543,.slice Ao19 t544.length co19] 27 (0,0))):=⟨by (with_reducible repeat (first|refine ey5 ?_ _|refine gy5 ?_|refine fy5 ?_ _));refine blk_far ?_ NB547_577.out _;(with_reducible repeat (first|refine ey5 ?_ _|refine gy5 ?_|refine fy5 ?_ _));refine blk_far ?_ NB547_577.out _;(with_reducible repeat (first|refine ey5 ?_ _|refine gy5 ?_|refine fy5 ?_ _));exact BK547.out⟩
             have n6_ : Aside0 (((w127.setCell ⟨gb577,0,none⟩ (.int .i64 t573)).setCell ⟨gb577,1,none⟩ (.slice Ao132 t574.length co132)).heap[gb572]? = some (.cells #[.int .i64 t568,.slice Ao125 t569.length co125] 27 (0,0))):=⟨by (with_reducible repeat (first|refine ey5 ?_ _|refine gy5 ?_|refine fy5 ?_ _));refine blk_far ?_ NB572_577.out _;(with_reducible repeat (first|refine ey5 ?_ _|refine gy5 ?_|refine fy5 ?_ _));refine blk_far ?_ NB572_577.out _;(with_reducible repeat (first|refine ey5 ?_ _|refine gy5 ?_|refine fy5 ?_ _));exact BK572.out⟩
             have n7_ : Aside0 (((w127.setCell ⟨gb577,0,none⟩ (.int .i64 t573)).setCell ⟨gb577,1,none⟩ (.slice Ao132 t574.length co132)).heap[gb577]? = some (.cells #[.int .i64 t573,.slice Ao132 t574.length co132] 27 (0,0))):=⟨by (with_reducible repeat (first|refine ey5 ?_ _|refine gy5 ?_|refine fy5 ?_ _));refine blk_put (cs:=#[.int .i64 t573,.slice none 0 0]) ?_ 1 _ rfl;(with_reducible repeat (first|refine ey5 ?_ _|refine gy5 ?_|refine fy5 ?_ _));refine blk_put (cs:=#[.int .i64 0,.slice none 0 0]) ?_ 0 _ rfl;(with_reducible repeat (first|refine ey5 ?_ _|refine gy5 ?_|refine fy5 ?_ _));exact BK577.out⟩
             have n8_ : Aside0 (Below w.heap.size w ((w127.setCell ⟨gb577,0,none⟩ (.int .i64 t573)).setCell ⟨gb577,1,none⟩ (.slice Ao132 t574.length co132))):=⟨by repeat (first|(with_reducible first|exact HB.out|apply by5|apply ay5|apply cy5|refine dy5 ?_ GE539.out|refine dy5 ?_ GE547.out|refine dy5 ?_ GE572.out|refine dy5 ?_ GE577.out)|exact HB.out)⟩
             (try clear HO_540001);(try clear HO_548001);(try clear HO571)
             (try clear HO576);(try clear BK539);(try clear BK547)
             (try clear BK572);(try clear BK577);(try clear HB)
             generalize ((w127.setCell ⟨gb577,0,none⟩ (.int .i64 t573)).setCell ⟨gb577,1,none⟩ (.slice Ao132 t574.length co132)) = w133 at n0_ n1_ n2_ n3_ n4_ n5_ n6_ n7_ n8_ ⊢
             have HO_540001:=n0_
             have HO_548001:=n1_
             have HO571:=n2_
             have HO576:=n3_
             have BK539:=n4_
             have BK547:=n5_
             have BK572:=n6_
             have BK577:=n7_
             have HB:=n8_
             clear n0_ n1_ n2_ n3_ n4_ n5_ n6_ n7_ n8_
             have n0_:=zz5 (cz5 HO_540001.out)
             have n1_:=zz5 (cz5 HO_548001.out)
             have n2_:=zz5 (cz5 HO571.out)
             have n3_:=zz5 (cz5 HO576.out)
             have n4_:=zz5 (gy5 BK539.out)
             have n5_:=zz5 (gy5 BK547.out)
             have n6_:=zz5 (gy5 BK572.out)
             have n7_:=zz5 (gy5 BK577.out)
             have n8_:=zz5 (cy5 HB.out)
             clear HO_540001
             clear HO_548001
             clear HO571
             clear HO576
             clear BK539
             clear BK547
             clear BK572
             clear BK577
             clear HB
             have HO_540001:=n0_
             have HO_548001:=n1_
             have HO571:=n2_
             have HO576:=n3_
             have BK539:=n4_
             have BK547:=n5_
             have BK572:=n6_
             have BK577:=n7_
             have HB:=n8_
             clear n0_ n1_ n2_ n3_ n4_ n5_ n6_ n7_ n8_
             refine start_ (n:=37) (S:=fun w'=>w'.cell? ⟨gb539,0,none⟩ = some (.int .i64 t535) ∧ w'.cell? ⟨gb539,1,none⟩ = some (.slice Ao13 t536.length co13) ∧ w'.cell? ⟨gb572,0,none⟩ = some (.int .i64 t568) ∧ w'.cell? ⟨gb572,1,none⟩ = some (.slice Ao125 t569.length co125) ∧ w'.cell? ⟨gb577,0,none⟩ = some (.int .i64 t573) ∧ w'.cell? ⟨gb577,1,none⟩ = some (.slice Ao132 t574.length co132)) (ds:=[]) #[Z,Z,Z,Z,Z,Z,Z,Z,Z,Z,Z,Z,Z,Z,Z,Z,Z,Z,Z,Z,Z,Z,Z,Z,Z,Z,Z,Z,Z,Z,Z,Z,Z,Z,Z,Z,Z] (by kernel_rfl) rfl rfl ⟨(blk_cell BK539.out 0).trans rfl,(blk_cell BK539.out 1).trans rfl,(blk_cell BK572.out 0).trans rfl,(blk_cell BK572.out 1).trans rfl,(blk_cell BK577.out 0).trans rfl,(blk_cell BK577.out 1).trans rfl⟩ (fun hHeld=>?_);refine with_tabW laws_FnNonces.tab15 laws_FnNonces.bits15 (fun HT_ HW_=>?_)
             generalize w133.drew = w134 at HO_540001 HO_548001 HO571 HO576 BK539 BK547 BK572 BK577 HB hHeld ⊢
             refine pure_ (i:=0) (N:=some 89) (v:=?_) (a':=?_) #[Y,Z,Z,Z,Z,Z,Z,Z,Z,Z,Z,Z,Z,Z,Z,Z,Z,Z,Z,Z,Z,Z,Z,Z,Z,Z,Z,Z,Z,Z,Z,Z,Z,Z,Z,Z,Z] rfl rfl (any_of HT_.out (by kernel_rfl)) (fun _ _ _ h=>h) (Or.inl ⟨by rfl,?_⟩) ?_ ?_
             rotate_left
             ·intro w';go_simp;with_reducible rfl
             rotate_left
             ·simp only [Act.put,sa_,sb_,sc_,i64_w];rfl
             refine take_ (i:=1) (N:=some 90) (v:=?_) (a':=?_) #[Y,Y,Z,Z,Z,Z,Z,Z,Z,Z,Z,Z,Z,Z,Z,Z,Z,Z,Z,Z,Z,Z,Z,Z,Z,Z,Z,Z,Z,Z,Z,Z,Z,Z,Z,Z,Z] rfl rfl (take_ofW HT_.out HW_.out (by kernel_rfl)) (fun _ _ _ h=>h) (Or.inl ⟨by rfl,?_⟩) hHeld ?_ ?_
             rotate_left
             ·rintro w' ⟨s0,s1,s2,s3,s4,s5⟩
              go_simp
              with_reducible rfl
             rotate_left
             ·simp only [Act.put,sa_,sb_,sc_,i64_w];rfl
             refine pure_ (i:=2) (N:=some 91) (v:=?_) (a':=?_) #[Y,Y,Y,Z,Z,Z,Z,Z,Z,Z,Z,Z,Z,Z,Z,Z,Z,Z,Z,Z,Z,Z,Z,Z,Z,Z,Z,Z,Z,Z,Z,Z,Z,Z,Z,Z,Z] rfl rfl (any_of HT_.out (by kernel_rfl)) (fun _ _ _ h=>h) (Or.inl ⟨by rfl,?_⟩) ?_ ?_
             rotate_left
             ·intro w';go_simp;with_reducible rfl
             rotate_left
             ·simp only [Act.put,sa_,sb_,sc_,i64_w];rfl
             refine pure_ (i:=3) (N:=some 92) (v:=?_) (a':=?_) #[Y,Y,Y,Y,Z,Z,Z,Z,Z,Z,Z,Z,Z,Z,Z,Z,Z,Z,Z,Z,Z,Z,Z,Z,Z,Z,Z,Z,Z,Z,Z,Z,Z,Z,Z,Z,Z] rfl rfl (any_of HT_.out (by kernel_rfl)) (fun _ _ _ h=>h) (Or.inl ⟨by rfl,?_⟩) ?_ ?_
             rotate_left
             ·intro w';go_simp;with_reducible rfl
             rotate_left
             ·simp only [Act.put,sa_,sb_,sc_,i64_w];rfl
             refine pure_ (i:=4) (N:=some 93) (v:=?_) (a':=?_) #[Y,Y,Y,Y,Y,Z,Z,Z,Z,Z,Z,Z,Z,Z,Z,Z,Z,Z,Z,Z,Z,Z,Z,Z,Z,Z,Z,Z,Z,Z,Z,Z,Z,Z,Z,Z,Z] rfl rfl (any_of HT_.out (by kernel_rfl)) (fun _ _ _ h=>h) (Or.inl ⟨by rfl,?_⟩) ?_ ?_
             rotate_left
             ·intro w';go_simp;with_reducible rfl
             rotate_left
             ·simp only [Act.put,sa_,sb_,sc_,i64_w];rfl
             refine pure_ (i:=5) (N:=some 94) (v:=?_) (a':=?_) #[Y,Y,Y,Y,Y,Y,Z,Z,Z,Z,Z,Z,Z,Z,Z,Z,Z,Z,Z,Z,Z,Z,Z,Z,Z,Z,Z,Z,Z,Z,Z,Z,Z,Z,Z,Z,Z] rfl rfl (any_of HT_.out (by kernel_rfl)) (fun _ _ _ h=>h) (Or.inl ⟨by rfl,?_⟩) ?_ ?_
             rotate_left
             ·intro w';go_simp;with_reducible rfl
             rotate_left
             ·simp only [Act.put,sa_,sb_,sc_,i64_w];rfl
             refine pure_ (i:=7) (N:=some 96) (v:=?_) (a':=?_) #[Y,Y,Y,Y,Y,Y,Z,Y,Z,Z,Z,Z,Z,Z,Z,Z,Z,Z,Z,Z,Z,Z,Z,Z,Z,Z,Z,Z,Z,Z,Z,Z,Z,Z,Z,Z,Z] rfl rfl (any_of HT_.out (by kernel_rfl)) (fun _ _ _ h=>h) (Or.inl ⟨by rfl,?_⟩) ?_ ?_
             rotate_left
             ·intro w';go_simp;with_reducible rfl
             rotate_left
             ·simp only [Act.put,sa_,sb_,sc_,i64_w];rfl
             refine take_ (i:=6) (N:=some 95) (v:=?_) (a':=?_) #[Y,Y,Y,Y,Y,Y,Y,Y,Z,Z,Z,Z,Z,Z,Z,Z,Z,Z,Z,Z,Z,Z,Z,Z,Z,Z,Z,Z,Z,Z,Z,Z,Z,Z,Z,Z,Z] rfl rfl (take_ofW HT_.out HW_.out (by kernel_rfl)) (fun _ _ _ h=>h) (Or.inl ⟨by rfl,?_⟩) hHeld ?_ ?_
             rotate_left
             ·rintro w' ⟨s0,s1,s2,s3,s4,s5⟩
              go_simp
              with_reducible rfl
             rotate_left
             ·simp only [Act.put,sa_,sb_,sc_,i64_w];rfl
             refine take_ (i:=8) (N:=some 97) (v:=?_) (a':=?_) #[Y,Y,Y,Y,Y,Y,Y,Y,Y,Z,Z,Z,Z,Z,Z,Z,Z,Z,Z,Z,Z,Z,Z,Z,Z,Z,Z,Z,Z,Z,Z,Z,Z,Z,Z,Z,Z] rfl rfl (take_ofW HT_.out HW_.out (by kernel_rfl)) (fun _ _ _ h=>h) (Or.inl ⟨by rfl,?_⟩) hHeld ?_ ?_
             rotate_left
             ·rintro w' ⟨s0,s1,s2,s3,s4,s5⟩
              go_simp
              with_reducible rfl
             rotate_left
             ·simp only [Act.put,sa_,sb_,sc_,i64_w];rfl
             refine one_ (i:=9) (N:=some 98) #[Y,Y,Y,Y,Y,Y,Y,Y,Y,Y,Z,Z,Z,Z,Z,Z,Z,Z,Z,Z,Z,Z,Z,Z,Z,Z,Z,Z,Z,Z,Z,Z,Z,Z,Z,Z,Z] rfl rfl (one_of HT_.out (by kernel_rfl)) (by decide) (fun K hK=>?_)
             refine goes_ Try.func19 (by kernel_rfl) rfl #[.slice Ao125 t569.length co125,.slice Ao13 t536.length co13] (by rfl) rfl rfl (by (try simp only [List.map_toArray,List.map_cons,List.map_nil]);first|done|rfl|(simp only [List.length_drop,List.length_take];rfl)) ?_
             with_reducible refine (laws_lwSame.calls _ _ t569 _ _ t536 false _ ?side1 ?side2 ?side3 ?side4 A56.out).mono ?_
             (case side1=>repeat (first|exact (iz5 HO571.out).2.2|(with_reducible refine Kd.C_alloc ?_ _)|(with_reducible refine Kd.C_drewN ?_ _)|(with_reducible refine Kd.C_drew ?_)))
             (case side2=>exact (iz5 HO571.out).2.1)
             (case side3=>repeat (first|exact (iz5 HO_540001.out).2.2|(with_reducible refine Kd.C_alloc ?_ _)|(with_reducible refine Kd.C_drewN ?_ _)|(with_reducible refine Kd.C_drew ?_)))
             (case side4=>exact (iz5 HO_540001.out).2.1)
             rintro e w' ⟨rfl,⟨nd,rfl⟩⟩
             refine ⟨_,rfl,?_⟩
             refine hK.out _ _ ⟨(blk_cell BK539.out 0).trans rfl,(blk_cell BK539.out 1).trans rfl,(blk_cell BK572.out 0).trans rfl,(blk_cell BK572.out 1).trans rfl,(blk_cell BK577.out 0).trans rfl,(blk_cell BK577.out 1).trans rfl⟩ (fun hHeld=>?_)
             clear hK K
             refine norm_ (a':=?_) ?_ ?_
             rotate_left
             ·show Act.put _ (some 98) _ = _
              simp only [Act.put,sa_,sb_,sc_,i64_w]
              rfl
             refine pure_ (i:=10) (N:=some 99) (v:=?_) (a':=?_) #[Y,Y,Y,Y,Y,Y,Y,Y,Y,Y,Y,Z,Z,Z,Z,Z,Z,Z,Z,Z,Z,Z,Z,Z,Z,Z,Z,Z,Z,Z,Z,Z,Z,Z,Z,Z,Z] rfl rfl (any_of HT_.out (by kernel_rfl)) (fun _ _ _ h=>h) (Or.inl ⟨by rfl,?_⟩) ?_ ?_
             rotate_left
             ·intro w';go_simp;with_reducible rfl
             rotate_left
             ·simp only [Act.put,sa_,sb_,sc_,i64_w];rfl
             refine pure_ (i:=11) (N:=some 100) (v:=?_) (a':=?_) #[Y,Y,Y,Y,Y,Y,Y,Y,Y,Y,Y,Y,Z,Z,Z,Z,Z,Z,Z,Z,Z,Z,Z,Z,Z,Z,Z,Z,Z,Z,Z,Z,Z,Z,Z,Z,Z] rfl rfl (any_of HT_.out (by kernel_rfl)) (fun _ _ _ h=>h) (Or.inl ⟨by rfl,?_⟩) ?_ ?_
             rotate_left
             ·intro w';go_simp;with_reducible rfl
             rotate_left
             ·simp only [Act.put,sa_,sb_,sc_,i64_w];rfl
             refine pure_ (i:=12) (N:=some 101) (v:=?_) (a':=?_) #[Y,Y,Y,Y,Y,Y,Y,Y,Y,Y,Y,Y,Y,Z,Z,Z,Z,Z,Z,Z,Z,Z,Z,Z,Z,Z,Z,Z,Z,Z,Z,Z,Z,Z,Z,Z,Z] rfl rfl (any_of HT_.out (by kernel_rfl)) (fun _ _ _ h=>h) (Or.inl ⟨by rfl,?_⟩) ?_ ?_
             rotate_left
             ·intro w';go_simp;with_reducible rfl
             rotate_left
             ·simp only [Act.put,sa_,sb_,sc_,i64_w];rfl
             refine pure_ (i:=13) (N:=some 102) (v:=?_) (a':=?_) #[Y,Y,Y,Y,Y,Y,Y,Y,Y,Y,Y,Y,Y,Y,Z,Z,Z,Z,Z,Z,Z,Z,Z,Z,Z,Z,Z,Z,Z,Z,Z,Z,Z,Z,Z,Z,Z] rfl rfl (any_of HT_.out (by kernel_rfl)) (fun _ _ _ h=>h) (Or.inl ⟨by rfl,?_⟩) ?_ ?_
             rotate_left
             ·intro w';go_simp;with_reducible rfl
             rotate_left
             ·simp only [Act.put,sa_,sb_,sc_,i64_w];rfl
             refine pure_ (i:=14) (N:=some 103) (v:=?_) (a':=?_) #[Y,Y,Y,Y,Y,Y,Y,Y,Y,Y,Y,Y,Y,Y,Y,Z,Z,Z,Z,Z,Z,Z,Z,Z,Z,Z,Z,Z,Z,Z,Z,Z,Z,Z,Z,Z,Z] rfl rfl (any_of HT_.out (by kernel_rfl)) (fun _ _ _ h=>h) (Or.inl ⟨by rfl,?_⟩) ?_ ?_
             rotate_left
             ·intro w';go_simp;with_reducible rfl
             rotate_left
             ·simp only [Act.put,sa_,sb_,sc_,i64_w];rfl
             refine pure_ (i:=15) (N:=some 104) (v:=?_) (a':=?_) #[Y,Y,Y,Y,Y,Y,Y,Y,Y,Y,Y,Y,Y,Y,Y,Y,Z,Z,Z,Z,Z,Z,Z,Z,Z,Z,Z,Z,Z,Z,Z,Z,Z,Z,Z,Z,Z] rfl rfl (any_of HT_.out (by kernel_rfl)) (fun _ _ _ h=>h) (Or.inl ⟨by rfl,?_⟩) ?_ ?_
             rotate_left
             ·intro w';go_simp;with_reducible rfl
             rotate_left
             ·simp only [Act.put,sa_,sb_,sc_,i64_w];rfl
             refine pure_ (i:=16) (N:=some 105) (v:=?_) (a':=?_) #[Y,Y,Y,Y,Y,Y,Y,Y,Y,Y,Y,Y,Y,Y,Y,Y,Y,Z,Z,Z,Z,Z,Z,Z,Z,Z,Z,Z,Z,Z,Z,Z,Z,Z,Z,Z,Z] rfl rfl (any_of HT_.out (by kernel_rfl)) (fun _ _ _ h=>h) (Or.inl ⟨by rfl,?_⟩) ?_ ?_
             rotate_left
             ·intro w';go_simp;with_reducible rfl
             rotate_left
             ·simp only [Act.put,sa_,sb_,sc_,i64_w];rfl
             refine pure_ (i:=17) (N:=some 106) (v:=?_) (a':=?_) #[Y,Y,Y,Y,Y,Y,Y,Y,Y,Y,Y,Y,Y,Y,Y,Y,Y,Y,Z,Z,Z,Z,Z,Z,Z,Z,Z,Z,Z,Z,Z,Z,Z,Z,Z,Z,Z] rfl rfl (any_of HT_.out (by kernel_rfl)) (fun _ _ _ h=>h) (Or.inl ⟨by rfl,?_⟩) ?_ ?_
             rotate_left
             ·intro w';go_simp;with_reducible rfl
             rotate_left
             ·simp only [Act.put,sa_,sb_,sc_,i64_w];rfl
             refine pure_ (i:=18) (N:=some 107) (v:=?_) (a':=?_) #[Y,Y,Y,Y,Y,Y,Y,Y,Y,Y,Y,Y,Y,Y,Y,Y,Y,Y,Y,Z,Z,Z,Z,Z,Z,Z,Z,Z,Z,Z,Z,Z,Z,Z,Z,Z,Z] rfl rfl (any_of HT_.out (by kernel_rfl)) (fun _ _ _ h=>h) (Or.inl ⟨by rfl,?_⟩) ?_ ?_
             rotate_left
             ·intro w';go_simp;with_reducible rfl
             rotate_left
             ·simp only [Act.put,sa_,sb_,sc_,i64_w];rfl
             refine pure_ (i:=19) (N:=some 108) (v:=?_) (a':=?_) #[Y,Y,Y,Y,Y,Y,Y,Y,Y,Y,Y,Y,Y,Y,Y,Y,Y,Y,Y,Y,Z,Z,Z,Z,Z,Z,Z,Z,Z,Z,Z,Z,Z,Z,Z,Z,Z] rfl rfl (any_of HT_.out (by kernel_rfl)) (fun _ _ _ h=>h) (Or.inl ⟨by rfl,?_⟩) ?_ ?_
             rotate_left
             ·intro w';go_simp;with_reducible rfl
             rotate_left
             ·simp only [Act.put,sa_,sb_,sc_,i64_w];rfl
             refine pure_ (i:=21) (N:=some 110) (v:=?_) (a':=?_) #[Y,Y,Y,Y,Y,Y,Y,Y,Y,Y,Y,Y,Y,Y,Y,Y,Y,Y,Y,Y,Z,Y,Z,Z,Z,Z,Z,Z,Z,Z,Z,Z,Z,Z,Z,Z,Z] rfl rfl (any_of HT_.out (by kernel_rfl)) (fun _ _ _ h=>h) (Or.inl ⟨by rfl,?_⟩) ?_ ?_
             rotate_left
             ·intro w';go_simp;with_reducible rfl
             rotate_left
             ·simp only [Act.put,sa_,sb_,sc_,i64_w];rfl
             refine take_ (i:=20) (N:=some 109) (v:=?_) (a':=?_) #[Y,Y,Y,Y,Y,Y,Y,Y,Y,Y,Y,Y,Y,Y,Y,Y,Y,Y,Y,Y,Y,Y,Z,Z,Z,Z,Z,Z,Z,Z,Z,Z,Z,Z,Z,Z,Z] rfl rfl (take_ofW HT_.out HW_.out (by kernel_rfl)) (fun _ _ _ h=>h) (Or.inl ⟨by rfl,?_⟩) hHeld ?_ ?_
             rotate_left
             ·rintro w' ⟨s0,s1,s2,s3,s4,s5⟩
              go_simp
              with_reducible rfl
             rotate_left
             ·simp only [Act.put,sa_,sb_,sc_,i64_w];rfl
             refine take_ (i:=22) (N:=some 111) (v:=?_) (a':=?_) #[Y,Y,Y,Y,Y,Y,Y,Y,Y,Y,Y,Y,Y,Y,Y,Y,Y,Y,Y,Y,Y,Y,Y,Z,Z,Z,Z,Z,Z,Z,Z,Z,Z,Z,Z,Z,Z] rfl rfl (take_ofW HT_.out HW_.out (by kernel_rfl)) (fun _ _ _ h=>h) (Or.inl ⟨by rfl,?_⟩) hHeld ?_ ?_
             rotate_left
             ·rintro w' ⟨s0,s1,s2,s3,s4,s5⟩
              go_simp
              with_reducible rfl
             rotate_left
             ·simp only [Act.put,sa_,sb_,sc_,i64_w];rfl
             refine one_ (i:=23) (N:=some 112) #[Y,Y,Y,Y,Y,Y,Y,Y,Y,Y,Y,Y,Y,Y,Y,Y,Y,Y,Y,Y,Y,Y,Y,Y,Z,Z,Z,Z,Z,Z,Z,Z,Z,Z,Z,Z,Z] rfl rfl (one_of HT_.out (by kernel_rfl)) (by decide) (fun K hK=>?_)
             refine goes_ Try.func19 (by kernel_rfl) rfl #[.slice Ao132 t574.length co132,.slice Ao13 t536.length co13] (by rfl) rfl rfl (by (try simp only [List.map_toArray,List.map_cons,List.map_nil]);first|done|rfl|(simp only [List.length_drop,List.length_take];rfl)) ?_
             with_reducible refine (laws_lwSame.calls _ _ t574 _ _ t536 false _ ?side1 ?side2 ?side3 ?side4 A97.out).mono ?_
             (case side1=>repeat (first|exact (iz5 HO576.out).2.2|(with_reducible refine Kd.C_alloc ?_ _)|(with_reducible refine Kd.C_drewN ?_ _)|(with_reducible refine Kd.C_drew ?_)))
             (case side2=>exact (iz5 HO576.out).2.1)
             (case side3=>repeat (first|exact (iz5 HO_540001.out).2.2|(with_reducible refine Kd.C_alloc ?_ _)|(with_reducible refine Kd.C_drewN ?_ _)|(with_reducible refine Kd.C_drew ?_)))
             (case side4=>exact (iz5 HO_540001.out).2.1)
             rintro e w' ⟨rfl,⟨nd,rfl⟩⟩
             refine ⟨_,rfl,?_⟩
             refine hK.out _ _ ⟨(blk_cell BK539.out 0).trans rfl,(blk_cell BK539.out 1).trans rfl,(blk_cell BK572.out 0).trans rfl,(blk_cell BK572.out 1).trans rfl,(blk_cell BK577.out 0).trans rfl,(blk_cell BK577.out 1).trans rfl⟩ (fun hHeld=>?_)
             clear hK K
             refine norm_ (a':=?_) ?_ ?_
             rotate_left
             ·show Act.put _ (some 112) _ = _
              simp only [Act.put,sa_,sb_,sc_,i64_w]
              rfl
             refine pure_ (i:=24) (N:=some 113) (v:=?_) (a':=?_) #[Y,Y,Y,Y,Y,Y,Y,Y,Y,Y,Y,Y,Y,Y,Y,Y,Y,Y,Y,Y,Y,Y,Y,Y,Y,Z,Z,Z,Z,Z,Z,Z,Z,Z,Z,Z,Z] rfl rfl (any_of HT_.out (by kernel_rfl)) (fun _ _ _ h=>h) (Or.inl ⟨by rfl,?_⟩) ?_ ?_
             rotate_left
             ·intro w';go_simp;with_reducible rfl
             rotate_left
             ·simp only [Act.put,sa_,sb_,sc_,i64_w];rfl
             refine pure_ (i:=25) (N:=some 114) (v:=?_) (a':=?_) #[Y,Y,Y,Y,Y,Y,Y,Y,Y,Y,Y,Y,Y,Y,Y,Y,Y,Y,Y,Y,Y,Y,Y,Y,Y,Y,Z,Z,Z,Z,Z,Z,Z,Z,Z,Z,Z] rfl rfl (any_of HT_.out (by kernel_rfl)) (fun _ _ _ h=>h) (Or.inl ⟨by rfl,?_⟩) ?_ ?_
             rotate_left
             ·intro w';go_simp;with_reducible rfl
             rotate_left
             ·simp only [Act.put,sa_,sb_,sc_,i64_w];rfl
             refine pure_ (i:=26) (N:=some 115) (v:=?_) (a':=?_) #[Y,Y,Y,Y,Y,Y,Y,Y,Y,Y,Y,Y,Y,Y,Y,Y,Y,Y,Y,Y,Y,Y,Y,Y,Y,Y,Y,Z,Z,Z,Z,Z,Z,Z,Z,Z,Z] rfl rfl (any_of HT_.out (by kernel_rfl)) (fun _ _ _ h=>h) (Or.inl ⟨by rfl,?_⟩) ?_ ?_
             rotate_left
             ·intro w';go_simp;with_reducible rfl
             rotate_left
             ·simp only [Act.put,sa_,sb_,sc_,i64_w];rfl
             refine pure_ (i:=27) (N:=some 116) (v:=?_) (a':=?_) #[Y,Y,Y,Y,Y,Y,Y,Y,Y,Y,Y,Y,Y,Y,Y,Y,Y,Y,Y,Y,Y,Y,Y,Y,Y,Y,Y,Y,Z,Z,Z,Z,Z,Z,Z,Z,Z] rfl rfl (any_of HT_.out (by kernel_rfl)) (fun _ _ _ h=>h) (Or.inl ⟨by rfl,?_⟩) ?_ ?_
             rotate_left
             ·intro w';go_simp;with_reducible rfl
             rotate_left
             ·simp only [Act.put,sa_,sb_,sc_,i64_w];rfl
             refine pure_ (i:=28) (N:=some 117) (v:=?_) (a':=?_) #[Y,Y,Y,Y,Y,Y,Y,Y,Y,Y,Y,Y,Y,Y,Y,Y,Y,Y,Y,Y,Y,Y,Y,Y,Y,Y,Y,Y,Y,Z,Z,Z,Z,Z,Z,Z,Z] rfl rfl (any_of HT_.out (by kernel_rfl)) (fun _ _ _ h=>h) (Or.inl ⟨by rfl,?_⟩) ?_ ?_
             rotate_left
             ·intro w';go_simp;with_reducible rfl
             rotate_left
             ·simp only [Act.put,sa_,sb_,sc_,i64_w];rfl
             refine pure_ (i:=30) (N:=some 119) (v:=?_) (a':=?_) #[Y,Y,Y,Y,Y,Y,Y,Y,Y,Y,Y,Y,Y,Y,Y,Y,Y,Y,Y,Y,Y,Y,Y,Y,Y,Y,Y,Y,Y,Z,Y,Z,Z,Z,Z,Z,Z] rfl rfl (any_of HT_.out (by kernel_rfl)) (fun _ _ _ h=>h) (Or.inl ⟨by rfl,?_⟩) ?_ ?_
             rotate_left
             ·intro w';go_simp;with_reducible rfl
             rotate_left
             ·simp only [Act.put,sa_,sb_,sc_,i64_w];rfl
             refine pure_ (i:=31) (N:=some 120) (v:=?_) (a':=?_) #[Y,Y,Y,Y,Y,Y,Y,Y,Y,Y,Y,Y,Y,Y,Y,Y,Y,Y,Y,Y,Y,Y,Y,Y,Y,Y,Y,Y,Y,Z,Y,Y,Z,Z,Z,Z,Z] rfl rfl (any_of HT_.out (by kernel_rfl)) (fun _ _ _ h=>h) (Or.inl ⟨by rfl,?_⟩) ?_ ?_
             rotate_left
             ·intro w';go_simp;with_reducible rfl
             rotate_left
             ·simp only [Act.put,sa_,sb_,sc_,i64_w];rfl
             refine take_ (i:=29) (N:=some 118) (v:=?_) (a':=?_) #[Y,Y,Y,Y,Y,Y,Y,Y,Y,Y,Y,Y,Y,Y,Y,Y,Y,Y,Y,Y,Y,Y,Y,Y,Y,Y,Y,Y,Y,Y,Y,Y,Z,Z,Z,Z,Z] rfl rfl (take_ofW HT_.out HW_.out (by kernel_rfl)) (fun _ _ _ h=>h) (Or.inl ⟨by rfl,?_⟩) hHeld ?_ ?_
             rotate_left
             ·rintro w' ⟨s0,s1,s2,s3,s4,s5⟩
              go_simp
              with_reducible rfl
             rotate_left
             ·simp only [Act.put,sa_,sb_,sc_,i64_w];rfl
             refine one_ (i:=32) (N:=some 121) #[Y,Y,Y,Y,Y,Y,Y,Y,Y,Y,Y,Y,Y,Y,Y,Y,Y,Y,Y,Y,Y,Y,Y,Y,Y,Y,Y,Y,Y,Y,Y,Y,Y,Z,Z,Z,Z] rfl rfl (one_of HT_.out (by kernel_rfl)) (by decide) (fun K hK=>?_)
             refine goes_ Try.func32 (by kernel_rfl) rfl #[.int .i64 t533,.int .i64 t534] (by rfl) rfl rfl (by (try simp only [List.map_toArray,List.map_cons,List.map_nil]);first|done|rfl|(simp only [List.length_drop,List.length_take];rfl)) ?_
             with_reducible refine (spec_NonceOf.calls kj39 t533 t534 t585 t586 _ A116.out).mono ?_
             rintro e w135 ⟨v587,rfl,ho0,hb⟩
             refine ⟨_,rfl,?_⟩
             have n0_:=zz5 (jz5 (by (with_reducible repeat (first|apply az5|apply bz5|apply cz5));exact HO_540001.out) (fz5 ho0) hb)
             have n1_:=zz5 (jz5 (by (with_reducible repeat (first|apply az5|apply bz5|apply cz5));exact HO_548001.out) (fz5 ho0) hb)
             have n2_:=zz5 (jz5 (by (with_reducible repeat (first|apply az5|apply bz5|apply cz5));exact HO571.out) (fz5 ho0) hb)
             have n3_:=zz5 (jz5 (by (with_reducible repeat (first|apply az5|apply bz5|apply cz5));exact HO576.out) (fz5 ho0) hb)
             have n4_:=zz5 (Kd.R_lower (kz5 (kz5 (kz5 (kz5 ho0 (Kd.R_lt (by (with_reducible repeat (first|apply az5|apply bz5|apply cz5));exact HO_540001.out))) (Kd.R_lt (by (with_reducible repeat (first|apply az5|apply bz5|apply cz5));exact HO_548001.out))) (Kd.R_lt (by (with_reducible repeat (first|apply az5|apply bz5|apply cz5));exact HO571.out))) (Kd.R_lt (by (with_reducible repeat (first|apply az5|apply bz5|apply cz5));exact HO576.out))) (below_size (by repeat(first|(with_reducible first|exact HB.out|apply by5|apply ay5|apply cy5|refine dy5 ?_ GE539.out|refine dy5 ?_ GE547.out|refine dy5 ?_ GE572.out|refine dy5 ?_ GE577.out)|exact HB.out))))
             have n5_:=zz5 (hy5 (g:=gb539) (o:=.cells #[.int .i64 t535,.slice Ao13 t536.length co13] 27 (0,0)) (by (with_reducible repeat (first|refine ey5 ?_ _|refine gy5 ?_|refine fy5 ?_ _));exact BK539.out) hb)
             have n6_:=zz5 (hy5 (g:=gb547) (o:=.cells #[.int .i64 t543,.slice Ao19 t544.length co19] 27 (0,0)) (by (with_reducible repeat (first|refine ey5 ?_ _|refine gy5 ?_|refine fy5 ?_ _));exact BK547.out) hb)
             have n7_:=zz5 (hy5 (g:=gb572) (o:=.cells #[.int .i64 t568,.slice Ao125 t569.length co125] 27 (0,0)) (by (with_reducible repeat (first|refine ey5 ?_ _|refine gy5 ?_|refine fy5 ?_ _));exact BK572.out) hb)
             have n8_:=zz5 (hy5 (g:=gb577) (o:=.cells #[.int .i64 t573,.slice Ao132 t574.length co132] 27 (0,0)) (by (with_reducible repeat (first|refine ey5 ?_ _|refine gy5 ?_|refine fy5 ?_ _));exact BK577.out) hb)
             have n9_:=zz5 (below_step (by repeat(first|(with_reducible first|exact HB.out|apply by5|apply ay5|apply cy5|refine dy5 ?_ GE539.out|refine dy5 ?_ GE547.out|refine dy5 ?_ GE572.out|refine dy5 ?_ GE577.out)|exact HB.out)) hb)
             clear HO_540001
             clear HO_548001
             clear HO571
             clear HO576
             clear BK539
             clear BK547
             clear BK572
             clear BK577
             clear HB
             have HO_540001:=n0_
             have HO_548001:=n1_
             have HO571:=n2_
             have HO576:=n3_
             have HO588:=n4_
             have BK539:=n5_
             have BK547:=n6_
             have BK572:=n7_
             have BK577:=n8_
             have HB:=n9_
             clear n0_ n1_ n2_ n3_ n4_ n5_ n6_ n7_ n8_ n9_
             (try clear hb);(try clear hb2);(try clear hk)
             (try clear hi)
             (try clear ho0)
             obtain⟨Ao136,co136,eo136⟩:=Kd.R_slice HO588.out
             (first|subst eo136|(injection eo136 with f1_ f2_ f3_;have f4_:=f1_.symm;have f5_:=f3_.symm;clear f1_ f2_ f3_;subst f4_;subst f5_))
             refine hK.out _ _ ⟨(blk_cell BK539.out 0).trans rfl,(blk_cell BK539.out 1).trans rfl,(blk_cell BK572.out 0).trans rfl,(blk_cell BK572.out 1).trans rfl,(blk_cell BK577.out 0).trans rfl,(blk_cell BK577.out 1).trans rfl⟩ (fun hHeld=>?_)
             clear hK K
             refine norm_ (a':=?_) ?_ ?_
             rotate_left
             ·show Act.put _ (some 121) _ = _
              simp only [Act.put,sa_,sb_,sc_,i64_w]
              rfl
             refine pure_ (i:=33) (N:=some 122) (v:=?_) (a':=?_) #[Y,Y,Y,Y,Y,Y,Y,Y,Y,Y,Y,Y,Y,Y,Y,Y,Y,Y,Y,Y,Y,Y,Y,Y,Y,Y,Y,Y,Y,Y,Y,Y,Y,Y,Z,Z,Z] rfl rfl (any_of HT_.out (by kernel_rfl)) (fun _ _ _ h=>h) (Or.inl ⟨by rfl,?_⟩) ?_ ?_
             rotate_left
             ·intro w';go_simp;with_reducible rfl
             rotate_left
             ·simp only [Act.put,sa_,sb_,sc_,i64_w];rfl
             refine one_ (i:=34) (N:=some 123) #[Y,Y,Y,Y,Y,Y,Y,Y,Y,Y,Y,Y,Y,Y,Y,Y,Y,Y,Y,Y,Y,Y,Y,Y,Y,Y,Y,Y,Y,Y,Y,Y,Y,Y,Y,Z,Z] rfl rfl (one_of HT_.out (by kernel_rfl)) (by decide) (fun K hK=>?_)
             refine goes_ Try.func19 (by kernel_rfl) rfl #[.slice Ao13 t536.length co13,.slice Ao136 t586.length co136] (by rfl) rfl rfl (by (try simp only [List.map_toArray,List.map_cons,List.map_nil]);first|done|rfl|(simp only [List.length_drop,List.length_take];rfl)) ?_
             with_reducible refine (laws_lwSame.calls _ _ t536 _ _ t586 t589 _ ?side1 ?side2 ?side3 ?side4 A117.out).mono ?_
             (case side1=>repeat (first|exact (iz5 HO_540001.out).2.2|(with_reducible refine Kd.C_alloc ?_ _)|(with_reducible refine Kd.C_drewN ?_ _)|(with_reducible refine Kd.C_drew ?_)))
             (case side2=>exact (iz5 HO_540001.out).2.1)
             (case side3=>repeat (first|exact (iz5 HO588.out).2.2|(with_reducible refine Kd.C_alloc ?_ _)|(with_reducible refine Kd.C_drewN ?_ _)|(with_reducible refine Kd.C_drew ?_)))
             (case side4=>exact (iz5 HO588.out).2.1)
             rintro e w' ⟨rfl,⟨nd,rfl⟩⟩
             refine ⟨_,rfl,?_⟩
             refine hK.out _ _ ⟨(blk_cell BK539.out 0).trans rfl,(blk_cell BK539.out 1).trans rfl,(blk_cell BK572.out 0).trans rfl,(blk_cell BK572.out 1).trans rfl,(blk_cell BK577.out 0).trans rfl,(blk_cell BK577.out 1).trans rfl⟩ (fun hHeld=>?_)
             clear hK K
             refine norm_ (a':=?_) ?_ ?_
             rotate_left
             ·show Act.put _ (some 123) _ = _
              simp only [Act.put,sa_,sb_,sc_,i64_w]
              rfl
             refine pure_ (i:=35) (N:=some 124) (v:=?_) (a':=?_) #[Y,Y,Y,Y,Y,Y,Y,Y,Y,Y,Y,Y,Y,Y,Y,Y,Y,Y,Y,Y,Y,Y,Y,Y,Y,Y,Y,Y,Y,Y,Y,Y,Y,Y,Y,Y,Z] rfl rfl (any_of HT_.out (by kernel_rfl)) (fun _ _ _ h=>h) (Or.inl ⟨by rfl,?_⟩) ?_ ?_
             rotate_left
             ·intro w';go_simp;with_reducible rfl
             rotate_left
             ·simp only [Act.put,sa_,sb_,sc_,i64_w];rfl
             refine pure_ (i:=36) (N:=some 2) (v:=?_) (a':=?_) #[Y,Y,Y,Y,Y,Y,Y,Y,Y,Y,Y,Y,Y,Y,Y,Y,Y,Y,Y,Y,Y,Y,Y,Y,Y,Y,Y,Y,Y,Y,Y,Y,Y,Y,Y,Y,Y] rfl rfl (any_of HT_.out (by kernel_rfl)) (fun _ _ _ h=>h) (Or.inl ⟨by rfl,?_⟩) ?_ ?_
             rotate_left
             ·intro w';go_simp;with_reducible rfl
             rotate_left
             ·simp only [Act.put,sa_,sb_,sc_,i64_w];rfl
             refine done_ (done_of HT_.out (by kernel_rfl)) ?_
             try go_wp2
             go_ret
             exact⟨by first|rfl|(simp [errW_none,errW_some] <;> rfl)|(simp [*,errW_none,errW_some] <;> rfl),by repeat (first|(with_reducible first|exact HB.out|apply by5|apply ay5|apply cy5|refine dy5 ?_ GE539.out|refine dy5 ?_ GE547.out|refine dy5 ?_ GE572.out|refine dy5 ?_ GE577.out)|exact HB.out)⟩
         ·rw [if_neg c55] at H
          have c55b0 : ((t536.length : Int) == 12) = false:=beq_eq_false_iff_ne.mpr c55
          have c55b1 : ((t536.length : Int) != 12) = true:=bne_iff_ne.mpr c55
          obtain rfl:=Option.some.inj H
          have hnb137:=NB539_547.out
          have hnc137:=NB547_539.out
          have hcz138_0 : wc.cell? ⟨gb539,0,none⟩ = some (.int .i64 t535):=(blk_cell BK539.out 0).trans rfl
          have hcz138_1 : wc.cell? ⟨gb539,1,none⟩ = some (.slice Ao13 t536.length co13):=(blk_cell BK539.out 1).trans rfl
          have hfz138_0:=blk_frozen BK539.out 0
          have hfz138_1:=blk_frozen BK539.out 1
          try go_wp2_with (first|((with_reducible refine gate_callee (f:=29) rfl ?_);refine goesL_ (some 83) rfl rfl Try.func29 (by kernel_rfl) rfl #[.int .i64 (Int.tmod (wrap64 (t533 + 1)) 16),.int .i64 t534] rfl (by (try simp only [List.map_toArray,List.map_cons,List.map_nil]);first|done|rfl|(simp only [List.length_drop,List.length_take];rfl)) ?_;(with_reducible refine (impl_NonceOf.calls kj39 (Int.tmod (wrap64 (t533 + 1)) 16) t534 t568 t569 _ A53.out).mono ?_);rintro e w139 ⟨v570,rfl,ho0,hb⟩;refine ⟨_,rfl,?_⟩;have n0_:=zz5 (jz5 (by (with_reducible repeat (first|apply az5|apply bz5|apply cz5));exact HO_540001.out) (fz5 ho0) hb);have n1_:=zz5 (jz5 (by (with_reducible repeat (first|apply az5|apply bz5|apply cz5));exact HO_548001.out) (fz5 ho0) hb);have n2_:=zz5 (Kd.R_lower (kz5 (kz5 ho0 (Kd.R_lt (by (with_reducible repeat (first|apply az5|apply bz5|apply cz5));exact HO_540001.out))) (Kd.R_lt (by (with_reducible repeat (first|apply az5|apply bz5|apply cz5));exact HO_548001.out))) (below_size (by repeat(first|(with_reducible first|exact HB.out|apply by5|apply ay5|apply cy5|refine dy5 ?_ GE539.out|refine dy5 ?_ GE547.out)|exact HB.out))));have n3_:=zz5 (hy5 (g:=gb539) (o:=.cells #[.int .i64 t535,.slice Ao13 t536.length co13] 27 (0,0)) (by (with_reducible repeat (first|refine ey5 ?_ _|refine gy5 ?_|refine fy5 ?_ _));exact BK539.out) hb);have n4_:=zz5 (hy5 (g:=gb547) (o:=.cells #[.int .i64 t543,.slice Ao19 t544.length co19] 27 (0,0)) (by (with_reducible repeat (first|refine ey5 ?_ _|refine gy5 ?_|refine fy5 ?_ _));exact BK547.out) hb);have n5_:=zz5 (below_step (by repeat(first|(with_reducible first|exact HB.out|apply by5|apply ay5|apply cy5|refine dy5 ?_ GE539.out|refine dy5 ?_ GE547.out)|exact HB.out)) hb);clear HO_540001;clear HO_548001;clear BK539;clear BK547;clear HB;have HO_540001:=n0_;have HO_548001:=n1_;have HO571:=n2_;have BK539:=n3_;have BK547:=n4_;have HB:=n5_;clear n0_ n1_ n2_ n3_ n4_ n5_;(try clear hb);(try clear hb2);(try clear hk);(try clear hi);(try clear ho0))|((with_reducible refine gate_dst (N:=10) rfl ?_);(try (refine gate_guard (by rfl) ?_;dsimp only));refine box_event ?hg (N:=10) ?hd (cs:=#[.int .i64 0,.slice none 0 0]) (t:=27) ?hr ?_;(case hd=>rfl);(case hg=>rfl);(case hr=>first|(go_simp;done)|(go_simp;rfl));intro gb572 hg w140 hbox hb;have n0_:=zz5 (dz5 (by (with_reducible repeat (first|apply az5|apply bz5|apply cz5));exact HO_540001.out) hb);have n1_:=zz5 (dz5 (by (with_reducible repeat (first|apply az5|apply bz5|apply cz5));exact HO_548001.out) hb);have n2_:=zz5 (dz5 (by (with_reducible repeat (first|apply az5|apply bz5|apply cz5));exact HO571.out) hb);have n3_:=zz5 (hy5 (g:=gb539) (o:=.cells #[.int .i64 t535,.slice Ao13 t536.length co13] 27 (0,0)) (by (with_reducible repeat (first|refine ey5 ?_ _|refine gy5 ?_|refine fy5 ?_ _));exact BK539.out) hb);have n4_:=zz5 (hy5 (g:=gb547) (o:=.cells #[.int .i64 t543,.slice Ao19 t544.length co19] 27 (0,0)) (by (with_reducible repeat (first|refine ey5 ?_ _|refine gy5 ?_|refine fy5 ?_ _));exact BK547.out) hb);have n5_:=zz5 (below_step (by repeat(first|(with_reducible first|exact HB.out|apply by5|apply ay5|apply cy5|refine dy5 ?_ GE539.out|refine dy5 ?_ GE547.out)|exact HB.out)) hb);have n6_:=zz5 (hbox);have n7_:=zz5 ((by rw [hg];exact (below_size (by repeat(first|(with_reducible first|exact HB.out|apply by5|apply ay5|apply cy5|refine dy5 ?_ GE539.out|refine dy5 ?_ GE547.out)|exact HB.out))) : w.heap.size ≤ gb572));have n8_:=zz5 ((by rw [hg];exact (below_size (by repeat(first|(with_reducible first|exact HB.out|apply by5|apply ay5|apply cy5|refine dy5 ?_ GE539.out|refine dy5 ?_ GE547.out)|exact HB.out))) : w.heap.size ≤ gb572));have n9_:=zz5 ((by rw [hg];exact Nat.ne_of_lt (blk_lt (g:=gb539) (o:=.cells #[.int .i64 t535,.slice Ao13 t536.length co13] 27 (0,0)) (by (with_reducible repeat (first|refine ey5 ?_ _|refine gy5 ?_|refine fy5 ?_ _));exact BK539.out)) : gb539 ≠ gb572));have n10_:=zz5 ((by rw [hg];exact Nat.ne_of_gt (blk_lt (g:=gb539) (o:=.cells #[.int .i64 t535,.slice Ao13 t536.length co13] 27 (0,0)) (by (with_reducible repeat (first|refine ey5 ?_ _|refine gy5 ?_|refine fy5 ?_ _));exact BK539.out)) : gb572 ≠ gb539));have n11_:=zz5 ((by rw [hg];exact Nat.ne_of_lt (blk_lt (g:=gb547) (o:=.cells #[.int .i64 t543,.slice Ao19 t544.length co19] 27 (0,0)) (by (with_reducible repeat (first|refine ey5 ?_ _|refine gy5 ?_|refine fy5 ?_ _));exact BK547.out)) : gb547 ≠ gb572));have n12_:=zz5 ((by rw [hg];exact Nat.ne_of_gt (blk_lt (g:=gb547) (o:=.cells #[.int .i64 t543,.slice Ao19 t544.length co19] 27 (0,0)) (by (with_reducible repeat (first|refine ey5 ?_ _|refine gy5 ?_|refine fy5 ?_ _));exact BK547.out)) : gb572 ≠ gb547));clear HO_540001;clear HO_548001;clear HO571;clear BK539;clear BK547;clear HB;have HO_540001:=n0_;have HO_548001:=n1_;have HO571:=n2_;have BK539:=n3_;have BK547:=n4_;have HB:=n5_;have BK572:=n6_;have GW572:=n7_;have GE572:=n8_;have NB539_572:=n9_;have NB572_539:=n10_;have NB547_572:=n11_;have NB572_547:=n12_;clear n0_ n1_ n2_ n3_ n4_ n5_ n6_ n7_ n8_ n9_ n10_ n11_ n12_;clear hb hbox hg;have hnb141:=NB572_539.out;have hnc141:=NB539_572.out;have hnb142:=NB572_547.out;have hnc142:=NB547_572.out;have hcz143_0 : w140.cell? ⟨gb572,0,none⟩ = some (.int .i64 0):=(blk_cell BK572.out 0).trans rfl;have hcz143_1 : w140.cell? ⟨gb572,1,none⟩ = some (.slice none 0 0):=(blk_cell BK572.out 1).trans rfl;have hfz143_0:=blk_frozen BK572.out 0;have hfz143_1:=blk_frozen BK572.out 1;obtain⟨Ao144,co144,eo144⟩:=Kd.R_slice HO571.out;subst eo144)|((with_reducible refine gate_callee (f:=29) rfl ?_);refine goesL_ (some 88) rfl rfl Try.func29 (by kernel_rfl) rfl #[.int .i64 t533,.int .i64 (wrap64 ((wrap64 (Int.tdiv t534 2)) + 1))] rfl (by (try simp only [List.map_toArray,List.map_cons,List.map_nil]);first|done|rfl|(simp only [List.length_drop,List.length_take];rfl)) ?_;(with_reducible refine (impl_NonceOf.calls kj39 t533 (wrap64 ((wrap64 (Int.tdiv t534 2)) + 1)) t573 t574 _ A54.out).mono ?_);rintro e w145 ⟨v575,rfl,ho0,hb⟩;refine ⟨_,rfl,?_⟩;have n0_:=zz5 (jz5 (by (with_reducible repeat (first|apply az5|apply bz5|apply cz5));exact (gz5 (ez5 (p:=⟨gb572,1,none⟩) (ez5 (p:=⟨gb572,0,none⟩) (hz5 HO_540001.out BK572.out (by decide)) (fun _ hk=>hk.2) (.int .i64 t568)) (fun _ hk=>hk.2) (.slice Ao144 t569.length co144)) (fun _ h_=>h_.1))) (fz5 ho0) hb);have n1_:=zz5 (jz5 (by (with_reducible repeat (first|apply az5|apply bz5|apply cz5));exact (gz5 (ez5 (p:=⟨gb572,1,none⟩) (ez5 (p:=⟨gb572,0,none⟩) (hz5 HO_548001.out BK572.out (by decide)) (fun _ hk=>hk.2) (.int .i64 t568)) (fun _ hk=>hk.2) (.slice Ao144 t569.length co144)) (fun _ h_=>h_.1))) (fz5 ho0) hb);have n2_:=zz5 (jz5 (by (with_reducible repeat (first|apply az5|apply bz5|apply cz5));exact (gz5 (ez5 (p:=⟨gb572,1,none⟩) (ez5 (p:=⟨gb572,0,none⟩) (hz5 HO571.out BK572.out (by decide)) (fun _ hk=>hk.2) (.int .i64 t568)) (fun _ hk=>hk.2) (.slice Ao144 t569.length co144)) (fun _ h_=>h_.1))) (fz5 ho0) hb);have n3_:=zz5 (Kd.R_lower (kz5 (kz5 (kz5 ho0 (Kd.R_lt (by (with_reducible repeat (first|apply az5|apply bz5|apply cz5));exact (gz5 (ez5 (p:=⟨gb572,1,none⟩) (ez5 (p:=⟨gb572,0,none⟩) (hz5 HO_540001.out BK572.out (by decide)) (fun _ hk=>hk.2) (.int .i64 t568)) (fun _ hk=>hk.2) (.slice Ao144 t569.length co144)) (fun _ h_=>h_.1))))) (Kd.R_lt (by (with_reducible repeat (first|apply az5|apply bz5|apply cz5));exact (gz5 (ez5 (p:=⟨gb572,1,none⟩) (ez5 (p:=⟨gb572,0,none⟩) (hz5 HO_548001.out BK572.out (by decide)) (fun _ hk=>hk.2) (.int .i64 t568)) (fun _ hk=>hk.2) (.slice Ao144 t569.length co144)) (fun _ h_=>h_.1))))) (Kd.R_lt (by (with_reducible repeat (first|apply az5|apply bz5|apply cz5));exact (gz5 (ez5 (p:=⟨gb572,1,none⟩) (ez5 (p:=⟨gb572,0,none⟩) (hz5 HO571.out BK572.out (by decide)) (fun _ hk=>hk.2) (.int .i64 t568)) (fun _ hk=>hk.2) (.slice Ao144 t569.length co144)) (fun _ h_=>h_.1))))) (below_size (by repeat(first|(with_reducible first|exact HB.out|apply by5|apply ay5|apply cy5|refine dy5 ?_ GE539.out|refine dy5 ?_ GE547.out|refine dy5 ?_ GE572.out)|exact HB.out))));have n4_:=zz5 (hy5 (g:=gb539) (o:=.cells #[.int .i64 t535,.slice Ao13 t536.length co13] 27 (0,0)) (by (with_reducible repeat (first|refine ey5 ?_ _|refine gy5 ?_|refine fy5 ?_ _));refine blk_far ?_ NB539_572.out _;(with_reducible repeat (first|refine ey5 ?_ _|refine gy5 ?_|refine fy5 ?_ _));refine blk_far ?_ NB539_572.out _;(with_reducible repeat (first|refine ey5 ?_ _|refine gy5 ?_|refine fy5 ?_ _));exact BK539.out) hb);have n5_:=zz5 (hy5 (g:=gb547) (o:=.cells #[.int .i64 t543,.slice Ao19 t544.length co19] 27 (0,0)) (by (with_reducible repeat (first|refine ey5 ?_ _|refine gy5 ?_|refine fy5 ?_ _));refine blk_far ?_ NB547_572.out _;(with_reducible repeat (first|refine ey5 ?_ _|refine gy5 ?_|refine fy5 ?_ _));refine blk_far ?_ NB547_572.out _;(with_reducible repeat (first|refine ey5 ?_ _|refine gy5 ?_|refine fy5 ?_ _));exact BK547.out) hb);have n6_:=zz5 (hy5 (g:=gb572) (o:=.cells #[.int .i64 t568,.slice Ao144 t569.length co144] 27 (0,0)) (by (with_reducible repeat (first|refine ey5 ?_ _|refine gy5 ?_|refine fy5 ?_ _));refine blk_put (cs:=#[.int .i64 t568,.slice none 0 0]) ?_ 1 _ rfl;(with_reducible repeat (first|refine ey5 ?_ _|refine gy5 ?_|refine fy5 ?_ _));refine blk_put (cs:=#[.int .i64 0,.slice none 0 0]) ?_ 0 _ rfl;(with_reducible repeat (first|refine ey5 ?_ _|refine gy5 ?_|refine fy5 ?_ _));exact BK572.out) hb);have n7_:=zz5 (below_step (by repeat(first|(with_reducible first|exact HB.out|apply by5|apply ay5|apply cy5|refine dy5 ?_ GE539.out|refine dy5 ?_ GE547.out|refine dy5 ?_ GE572.out)|exact HB.out)) hb);clear HO_540001;clear HO_548001;clear HO571;clear BK539;clear BK547;clear BK572;clear HB;have HO_540001:=n0_;have HO_548001:=n1_;have HO571:=n2_;have HO576:=n3_;have BK539:=n4_;have BK547:=n5_;have BK572:=n6_;have HB:=n7_;clear n0_ n1_ n2_ n3_ n4_ n5_ n6_ n7_;(try clear hb);(try clear hb2);(try clear hk);(try clear hi);(try clear ho0))|((with_reducible refine gate_dst (N:=11) rfl ?_);(try (refine gate_guard (by rfl) ?_;dsimp only));refine box_event ?hg (N:=11) ?hd (cs:=#[.int .i64 0,.slice none 0 0]) (t:=27) ?hr ?_;(case hd=>rfl);(case hg=>rfl);(case hr=>first|(go_simp;done)|(go_simp;rfl));intro gb577 hg w146 hbox hb;have n0_:=zz5 (dz5 (by (with_reducible repeat (first|apply az5|apply bz5|apply cz5));exact HO_540001.out) hb);have n1_:=zz5 (dz5 (by (with_reducible repeat (first|apply az5|apply bz5|apply cz5));exact HO_548001.out) hb);have n2_:=zz5 (dz5 (by (with_reducible repeat (first|apply az5|apply bz5|apply cz5));exact HO571.out) hb);have n3_:=zz5 (dz5 (by (with_reducible repeat (first|apply az5|apply bz5|apply cz5));exact HO576.out) hb);have n4_:=zz5 (hy5 (g:=gb539) (o:=.cells #[.int .i64 t535,.slice Ao13 t536.length co13] 27 (0,0)) (by (with_reducible repeat (first|refine ey5 ?_ _|refine gy5 ?_|refine fy5 ?_ _));exact BK539.out) hb);have n5_:=zz5 (hy5 (g:=gb547) (o:=.cells #[.int .i64 t543,.slice Ao19 t544.length co19] 27 (0,0)) (by (with_reducible repeat (first|refine ey5 ?_ _|refine gy5 ?_|refine fy5 ?_ _));exact BK547.out) hb);have n6_:=zz5 (hy5 (g:=gb572) (o:=.cells #[.int .i64 t568,.slice Ao144 t569.length co144] 27 (0,0)) (by (with_reducible repeat (first|refine ey5 ?_ _|refine gy5 ?_|refine fy5 ?_ _));exact BK572.out) hb);have n7_:=zz5 (below_step (by repeat(first|(with_reducible first|exact HB.out|apply by5|apply ay5|apply cy5|refine dy5 ?_ GE539.out|refine dy5 ?_ GE547.out|refine dy5 ?_ GE572.out)|exact HB.out)) hb);have n8_:=zz5 (hbox);have n9_:=zz5 ((by rw [hg];exact (below_size (by repeat(first|(with_reducible first|exact HB.out|apply by5|apply ay5|apply cy5|refine dy5 ?_ GE539.out|refine dy5 ?_ GE547.out|refine dy5 ?_ GE572.out)|exact HB.out))) : w.heap.size ≤ gb577));have n10_:=zz5 ((by rw [hg];exact (below_size (by repeat(first|(with_reducible first|exact HB.out|apply by5|apply ay5|apply cy5|refine dy5 ?_ GE539.out|refine dy5 ?_ GE547.out|refine dy5 ?_ GE572.out)|exact HB.out))) : w.heap.size ≤ gb577));have n11_:=zz5 ((by rw [hg];exact Nat.ne_of_lt (blk_lt (g:=gb539) (o:=.cells #[.int .i64 t535,.slice Ao13 t536.length co13] 27 (0,0)) (by (with_reducible repeat (first|refine ey5 ?_ _|refine gy5 ?_|refine fy5 ?_ _));exact BK539.out)) : gb539 ≠ gb577));have n12_:=zz5 ((by rw [hg];exact Nat.ne_of_gt (blk_lt (g:=gb539) (o:=.cells #[.int .i64 t535,.slice Ao13 t536.length co13] 27 (0,0)) (by (with_reducible repeat (first|refine ey5 ?_ _|refine gy5 ?_|refine fy5 ?_ _));exact BK539.out)) : gb577 ≠ gb539));have n13_:=zz5 ((by rw [hg];exact Nat.ne_of_lt (blk_lt (g:=gb547) (o:=.cells #[.int .i64 t543,.slice Ao19 t544.length co19] 27 (0,0)) (by (with_reducible repeat (first|refine ey5 ?_ _|refine gy5 ?_|refine fy5 ?_ _));exact BK547.out)) : gb547 ≠ gb577));have n14_:=zz5 ((by rw [hg];exact Nat.ne_of_gt (blk_lt (g:=gb547) (o:=.cells #[.int .i64 t543,.slice Ao19 t544.length co19] 27 (0,0)) (by (with_reducible repeat (first|refine ey5 ?_ _|refine gy5 ?_|refine fy5 ?_ _));exact BK547.out)) : gb577 ≠ gb547));have n15_:=zz5 ((by rw [hg];exact Nat.ne_of_lt (blk_lt (g:=gb572) (o:=.cells #[.int .i64 t568,.slice Ao144 t569.length co144] 27 (0,0)) (by (with_reducible repeat (first|refine ey5 ?_ _|refine gy5 ?_|refine fy5 ?_ _));exact BK572.out)) : gb572 ≠ gb577));have n16_:=zz5 ((by rw [hg];exact Nat.ne_of_gt (blk_lt (g:=gb572) (o:=.cells #[.int .i64 t568,.slice Ao144 t569.length co144] 27 (0,0)) (by (with_reducible repeat (first|refine ey5 ?_ _|refine gy5 ?_|refine fy5 ?_ _));exact BK572.out)) : gb577 ≠ gb572));clear HO_540001;clear HO_548001;clear HO571;clear HO576;clear BK539;clear BK547;clear BK572;clear HB;have HO_540001:=n0_;have HO_548001:=n1_;have HO571:=n2_;have HO576:=n3_;have BK539:=n4_;have BK547:=n5_;have BK572:=n6_;have HB:=n7_;have BK577:=n8_;have GW577:=n9_;have GE577:=n10_;have NB539_577:=n11_;have NB577_539:=n12_;have NB547_577:=n13_;have NB577_547:=n14_;have NB572_577:=n15_;have NB577_572:=n16_;clear n0_ n1_ n2_ n3_ n4_ n5_ n6_ n7_ n8_ n9_ n10_ n11_ n12_ n13_ n14_ n15_ n16_;clear hb hbox hg;have hnb147:=NB577_539.out;have hnc147:=NB539_577.out;have hnb148:=NB577_547.out;have hnc148:=NB547_577.out;have hnb149:=NB577_572.out;have hnc149:=NB572_577.out;have hcz150_0 : w146.cell? ⟨gb577,0,none⟩ = some (.int .i64 0):=(blk_cell BK577.out 0).trans rfl;have hcz150_1 : w146.cell? ⟨gb577,1,none⟩ = some (.slice none 0 0):=(blk_cell BK577.out 1).trans rfl;have hfz150_0:=blk_frozen BK577.out 0;have hfz150_1:=blk_frozen BK577.out 1;obtain⟨Ao151,co151,eo151⟩:=Kd.R_slice HO576.out;subst eo151))
          have n0_ : Aside0 (Kd.R (Kd.int .u8) 5 ((w146.setCell ⟨gb577,0,none⟩ (.int .i64 t573)).setCell ⟨gb577,1,none⟩ (.slice Ao151 t574.length co151)) w.heap.size (fun k_=>some k_ ≠ (.slice Ao19 t544.length co19 : Value).ownBlock ∧ some k_ ≠ (.slice Ao144 t569.length co144 : Value).ownBlock ∧ some k_ ≠ (.slice Ao151 t574.length co151 : Value).ownBlock) (.slice Ao13 t536.length co13) t536):=⟨by (with_reducible repeat (first|apply az5|apply bz5|apply cz5));exact gz5 (ez5 (p:=⟨gb577,1,none⟩) (ez5 (p:=⟨gb577,0,none⟩) (hz5 HO_540001.out BK577.out (by decide)) (fun _ hk=>hk.2) (.int .i64 t573)) (fun _ hk=>hk.2) (.slice Ao151 t574.length co151)) (fun _ hk=>⟨hk.1.1.1,⟨hk.1.1.2,hk.1.2⟩⟩)⟩
          have n1_ : Aside0 (Kd.R (Kd.int .u8) 5 ((w146.setCell ⟨gb577,0,none⟩ (.int .i64 t573)).setCell ⟨gb577,1,none⟩ (.slice Ao151 t574.length co151)) w.heap.size (fun k_=>some k_ ≠ (.slice Ao13 t536.length co13 : Value).ownBlock ∧ some k_ ≠ (.slice Ao144 t569.length co144 : Value).ownBlock ∧ some k_ ≠ (.slice Ao151 t574.length co151 : Value).ownBlock) (.slice Ao19 t544.length co19) t544):=⟨by (with_reducible repeat (first|apply az5|apply bz5|apply cz5));exact gz5 (ez5 (p:=⟨gb577,1,none⟩) (ez5 (p:=⟨gb577,0,none⟩) (hz5 HO_548001.out BK577.out (by decide)) (fun _ hk=>hk.2) (.int .i64 t573)) (fun _ hk=>hk.2) (.slice Ao151 t574.length co151)) (fun _ hk=>⟨hk.1.1.1,⟨hk.1.1.2,hk.1.2⟩⟩)⟩
          have n2_ : Aside0 (Kd.R (Kd.int .u8) 5 ((w146.setCell ⟨gb577,0,none⟩ (.int .i64 t573)).setCell ⟨gb577,1,none⟩ (.slice Ao151 t574.length co151)) w.heap.size (fun k_=>some k_ ≠ (.slice Ao13 t536.length co13 : Value).ownBlock ∧ some k_ ≠ (.slice Ao19 t544.length co19 : Value).ownBlock ∧ some k_ ≠ (.slice Ao151 t574.length co151 : Value).ownBlock) (.slice Ao144 t569.length co144) t569):=⟨by (with_reducible repeat (first|apply az5|apply bz5|apply cz5));exact gz5 (ez5 (p:=⟨gb577,1,none⟩) (ez5 (p:=⟨gb577,0,none⟩) (hz5 HO571.out BK577.out (by decide)) (fun _ hk=>hk.2) (.int .i64 t573)) (fun _ hk=>hk.2) (.slice Ao151 t574.length co151)) (fun _ hk=>⟨hk.1.1.1.2,⟨hk.1.1.2,hk.1.2⟩⟩)⟩
          have n3_ : Aside0 (Kd.R (Kd.int .u8) 5 ((w146.setCell ⟨gb577,0,none⟩ (.int .i64 t573)).setCell ⟨gb577,1,none⟩ (.slice Ao151 t574.length co151)) w.heap.size (fun k_=>some k_ ≠ (.slice Ao13 t536.length co13 : Value).ownBlock ∧ some k_ ≠ (.slice Ao19 t544.length co19 : Value).ownBlock ∧ some k_ ≠ (.slice Ao144 t569.length co144 : Value).ownBlock) (.slice Ao151 t574.length co151) t574):=⟨by (with_reducible repeat (first|apply az5|apply bz5|apply cz5));exact gz5 (ez5 (p:=⟨gb577,1,none⟩) (ez5 (p:=⟨gb577,0,none⟩) (hz5 HO576.out BK577.out (by decide)) (fun _ hk=>hk.2) (.int .i64 t573)) (fun _ hk=>hk.2) (.slice Ao151 t574.length co151)) (fun _ hk=>⟨hk.1.1.1.2,⟨hk.1.1.2,hk.1.2⟩⟩)⟩
          have n4_ : Aside0 (((w146.setCell ⟨gb577,0,none⟩ (.int .i64 t573)).setCell ⟨gb577,1,none⟩ (.slice Ao151 t574.length co151)).heap[gb539]? = some (.cells #[.int .i64 t535,.slice Ao13 t536.length co13] 27 (0,0))):=⟨by (with_reducible repeat (first|refine ey5 ?_ _|refine gy5 ?_|refine fy5 ?_ _));refine blk_far ?_ NB539_577.out _;(with_reducible repeat (first|refine ey5 ?_ _|refine gy5 ?_|refine fy5 ?_ _));refine blk_far ?_ NB539_577.out _;(with_reducible repeat (first|refine ey5 ?_ _|refine gy5 ?_|refine fy5 ?_ _));exact BK539.out⟩
          have n5_ : Aside0 (((w146.setCell ⟨gb577,0,none⟩ (.int .i64 t573)).setCell ⟨gb577,1,none⟩ (.slice Ao151 t574.length co151)).heap[gb547]? = some (.cells #[.int .i64 t543,.slice Ao19 t544.length co19] 27 (0,0))):=⟨by (with_reducible repeat (first|refine ey5 ?_ _|refine gy5 ?_|refine fy5 ?_ _));refine blk_far ?_ NB547_577.out _;(with_reducible repeat (first|refine ey5 ?_ _|refine gy5 ?_|refine fy5 ?_ _));refine blk_far ?_ NB547_577.out _;(with_reducible repeat (first|refine ey5 ?_ _|refine gy5 ?_|refine fy5 ?_ _));exact BK547.out⟩
          have n6_ : Aside0 (((w146.setCell ⟨gb577,0,none⟩ (.int .i64 t573)).setCell ⟨gb577,1,none⟩ (.slice Ao151 t574.length co151)).heap[gb572]? = some (.cells #[.int .i64 t568,.slice Ao144 t569.length co144] 27 (0,0))):=⟨by (with_reducible repeat (first|refine ey5 ?_ _|refine gy5 ?_|refine fy5 ?_ _));refine blk_far ?_ NB572_577.out _;(with_reducible repeat (first|refine ey5 ?_ _|refine gy5 ?_|refine fy5 ?_ _));refine blk_far ?_ NB572_577.out _;(with_reducible repeat (first|refine ey5 ?_ _|refine gy5 ?_|refine fy5 ?_ _));exact BK572.out⟩
          have n7_ : Aside0 (((w146.setCell ⟨gb577,0,none⟩ (.int .i64 t573)).setCell ⟨gb577,1,none⟩ (.slice Ao151 t574.length co151)).heap[gb577]? = some (.cells #[.int .i64 t573,.slice Ao151 t574.length co151] 27 (0,0))):=⟨by (with_reducible repeat (first|refine ey5 ?_ _|refine gy5 ?_|refine fy5 ?_ _));refine blk_put (cs:=#[.int .i64 t573,.slice none 0 0]) ?_ 1 _ rfl;(with_reducible repeat (first|refine ey5 ?_ _|refine gy5 ?_|refine fy5 ?_ _));refine blk_put (cs:=#[.int .i64 0,.slice none 0 0]) ?_ 0 _ rfl;(with_reducible repeat (first|refine ey5 ?_ _|refine gy5 ?_|refine fy5 ?_ _));exact BK577.out⟩
          have n8_ : Aside0 (Below w.heap.size w ((w146.setCell ⟨gb577,0,none⟩ (.int .i64 t573)).setCell ⟨gb577,1,none⟩ (.slice Ao151 t574.length co151))):=⟨by repeat (first|(with_reducible first|exact HB.out|apply by5|apply ay5|apply cy5|refine dy5 ?_ GE539.out|refine dy5 ?_ GE547.out|refine dy5 ?_ GE572.out|refine dy5 ?_ GE577.out)|exact HB.out)⟩
          (try clear HO_540001);(try clear HO_548001);(try clear HO571)
          (try clear HO576);(try clear BK539);(try clear BK547)
          (try clear BK572);(try clear BK577);(try clear HB)
          generalize ((w146.setCell ⟨gb577,0,none⟩ (.int .i64 t573)).setCell ⟨gb577,1,none⟩ (.slice Ao151 t574.length co151)) = w152 at n0_ n1_ n2_ n3_ n4_ n5_ n6_ n7_ n8_ ⊢
          have HO_540001:=n0_
          have HO_548001:=n1_
          have HO571:=n2_
          have HO576:=n3_
          have BK539:=n4_
          have BK547:=n5_
          have BK572:=n6_
          have BK577:=n7_
          have HB:=n8_
          clear n0_ n1_ n2_ n3_ n4_ n5_ n6_ n7_ n8_
          have n0_:=zz5 (cz5 HO_540001.out)
          have n1_:=zz5 (cz5 HO_548001.out)
          have n2_:=zz5 (cz5 HO571.out)
          have n3_:=zz5 (cz5 HO576.out)
          have n4_:=zz5 (gy5 BK539.out)
          have n5_:=zz5 (gy5 BK547.out)
          have n6_:=zz5 (gy5 BK572.out)
          have n7_:=zz5 (gy5 BK577.out)
          have n8_:=zz5 (cy5 HB.out)
          clear HO_540001
          clear HO_548001
          clear HO571
          clear HO576
          clear BK539
          clear BK547
          clear BK572
          clear BK577
          clear HB
          have HO_540001:=n0_
          have HO_548001:=n1_
          have HO571:=n2_
          have HO576:=n3_
          have BK539:=n4_
          have BK547:=n5_
          have BK572:=n6_
          have BK577:=n7_
          have HB:=n8_
          clear n0_ n1_ n2_ n3_ n4_ n5_ n6_ n7_ n8_
          refine start_ (n:=37) (S:=fun w'=>w'.cell? ⟨gb539,0,none⟩ = some (.int .i64 t535) ∧ w'.cell? ⟨gb539,1,none⟩ = some (.slice Ao13 t536.length co13)) (ds:=[]) #[Z,Z,Z,Z,Z,Z,Z,Z,Z,Z,Z,Z,Z,Z,Z,Z,Z,Z,Z,Z,Z,Z,Z,Z,Z,Z,Z,Z,Z,Z,Z,Z,Z,Z,Z,Z,Z] (by kernel_rfl) rfl rfl ⟨(blk_cell BK539.out 0).trans rfl,(blk_cell BK539.out 1).trans rfl⟩ (fun hHeld=>?_);refine with_tabW laws_FnNonces.tab15 laws_FnNonces.bits15 (fun HT_ HW_=>?_)
          generalize w152.drew = w153 at HO_540001 HO_548001 HO571 HO576 BK539 BK547 BK572 BK577 HB hHeld ⊢
          refine pure_ (i:=0) (N:=some 89) (v:=?_) (a':=?_) #[Y,Z,Z,Z,Z,Z,Z,Z,Z,Z,Z,Z,Z,Z,Z,Z,Z,Z,Z,Z,Z,Z,Z,Z,Z,Z,Z,Z,Z,Z,Z,Z,Z,Z,Z,Z,Z] rfl rfl (any_of HT_.out (by kernel_rfl)) (fun _ _ _ h=>h) (Or.inl ⟨by rfl,?_⟩) ?_ ?_
          rotate_left
          ·intro w';go_simp;with_reducible rfl
          rotate_left
          ·simp only [Act.put,sa_,sb_,sc_,i64_w];rfl
          refine take_ (i:=1) (N:=some 90) (v:=?_) (a':=?_) #[Y,Y,Z,Z,Z,Z,Z,Z,Z,Z,Z,Z,Z,Z,Z,Z,Z,Z,Z,Z,Z,Z,Z,Z,Z,Z,Z,Z,Z,Z,Z,Z,Z,Z,Z,Z,Z] rfl rfl (take_ofW HT_.out HW_.out (by kernel_rfl)) (fun _ _ _ h=>h) (Or.inl ⟨by rfl,?_⟩) hHeld ?_ ?_
          rotate_left
          ·rintro w' ⟨s0,s1⟩
           go_simp
           with_reducible rfl
          rotate_left
          ·simp only [Act.put,sa_,sb_,sc_,i64_w];rfl
          refine pure_ (i:=2) (N:=some 91) (v:=?_) (a':=?_) #[Y,Y,Y,Z,Z,Z,Z,Z,Z,Z,Z,Z,Z,Z,Z,Z,Z,Z,Z,Z,Z,Z,Z,Z,Z,Z,Z,Z,Z,Z,Z,Z,Z,Z,Z,Z,Z] rfl rfl (any_of HT_.out (by kernel_rfl)) (fun _ _ _ h=>h) (Or.inl ⟨by rfl,?_⟩) ?_ ?_
          rotate_left
          ·intro w';go_simp;with_reducible rfl
          rotate_left
          ·simp only [Act.put,sa_,sb_,sc_,i64_w];rfl
          refine pure_ (i:=3) (N:=some 92) (v:=?_) (a':=?_) #[Y,Y,Y,Y,Z,Z,Z,Z,Z,Z,Z,Z,Z,Z,Z,Z,Z,Z,Z,Z,Z,Z,Z,Z,Z,Z,Z,Z,Z,Z,Z,Z,Z,Z,Z,Z,Z] rfl rfl (any_of HT_.out (by kernel_rfl)) (fun _ _ _ h=>h) (Or.inl ⟨by rfl,?_⟩) ?_ ?_
          rotate_left
          ·intro w';go_simp;with_reducible rfl
          rotate_left
          ·simp only [Act.put,sa_,sb_,sc_,i64_w];rfl
          refine pure_ (i:=4) (N:=some 93) (v:=?_) (a':=?_) #[Y,Y,Y,Y,Y,Z,Z,Z,Z,Z,Z,Z,Z,Z,Z,Z,Z,Z,Z,Z,Z,Z,Z,Z,Z,Z,Z,Z,Z,Z,Z,Z,Z,Z,Z,Z,Z] rfl rfl (any_of HT_.out (by kernel_rfl)) (fun _ _ _ h=>h) (Or.inl ⟨by rfl,?_⟩) ?_ ?_
          rotate_left
          ·intro w';go_simp;with_reducible rfl
          rotate_left
          ·simp only [Act.put,sa_,sb_,sc_,i64_w];rfl
          refine pure_ (i:=5) (N:=some 94) (v:=undef) (a':=?_) #[Y,Y,Y,Y,Y,Y,Z,Z,Z,Z,Z,Z,Z,Z,Z,Z,Z,Z,Z,Z,Z,Z,Z,Z,Z,Z,Z,Z,Z,Z,Z,Z,Z,Z,Z,Z,Z] rfl rfl (any_of HT_.out (by kernel_rfl)) (fun _ _ _ h=>h) (Or.inr ⟨by rfl,rfl⟩) ?_ ?_
          rotate_left
          ·simp only [Act.put,sa_,sb_,sc_,i64_w];rfl
          refine pure_ (i:=6) (N:=some 95) (v:=undef) (a':=?_) #[Y,Y,Y,Y,Y,Y,Y,Z,Z,Z,Z,Z,Z,Z,Z,Z,Z,Z,Z,Z,Z,Z,Z,Z,Z,Z,Z,Z,Z,Z,Z,Z,Z,Z,Z,Z,Z] rfl rfl (any_of HT_.out (by kernel_rfl)) (fun _ _ _ h=>h) (Or.inr ⟨by rfl,rfl⟩) ?_ ?_
          rotate_left
          ·simp only [Act.put,sa_,sb_,sc_,i64_w];rfl
          refine pure_ (i:=7) (N:=some 96) (v:=undef) (a':=?_) #[Y,Y,Y,Y,Y,Y,Y,Y,Z,Z,Z,Z,Z,Z,Z,Z,Z,Z,Z,Z,Z,Z,Z,Z,Z,Z,Z,Z,Z,Z,Z,Z,Z,Z,Z,Z,Z] rfl rfl (any_of HT_.out (by kernel_rfl)) (fun _ _ _ h=>h) (Or.inr ⟨by rfl,rfl⟩) ?_ ?_
          rotate_left
          ·simp only [Act.put,sa_,sb_,sc_,i64_w];rfl
          refine pure_ (i:=8) (N:=some 97) (v:=undef) (a':=?_) #[Y,Y,Y,Y,Y,Y,Y,Y,Y,Z,Z,Z,Z,Z,Z,Z,Z,Z,Z,Z,Z,Z,Z,Z,Z,Z,Z,Z,Z,Z,Z,Z,Z,Z,Z,Z,Z] rfl rfl (any_of HT_.out (by kernel_rfl)) (fun _ _ _ h=>h) (Or.inr ⟨by rfl,rfl⟩) ?_ ?_
          rotate_left
          ·simp only [Act.put,sa_,sb_,sc_,i64_w];rfl
          refine pure_ (i:=9) (N:=some 98) (v:=undef) (a':=?_) #[Y,Y,Y,Y,Y,Y,Y,Y,Y,Y,Z,Z,Z,Z,Z,Z,Z,Z,Z,Z,Z,Z,Z,Z,Z,Z,Z,Z,Z,Z,Z,Z,Z,Z,Z,Z,Z] rfl rfl (any_of HT_.out (by kernel_rfl)) (fun _ _ _ h=>h) (Or.inr ⟨by rfl,rfl⟩) ?_ ?_
          rotate_left
          ·simp only [Act.put,sa_,sb_,sc_,i64_w];rfl
          refine pure_ (i:=10) (N:=some 99) (v:=undef) (a':=?_) #[Y,Y,Y,Y,Y,Y,Y,Y,Y,Y,Y,Z,Z,Z,Z,Z,Z,Z,Z,Z,Z,Z,Z,Z,Z,Z,Z,Z,Z,Z,Z,Z,Z,Z,Z,Z,Z] rfl rfl (any_of HT_.out (by kernel_rfl)) (fun _ _ _ h=>h) (Or.inr ⟨by rfl,rfl⟩) ?_ ?_
          rotate_left
          ·simp only [Act.put,sa_,sb_,sc_,i64_w];rfl
          refine pure_ (i:=11) (N:=some 100) (v:=?_) (a':=?_) #[Y,Y,Y,Y,Y,Y,Y,Y,Y,Y,Y,Y,Z,Z,Z,Z,Z,Z,Z,Z,Z,Z,Z,Z,Z,Z,Z,Z,Z,Z,Z,Z,Z,Z,Z,Z,Z] rfl rfl (any_of HT_.out (by kernel_rfl)) (fun _ _ _ h=>h) (Or.inl ⟨by rfl,?_⟩) ?_ ?_
          rotate_left
          ·intro w';go_simp;with_reducible rfl
          rotate_left
          ·simp only [Act.put,sa_,sb_,sc_,i64_w];rfl
          refine pure_ (i:=12) (N:=some 101) (v:=?_) (a':=?_) #[Y,Y,Y,Y,Y,Y,Y,Y,Y,Y,Y,Y,Y,Z,Z,Z,Z,Z,Z,Z,Z,Z,Z,Z,Z,Z,Z,Z,Z,Z,Z,Z,Z,Z,Z,Z,Z] rfl rfl (any_of HT_.out (by kernel_rfl)) (fun _ _ _ h=>h) (Or.inl ⟨by rfl,?_⟩) ?_ ?_
          rotate_left
          ·intro w';go_simp;with_reducible rfl
          rotate_left
          ·simp only [Act.put,sa_,sb_,sc_,i64_w];rfl
          refine pure_ (i:=13) (N:=some 102) (v:=undef) (a':=?_) #[Y,Y,Y,Y,Y,Y,Y,Y,Y,Y,Y,Y,Y,Y,Z,Z,Z,Z,Z,Z,Z,Z,Z,Z,Z,Z,Z,Z,Z,Z,Z,Z,Z,Z,Z,Z,Z] rfl rfl (any_of HT_.out (by kernel_rfl)) (fun _ _ _ h=>h) (Or.inr ⟨by rfl,rfl⟩) ?_ ?_
          rotate_left
          ·simp only [Act.put,sa_,sb_,sc_,i64_w];rfl
          refine pure_ (i:=14) (N:=some 103) (v:=undef) (a':=?_) #[Y,Y,Y,Y,Y,Y,Y,Y,Y,Y,Y,Y,Y,Y,Y,Z,Z,Z,Z,Z,Z,Z,Z,Z,Z,Z,Z,Z,Z,Z,Z,Z,Z,Z,Z,Z,Z] rfl rfl (any_of HT_.out (by kernel_rfl)) (fun _ _ _ h=>h) (Or.inr ⟨by rfl,rfl⟩) ?_ ?_
          rotate_left
          ·simp only [Act.put,sa_,sb_,sc_,i64_w];rfl
          refine pure_ (i:=15) (N:=some 104) (v:=undef) (a':=?_) #[Y,Y,Y,Y,Y,Y,Y,Y,Y,Y,Y,Y,Y,Y,Y,Y,Z,Z,Z,Z,Z,Z,Z,Z,Z,Z,Z,Z,Z,Z,Z,Z,Z,Z,Z,Z,Z] rfl rfl (any_of HT_.out (by kernel_rfl)) (fun _ _ _ h=>h) (Or.inr ⟨by rfl,rfl⟩) ?_ ?_
          rotate_left
          ·simp only [Act.put,sa_,sb_,sc_,i64_w];rfl
          refine pure_ (i:=16) (N:=some 105) (v:=undef) (a':=?_) #[Y,Y,Y,Y,Y,Y,Y,Y,Y,Y,Y,Y,Y,Y,Y,Y,Y,Z,Z,Z,Z,Z,Z,Z,Z,Z,Z,Z,Z,Z,Z,Z,Z,Z,Z,Z,Z] rfl rfl (any_of HT_.out (by kernel_rfl)) (fun _ _ _ h=>h) (Or.inr ⟨by rfl,rfl⟩) ?_ ?_
          rotate_left
          ·simp only [Act.put,sa_,sb_,sc_,i64_w];rfl
          refine pure_ (i:=17) (N:=some 106) (v:=undef) (a':=?_) #[Y,Y,Y,Y,Y,Y,Y,Y,Y,Y,Y,Y,Y,Y,Y,Y,Y,Y,Z,Z,Z,Z,Z,Z,Z,Z,Z,Z,Z,Z,Z,Z,Z,Z,Z,Z,Z] rfl rfl (any_of HT_.out (by kernel_rfl)) (fun _ _ _ h=>h) (Or.inr ⟨by rfl,rfl⟩) ?_ ?_
          rotate_left
          ·simp only [Act.put,sa_,sb_,sc_,i64_w];rfl
          refine pure_ (i:=18) (N:=some 107) (v:=undef) (a':=?_) #[Y,Y,Y,Y,Y,Y,Y,Y,Y,Y,Y,Y,Y,Y,Y,Y,Y,Y,Y,Z,Z,Z,Z,Z,Z,Z,Z,Z,Z,Z,Z,Z,Z,Z,Z,Z,Z] rfl rfl (any_of HT_.out (by kernel_rfl)) (fun _ _ _ h=>h) (Or.inr ⟨by rfl,rfl⟩) ?_ ?_
          rotate_left
          ·simp only [Act.put,sa_,sb_,sc_,i64_w];rfl
          refine pure_ (i:=19) (N:=some 108) (v:=undef) (a':=?_) #[Y,Y,Y,Y,Y,Y,Y,Y,Y,Y,Y,Y,Y,Y,Y,Y,Y,Y,Y,Y,Z,Z,Z,Z,Z,Z,Z,Z,Z,Z,Z,Z,Z,Z,Z,Z,Z] rfl rfl (any_of HT_.out (by kernel_rfl)) (fun _ _ _ h=>h) (Or.inr ⟨by rfl,rfl⟩) ?_ ?_
          rotate_left
          ·simp only [Act.put,sa_,sb_,sc_,i64_w];rfl
          refine pure_ (i:=20) (N:=some 109) (v:=undef) (a':=?_) #[Y,Y,Y,Y,Y,Y,Y,Y,Y,Y,Y,Y,Y,Y,Y,Y,Y,Y,Y,Y,Y,Z,Z,Z,Z,Z,Z,Z,Z,Z,Z,Z,Z,Z,Z,Z,Z] rfl rfl (any_of HT_.out (by kernel_rfl)) (fun _ _ _ h=>h) (Or.inr ⟨by rfl,rfl⟩) ?_ ?_
          rotate_left
          ·simp only [Act.put,sa_,sb_,sc_,i64_w];rfl
          refine pure_ (i:=21) (N:=some 110) (v:=undef) (a':=?_) #[Y,Y,Y,Y,Y,Y,Y,Y,Y,Y,Y,Y,Y,Y,Y,Y,Y,Y,Y,Y,Y,Y,Z,Z,Z,Z,Z,Z,Z,Z,Z,Z,Z,Z,Z,Z,Z] rfl rfl (any_of HT_.out (by kernel_rfl)) (fun _ _ _ h=>h) (Or.inr ⟨by rfl,rfl⟩) ?_ ?_
          rotate_left
          ·simp only [Act.put,sa_,sb_,sc_,i64_w];rfl
          refine pure_ (i:=22) (N:=some 111) (v:=undef) (a':=?_) #[Y,Y,Y,Y,Y,Y,Y,Y,Y,Y,Y,Y,Y,Y,Y,Y,Y,Y,Y,Y,Y,Y,Y,Z,Z,Z,Z,Z,Z,Z,Z,Z,Z,Z,Z,Z,Z] rfl rfl (any_of HT_.out (by kernel_rfl)) (fun _ _ _ h=>h) (Or.inr ⟨by rfl,rfl⟩) ?_ ?_
          rotate_left
          ·simp only [Act.put,sa_,sb_,sc_,i64_w];rfl
          refine pure_ (i:=23) (N:=some 112) (v:=undef) (a':=?_) #[Y,Y,Y,Y,Y,Y,Y,Y,Y,Y,Y,Y,Y,Y,Y,Y,Y,Y,Y,Y,Y,Y,Y,Y,Z,Z,Z,Z,Z,Z,Z,Z,Z,Z,Z,Z,Z] rfl rfl (any_of HT_.out (by kernel_rfl)) (fun _ _ _ h=>h) (Or.inr ⟨by rfl,rfl⟩) ?_ ?_
          rotate_left
          ·simp only [Act.put,sa_,sb_,sc_,i64_w];rfl
          refine pure_ (i:=24) (N:=some 113) (v:=undef) (a':=?_) #[Y,Y,Y,Y,Y,Y,Y,Y,Y,Y,Y,Y,Y,Y,Y,Y,Y,Y,Y,Y,Y,Y,Y,Y,Y,Z,Z,Z,Z,Z,Z,Z,Z,Z,Z,Z,Z] rfl rfl (any_of HT_.out (by kernel_rfl)) (fun _ _ _ h=>h) (Or.inr ⟨by rfl,rfl⟩) ?_ ?_
          rotate_left
          ·simp only [Act.put,sa_,sb_,sc_,i64_w];rfl
          refine pure_ (i:=25) (N:=some 114) (v:=undef) (a':=?_) #[Y,Y,Y,Y,Y,Y,Y,Y,Y,Y,Y,Y,Y,Y,Y,Y,Y,Y,Y,Y,Y,Y,Y,Y,Y,Y,Z,Z,Z,Z,Z,Z,Z,Z,Z,Z,Z] rfl rfl (any_of HT_.out (by kernel_rfl)) (fun _ _ _ h=>h) (Or.inr ⟨by rfl,rfl⟩) ?_ ?_
          rotate_left
          ·simp only [Act.put,sa_,sb_,sc_,i64_w];rfl
          refine pure_ (i:=26) (N:=some 115) (v:=?_) (a':=?_) #[Y,Y,Y,Y,Y,Y,Y,Y,Y,Y,Y,Y,Y,Y,Y,Y,Y,Y,Y,Y,Y,Y,Y,Y,Y,Y,Y,Z,Z,Z,Z,Z,Z,Z,Z,Z,Z] rfl rfl (any_of HT_.out (by kernel_rfl)) (fun _ _ _ h=>h) (Or.inl ⟨by rfl,?_⟩) ?_ ?_
          rotate_left
          ·intro w';go_simp;with_reducible rfl
          rotate_left
          ·simp only [Act.put,sa_,sb_,sc_,i64_w];rfl
          refine pure_ (i:=27) (N:=some 116) (v:=?_) (a':=?_) #[Y,Y,Y,Y,Y,Y,Y,Y,Y,Y,Y,Y,Y,Y,Y,Y,Y,Y,Y,Y,Y,Y,Y,Y,Y,Y,Y,Y,Z,Z,Z,Z,Z,Z,Z,Z,Z] rfl rfl (any_of HT_.out (by kernel_rfl)) (fun _ _ _ h=>h) (Or.inl ⟨by rfl,?_⟩) ?_ ?_
          rotate_left
          ·intro w';go_simp;with_reducible rfl
          rotate_left
          ·simp only [Act.put,sa_,sb_,sc_,i64_w];rfl
          refine pure_ (i:=28) (N:=some 117) (v:=undef) (a':=?_) #[Y,Y,Y,Y,Y,Y,Y,Y,Y,Y,Y,Y,Y,Y,Y,Y,Y,Y,Y,Y,Y,Y,Y,Y,Y,Y,Y,Y,Y,Z,Z,Z,Z,Z,Z,Z,Z] rfl rfl (any_of HT_.out (by kernel_rfl)) (fun _ _ _ h=>h) (Or.inr ⟨by rfl,rfl⟩) ?_ ?_
          rotate_left
          ·simp only [Act.put,sa_,sb_,sc_,i64_w];rfl
          refine pure_ (i:=29) (N:=some 118) (v:=undef) (a':=?_) #[Y,Y,Y,Y,Y,Y,Y,Y,Y,Y,Y,Y,Y,Y,Y,Y,Y,Y,Y,Y,Y,Y,Y,Y,Y,Y,Y,Y,Y,Y,Z,Z,Z,Z,Z,Z,Z] rfl rfl (any_of HT_.out (by kernel_rfl)) (fun _ _ _ h=>h) (Or.inr ⟨by rfl,rfl⟩) ?_ ?_
          rotate_left
          ·simp only [Act.put,sa_,sb_,sc_,i64_w];rfl
          refine pure_ (i:=30) (N:=some 119) (v:=undef) (a':=?_) #[Y,Y,Y,Y,Y,Y,Y,Y,Y,Y,Y,Y,Y,Y,Y,Y,Y,Y,Y,Y,Y,Y,Y,Y,Y,Y,Y,Y,Y,Y,Y,Z,Z,Z,Z,Z,Z] rfl rfl (any_of HT_.out (by kernel_rfl)) (fun _ _ _ h=>h) (Or.inr ⟨by rfl,rfl⟩) ?_ ?_
          rotate_left
          ·simp only [Act.put,sa_,sb_,sc_,i64_w];rfl
          refine pure_ (i:=31) (N:=some 120) (v:=undef) (a':=?_) #[Y,Y,Y,Y,Y,Y,Y,Y,Y,Y,Y,Y,Y,Y,Y,Y,Y,Y,Y,Y,Y,Y,Y,Y,Y,Y,Y,Y,Y,Y,Y,Y,Z,Z,Z,Z,Z] rfl rfl (any_of HT_.out (by kernel_rfl)) (fun _ _ _ h=>h) (Or.inr ⟨by rfl,rfl⟩) ?_ ?_
          rotate_left
          ·simp only [Act.put,sa_,sb_,sc_,i64_w];rfl
          refine pure_ (i:=32) (N:=some 121) (v:=undef) (a':=?_) #[Y,Y,Y,Y,Y,Y,Y,Y,Y,Y,Y,Y,Y,Y,Y,Y,Y,Y,Y,Y,Y,Y,Y,Y,Y,Y,Y,Y,Y,Y,Y,Y,Y,Z,Z,Z,Z] rfl rfl (any_of HT_.out (by kernel_rfl)) (fun _ _ _ h=>h) (Or.inr ⟨by rfl,rfl⟩) ?_ ?_
          rotate_left
          ·simp only [Act.put,sa_,sb_,sc_,i64_w];rfl
          refine pure_ (i:=33) (N:=some 122) (v:=undef) (a':=?_) #[Y,Y,Y,Y,Y,Y,Y,Y,Y,Y,Y,Y,Y,Y,Y,Y,Y,Y,Y,Y,Y,Y,Y,Y,Y,Y,Y,Y,Y,Y,Y,Y,Y,Y,Z,Z,Z] rfl rfl (any_of HT_.out (by kernel_rfl)) (fun _ _ _ h=>h) (Or.inr ⟨by rfl,rfl⟩) ?_ ?_
          rotate_left
          ·simp only [Act.put,sa_,sb_,sc_,i64_w];rfl
          refine pure_ (i:=34) (N:=some 123) (v:=undef) (a':=?_) #[Y,Y,Y,Y,Y,Y,Y,Y,Y,Y,Y,Y,Y,Y,Y,Y,Y,Y,Y,Y,Y,Y,Y,Y,Y,Y,Y,Y,Y,Y,Y,Y,Y,Y,Y,Z,Z] rfl rfl (any_of HT_.out (by kernel_rfl)) (fun _ _ _ h=>h) (Or.inr ⟨by rfl,rfl⟩) ?_ ?_
          rotate_left
          ·simp only [Act.put,sa_,sb_,sc_,i64_w];rfl
          refine pure_ (i:=35) (N:=some 124) (v:=?_) (a':=?_) #[Y,Y,Y,Y,Y,Y,Y,Y,Y,Y,Y,Y,Y,Y,Y,Y,Y,Y,Y,Y,Y,Y,Y,Y,Y,Y,Y,Y,Y,Y,Y,Y,Y,Y,Y,Y,Z] rfl rfl (any_of HT_.out (by kernel_rfl)) (fun _ _ _ h=>h) (Or.inl ⟨by rfl,?_⟩) ?_ ?_
          rotate_left
          ·intro w';go_simp;with_reducible rfl
          rotate_left
          ·simp only [Act.put,sa_,sb_,sc_,i64_w];rfl
          refine pure_ (i:=36) (N:=some 2) (v:=?_) (a':=?_) #[Y,Y,Y,Y,Y,Y,Y,Y,Y,Y,Y,Y,Y,Y,Y,Y,Y,Y,Y,Y,Y,Y,Y,Y,Y,Y,Y,Y,Y,Y,Y,Y,Y,Y,Y,Y,Y] rfl rfl (any_of HT_.out (by kernel_rfl)) (fun _ _ _ h=>h) (Or.inl ⟨by rfl,?_⟩) ?_ ?_
          rotate_left
          ·intro w';go_simp;with_reducible rfl
          rotate_left
          ·simp only [Act.put,sa_,sb_,sc_,i64_w];rfl
          refine done_ (done_of HT_.out (by kernel_rfl)) ?_
          try go_wp2
          go_ret
          exact⟨by first|rfl|(simp [errW_none,errW_some] <;> rfl)|(simp [*,errW_none,errW_some] <;> rfl),by repeat (first|(with_reducible first|exact HB.out|apply by5|apply ay5|apply cy5|refine dy5 ?_ GE539.out|refine dy5 ?_ GE547.out|refine dy5 ?_ GE572.out|refine dy5 ?_ GE577.out)|exact HB.out)⟩
        ·rw [if_neg c52] at H
         have c52b0 : (t535 == 0) = false:=beq_eq_false_iff_ne.mpr c52
         have c52b1 : (t535 != 0) = true:=bne_iff_ne.mpr c52
         obtain rfl:=Option.some.inj H
         have hnb154:=NB539_547.out
         have hnc154:=NB547_539.out
         have hcz155_0 : wc.cell? ⟨gb539,0,none⟩ = some (.int .i64 t535):=(blk_cell BK539.out 0).trans rfl
         have hcz155_1 : wc.cell? ⟨gb539,1,none⟩ = some (.slice Ao13 t536.length co13):=(blk_cell BK539.out 1).trans rfl
         have hfz155_0:=blk_frozen BK539.out 0
         have hfz155_1:=blk_frozen BK539.out 1
         go_wp2
         go_ret
         exact⟨by first|rfl|(simp [errW_none,errW_some] <;> rfl)|(simp [*,errW_none,errW_some] <;> rfl),by repeat (first|(with_reducible first|exact HB.out|apply by5|apply ay5|apply cy5|refine dy5 ?_ GE539.out|refine dy5 ?_ GE547.out)|exact HB.out)⟩

/- THE ONE PURE STATEMENT of laws_FnNonces: yours. -/

end Go.Proofs.Ytofickldnpndbaa.All
