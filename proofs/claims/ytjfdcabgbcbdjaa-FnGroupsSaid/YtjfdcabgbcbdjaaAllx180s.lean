-- Laid by wip/shake.py of this repo out of this claim's texts. Not trusted: Lean checks it.
import Derived.Test.YtjfdcabgbcbdjaaAlgs
import Derived.Test.YtjfdcabgbcbdjaaAllx20s
import Derived.Test.YtjfdcabgbcbdjaaAllx174s
import Derived.Test.YtjfdcabgbcbdjaaAllx177s
import Derived.Test.YtjfdcabgbcbdjaaAllx522s
import Derived.Test.YtjfdcabgbcbdjaaAllx178s
import Derived.Test.YtjfdcabgbcbdjaaAllx524s
import Derived.Test.YtjfdcabgbcbdjaaAllx97s
import Derived.Test.YtjfdcabgbcbdjaaAllx105s
import Derived.Test.YtjfdcabgbcbdjaaAllx179s
namespace Go.Proofs.Ytjfdcabgbcbdjaa.All
open Go.RowKit Go.Proofs.YtjfdcabgbcbdjaaW.PrintWords Go.Proofs.YtjfdcabgbcbdjaaW.PrintLast Go.Proofs.YtjfdcabgbcbdjaaW.PrintMore
attribute [local go_sem] max2_int min2_int max_two min_two max_three min_three max_four min_four
set_option linter.unusedVariables false
set_option linter.unusedSimpArgs false
open Bool renaming true → Y, false → Z
open List renaming setIfInBounds_toArray → sa_, set_cons_zero → sb_, set_cons_succ → sc_
open Go.Proofs.YtjfdcabgbcbdjaaW.PrintWords.Kd renaming R_alloc → az7, R_drewN → bz7, R_drew → cz7, R_below → dz7, R_far → ez7, R_base → fz7, R_mono → gz7, R_types → hz7, R_reads' → iz7, R_elder' → jz7, R_new' → kz7
open Go.Proofs.YtjfdcabgbcbdjaaW.PrintWords renaming pw_below_drewN → ay7, below_alloc → by7, below_drew1 → cy7, below_set → dy7, blk_drewN → ey7, blk_alloc → fy7, blk_drew → gy7, blk_below → hy7
open Aside0 renaming mk → zz7
attribute [local go_sem] fldGroups26_0 fldGroups26_1
set_option maxHeartbeats 8000000 in
set_option maxRecDepth 100000 in
theorem laws_FnGroups.calls (k : Nat) (A0 : Option Addr) (c0 : Nat) (l0 : List Int) (r : Bool) (w : World) (hr0 : Kd.C (Kd.int .u8) w A0 l0.length l0) (hc0 : l0.length ≤ c0) (h : laws_FnGroups.f k l0 = some r) (hrt : r = true) :
  Calls Try.prog 7 #[.slice A0 l0.length c0] w fun e w'=>e = .returned (.bool r) ∧ Below w.heap.size w w':=by
 have HRT:=zz7 hrt
 clear hrt
 have hu26:=Try.underlying26
 have HR0:=zz7 hr0
 have HC0:=zz7 hc0
 clear hr0 hc0
 have HB:=zz7 (Below.refl w.heap.size w)
 have H : ((laws_lwBig.f l0).bind fun bE=>(if bE = true then (some true) else ((spec_DrawGroupTimes.f k l0).bind fun bt669=>((impl_GroupTimes.f k bt669.1 bt669.2).bind fun bt675=>((spec_DrawHashAll.f k l0).bind fun bt680=>((impl_HashAll.f bt680.1 bt680.2).bind fun bt686=>((spec_GroupTimes.f k bt669.1 bt669.2).bind fun bt691=>(if bt675.1 = bt691.1 then ((spec_HashAll.f k bt680.1 bt680.2).bind fun bt695=>(if bt686.1 = bt695.1 then ((spec_HashAll.f k bt680.1 bt680.2).bind fun bt699=>((laws_lwSame.f bt686.2 bt699.2).bind fun aV=>(laws_FnGroups.j0 k l0 bt669.1 bt669.2 bt680.1 bt680.2 (!aV) bt675.1 bt675.2 bt686.1 bt686.2))) else (laws_FnGroups.j0 k l0 bt669.1 bt669.2 bt680.1 bt680.2 true bt675.1 bt675.2 bt686.1 bt686.2))) else (laws_FnGroups.j0 k l0 bt669.1 bt669.2 bt680.1 bt680.2 true bt675.1 bt675.2 bt686.1 bt686.2))))))))) = some r:=h
 clear h
 replace H:=Option.bind_eq_some_iff.mp H
 obtain⟨bE,A20,H⟩:=H
 replace H : (if bE = true then (some true) else ((spec_DrawGroupTimes.f k l0).bind fun bt669=>((impl_GroupTimes.f k bt669.1 bt669.2).bind fun bt675=>((spec_DrawHashAll.f k l0).bind fun bt680=>((impl_HashAll.f bt680.1 bt680.2).bind fun bt686=>((spec_GroupTimes.f k bt669.1 bt669.2).bind fun bt691=>(if bt675.1 = bt691.1 then ((spec_HashAll.f k bt680.1 bt680.2).bind fun bt695=>(if bt686.1 = bt695.1 then ((spec_HashAll.f k bt680.1 bt680.2).bind fun bt699=>((laws_lwSame.f bt686.2 bt699.2).bind fun aV=>(laws_FnGroups.j0 k l0 bt669.1 bt669.2 bt680.1 bt680.2 (!aV) bt675.1 bt675.2 bt686.1 bt686.2))) else (laws_FnGroups.j0 k l0 bt669.1 bt669.2 bt680.1 bt680.2 true bt675.1 bt675.2 bt686.1 bt686.2))) else (laws_FnGroups.j0 k l0 bt669.1 bt669.2 bt680.1 bt680.2 true bt675.1 bt675.2 bt686.1 bt686.2)))))))) = some r:=H
 have A2:=zz7 A20
 clear A20
 by_cases c3 : bE = true
 ·subst c3
  have H1 : (some true) = some r:=by rw [if_pos rfl] at H;exact H
  clear H
  have H:=H1
  clear H1
  obtain rfl:=Option.some.inj H
  go_enter Try.func7,Try.ntmps7
  go_wp2_with (first|((with_reducible refine gate_callee (f:=11) rfl ?_);refine goesL_ (some 15) rfl rfl Try.func11 (by kernel_rfl) rfl #[.slice A0 l0.length c0] rfl (by (try simp only [List.map_toArray,List.map_cons,List.map_nil]);first|done|rfl|(simp only [List.length_drop,List.length_take];rfl)) ?_;(with_reducible refine (laws_lwBig.calls _ _ l0 true _ ?side1 ?side2 A2.out).mono ?_);(case side1=>repeat (first|exact HR0.out|(with_reducible refine Kd.C_alloc ?_ _)|(with_reducible refine Kd.C_drewN ?_ _)|(with_reducible refine Kd.C_drew ?_)));(case side2=>exact HC0.out);rintro e w' ⟨rfl,⟨nd,rfl⟩⟩;refine ⟨_,rfl,?_⟩))
  go_ret
  exact⟨by first|rfl|(simp [errW_none,errW_some] <;> rfl)|(simp [*,errW_none,errW_some] <;> rfl),by repeat (first|(with_reducible first|exact HB.out|apply by7|apply ay7|apply cy7)|exact HB.out)⟩
 ·replace c3:=Bool.eq_false_iff.mpr c3
  subst c3
  have H1 : ((spec_DrawGroupTimes.f k l0).bind fun bt669=>((impl_GroupTimes.f k bt669.1 bt669.2).bind fun bt675=>((spec_DrawHashAll.f k l0).bind fun bt680=>((impl_HashAll.f bt680.1 bt680.2).bind fun bt686=>((spec_GroupTimes.f k bt669.1 bt669.2).bind fun bt691=>(if bt675.1 = bt691.1 then ((spec_HashAll.f k bt680.1 bt680.2).bind fun bt695=>(if bt686.1 = bt695.1 then ((spec_HashAll.f k bt680.1 bt680.2).bind fun bt699=>((laws_lwSame.f bt686.2 bt699.2).bind fun aV=>(laws_FnGroups.j0 k l0 bt669.1 bt669.2 bt680.1 bt680.2 (!aV) bt675.1 bt675.2 bt686.1 bt686.2))) else (laws_FnGroups.j0 k l0 bt669.1 bt669.2 bt680.1 bt680.2 true bt675.1 bt675.2 bt686.1 bt686.2))) else (laws_FnGroups.j0 k l0 bt669.1 bt669.2 bt680.1 bt680.2 true bt675.1 bt675.2 bt686.1 bt686.2))))))) = some r:=by rw [if_neg (show ¬ (false = true) by decide)] at H;exact H
  clear H
  have H:=H1
  clear H1
  replace H:=Option.bind_eq_some_iff.mp H
  obtain⟨⟨aE,aG⟩,A40,H⟩:=H
  replace H : ((impl_GroupTimes.f k aE aG).bind fun bt675=>((spec_DrawHashAll.f k l0).bind fun bt680=>((impl_HashAll.f bt680.1 bt680.2).bind fun bt686=>((spec_GroupTimes.f k aE aG).bind fun bt691=>(if bt675.1 = bt691.1 then ((spec_HashAll.f k bt680.1 bt680.2).bind fun bt695=>(if bt686.1 = bt695.1 then ((spec_HashAll.f k bt680.1 bt680.2).bind fun bt699=>((laws_lwSame.f bt686.2 bt699.2).bind fun aV=>(laws_FnGroups.j0 k l0 aE aG bt680.1 bt680.2 (!aV) bt675.1 bt675.2 bt686.1 bt686.2))) else (laws_FnGroups.j0 k l0 aE aG bt680.1 bt680.2 true bt675.1 bt675.2 bt686.1 bt686.2))) else (laws_FnGroups.j0 k l0 aE aG bt680.1 bt680.2 true bt675.1 bt675.2 bt686.1 bt686.2)))))) = some r:=H
  have A4:=zz7 A40
  clear A40
  replace H:=Option.bind_eq_some_iff.mp H
  obtain⟨⟨aI,aC⟩,A50,H⟩:=H
  replace H : ((spec_DrawHashAll.f k l0).bind fun bt680=>((impl_HashAll.f bt680.1 bt680.2).bind fun bt686=>((spec_GroupTimes.f k aE aG).bind fun bt691=>(if aI = bt691.1 then ((spec_HashAll.f k bt680.1 bt680.2).bind fun bt695=>(if bt686.1 = bt695.1 then ((spec_HashAll.f k bt680.1 bt680.2).bind fun bt699=>((laws_lwSame.f bt686.2 bt699.2).bind fun aV=>(laws_FnGroups.j0 k l0 aE aG bt680.1 bt680.2 (!aV) aI aC bt686.1 bt686.2))) else (laws_FnGroups.j0 k l0 aE aG bt680.1 bt680.2 true aI aC bt686.1 bt686.2))) else (laws_FnGroups.j0 k l0 aE aG bt680.1 bt680.2 true aI aC bt686.1 bt686.2))))) = some r:=H
  have A5:=zz7 A50
  clear A50
  replace H:=Option.bind_eq_some_iff.mp H
  obtain⟨⟨aJ,aH⟩,A60,H⟩:=H
  replace H : ((impl_HashAll.f aJ aH).bind fun bt686=>((spec_GroupTimes.f k aE aG).bind fun bt691=>(if aI = bt691.1 then ((spec_HashAll.f k aJ aH).bind fun bt695=>(if bt686.1 = bt695.1 then ((spec_HashAll.f k aJ aH).bind fun bt699=>((laws_lwSame.f bt686.2 bt699.2).bind fun aV=>(laws_FnGroups.j0 k l0 aE aG aJ aH (!aV) aI aC bt686.1 bt686.2))) else (laws_FnGroups.j0 k l0 aE aG aJ aH true aI aC bt686.1 bt686.2))) else (laws_FnGroups.j0 k l0 aE aG aJ aH true aI aC bt686.1 bt686.2)))) = some r:=H
  have A6:=zz7 A60
  clear A60
  replace H:=Option.bind_eq_some_iff.mp H
  obtain⟨⟨aD,aA⟩,A70,H⟩:=H
  replace H : ((spec_GroupTimes.f k aE aG).bind fun bt691=>(if aI = bt691.1 then ((spec_HashAll.f k aJ aH).bind fun bt695=>(if aD = bt695.1 then ((spec_HashAll.f k aJ aH).bind fun bt699=>((laws_lwSame.f aA bt699.2).bind fun aV=>(laws_FnGroups.j0 k l0 aE aG aJ aH (!aV) aI aC aD aA))) else (laws_FnGroups.j0 k l0 aE aG aJ aH true aI aC aD aA))) else (laws_FnGroups.j0 k l0 aE aG aJ aH true aI aC aD aA))) = some r:=H
  have A7:=zz7 A70
  clear A70
  have HC8:=zz7 H
  clear H
  go_enter Try.func7,Try.ntmps7
  go_upto_region 7 with (first|((with_reducible refine gate_callee (f:=11) rfl ?_);refine goesL_ (some 15) rfl rfl Try.func11 (by kernel_rfl) rfl #[.slice A0 l0.length c0] rfl (by (try simp only [List.map_toArray,List.map_cons,List.map_nil]);first|done|rfl|(simp only [List.length_drop,List.length_take];rfl)) ?_;(with_reducible refine (laws_lwBig.calls _ _ l0 false _ ?side1 ?side2 A2.out).mono ?_);(case side1=>repeat (first|exact HR0.out|(with_reducible refine Kd.C_alloc ?_ _)|(with_reducible refine Kd.C_drewN ?_ _)|(with_reducible refine Kd.C_drew ?_)));(case side2=>exact HC0.out);rintro e w' ⟨rfl,⟨nd,rfl⟩⟩;refine ⟨_,rfl,?_⟩)|((with_reducible refine gate_callee (f:=43) rfl ?_);refine goesL_ (some 18) rfl rfl Try.func43 (by kernel_rfl) rfl #[.slice A0 l0.length c0] rfl (by (try simp only [List.map_toArray,List.map_cons,List.map_nil]);first|done|rfl|(simp only [List.length_drop,List.length_take];rfl)) ?_;(with_reducible refine (spec_DrawGroupTimes.calls k _ _ l0 aE aG _ ?side1 ?side2 A4.out).mono ?_);(case side1=>repeat (first|exact HR0.out|(with_reducible refine Kd.C_alloc ?_ _)|(with_reducible refine Kd.C_drewN ?_ _)|(with_reducible refine Kd.C_drew ?_)));(case side2=>exact HC0.out);rintro e w9 ⟨v671,v673,rfl,ho0,ho1,hb⟩;refine ⟨_,rfl,?_⟩;have n0_:=zz7 (Kd.R_lower ho0 (below_size (by repeat(first|(with_reducible first|exact HB.out|apply by7|apply ay7|apply cy7)|exact HB.out))));have n1_:=zz7 (Kd.R_lower ho1 (below_size (by repeat(first|(with_reducible first|exact HB.out|apply by7|apply ay7|apply cy7)|exact HB.out))));have n2_:=zz7 (below_step (by repeat(first|(with_reducible first|exact HB.out|apply by7|apply ay7|apply cy7)|exact HB.out)) hb);clear HB;have HO672:=n0_;have HO674:=n1_;have HB:=n2_;clear n0_ n1_ n2_;(try clear hb);(try clear hb2);(try clear hk);(try clear hi);(try clear ho0);(try clear ho1);obtain⟨Ao10,co10,eo10⟩:=Kd.R_slice HO672.out;subst eo10;obtain⟨Ao11,co11,eo11⟩:=Kd.R_slice HO674.out;subst eo11)|((with_reducible refine gate_callee (f:=44) rfl ?_);refine goesL_ (some 23) rfl rfl Try.func44 (by kernel_rfl) rfl #[.slice Ao10 aE.length co10,.slice Ao11 aG.length co11] rfl (by (try simp only [List.map_toArray,List.map_cons,List.map_nil]);first|done|rfl|(simp only [List.length_drop,List.length_take];rfl)) ?_;(with_reducible refine (impl_GroupTimes.calls k _ _ aE _ _ aG aI aC _ ?side1 ?side2 ?side3 ?side4 A5.out).mono ?_);(case side1=>repeat (first|exact (iz7 HO672.out).2.2|(with_reducible refine Kd.C_alloc ?_ _)|(with_reducible refine Kd.C_drewN ?_ _)|(with_reducible refine Kd.C_drew ?_)));(case side2=>exact (iz7 HO672.out).2.1);(case side3=>repeat (first|exact (iz7 HO674.out).2.2|(with_reducible refine Kd.C_alloc ?_ _)|(with_reducible refine Kd.C_drewN ?_ _)|(with_reducible refine Kd.C_drew ?_)));(case side4=>exact (iz7 HO674.out).2.1);rintro e w12 ⟨v677,rfl,ho0,hb⟩;refine ⟨_,rfl,?_⟩;have n0_:=zz7 (jz7 (by (with_reducible repeat (first|apply az7|apply bz7|apply cz7));exact HO672.out) (fz7 ho0) hb);have n1_:=zz7 (jz7 (by (with_reducible repeat (first|apply az7|apply bz7|apply cz7));exact HO674.out) (fz7 ho0) hb);have n2_:=zz7 (Kd.R_lower (kz7 (kz7 ho0 (Kd.R_lt (by (with_reducible repeat (first|apply az7|apply bz7|apply cz7));exact HO672.out))) (Kd.R_lt (by (with_reducible repeat (first|apply az7|apply bz7|apply cz7));exact HO674.out))) (below_size (by repeat(first|(with_reducible first|exact HB.out|apply by7|apply ay7|apply cy7)|exact HB.out))));have n3_:=zz7 (below_step (by repeat(first|(with_reducible first|exact HB.out|apply by7|apply ay7|apply cy7)|exact HB.out)) hb);clear HO672;clear HO674;clear HB;have HO672:=n0_;have HO674:=n1_;have HO678:=n2_;have HB:=n3_;clear n0_ n1_ n2_ n3_;(try clear hb);(try clear hb2);(try clear hk);(try clear hi);(try clear ho0))|((with_reducible refine gate_dst (N:=5) rfl ?_);refine box_event ?hg (N:=5) ?hd (cs:=#[.int .i64 0,.slice none 0 0]) (t:=26) ?hr ?_;(case hd=>rfl);(case hg=>rfl);(case hr=>first|(go_simp;done)|(go_simp;rfl));intro gb679 hg w13 hbox hb;have n0_:=zz7 (dz7 (by (with_reducible repeat (first|apply az7|apply bz7|apply cz7));exact HO672.out) hb);have n1_:=zz7 (dz7 (by (with_reducible repeat (first|apply az7|apply bz7|apply cz7));exact HO674.out) hb);have n2_:=zz7 (dz7 (by (with_reducible repeat (first|apply az7|apply bz7|apply cz7));exact HO678.out) hb);have n3_:=zz7 (below_step (by repeat(first|(with_reducible first|exact HB.out|apply by7|apply ay7|apply cy7)|exact HB.out)) hb);have n4_:=zz7 (hbox);have n5_:=zz7 ((by rw [hg];exact (below_size (by repeat(first|(with_reducible first|exact HB.out|apply by7|apply ay7|apply cy7)|exact HB.out))) : w.heap.size ≤ gb679));have n6_:=zz7 ((by rw [hg];exact (below_size (by repeat(first|(with_reducible first|exact HB.out|apply by7|apply ay7|apply cy7)|exact HB.out))) : w.heap.size ≤ gb679));clear HO672;clear HO674;clear HO678;clear HB;have HO672:=n0_;have HO674:=n1_;have HO678:=n2_;have HB:=n3_;have BK679:=n4_;have GW679:=n5_;have GE679:=n6_;clear n0_ n1_ n2_ n3_ n4_ n5_ n6_;clear hb hbox hg;have hcz14_0 : w13.cell? ⟨gb679,0,none⟩ = some (.int .i64 0):=(blk_cell BK679.out 0).trans rfl;have hcz14_1 : w13.cell? ⟨gb679,1,none⟩ = some (.slice none 0 0):=(blk_cell BK679.out 1).trans rfl;have hfz14_0:=blk_frozen BK679.out 0;have hfz14_1:=blk_frozen BK679.out 1;obtain⟨Ao15,co15,eo15⟩:=Kd.R_slice HO678.out;subst eo15)|((with_reducible refine gate_callee (f:=45) rfl ?_);refine goesL_ (some 26) rfl rfl Try.func45 (by kernel_rfl) rfl #[.slice A0 l0.length c0] rfl (by (try simp only [List.map_toArray,List.map_cons,List.map_nil]);first|done|rfl|(simp only [List.length_drop,List.length_take];rfl)) ?_;(with_reducible refine (spec_DrawHashAll.calls k _ _ l0 aJ aH _ ?side1 ?side2 A6.out).mono ?_);(case side1=>exact Kd.C_below HR0.out (by repeat(first|(with_reducible first|exact HB.out|apply by7|apply ay7|apply cy7|refine dy7 ?_ GE679.out)|exact HB.out)));(case side2=>exact HC0.out);rintro e w16 ⟨v682,v684,rfl,ho0,ho1,hb⟩;refine ⟨_,rfl,?_⟩;have n0_:=zz7 (gz7 (Kd.R_told (Kd.R_told (Kd.R_old (by (with_reducible repeat (first|apply az7|apply bz7|apply cz7));exact (gz7 (ez7 (p:=⟨gb679,1,none⟩) (ez7 (p:=⟨gb679,0,none⟩) (hz7 HO672.out BK679.out (by decide)) (fun _ hk=>hk.2) (.int .i64 aI)) (fun _ hk=>hk.2) (.slice Ao15 aC.length co15)) (fun _ h_=>h_.1))) hb) (fz7 ho0)) (fz7 ho1)) (fun _ h_=>h_.1));have n1_:=zz7 (gz7 (Kd.R_told (Kd.R_told (Kd.R_old (by (with_reducible repeat (first|apply az7|apply bz7|apply cz7));exact (gz7 (ez7 (p:=⟨gb679,1,none⟩) (ez7 (p:=⟨gb679,0,none⟩) (hz7 HO674.out BK679.out (by decide)) (fun _ hk=>hk.2) (.int .i64 aI)) (fun _ hk=>hk.2) (.slice Ao15 aC.length co15)) (fun _ h_=>h_.1))) hb) (fz7 ho0)) (fz7 ho1)) (fun _ h_=>h_.1));have n2_:=zz7 (gz7 (Kd.R_told (Kd.R_told (Kd.R_old (by (with_reducible repeat (first|apply az7|apply bz7|apply cz7));exact (gz7 (ez7 (p:=⟨gb679,1,none⟩) (ez7 (p:=⟨gb679,0,none⟩) (hz7 HO678.out BK679.out (by decide)) (fun _ hk=>hk.2) (.int .i64 aI)) (fun _ hk=>hk.2) (.slice Ao15 aC.length co15)) (fun _ h_=>h_.1))) hb) (fz7 ho0)) (fz7 ho1)) (fun _ h_=>h_.1));have n3_:=zz7 (Kd.R_lower (kz7 (kz7 (kz7 ho0 (Kd.R_lt (by (with_reducible repeat (first|apply az7|apply bz7|apply cz7));exact (gz7 (ez7 (p:=⟨gb679,1,none⟩) (ez7 (p:=⟨gb679,0,none⟩) (hz7 HO672.out BK679.out (by decide)) (fun _ hk=>hk.2) (.int .i64 aI)) (fun _ hk=>hk.2) (.slice Ao15 aC.length co15)) (fun _ h_=>h_.1))))) (Kd.R_lt (by (with_reducible repeat (first|apply az7|apply bz7|apply cz7));exact (gz7 (ez7 (p:=⟨gb679,1,none⟩) (ez7 (p:=⟨gb679,0,none⟩) (hz7 HO674.out BK679.out (by decide)) (fun _ hk=>hk.2) (.int .i64 aI)) (fun _ hk=>hk.2) (.slice Ao15 aC.length co15)) (fun _ h_=>h_.1))))) (Kd.R_lt (by (with_reducible repeat (first|apply az7|apply bz7|apply cz7));exact (gz7 (ez7 (p:=⟨gb679,1,none⟩) (ez7 (p:=⟨gb679,0,none⟩) (hz7 HO678.out BK679.out (by decide)) (fun _ hk=>hk.2) (.int .i64 aI)) (fun _ hk=>hk.2) (.slice Ao15 aC.length co15)) (fun _ h_=>h_.1))))) (below_size (by repeat(first|(with_reducible first|exact HB.out|apply by7|apply ay7|apply cy7|refine dy7 ?_ GE679.out)|exact HB.out))));have n4_:=zz7 (Kd.R_lower (kz7 (kz7 (kz7 ho1 (Kd.R_lt (by (with_reducible repeat (first|apply az7|apply bz7|apply cz7));exact (gz7 (ez7 (p:=⟨gb679,1,none⟩) (ez7 (p:=⟨gb679,0,none⟩) (hz7 HO672.out BK679.out (by decide)) (fun _ hk=>hk.2) (.int .i64 aI)) (fun _ hk=>hk.2) (.slice Ao15 aC.length co15)) (fun _ h_=>h_.1))))) (Kd.R_lt (by (with_reducible repeat (first|apply az7|apply bz7|apply cz7));exact (gz7 (ez7 (p:=⟨gb679,1,none⟩) (ez7 (p:=⟨gb679,0,none⟩) (hz7 HO674.out BK679.out (by decide)) (fun _ hk=>hk.2) (.int .i64 aI)) (fun _ hk=>hk.2) (.slice Ao15 aC.length co15)) (fun _ h_=>h_.1))))) (Kd.R_lt (by (with_reducible repeat (first|apply az7|apply bz7|apply cz7));exact (gz7 (ez7 (p:=⟨gb679,1,none⟩) (ez7 (p:=⟨gb679,0,none⟩) (hz7 HO678.out BK679.out (by decide)) (fun _ hk=>hk.2) (.int .i64 aI)) (fun _ hk=>hk.2) (.slice Ao15 aC.length co15)) (fun _ h_=>h_.1))))) (below_size (by repeat(first|(with_reducible first|exact HB.out|apply by7|apply ay7|apply cy7|refine dy7 ?_ GE679.out)|exact HB.out))));have n5_:=zz7 (hy7 (g:=gb679) (o:=.cells #[.int .i64 aI,.slice Ao15 aC.length co15] 26 (0,0)) (by (with_reducible repeat (first|refine ey7 ?_ _|refine gy7 ?_|refine fy7 ?_ _));refine blk_put (cs:=#[.int .i64 aI,.slice none 0 0]) ?_ 1 _ rfl;(with_reducible repeat (first|refine ey7 ?_ _|refine gy7 ?_|refine fy7 ?_ _));refine blk_put (cs:=#[.int .i64 0,.slice none 0 0]) ?_ 0 _ rfl;(with_reducible repeat (first|refine ey7 ?_ _|refine gy7 ?_|refine fy7 ?_ _));exact BK679.out) hb);have n6_:=zz7 (below_step (by repeat(first|(with_reducible first|exact HB.out|apply by7|apply ay7|apply cy7|refine dy7 ?_ GE679.out)|exact HB.out)) hb);clear HO672;clear HO674;clear HO678;clear BK679;clear HB;have HO672:=n0_;have HO674:=n1_;have HO678:=n2_;have HO683:=n3_;have HO685:=n4_;have BK679:=n5_;have HB:=n6_;clear n0_ n1_ n2_ n3_ n4_ n5_ n6_;(try clear hb);(try clear hb2);(try clear hk);(try clear hi);(try clear ho0);(try clear ho1);obtain⟨Ao17,co17,eo17⟩:=Kd.R_slice HO683.out;subst eo17;obtain⟨Ao18,co18,eo18⟩:=Kd.R_slice HO685.out;subst eo18)|((with_reducible refine gate_callee (f:=46) rfl ?_);refine goesL_ (some 31) rfl rfl Try.func46 (by kernel_rfl) rfl #[.slice Ao17 aJ.length co17,.slice Ao18 aH.length co18] rfl (by (try simp only [List.map_toArray,List.map_cons,List.map_nil]);first|done|rfl|(simp only [List.length_drop,List.length_take];rfl)) ?_;(with_reducible refine (impl_HashAll.calls _ _ aJ _ _ aH aD aA _ ?side1 ?side2 ?side3 ?side4 A7.out).mono ?_);(case side1=>repeat (first|exact (iz7 HO683.out).2.2|(with_reducible refine Kd.C_alloc ?_ _)|(with_reducible refine Kd.C_drewN ?_ _)|(with_reducible refine Kd.C_drew ?_)));(case side2=>exact (iz7 HO683.out).2.1);(case side3=>repeat (first|exact (iz7 HO685.out).2.2|(with_reducible refine Kd.C_alloc ?_ _)|(with_reducible refine Kd.C_drewN ?_ _)|(with_reducible refine Kd.C_drew ?_)));(case side4=>exact (iz7 HO685.out).2.1);rintro e w19 ⟨v688,rfl,ho0,hb⟩;refine ⟨_,rfl,?_⟩;have n0_:=zz7 (jz7 (by (with_reducible repeat (first|apply az7|apply bz7|apply cz7));exact HO672.out) (fz7 ho0) hb);have n1_:=zz7 (jz7 (by (with_reducible repeat (first|apply az7|apply bz7|apply cz7));exact HO674.out) (fz7 ho0) hb);have n2_:=zz7 (jz7 (by (with_reducible repeat (first|apply az7|apply bz7|apply cz7));exact HO678.out) (fz7 ho0) hb);have n3_:=zz7 (jz7 (by (with_reducible repeat (first|apply az7|apply bz7|apply cz7));exact HO683.out) (fz7 ho0) hb);have n4_:=zz7 (jz7 (by (with_reducible repeat (first|apply az7|apply bz7|apply cz7));exact HO685.out) (fz7 ho0) hb);have n5_:=zz7 (Kd.R_lower (kz7 (kz7 (kz7 (kz7 (kz7 ho0 (Kd.R_lt (by (with_reducible repeat (first|apply az7|apply bz7|apply cz7));exact HO672.out))) (Kd.R_lt (by (with_reducible repeat (first|apply az7|apply bz7|apply cz7));exact HO674.out))) (Kd.R_lt (by (with_reducible repeat (first|apply az7|apply bz7|apply cz7));exact HO678.out))) (Kd.R_lt (by (with_reducible repeat (first|apply az7|apply bz7|apply cz7));exact HO683.out))) (Kd.R_lt (by (with_reducible repeat (first|apply az7|apply bz7|apply cz7));exact HO685.out))) (below_size (by repeat(first|(with_reducible first|exact HB.out|apply by7|apply ay7|apply cy7|refine dy7 ?_ GE679.out)|exact HB.out))));have n6_:=zz7 (hy7 (g:=gb679) (o:=.cells #[.int .i64 aI,.slice Ao15 aC.length co15] 26 (0,0)) (by (with_reducible repeat (first|refine ey7 ?_ _|refine gy7 ?_|refine fy7 ?_ _));exact BK679.out) hb);have n7_:=zz7 (below_step (by repeat(first|(with_reducible first|exact HB.out|apply by7|apply ay7|apply cy7|refine dy7 ?_ GE679.out)|exact HB.out)) hb);clear HO672;clear HO674;clear HO678;clear HO683;clear HO685;clear BK679;clear HB;have HO672:=n0_;have HO674:=n1_;have HO678:=n2_;have HO683:=n3_;have HO685:=n4_;have HO689:=n5_;have BK679:=n6_;have HB:=n7_;clear n0_ n1_ n2_ n3_ n4_ n5_ n6_ n7_;(try clear hb);(try clear hb2);(try clear hk);(try clear hi);(try clear ho0))|((with_reducible refine gate_dst (N:=8) rfl ?_);refine box_event ?hg (N:=8) ?hd (cs:=#[.int .i64 0,.slice none 0 0]) (t:=26) ?hr ?_;(case hd=>rfl);(case hg=>rfl);(case hr=>first|(go_simp;done)|(go_simp;rfl));intro gb690 hg w20 hbox hb;have n0_:=zz7 (dz7 (by (with_reducible repeat (first|apply az7|apply bz7|apply cz7));exact HO672.out) hb);have n1_:=zz7 (dz7 (by (with_reducible repeat (first|apply az7|apply bz7|apply cz7));exact HO674.out) hb);have n2_:=zz7 (dz7 (by (with_reducible repeat (first|apply az7|apply bz7|apply cz7));exact HO678.out) hb);have n3_:=zz7 (dz7 (by (with_reducible repeat (first|apply az7|apply bz7|apply cz7));exact HO683.out) hb);have n4_:=zz7 (dz7 (by (with_reducible repeat (first|apply az7|apply bz7|apply cz7));exact HO685.out) hb);have n5_:=zz7 (dz7 (by (with_reducible repeat (first|apply az7|apply bz7|apply cz7));exact HO689.out) hb);have n6_:=zz7 (hy7 (g:=gb679) (o:=.cells #[.int .i64 aI,.slice Ao15 aC.length co15] 26 (0,0)) (by (with_reducible repeat (first|refine ey7 ?_ _|refine gy7 ?_|refine fy7 ?_ _));exact BK679.out) hb);have n7_:=zz7 (below_step (by repeat(first|(with_reducible first|exact HB.out|apply by7|apply ay7|apply cy7|refine dy7 ?_ GE679.out)|exact HB.out)) hb);have n8_:=zz7 (hbox);have n9_:=zz7 ((by rw [hg];exact (below_size (by repeat(first|(with_reducible first|exact HB.out|apply by7|apply ay7|apply cy7|refine dy7 ?_ GE679.out)|exact HB.out))) : w.heap.size ≤ gb690));have n10_:=zz7 ((by rw [hg];exact (below_size (by repeat(first|(with_reducible first|exact HB.out|apply by7|apply ay7|apply cy7|refine dy7 ?_ GE679.out)|exact HB.out))) : w.heap.size ≤ gb690));have n11_:=zz7 ((by rw [hg];exact Nat.ne_of_lt (blk_lt (g:=gb679) (o:=.cells #[.int .i64 aI,.slice Ao15 aC.length co15] 26 (0,0)) (by (with_reducible repeat (first|refine ey7 ?_ _|refine gy7 ?_|refine fy7 ?_ _));exact BK679.out)) : gb679 ≠ gb690));have n12_:=zz7 ((by rw [hg];exact Nat.ne_of_gt (blk_lt (g:=gb679) (o:=.cells #[.int .i64 aI,.slice Ao15 aC.length co15] 26 (0,0)) (by (with_reducible repeat (first|refine ey7 ?_ _|refine gy7 ?_|refine fy7 ?_ _));exact BK679.out)) : gb690 ≠ gb679));clear HO672;clear HO674;clear HO678;clear HO683;clear HO685;clear HO689;clear BK679;clear HB;have HO672:=n0_;have HO674:=n1_;have HO678:=n2_;have HO683:=n3_;have HO685:=n4_;have HO689:=n5_;have BK679:=n6_;have HB:=n7_;have BK690:=n8_;have GW690:=n9_;have GE690:=n10_;have NB679_690:=n11_;have NB690_679:=n12_;clear n0_ n1_ n2_ n3_ n4_ n5_ n6_ n7_ n8_ n9_ n10_ n11_ n12_;clear hb hbox hg;have hnb21:=NB690_679.out;have hnc21:=NB679_690.out;have hcz22_0 : w20.cell? ⟨gb690,0,none⟩ = some (.int .i64 0):=(blk_cell BK690.out 0).trans rfl;have hcz22_1 : w20.cell? ⟨gb690,1,none⟩ = some (.slice none 0 0):=(blk_cell BK690.out 1).trans rfl;have hfz22_0:=blk_frozen BK690.out 0;have hfz22_1:=blk_frozen BK690.out 1;obtain⟨Ao23,co23,eo23⟩:=Kd.R_slice HO689.out;subst eo23))
  (try simp only [Act.put,sa_,sb_,sc_])
  go_cut [57] (fun v57 wc=>∃ (kq : Nat) (x57_7 : Bool),v57 = .bool x57_7 ∧ Aside0 (laws_FnGroups.j0 kq l0 aE aG aJ aH x57_7 aI aC aD aA = some r) ∧ Aside0 (kq ≤ k) ∧ Aside0 (Kd.R (Kd.int .u8) 5 wc w.heap.size (fun k_=>some k_ ≠ ((.slice Ao11 aG.length co11) : Value).ownBlock ∧ some k_ ≠ ((.slice Ao17 aJ.length co17) : Value).ownBlock ∧ some k_ ≠ ((.slice Ao18 aH.length co18) : Value).ownBlock ∧ some k_ ≠ ((.slice Ao15 aC.length co15) : Value).ownBlock ∧ some k_ ≠ ((.slice Ao23 aA.length co23) : Value).ownBlock) (.slice Ao10 aE.length co10) aE) ∧ Aside0 (Kd.R (Kd.int .u8) 5 wc w.heap.size (fun k_=>some k_ ≠ ((.slice Ao10 aE.length co10) : Value).ownBlock ∧ some k_ ≠ ((.slice Ao17 aJ.length co17) : Value).ownBlock ∧ some k_ ≠ ((.slice Ao18 aH.length co18) : Value).ownBlock ∧ some k_ ≠ ((.slice Ao15 aC.length co15) : Value).ownBlock ∧ some k_ ≠ ((.slice Ao23 aA.length co23) : Value).ownBlock) (.slice Ao11 aG.length co11) aG) ∧ Aside0 (Kd.R (Kd.int .u8) 5 wc w.heap.size (fun k_=>some k_ ≠ ((.slice Ao10 aE.length co10) : Value).ownBlock ∧ some k_ ≠ ((.slice Ao11 aG.length co11) : Value).ownBlock ∧ some k_ ≠ ((.slice Ao18 aH.length co18) : Value).ownBlock ∧ some k_ ≠ ((.slice Ao15 aC.length co15) : Value).ownBlock ∧ some k_ ≠ ((.slice Ao23 aA.length co23) : Value).ownBlock) (.slice Ao17 aJ.length co17) aJ) ∧ Aside0 (Kd.R (Kd.int .u8) 5 wc w.heap.size (fun k_=>some k_ ≠ ((.slice Ao10 aE.length co10) : Value).ownBlock ∧ some k_ ≠ ((.slice Ao11 aG.length co11) : Value).ownBlock ∧ some k_ ≠ ((.slice Ao17 aJ.length co17) : Value).ownBlock ∧ some k_ ≠ ((.slice Ao15 aC.length co15) : Value).ownBlock ∧ some k_ ≠ ((.slice Ao23 aA.length co23) : Value).ownBlock) (.slice Ao18 aH.length co18) aH) ∧ Aside0 (Kd.R (Kd.int .u8) 82 wc w.heap.size (fun k_=>some k_ ≠ ((.slice Ao10 aE.length co10) : Value).ownBlock ∧ some k_ ≠ ((.slice Ao11 aG.length co11) : Value).ownBlock ∧ some k_ ≠ ((.slice Ao17 aJ.length co17) : Value).ownBlock ∧ some k_ ≠ ((.slice Ao18 aH.length co18) : Value).ownBlock ∧ some k_ ≠ ((.slice Ao23 aA.length co23) : Value).ownBlock) (.slice Ao15 aC.length co15) aC) ∧ Aside0 (Kd.R (Kd.int .u8) 82 wc w.heap.size (fun k_=>some k_ ≠ ((.slice Ao10 aE.length co10) : Value).ownBlock ∧ some k_ ≠ ((.slice Ao11 aG.length co11) : Value).ownBlock ∧ some k_ ≠ ((.slice Ao17 aJ.length co17) : Value).ownBlock ∧ some k_ ≠ ((.slice Ao18 aH.length co18) : Value).ownBlock ∧ some k_ ≠ ((.slice Ao15 aC.length co15) : Value).ownBlock) (.slice Ao23 aA.length co23) aA) ∧ Aside0 (wc.heap[gb679]? = some (.cells #[.int .i64 aI,(.slice Ao15 aC.length co15)] 26 (0,0))) ∧ Aside0 (wc.heap[gb690]? = some (.cells #[.int .i64 aD,(.slice Ao23 aA.length co23)] 26 (0,0))) ∧ Aside0 (Below w.heap.size w wc))
  case first =>
   have H:=HC8.out
   clear HC8
   replace H:=Option.bind_eq_some_iff.mp H
   obtain⟨⟨bB,bL⟩,A240,H⟩:=H
   replace H : (if aI = bB then ((spec_HashAll.f k aJ aH).bind fun bt695=>(if aD = bt695.1 then ((spec_HashAll.f k aJ aH).bind fun bt699=>((laws_lwSame.f aA bt699.2).bind fun aV=>(laws_FnGroups.j0 k l0 aE aG aJ aH (!aV) aI aC aD aA))) else (laws_FnGroups.j0 k l0 aE aG aJ aH true aI aC aD aA))) else (laws_FnGroups.j0 k l0 aE aG aJ aH true aI aC aD aA)) = some r:=H
   have A24:=zz7 A240
   clear A240
   by_cases c25 : aI = bB
   ·rw [if_pos c25] at H
    have c25b0 : (aI == bB) = true:=beq_iff_eq.mpr c25
    have c25b1 : (aI != bB) = false:=bne_eq_false_iff_eq.mpr c25
    clear c25
    (first|rw [c25b0]|(simp only [i64_w,i32_w];rw [c25b0])|skip)
    replace H:=Option.bind_eq_some_iff.mp H
    obtain⟨⟨bC,bM⟩,A260,H⟩:=H
    replace H : (if aD = bC then ((spec_HashAll.f k aJ aH).bind fun bt699=>((laws_lwSame.f aA bt699.2).bind fun aV=>(laws_FnGroups.j0 k l0 aE aG aJ aH (!aV) aI aC aD aA))) else (laws_FnGroups.j0 k l0 aE aG aJ aH true aI aC aD aA)) = some r:=H
    have A26:=zz7 A260
    clear A260
    by_cases c27 : aD = bC
    ·rw [if_pos c27] at H
     have c27b0 : (aD == bC) = true:=beq_iff_eq.mpr c27
     have c27b1 : (aD != bC) = false:=bne_eq_false_iff_eq.mpr c27
     clear c27
     replace H:=Option.bind_eq_some_iff.mp H
     obtain⟨⟨bN,bF⟩,A280,H⟩:=H
     replace H : ((laws_lwSame.f aA bF).bind fun aV=>(laws_FnGroups.j0 k l0 aE aG aJ aH (!aV) aI aC aD aA)) = some r:=H
     have A28:=zz7 A280
     clear A280
     replace H:=Option.bind_eq_some_iff.mp H
     obtain⟨aV,A290,H⟩:=H
     replace H : (laws_FnGroups.j0 k l0 aE aG aJ aH (!aV) aI aC aD aA) = some r:=H
     have A29:=zz7 A290
     clear A290
     have H':=zz7 H
     clear H
     try go_wp2
     have n0_ : Aside0 (Kd.R (Kd.int .u8) 5 ((w20.setCell ⟨gb690,0,none⟩ (.int .i64 aD)).setCell ⟨gb690,1,none⟩ (.slice Ao23 aA.length co23)) w.heap.size (fun k_=>some k_ ≠ (.slice Ao11 aG.length co11 : Value).ownBlock ∧ some k_ ≠ (.slice Ao15 aC.length co15 : Value).ownBlock ∧ some k_ ≠ (.slice Ao17 aJ.length co17 : Value).ownBlock ∧ some k_ ≠ (.slice Ao18 aH.length co18 : Value).ownBlock ∧ some k_ ≠ (.slice Ao23 aA.length co23 : Value).ownBlock) (.slice Ao10 aE.length co10) aE):=⟨by (with_reducible repeat (first|apply az7|apply bz7|apply cz7));exact gz7 (ez7 (p:=⟨gb690,1,none⟩) (ez7 (p:=⟨gb690,0,none⟩) (hz7 HO672.out BK690.out (by decide)) (fun _ hk=>hk.2) (.int .i64 aD)) (fun _ hk=>hk.2) (.slice Ao23 aA.length co23)) (fun _ hk=>⟨hk.1.1.1.1.1,⟨hk.1.1.1.1.2,⟨hk.1.1.1.2,⟨hk.1.1.2,hk.1.2⟩⟩⟩⟩)⟩
     have n1_ : Aside0 (Kd.R (Kd.int .u8) 5 ((w20.setCell ⟨gb690,0,none⟩ (.int .i64 aD)).setCell ⟨gb690,1,none⟩ (.slice Ao23 aA.length co23)) w.heap.size (fun k_=>some k_ ≠ (.slice Ao10 aE.length co10 : Value).ownBlock ∧ some k_ ≠ (.slice Ao15 aC.length co15 : Value).ownBlock ∧ some k_ ≠ (.slice Ao17 aJ.length co17 : Value).ownBlock ∧ some k_ ≠ (.slice Ao18 aH.length co18 : Value).ownBlock ∧ some k_ ≠ (.slice Ao23 aA.length co23 : Value).ownBlock) (.slice Ao11 aG.length co11) aG):=⟨by (with_reducible repeat (first|apply az7|apply bz7|apply cz7));exact gz7 (ez7 (p:=⟨gb690,1,none⟩) (ez7 (p:=⟨gb690,0,none⟩) (hz7 HO674.out BK690.out (by decide)) (fun _ hk=>hk.2) (.int .i64 aD)) (fun _ hk=>hk.2) (.slice Ao23 aA.length co23)) (fun _ hk=>⟨hk.1.1.1.1.1,⟨hk.1.1.1.1.2,⟨hk.1.1.1.2,⟨hk.1.1.2,hk.1.2⟩⟩⟩⟩)⟩
     have n2_ : Aside0 (Kd.R (Kd.int .u8) 82 ((w20.setCell ⟨gb690,0,none⟩ (.int .i64 aD)).setCell ⟨gb690,1,none⟩ (.slice Ao23 aA.length co23)) w.heap.size (fun k_=>some k_ ≠ (.slice Ao10 aE.length co10 : Value).ownBlock ∧ some k_ ≠ (.slice Ao11 aG.length co11 : Value).ownBlock ∧ some k_ ≠ (.slice Ao17 aJ.length co17 : Value).ownBlock ∧ some k_ ≠ (.slice Ao18 aH.length co18 : Value).ownBlock ∧ some k_ ≠ (.slice Ao23 aA.length co23 : Value).ownBlock) (.slice Ao15 aC.length co15) aC):=⟨by (with_reducible repeat (first|apply az7|apply bz7|apply cz7));exact gz7 (ez7 (p:=⟨gb690,1,none⟩) (ez7 (p:=⟨gb690,0,none⟩) (hz7 HO678.out BK690.out (by decide)) (fun _ hk=>hk.2) (.int .i64 aD)) (fun _ hk=>hk.2) (.slice Ao23 aA.length co23)) (fun _ hk=>⟨hk.1.1.1.1.1.2,⟨hk.1.1.1.1.2,⟨hk.1.1.1.2,⟨hk.1.1.2,hk.1.2⟩⟩⟩⟩)⟩
     have n3_ : Aside0 (Kd.R (Kd.int .u8) 5 ((w20.setCell ⟨gb690,0,none⟩ (.int .i64 aD)).setCell ⟨gb690,1,none⟩ (.slice Ao23 aA.length co23)) w.heap.size (fun k_=>some k_ ≠ (.slice Ao10 aE.length co10 : Value).ownBlock ∧ some k_ ≠ (.slice Ao11 aG.length co11 : Value).ownBlock ∧ some k_ ≠ (.slice Ao15 aC.length co15 : Value).ownBlock ∧ some k_ ≠ (.slice Ao18 aH.length co18 : Value).ownBlock ∧ some k_ ≠ (.slice Ao23 aA.length co23 : Value).ownBlock) (.slice Ao17 aJ.length co17) aJ):=⟨by (with_reducible repeat (first|apply az7|apply bz7|apply cz7));exact gz7 (ez7 (p:=⟨gb690,1,none⟩) (ez7 (p:=⟨gb690,0,none⟩) (hz7 HO683.out BK690.out (by decide)) (fun _ hk=>hk.2) (.int .i64 aD)) (fun _ hk=>hk.2) (.slice Ao23 aA.length co23)) (fun _ hk=>⟨hk.1.1.1.1.2,⟨hk.1.1.1.2,⟨hk.1.1.2,⟨hk.1.1.1.1.1,hk.1.2⟩⟩⟩⟩)⟩
     have n4_ : Aside0 (Kd.R (Kd.int .u8) 5 ((w20.setCell ⟨gb690,0,none⟩ (.int .i64 aD)).setCell ⟨gb690,1,none⟩ (.slice Ao23 aA.length co23)) w.heap.size (fun k_=>some k_ ≠ (.slice Ao10 aE.length co10 : Value).ownBlock ∧ some k_ ≠ (.slice Ao11 aG.length co11 : Value).ownBlock ∧ some k_ ≠ (.slice Ao15 aC.length co15 : Value).ownBlock ∧ some k_ ≠ (.slice Ao17 aJ.length co17 : Value).ownBlock ∧ some k_ ≠ (.slice Ao23 aA.length co23 : Value).ownBlock) (.slice Ao18 aH.length co18) aH):=⟨by (with_reducible repeat (first|apply az7|apply bz7|apply cz7));exact gz7 (ez7 (p:=⟨gb690,1,none⟩) (ez7 (p:=⟨gb690,0,none⟩) (hz7 HO685.out BK690.out (by decide)) (fun _ hk=>hk.2) (.int .i64 aD)) (fun _ hk=>hk.2) (.slice Ao23 aA.length co23)) (fun _ hk=>⟨hk.1.1.1.1.2,⟨hk.1.1.1.2,⟨hk.1.1.2,⟨hk.1.1.1.1.1,hk.1.2⟩⟩⟩⟩)⟩
     have n5_ : Aside0 (Kd.R (Kd.int .u8) 82 ((w20.setCell ⟨gb690,0,none⟩ (.int .i64 aD)).setCell ⟨gb690,1,none⟩ (.slice Ao23 aA.length co23)) w.heap.size (fun k_=>some k_ ≠ (.slice Ao10 aE.length co10 : Value).ownBlock ∧ some k_ ≠ (.slice Ao11 aG.length co11 : Value).ownBlock ∧ some k_ ≠ (.slice Ao15 aC.length co15 : Value).ownBlock ∧ some k_ ≠ (.slice Ao17 aJ.length co17 : Value).ownBlock ∧ some k_ ≠ (.slice Ao18 aH.length co18 : Value).ownBlock) (.slice Ao23 aA.length co23) aA):=⟨by (with_reducible repeat (first|apply az7|apply bz7|apply cz7));exact gz7 (ez7 (p:=⟨gb690,1,none⟩) (ez7 (p:=⟨gb690,0,none⟩) (hz7 HO689.out BK690.out (by decide)) (fun _ hk=>hk.2) (.int .i64 aD)) (fun _ hk=>hk.2) (.slice Ao23 aA.length co23)) (fun _ hk=>⟨hk.1.1.1.1.1.2,⟨hk.1.1.1.1.2,⟨hk.1.1.1.2,⟨hk.1.1.2,hk.1.2⟩⟩⟩⟩)⟩
     have n6_ : Aside0 (((w20.setCell ⟨gb690,0,none⟩ (.int .i64 aD)).setCell ⟨gb690,1,none⟩ (.slice Ao23 aA.length co23)).heap[gb679]? = some (.cells #[.int .i64 aI,.slice Ao15 aC.length co15] 26 (0,0))):=⟨by (with_reducible repeat (first|refine ey7 ?_ _|refine gy7 ?_|refine fy7 ?_ _));refine blk_far ?_ NB679_690.out _;(with_reducible repeat (first|refine ey7 ?_ _|refine gy7 ?_|refine fy7 ?_ _));refine blk_far ?_ NB679_690.out _;(with_reducible repeat (first|refine ey7 ?_ _|refine gy7 ?_|refine fy7 ?_ _));exact BK679.out⟩
     have n7_ : Aside0 (((w20.setCell ⟨gb690,0,none⟩ (.int .i64 aD)).setCell ⟨gb690,1,none⟩ (.slice Ao23 aA.length co23)).heap[gb690]? = some (.cells #[.int .i64 aD,.slice Ao23 aA.length co23] 26 (0,0))):=⟨by (with_reducible repeat (first|refine ey7 ?_ _|refine gy7 ?_|refine fy7 ?_ _));refine blk_put (cs:=#[.int .i64 aD,.slice none 0 0]) ?_ 1 _ rfl;(with_reducible repeat (first|refine ey7 ?_ _|refine gy7 ?_|refine fy7 ?_ _));refine blk_put (cs:=#[.int .i64 0,.slice none 0 0]) ?_ 0 _ rfl;(with_reducible repeat (first|refine ey7 ?_ _|refine gy7 ?_|refine fy7 ?_ _));exact BK690.out⟩
     have n8_ : Aside0 (Below w.heap.size w ((w20.setCell ⟨gb690,0,none⟩ (.int .i64 aD)).setCell ⟨gb690,1,none⟩ (.slice Ao23 aA.length co23))):=⟨by repeat (first|(with_reducible first|exact HB.out|apply by7|apply ay7|apply cy7|refine dy7 ?_ GE679.out|refine dy7 ?_ GE690.out)|exact HB.out)⟩
     (try clear HO672);(try clear HO674);(try clear HO678)
     (try clear HO683);(try clear HO685);(try clear HO689)
     (try clear BK679);(try clear BK690);(try clear HB)
     generalize ((w20.setCell ⟨gb690,0,none⟩ (.int .i64 aD)).setCell ⟨gb690,1,none⟩ (.slice Ao23 aA.length co23)) = w30 at n0_ n1_ n2_ n3_ n4_ n5_ n6_ n7_ n8_ ⊢
     have HO672:=n0_
     have HO674:=n1_
     have HO678:=n2_
     have HO683:=n3_
     have HO685:=n4_
     have HO689:=n5_
     have BK679:=n6_
     have BK690:=n7_
     have HB:=n8_
     clear n0_ n1_ n2_ n3_ n4_ n5_ n6_ n7_ n8_
     have n0_:=zz7 (cz7 HO672.out)
     have n1_:=zz7 (cz7 HO674.out)
     have n2_:=zz7 (cz7 HO678.out)
     have n3_:=zz7 (cz7 HO683.out)
     have n4_:=zz7 (cz7 HO685.out)
     have n5_:=zz7 (cz7 HO689.out)
     have n6_:=zz7 (gy7 BK679.out)
     have n7_:=zz7 (gy7 BK690.out)
     have n8_:=zz7 (cy7 HB.out)
     clear HO672
     clear HO674
     clear HO678
     clear HO683
     clear HO685
     clear HO689
     clear BK679
     clear BK690
     clear HB
     have HO672:=n0_
     have HO674:=n1_
     have HO678:=n2_
     have HO683:=n3_
     have HO685:=n4_
     have HO689:=n5_
     have BK679:=n6_
     have BK690:=n7_
     have HB:=n8_
     clear n0_ n1_ n2_ n3_ n4_ n5_ n6_ n7_ n8_
     refine start_ (n:=26) (S:=fun w'=>w'.cell? ⟨gb679,0,none⟩ = some (.int .i64 aI) ∧ w'.cell? ⟨gb679,1,none⟩ = some (.slice Ao15 aC.length co15) ∧ w'.cell? ⟨gb690,0,none⟩ = some (.int .i64 aD) ∧ w'.cell? ⟨gb690,1,none⟩ = some (.slice Ao23 aA.length co23)) (ds:=[]) #[Z,Z,Z,Z,Z,Z,Z,Z,Z,Z,Z,Z,Z,Z,Z,Z,Z,Z,Z,Z,Z,Z,Z,Z,Z,Z] (by kernel_rfl) rfl rfl ⟨(blk_cell BK679.out 0).trans rfl,(blk_cell BK679.out 1).trans rfl,(blk_cell BK690.out 0).trans rfl,(blk_cell BK690.out 1).trans rfl⟩ (fun hHeld=>?_);refine with_tabW laws_FnGroups.tab7 laws_FnGroups.bits7 (fun HT_ HW_=>?_)
     generalize w30.drew = w31 at HO672 HO674 HO678 HO683 HO685 HO689 BK679 BK690 HB hHeld ⊢
     refine pure_ (i:=0) (N:=some 32) (v:=?_) (a':=?_) #[Y,Z,Z,Z,Z,Z,Z,Z,Z,Z,Z,Z,Z,Z,Z,Z,Z,Z,Z,Z,Z,Z,Z,Z,Z,Z] rfl rfl (any_of HT_.out (by kernel_rfl)) (fun _ _ _ h=>h) (Or.inl ⟨by rfl,?_⟩) ?_ ?_
     rotate_left
     ·intro w';go_simp;with_reducible rfl
     rotate_left
     ·simp only [Act.put,sa_,sb_,sc_,i64_w];rfl
     refine pure_ (i:=2) (N:=some 34) (v:=?_) (a':=?_) #[Y,Z,Y,Z,Z,Z,Z,Z,Z,Z,Z,Z,Z,Z,Z,Z,Z,Z,Z,Z,Z,Z,Z,Z,Z,Z] rfl rfl (any_of HT_.out (by kernel_rfl)) (fun _ _ _ h=>h) (Or.inl ⟨by rfl,?_⟩) ?_ ?_
     rotate_left
     ·intro w';go_simp;with_reducible rfl
     rotate_left
     ·simp only [Act.put,sa_,sb_,sc_,i64_w];rfl
     refine pure_ (i:=3) (N:=some 35) (v:=?_) (a':=?_) #[Y,Z,Y,Y,Z,Z,Z,Z,Z,Z,Z,Z,Z,Z,Z,Z,Z,Z,Z,Z,Z,Z,Z,Z,Z,Z] rfl rfl (any_of HT_.out (by kernel_rfl)) (fun _ _ _ h=>h) (Or.inl ⟨by rfl,?_⟩) ?_ ?_
     rotate_left
     ·intro w';go_simp;with_reducible rfl
     rotate_left
     ·simp only [Act.put,sa_,sb_,sc_,i64_w];rfl
     refine take_ (i:=1) (N:=some 33) (v:=?_) (a':=?_) #[Y,Y,Y,Y,Z,Z,Z,Z,Z,Z,Z,Z,Z,Z,Z,Z,Z,Z,Z,Z,Z,Z,Z,Z,Z,Z] rfl rfl (take_ofW HT_.out HW_.out (by kernel_rfl)) (fun _ _ _ h=>h) (Or.inl ⟨by rfl,?_⟩) hHeld ?_ ?_
     rotate_left
     ·rintro w' ⟨s0,s1,s2,s3⟩
      go_simp
      with_reducible rfl
     rotate_left
     ·simp only [Act.put,sa_,sb_,sc_,i64_w];rfl
     refine one_ (i:=4) (N:=some 36) #[Y,Y,Y,Y,Y,Z,Z,Z,Z,Z,Z,Z,Z,Z,Z,Z,Z,Z,Z,Z,Z,Z,Z,Z,Z,Z] rfl rfl (one_of HT_.out (by kernel_rfl)) (by decide) (fun K hK=>?_)
     refine goes_ Try.func47 (by kernel_rfl) rfl #[.slice Ao10 aE.length co10,.slice Ao11 aG.length co11] (by rfl) rfl rfl (by (try simp only [List.map_toArray,List.map_cons,List.map_nil]);first|done|rfl|(simp only [List.length_drop,List.length_take];rfl)) ?_
     with_reducible refine (spec_GroupTimes.calls k _ _ aE _ _ aG bB bL _ ?side1 ?side2 ?side3 ?side4 A24.out).mono ?_
     (case side1=>repeat (first|exact (iz7 HO672.out).2.2|(with_reducible refine Kd.C_alloc ?_ _)|(with_reducible refine Kd.C_drewN ?_ _)|(with_reducible refine Kd.C_drew ?_)))
     (case side2=>exact (iz7 HO672.out).2.1)
     (case side3=>repeat (first|exact (iz7 HO674.out).2.2|(with_reducible refine Kd.C_alloc ?_ _)|(with_reducible refine Kd.C_drewN ?_ _)|(with_reducible refine Kd.C_drew ?_)))
     (case side4=>exact (iz7 HO674.out).2.1)
     rintro e w32 ⟨v693,rfl,ho0,hb⟩
     refine ⟨_,rfl,?_⟩
     have n0_:=zz7 (jz7 (by (with_reducible repeat (first|apply az7|apply bz7|apply cz7));exact HO672.out) (fz7 ho0) hb)
     have n1_:=zz7 (jz7 (by (with_reducible repeat (first|apply az7|apply bz7|apply cz7));exact HO674.out) (fz7 ho0) hb)
     have n2_:=zz7 (jz7 (by (with_reducible repeat (first|apply az7|apply bz7|apply cz7));exact HO678.out) (fz7 ho0) hb)
     have n3_:=zz7 (jz7 (by (with_reducible repeat (first|apply az7|apply bz7|apply cz7));exact HO683.out) (fz7 ho0) hb)
     have n4_:=zz7 (jz7 (by (with_reducible repeat (first|apply az7|apply bz7|apply cz7));exact HO685.out) (fz7 ho0) hb)
     have n5_:=zz7 (jz7 (by (with_reducible repeat (first|apply az7|apply bz7|apply cz7));exact HO689.out) (fz7 ho0) hb)
     have n6_:=zz7 (Kd.R_lower (kz7 (kz7 (kz7 (kz7 (kz7 (kz7 ho0 (Kd.R_lt (by (with_reducible repeat (first|apply az7|apply bz7|apply cz7));exact HO672.out))) (Kd.R_lt (by (with_reducible repeat (first|apply az7|apply bz7|apply cz7));exact HO674.out))) (Kd.R_lt (by (with_reducible repeat (first|apply az7|apply bz7|apply cz7));exact HO678.out))) (Kd.R_lt (by (with_reducible repeat (first|apply az7|apply bz7|apply cz7));exact HO683.out))) (Kd.R_lt (by (with_reducible repeat (first|apply az7|apply bz7|apply cz7));exact HO685.out))) (Kd.R_lt (by (with_reducible repeat (first|apply az7|apply bz7|apply cz7));exact HO689.out))) (below_size (by repeat(first|(with_reducible first|exact HB.out|apply by7|apply ay7|apply cy7|refine dy7 ?_ GE679.out|refine dy7 ?_ GE690.out)|exact HB.out))))
     have n7_:=zz7 (hy7 (g:=gb679) (o:=.cells #[.int .i64 aI,.slice Ao15 aC.length co15] 26 (0,0)) (by (with_reducible repeat (first|refine ey7 ?_ _|refine gy7 ?_|refine fy7 ?_ _));exact BK679.out) hb)
     have n8_:=zz7 (hy7 (g:=gb690) (o:=.cells #[.int .i64 aD,.slice Ao23 aA.length co23] 26 (0,0)) (by (with_reducible repeat (first|refine ey7 ?_ _|refine gy7 ?_|refine fy7 ?_ _));exact BK690.out) hb)
     have n9_:=zz7 (below_step (by repeat(first|(with_reducible first|exact HB.out|apply by7|apply ay7|apply cy7|refine dy7 ?_ GE679.out|refine dy7 ?_ GE690.out)|exact HB.out)) hb)
     clear HO672
     clear HO674
     clear HO678
     clear HO683
     clear HO685
     clear HO689
     clear BK679
     clear BK690
     clear HB
     have HO672:=n0_
     have HO674:=n1_
     have HO678:=n2_
     have HO683:=n3_
     have HO685:=n4_
     have HO689:=n5_
     have HO694:=n6_
     have BK679:=n7_
     have BK690:=n8_
     have HB:=n9_
     clear n0_ n1_ n2_ n3_ n4_ n5_ n6_ n7_ n8_ n9_
     (try clear hb);(try clear hb2);(try clear hk)
     (try clear hi)
     (try clear ho0)
     refine hK.out _ _ ⟨(blk_cell BK679.out 0).trans rfl,(blk_cell BK679.out 1).trans rfl,(blk_cell BK690.out 0).trans rfl,(blk_cell BK690.out 1).trans rfl⟩ (fun hHeld=>?_)
     clear hK K
     refine norm_ (a':=?_) ?_ ?_
     rotate_left
     ·show Act.put _ (some 36) _ = _
      simp only [Act.put,sa_,sb_,sc_,i64_w]
      rfl
     refine pure_ (i:=5) (N:=some 37) (v:=?_) (a':=?_) #[Y,Y,Y,Y,Y,Y,Z,Z,Z,Z,Z,Z,Z,Z,Z,Z,Z,Z,Z,Z,Z,Z,Z,Z,Z,Z] rfl rfl (any_of HT_.out (by kernel_rfl)) (fun _ _ _ h=>h) (Or.inl ⟨by rfl,?_⟩) ?_ ?_
     rotate_left
     ·intro w';go_simp;with_reducible rfl
     rotate_left
     ·simp only [Act.put,sa_,sb_,sc_,i64_w];rfl
     refine pure_ (i:=6) (N:=some 38) (v:=?_) (a':=?_) #[Y,Y,Y,Y,Y,Y,Y,Z,Z,Z,Z,Z,Z,Z,Z,Z,Z,Z,Z,Z,Z,Z,Z,Z,Z,Z] rfl rfl (any_of HT_.out (by kernel_rfl)) (fun _ _ _ h=>h) (Or.inl ⟨by rfl,?_⟩) ?_ ?_
     rotate_left
     ·intro w';go_simp;with_reducible rfl
     rotate_left
     ·simp only [Act.put,sa_,sb_,sc_,i64_w];rfl
     refine pure_ (i:=7) (N:=some 39) (v:=?_) (a':=?_) #[Y,Y,Y,Y,Y,Y,Y,Y,Z,Z,Z,Z,Z,Z,Z,Z,Z,Z,Z,Z,Z,Z,Z,Z,Z,Z] rfl rfl (any_of HT_.out (by kernel_rfl)) (fun _ _ _ h=>h) (Or.inl ⟨by rfl,?_⟩) ?_ ?_
     rotate_left
     ·intro w';go_simp;with_reducible rfl
     rotate_left
     ·simp only [Act.put,sa_,sb_,sc_,i64_w];rfl
     refine pure_ (i:=8) (N:=some 40) (v:=?_) (a':=?_) #[Y,Y,Y,Y,Y,Y,Y,Y,Y,Z,Z,Z,Z,Z,Z,Z,Z,Z,Z,Z,Z,Z,Z,Z,Z,Z] rfl rfl (any_of HT_.out (by kernel_rfl)) (fun _ _ _ h=>h) (Or.inl ⟨by rfl,?_⟩) ?_ ?_
     rotate_left
     ·intro w';go_simp;with_reducible rfl
     rotate_left
     ·simp only [Act.put,sa_,sb_,sc_,i64_w];rfl
     refine pure_ (i:=10) (N:=some 42) (v:=?_) (a':=?_) #[Y,Y,Y,Y,Y,Y,Y,Y,Y,Z,Y,Z,Z,Z,Z,Z,Z,Z,Z,Z,Z,Z,Z,Z,Z,Z] rfl rfl (any_of HT_.out (by kernel_rfl)) (fun _ _ _ h=>h) (Or.inl ⟨by rfl,?_⟩) ?_ ?_
     rotate_left
     ·intro w';go_simp;with_reducible rfl
     rotate_left
     ·simp only [Act.put,sa_,sb_,sc_,i64_w];rfl
     refine pure_ (i:=11) (N:=some 43) (v:=?_) (a':=?_) #[Y,Y,Y,Y,Y,Y,Y,Y,Y,Z,Y,Y,Z,Z,Z,Z,Z,Z,Z,Z,Z,Z,Z,Z,Z,Z] rfl rfl (any_of HT_.out (by kernel_rfl)) (fun _ _ _ h=>h) (Or.inl ⟨by rfl,?_⟩) ?_ ?_
     rotate_left
     ·intro w';go_simp;with_reducible rfl
     rotate_left
     ·simp only [Act.put,sa_,sb_,sc_,i64_w];rfl
     refine take_ (i:=9) (N:=some 41) (v:=?_) (a':=?_) #[Y,Y,Y,Y,Y,Y,Y,Y,Y,Y,Y,Y,Z,Z,Z,Z,Z,Z,Z,Z,Z,Z,Z,Z,Z,Z] rfl rfl (take_ofW HT_.out HW_.out (by kernel_rfl)) (fun _ _ _ h=>h) (Or.inl ⟨by rfl,?_⟩) hHeld ?_ ?_
     rotate_left
     ·rintro w' ⟨s0,s1,s2,s3⟩
      go_simp
      with_reducible rfl
     rotate_left
     ·simp only [Act.put,sa_,sb_,sc_,i64_w];rfl
     refine one_ (i:=12) (N:=some 44) #[Y,Y,Y,Y,Y,Y,Y,Y,Y,Y,Y,Y,Y,Z,Z,Z,Z,Z,Z,Z,Z,Z,Z,Z,Z,Z] rfl rfl (one_of HT_.out (by kernel_rfl)) (by decide) (fun K hK=>?_)
     refine goes_ Try.func48 (by kernel_rfl) rfl #[.slice Ao17 aJ.length co17,.slice Ao18 aH.length co18] (by rfl) rfl rfl (by (try simp only [List.map_toArray,List.map_cons,List.map_nil]);first|done|rfl|(simp only [List.length_drop,List.length_take];rfl)) ?_
     with_reducible refine (spec_HashAll.calls k _ _ aJ _ _ aH bC bM _ ?side1 ?side2 ?side3 ?side4 A26.out).mono ?_
     (case side1=>repeat (first|exact (iz7 HO683.out).2.2|(with_reducible refine Kd.C_alloc ?_ _)|(with_reducible refine Kd.C_drewN ?_ _)|(with_reducible refine Kd.C_drew ?_)))
     (case side2=>exact (iz7 HO683.out).2.1)
     (case side3=>repeat (first|exact (iz7 HO685.out).2.2|(with_reducible refine Kd.C_alloc ?_ _)|(with_reducible refine Kd.C_drewN ?_ _)|(with_reducible refine Kd.C_drew ?_)))
     (case side4=>exact (iz7 HO685.out).2.1)
     rintro e w33 ⟨v697,rfl,ho0,hb⟩
     refine ⟨_,rfl,?_⟩
     have n0_:=zz7 (jz7 (by (with_reducible repeat (first|apply az7|apply bz7|apply cz7));exact HO672.out) (fz7 ho0) hb)
     have n1_:=zz7 (jz7 (by (with_reducible repeat (first|apply az7|apply bz7|apply cz7));exact HO674.out) (fz7 ho0) hb)
     have n2_:=zz7 (jz7 (by (with_reducible repeat (first|apply az7|apply bz7|apply cz7));exact HO678.out) (fz7 ho0) hb)
     have n3_:=zz7 (jz7 (by (with_reducible repeat (first|apply az7|apply bz7|apply cz7));exact HO683.out) (fz7 ho0) hb)
     have n4_:=zz7 (jz7 (by (with_reducible repeat (first|apply az7|apply bz7|apply cz7));exact HO685.out) (fz7 ho0) hb)
     have n5_:=zz7 (jz7 (by (with_reducible repeat (first|apply az7|apply bz7|apply cz7));exact HO689.out) (fz7 ho0) hb)
     have n6_:=zz7 (jz7 (by (with_reducible repeat (first|apply az7|apply bz7|apply cz7));exact HO694.out) (fz7 ho0) hb)
     have n7_:=zz7 (Kd.R_lower (kz7 (kz7 (kz7 (kz7 (kz7 (kz7 (kz7 ho0 (Kd.R_lt (by (with_reducible repeat (first|apply az7|apply bz7|apply cz7));exact HO672.out))) (Kd.R_lt (by (with_reducible repeat (first|apply az7|apply bz7|apply cz7));exact HO674.out))) (Kd.R_lt (by (with_reducible repeat (first|apply az7|apply bz7|apply cz7));exact HO678.out))) (Kd.R_lt (by (with_reducible repeat (first|apply az7|apply bz7|apply cz7));exact HO683.out))) (Kd.R_lt (by (with_reducible repeat (first|apply az7|apply bz7|apply cz7));exact HO685.out))) (Kd.R_lt (by (with_reducible repeat (first|apply az7|apply bz7|apply cz7));exact HO689.out))) (Kd.R_lt (by (with_reducible repeat (first|apply az7|apply bz7|apply cz7));exact HO694.out))) (below_size (by repeat(first|(with_reducible first|exact HB.out|apply by7|apply ay7|apply cy7|refine dy7 ?_ GE679.out|refine dy7 ?_ GE690.out)|exact HB.out))))
     have n8_:=zz7 (hy7 (g:=gb679) (o:=.cells #[.int .i64 aI,.slice Ao15 aC.length co15] 26 (0,0)) (by (with_reducible repeat (first|refine ey7 ?_ _|refine gy7 ?_|refine fy7 ?_ _));exact BK679.out) hb)
     have n9_:=zz7 (hy7 (g:=gb690) (o:=.cells #[.int .i64 aD,.slice Ao23 aA.length co23] 26 (0,0)) (by (with_reducible repeat (first|refine ey7 ?_ _|refine gy7 ?_|refine fy7 ?_ _));exact BK690.out) hb)
     have n10_:=zz7 (below_step (by repeat(first|(with_reducible first|exact HB.out|apply by7|apply ay7|apply cy7|refine dy7 ?_ GE679.out|refine dy7 ?_ GE690.out)|exact HB.out)) hb)
     clear HO672
     clear HO674
     clear HO678
     clear HO683
     clear HO685
     clear HO689
     clear HO694
     clear BK679
     clear BK690
     clear HB
     have HO672:=n0_
     have HO674:=n1_
     have HO678:=n2_
     have HO683:=n3_
     have HO685:=n4_
     have HO689:=n5_
     have HO694:=n6_
     have HO698:=n7_
     have BK679:=n8_
     have BK690:=n9_
     have HB:=n10_
     clear n0_ n1_ n2_ n3_ n4_ n5_ n6_ n7_ n8_ n9_ n10_
     (try clear hb);(try clear hb2);(try clear hk)
     (try clear hi)
     (try clear ho0)
     refine hK.out _ _ ⟨(blk_cell BK679.out 0).trans rfl,(blk_cell BK679.out 1).trans rfl,(blk_cell BK690.out 0).trans rfl,(blk_cell BK690.out 1).trans rfl⟩ (fun hHeld=>?_)
     clear hK K
     refine norm_ (a':=?_) ?_ ?_
     rotate_left
     ·show Act.put _ (some 44) _ = _
      simp only [Act.put,sa_,sb_,sc_,i64_w]
      rfl
     refine pure_ (i:=13) (N:=some 45) (v:=?_) (a':=?_) #[Y,Y,Y,Y,Y,Y,Y,Y,Y,Y,Y,Y,Y,Y,Z,Z,Z,Z,Z,Z,Z,Z,Z,Z,Z,Z] rfl rfl (any_of HT_.out (by kernel_rfl)) (fun _ _ _ h=>h) (Or.inl ⟨by rfl,?_⟩) ?_ ?_
     rotate_left
     ·intro w';go_simp;with_reducible rfl
     rotate_left
     ·simp only [Act.put,sa_,sb_,sc_,i64_w];rfl
     refine pure_ (i:=14) (N:=some 46) (v:=?_) (a':=?_) #[Y,Y,Y,Y,Y,Y,Y,Y,Y,Y,Y,Y,Y,Y,Y,Z,Z,Z,Z,Z,Z,Z,Z,Z,Z,Z] rfl rfl (any_of HT_.out (by kernel_rfl)) (fun _ _ _ h=>h) (Or.inl ⟨by rfl,?_⟩) ?_ ?_
     rotate_left
     ·intro w';go_simp;with_reducible rfl
     rotate_left
     ·simp only [Act.put,sa_,sb_,sc_,i64_w];rfl
     refine pure_ (i:=15) (N:=some 47) (v:=?_) (a':=?_) #[Y,Y,Y,Y,Y,Y,Y,Y,Y,Y,Y,Y,Y,Y,Y,Y,Z,Z,Z,Z,Z,Z,Z,Z,Z,Z] rfl rfl (any_of HT_.out (by kernel_rfl)) (fun _ _ _ h=>h) (Or.inl ⟨by rfl,?_⟩) ?_ ?_
     rotate_left
     ·intro w';go_simp;with_reducible rfl
     rotate_left
     ·simp only [Act.put,sa_,sb_,sc_,i64_w];rfl
     refine pure_ (i:=16) (N:=some 48) (v:=?_) (a':=?_) #[Y,Y,Y,Y,Y,Y,Y,Y,Y,Y,Y,Y,Y,Y,Y,Y,Y,Z,Z,Z,Z,Z,Z,Z,Z,Z] rfl rfl (any_of HT_.out (by kernel_rfl)) (fun _ _ _ h=>h) (Or.inl ⟨by rfl,?_⟩) ?_ ?_
     rotate_left
     ·intro w';go_simp;with_reducible rfl
     rotate_left
     ·simp only [Act.put,sa_,sb_,sc_,i64_w];rfl
     refine pure_ (i:=17) (N:=some 49) (v:=?_) (a':=?_) #[Y,Y,Y,Y,Y,Y,Y,Y,Y,Y,Y,Y,Y,Y,Y,Y,Y,Y,Z,Z,Z,Z,Z,Z,Z,Z] rfl rfl (any_of HT_.out (by kernel_rfl)) (fun _ _ _ h=>h) (Or.inl ⟨by rfl,?_⟩) ?_ ?_
     rotate_left
     ·intro w';go_simp;with_reducible rfl
     rotate_left
     ·simp only [Act.put,sa_,sb_,sc_,i64_w];rfl
     refine pure_ (i:=19) (N:=some 51) (v:=?_) (a':=?_) #[Y,Y,Y,Y,Y,Y,Y,Y,Y,Y,Y,Y,Y,Y,Y,Y,Y,Y,Z,Y,Z,Z,Z,Z,Z,Z] rfl rfl (any_of HT_.out (by kernel_rfl)) (fun _ _ _ h=>h) (Or.inl ⟨by rfl,?_⟩) ?_ ?_
     rotate_left
     ·intro w';go_simp;with_reducible rfl
     rotate_left
     ·simp only [Act.put,sa_,sb_,sc_,i64_w];rfl
     refine pure_ (i:=20) (N:=some 52) (v:=?_) (a':=?_) #[Y,Y,Y,Y,Y,Y,Y,Y,Y,Y,Y,Y,Y,Y,Y,Y,Y,Y,Z,Y,Y,Z,Z,Z,Z,Z] rfl rfl (any_of HT_.out (by kernel_rfl)) (fun _ _ _ h=>h) (Or.inl ⟨by rfl,?_⟩) ?_ ?_
     rotate_left
     ·intro w';go_simp;with_reducible rfl
     rotate_left
     ·simp only [Act.put,sa_,sb_,sc_,i64_w];rfl
     refine take_ (i:=18) (N:=some 50) (v:=?_) (a':=?_) #[Y,Y,Y,Y,Y,Y,Y,Y,Y,Y,Y,Y,Y,Y,Y,Y,Y,Y,Y,Y,Y,Z,Z,Z,Z,Z] rfl rfl (take_ofW HT_.out HW_.out (by kernel_rfl)) (fun _ _ _ h=>h) (Or.inl ⟨by rfl,?_⟩) hHeld ?_ ?_
     rotate_left
     ·rintro w' ⟨s0,s1,s2,s3⟩
      go_simp
      with_reducible rfl
     rotate_left
     ·simp only [Act.put,sa_,sb_,sc_,i64_w];rfl
     refine one_ (i:=21) (N:=some 53) #[Y,Y,Y,Y,Y,Y,Y,Y,Y,Y,Y,Y,Y,Y,Y,Y,Y,Y,Y,Y,Y,Y,Z,Z,Z,Z] rfl rfl (one_of HT_.out (by kernel_rfl)) (by decide) (fun K hK=>?_)
     refine goes_ Try.func48 (by kernel_rfl) rfl #[.slice Ao17 aJ.length co17,.slice Ao18 aH.length co18] (by rfl) rfl rfl (by (try simp only [List.map_toArray,List.map_cons,List.map_nil]);first|done|rfl|(simp only [List.length_drop,List.length_take];rfl)) ?_
     with_reducible refine (spec_HashAll.calls k _ _ aJ _ _ aH bN bF _ ?side1 ?side2 ?side3 ?side4 A28.out).mono ?_
     (case side1=>repeat (first|exact (iz7 HO683.out).2.2|(with_reducible refine Kd.C_alloc ?_ _)|(with_reducible refine Kd.C_drewN ?_ _)|(with_reducible refine Kd.C_drew ?_)))
     (case side2=>exact (iz7 HO683.out).2.1)
     (case side3=>repeat (first|exact (iz7 HO685.out).2.2|(with_reducible refine Kd.C_alloc ?_ _)|(with_reducible refine Kd.C_drewN ?_ _)|(with_reducible refine Kd.C_drew ?_)))
     (case side4=>exact (iz7 HO685.out).2.1)
     rintro e w34 ⟨v701,rfl,ho0,hb⟩
     refine ⟨_,rfl,?_⟩
     have n0_:=zz7 (jz7 (by (with_reducible repeat (first|apply az7|apply bz7|apply cz7));exact HO672.out) (fz7 ho0) hb)
     have n1_:=zz7 (jz7 (by (with_reducible repeat (first|apply az7|apply bz7|apply cz7));exact HO674.out) (fz7 ho0) hb)
     have n2_:=zz7 (jz7 (by (with_reducible repeat (first|apply az7|apply bz7|apply cz7));exact HO678.out) (fz7 ho0) hb)
     have n3_:=zz7 (jz7 (by (with_reducible repeat (first|apply az7|apply bz7|apply cz7));exact HO683.out) (fz7 ho0) hb)
     have n4_:=zz7 (jz7 (by (with_reducible repeat (first|apply az7|apply bz7|apply cz7));exact HO685.out) (fz7 ho0) hb)
     have n5_:=zz7 (jz7 (by (with_reducible repeat (first|apply az7|apply bz7|apply cz7));exact HO689.out) (fz7 ho0) hb)
     have n6_:=zz7 (jz7 (by (with_reducible repeat (first|apply az7|apply bz7|apply cz7));exact HO694.out) (fz7 ho0) hb)
     have n7_:=zz7 (jz7 (by (with_reducible repeat (first|apply az7|apply bz7|apply cz7));exact HO698.out) (fz7 ho0) hb)
     have n8_:=zz7 (Kd.R_lower (kz7 (kz7 (kz7 (kz7 (kz7 (kz7 (kz7 (kz7 ho0 (Kd.R_lt (by (with_reducible repeat (first|apply az7|apply bz7|apply cz7));exact HO672.out))) (Kd.R_lt (by (with_reducible repeat (first|apply az7|apply bz7|apply cz7));exact HO674.out))) (Kd.R_lt (by (with_reducible repeat (first|apply az7|apply bz7|apply cz7));exact HO678.out))) (Kd.R_lt (by (with_reducible repeat (first|apply az7|apply bz7|apply cz7));exact HO683.out))) (Kd.R_lt (by (with_reducible repeat (first|apply az7|apply bz7|apply cz7));exact HO685.out))) (Kd.R_lt (by (with_reducible repeat (first|apply az7|apply bz7|apply cz7));exact HO689.out))) (Kd.R_lt (by (with_reducible repeat (first|apply az7|apply bz7|apply cz7));exact HO694.out))) (Kd.R_lt (by (with_reducible repeat (first|apply az7|apply bz7|apply cz7));exact HO698.out))) (below_size (by repeat(first|(with_reducible first|exact HB.out|apply by7|apply ay7|apply cy7|refine dy7 ?_ GE679.out|refine dy7 ?_ GE690.out)|exact HB.out))))
     have n9_:=zz7 (hy7 (g:=gb679) (o:=.cells #[.int .i64 aI,.slice Ao15 aC.length co15] 26 (0,0)) (by (with_reducible repeat (first|refine ey7 ?_ _|refine gy7 ?_|refine fy7 ?_ _));exact BK679.out) hb)
     have n10_:=zz7 (hy7 (g:=gb690) (o:=.cells #[.int .i64 aD,.slice Ao23 aA.length co23] 26 (0,0)) (by (with_reducible repeat (first|refine ey7 ?_ _|refine gy7 ?_|refine fy7 ?_ _));exact BK690.out) hb)
     have n11_:=zz7 (below_step (by repeat(first|(with_reducible first|exact HB.out|apply by7|apply ay7|apply cy7|refine dy7 ?_ GE679.out|refine dy7 ?_ GE690.out)|exact HB.out)) hb)
     clear HO672
     clear HO674
     clear HO678
     clear HO683
     clear HO685
     clear HO689
     clear HO694
     clear HO698
     clear BK679
     clear BK690
     clear HB
     have HO672:=n0_
     have HO674:=n1_
     have HO678:=n2_
     have HO683:=n3_
     have HO685:=n4_
     have HO689:=n5_
     have HO694:=n6_
     have HO698:=n7_
     have HO702:=n8_
     have BK679:=n9_
     have BK690:=n10_
     have HB:=n11_
     clear n0_ n1_ n2_ n3_ n4_ n5_ n6_ n7_ n8_ n9_ n10_ n11_
     (try clear hb);(try clear hb2);(try clear hk)
     (try clear hi)
     (try clear ho0)
     obtain⟨Ao35,co35,eo35⟩:=Kd.R_slice HO702.out
     (first|subst eo35|(injection eo35 with f1_ f2_ f3_;have f4_:=f1_.symm;have f5_:=f3_.symm;clear f1_ f2_ f3_;subst f4_;subst f5_))
     refine hK.out _ _ ⟨(blk_cell BK679.out 0).trans rfl,(blk_cell BK679.out 1).trans rfl,(blk_cell BK690.out 0).trans rfl,(blk_cell BK690.out 1).trans rfl⟩ (fun hHeld=>?_)
     clear hK K
     refine norm_ (a':=?_) ?_ ?_
     rotate_left
     ·show Act.put _ (some 53) _ = _
      simp only [Act.put,sa_,sb_,sc_,i64_w]
      rfl
     refine pure_ (i:=22) (N:=some 54) (v:=?_) (a':=?_) #[Y,Y,Y,Y,Y,Y,Y,Y,Y,Y,Y,Y,Y,Y,Y,Y,Y,Y,Y,Y,Y,Y,Y,Z,Z,Z] rfl rfl (any_of HT_.out (by kernel_rfl)) (fun _ _ _ h=>h) (Or.inl ⟨by rfl,?_⟩) ?_ ?_
     rotate_left
     ·intro w';go_simp;with_reducible rfl
     rotate_left
     ·simp only [Act.put,sa_,sb_,sc_,i64_w];rfl
     refine one_ (i:=23) (N:=some 55) #[Y,Y,Y,Y,Y,Y,Y,Y,Y,Y,Y,Y,Y,Y,Y,Y,Y,Y,Y,Y,Y,Y,Y,Y,Z,Z] rfl rfl (one_of HT_.out (by kernel_rfl)) (by decide) (fun K hK=>?_)
     refine goes_ Try.func17 (by kernel_rfl) rfl #[.slice Ao23 aA.length co23,.slice Ao35 bF.length co35] (by rfl) rfl rfl (by (try simp only [List.map_toArray,List.map_cons,List.map_nil]);first|done|rfl|(simp only [List.length_drop,List.length_take];rfl)) ?_
     with_reducible refine (laws_lwSame.calls _ _ aA _ _ bF aV _ ?side1 ?side2 ?side3 ?side4 A29.out).mono ?_
     (case side1=>repeat (first|exact (iz7 HO689.out).2.2|(with_reducible refine Kd.C_alloc ?_ _)|(with_reducible refine Kd.C_drewN ?_ _)|(with_reducible refine Kd.C_drew ?_)))
     (case side2=>exact (iz7 HO689.out).2.1)
     (case side3=>repeat (first|exact (iz7 HO702.out).2.2|(with_reducible refine Kd.C_alloc ?_ _)|(with_reducible refine Kd.C_drewN ?_ _)|(with_reducible refine Kd.C_drew ?_)))
     (case side4=>exact (iz7 HO702.out).2.1)
     rintro e w' ⟨rfl,⟨nd,rfl⟩⟩
     refine ⟨_,rfl,?_⟩
     refine hK.out _ _ ⟨(blk_cell BK679.out 0).trans rfl,(blk_cell BK679.out 1).trans rfl,(blk_cell BK690.out 0).trans rfl,(blk_cell BK690.out 1).trans rfl⟩ (fun hHeld=>?_)
     clear hK K
     refine norm_ (a':=?_) ?_ ?_
     rotate_left
     ·show Act.put _ (some 55) _ = _
      simp only [Act.put,sa_,sb_,sc_,i64_w]
      rfl
     refine pure_ (i:=24) (N:=some 56) (v:=?_) (a':=?_) #[Y,Y,Y,Y,Y,Y,Y,Y,Y,Y,Y,Y,Y,Y,Y,Y,Y,Y,Y,Y,Y,Y,Y,Y,Y,Z] rfl rfl (any_of HT_.out (by kernel_rfl)) (fun _ _ _ h=>h) (Or.inl ⟨by rfl,?_⟩) ?_ ?_
     rotate_left
     ·intro w';go_simp;with_reducible rfl
     rotate_left
     ·simp only [Act.put,sa_,sb_,sc_,i64_w];rfl
     refine pure_ (i:=25) (N:=some 57) (v:=?_) (a':=?_) #[Y,Y,Y,Y,Y,Y,Y,Y,Y,Y,Y,Y,Y,Y,Y,Y,Y,Y,Y,Y,Y,Y,Y,Y,Y,Y] rfl rfl (any_of HT_.out (by kernel_rfl)) (fun _ _ _ h=>h) (Or.inl ⟨by rfl,?_⟩) ?_ ?_
     rotate_left
     ·intro w';go_simp;with_reducible rfl
     rotate_left
     ·simp only [Act.put,sa_,sb_,sc_,i64_w];rfl
     refine done_ (done_of HT_.out (by kernel_rfl)) ?_
     try go_wp2
     go_meet
     case rel=>exact⟨_,(!aV),(by first|rfl|(simp;done)|(simp [*];done)),H',⟨by first|omega|exact Nat.le_refl _⟩,⟨by (with_reducible repeat (first|apply az7|apply bz7|apply cz7));exact gz7 HO672.out (fun _ hk=>⟨hk.1.1.1.1,⟨hk.1.1.1.2.2.1,⟨hk.1.1.1.2.2.2.1,⟨hk.1.1.1.2.1,hk.1.1.1.2.2.2.2⟩⟩⟩⟩)⟩,⟨by (with_reducible repeat (first|apply az7|apply bz7|apply cz7));exact gz7 HO674.out (fun _ hk=>⟨hk.1.1.1.1,⟨hk.1.1.1.2.2.1,⟨hk.1.1.1.2.2.2.1,⟨hk.1.1.1.2.1,hk.1.1.1.2.2.2.2⟩⟩⟩⟩)⟩,⟨by (with_reducible repeat (first|apply az7|apply bz7|apply cz7));exact gz7 HO683.out (fun _ hk=>⟨hk.1.1.1.1,⟨hk.1.1.1.2.1,⟨hk.1.1.1.2.2.2.1,⟨hk.1.1.1.2.2.1,hk.1.1.1.2.2.2.2⟩⟩⟩⟩)⟩,⟨by (with_reducible repeat (first|apply az7|apply bz7|apply cz7));exact gz7 HO685.out (fun _ hk=>⟨hk.1.1.1.1,⟨hk.1.1.1.2.1,⟨hk.1.1.1.2.2.2.1,⟨hk.1.1.1.2.2.1,hk.1.1.1.2.2.2.2⟩⟩⟩⟩)⟩,⟨by (with_reducible repeat (first|apply az7|apply bz7|apply cz7));exact gz7 HO678.out (fun _ hk=>⟨hk.1.1.1.1,⟨hk.1.1.1.2.1,⟨hk.1.1.1.2.2.1,⟨hk.1.1.1.2.2.2.1,hk.1.1.1.2.2.2.2⟩⟩⟩⟩)⟩,⟨by (with_reducible repeat (first|apply az7|apply bz7|apply cz7));exact gz7 HO689.out (fun _ hk=>⟨hk.1.1.1.1,⟨hk.1.1.1.2.1,⟨hk.1.1.1.2.2.2.1,⟨hk.1.1.1.2.2.2.2,hk.1.1.1.2.2.1⟩⟩⟩⟩)⟩,⟨by (with_reducible repeat (first|refine ey7 ?_ _|refine gy7 ?_|refine fy7 ?_ _));exact BK679.out⟩,⟨by (with_reducible repeat (first|refine ey7 ?_ _|refine gy7 ?_|refine fy7 ?_ _));exact BK690.out⟩,⟨by repeat (first|(with_reducible first|exact HB.out|apply by7|apply ay7|apply cy7|refine dy7 ?_ GE679.out|refine dy7 ?_ GE690.out)|exact HB.out)⟩⟩
    ·rw [if_neg c27] at H
     have c27b0 : (aD == bC) = false:=beq_eq_false_iff_ne.mpr c27
     have c27b1 : (aD != bC) = true:=bne_iff_ne.mpr c27
     have H':=zz7 H
     clear H
     try go_wp2
     have n0_ : Aside0 (Kd.R (Kd.int .u8) 5 ((w20.setCell ⟨gb690,0,none⟩ (.int .i64 aD)).setCell ⟨gb690,1,none⟩ (.slice Ao23 aA.length co23)) w.heap.size (fun k_=>some k_ ≠ (.slice Ao11 aG.length co11 : Value).ownBlock ∧ some k_ ≠ (.slice Ao15 aC.length co15 : Value).ownBlock ∧ some k_ ≠ (.slice Ao17 aJ.length co17 : Value).ownBlock ∧ some k_ ≠ (.slice Ao18 aH.length co18 : Value).ownBlock ∧ some k_ ≠ (.slice Ao23 aA.length co23 : Value).ownBlock) (.slice Ao10 aE.length co10) aE):=⟨by (with_reducible repeat (first|apply az7|apply bz7|apply cz7));exact gz7 (ez7 (p:=⟨gb690,1,none⟩) (ez7 (p:=⟨gb690,0,none⟩) (hz7 HO672.out BK690.out (by decide)) (fun _ hk=>hk.2) (.int .i64 aD)) (fun _ hk=>hk.2) (.slice Ao23 aA.length co23)) (fun _ hk=>⟨hk.1.1.1.1.1,⟨hk.1.1.1.1.2,⟨hk.1.1.1.2,⟨hk.1.1.2,hk.1.2⟩⟩⟩⟩)⟩
     have n1_ : Aside0 (Kd.R (Kd.int .u8) 5 ((w20.setCell ⟨gb690,0,none⟩ (.int .i64 aD)).setCell ⟨gb690,1,none⟩ (.slice Ao23 aA.length co23)) w.heap.size (fun k_=>some k_ ≠ (.slice Ao10 aE.length co10 : Value).ownBlock ∧ some k_ ≠ (.slice Ao15 aC.length co15 : Value).ownBlock ∧ some k_ ≠ (.slice Ao17 aJ.length co17 : Value).ownBlock ∧ some k_ ≠ (.slice Ao18 aH.length co18 : Value).ownBlock ∧ some k_ ≠ (.slice Ao23 aA.length co23 : Value).ownBlock) (.slice Ao11 aG.length co11) aG):=⟨by (with_reducible repeat (first|apply az7|apply bz7|apply cz7));exact gz7 (ez7 (p:=⟨gb690,1,none⟩) (ez7 (p:=⟨gb690,0,none⟩) (hz7 HO674.out BK690.out (by decide)) (fun _ hk=>hk.2) (.int .i64 aD)) (fun _ hk=>hk.2) (.slice Ao23 aA.length co23)) (fun _ hk=>⟨hk.1.1.1.1.1,⟨hk.1.1.1.1.2,⟨hk.1.1.1.2,⟨hk.1.1.2,hk.1.2⟩⟩⟩⟩)⟩
     have n2_ : Aside0 (Kd.R (Kd.int .u8) 82 ((w20.setCell ⟨gb690,0,none⟩ (.int .i64 aD)).setCell ⟨gb690,1,none⟩ (.slice Ao23 aA.length co23)) w.heap.size (fun k_=>some k_ ≠ (.slice Ao10 aE.length co10 : Value).ownBlock ∧ some k_ ≠ (.slice Ao11 aG.length co11 : Value).ownBlock ∧ some k_ ≠ (.slice Ao17 aJ.length co17 : Value).ownBlock ∧ some k_ ≠ (.slice Ao18 aH.length co18 : Value).ownBlock ∧ some k_ ≠ (.slice Ao23 aA.length co23 : Value).ownBlock) (.slice Ao15 aC.length co15) aC):=⟨by (with_reducible repeat (first|apply az7|apply bz7|apply cz7));exact gz7 (ez7 (p:=⟨gb690,1,none⟩) (ez7 (p:=⟨gb690,0,none⟩) (hz7 HO678.out BK690.out (by decide)) (fun _ hk=>hk.2) (.int .i64 aD)) (fun _ hk=>hk.2) (.slice Ao23 aA.length co23)) (fun _ hk=>⟨hk.1.1.1.1.1.2,⟨hk.1.1.1.1.2,⟨hk.1.1.1.2,⟨hk.1.1.2,hk.1.2⟩⟩⟩⟩)⟩
     have n3_ : Aside0 (Kd.R (Kd.int .u8) 5 ((w20.setCell ⟨gb690,0,none⟩ (.int .i64 aD)).setCell ⟨gb690,1,none⟩ (.slice Ao23 aA.length co23)) w.heap.size (fun k_=>some k_ ≠ (.slice Ao10 aE.length co10 : Value).ownBlock ∧ some k_ ≠ (.slice Ao11 aG.length co11 : Value).ownBlock ∧ some k_ ≠ (.slice Ao15 aC.length co15 : Value).ownBlock ∧ some k_ ≠ (.slice Ao18 aH.length co18 : Value).ownBlock ∧ some k_ ≠ (.slice Ao23 aA.length co23 : Value).ownBlock) (.slice Ao17 aJ.length co17) aJ):=⟨by (with_reducible repeat (first|apply az7|apply bz7|apply cz7));exact gz7 (ez7 (p:=⟨gb690,1,none⟩) (ez7 (p:=⟨gb690,0,none⟩) (hz7 HO683.out BK690.out (by decide)) (fun _ hk=>hk.2) (.int .i64 aD)) (fun _ hk=>hk.2) (.slice Ao23 aA.length co23)) (fun _ hk=>⟨hk.1.1.1.1.2,⟨hk.1.1.1.2,⟨hk.1.1.2,⟨hk.1.1.1.1.1,hk.1.2⟩⟩⟩⟩)⟩
     have n4_ : Aside0 (Kd.R (Kd.int .u8) 5 ((w20.setCell ⟨gb690,0,none⟩ (.int .i64 aD)).setCell ⟨gb690,1,none⟩ (.slice Ao23 aA.length co23)) w.heap.size (fun k_=>some k_ ≠ (.slice Ao10 aE.length co10 : Value).ownBlock ∧ some k_ ≠ (.slice Ao11 aG.length co11 : Value).ownBlock ∧ some k_ ≠ (.slice Ao15 aC.length co15 : Value).ownBlock ∧ some k_ ≠ (.slice Ao17 aJ.length co17 : Value).ownBlock ∧ some k_ ≠ (.slice Ao23 aA.length co23 : Value).ownBlock) (.slice Ao18 aH.length co18) aH):=⟨by (with_reducible repeat (first|apply az7|apply bz7|apply cz7));exact gz7 (ez7 (p:=⟨gb690,1,none⟩) (ez7 (p:=⟨gb690,0,none⟩) (hz7 HO685.out BK690.out (by decide)) (fun _ hk=>hk.2) (.int .i64 aD)) (fun _ hk=>hk.2) (.slice Ao23 aA.length co23)) (fun _ hk=>⟨hk.1.1.1.1.2,⟨hk.1.1.1.2,⟨hk.1.1.2,⟨hk.1.1.1.1.1,hk.1.2⟩⟩⟩⟩)⟩
     have n5_ : Aside0 (Kd.R (Kd.int .u8) 82 ((w20.setCell ⟨gb690,0,none⟩ (.int .i64 aD)).setCell ⟨gb690,1,none⟩ (.slice Ao23 aA.length co23)) w.heap.size (fun k_=>some k_ ≠ (.slice Ao10 aE.length co10 : Value).ownBlock ∧ some k_ ≠ (.slice Ao11 aG.length co11 : Value).ownBlock ∧ some k_ ≠ (.slice Ao15 aC.length co15 : Value).ownBlock ∧ some k_ ≠ (.slice Ao17 aJ.length co17 : Value).ownBlock ∧ some k_ ≠ (.slice Ao18 aH.length co18 : Value).ownBlock) (.slice Ao23 aA.length co23) aA):=⟨by (with_reducible repeat (first|apply az7|apply bz7|apply cz7));exact gz7 (ez7 (p:=⟨gb690,1,none⟩) (ez7 (p:=⟨gb690,0,none⟩) (hz7 HO689.out BK690.out (by decide)) (fun _ hk=>hk.2) (.int .i64 aD)) (fun _ hk=>hk.2) (.slice Ao23 aA.length co23)) (fun _ hk=>⟨hk.1.1.1.1.1.2,⟨hk.1.1.1.1.2,⟨hk.1.1.1.2,⟨hk.1.1.2,hk.1.2⟩⟩⟩⟩)⟩
     have n6_ : Aside0 (((w20.setCell ⟨gb690,0,none⟩ (.int .i64 aD)).setCell ⟨gb690,1,none⟩ (.slice Ao23 aA.length co23)).heap[gb679]? = some (.cells #[.int .i64 aI,.slice Ao15 aC.length co15] 26 (0,0))):=⟨by (with_reducible repeat (first|refine ey7 ?_ _|refine gy7 ?_|refine fy7 ?_ _));refine blk_far ?_ NB679_690.out _;(with_reducible repeat (first|refine ey7 ?_ _|refine gy7 ?_|refine fy7 ?_ _));refine blk_far ?_ NB679_690.out _;(with_reducible repeat (first|refine ey7 ?_ _|refine gy7 ?_|refine fy7 ?_ _));exact BK679.out⟩
     have n7_ : Aside0 (((w20.setCell ⟨gb690,0,none⟩ (.int .i64 aD)).setCell ⟨gb690,1,none⟩ (.slice Ao23 aA.length co23)).heap[gb690]? = some (.cells #[.int .i64 aD,.slice Ao23 aA.length co23] 26 (0,0))):=⟨by (with_reducible repeat (first|refine ey7 ?_ _|refine gy7 ?_|refine fy7 ?_ _));refine blk_put (cs:=#[.int .i64 aD,.slice none 0 0]) ?_ 1 _ rfl;(with_reducible repeat (first|refine ey7 ?_ _|refine gy7 ?_|refine fy7 ?_ _));refine blk_put (cs:=#[.int .i64 0,.slice none 0 0]) ?_ 0 _ rfl;(with_reducible repeat (first|refine ey7 ?_ _|refine gy7 ?_|refine fy7 ?_ _));exact BK690.out⟩
     have n8_ : Aside0 (Below w.heap.size w ((w20.setCell ⟨gb690,0,none⟩ (.int .i64 aD)).setCell ⟨gb690,1,none⟩ (.slice Ao23 aA.length co23))):=⟨by repeat (first|(with_reducible first|exact HB.out|apply by7|apply ay7|apply cy7|refine dy7 ?_ GE679.out|refine dy7 ?_ GE690.out)|exact HB.out)⟩
     (try clear HO672);(try clear HO674);(try clear HO678)
     (try clear HO683);(try clear HO685);(try clear HO689)
     (try clear BK679);(try clear BK690);(try clear HB)
     generalize ((w20.setCell ⟨gb690,0,none⟩ (.int .i64 aD)).setCell ⟨gb690,1,none⟩ (.slice Ao23 aA.length co23)) = w36 at n0_ n1_ n2_ n3_ n4_ n5_ n6_ n7_ n8_ ⊢
     have HO672:=n0_
     have HO674:=n1_
     have HO678:=n2_
     have HO683:=n3_
     have HO685:=n4_
     have HO689:=n5_
     have BK679:=n6_
     have BK690:=n7_
     have HB:=n8_
     clear n0_ n1_ n2_ n3_ n4_ n5_ n6_ n7_ n8_
     have n0_:=zz7 (cz7 HO672.out)
     have n1_:=zz7 (cz7 HO674.out)
     have n2_:=zz7 (cz7 HO678.out)
     have n3_:=zz7 (cz7 HO683.out)
     have n4_:=zz7 (cz7 HO685.out)
     have n5_:=zz7 (cz7 HO689.out)
     have n6_:=zz7 (gy7 BK679.out)
     have n7_:=zz7 (gy7 BK690.out)
     have n8_:=zz7 (cy7 HB.out)
     clear HO672
     clear HO674
     clear HO678
     clear HO683
     clear HO685
     clear HO689
     clear BK679
     clear BK690
     clear HB
     have HO672:=n0_
     have HO674:=n1_
     have HO678:=n2_
     have HO683:=n3_
     have HO685:=n4_
     have HO689:=n5_
     have BK679:=n6_
     have BK690:=n7_
     have HB:=n8_
     clear n0_ n1_ n2_ n3_ n4_ n5_ n6_ n7_ n8_
     refine start_ (n:=26) (S:=fun w'=>w'.cell? ⟨gb679,0,none⟩ = some (.int .i64 aI) ∧ w'.cell? ⟨gb679,1,none⟩ = some (.slice Ao15 aC.length co15) ∧ w'.cell? ⟨gb690,0,none⟩ = some (.int .i64 aD) ∧ w'.cell? ⟨gb690,1,none⟩ = some (.slice Ao23 aA.length co23)) (ds:=[]) #[Z,Z,Z,Z,Z,Z,Z,Z,Z,Z,Z,Z,Z,Z,Z,Z,Z,Z,Z,Z,Z,Z,Z,Z,Z,Z] (by kernel_rfl) rfl rfl ⟨(blk_cell BK679.out 0).trans rfl,(blk_cell BK679.out 1).trans rfl,(blk_cell BK690.out 0).trans rfl,(blk_cell BK690.out 1).trans rfl⟩ (fun hHeld=>?_);refine with_tabW laws_FnGroups.tab7 laws_FnGroups.bits7 (fun HT_ HW_=>?_)
     generalize w36.drew = w37 at HO672 HO674 HO678 HO683 HO685 HO689 BK679 BK690 HB hHeld ⊢
     refine pure_ (i:=0) (N:=some 32) (v:=?_) (a':=?_) #[Y,Z,Z,Z,Z,Z,Z,Z,Z,Z,Z,Z,Z,Z,Z,Z,Z,Z,Z,Z,Z,Z,Z,Z,Z,Z] rfl rfl (any_of HT_.out (by kernel_rfl)) (fun _ _ _ h=>h) (Or.inl ⟨by rfl,?_⟩) ?_ ?_
     rotate_left
     ·intro w';go_simp;with_reducible rfl
     rotate_left
     ·simp only [Act.put,sa_,sb_,sc_,i64_w];rfl
     refine pure_ (i:=2) (N:=some 34) (v:=?_) (a':=?_) #[Y,Z,Y,Z,Z,Z,Z,Z,Z,Z,Z,Z,Z,Z,Z,Z,Z,Z,Z,Z,Z,Z,Z,Z,Z,Z] rfl rfl (any_of HT_.out (by kernel_rfl)) (fun _ _ _ h=>h) (Or.inl ⟨by rfl,?_⟩) ?_ ?_
     rotate_left
     ·intro w';go_simp;with_reducible rfl
     rotate_left
     ·simp only [Act.put,sa_,sb_,sc_,i64_w];rfl
     refine pure_ (i:=3) (N:=some 35) (v:=?_) (a':=?_) #[Y,Z,Y,Y,Z,Z,Z,Z,Z,Z,Z,Z,Z,Z,Z,Z,Z,Z,Z,Z,Z,Z,Z,Z,Z,Z] rfl rfl (any_of HT_.out (by kernel_rfl)) (fun _ _ _ h=>h) (Or.inl ⟨by rfl,?_⟩) ?_ ?_
     rotate_left
     ·intro w';go_simp;with_reducible rfl
     rotate_left
     ·simp only [Act.put,sa_,sb_,sc_,i64_w];rfl
     refine take_ (i:=1) (N:=some 33) (v:=?_) (a':=?_) #[Y,Y,Y,Y,Z,Z,Z,Z,Z,Z,Z,Z,Z,Z,Z,Z,Z,Z,Z,Z,Z,Z,Z,Z,Z,Z] rfl rfl (take_ofW HT_.out HW_.out (by kernel_rfl)) (fun _ _ _ h=>h) (Or.inl ⟨by rfl,?_⟩) hHeld ?_ ?_
     rotate_left
     ·rintro w' ⟨s0,s1,s2,s3⟩
      go_simp
      with_reducible rfl
     rotate_left
     ·simp only [Act.put,sa_,sb_,sc_,i64_w];rfl
     refine one_ (i:=4) (N:=some 36) #[Y,Y,Y,Y,Y,Z,Z,Z,Z,Z,Z,Z,Z,Z,Z,Z,Z,Z,Z,Z,Z,Z,Z,Z,Z,Z] rfl rfl (one_of HT_.out (by kernel_rfl)) (by decide) (fun K hK=>?_)
     refine goes_ Try.func47 (by kernel_rfl) rfl #[.slice Ao10 aE.length co10,.slice Ao11 aG.length co11] (by rfl) rfl rfl (by (try simp only [List.map_toArray,List.map_cons,List.map_nil]);first|done|rfl|(simp only [List.length_drop,List.length_take];rfl)) ?_
     with_reducible refine (spec_GroupTimes.calls k _ _ aE _ _ aG bB bL _ ?side1 ?side2 ?side3 ?side4 A24.out).mono ?_
     (case side1=>repeat (first|exact (iz7 HO672.out).2.2|(with_reducible refine Kd.C_alloc ?_ _)|(with_reducible refine Kd.C_drewN ?_ _)|(with_reducible refine Kd.C_drew ?_)))
     (case side2=>exact (iz7 HO672.out).2.1)
     (case side3=>repeat (first|exact (iz7 HO674.out).2.2|(with_reducible refine Kd.C_alloc ?_ _)|(with_reducible refine Kd.C_drewN ?_ _)|(with_reducible refine Kd.C_drew ?_)))
     (case side4=>exact (iz7 HO674.out).2.1)
     rintro e w38 ⟨v693,rfl,ho0,hb⟩
     refine ⟨_,rfl,?_⟩
     have n0_:=zz7 (jz7 (by (with_reducible repeat (first|apply az7|apply bz7|apply cz7));exact HO672.out) (fz7 ho0) hb)
     have n1_:=zz7 (jz7 (by (with_reducible repeat (first|apply az7|apply bz7|apply cz7));exact HO674.out) (fz7 ho0) hb)
     have n2_:=zz7 (jz7 (by (with_reducible repeat (first|apply az7|apply bz7|apply cz7));exact HO678.out) (fz7 ho0) hb)
     have n3_:=zz7 (jz7 (by (with_reducible repeat (first|apply az7|apply bz7|apply cz7));exact HO683.out) (fz7 ho0) hb)
     have n4_:=zz7 (jz7 (by (with_reducible repeat (first|apply az7|apply bz7|apply cz7));exact HO685.out) (fz7 ho0) hb)
     have n5_:=zz7 (jz7 (by (with_reducible repeat (first|apply az7|apply bz7|apply cz7));exact HO689.out) (fz7 ho0) hb)
     have n6_:=zz7 (Kd.R_lower (kz7 (kz7 (kz7 (kz7 (kz7 (kz7 ho0 (Kd.R_lt (by (with_reducible repeat (first|apply az7|apply bz7|apply cz7));exact HO672.out))) (Kd.R_lt (by (with_reducible repeat (first|apply az7|apply bz7|apply cz7));exact HO674.out))) (Kd.R_lt (by (with_reducible repeat (first|apply az7|apply bz7|apply cz7));exact HO678.out))) (Kd.R_lt (by (with_reducible repeat (first|apply az7|apply bz7|apply cz7));exact HO683.out))) (Kd.R_lt (by (with_reducible repeat (first|apply az7|apply bz7|apply cz7));exact HO685.out))) (Kd.R_lt (by (with_reducible repeat (first|apply az7|apply bz7|apply cz7));exact HO689.out))) (below_size (by repeat(first|(with_reducible first|exact HB.out|apply by7|apply ay7|apply cy7|refine dy7 ?_ GE679.out|refine dy7 ?_ GE690.out)|exact HB.out))))
     have n7_:=zz7 (hy7 (g:=gb679) (o:=.cells #[.int .i64 aI,.slice Ao15 aC.length co15] 26 (0,0)) (by (with_reducible repeat (first|refine ey7 ?_ _|refine gy7 ?_|refine fy7 ?_ _));exact BK679.out) hb)
     have n8_:=zz7 (hy7 (g:=gb690) (o:=.cells #[.int .i64 aD,.slice Ao23 aA.length co23] 26 (0,0)) (by (with_reducible repeat (first|refine ey7 ?_ _|refine gy7 ?_|refine fy7 ?_ _));exact BK690.out) hb)
     have n9_:=zz7 (below_step (by repeat(first|(with_reducible first|exact HB.out|apply by7|apply ay7|apply cy7|refine dy7 ?_ GE679.out|refine dy7 ?_ GE690.out)|exact HB.out)) hb)
     clear HO672
     clear HO674
     clear HO678
     clear HO683
     clear HO685
     clear HO689
     clear BK679
     clear BK690
     clear HB
     have HO672:=n0_
     have HO674:=n1_
     have HO678:=n2_
     have HO683:=n3_
     have HO685:=n4_
     have HO689:=n5_
     have HO694:=n6_
     have BK679:=n7_
     have BK690:=n8_
     have HB:=n9_
     clear n0_ n1_ n2_ n3_ n4_ n5_ n6_ n7_ n8_ n9_
     (try clear hb);(try clear hb2);(try clear hk)
     (try clear hi)
     (try clear ho0)
     refine hK.out _ _ ⟨(blk_cell BK679.out 0).trans rfl,(blk_cell BK679.out 1).trans rfl,(blk_cell BK690.out 0).trans rfl,(blk_cell BK690.out 1).trans rfl⟩ (fun hHeld=>?_)
     clear hK K
     refine norm_ (a':=?_) ?_ ?_
     rotate_left
     ·show Act.put _ (some 36) _ = _
      simp only [Act.put,sa_,sb_,sc_,i64_w]
      rfl
     refine pure_ (i:=5) (N:=some 37) (v:=?_) (a':=?_) #[Y,Y,Y,Y,Y,Y,Z,Z,Z,Z,Z,Z,Z,Z,Z,Z,Z,Z,Z,Z,Z,Z,Z,Z,Z,Z] rfl rfl (any_of HT_.out (by kernel_rfl)) (fun _ _ _ h=>h) (Or.inl ⟨by rfl,?_⟩) ?_ ?_
     rotate_left
     ·intro w';go_simp;with_reducible rfl
     rotate_left
     ·simp only [Act.put,sa_,sb_,sc_,i64_w];rfl
     refine pure_ (i:=6) (N:=some 38) (v:=?_) (a':=?_) #[Y,Y,Y,Y,Y,Y,Y,Z,Z,Z,Z,Z,Z,Z,Z,Z,Z,Z,Z,Z,Z,Z,Z,Z,Z,Z] rfl rfl (any_of HT_.out (by kernel_rfl)) (fun _ _ _ h=>h) (Or.inl ⟨by rfl,?_⟩) ?_ ?_
     rotate_left
     ·intro w';go_simp;with_reducible rfl
     rotate_left
     ·simp only [Act.put,sa_,sb_,sc_,i64_w];rfl
     refine pure_ (i:=7) (N:=some 39) (v:=?_) (a':=?_) #[Y,Y,Y,Y,Y,Y,Y,Y,Z,Z,Z,Z,Z,Z,Z,Z,Z,Z,Z,Z,Z,Z,Z,Z,Z,Z] rfl rfl (any_of HT_.out (by kernel_rfl)) (fun _ _ _ h=>h) (Or.inl ⟨by rfl,?_⟩) ?_ ?_
     rotate_left
     ·intro w';go_simp;with_reducible rfl
     rotate_left
     ·simp only [Act.put,sa_,sb_,sc_,i64_w];rfl
     refine pure_ (i:=8) (N:=some 40) (v:=?_) (a':=?_) #[Y,Y,Y,Y,Y,Y,Y,Y,Y,Z,Z,Z,Z,Z,Z,Z,Z,Z,Z,Z,Z,Z,Z,Z,Z,Z] rfl rfl (any_of HT_.out (by kernel_rfl)) (fun _ _ _ h=>h) (Or.inl ⟨by rfl,?_⟩) ?_ ?_
     rotate_left
     ·intro w';go_simp;with_reducible rfl
     rotate_left
     ·simp only [Act.put,sa_,sb_,sc_,i64_w];rfl
     refine pure_ (i:=10) (N:=some 42) (v:=?_) (a':=?_) #[Y,Y,Y,Y,Y,Y,Y,Y,Y,Z,Y,Z,Z,Z,Z,Z,Z,Z,Z,Z,Z,Z,Z,Z,Z,Z] rfl rfl (any_of HT_.out (by kernel_rfl)) (fun _ _ _ h=>h) (Or.inl ⟨by rfl,?_⟩) ?_ ?_
     rotate_left
     ·intro w';go_simp;with_reducible rfl
     rotate_left
     ·simp only [Act.put,sa_,sb_,sc_,i64_w];rfl
     refine pure_ (i:=11) (N:=some 43) (v:=?_) (a':=?_) #[Y,Y,Y,Y,Y,Y,Y,Y,Y,Z,Y,Y,Z,Z,Z,Z,Z,Z,Z,Z,Z,Z,Z,Z,Z,Z] rfl rfl (any_of HT_.out (by kernel_rfl)) (fun _ _ _ h=>h) (Or.inl ⟨by rfl,?_⟩) ?_ ?_
     rotate_left
     ·intro w';go_simp;with_reducible rfl
     rotate_left
     ·simp only [Act.put,sa_,sb_,sc_,i64_w];rfl
     refine take_ (i:=9) (N:=some 41) (v:=?_) (a':=?_) #[Y,Y,Y,Y,Y,Y,Y,Y,Y,Y,Y,Y,Z,Z,Z,Z,Z,Z,Z,Z,Z,Z,Z,Z,Z,Z] rfl rfl (take_ofW HT_.out HW_.out (by kernel_rfl)) (fun _ _ _ h=>h) (Or.inl ⟨by rfl,?_⟩) hHeld ?_ ?_
     rotate_left
     ·rintro w' ⟨s0,s1,s2,s3⟩
      go_simp
      with_reducible rfl
     rotate_left
     ·simp only [Act.put,sa_,sb_,sc_,i64_w];rfl
     refine one_ (i:=12) (N:=some 44) #[Y,Y,Y,Y,Y,Y,Y,Y,Y,Y,Y,Y,Y,Z,Z,Z,Z,Z,Z,Z,Z,Z,Z,Z,Z,Z] rfl rfl (one_of HT_.out (by kernel_rfl)) (by decide) (fun K hK=>?_)
     refine goes_ Try.func48 (by kernel_rfl) rfl #[.slice Ao17 aJ.length co17,.slice Ao18 aH.length co18] (by rfl) rfl rfl (by (try simp only [List.map_toArray,List.map_cons,List.map_nil]);first|done|rfl|(simp only [List.length_drop,List.length_take];rfl)) ?_
     with_reducible refine (spec_HashAll.calls k _ _ aJ _ _ aH bC bM _ ?side1 ?side2 ?side3 ?side4 A26.out).mono ?_
     (case side1=>repeat (first|exact (iz7 HO683.out).2.2|(with_reducible refine Kd.C_alloc ?_ _)|(with_reducible refine Kd.C_drewN ?_ _)|(with_reducible refine Kd.C_drew ?_)))
     (case side2=>exact (iz7 HO683.out).2.1)
     (case side3=>repeat (first|exact (iz7 HO685.out).2.2|(with_reducible refine Kd.C_alloc ?_ _)|(with_reducible refine Kd.C_drewN ?_ _)|(with_reducible refine Kd.C_drew ?_)))
     (case side4=>exact (iz7 HO685.out).2.1)
     rintro e w39 ⟨v697,rfl,ho0,hb⟩
     refine ⟨_,rfl,?_⟩
     have n0_:=zz7 (jz7 (by (with_reducible repeat (first|apply az7|apply bz7|apply cz7));exact HO672.out) (fz7 ho0) hb)
     have n1_:=zz7 (jz7 (by (with_reducible repeat (first|apply az7|apply bz7|apply cz7));exact HO674.out) (fz7 ho0) hb)
     have n2_:=zz7 (jz7 (by (with_reducible repeat (first|apply az7|apply bz7|apply cz7));exact HO678.out) (fz7 ho0) hb)
     have n3_:=zz7 (jz7 (by (with_reducible repeat (first|apply az7|apply bz7|apply cz7));exact HO683.out) (fz7 ho0) hb)
     have n4_:=zz7 (jz7 (by (with_reducible repeat (first|apply az7|apply bz7|apply cz7));exact HO685.out) (fz7 ho0) hb)
     have n5_:=zz7 (jz7 (by (with_reducible repeat (first|apply az7|apply bz7|apply cz7));exact HO689.out) (fz7 ho0) hb)
     have n6_:=zz7 (jz7 (by (with_reducible repeat (first|apply az7|apply bz7|apply cz7));exact HO694.out) (fz7 ho0) hb)
     have n7_:=zz7 (Kd.R_lower (kz7 (kz7 (kz7 (kz7 (kz7 (kz7 (kz7 ho0 (Kd.R_lt (by (with_reducible repeat (first|apply az7|apply bz7|apply cz7));exact HO672.out))) (Kd.R_lt (by (with_reducible repeat (first|apply az7|apply bz7|apply cz7));exact HO674.out))) (Kd.R_lt (by (with_reducible repeat (first|apply az7|apply bz7|apply cz7));exact HO678.out))) (Kd.R_lt (by (with_reducible repeat (first|apply az7|apply bz7|apply cz7));exact HO683.out))) (Kd.R_lt (by (with_reducible repeat (first|apply az7|apply bz7|apply cz7));exact HO685.out))) (Kd.R_lt (by (with_reducible repeat (first|apply az7|apply bz7|apply cz7));exact HO689.out))) (Kd.R_lt (by (with_reducible repeat (first|apply az7|apply bz7|apply cz7));exact HO694.out))) (below_size (by repeat(first|(with_reducible first|exact HB.out|apply by7|apply ay7|apply cy7|refine dy7 ?_ GE679.out|refine dy7 ?_ GE690.out)|exact HB.out))))
     have n8_:=zz7 (hy7 (g:=gb679) (o:=.cells #[.int .i64 aI,.slice Ao15 aC.length co15] 26 (0,0)) (by (with_reducible repeat (first|refine ey7 ?_ _|refine gy7 ?_|refine fy7 ?_ _));exact BK679.out) hb)
     have n9_:=zz7 (hy7 (g:=gb690) (o:=.cells #[.int .i64 aD,.slice Ao23 aA.length co23] 26 (0,0)) (by (with_reducible repeat (first|refine ey7 ?_ _|refine gy7 ?_|refine fy7 ?_ _));exact BK690.out) hb)
     have n10_:=zz7 (below_step (by repeat(first|(with_reducible first|exact HB.out|apply by7|apply ay7|apply cy7|refine dy7 ?_ GE679.out|refine dy7 ?_ GE690.out)|exact HB.out)) hb)
     clear HO672
     clear HO674
     clear HO678
     clear HO683
     clear HO685
     clear HO689
     clear HO694
     clear BK679
     clear BK690
     clear HB
     have HO672:=n0_
     have HO674:=n1_
     have HO678:=n2_
     have HO683:=n3_
     have HO685:=n4_
     have HO689:=n5_
     have HO694:=n6_
     have HO698:=n7_
     have BK679:=n8_
     have BK690:=n9_
     have HB:=n10_
     clear n0_ n1_ n2_ n3_ n4_ n5_ n6_ n7_ n8_ n9_ n10_
     (try clear hb);(try clear hb2);(try clear hk)
     (try clear hi)
     (try clear ho0)
     refine hK.out _ _ ⟨(blk_cell BK679.out 0).trans rfl,(blk_cell BK679.out 1).trans rfl,(blk_cell BK690.out 0).trans rfl,(blk_cell BK690.out 1).trans rfl⟩ (fun hHeld=>?_)
     clear hK K
     refine norm_ (a':=?_) ?_ ?_
     rotate_left
     ·show Act.put _ (some 44) _ = _
      simp only [Act.put,sa_,sb_,sc_,i64_w]
      rfl
     refine pure_ (i:=13) (N:=some 45) (v:=?_) (a':=?_) #[Y,Y,Y,Y,Y,Y,Y,Y,Y,Y,Y,Y,Y,Y,Z,Z,Z,Z,Z,Z,Z,Z,Z,Z,Z,Z] rfl rfl (any_of HT_.out (by kernel_rfl)) (fun _ _ _ h=>h) (Or.inl ⟨by rfl,?_⟩) ?_ ?_
     rotate_left
     ·intro w';go_simp;with_reducible rfl
     rotate_left
     ·simp only [Act.put,sa_,sb_,sc_,i64_w];rfl
     refine pure_ (i:=14) (N:=some 46) (v:=?_) (a':=?_) #[Y,Y,Y,Y,Y,Y,Y,Y,Y,Y,Y,Y,Y,Y,Y,Z,Z,Z,Z,Z,Z,Z,Z,Z,Z,Z] rfl rfl (any_of HT_.out (by kernel_rfl)) (fun _ _ _ h=>h) (Or.inl ⟨by rfl,?_⟩) ?_ ?_
     rotate_left
     ·intro w';go_simp;with_reducible rfl
     rotate_left
     ·simp only [Act.put,sa_,sb_,sc_,i64_w];rfl
     refine pure_ (i:=15) (N:=some 47) (v:=?_) (a':=?_) #[Y,Y,Y,Y,Y,Y,Y,Y,Y,Y,Y,Y,Y,Y,Y,Y,Z,Z,Z,Z,Z,Z,Z,Z,Z,Z] rfl rfl (any_of HT_.out (by kernel_rfl)) (fun _ _ _ h=>h) (Or.inl ⟨by rfl,?_⟩) ?_ ?_
     rotate_left
     ·intro w';go_simp;with_reducible rfl
     rotate_left
     ·simp only [Act.put,sa_,sb_,sc_,i64_w];rfl
     refine pure_ (i:=16) (N:=some 48) (v:=?_) (a':=?_) #[Y,Y,Y,Y,Y,Y,Y,Y,Y,Y,Y,Y,Y,Y,Y,Y,Y,Z,Z,Z,Z,Z,Z,Z,Z,Z] rfl rfl (any_of HT_.out (by kernel_rfl)) (fun _ _ _ h=>h) (Or.inl ⟨by rfl,?_⟩) ?_ ?_
     rotate_left
     ·intro w';go_simp;with_reducible rfl
     rotate_left
     ·simp only [Act.put,sa_,sb_,sc_,i64_w];rfl
     refine pure_ (i:=17) (N:=some 49) (v:=undef) (a':=?_) #[Y,Y,Y,Y,Y,Y,Y,Y,Y,Y,Y,Y,Y,Y,Y,Y,Y,Y,Z,Z,Z,Z,Z,Z,Z,Z] rfl rfl (any_of HT_.out (by kernel_rfl)) (fun _ _ _ h=>h) (Or.inr ⟨by rfl,rfl⟩) ?_ ?_
     rotate_left
     ·simp only [Act.put,sa_,sb_,sc_,i64_w];rfl
     refine pure_ (i:=18) (N:=some 50) (v:=undef) (a':=?_) #[Y,Y,Y,Y,Y,Y,Y,Y,Y,Y,Y,Y,Y,Y,Y,Y,Y,Y,Y,Z,Z,Z,Z,Z,Z,Z] rfl rfl (any_of HT_.out (by kernel_rfl)) (fun _ _ _ h=>h) (Or.inr ⟨by rfl,rfl⟩) ?_ ?_
     rotate_left
     ·simp only [Act.put,sa_,sb_,sc_,i64_w];rfl
     refine pure_ (i:=19) (N:=some 51) (v:=undef) (a':=?_) #[Y,Y,Y,Y,Y,Y,Y,Y,Y,Y,Y,Y,Y,Y,Y,Y,Y,Y,Y,Y,Z,Z,Z,Z,Z,Z] rfl rfl (any_of HT_.out (by kernel_rfl)) (fun _ _ _ h=>h) (Or.inr ⟨by rfl,rfl⟩) ?_ ?_
     rotate_left
     ·simp only [Act.put,sa_,sb_,sc_,i64_w];rfl
     refine pure_ (i:=20) (N:=some 52) (v:=undef) (a':=?_) #[Y,Y,Y,Y,Y,Y,Y,Y,Y,Y,Y,Y,Y,Y,Y,Y,Y,Y,Y,Y,Y,Z,Z,Z,Z,Z] rfl rfl (any_of HT_.out (by kernel_rfl)) (fun _ _ _ h=>h) (Or.inr ⟨by rfl,rfl⟩) ?_ ?_
     rotate_left
     ·simp only [Act.put,sa_,sb_,sc_,i64_w];rfl
     refine pure_ (i:=21) (N:=some 53) (v:=undef) (a':=?_) #[Y,Y,Y,Y,Y,Y,Y,Y,Y,Y,Y,Y,Y,Y,Y,Y,Y,Y,Y,Y,Y,Y,Z,Z,Z,Z] rfl rfl (any_of HT_.out (by kernel_rfl)) (fun _ _ _ h=>h) (Or.inr ⟨by rfl,rfl⟩) ?_ ?_
     rotate_left
     ·simp only [Act.put,sa_,sb_,sc_,i64_w];rfl
     refine pure_ (i:=22) (N:=some 54) (v:=undef) (a':=?_) #[Y,Y,Y,Y,Y,Y,Y,Y,Y,Y,Y,Y,Y,Y,Y,Y,Y,Y,Y,Y,Y,Y,Y,Z,Z,Z] rfl rfl (any_of HT_.out (by kernel_rfl)) (fun _ _ _ h=>h) (Or.inr ⟨by rfl,rfl⟩) ?_ ?_
     rotate_left
     ·simp only [Act.put,sa_,sb_,sc_,i64_w];rfl
     refine pure_ (i:=23) (N:=some 55) (v:=undef) (a':=?_) #[Y,Y,Y,Y,Y,Y,Y,Y,Y,Y,Y,Y,Y,Y,Y,Y,Y,Y,Y,Y,Y,Y,Y,Y,Z,Z] rfl rfl (any_of HT_.out (by kernel_rfl)) (fun _ _ _ h=>h) (Or.inr ⟨by rfl,rfl⟩) ?_ ?_
     rotate_left
     ·simp only [Act.put,sa_,sb_,sc_,i64_w];rfl
     refine pure_ (i:=24) (N:=some 56) (v:=undef) (a':=?_) #[Y,Y,Y,Y,Y,Y,Y,Y,Y,Y,Y,Y,Y,Y,Y,Y,Y,Y,Y,Y,Y,Y,Y,Y,Y,Z] rfl rfl (any_of HT_.out (by kernel_rfl)) (fun _ _ _ h=>h) (Or.inr ⟨by rfl,rfl⟩) ?_ ?_
     rotate_left
     ·simp only [Act.put,sa_,sb_,sc_,i64_w];rfl
     refine pure_ (i:=25) (N:=some 57) (v:=?_) (a':=?_) #[Y,Y,Y,Y,Y,Y,Y,Y,Y,Y,Y,Y,Y,Y,Y,Y,Y,Y,Y,Y,Y,Y,Y,Y,Y,Y] rfl rfl (any_of HT_.out (by kernel_rfl)) (fun _ _ _ h=>h) (Or.inl ⟨by rfl,?_⟩) ?_ ?_
     rotate_left
     ·intro w';go_simp;with_reducible rfl
     rotate_left
     ·simp only [Act.put,sa_,sb_,sc_,i64_w];rfl
     refine done_ (done_of HT_.out (by kernel_rfl)) ?_
     try go_wp2
     go_meet
     case rel=>exact⟨_,(true),(by first|rfl|(simp;done)|(simp [*];done)),H',⟨by first|omega|exact Nat.le_refl _⟩,⟨by (with_reducible repeat (first|apply az7|apply bz7|apply cz7));exact gz7 HO672.out (fun _ hk=>⟨hk.1.1.1,⟨hk.1.1.2.2.1,⟨hk.1.1.2.2.2.1,⟨hk.1.1.2.1,hk.1.1.2.2.2.2⟩⟩⟩⟩)⟩,⟨by (with_reducible repeat (first|apply az7|apply bz7|apply cz7));exact gz7 HO674.out (fun _ hk=>⟨hk.1.1.1,⟨hk.1.1.2.2.1,⟨hk.1.1.2.2.2.1,⟨hk.1.1.2.1,hk.1.1.2.2.2.2⟩⟩⟩⟩)⟩,⟨by (with_reducible repeat (first|apply az7|apply bz7|apply cz7));exact gz7 HO683.out (fun _ hk=>⟨hk.1.1.1,⟨hk.1.1.2.1,⟨hk.1.1.2.2.2.1,⟨hk.1.1.2.2.1,hk.1.1.2.2.2.2⟩⟩⟩⟩)⟩,⟨by (with_reducible repeat (first|apply az7|apply bz7|apply cz7));exact gz7 HO685.out (fun _ hk=>⟨hk.1.1.1,⟨hk.1.1.2.1,⟨hk.1.1.2.2.2.1,⟨hk.1.1.2.2.1,hk.1.1.2.2.2.2⟩⟩⟩⟩)⟩,⟨by (with_reducible repeat (first|apply az7|apply bz7|apply cz7));exact gz7 HO678.out (fun _ hk=>⟨hk.1.1.1,⟨hk.1.1.2.1,⟨hk.1.1.2.2.1,⟨hk.1.1.2.2.2.1,hk.1.1.2.2.2.2⟩⟩⟩⟩)⟩,⟨by (with_reducible repeat (first|apply az7|apply bz7|apply cz7));exact gz7 HO689.out (fun _ hk=>⟨hk.1.1.1,⟨hk.1.1.2.1,⟨hk.1.1.2.2.2.1,⟨hk.1.1.2.2.2.2,hk.1.1.2.2.1⟩⟩⟩⟩)⟩,⟨by (with_reducible repeat (first|refine ey7 ?_ _|refine gy7 ?_|refine fy7 ?_ _));exact BK679.out⟩,⟨by (with_reducible repeat (first|refine ey7 ?_ _|refine gy7 ?_|refine fy7 ?_ _));exact BK690.out⟩,⟨by repeat (first|(with_reducible first|exact HB.out|apply by7|apply ay7|apply cy7|refine dy7 ?_ GE679.out|refine dy7 ?_ GE690.out)|exact HB.out)⟩⟩
   ·rw [if_neg c25] at H
    have c25b0 : (aI == bB) = false:=beq_eq_false_iff_ne.mpr c25
    have c25b1 : (aI != bB) = true:=bne_iff_ne.mpr c25
    (first|rw [c25b0]|(simp only [i64_w,i32_w];rw [c25b0])|skip)
    have H':=zz7 H
    clear H
    try go_wp2
    have n0_ : Aside0 (Kd.R (Kd.int .u8) 5 ((w20.setCell ⟨gb690,0,none⟩ (.int .i64 aD)).setCell ⟨gb690,1,none⟩ (.slice Ao23 aA.length co23)) w.heap.size (fun k_=>some k_ ≠ (.slice Ao11 aG.length co11 : Value).ownBlock ∧ some k_ ≠ (.slice Ao15 aC.length co15 : Value).ownBlock ∧ some k_ ≠ (.slice Ao17 aJ.length co17 : Value).ownBlock ∧ some k_ ≠ (.slice Ao18 aH.length co18 : Value).ownBlock ∧ some k_ ≠ (.slice Ao23 aA.length co23 : Value).ownBlock) (.slice Ao10 aE.length co10) aE):=⟨by (with_reducible repeat (first|apply az7|apply bz7|apply cz7));exact gz7 (ez7 (p:=⟨gb690,1,none⟩) (ez7 (p:=⟨gb690,0,none⟩) (hz7 HO672.out BK690.out (by decide)) (fun _ hk=>hk.2) (.int .i64 aD)) (fun _ hk=>hk.2) (.slice Ao23 aA.length co23)) (fun _ hk=>⟨hk.1.1.1.1.1,⟨hk.1.1.1.1.2,⟨hk.1.1.1.2,⟨hk.1.1.2,hk.1.2⟩⟩⟩⟩)⟩
    have n1_ : Aside0 (Kd.R (Kd.int .u8) 5 ((w20.setCell ⟨gb690,0,none⟩ (.int .i64 aD)).setCell ⟨gb690,1,none⟩ (.slice Ao23 aA.length co23)) w.heap.size (fun k_=>some k_ ≠ (.slice Ao10 aE.length co10 : Value).ownBlock ∧ some k_ ≠ (.slice Ao15 aC.length co15 : Value).ownBlock ∧ some k_ ≠ (.slice Ao17 aJ.length co17 : Value).ownBlock ∧ some k_ ≠ (.slice Ao18 aH.length co18 : Value).ownBlock ∧ some k_ ≠ (.slice Ao23 aA.length co23 : Value).ownBlock) (.slice Ao11 aG.length co11) aG):=⟨by (with_reducible repeat (first|apply az7|apply bz7|apply cz7));exact gz7 (ez7 (p:=⟨gb690,1,none⟩) (ez7 (p:=⟨gb690,0,none⟩) (hz7 HO674.out BK690.out (by decide)) (fun _ hk=>hk.2) (.int .i64 aD)) (fun _ hk=>hk.2) (.slice Ao23 aA.length co23)) (fun _ hk=>⟨hk.1.1.1.1.1,⟨hk.1.1.1.1.2,⟨hk.1.1.1.2,⟨hk.1.1.2,hk.1.2⟩⟩⟩⟩)⟩
    have n2_ : Aside0 (Kd.R (Kd.int .u8) 82 ((w20.setCell ⟨gb690,0,none⟩ (.int .i64 aD)).setCell ⟨gb690,1,none⟩ (.slice Ao23 aA.length co23)) w.heap.size (fun k_=>some k_ ≠ (.slice Ao10 aE.length co10 : Value).ownBlock ∧ some k_ ≠ (.slice Ao11 aG.length co11 : Value).ownBlock ∧ some k_ ≠ (.slice Ao17 aJ.length co17 : Value).ownBlock ∧ some k_ ≠ (.slice Ao18 aH.length co18 : Value).ownBlock ∧ some k_ ≠ (.slice Ao23 aA.length co23 : Value).ownBlock) (.slice Ao15 aC.length co15) aC):=⟨by (with_reducible repeat (first|apply az7|apply bz7|apply cz7));exact gz7 (ez7 (p:=⟨gb690,1,none⟩) (ez7 (p:=⟨gb690,0,none⟩) (hz7 HO678.out BK690.out (by decide)) (fun _ hk=>hk.2) (.int .i64 aD)) (fun _ hk=>hk.2) (.slice Ao23 aA.length co23)) (fun _ hk=>⟨hk.1.1.1.1.1.2,⟨hk.1.1.1.1.2,⟨hk.1.1.1.2,⟨hk.1.1.2,hk.1.2⟩⟩⟩⟩)⟩
    have n3_ : Aside0 (Kd.R (Kd.int .u8) 5 ((w20.setCell ⟨gb690,0,none⟩ (.int .i64 aD)).setCell ⟨gb690,1,none⟩ (.slice Ao23 aA.length co23)) w.heap.size (fun k_=>some k_ ≠ (.slice Ao10 aE.length co10 : Value).ownBlock ∧ some k_ ≠ (.slice Ao11 aG.length co11 : Value).ownBlock ∧ some k_ ≠ (.slice Ao15 aC.length co15 : Value).ownBlock ∧ some k_ ≠ (.slice Ao18 aH.length co18 : Value).ownBlock ∧ some k_ ≠ (.slice Ao23 aA.length co23 : Value).ownBlock) (.slice Ao17 aJ.length co17) aJ):=⟨by (with_reducible repeat (first|apply az7|apply bz7|apply cz7));exact gz7 (ez7 (p:=⟨gb690,1,none⟩) (ez7 (p:=⟨gb690,0,none⟩) (hz7 HO683.out BK690.out (by decide)) (fun _ hk=>hk.2) (.int .i64 aD)) (fun _ hk=>hk.2) (.slice Ao23 aA.length co23)) (fun _ hk=>⟨hk.1.1.1.1.2,⟨hk.1.1.1.2,⟨hk.1.1.2,⟨hk.1.1.1.1.1,hk.1.2⟩⟩⟩⟩)⟩
    have n4_ : Aside0 (Kd.R (Kd.int .u8) 5 ((w20.setCell ⟨gb690,0,none⟩ (.int .i64 aD)).setCell ⟨gb690,1,none⟩ (.slice Ao23 aA.length co23)) w.heap.size (fun k_=>some k_ ≠ (.slice Ao10 aE.length co10 : Value).ownBlock ∧ some k_ ≠ (.slice Ao11 aG.length co11 : Value).ownBlock ∧ some k_ ≠ (.slice Ao15 aC.length co15 : Value).ownBlock ∧ some k_ ≠ (.slice Ao17 aJ.length co17 : Value).ownBlock ∧ some k_ ≠ (.slice Ao23 aA.length co23 : Value).ownBlock) (.slice Ao18 aH.length co18) aH):=⟨by (with_reducible repeat (first|apply az7|apply bz7|apply cz7));exact gz7 (ez7 (p:=⟨gb690,1,none⟩) (ez7 (p:=⟨gb690,0,none⟩) (hz7 HO685.out BK690.out (by decide)) (fun _ hk=>hk.2) (.int .i64 aD)) (fun _ hk=>hk.2) (.slice Ao23 aA.length co23)) (fun _ hk=>⟨hk.1.1.1.1.2,⟨hk.1.1.1.2,⟨hk.1.1.2,⟨hk.1.1.1.1.1,hk.1.2⟩⟩⟩⟩)⟩
    have n5_ : Aside0 (Kd.R (Kd.int .u8) 82 ((w20.setCell ⟨gb690,0,none⟩ (.int .i64 aD)).setCell ⟨gb690,1,none⟩ (.slice Ao23 aA.length co23)) w.heap.size (fun k_=>some k_ ≠ (.slice Ao10 aE.length co10 : Value).ownBlock ∧ some k_ ≠ (.slice Ao11 aG.length co11 : Value).ownBlock ∧ some k_ ≠ (.slice Ao15 aC.length co15 : Value).ownBlock ∧ some k_ ≠ (.slice Ao17 aJ.length co17 : Value).ownBlock ∧ some k_ ≠ (.slice Ao18 aH.length co18 : Value).ownBlock) (.slice Ao23 aA.length co23) aA):=⟨by (with_reducible repeat (first|apply az7|apply bz7|apply cz7));exact gz7 (ez7 (p:=⟨gb690,1,none⟩) (ez7 (p:=⟨gb690,0,none⟩) (hz7 HO689.out BK690.out (by decide)) (fun _ hk=>hk.2) (.int .i64 aD)) (fun _ hk=>hk.2) (.slice Ao23 aA.length co23)) (fun _ hk=>⟨hk.1.1.1.1.1.2,⟨hk.1.1.1.1.2,⟨hk.1.1.1.2,⟨hk.1.1.2,hk.1.2⟩⟩⟩⟩)⟩
    have n6_ : Aside0 (((w20.setCell ⟨gb690,0,none⟩ (.int .i64 aD)).setCell ⟨gb690,1,none⟩ (.slice Ao23 aA.length co23)).heap[gb679]? = some (.cells #[.int .i64 aI,.slice Ao15 aC.length co15] 26 (0,0))):=⟨by (with_reducible repeat (first|refine ey7 ?_ _|refine gy7 ?_|refine fy7 ?_ _));refine blk_far ?_ NB679_690.out _;(with_reducible repeat (first|refine ey7 ?_ _|refine gy7 ?_|refine fy7 ?_ _));refine blk_far ?_ NB679_690.out _;(with_reducible repeat (first|refine ey7 ?_ _|refine gy7 ?_|refine fy7 ?_ _));exact BK679.out⟩
    have n7_ : Aside0 (((w20.setCell ⟨gb690,0,none⟩ (.int .i64 aD)).setCell ⟨gb690,1,none⟩ (.slice Ao23 aA.length co23)).heap[gb690]? = some (.cells #[.int .i64 aD,.slice Ao23 aA.length co23] 26 (0,0))):=⟨by (with_reducible repeat (first|refine ey7 ?_ _|refine gy7 ?_|refine fy7 ?_ _));refine blk_put (cs:=#[.int .i64 aD,.slice none 0 0]) ?_ 1 _ rfl;(with_reducible repeat (first|refine ey7 ?_ _|refine gy7 ?_|refine fy7 ?_ _));refine blk_put (cs:=#[.int .i64 0,.slice none 0 0]) ?_ 0 _ rfl;(with_reducible repeat (first|refine ey7 ?_ _|refine gy7 ?_|refine fy7 ?_ _));exact BK690.out⟩
    have n8_ : Aside0 (Below w.heap.size w ((w20.setCell ⟨gb690,0,none⟩ (.int .i64 aD)).setCell ⟨gb690,1,none⟩ (.slice Ao23 aA.length co23))):=⟨by repeat (first|(with_reducible first|exact HB.out|apply by7|apply ay7|apply cy7|refine dy7 ?_ GE679.out|refine dy7 ?_ GE690.out)|exact HB.out)⟩
    (try clear HO672);(try clear HO674);(try clear HO678)
    (try clear HO683);(try clear HO685);(try clear HO689)
    (try clear BK679);(try clear BK690);(try clear HB)
    generalize ((w20.setCell ⟨gb690,0,none⟩ (.int .i64 aD)).setCell ⟨gb690,1,none⟩ (.slice Ao23 aA.length co23)) = w40 at n0_ n1_ n2_ n3_ n4_ n5_ n6_ n7_ n8_ ⊢
    have HO672:=n0_
    have HO674:=n1_
    have HO678:=n2_
    have HO683:=n3_
    have HO685:=n4_
    have HO689:=n5_
    have BK679:=n6_
    have BK690:=n7_
    have HB:=n8_
    clear n0_ n1_ n2_ n3_ n4_ n5_ n6_ n7_ n8_
    have n0_:=zz7 (cz7 HO672.out)
    have n1_:=zz7 (cz7 HO674.out)
    have n2_:=zz7 (cz7 HO678.out)
    have n3_:=zz7 (cz7 HO683.out)
    have n4_:=zz7 (cz7 HO685.out)
    have n5_:=zz7 (cz7 HO689.out)
    have n6_:=zz7 (gy7 BK679.out)
    have n7_:=zz7 (gy7 BK690.out)
    have n8_:=zz7 (cy7 HB.out)
    clear HO672
    clear HO674
    clear HO678
    clear HO683
    clear HO685
    clear HO689
    clear BK679
    clear BK690
    clear HB
    have HO672:=n0_
    have HO674:=n1_
    have HO678:=n2_
    have HO683:=n3_
    have HO685:=n4_
    have HO689:=n5_
    have BK679:=n6_
    have BK690:=n7_
    have HB:=n8_
    clear n0_ n1_ n2_ n3_ n4_ n5_ n6_ n7_ n8_
    refine start_ (n:=26) (S:=fun w'=>w'.cell? ⟨gb679,0,none⟩ = some (.int .i64 aI) ∧ w'.cell? ⟨gb679,1,none⟩ = some (.slice Ao15 aC.length co15)) (ds:=[]) #[Z,Z,Z,Z,Z,Z,Z,Z,Z,Z,Z,Z,Z,Z,Z,Z,Z,Z,Z,Z,Z,Z,Z,Z,Z,Z] (by kernel_rfl) rfl rfl ⟨(blk_cell BK679.out 0).trans rfl,(blk_cell BK679.out 1).trans rfl⟩ (fun hHeld=>?_);refine with_tabW laws_FnGroups.tab7 laws_FnGroups.bits7 (fun HT_ HW_=>?_)
    generalize w40.drew = w41 at HO672 HO674 HO678 HO683 HO685 HO689 BK679 BK690 HB hHeld ⊢
    refine pure_ (i:=0) (N:=some 32) (v:=?_) (a':=?_) #[Y,Z,Z,Z,Z,Z,Z,Z,Z,Z,Z,Z,Z,Z,Z,Z,Z,Z,Z,Z,Z,Z,Z,Z,Z,Z] rfl rfl (any_of HT_.out (by kernel_rfl)) (fun _ _ _ h=>h) (Or.inl ⟨by rfl,?_⟩) ?_ ?_
    rotate_left
    ·intro w';go_simp;with_reducible rfl
    rotate_left
    ·simp only [Act.put,sa_,sb_,sc_,i64_w];rfl
    refine pure_ (i:=2) (N:=some 34) (v:=?_) (a':=?_) #[Y,Z,Y,Z,Z,Z,Z,Z,Z,Z,Z,Z,Z,Z,Z,Z,Z,Z,Z,Z,Z,Z,Z,Z,Z,Z] rfl rfl (any_of HT_.out (by kernel_rfl)) (fun _ _ _ h=>h) (Or.inl ⟨by rfl,?_⟩) ?_ ?_
    rotate_left
    ·intro w';go_simp;with_reducible rfl
    rotate_left
    ·simp only [Act.put,sa_,sb_,sc_,i64_w];rfl
    refine pure_ (i:=3) (N:=some 35) (v:=?_) (a':=?_) #[Y,Z,Y,Y,Z,Z,Z,Z,Z,Z,Z,Z,Z,Z,Z,Z,Z,Z,Z,Z,Z,Z,Z,Z,Z,Z] rfl rfl (any_of HT_.out (by kernel_rfl)) (fun _ _ _ h=>h) (Or.inl ⟨by rfl,?_⟩) ?_ ?_
    rotate_left
    ·intro w';go_simp;with_reducible rfl
    rotate_left
    ·simp only [Act.put,sa_,sb_,sc_,i64_w];rfl
    refine take_ (i:=1) (N:=some 33) (v:=?_) (a':=?_) #[Y,Y,Y,Y,Z,Z,Z,Z,Z,Z,Z,Z,Z,Z,Z,Z,Z,Z,Z,Z,Z,Z,Z,Z,Z,Z] rfl rfl (take_ofW HT_.out HW_.out (by kernel_rfl)) (fun _ _ _ h=>h) (Or.inl ⟨by rfl,?_⟩) hHeld ?_ ?_
    rotate_left
    ·rintro w' ⟨s0,s1⟩
     go_simp
     with_reducible rfl
    rotate_left
    ·simp only [Act.put,sa_,sb_,sc_,i64_w];rfl
    refine one_ (i:=4) (N:=some 36) #[Y,Y,Y,Y,Y,Z,Z,Z,Z,Z,Z,Z,Z,Z,Z,Z,Z,Z,Z,Z,Z,Z,Z,Z,Z,Z] rfl rfl (one_of HT_.out (by kernel_rfl)) (by decide) (fun K hK=>?_)
    refine goes_ Try.func47 (by kernel_rfl) rfl #[.slice Ao10 aE.length co10,.slice Ao11 aG.length co11] (by rfl) rfl rfl (by (try simp only [List.map_toArray,List.map_cons,List.map_nil]);first|done|rfl|(simp only [List.length_drop,List.length_take];rfl)) ?_
    with_reducible refine (spec_GroupTimes.calls k _ _ aE _ _ aG bB bL _ ?side1 ?side2 ?side3 ?side4 A24.out).mono ?_
    (case side1=>repeat (first|exact (iz7 HO672.out).2.2|(with_reducible refine Kd.C_alloc ?_ _)|(with_reducible refine Kd.C_drewN ?_ _)|(with_reducible refine Kd.C_drew ?_)))
    (case side2=>exact (iz7 HO672.out).2.1)
    (case side3=>repeat (first|exact (iz7 HO674.out).2.2|(with_reducible refine Kd.C_alloc ?_ _)|(with_reducible refine Kd.C_drewN ?_ _)|(with_reducible refine Kd.C_drew ?_)))
    (case side4=>exact (iz7 HO674.out).2.1)
    rintro e w42 ⟨v693,rfl,ho0,hb⟩
    refine ⟨_,rfl,?_⟩
    have n0_:=zz7 (jz7 (by (with_reducible repeat (first|apply az7|apply bz7|apply cz7));exact HO672.out) (fz7 ho0) hb)
    have n1_:=zz7 (jz7 (by (with_reducible repeat (first|apply az7|apply bz7|apply cz7));exact HO674.out) (fz7 ho0) hb)
    have n2_:=zz7 (jz7 (by (with_reducible repeat (first|apply az7|apply bz7|apply cz7));exact HO678.out) (fz7 ho0) hb)
    have n3_:=zz7 (jz7 (by (with_reducible repeat (first|apply az7|apply bz7|apply cz7));exact HO683.out) (fz7 ho0) hb)
    have n4_:=zz7 (jz7 (by (with_reducible repeat (first|apply az7|apply bz7|apply cz7));exact HO685.out) (fz7 ho0) hb)
    have n5_:=zz7 (jz7 (by (with_reducible repeat (first|apply az7|apply bz7|apply cz7));exact HO689.out) (fz7 ho0) hb)
    have n6_:=zz7 (Kd.R_lower (kz7 (kz7 (kz7 (kz7 (kz7 (kz7 ho0 (Kd.R_lt (by (with_reducible repeat (first|apply az7|apply bz7|apply cz7));exact HO672.out))) (Kd.R_lt (by (with_reducible repeat (first|apply az7|apply bz7|apply cz7));exact HO674.out))) (Kd.R_lt (by (with_reducible repeat (first|apply az7|apply bz7|apply cz7));exact HO678.out))) (Kd.R_lt (by (with_reducible repeat (first|apply az7|apply bz7|apply cz7));exact HO683.out))) (Kd.R_lt (by (with_reducible repeat (first|apply az7|apply bz7|apply cz7));exact HO685.out))) (Kd.R_lt (by (with_reducible repeat (first|apply az7|apply bz7|apply cz7));exact HO689.out))) (below_size (by repeat(first|(with_reducible first|exact HB.out|apply by7|apply ay7|apply cy7|refine dy7 ?_ GE679.out|refine dy7 ?_ GE690.out)|exact HB.out))))
    have n7_:=zz7 (hy7 (g:=gb679) (o:=.cells #[.int .i64 aI,.slice Ao15 aC.length co15] 26 (0,0)) (by (with_reducible repeat (first|refine ey7 ?_ _|refine gy7 ?_|refine fy7 ?_ _));exact BK679.out) hb)
    have n8_:=zz7 (hy7 (g:=gb690) (o:=.cells #[.int .i64 aD,.slice Ao23 aA.length co23] 26 (0,0)) (by (with_reducible repeat (first|refine ey7 ?_ _|refine gy7 ?_|refine fy7 ?_ _));exact BK690.out) hb)
    have n9_:=zz7 (below_step (by repeat(first|(with_reducible first|exact HB.out|apply by7|apply ay7|apply cy7|refine dy7 ?_ GE679.out|refine dy7 ?_ GE690.out)|exact HB.out)) hb)
    clear HO672
    clear HO674
    clear HO678
    clear HO683
    clear HO685
    clear HO689
    clear BK679
    clear BK690
    clear HB
    have HO672:=n0_
    have HO674:=n1_
    have HO678:=n2_
    have HO683:=n3_
    have HO685:=n4_
    have HO689:=n5_
    have HO694:=n6_
    have BK679:=n7_
    have BK690:=n8_
    have HB:=n9_
    clear n0_ n1_ n2_ n3_ n4_ n5_ n6_ n7_ n8_ n9_
    (try clear hb);(try clear hb2);(try clear hk)
    (try clear hi)
    (try clear ho0)
    refine hK.out _ _ ⟨(blk_cell BK679.out 0).trans rfl,(blk_cell BK679.out 1).trans rfl⟩ (fun hHeld=>?_)
    clear hK K
    refine norm_ (a':=?_) ?_ ?_
    rotate_left
    ·show Act.put _ (some 36) _ = _
     simp only [Act.put,sa_,sb_,sc_,i64_w]
     rfl
    refine pure_ (i:=5) (N:=some 37) (v:=?_) (a':=?_) #[Y,Y,Y,Y,Y,Y,Z,Z,Z,Z,Z,Z,Z,Z,Z,Z,Z,Z,Z,Z,Z,Z,Z,Z,Z,Z] rfl rfl (any_of HT_.out (by kernel_rfl)) (fun _ _ _ h=>h) (Or.inl ⟨by rfl,?_⟩) ?_ ?_
    rotate_left
    ·intro w';go_simp;with_reducible rfl
    rotate_left
    ·simp only [Act.put,sa_,sb_,sc_,i64_w];rfl
    refine pure_ (i:=6) (N:=some 38) (v:=?_) (a':=?_) #[Y,Y,Y,Y,Y,Y,Y,Z,Z,Z,Z,Z,Z,Z,Z,Z,Z,Z,Z,Z,Z,Z,Z,Z,Z,Z] rfl rfl (any_of HT_.out (by kernel_rfl)) (fun _ _ _ h=>h) (Or.inl ⟨by rfl,?_⟩) ?_ ?_
    rotate_left
    ·intro w';go_simp;with_reducible rfl
    rotate_left
    ·simp only [Act.put,sa_,sb_,sc_,i64_w];rfl
    refine pure_ (i:=7) (N:=some 39) (v:=?_) (a':=?_) #[Y,Y,Y,Y,Y,Y,Y,Y,Z,Z,Z,Z,Z,Z,Z,Z,Z,Z,Z,Z,Z,Z,Z,Z,Z,Z] rfl rfl (any_of HT_.out (by kernel_rfl)) (fun _ _ _ h=>h) (Or.inl ⟨by rfl,?_⟩) ?_ ?_
    rotate_left
    ·intro w';go_simp;with_reducible rfl
    rotate_left
    ·simp only [Act.put,sa_,sb_,sc_,i64_w];rfl
    refine pure_ (i:=8) (N:=some 40) (v:=undef) (a':=?_) #[Y,Y,Y,Y,Y,Y,Y,Y,Y,Z,Z,Z,Z,Z,Z,Z,Z,Z,Z,Z,Z,Z,Z,Z,Z,Z] rfl rfl (any_of HT_.out (by kernel_rfl)) (fun _ _ _ h=>h) (Or.inr ⟨by rfl,rfl⟩) ?_ ?_
    rotate_left
    ·simp only [Act.put,sa_,sb_,sc_,i64_w];rfl
    refine pure_ (i:=9) (N:=some 41) (v:=undef) (a':=?_) #[Y,Y,Y,Y,Y,Y,Y,Y,Y,Y,Z,Z,Z,Z,Z,Z,Z,Z,Z,Z,Z,Z,Z,Z,Z,Z] rfl rfl (any_of HT_.out (by kernel_rfl)) (fun _ _ _ h=>h) (Or.inr ⟨by rfl,rfl⟩) ?_ ?_
    rotate_left
    ·simp only [Act.put,sa_,sb_,sc_,i64_w];rfl
    refine pure_ (i:=10) (N:=some 42) (v:=undef) (a':=?_) #[Y,Y,Y,Y,Y,Y,Y,Y,Y,Y,Y,Z,Z,Z,Z,Z,Z,Z,Z,Z,Z,Z,Z,Z,Z,Z] rfl rfl (any_of HT_.out (by kernel_rfl)) (fun _ _ _ h=>h) (Or.inr ⟨by rfl,rfl⟩) ?_ ?_
    rotate_left
    ·simp only [Act.put,sa_,sb_,sc_,i64_w];rfl
    refine pure_ (i:=11) (N:=some 43) (v:=undef) (a':=?_) #[Y,Y,Y,Y,Y,Y,Y,Y,Y,Y,Y,Y,Z,Z,Z,Z,Z,Z,Z,Z,Z,Z,Z,Z,Z,Z] rfl rfl (any_of HT_.out (by kernel_rfl)) (fun _ _ _ h=>h) (Or.inr ⟨by rfl,rfl⟩) ?_ ?_
    rotate_left
    ·simp only [Act.put,sa_,sb_,sc_,i64_w];rfl
    refine pure_ (i:=12) (N:=some 44) (v:=undef) (a':=?_) #[Y,Y,Y,Y,Y,Y,Y,Y,Y,Y,Y,Y,Y,Z,Z,Z,Z,Z,Z,Z,Z,Z,Z,Z,Z,Z] rfl rfl (any_of HT_.out (by kernel_rfl)) (fun _ _ _ h=>h) (Or.inr ⟨by rfl,rfl⟩) ?_ ?_
    rotate_left
    ·simp only [Act.put,sa_,sb_,sc_,i64_w];rfl
    refine pure_ (i:=13) (N:=some 45) (v:=undef) (a':=?_) #[Y,Y,Y,Y,Y,Y,Y,Y,Y,Y,Y,Y,Y,Y,Z,Z,Z,Z,Z,Z,Z,Z,Z,Z,Z,Z] rfl rfl (any_of HT_.out (by kernel_rfl)) (fun _ _ _ h=>h) (Or.inr ⟨by rfl,rfl⟩) ?_ ?_
    rotate_left
    ·simp only [Act.put,sa_,sb_,sc_,i64_w];rfl
    refine pure_ (i:=14) (N:=some 46) (v:=undef) (a':=?_) #[Y,Y,Y,Y,Y,Y,Y,Y,Y,Y,Y,Y,Y,Y,Y,Z,Z,Z,Z,Z,Z,Z,Z,Z,Z,Z] rfl rfl (any_of HT_.out (by kernel_rfl)) (fun _ _ _ h=>h) (Or.inr ⟨by rfl,rfl⟩) ?_ ?_
    rotate_left
    ·simp only [Act.put,sa_,sb_,sc_,i64_w];rfl
    refine pure_ (i:=15) (N:=some 47) (v:=?_) (a':=?_) #[Y,Y,Y,Y,Y,Y,Y,Y,Y,Y,Y,Y,Y,Y,Y,Y,Z,Z,Z,Z,Z,Z,Z,Z,Z,Z] rfl rfl (any_of HT_.out (by kernel_rfl)) (fun _ _ _ h=>h) (Or.inl ⟨by rfl,?_⟩) ?_ ?_
    rotate_left
    ·intro w';go_simp;with_reducible rfl
    rotate_left
    ·simp only [Act.put,sa_,sb_,sc_,i64_w];rfl
    refine pure_ (i:=16) (N:=some 48) (v:=?_) (a':=?_) #[Y,Y,Y,Y,Y,Y,Y,Y,Y,Y,Y,Y,Y,Y,Y,Y,Y,Z,Z,Z,Z,Z,Z,Z,Z,Z] rfl rfl (any_of HT_.out (by kernel_rfl)) (fun _ _ _ h=>h) (Or.inl ⟨by rfl,?_⟩) ?_ ?_
    rotate_left
    ·intro w';go_simp;with_reducible rfl
    rotate_left
    ·simp only [Act.put,sa_,sb_,sc_,i64_w];rfl
    refine pure_ (i:=17) (N:=some 49) (v:=undef) (a':=?_) #[Y,Y,Y,Y,Y,Y,Y,Y,Y,Y,Y,Y,Y,Y,Y,Y,Y,Y,Z,Z,Z,Z,Z,Z,Z,Z] rfl rfl (any_of HT_.out (by kernel_rfl)) (fun _ _ _ h=>h) (Or.inr ⟨by rfl,rfl⟩) ?_ ?_
    rotate_left
    ·simp only [Act.put,sa_,sb_,sc_,i64_w];rfl
    refine pure_ (i:=18) (N:=some 50) (v:=undef) (a':=?_) #[Y,Y,Y,Y,Y,Y,Y,Y,Y,Y,Y,Y,Y,Y,Y,Y,Y,Y,Y,Z,Z,Z,Z,Z,Z,Z] rfl rfl (any_of HT_.out (by kernel_rfl)) (fun _ _ _ h=>h) (Or.inr ⟨by rfl,rfl⟩) ?_ ?_
    rotate_left
    ·simp only [Act.put,sa_,sb_,sc_,i64_w];rfl
    refine pure_ (i:=19) (N:=some 51) (v:=undef) (a':=?_) #[Y,Y,Y,Y,Y,Y,Y,Y,Y,Y,Y,Y,Y,Y,Y,Y,Y,Y,Y,Y,Z,Z,Z,Z,Z,Z] rfl rfl (any_of HT_.out (by kernel_rfl)) (fun _ _ _ h=>h) (Or.inr ⟨by rfl,rfl⟩) ?_ ?_
    rotate_left
    ·simp only [Act.put,sa_,sb_,sc_,i64_w];rfl
    refine pure_ (i:=20) (N:=some 52) (v:=undef) (a':=?_) #[Y,Y,Y,Y,Y,Y,Y,Y,Y,Y,Y,Y,Y,Y,Y,Y,Y,Y,Y,Y,Y,Z,Z,Z,Z,Z] rfl rfl (any_of HT_.out (by kernel_rfl)) (fun _ _ _ h=>h) (Or.inr ⟨by rfl,rfl⟩) ?_ ?_
    rotate_left
    ·simp only [Act.put,sa_,sb_,sc_,i64_w];rfl
    refine pure_ (i:=21) (N:=some 53) (v:=undef) (a':=?_) #[Y,Y,Y,Y,Y,Y,Y,Y,Y,Y,Y,Y,Y,Y,Y,Y,Y,Y,Y,Y,Y,Y,Z,Z,Z,Z] rfl rfl (any_of HT_.out (by kernel_rfl)) (fun _ _ _ h=>h) (Or.inr ⟨by rfl,rfl⟩) ?_ ?_
    rotate_left
    ·simp only [Act.put,sa_,sb_,sc_,i64_w];rfl
    refine pure_ (i:=22) (N:=some 54) (v:=undef) (a':=?_) #[Y,Y,Y,Y,Y,Y,Y,Y,Y,Y,Y,Y,Y,Y,Y,Y,Y,Y,Y,Y,Y,Y,Y,Z,Z,Z] rfl rfl (any_of HT_.out (by kernel_rfl)) (fun _ _ _ h=>h) (Or.inr ⟨by rfl,rfl⟩) ?_ ?_
    rotate_left
    ·simp only [Act.put,sa_,sb_,sc_,i64_w];rfl
    refine pure_ (i:=23) (N:=some 55) (v:=undef) (a':=?_) #[Y,Y,Y,Y,Y,Y,Y,Y,Y,Y,Y,Y,Y,Y,Y,Y,Y,Y,Y,Y,Y,Y,Y,Y,Z,Z] rfl rfl (any_of HT_.out (by kernel_rfl)) (fun _ _ _ h=>h) (Or.inr ⟨by rfl,rfl⟩) ?_ ?_
    rotate_left
    ·simp only [Act.put,sa_,sb_,sc_,i64_w];rfl
    refine pure_ (i:=24) (N:=some 56) (v:=undef) (a':=?_) #[Y,Y,Y,Y,Y,Y,Y,Y,Y,Y,Y,Y,Y,Y,Y,Y,Y,Y,Y,Y,Y,Y,Y,Y,Y,Z] rfl rfl (any_of HT_.out (by kernel_rfl)) (fun _ _ _ h=>h) (Or.inr ⟨by rfl,rfl⟩) ?_ ?_
    rotate_left
    ·simp only [Act.put,sa_,sb_,sc_,i64_w];rfl
    refine pure_ (i:=25) (N:=some 57) (v:=?_) (a':=?_) #[Y,Y,Y,Y,Y,Y,Y,Y,Y,Y,Y,Y,Y,Y,Y,Y,Y,Y,Y,Y,Y,Y,Y,Y,Y,Y] rfl rfl (any_of HT_.out (by kernel_rfl)) (fun _ _ _ h=>h) (Or.inl ⟨by rfl,?_⟩) ?_ ?_
    rotate_left
    ·intro w';go_simp;with_reducible rfl
    rotate_left
    ·simp only [Act.put,sa_,sb_,sc_,i64_w];rfl
    refine done_ (done_of HT_.out (by kernel_rfl)) ?_
    try go_wp2
    go_meet
    case rel=>exact⟨_,(true),(by first|rfl|(simp;done)|(simp [*];done)),H',⟨by first|omega|exact Nat.le_refl _⟩,⟨by (with_reducible repeat (first|apply az7|apply bz7|apply cz7));exact gz7 HO672.out (fun _ hk=>⟨hk.1.1,⟨hk.1.2.2.1,⟨hk.1.2.2.2.1,⟨hk.1.2.1,hk.1.2.2.2.2⟩⟩⟩⟩)⟩,⟨by (with_reducible repeat (first|apply az7|apply bz7|apply cz7));exact gz7 HO674.out (fun _ hk=>⟨hk.1.1,⟨hk.1.2.2.1,⟨hk.1.2.2.2.1,⟨hk.1.2.1,hk.1.2.2.2.2⟩⟩⟩⟩)⟩,⟨by (with_reducible repeat (first|apply az7|apply bz7|apply cz7));exact gz7 HO683.out (fun _ hk=>⟨hk.1.1,⟨hk.1.2.1,⟨hk.1.2.2.2.1,⟨hk.1.2.2.1,hk.1.2.2.2.2⟩⟩⟩⟩)⟩,⟨by (with_reducible repeat (first|apply az7|apply bz7|apply cz7));exact gz7 HO685.out (fun _ hk=>⟨hk.1.1,⟨hk.1.2.1,⟨hk.1.2.2.2.1,⟨hk.1.2.2.1,hk.1.2.2.2.2⟩⟩⟩⟩)⟩,⟨by (with_reducible repeat (first|apply az7|apply bz7|apply cz7));exact gz7 HO678.out (fun _ hk=>⟨hk.1.1,⟨hk.1.2.1,⟨hk.1.2.2.1,⟨hk.1.2.2.2.1,hk.1.2.2.2.2⟩⟩⟩⟩)⟩,⟨by (with_reducible repeat (first|apply az7|apply bz7|apply cz7));exact gz7 HO689.out (fun _ hk=>⟨hk.1.1,⟨hk.1.2.1,⟨hk.1.2.2.2.1,⟨hk.1.2.2.2.2,hk.1.2.2.1⟩⟩⟩⟩)⟩,⟨by (with_reducible repeat (first|refine ey7 ?_ _|refine gy7 ?_|refine fy7 ?_ _));exact BK679.out⟩,⟨by (with_reducible repeat (first|refine ey7 ?_ _|refine gy7 ?_|refine fy7 ?_ _));exact BK690.out⟩,⟨by repeat (first|(with_reducible first|exact HB.out|apply by7|apply ay7|apply cy7|refine dy7 ?_ GE679.out|refine dy7 ?_ GE690.out)|exact HB.out)⟩⟩
  case rest =>
   clear HC8
   try clear c2
   try clear p2
   try clear c4
   try clear c25
   try clear c25b0
   try clear c25b1
   try clear c27
   try clear c27b0
   try clear c27b1
   obtain⟨kq,x57_7,rfl,HA,HJ7,HO_3,HO_4,HO_6,HO_7,HO_680001,HO_691001,BK679,BK690,HB⟩:=hcut
   cases kq with
  |zero=>exact absurd HA.out (by simp [laws_FnGroups.j0])
  |succ kj7 =>
    have H:=HA.out
    clear HA
    simp only [laws_FnGroups.j0] at H
    by_cases c43 : x57_7 = true
    ·subst c43
     have H1 : (some false) = some r:=by rw [if_pos rfl] at H;exact H
     clear H
     have H:=H1
     clear H1
     exact absurd (Option.some.inj H) (by rw [HRT.out];decide)
    ·replace c43:=Bool.eq_false_iff.mpr c43
     subst c43
     have H1 : (if aD = 0 then ((some (([] : List Int) : List Int)).bind fun y704=>(if y704.length + aH.length < 140737488355328 then ((some (y704 ++ aH : List Int)).bind fun y707=>(laws_FnGroups.l0 kj7 l0 aE aG aJ aH y707 (y707.length : Int) 0 aI aC aD aA)) else (none))) else (laws_FnGroups.j2 kj7 l0 aE aG aI aC)) = some r:=by rw [if_neg (show ¬ (false = true) by decide)] at H;exact H
     clear H
     have H:=H1
     clear H1
     have HC44:=zz7 H
     clear H
     have hnb45:=NB690_679.out
     have hnc45:=NB679_690.out
     have hcz46_0 : wc.cell? ⟨gb690,0,none⟩ = some (.int .i64 aD):=(blk_cell BK690.out 0).trans rfl
     have hcz46_1 : wc.cell? ⟨gb690,1,none⟩ = some (.slice Ao23 aA.length co23):=(blk_cell BK690.out 1).trans rfl
     have hfz46_0:=blk_frozen BK690.out 0
     have hfz46_1:=blk_frozen BK690.out 1
     go_upto_if 60 with (fail)
     go_cut [] (fun wc=>∃ (kq : Nat) (x3_43 : List Int) (x4_43 : List Int) (x680001_43 : List Int) (x691001_43 : List Int) (u680001 : Value) (u691001 : Value),Aside0 (laws_FnGroups.j2 kq l0 x3_43 x4_43 aI x680001_43 = some r) ∧ Aside0 (kq ≤ kj7) ∧ Aside0 (Kd.R (Kd.int .u8) 5 wc w.heap.size (fun k_=>some k_ ≠ ((.slice Ao11 aG.length co11) : Value).ownBlock ∧ some k_ ≠ (u680001 : Value).ownBlock ∧ some k_ ≠ (u691001 : Value).ownBlock) (.slice Ao10 aE.length co10) x3_43) ∧ Aside0 (Kd.R (Kd.int .u8) 5 wc w.heap.size (fun k_=>some k_ ≠ ((.slice Ao10 aE.length co10) : Value).ownBlock ∧ some k_ ≠ (u680001 : Value).ownBlock ∧ some k_ ≠ (u691001 : Value).ownBlock) (.slice Ao11 aG.length co11) x4_43) ∧ Aside0 (Kd.R (Kd.int .u8) 82 wc w.heap.size (fun k_=>some k_ ≠ ((.slice Ao10 aE.length co10) : Value).ownBlock ∧ some k_ ≠ ((.slice Ao11 aG.length co11) : Value).ownBlock ∧ some k_ ≠ (u691001 : Value).ownBlock) u680001 x680001_43) ∧ Aside0 (Kd.R (Kd.int .u8) 82 wc w.heap.size (fun k_=>some k_ ≠ ((.slice Ao10 aE.length co10) : Value).ownBlock ∧ some k_ ≠ ((.slice Ao11 aG.length co11) : Value).ownBlock ∧ some k_ ≠ (u680001 : Value).ownBlock) u691001 x691001_43) ∧ Aside0 (wc.heap[gb679]? = some (.cells #[.int .i64 aI,u680001] 26 (0,0))) ∧ Aside0 (wc.heap[gb690]? = some (.cells #[.int .i64 aD,u691001] 26 (0,0))) ∧ Aside0 (Below w.heap.size w wc))
     case first =>
      have H:=HC44.out
      clear HC44
      by_cases c47 : aD = 0
      ·rw [if_pos c47] at H
       have c47b0 : (aD == 0) = true:=beq_iff_eq.mpr c47
       have c47b1 : (aD != 0) = false:=bne_eq_false_iff_eq.mpr c47
       clear c47
       (first|rw [c47b0]|(simp only [i64_w,i32_w];rw [c47b0])|skip)
       obtain⟨y704,hy704⟩ : ∃ y_ : List Int,y_ = (([] : List Int)):=⟨_,rfl⟩
       replace H : (if y704.length + aH.length < 140737488355328 then ((some (y704 ++ aH : List Int)).bind fun y707=>(laws_FnGroups.l0 kj7 l0 aE aG aJ aH y707 (y707.length : Int) 0 aI aC aD aA)) else (none)) = some r:=by first|(rw [hy704];with_reducible exact H)|(have H2_:=(Option.bind_some _ _).symm.trans H;rw [hy704];with_reducible exact H2_)|(have H2_:=(Option.bind_some _ _).symm.trans H;with_reducible exact H2_)|with_reducible exact H|(rw [hy704];exact H)|exact H
       have Ny704:=zz7 hy704
       clear hy704
       by_cases c48 : y704.length + aH.length < 140737488355328
       ·rw [if_pos c48] at H
        have LMc48:=zz7 c48
        clear c48
        obtain⟨y707,hy707⟩ : ∃ y_ : List Int,y_ = (y704 ++ aH):=⟨_,rfl⟩
        replace H : (laws_FnGroups.l0 kj7 l0 aE aG aJ aH y707 (y707.length : Int) 0 aI aC aD aA) = some r:=by first|(rw [hy707];with_reducible exact H)|(have H2_:=(Option.bind_some _ _).symm.trans H;rw [hy707];with_reducible exact H2_)|(have H2_:=(Option.bind_some _ _).symm.trans H;with_reducible exact H2_)|with_reducible exact H|(rw [hy707];exact H)|exact H
        have Ny707:=zz7 hy707
        clear hy707
        have H':=zz7 H
        clear H
        go_wp2_with (first|((with_reducible refine gate_dst (N:=61) rfl ?_);refine Kd.R_lit (Kd.int .u8) _ 5 ?hg (N:=61) ?hd (xs:=([] : List Int)) (inner:=[]) (ok:=fun _=>True) (okp:=fun _=>True) ?hr ?hp (fun _ hk=>hk) trivial (Below.refl _ _) (Nat.le_refl _) (by simp) ?_;(case hd=>rfl);(case hg=>rfl);(case hr=>first|(go_simp;done)|(go_simp;rfl));(case hp=>exact (Reps.none _ _));intro v705 w49 ho50 hb hg_ hnew_;clear hg_ hnew_;(first|rw [← Ny704.out] at ho50|(simp only [Int.reduceToNat] at ho50;rw [← Ny704.out] at ho50));have n0_:=zz7 (jz7 (by (with_reducible repeat (first|apply az7|apply bz7|apply cz7));exact HO_3.out) (fz7 ho50) hb);have n1_:=zz7 (jz7 (by (with_reducible repeat (first|apply az7|apply bz7|apply cz7));exact HO_4.out) (fz7 ho50) hb);have n2_:=zz7 (jz7 (by (with_reducible repeat (first|apply az7|apply bz7|apply cz7));exact HO_6.out) (fz7 ho50) hb);have n3_:=zz7 (jz7 (by (with_reducible repeat (first|apply az7|apply bz7|apply cz7));exact HO_7.out) (fz7 ho50) hb);have n4_:=zz7 (jz7 (by (with_reducible repeat (first|apply az7|apply bz7|apply cz7));exact HO_680001.out) (fz7 ho50) hb);have n5_:=zz7 (jz7 (by (with_reducible repeat (first|apply az7|apply bz7|apply cz7));exact HO_691001.out) (fz7 ho50) hb);have n6_:=zz7 (Kd.R_lower (kz7 (kz7 (kz7 (kz7 (kz7 (kz7 ho50 (Kd.R_lt (by (with_reducible repeat (first|apply az7|apply bz7|apply cz7));exact HO_3.out))) (Kd.R_lt (by (with_reducible repeat (first|apply az7|apply bz7|apply cz7));exact HO_4.out))) (Kd.R_lt (by (with_reducible repeat (first|apply az7|apply bz7|apply cz7));exact HO_6.out))) (Kd.R_lt (by (with_reducible repeat (first|apply az7|apply bz7|apply cz7));exact HO_7.out))) (Kd.R_lt (by (with_reducible repeat (first|apply az7|apply bz7|apply cz7));exact HO_680001.out))) (Kd.R_lt (by (with_reducible repeat (first|apply az7|apply bz7|apply cz7));exact HO_691001.out))) (below_size (by repeat(first|(with_reducible first|exact HB.out|apply by7|apply ay7|apply cy7|refine dy7 ?_ GE679.out|refine dy7 ?_ GE690.out)|exact HB.out))));have n7_:=zz7 (hy7 (g:=gb679) (o:=.cells #[.int .i64 aI,.slice Ao15 aC.length co15] 26 (0,0)) (by (with_reducible repeat (first|refine ey7 ?_ _|refine gy7 ?_|refine fy7 ?_ _));exact BK679.out) hb);have n8_:=zz7 (hy7 (g:=gb690) (o:=.cells #[.int .i64 aD,.slice Ao23 aA.length co23] 26 (0,0)) (by (with_reducible repeat (first|refine ey7 ?_ _|refine gy7 ?_|refine fy7 ?_ _));exact BK690.out) hb);have n9_:=zz7 (below_step (by repeat(first|(with_reducible first|exact HB.out|apply by7|apply ay7|apply cy7|refine dy7 ?_ GE679.out|refine dy7 ?_ GE690.out)|exact HB.out)) hb);clear HO_3;clear HO_4;clear HO_6;clear HO_7;clear HO_680001;clear HO_691001;clear BK679;clear BK690;clear HB;have HO_3:=n0_;have HO_4:=n1_;have HO_6:=n2_;have HO_7:=n3_;have HO_680001:=n4_;have HO_691001:=n5_;have HO706:=n6_;have BK679:=n7_;have BK690:=n8_;have HB:=n9_;clear n0_ n1_ n2_ n3_ n4_ n5_ n6_ n7_ n8_ n9_;clear hb ho50)|((with_reducible refine gate_builtin (b:=.append) (xs:=#[.tmp 61,.tmp 62]) rfl ?_);at_builtin;refine Kd.R_append_rows (Kd.int .u8) (w0:=w) w.heap.size rfl (.tmp 61) (.tmp 62) 22 5 (.int .u8 0) 1 rfl Try.underlying22 info5 rfl (by decide) (by omega) v705 y704 aH _ _ _ (fun k_=>some k_ ≠ (.slice Ao10 aE.length co10 : Value).ownBlock ∧ some k_ ≠ (.slice Ao11 aG.length co11 : Value).ownBlock ∧ some k_ ≠ (.slice Ao17 aJ.length co17 : Value).ownBlock ∧ some k_ ≠ (.slice Ao18 aH.length co18 : Value).ownBlock ∧ some k_ ≠ (.slice Ao15 aC.length co15 : Value).ownBlock ∧ some k_ ≠ (.slice Ao23 aA.length co23 : Value).ownBlock) (fun _=>False) rfl rfl ?aO ?aR (fun _ _ h=>h) (fun _ h=>h.elim) ?aF ?aB ?aS ?aL ?_;(case aR=>repeat (first|exact (iz7 HO_7.out).2.2|(with_reducible refine Kd.C_alloc ?_ _)|(with_reducible refine Kd.C_drewN ?_ _)|(with_reducible refine Kd.C_drew ?_)));(case aB=>exact (by repeat(first|(with_reducible first|exact HB.out|apply by7|apply ay7|apply cy7|refine dy7 ?_ GE679.out|refine dy7 ?_ GE690.out)|exact HB.out)));(case aF=>exact (fun k_ hk=>⟨Kd.fresh' (Kd.R_lt (by (with_reducible repeat (first|apply az7|apply bz7|apply cz7));exact HO_3.out)) k_ hk,Kd.fresh' (Kd.R_lt (by (with_reducible repeat (first|apply az7|apply bz7|apply cz7));exact HO_4.out)) k_ hk,Kd.fresh' (Kd.R_lt (by (with_reducible repeat (first|apply az7|apply bz7|apply cz7));exact HO_6.out)) k_ hk,Kd.fresh' (Kd.R_lt (by (with_reducible repeat (first|apply az7|apply bz7|apply cz7));exact HO_7.out)) k_ hk,Kd.fresh' (Kd.R_lt (by (with_reducible repeat (first|apply az7|apply bz7|apply cz7));exact HO_680001.out)) k_ hk,Kd.fresh' (Kd.R_lt (by (with_reducible repeat (first|apply az7|apply bz7|apply cz7));exact HO_691001.out)) k_ hk⟩));(case aO=>exact (by (with_reducible repeat (first|apply az7|apply bz7|apply cz7));exact gz7 HO706.out (fun _ hk=>⟨hk.1.1.1.1.1.2,⟨hk.1.1.1.1.2,⟨hk.1.1.1.2,⟨hk.1.1.2,⟨hk.1.2,hk.2⟩⟩⟩⟩⟩)));(case aS=>exact (below_size (by repeat(first|(with_reducible first|exact HB.out|apply by7|apply ay7|apply cy7|refine dy7 ?_ GE679.out|refine dy7 ?_ GE690.out)|exact HB.out))));(case aL=>have:=LMc48.out;omega);intro v708 w51 ho hb hg hat;rw [← Ny707.out] at ho;have n0_:=zz7 (Kd.R_after (ok:=(fun k_=>some k_ ≠ (.slice Ao11 aG.length co11 : Value).ownBlock ∧ some k_ ≠ (.slice Ao17 aJ.length co17 : Value).ownBlock ∧ some k_ ≠ (.slice Ao18 aH.length co18 : Value).ownBlock ∧ some k_ ≠ (.slice Ao15 aC.length co15 : Value).ownBlock ∧ some k_ ≠ (.slice Ao23 aA.length co23 : Value).ownBlock)) (by (with_reducible repeat (first|apply az7|apply bz7|apply cz7));exact HO_3.out) hg hat);have n1_:=zz7 (Kd.R_after (ok:=(fun k_=>some k_ ≠ (.slice Ao10 aE.length co10 : Value).ownBlock ∧ some k_ ≠ (.slice Ao17 aJ.length co17 : Value).ownBlock ∧ some k_ ≠ (.slice Ao18 aH.length co18 : Value).ownBlock ∧ some k_ ≠ (.slice Ao15 aC.length co15 : Value).ownBlock ∧ some k_ ≠ (.slice Ao23 aA.length co23 : Value).ownBlock)) (by (with_reducible repeat (first|apply az7|apply bz7|apply cz7));exact HO_4.out) hg hat);have n2_:=zz7 (Kd.R_after (ok:=(fun k_=>some k_ ≠ (.slice Ao10 aE.length co10 : Value).ownBlock ∧ some k_ ≠ (.slice Ao11 aG.length co11 : Value).ownBlock ∧ some k_ ≠ (.slice Ao18 aH.length co18 : Value).ownBlock ∧ some k_ ≠ (.slice Ao15 aC.length co15 : Value).ownBlock ∧ some k_ ≠ (.slice Ao23 aA.length co23 : Value).ownBlock)) (by (with_reducible repeat (first|apply az7|apply bz7|apply cz7));exact HO_6.out) hg hat);have n3_:=zz7 (Kd.R_after (ok:=(fun k_=>some k_ ≠ (.slice Ao10 aE.length co10 : Value).ownBlock ∧ some k_ ≠ (.slice Ao11 aG.length co11 : Value).ownBlock ∧ some k_ ≠ (.slice Ao17 aJ.length co17 : Value).ownBlock ∧ some k_ ≠ (.slice Ao15 aC.length co15 : Value).ownBlock ∧ some k_ ≠ (.slice Ao23 aA.length co23 : Value).ownBlock)) (by (with_reducible repeat (first|apply az7|apply bz7|apply cz7));exact HO_7.out) hg hat);have n4_:=zz7 (Kd.R_after (ok:=(fun k_=>some k_ ≠ (.slice Ao10 aE.length co10 : Value).ownBlock ∧ some k_ ≠ (.slice Ao11 aG.length co11 : Value).ownBlock ∧ some k_ ≠ (.slice Ao17 aJ.length co17 : Value).ownBlock ∧ some k_ ≠ (.slice Ao18 aH.length co18 : Value).ownBlock ∧ some k_ ≠ (.slice Ao23 aA.length co23 : Value).ownBlock)) (by (with_reducible repeat (first|apply az7|apply bz7|apply cz7));exact HO_680001.out) hg hat);have n5_:=zz7 (Kd.R_after (ok:=(fun k_=>some k_ ≠ (.slice Ao10 aE.length co10 : Value).ownBlock ∧ some k_ ≠ (.slice Ao11 aG.length co11 : Value).ownBlock ∧ some k_ ≠ (.slice Ao17 aJ.length co17 : Value).ownBlock ∧ some k_ ≠ (.slice Ao18 aH.length co18 : Value).ownBlock ∧ some k_ ≠ (.slice Ao15 aC.length co15 : Value).ownBlock)) (by (with_reducible repeat (first|apply az7|apply bz7|apply cz7));exact HO_691001.out) hg hat);have n6_:=zz7 (blk_grown (g:=gb679) (o:=.cells #[.int .i64 aI,.slice Ao15 aC.length co15] 26 (0,0)) (by (with_reducible repeat (first|refine ey7 ?_ _|refine gy7 ?_|refine fy7 ?_ _));exact BK679.out) hg (Kd.R_ne HO706.out BK679.out (by decide)));have n7_:=zz7 (blk_grown (g:=gb690) (o:=.cells #[.int .i64 aD,.slice Ao23 aA.length co23] 26 (0,0)) (by (with_reducible repeat (first|refine ey7 ?_ _|refine gy7 ?_|refine fy7 ?_ _));exact BK690.out) hg (Kd.R_ne HO706.out BK690.out (by decide)));have n8_:=zz7 (hb);have n9_:=zz7 (ho);clear HO_3;clear HO_4;clear HO_6;clear HO_7;clear HO_680001;clear HO_691001;clear BK679;clear BK690;clear HB;clear HO706;have HO_3:=n0_;have HO_4:=n1_;have HO_6:=n2_;have HO_7:=n3_;have HO_680001:=n4_;have HO_691001:=n5_;have BK679:=n6_;have BK690:=n7_;have HB:=n8_;have HO709:=n9_;clear n0_ n1_ n2_ n3_ n4_ n5_ n6_ n7_ n8_ n9_;clear ho hb hg hat;obtain⟨Ao52,co52,eo52⟩:=Kd.R_slice HO709.out;subst eo52))
        go_loopg [66] kj7 (fun kq v66 w'=>∃ (x9_2 : List Int) (x66_2 : Int),v66 = .int .i64 x66_2 ∧ Aside0 (laws_FnGroups.l0 kq l0 aE aG aJ aH x9_2 (y707.length : Int) x66_2 aI aC aD aA = some r) ∧ Aside0 (kq ≤ kj7) ∧ Aside0 (Kd.R (Kd.int .u8) 5 w' w.heap.size (fun k_=>some k_ ≠ ((.slice Ao11 aG.length co11) : Value).ownBlock ∧ some k_ ≠ ((.slice Ao17 aJ.length co17) : Value).ownBlock ∧ some k_ ≠ ((.slice Ao18 aH.length co18) : Value).ownBlock ∧ some k_ ≠ ((.slice Ao52 y707.length co52) : Value).ownBlock ∧ some k_ ≠ ((.slice Ao15 aC.length co15) : Value).ownBlock ∧ some k_ ≠ ((.slice Ao23 aA.length co23) : Value).ownBlock) (.slice Ao10 aE.length co10) aE) ∧ Aside0 (Kd.R (Kd.int .u8) 5 w' w.heap.size (fun k_=>some k_ ≠ ((.slice Ao10 aE.length co10) : Value).ownBlock ∧ some k_ ≠ ((.slice Ao17 aJ.length co17) : Value).ownBlock ∧ some k_ ≠ ((.slice Ao18 aH.length co18) : Value).ownBlock ∧ some k_ ≠ ((.slice Ao52 y707.length co52) : Value).ownBlock ∧ some k_ ≠ ((.slice Ao15 aC.length co15) : Value).ownBlock ∧ some k_ ≠ ((.slice Ao23 aA.length co23) : Value).ownBlock) (.slice Ao11 aG.length co11) aG) ∧ Aside0 (Kd.R (Kd.int .u8) 5 w' w.heap.size (fun k_=>some k_ ≠ ((.slice Ao10 aE.length co10) : Value).ownBlock ∧ some k_ ≠ ((.slice Ao11 aG.length co11) : Value).ownBlock ∧ some k_ ≠ ((.slice Ao18 aH.length co18) : Value).ownBlock ∧ some k_ ≠ ((.slice Ao52 y707.length co52) : Value).ownBlock ∧ some k_ ≠ ((.slice Ao15 aC.length co15) : Value).ownBlock ∧ some k_ ≠ ((.slice Ao23 aA.length co23) : Value).ownBlock) (.slice Ao17 aJ.length co17) aJ) ∧ Aside0 (Kd.R (Kd.int .u8) 5 w' w.heap.size (fun k_=>some k_ ≠ ((.slice Ao10 aE.length co10) : Value).ownBlock ∧ some k_ ≠ ((.slice Ao11 aG.length co11) : Value).ownBlock ∧ some k_ ≠ ((.slice Ao17 aJ.length co17) : Value).ownBlock ∧ some k_ ≠ ((.slice Ao52 y707.length co52) : Value).ownBlock ∧ some k_ ≠ ((.slice Ao15 aC.length co15) : Value).ownBlock ∧ some k_ ≠ ((.slice Ao23 aA.length co23) : Value).ownBlock) (.slice Ao18 aH.length co18) aH) ∧ Aside0 (Kd.R (Kd.int .u8) 5 w' w.heap.size (fun k_=>some k_ ≠ ((.slice Ao10 aE.length co10) : Value).ownBlock ∧ some k_ ≠ ((.slice Ao11 aG.length co11) : Value).ownBlock ∧ some k_ ≠ ((.slice Ao17 aJ.length co17) : Value).ownBlock ∧ some k_ ≠ ((.slice Ao18 aH.length co18) : Value).ownBlock ∧ some k_ ≠ ((.slice Ao15 aC.length co15) : Value).ownBlock ∧ some k_ ≠ ((.slice Ao23 aA.length co23) : Value).ownBlock) (.slice Ao52 y707.length co52) x9_2) ∧ Aside0 (Kd.R (Kd.int .u8) 82 w' w.heap.size (fun k_=>some k_ ≠ ((.slice Ao10 aE.length co10) : Value).ownBlock ∧ some k_ ≠ ((.slice Ao11 aG.length co11) : Value).ownBlock ∧ some k_ ≠ ((.slice Ao17 aJ.length co17) : Value).ownBlock ∧ some k_ ≠ ((.slice Ao18 aH.length co18) : Value).ownBlock ∧ some k_ ≠ ((.slice Ao52 y707.length co52) : Value).ownBlock ∧ some k_ ≠ ((.slice Ao23 aA.length co23) : Value).ownBlock) (.slice Ao15 aC.length co15) aC) ∧ Aside0 (Kd.R (Kd.int .u8) 82 w' w.heap.size (fun k_=>some k_ ≠ ((.slice Ao10 aE.length co10) : Value).ownBlock ∧ some k_ ≠ ((.slice Ao11 aG.length co11) : Value).ownBlock ∧ some k_ ≠ ((.slice Ao17 aJ.length co17) : Value).ownBlock ∧ some k_ ≠ ((.slice Ao18 aH.length co18) : Value).ownBlock ∧ some k_ ≠ ((.slice Ao52 y707.length co52) : Value).ownBlock ∧ some k_ ≠ ((.slice Ao15 aC.length co15) : Value).ownBlock) (.slice Ao23 aA.length co23) aA) ∧ Aside0 (w'.heap[gb679]? = some (.cells #[.int .i64 aI,(.slice Ao15 aC.length co15)] 26 (0,0))) ∧ Aside0 (w'.heap[gb690]? = some (.cells #[.int .i64 aD,(.slice Ao23 aA.length co23)] 26 (0,0))) ∧ Aside0 (Below w.heap.size w w'))
        case atStart=>exact⟨(y707),(0),(by first|rfl|(simp;done)|(simp [*];done)),H',⟨Nat.le_refl _⟩,⟨by (with_reducible repeat (first|apply az7|apply bz7|apply cz7));exact gz7 HO_3.out (fun _ hk=>⟨hk.1.1,⟨hk.1.2.1,⟨hk.1.2.2.1,⟨hk.2,⟨hk.1.2.2.2.1,hk.1.2.2.2.2⟩⟩⟩⟩⟩)⟩,⟨by (with_reducible repeat (first|apply az7|apply bz7|apply cz7));exact gz7 HO_4.out (fun _ hk=>⟨hk.1.1,⟨hk.1.2.1,⟨hk.1.2.2.1,⟨hk.2,⟨hk.1.2.2.2.1,hk.1.2.2.2.2⟩⟩⟩⟩⟩)⟩,⟨by (with_reducible repeat (first|apply az7|apply bz7|apply cz7));exact gz7 HO_6.out (fun _ hk=>⟨hk.1.1,⟨hk.1.2.1,⟨hk.1.2.2.1,⟨hk.2,⟨hk.1.2.2.2.1,hk.1.2.2.2.2⟩⟩⟩⟩⟩)⟩,⟨by (with_reducible repeat (first|apply az7|apply bz7|apply cz7));exact gz7 HO_7.out (fun _ hk=>⟨hk.1.1,⟨hk.1.2.1,⟨hk.1.2.2.1,⟨hk.2,⟨hk.1.2.2.2.1,hk.1.2.2.2.2⟩⟩⟩⟩⟩)⟩,⟨by (with_reducible repeat (first|apply az7|apply bz7|apply cz7));exact HO709.out⟩,⟨by (with_reducible repeat (first|apply az7|apply bz7|apply cz7));exact gz7 HO_680001.out (fun _ hk=>⟨hk.1.1,⟨hk.1.2.1,⟨hk.1.2.2.1,⟨hk.1.2.2.2.1,⟨hk.2,hk.1.2.2.2.2⟩⟩⟩⟩⟩)⟩,⟨by (with_reducible repeat (first|apply az7|apply bz7|apply cz7));exact gz7 HO_691001.out (fun _ hk=>⟨hk.1.1,⟨hk.1.2.1,⟨hk.1.2.2.1,⟨hk.1.2.2.2.1,⟨hk.2,hk.1.2.2.2.2⟩⟩⟩⟩⟩)⟩,⟨by (with_reducible repeat (first|refine ey7 ?_ _|refine gy7 ?_|refine fy7 ?_ _));exact BK679.out⟩,⟨by (with_reducible repeat (first|refine ey7 ?_ _|refine gy7 ?_|refine fy7 ?_ _));exact BK690.out⟩,⟨by repeat (first|(with_reducible first|exact HB.out|apply by7|apply ay7|apply cy7|refine dy7 ?_ GE679.out|refine dy7 ?_ GE690.out)|exact HB.out)⟩⟩
        case round =>
         clear H'
         try clear c2
         try clear p2
         try clear c4
         try clear c25
         try clear c25b0
         try clear c25b1
         try clear c27
         try clear c27b0
         try clear c27b1
         try clear c43
         try clear c45
         try clear c47
         try clear c47b0
         try clear c47b1
         try clear c48
         try clear hcz46_0
         try clear hcz46_1
         try clear hfz46_0
         try clear hfz46_1
         try clear p2
         obtain⟨x9_2,x66_2,rfl,HA,HK2,HO_3,HO_4,HO_6,HO_7,HO_9,HO_680001,HO_691001,BK679,BK690,HB⟩:=hrel
         have hl9_2:=(iz7 HO_9.out).1
         rw [hl9_2] at HO_9
         (try simp only [hl9_2])
         (try simp only [hl9_2] at BK679)
         (try simp only [hl9_2] at BK690)
         (try simp only [hl9_2] at HO_3)
         (try simp only [hl9_2] at HO_4)
         (try simp only [hl9_2] at HO_6)
         (try simp only [hl9_2] at HO_7)
         (try simp only [hl9_2] at HO_680001)
         (try simp only [hl9_2] at HO_691001)
         cases gk with
        |zero=>exact absurd HA.out (by simp [laws_FnGroups.l0])
        |succ k2 =>
          have H:=HA.out
          clear HA
          simp only [laws_FnGroups.l0] at H
          by_cases c53 : x66_2 < (y707.length : Int)
          ·rw [if_pos c53] at H
           have c53b0 : decide (x66_2 < (y707.length : Int)) = true:=decide_eq_true c53
           clear c53
           by_cases c54 : 0 ≤ x66_2
           ·rw [if_pos c54] at H
            have c54b0 : decide (0 ≤ x66_2) = true:=decide_eq_true c54
            clear c54
            by_cases c55 : x66_2 < (x9_2.length : Int)
            ·rw [if_pos c55] at H
             have c55b0 : decide (x66_2 < (x9_2.length : Int)) = true:=decide_eq_true c55
             clear c55
             obtain⟨y711,hy711⟩ : ∃ y_ : List Int,y_ = (x9_2.set (x66_2 : Int).toNat (((((rd x9_2 x66_2) * 3) % 256) + ((x66_2) % 256)) % 256)):=⟨_,rfl⟩
             replace H : (laws_FnGroups.l0 k2 l0 aE aG aJ aH y711 (y707.length : Int) (wrap64 (x66_2 + 1)) aI aC aD aA) = some r:=by first|(rw [hy711];with_reducible exact H)|(have H2_:=(Option.bind_some _ _).symm.trans H;rw [hy711];with_reducible exact H2_)|(have H2_:=(Option.bind_some _ _).symm.trans H;with_reducible exact H2_)|with_reducible exact H|(rw [hy711];exact H)|exact H
             have Ny711:=zz7 hy711
             clear hy711
             have H':=zz7 H
             clear H
             have p710 : 0 ≤ (x66_2 : Int):=of_decide_eq_true (by first|(with_reducible assumption)|assumption)
             have q710 : x66_2 < (x9_2.length : Int):=of_decide_eq_true (by first|(with_reducible assumption)|assumption)
             obtain⟨ad710,e710,hx710_0⟩:=Kd.at_int (iz7 HO_9.out).2.2 x66_2 p710 q710
             cases e710
             replace p710:=eq_true p710
             replace q710:=eq_true q710
             have p56 : 0 ≤ (x66_2 : Int):=of_decide_eq_true (by first|(with_reducible assumption)|assumption)
             have q56 : (x66_2 : Int) < ((x9_2.length : Int) : Int):=of_decide_eq_true (by first|(with_reducible assumption)|assumption)
             obtain⟨go56,co56,eo56,gb56,gl56,cl56,HG56⟩:=Kd.R_form HO_9.out (by omega)
             (first|cases eo56|(injection eo56 with ea_ en_ ec_;(first|subst ea_|(injection ea_ with ea_;subst ea_));subst ec_;clear en_))
             have GB56:=zz7 gb56
             have GG56:=zz7 HG56
             clear gb56 gl56 HG56
             (first|simp only [add_plain] at hx710_0|skip)
             obtain⟨hx56_0,hf56_0⟩:=Kd.R_celln 0 HO_9.out (x66_2 : Int) p56 q56
             replace p56:=eq_true p56
             replace q56:=eq_true q56
             have HP57:=Kd.R_putg HO_9.out (x66_2 : Int) (((((rd x9_2 x66_2) * 3) % 256) + ((x66_2) % 256)) % 256)
             go_wp2_with (first|((with_reducible refine gate_store (t:=5) (p:=79) rfl ?_);refine store_event (t:=5) (p:=79) (v:=?vo_w58) (w1:=(wr.setCell ⟨go56,(x66_2 : Int).toNat,none⟩ (.int .u8 (((((rd x9_2 x66_2) * 3) % 256) + ((x66_2) % 256)) % 256)))) ?hg ?ho ?hn ?hr ?_;(case ho=>rfl);(case hg=>rfl);(case hn=>rfl);(case hr=>first|(go_simp;done)|(go_simp;rfl));intro w58 hw;have hg : wr.grownBy w58 (some go56):=(by rw [hw];exact HP57.2);have hp_ : Kd.R (Kd.int .u8) 5 w58 w.heap.size (fun k_=>some k_ ≠ (.slice Ao10 aE.length co10 : Value).ownBlock ∧ some k_ ≠ (.slice Ao11 aG.length co11 : Value).ownBlock ∧ some k_ ≠ (.slice Ao17 aJ.length co17 : Value).ownBlock ∧ some k_ ≠ (.slice Ao18 aH.length co18 : Value).ownBlock ∧ some k_ ≠ (.slice Ao15 aC.length co15 : Value).ownBlock ∧ some k_ ≠ (.slice Ao23 aA.length co23 : Value).ownBlock) (.slice (some ⟨go56,0,none⟩) x9_2.length co52) y711:=(by rw [hw,Ny711.out];exact HP57.1);clear HP57;have n0_:=zz7 (Kd.R_after (v:=(.slice (some ⟨go56,0,none⟩) x9_2.length co52)) (v1:=(.slice (some ⟨go56,0,none⟩) x9_2.length co52)) (ok:=(fun k_=>some k_ ≠ (.slice Ao11 aG.length co11 : Value).ownBlock ∧ some k_ ≠ (.slice Ao17 aJ.length co17 : Value).ownBlock ∧ some k_ ≠ (.slice Ao18 aH.length co18 : Value).ownBlock ∧ some k_ ≠ (.slice Ao15 aC.length co15 : Value).ownBlock ∧ some k_ ≠ (.slice Ao23 aA.length co23 : Value).ownBlock)) (by (with_reducible repeat (first|apply az7|apply bz7|apply cz7));exact gz7 HO_3.out (fun _ hk=>⟨⟨hk.1,⟨hk.2.1,⟨hk.2.2.1,⟨hk.2.2.2.2.1,hk.2.2.2.2.2⟩⟩⟩⟩,hk.2.2.2.1⟩)) hg (.inl rfl));have n1_:=zz7 (Kd.R_after (v:=(.slice (some ⟨go56,0,none⟩) x9_2.length co52)) (v1:=(.slice (some ⟨go56,0,none⟩) x9_2.length co52)) (ok:=(fun k_=>some k_ ≠ (.slice Ao10 aE.length co10 : Value).ownBlock ∧ some k_ ≠ (.slice Ao17 aJ.length co17 : Value).ownBlock ∧ some k_ ≠ (.slice Ao18 aH.length co18 : Value).ownBlock ∧ some k_ ≠ (.slice Ao15 aC.length co15 : Value).ownBlock ∧ some k_ ≠ (.slice Ao23 aA.length co23 : Value).ownBlock)) (by (with_reducible repeat (first|apply az7|apply bz7|apply cz7));exact gz7 HO_4.out (fun _ hk=>⟨⟨hk.1,⟨hk.2.1,⟨hk.2.2.1,⟨hk.2.2.2.2.1,hk.2.2.2.2.2⟩⟩⟩⟩,hk.2.2.2.1⟩)) hg (.inl rfl));have n2_:=zz7 (Kd.R_after (v:=(.slice (some ⟨go56,0,none⟩) x9_2.length co52)) (v1:=(.slice (some ⟨go56,0,none⟩) x9_2.length co52)) (ok:=(fun k_=>some k_ ≠ (.slice Ao10 aE.length co10 : Value).ownBlock ∧ some k_ ≠ (.slice Ao11 aG.length co11 : Value).ownBlock ∧ some k_ ≠ (.slice Ao18 aH.length co18 : Value).ownBlock ∧ some k_ ≠ (.slice Ao15 aC.length co15 : Value).ownBlock ∧ some k_ ≠ (.slice Ao23 aA.length co23 : Value).ownBlock)) (by (with_reducible repeat (first|apply az7|apply bz7|apply cz7));exact gz7 HO_6.out (fun _ hk=>⟨⟨hk.1,⟨hk.2.1,⟨hk.2.2.1,⟨hk.2.2.2.2.1,hk.2.2.2.2.2⟩⟩⟩⟩,hk.2.2.2.1⟩)) hg (.inl rfl));have n3_:=zz7 (Kd.R_after (v:=(.slice (some ⟨go56,0,none⟩) x9_2.length co52)) (v1:=(.slice (some ⟨go56,0,none⟩) x9_2.length co52)) (ok:=(fun k_=>some k_ ≠ (.slice Ao10 aE.length co10 : Value).ownBlock ∧ some k_ ≠ (.slice Ao11 aG.length co11 : Value).ownBlock ∧ some k_ ≠ (.slice Ao17 aJ.length co17 : Value).ownBlock ∧ some k_ ≠ (.slice Ao15 aC.length co15 : Value).ownBlock ∧ some k_ ≠ (.slice Ao23 aA.length co23 : Value).ownBlock)) (by (with_reducible repeat (first|apply az7|apply bz7|apply cz7));exact gz7 HO_7.out (fun _ hk=>⟨⟨hk.1,⟨hk.2.1,⟨hk.2.2.1,⟨hk.2.2.2.2.1,hk.2.2.2.2.2⟩⟩⟩⟩,hk.2.2.2.1⟩)) hg (.inl rfl));have n4_:=zz7 (hp_);have n5_:=zz7 (Kd.R_after (v:=(.slice (some ⟨go56,0,none⟩) x9_2.length co52)) (v1:=(.slice (some ⟨go56,0,none⟩) x9_2.length co52)) (ok:=(fun k_=>some k_ ≠ (.slice Ao10 aE.length co10 : Value).ownBlock ∧ some k_ ≠ (.slice Ao11 aG.length co11 : Value).ownBlock ∧ some k_ ≠ (.slice Ao17 aJ.length co17 : Value).ownBlock ∧ some k_ ≠ (.slice Ao18 aH.length co18 : Value).ownBlock ∧ some k_ ≠ (.slice Ao23 aA.length co23 : Value).ownBlock)) (by (with_reducible repeat (first|apply az7|apply bz7|apply cz7));exact gz7 HO_680001.out (fun _ hk=>⟨⟨hk.1,⟨hk.2.1,⟨hk.2.2.1,⟨hk.2.2.2.1,hk.2.2.2.2.2⟩⟩⟩⟩,hk.2.2.2.2.1⟩)) hg (.inl rfl));have n6_:=zz7 (Kd.R_after (v:=(.slice (some ⟨go56,0,none⟩) x9_2.length co52)) (v1:=(.slice (some ⟨go56,0,none⟩) x9_2.length co52)) (ok:=(fun k_=>some k_ ≠ (.slice Ao10 aE.length co10 : Value).ownBlock ∧ some k_ ≠ (.slice Ao11 aG.length co11 : Value).ownBlock ∧ some k_ ≠ (.slice Ao17 aJ.length co17 : Value).ownBlock ∧ some k_ ≠ (.slice Ao18 aH.length co18 : Value).ownBlock ∧ some k_ ≠ (.slice Ao15 aC.length co15 : Value).ownBlock)) (by (with_reducible repeat (first|apply az7|apply bz7|apply cz7));exact gz7 HO_691001.out (fun _ hk=>⟨⟨hk.1,⟨hk.2.1,⟨hk.2.2.1,⟨hk.2.2.2.1,hk.2.2.2.2.2⟩⟩⟩⟩,hk.2.2.2.2.1⟩)) hg (.inl rfl));have n7_:=zz7 (blk_grown (g:=gb679) (o:=.cells #[.int .i64 aI,.slice Ao15 aC.length co15] 26 (0,0)) (by (with_reducible repeat (first|refine ey7 ?_ _|refine gy7 ?_|refine fy7 ?_ _));exact BK679.out) hg (Kd.R_ne HO_9.out BK679.out (by decide)));have n8_:=zz7 (blk_grown (g:=gb690) (o:=.cells #[.int .i64 aD,.slice Ao23 aA.length co23] 26 (0,0)) (by (with_reducible repeat (first|refine ey7 ?_ _|refine gy7 ?_|refine fy7 ?_ _));exact BK690.out) hg (Kd.R_ne HO_9.out BK690.out (by decide)));have n9_:=zz7 ((by rw [hw];exact dy7 (HB.out) GB56.out : Below w.heap.size w w58));clear HO_3;clear HO_4;clear HO_6;clear HO_7;clear HO_9;clear HO_680001;clear HO_691001;clear BK679;clear BK690;clear HB;have HO_3:=n0_;have HO_4:=n1_;have HO_6:=n2_;have HO_7:=n3_;have HO_9:=n4_;have HO_680001:=n5_;have HO_691001:=n6_;have BK679:=n7_;have BK690:=n8_;have HB:=n9_;clear n0_ n1_ n2_ n3_ n4_ n5_ n6_ n7_ n8_ n9_;clear hg hw hp_))
             (try simp only [← hl9_2])
             go_roundg k2
             case measure=>have:=HJ7.out;have:=HK2.out;omega
             case rel=>exact⟨(y711),(wrap64 (x66_2 + 1)),(by first|rfl|(simp;done)|(simp [*];done)),H',⟨by have:=HJ7.out;have:=HK2.out;omega⟩,⟨by (try simp only [hl9_2]);(with_reducible repeat (first|apply az7|apply bz7|apply cz7));exact gz7 HO_3.out (fun _ hk=>⟨hk.1.1,⟨hk.1.2.1,⟨hk.1.2.2.1,⟨hk.2,⟨hk.1.2.2.2.1,hk.1.2.2.2.2⟩⟩⟩⟩⟩)⟩,⟨by (try simp only [hl9_2]);(with_reducible repeat (first|apply az7|apply bz7|apply cz7));exact gz7 HO_4.out (fun _ hk=>⟨hk.1.1,⟨hk.1.2.1,⟨hk.1.2.2.1,⟨hk.2,⟨hk.1.2.2.2.1,hk.1.2.2.2.2⟩⟩⟩⟩⟩)⟩,⟨by (try simp only [hl9_2]);(with_reducible repeat (first|apply az7|apply bz7|apply cz7));exact gz7 HO_6.out (fun _ hk=>⟨hk.1.1,⟨hk.1.2.1,⟨hk.1.2.2.1,⟨hk.2,⟨hk.1.2.2.2.1,hk.1.2.2.2.2⟩⟩⟩⟩⟩)⟩,⟨by (try simp only [hl9_2]);(with_reducible repeat (first|apply az7|apply bz7|apply cz7));exact gz7 HO_7.out (fun _ hk=>⟨hk.1.1,⟨hk.1.2.1,⟨hk.1.2.2.1,⟨hk.2,⟨hk.1.2.2.2.1,hk.1.2.2.2.2⟩⟩⟩⟩⟩)⟩,⟨by (try simp only [hl9_2]);(with_reducible repeat (first|apply az7|apply bz7|apply cz7));exact HO_9.out⟩,⟨by (try simp only [hl9_2]);(with_reducible repeat (first|apply az7|apply bz7|apply cz7));exact gz7 HO_680001.out (fun _ hk=>⟨hk.1.1,⟨hk.1.2.1,⟨hk.1.2.2.1,⟨hk.1.2.2.2.1,⟨hk.2,hk.1.2.2.2.2⟩⟩⟩⟩⟩)⟩,⟨by (try simp only [hl9_2]);(with_reducible repeat (first|apply az7|apply bz7|apply cz7));exact gz7 HO_691001.out (fun _ hk=>⟨hk.1.1,⟨hk.1.2.1,⟨hk.1.2.2.1,⟨hk.1.2.2.2.1,⟨hk.2,hk.1.2.2.2.2⟩⟩⟩⟩⟩)⟩,⟨by (try simp only [hl9_2]);(with_reducible repeat (first|refine ey7 ?_ _|refine gy7 ?_|refine fy7 ?_ _));exact BK679.out⟩,⟨by (try simp only [hl9_2]);(with_reducible repeat (first|refine ey7 ?_ _|refine gy7 ?_|refine fy7 ?_ _));exact BK690.out⟩,⟨by repeat (first|(with_reducible first|exact HB.out|apply by7|apply ay7|apply cy7|refine dy7 ?_ GE679.out|refine dy7 ?_ GE690.out)|exact HB.out)⟩⟩
            ·rw [if_neg c55] at H
             exact absurd H (by simp)
           ·rw [if_neg c54] at H
            exact absurd H (by simp)
          ·rw [if_neg c53] at H
           have c53b0 : decide (x66_2 < (y707.length : Int)) = false:=decide_eq_false c53
           have c53z : decide (x66_2 < (x9_2.length : Int)) = false:=by rw [← hl9_2];exact c53b0
           clear c53
           replace H:=Option.bind_eq_some_iff.mp H
           obtain⟨aY,A590,H⟩:=H
           replace H : ((impl_HashAll.f aJ aY).bind fun bt715=>(if (aA.length : Int) = 16 then ((impl_HashAll.f aJ x9_2).bind fun bt720=>((laws_lwXor.f k2 aA bt720.2).bind fun aZ=>((laws_lwSame.f bt715.2 aZ).bind fun bA=>(if bA = true then (laws_FnGroups.j2 k2 l0 aE aG aI aC) else (some false))))) else (some false))) = some r:=H
           have A59:=zz7 A590
           clear A590
           replace H:=Option.bind_eq_some_iff.mp H
           obtain⟨⟨aT,aK⟩,A600,H⟩:=H
           replace H : (if (aA.length : Int) = 16 then ((impl_HashAll.f aJ x9_2).bind fun bt720=>((laws_lwXor.f k2 aA bt720.2).bind fun aZ=>((laws_lwSame.f aK aZ).bind fun bA=>(if bA = true then (laws_FnGroups.j2 k2 l0 aE aG aI aC) else (some false))))) else (some false)) = some r:=H
           have A60:=zz7 A600
           clear A600
           by_cases c61 : (aA.length : Int) = 16
           ·rw [if_pos c61] at H
            have c61b0 : ((aA.length : Int) == 16) = true:=beq_iff_eq.mpr c61
            have c61b1 : ((aA.length : Int) != 16) = false:=bne_eq_false_iff_eq.mpr c61
            clear c61
            replace H:=Option.bind_eq_some_iff.mp H
            obtain⟨⟨bO,bG⟩,A620,H⟩:=H
            replace H : ((laws_lwXor.f k2 aA bG).bind fun aZ=>((laws_lwSame.f aK aZ).bind fun bA=>(if bA = true then (laws_FnGroups.j2 k2 l0 aE aG aI aC) else (some false)))) = some r:=H
            have A62:=zz7 A620
            clear A620
            replace H:=Option.bind_eq_some_iff.mp H
            obtain⟨aZ,A630,H⟩:=H
            replace H : ((laws_lwSame.f aK aZ).bind fun bA=>(if bA = true then (laws_FnGroups.j2 k2 l0 aE aG aI aC) else (some false))) = some r:=H
            have A63:=zz7 A630
            clear A630
            replace H:=Option.bind_eq_some_iff.mp H
            obtain⟨bA,A640,H⟩:=H
            replace H : (if bA = true then (laws_FnGroups.j2 k2 l0 aE aG aI aC) else (some false)) = some r:=H
            have A64:=zz7 A640
            clear A640
            by_cases c65 : bA = true
            ·subst c65
             have H1 : (laws_FnGroups.j2 k2 l0 aE aG aI aC) = some r:=by rw [if_pos rfl] at H;exact H
             clear H
             have H:=H1
             clear H1
             have H':=zz7 H
             clear H
             try go_wp2_with (first|((with_reducible refine gate_callee (f:=27) rfl ?_);refine goesL_ (some 84) rfl rfl Try.func27 (by kernel_rfl) rfl #[.slice Ao18 aH.length co18,.slice Ao52 x9_2.length co52] rfl (by (try simp only [List.map_toArray,List.map_cons,List.map_nil]);first|done|rfl|(simp only [List.length_drop,List.length_take];rfl)) ?_;(with_reducible refine (laws_lwXor.calls k2 _ _ aH _ _ x9_2 aY _ ?side1 ?side2 ?side3 ?side4 A59.out).mono ?_);(case side1=>repeat (first|exact (iz7 HO_7.out).2.2|(with_reducible refine Kd.C_alloc ?_ _)|(with_reducible refine Kd.C_drewN ?_ _)|(with_reducible refine Kd.C_drew ?_)));(case side2=>exact (iz7 HO_7.out).2.1);(case side3=>repeat (first|exact (iz7 HO_9.out).2.2|(with_reducible refine Kd.C_alloc ?_ _)|(with_reducible refine Kd.C_drewN ?_ _)|(with_reducible refine Kd.C_drew ?_)));(case side4=>exact (iz7 HO_9.out).2.1);rintro e w66 ⟨v713,rfl,ho0,hb⟩;refine ⟨_,rfl,?_⟩;have n0_:=zz7 (jz7 (by (with_reducible repeat (first|apply az7|apply bz7|apply cz7));exact HO_3.out) (fz7 ho0) hb);have n1_:=zz7 (jz7 (by (with_reducible repeat (first|apply az7|apply bz7|apply cz7));exact HO_4.out) (fz7 ho0) hb);have n2_:=zz7 (jz7 (by (with_reducible repeat (first|apply az7|apply bz7|apply cz7));exact HO_6.out) (fz7 ho0) hb);have n3_:=zz7 (jz7 (by (with_reducible repeat (first|apply az7|apply bz7|apply cz7));exact HO_7.out) (fz7 ho0) hb);have n4_:=zz7 (jz7 (by (with_reducible repeat (first|apply az7|apply bz7|apply cz7));exact HO_9.out) (fz7 ho0) hb);have n5_:=zz7 (jz7 (by (with_reducible repeat (first|apply az7|apply bz7|apply cz7));exact HO_680001.out) (fz7 ho0) hb);have n6_:=zz7 (jz7 (by (with_reducible repeat (first|apply az7|apply bz7|apply cz7));exact HO_691001.out) (fz7 ho0) hb);have n7_:=zz7 (Kd.R_lower (kz7 (kz7 (kz7 (kz7 (kz7 (kz7 (kz7 ho0 (Kd.R_lt (by (with_reducible repeat (first|apply az7|apply bz7|apply cz7));exact HO_3.out))) (Kd.R_lt (by (with_reducible repeat (first|apply az7|apply bz7|apply cz7));exact HO_4.out))) (Kd.R_lt (by (with_reducible repeat (first|apply az7|apply bz7|apply cz7));exact HO_6.out))) (Kd.R_lt (by (with_reducible repeat (first|apply az7|apply bz7|apply cz7));exact HO_7.out))) (Kd.R_lt (by (with_reducible repeat (first|apply az7|apply bz7|apply cz7));exact HO_9.out))) (Kd.R_lt (by (with_reducible repeat (first|apply az7|apply bz7|apply cz7));exact HO_680001.out))) (Kd.R_lt (by (with_reducible repeat (first|apply az7|apply bz7|apply cz7));exact HO_691001.out))) (below_size (by repeat(first|(with_reducible first|exact HB.out|apply by7|apply ay7|apply cy7|refine dy7 ?_ GE679.out|refine dy7 ?_ GE690.out)|exact HB.out))));have n8_:=zz7 (hy7 (g:=gb679) (o:=.cells #[.int .i64 aI,.slice Ao15 aC.length co15] 26 (0,0)) (by (with_reducible repeat (first|refine ey7 ?_ _|refine gy7 ?_|refine fy7 ?_ _));exact BK679.out) hb);have n9_:=zz7 (hy7 (g:=gb690) (o:=.cells #[.int .i64 aD,.slice Ao23 aA.length co23] 26 (0,0)) (by (with_reducible repeat (first|refine ey7 ?_ _|refine gy7 ?_|refine fy7 ?_ _));exact BK690.out) hb);have n10_:=zz7 (below_step (by repeat(first|(with_reducible first|exact HB.out|apply by7|apply ay7|apply cy7|refine dy7 ?_ GE679.out|refine dy7 ?_ GE690.out)|exact HB.out)) hb);clear HO_3;clear HO_4;clear HO_6;clear HO_7;clear HO_9;clear HO_680001;clear HO_691001;clear BK679;clear BK690;clear HB;have HO_3:=n0_;have HO_4:=n1_;have HO_6:=n2_;have HO_7:=n3_;have HO_9:=n4_;have HO_680001:=n5_;have HO_691001:=n6_;have HO714:=n7_;have BK679:=n8_;have BK690:=n9_;have HB:=n10_;clear n0_ n1_ n2_ n3_ n4_ n5_ n6_ n7_ n8_ n9_ n10_;(try clear hb);(try clear hb2);(try clear hk);(try clear hi);(try clear ho0);obtain⟨Ao67,co67,eo67⟩:=Kd.R_slice HO714.out;subst eo67)|((with_reducible refine gate_callee (f:=46) rfl ?_);refine goesL_ (some 85) rfl rfl Try.func46 (by kernel_rfl) rfl #[.slice Ao17 aJ.length co17,.slice Ao67 aY.length co67] rfl (by (try simp only [List.map_toArray,List.map_cons,List.map_nil]);first|done|rfl|(simp only [List.length_drop,List.length_take];rfl)) ?_;(with_reducible refine (impl_HashAll.calls _ _ aJ _ _ aY aT aK _ ?side1 ?side2 ?side3 ?side4 A60.out).mono ?_);(case side1=>repeat (first|exact (iz7 HO_6.out).2.2|(with_reducible refine Kd.C_alloc ?_ _)|(with_reducible refine Kd.C_drewN ?_ _)|(with_reducible refine Kd.C_drew ?_)));(case side2=>exact (iz7 HO_6.out).2.1);(case side3=>repeat (first|exact (iz7 HO714.out).2.2|(with_reducible refine Kd.C_alloc ?_ _)|(with_reducible refine Kd.C_drewN ?_ _)|(with_reducible refine Kd.C_drew ?_)));(case side4=>exact (iz7 HO714.out).2.1);rintro e w68 ⟨v717,rfl,ho0,hb⟩;refine ⟨_,rfl,?_⟩;have n0_:=zz7 (jz7 (by (with_reducible repeat (first|apply az7|apply bz7|apply cz7));exact HO_3.out) (fz7 ho0) hb);have n1_:=zz7 (jz7 (by (with_reducible repeat (first|apply az7|apply bz7|apply cz7));exact HO_4.out) (fz7 ho0) hb);have n2_:=zz7 (jz7 (by (with_reducible repeat (first|apply az7|apply bz7|apply cz7));exact HO_6.out) (fz7 ho0) hb);have n3_:=zz7 (jz7 (by (with_reducible repeat (first|apply az7|apply bz7|apply cz7));exact HO_7.out) (fz7 ho0) hb);have n4_:=zz7 (jz7 (by (with_reducible repeat (first|apply az7|apply bz7|apply cz7));exact HO_9.out) (fz7 ho0) hb);have n5_:=zz7 (jz7 (by (with_reducible repeat (first|apply az7|apply bz7|apply cz7));exact HO_680001.out) (fz7 ho0) hb);have n6_:=zz7 (jz7 (by (with_reducible repeat (first|apply az7|apply bz7|apply cz7));exact HO_691001.out) (fz7 ho0) hb);have n7_:=zz7 (jz7 (by (with_reducible repeat (first|apply az7|apply bz7|apply cz7));exact HO714.out) (fz7 ho0) hb);have n8_:=zz7 (Kd.R_lower (kz7 (kz7 (kz7 (kz7 (kz7 (kz7 (kz7 (kz7 ho0 (Kd.R_lt (by (with_reducible repeat (first|apply az7|apply bz7|apply cz7));exact HO_3.out))) (Kd.R_lt (by (with_reducible repeat (first|apply az7|apply bz7|apply cz7));exact HO_4.out))) (Kd.R_lt (by (with_reducible repeat (first|apply az7|apply bz7|apply cz7));exact HO_6.out))) (Kd.R_lt (by (with_reducible repeat (first|apply az7|apply bz7|apply cz7));exact HO_7.out))) (Kd.R_lt (by (with_reducible repeat (first|apply az7|apply bz7|apply cz7));exact HO_9.out))) (Kd.R_lt (by (with_reducible repeat (first|apply az7|apply bz7|apply cz7));exact HO_680001.out))) (Kd.R_lt (by (with_reducible repeat (first|apply az7|apply bz7|apply cz7));exact HO_691001.out))) (Kd.R_lt (by (with_reducible repeat (first|apply az7|apply bz7|apply cz7));exact HO714.out))) (below_size (by repeat(first|(with_reducible first|exact HB.out|apply by7|apply ay7|apply cy7|refine dy7 ?_ GE679.out|refine dy7 ?_ GE690.out)|exact HB.out))));have n9_:=zz7 (hy7 (g:=gb679) (o:=.cells #[.int .i64 aI,.slice Ao15 aC.length co15] 26 (0,0)) (by (with_reducible repeat (first|refine ey7 ?_ _|refine gy7 ?_|refine fy7 ?_ _));exact BK679.out) hb);have n10_:=zz7 (hy7 (g:=gb690) (o:=.cells #[.int .i64 aD,.slice Ao23 aA.length co23] 26 (0,0)) (by (with_reducible repeat (first|refine ey7 ?_ _|refine gy7 ?_|refine fy7 ?_ _));exact BK690.out) hb);have n11_:=zz7 (below_step (by repeat(first|(with_reducible first|exact HB.out|apply by7|apply ay7|apply cy7|refine dy7 ?_ GE679.out|refine dy7 ?_ GE690.out)|exact HB.out)) hb);clear HO_3;clear HO_4;clear HO_6;clear HO_7;clear HO_9;clear HO_680001;clear HO_691001;clear HO714;clear BK679;clear BK690;clear HB;have HO_3:=n0_;have HO_4:=n1_;have HO_6:=n2_;have HO_7:=n3_;have HO_9:=n4_;have HO_680001:=n5_;have HO_691001:=n6_;have HO714:=n7_;have HO718:=n8_;have BK679:=n9_;have BK690:=n10_;have HB:=n11_;clear n0_ n1_ n2_ n3_ n4_ n5_ n6_ n7_ n8_ n9_ n10_ n11_;(try clear hb);(try clear hb2);(try clear hk);(try clear hi);(try clear ho0))|((with_reducible refine gate_dst (N:=11) rfl ?_);refine box_event ?hg (N:=11) ?hd (cs:=#[.int .i64 0,.slice none 0 0]) (t:=26) ?hr ?_;(case hd=>rfl);(case hg=>rfl);(case hr=>first|(go_simp;done)|(go_simp;rfl));intro gb719 hg w69 hbox hb;have n0_:=zz7 (dz7 (by (with_reducible repeat (first|apply az7|apply bz7|apply cz7));exact HO_3.out) hb);have n1_:=zz7 (dz7 (by (with_reducible repeat (first|apply az7|apply bz7|apply cz7));exact HO_4.out) hb);have n2_:=zz7 (dz7 (by (with_reducible repeat (first|apply az7|apply bz7|apply cz7));exact HO_6.out) hb);have n3_:=zz7 (dz7 (by (with_reducible repeat (first|apply az7|apply bz7|apply cz7));exact HO_7.out) hb);have n4_:=zz7 (dz7 (by (with_reducible repeat (first|apply az7|apply bz7|apply cz7));exact HO_9.out) hb);have n5_:=zz7 (dz7 (by (with_reducible repeat (first|apply az7|apply bz7|apply cz7));exact HO_680001.out) hb);have n6_:=zz7 (dz7 (by (with_reducible repeat (first|apply az7|apply bz7|apply cz7));exact HO_691001.out) hb);have n7_:=zz7 (dz7 (by (with_reducible repeat (first|apply az7|apply bz7|apply cz7));exact HO714.out) hb);have n8_:=zz7 (dz7 (by (with_reducible repeat (first|apply az7|apply bz7|apply cz7));exact HO718.out) hb);have n9_:=zz7 (hy7 (g:=gb679) (o:=.cells #[.int .i64 aI,.slice Ao15 aC.length co15] 26 (0,0)) (by (with_reducible repeat (first|refine ey7 ?_ _|refine gy7 ?_|refine fy7 ?_ _));exact BK679.out) hb);have n10_:=zz7 (hy7 (g:=gb690) (o:=.cells #[.int .i64 aD,.slice Ao23 aA.length co23] 26 (0,0)) (by (with_reducible repeat (first|refine ey7 ?_ _|refine gy7 ?_|refine fy7 ?_ _));exact BK690.out) hb);have n11_:=zz7 (below_step (by repeat(first|(with_reducible first|exact HB.out|apply by7|apply ay7|apply cy7|refine dy7 ?_ GE679.out|refine dy7 ?_ GE690.out)|exact HB.out)) hb);have n12_:=zz7 (hbox);have n13_:=zz7 ((by rw [hg];exact (below_size (by repeat(first|(with_reducible first|exact HB.out|apply by7|apply ay7|apply cy7|refine dy7 ?_ GE679.out|refine dy7 ?_ GE690.out)|exact HB.out))) : w.heap.size ≤ gb719));have n14_:=zz7 ((by rw [hg];exact (below_size (by repeat(first|(with_reducible first|exact HB.out|apply by7|apply ay7|apply cy7|refine dy7 ?_ GE679.out|refine dy7 ?_ GE690.out)|exact HB.out))) : w.heap.size ≤ gb719));have n15_:=zz7 ((by rw [hg];exact Nat.ne_of_lt (blk_lt (g:=gb679) (o:=.cells #[.int .i64 aI,.slice Ao15 aC.length co15] 26 (0,0)) (by (with_reducible repeat (first|refine ey7 ?_ _|refine gy7 ?_|refine fy7 ?_ _));exact BK679.out)) : gb679 ≠ gb719));have n16_:=zz7 ((by rw [hg];exact Nat.ne_of_gt (blk_lt (g:=gb679) (o:=.cells #[.int .i64 aI,.slice Ao15 aC.length co15] 26 (0,0)) (by (with_reducible repeat (first|refine ey7 ?_ _|refine gy7 ?_|refine fy7 ?_ _));exact BK679.out)) : gb719 ≠ gb679));have n17_:=zz7 ((by rw [hg];exact Nat.ne_of_lt (blk_lt (g:=gb690) (o:=.cells #[.int .i64 aD,.slice Ao23 aA.length co23] 26 (0,0)) (by (with_reducible repeat (first|refine ey7 ?_ _|refine gy7 ?_|refine fy7 ?_ _));exact BK690.out)) : gb690 ≠ gb719));have n18_:=zz7 ((by rw [hg];exact Nat.ne_of_gt (blk_lt (g:=gb690) (o:=.cells #[.int .i64 aD,.slice Ao23 aA.length co23] 26 (0,0)) (by (with_reducible repeat (first|refine ey7 ?_ _|refine gy7 ?_|refine fy7 ?_ _));exact BK690.out)) : gb719 ≠ gb690));clear HO_3;clear HO_4;clear HO_6;clear HO_7;clear HO_9;clear HO_680001;clear HO_691001;clear HO714;clear HO718;clear BK679;clear BK690;clear HB;have HO_3:=n0_;have HO_4:=n1_;have HO_6:=n2_;have HO_7:=n3_;have HO_9:=n4_;have HO_680001:=n5_;have HO_691001:=n6_;have HO714:=n7_;have HO718:=n8_;have BK679:=n9_;have BK690:=n10_;have HB:=n11_;have BK719:=n12_;have GW719:=n13_;have GE719:=n14_;have NB679_719:=n15_;have NB719_679:=n16_;have NB690_719:=n17_;have NB719_690:=n18_;clear n0_ n1_ n2_ n3_ n4_ n5_ n6_ n7_ n8_ n9_ n10_ n11_ n12_ n13_ n14_ n15_ n16_ n17_ n18_;clear hb hbox hg;have hnb70:=NB719_679.out;have hnc70:=NB679_719.out;have hnb71:=NB719_690.out;have hnc71:=NB690_719.out;have hcz72_0 : w69.cell? ⟨gb719,0,none⟩ = some (.int .i64 0):=(blk_cell BK719.out 0).trans rfl;have hcz72_1 : w69.cell? ⟨gb719,1,none⟩ = some (.slice none 0 0):=(blk_cell BK719.out 1).trans rfl;have hfz72_0:=blk_frozen BK719.out 0;have hfz72_1:=blk_frozen BK719.out 1;obtain⟨Ao73,co73,eo73⟩:=Kd.R_slice HO718.out;subst eo73))
             have n0_ : Aside0 (Kd.R (Kd.int .u8) 5 ((w69.setCell ⟨gb719,0,none⟩ (.int .i64 aT)).setCell ⟨gb719,1,none⟩ (.slice Ao73 aK.length co73)) w.heap.size (fun k_=>some k_ ≠ (.slice Ao11 aG.length co11 : Value).ownBlock ∧ some k_ ≠ (.slice Ao17 aJ.length co17 : Value).ownBlock ∧ some k_ ≠ (.slice Ao18 aH.length co18 : Value).ownBlock ∧ some k_ ≠ (.slice Ao52 x9_2.length co52 : Value).ownBlock ∧ some k_ ≠ (.slice Ao15 aC.length co15 : Value).ownBlock ∧ some k_ ≠ (.slice Ao23 aA.length co23 : Value).ownBlock ∧ some k_ ≠ (.slice Ao67 aY.length co67 : Value).ownBlock ∧ some k_ ≠ (.slice Ao73 aK.length co73 : Value).ownBlock) (.slice Ao10 aE.length co10) aE):=⟨by (with_reducible repeat (first|apply az7|apply bz7|apply cz7));exact gz7 (ez7 (p:=⟨gb719,1,none⟩) (ez7 (p:=⟨gb719,0,none⟩) (hz7 HO_3.out BK719.out (by decide)) (fun _ hk=>hk.2) (.int .i64 aT)) (fun _ hk=>hk.2) (.slice Ao73 aK.length co73)) (fun _ hk=>⟨hk.1.1.1.1,⟨hk.1.1.1.2.1,⟨hk.1.1.1.2.2.1,⟨hk.1.1.1.2.2.2.1,⟨hk.1.1.1.2.2.2.2.1,⟨hk.1.1.1.2.2.2.2.2,⟨hk.1.1.2,hk.1.2⟩⟩⟩⟩⟩⟩⟩)⟩
             have n1_ : Aside0 (Kd.R (Kd.int .u8) 5 ((w69.setCell ⟨gb719,0,none⟩ (.int .i64 aT)).setCell ⟨gb719,1,none⟩ (.slice Ao73 aK.length co73)) w.heap.size (fun k_=>some k_ ≠ (.slice Ao10 aE.length co10 : Value).ownBlock ∧ some k_ ≠ (.slice Ao17 aJ.length co17 : Value).ownBlock ∧ some k_ ≠ (.slice Ao18 aH.length co18 : Value).ownBlock ∧ some k_ ≠ (.slice Ao52 x9_2.length co52 : Value).ownBlock ∧ some k_ ≠ (.slice Ao15 aC.length co15 : Value).ownBlock ∧ some k_ ≠ (.slice Ao23 aA.length co23 : Value).ownBlock ∧ some k_ ≠ (.slice Ao67 aY.length co67 : Value).ownBlock ∧ some k_ ≠ (.slice Ao73 aK.length co73 : Value).ownBlock) (.slice Ao11 aG.length co11) aG):=⟨by (with_reducible repeat (first|apply az7|apply bz7|apply cz7));exact gz7 (ez7 (p:=⟨gb719,1,none⟩) (ez7 (p:=⟨gb719,0,none⟩) (hz7 HO_4.out BK719.out (by decide)) (fun _ hk=>hk.2) (.int .i64 aT)) (fun _ hk=>hk.2) (.slice Ao73 aK.length co73)) (fun _ hk=>⟨hk.1.1.1.1,⟨hk.1.1.1.2.1,⟨hk.1.1.1.2.2.1,⟨hk.1.1.1.2.2.2.1,⟨hk.1.1.1.2.2.2.2.1,⟨hk.1.1.1.2.2.2.2.2,⟨hk.1.1.2,hk.1.2⟩⟩⟩⟩⟩⟩⟩)⟩
             have n2_ : Aside0 (Kd.R (Kd.int .u8) 5 ((w69.setCell ⟨gb719,0,none⟩ (.int .i64 aT)).setCell ⟨gb719,1,none⟩ (.slice Ao73 aK.length co73)) w.heap.size (fun k_=>some k_ ≠ (.slice Ao10 aE.length co10 : Value).ownBlock ∧ some k_ ≠ (.slice Ao11 aG.length co11 : Value).ownBlock ∧ some k_ ≠ (.slice Ao18 aH.length co18 : Value).ownBlock ∧ some k_ ≠ (.slice Ao52 x9_2.length co52 : Value).ownBlock ∧ some k_ ≠ (.slice Ao15 aC.length co15 : Value).ownBlock ∧ some k_ ≠ (.slice Ao23 aA.length co23 : Value).ownBlock ∧ some k_ ≠ (.slice Ao67 aY.length co67 : Value).ownBlock ∧ some k_ ≠ (.slice Ao73 aK.length co73 : Value).ownBlock) (.slice Ao17 aJ.length co17) aJ):=⟨by (with_reducible repeat (first|apply az7|apply bz7|apply cz7));exact gz7 (ez7 (p:=⟨gb719,1,none⟩) (ez7 (p:=⟨gb719,0,none⟩) (hz7 HO_6.out BK719.out (by decide)) (fun _ hk=>hk.2) (.int .i64 aT)) (fun _ hk=>hk.2) (.slice Ao73 aK.length co73)) (fun _ hk=>⟨hk.1.1.1.1,⟨hk.1.1.1.2.1,⟨hk.1.1.1.2.2.1,⟨hk.1.1.1.2.2.2.1,⟨hk.1.1.1.2.2.2.2.1,⟨hk.1.1.1.2.2.2.2.2,⟨hk.1.1.2,hk.1.2⟩⟩⟩⟩⟩⟩⟩)⟩
             have n3_ : Aside0 (Kd.R (Kd.int .u8) 5 ((w69.setCell ⟨gb719,0,none⟩ (.int .i64 aT)).setCell ⟨gb719,1,none⟩ (.slice Ao73 aK.length co73)) w.heap.size (fun k_=>some k_ ≠ (.slice Ao10 aE.length co10 : Value).ownBlock ∧ some k_ ≠ (.slice Ao11 aG.length co11 : Value).ownBlock ∧ some k_ ≠ (.slice Ao17 aJ.length co17 : Value).ownBlock ∧ some k_ ≠ (.slice Ao52 x9_2.length co52 : Value).ownBlock ∧ some k_ ≠ (.slice Ao15 aC.length co15 : Value).ownBlock ∧ some k_ ≠ (.slice Ao23 aA.length co23 : Value).ownBlock ∧ some k_ ≠ (.slice Ao67 aY.length co67 : Value).ownBlock ∧ some k_ ≠ (.slice Ao73 aK.length co73 : Value).ownBlock) (.slice Ao18 aH.length co18) aH):=⟨by (with_reducible repeat (first|apply az7|apply bz7|apply cz7));exact gz7 (ez7 (p:=⟨gb719,1,none⟩) (ez7 (p:=⟨gb719,0,none⟩) (hz7 HO_7.out BK719.out (by decide)) (fun _ hk=>hk.2) (.int .i64 aT)) (fun _ hk=>hk.2) (.slice Ao73 aK.length co73)) (fun _ hk=>⟨hk.1.1.1.1,⟨hk.1.1.1.2.1,⟨hk.1.1.1.2.2.1,⟨hk.1.1.1.2.2.2.1,⟨hk.1.1.1.2.2.2.2.1,⟨hk.1.1.1.2.2.2.2.2,⟨hk.1.1.2,hk.1.2⟩⟩⟩⟩⟩⟩⟩)⟩
             have n4_ : Aside0 (Kd.R (Kd.int .u8) 5 ((w69.setCell ⟨gb719,0,none⟩ (.int .i64 aT)).setCell ⟨gb719,1,none⟩ (.slice Ao73 aK.length co73)) w.heap.size (fun k_=>some k_ ≠ (.slice Ao10 aE.length co10 : Value).ownBlock ∧ some k_ ≠ (.slice Ao11 aG.length co11 : Value).ownBlock ∧ some k_ ≠ (.slice Ao17 aJ.length co17 : Value).ownBlock ∧ some k_ ≠ (.slice Ao18 aH.length co18 : Value).ownBlock ∧ some k_ ≠ (.slice Ao15 aC.length co15 : Value).ownBlock ∧ some k_ ≠ (.slice Ao23 aA.length co23 : Value).ownBlock ∧ some k_ ≠ (.slice Ao67 aY.length co67 : Value).ownBlock ∧ some k_ ≠ (.slice Ao73 aK.length co73 : Value).ownBlock) (.slice Ao52 x9_2.length co52) x9_2):=⟨by (with_reducible repeat (first|apply az7|apply bz7|apply cz7));exact gz7 (ez7 (p:=⟨gb719,1,none⟩) (ez7 (p:=⟨gb719,0,none⟩) (hz7 HO_9.out BK719.out (by decide)) (fun _ hk=>hk.2) (.int .i64 aT)) (fun _ hk=>hk.2) (.slice Ao73 aK.length co73)) (fun _ hk=>⟨hk.1.1.1.1,⟨hk.1.1.1.2.1,⟨hk.1.1.1.2.2.1,⟨hk.1.1.1.2.2.2.1,⟨hk.1.1.1.2.2.2.2.1,⟨hk.1.1.1.2.2.2.2.2,⟨hk.1.1.2,hk.1.2⟩⟩⟩⟩⟩⟩⟩)⟩
             have n5_ : Aside0 (Kd.R (Kd.int .u8) 82 ((w69.setCell ⟨gb719,0,none⟩ (.int .i64 aT)).setCell ⟨gb719,1,none⟩ (.slice Ao73 aK.length co73)) w.heap.size (fun k_=>some k_ ≠ (.slice Ao10 aE.length co10 : Value).ownBlock ∧ some k_ ≠ (.slice Ao11 aG.length co11 : Value).ownBlock ∧ some k_ ≠ (.slice Ao17 aJ.length co17 : Value).ownBlock ∧ some k_ ≠ (.slice Ao18 aH.length co18 : Value).ownBlock ∧ some k_ ≠ (.slice Ao52 x9_2.length co52 : Value).ownBlock ∧ some k_ ≠ (.slice Ao23 aA.length co23 : Value).ownBlock ∧ some k_ ≠ (.slice Ao67 aY.length co67 : Value).ownBlock ∧ some k_ ≠ (.slice Ao73 aK.length co73 : Value).ownBlock) (.slice Ao15 aC.length co15) aC):=⟨by (with_reducible repeat (first|apply az7|apply bz7|apply cz7));exact gz7 (ez7 (p:=⟨gb719,1,none⟩) (ez7 (p:=⟨gb719,0,none⟩) (hz7 HO_680001.out BK719.out (by decide)) (fun _ hk=>hk.2) (.int .i64 aT)) (fun _ hk=>hk.2) (.slice Ao73 aK.length co73)) (fun _ hk=>⟨hk.1.1.1.1,⟨hk.1.1.1.2.1,⟨hk.1.1.1.2.2.1,⟨hk.1.1.1.2.2.2.1,⟨hk.1.1.1.2.2.2.2.1,⟨hk.1.1.1.2.2.2.2.2,⟨hk.1.1.2,hk.1.2⟩⟩⟩⟩⟩⟩⟩)⟩
             have n6_ : Aside0 (Kd.R (Kd.int .u8) 82 ((w69.setCell ⟨gb719,0,none⟩ (.int .i64 aT)).setCell ⟨gb719,1,none⟩ (.slice Ao73 aK.length co73)) w.heap.size (fun k_=>some k_ ≠ (.slice Ao10 aE.length co10 : Value).ownBlock ∧ some k_ ≠ (.slice Ao11 aG.length co11 : Value).ownBlock ∧ some k_ ≠ (.slice Ao17 aJ.length co17 : Value).ownBlock ∧ some k_ ≠ (.slice Ao18 aH.length co18 : Value).ownBlock ∧ some k_ ≠ (.slice Ao52 x9_2.length co52 : Value).ownBlock ∧ some k_ ≠ (.slice Ao15 aC.length co15 : Value).ownBlock ∧ some k_ ≠ (.slice Ao67 aY.length co67 : Value).ownBlock ∧ some k_ ≠ (.slice Ao73 aK.length co73 : Value).ownBlock) (.slice Ao23 aA.length co23) aA):=⟨by (with_reducible repeat (first|apply az7|apply bz7|apply cz7));exact gz7 (ez7 (p:=⟨gb719,1,none⟩) (ez7 (p:=⟨gb719,0,none⟩) (hz7 HO_691001.out BK719.out (by decide)) (fun _ hk=>hk.2) (.int .i64 aT)) (fun _ hk=>hk.2) (.slice Ao73 aK.length co73)) (fun _ hk=>⟨hk.1.1.1.1,⟨hk.1.1.1.2.1,⟨hk.1.1.1.2.2.1,⟨hk.1.1.1.2.2.2.1,⟨hk.1.1.1.2.2.2.2.1,⟨hk.1.1.1.2.2.2.2.2,⟨hk.1.1.2,hk.1.2⟩⟩⟩⟩⟩⟩⟩)⟩
             have n7_ : Aside0 (Kd.R (Kd.int .u8) 5 ((w69.setCell ⟨gb719,0,none⟩ (.int .i64 aT)).setCell ⟨gb719,1,none⟩ (.slice Ao73 aK.length co73)) w.heap.size (fun k_=>some k_ ≠ (.slice Ao10 aE.length co10 : Value).ownBlock ∧ some k_ ≠ (.slice Ao11 aG.length co11 : Value).ownBlock ∧ some k_ ≠ (.slice Ao17 aJ.length co17 : Value).ownBlock ∧ some k_ ≠ (.slice Ao18 aH.length co18 : Value).ownBlock ∧ some k_ ≠ (.slice Ao52 x9_2.length co52 : Value).ownBlock ∧ some k_ ≠ (.slice Ao15 aC.length co15 : Value).ownBlock ∧ some k_ ≠ (.slice Ao23 aA.length co23 : Value).ownBlock ∧ some k_ ≠ (.slice Ao73 aK.length co73 : Value).ownBlock) (.slice Ao67 aY.length co67) aY):=⟨by (with_reducible repeat (first|apply az7|apply bz7|apply cz7));exact gz7 (ez7 (p:=⟨gb719,1,none⟩) (ez7 (p:=⟨gb719,0,none⟩) (hz7 HO714.out BK719.out (by decide)) (fun _ hk=>hk.2) (.int .i64 aT)) (fun _ hk=>hk.2) (.slice Ao73 aK.length co73)) (fun _ hk=>⟨hk.1.1.1.1.1.1.1.1.2,⟨hk.1.1.1.1.1.1.1.2,⟨hk.1.1.1.1.1.1.2,⟨hk.1.1.1.1.1.2,⟨hk.1.1.1.1.2,⟨hk.1.1.1.2,⟨hk.1.1.2,hk.1.2⟩⟩⟩⟩⟩⟩⟩)⟩
             have n8_ : Aside0 (Kd.R (Kd.int .u8) 82 ((w69.setCell ⟨gb719,0,none⟩ (.int .i64 aT)).setCell ⟨gb719,1,none⟩ (.slice Ao73 aK.length co73)) w.heap.size (fun k_=>some k_ ≠ (.slice Ao10 aE.length co10 : Value).ownBlock ∧ some k_ ≠ (.slice Ao11 aG.length co11 : Value).ownBlock ∧ some k_ ≠ (.slice Ao17 aJ.length co17 : Value).ownBlock ∧ some k_ ≠ (.slice Ao18 aH.length co18 : Value).ownBlock ∧ some k_ ≠ (.slice Ao52 x9_2.length co52 : Value).ownBlock ∧ some k_ ≠ (.slice Ao15 aC.length co15 : Value).ownBlock ∧ some k_ ≠ (.slice Ao23 aA.length co23 : Value).ownBlock ∧ some k_ ≠ (.slice Ao67 aY.length co67 : Value).ownBlock) (.slice Ao73 aK.length co73) aK):=⟨by (with_reducible repeat (first|apply az7|apply bz7|apply cz7));exact gz7 (ez7 (p:=⟨gb719,1,none⟩) (ez7 (p:=⟨gb719,0,none⟩) (hz7 HO718.out BK719.out (by decide)) (fun _ hk=>hk.2) (.int .i64 aT)) (fun _ hk=>hk.2) (.slice Ao73 aK.length co73)) (fun _ hk=>⟨hk.1.1.1.1.1.1.1.1.2,⟨hk.1.1.1.1.1.1.1.2,⟨hk.1.1.1.1.1.1.2,⟨hk.1.1.1.1.1.2,⟨hk.1.1.1.1.2,⟨hk.1.1.1.2,⟨hk.1.1.2,hk.1.2⟩⟩⟩⟩⟩⟩⟩)⟩
             have n9_ : Aside0 (((w69.setCell ⟨gb719,0,none⟩ (.int .i64 aT)).setCell ⟨gb719,1,none⟩ (.slice Ao73 aK.length co73)).heap[gb679]? = some (.cells #[.int .i64 aI,.slice Ao15 aC.length co15] 26 (0,0))):=⟨by (with_reducible repeat (first|refine ey7 ?_ _|refine gy7 ?_|refine fy7 ?_ _));refine blk_far ?_ NB679_719.out _;(with_reducible repeat (first|refine ey7 ?_ _|refine gy7 ?_|refine fy7 ?_ _));refine blk_far ?_ NB679_719.out _;(with_reducible repeat (first|refine ey7 ?_ _|refine gy7 ?_|refine fy7 ?_ _));exact BK679.out⟩
             have n10_ : Aside0 (((w69.setCell ⟨gb719,0,none⟩ (.int .i64 aT)).setCell ⟨gb719,1,none⟩ (.slice Ao73 aK.length co73)).heap[gb690]? = some (.cells #[.int .i64 aD,.slice Ao23 aA.length co23] 26 (0,0))):=⟨by (with_reducible repeat (first|refine ey7 ?_ _|refine gy7 ?_|refine fy7 ?_ _));refine blk_far ?_ NB690_719.out _;(with_reducible repeat (first|refine ey7 ?_ _|refine gy7 ?_|refine fy7 ?_ _));refine blk_far ?_ NB690_719.out _;(with_reducible repeat (first|refine ey7 ?_ _|refine gy7 ?_|refine fy7 ?_ _));exact BK690.out⟩
             have n11_ : Aside0 (((w69.setCell ⟨gb719,0,none⟩ (.int .i64 aT)).setCell ⟨gb719,1,none⟩ (.slice Ao73 aK.length co73)).heap[gb719]? = some (.cells #[.int .i64 aT,.slice Ao73 aK.length co73] 26 (0,0))):=⟨by (with_reducible repeat (first|refine ey7 ?_ _|refine gy7 ?_|refine fy7 ?_ _));refine blk_put (cs:=#[.int .i64 aT,.slice none 0 0]) ?_ 1 _ rfl;(with_reducible repeat (first|refine ey7 ?_ _|refine gy7 ?_|refine fy7 ?_ _));refine blk_put (cs:=#[.int .i64 0,.slice none 0 0]) ?_ 0 _ rfl;(with_reducible repeat (first|refine ey7 ?_ _|refine gy7 ?_|refine fy7 ?_ _));exact BK719.out⟩
             have n12_ : Aside0 (Below w.heap.size w ((w69.setCell ⟨gb719,0,none⟩ (.int .i64 aT)).setCell ⟨gb719,1,none⟩ (.slice Ao73 aK.length co73))):=⟨by repeat (first|(with_reducible first|exact HB.out|apply by7|apply ay7|apply cy7|refine dy7 ?_ GE679.out|refine dy7 ?_ GE690.out|refine dy7 ?_ GE719.out)|exact HB.out)⟩
             (try clear HO_3);(try clear HO_4);(try clear HO_6)
             (try clear HO_7);(try clear HO_9);(try clear HO_680001)
             (try clear HO_691001);(try clear HO714);(try clear HO718)
             (try clear BK679);(try clear BK690);(try clear BK719)
             (try clear HB)
             generalize ((w69.setCell ⟨gb719,0,none⟩ (.int .i64 aT)).setCell ⟨gb719,1,none⟩ (.slice Ao73 aK.length co73)) = w74 at n0_ n1_ n2_ n3_ n4_ n5_ n6_ n7_ n8_ n9_ n10_ n11_ n12_ ⊢
             have HO_3:=n0_
             have HO_4:=n1_
             have HO_6:=n2_
             have HO_7:=n3_
             have HO_9:=n4_
             have HO_680001:=n5_
             have HO_691001:=n6_
             have HO714:=n7_
             have HO718:=n8_
             have BK679:=n9_
             have BK690:=n10_
             have BK719:=n11_
             have HB:=n12_
             clear n0_ n1_ n2_ n3_ n4_ n5_ n6_ n7_ n8_ n9_ n10_ n11_ n12_
             have n0_:=zz7 (cz7 HO_3.out)
             have n1_:=zz7 (cz7 HO_4.out)
             have n2_:=zz7 (cz7 HO_6.out)
             have n3_:=zz7 (cz7 HO_7.out)
             have n4_:=zz7 (cz7 HO_9.out)
             have n5_:=zz7 (cz7 HO_680001.out)
             have n6_:=zz7 (cz7 HO_691001.out)
             have n7_:=zz7 (cz7 HO714.out)
             have n8_:=zz7 (cz7 HO718.out)
             have n9_:=zz7 (gy7 BK679.out)
             have n10_:=zz7 (gy7 BK690.out)
             have n11_:=zz7 (gy7 BK719.out)
             have n12_:=zz7 (cy7 HB.out)
             clear HO_3
             clear HO_4
             clear HO_6
             clear HO_7
             clear HO_9
             clear HO_680001
             clear HO_691001
             clear HO714
             clear HO718
             clear BK679
             clear BK690
             clear BK719
             clear HB
             have HO_3:=n0_
             have HO_4:=n1_
             have HO_6:=n2_
             have HO_7:=n3_
             have HO_9:=n4_
             have HO_680001:=n5_
             have HO_691001:=n6_
             have HO714:=n7_
             have HO718:=n8_
             have BK679:=n9_
             have BK690:=n10_
             have BK719:=n11_
             have HB:=n12_
             clear n0_ n1_ n2_ n3_ n4_ n5_ n6_ n7_ n8_ n9_ n10_ n11_ n12_
             refine start_ (n:=17) (S:=fun w'=>w'.cell? ⟨gb690,0,none⟩ = some (.int .i64 aD) ∧ w'.cell? ⟨gb690,1,none⟩ = some (.slice Ao23 aA.length co23) ∧ w'.cell? ⟨gb719,0,none⟩ = some (.int .i64 aT) ∧ w'.cell? ⟨gb719,1,none⟩ = some (.slice Ao73 aK.length co73)) (ds:=[]) #[Z,Z,Z,Z,Z,Z,Z,Z,Z,Z,Z,Z,Z,Z,Z,Z,Z] (by kernel_rfl) rfl rfl ⟨(blk_cell BK690.out 0).trans rfl,(blk_cell BK690.out 1).trans rfl,(blk_cell BK719.out 0).trans rfl,(blk_cell BK719.out 1).trans rfl⟩ (fun hHeld=>?_);refine with_tabW laws_FnGroups.tab17 laws_FnGroups.bits17 (fun HT_ HW_=>?_)
             generalize w74.drew = w75 at HO_3 HO_4 HO_6 HO_7 HO_9 HO_680001 HO_691001 HO714 HO718 BK679 BK690 BK719 HB hHeld ⊢
             refine pure_ (i:=0) (N:=some 86) (v:=?_) (a':=?_) #[Y,Z,Z,Z,Z,Z,Z,Z,Z,Z,Z,Z,Z,Z,Z,Z,Z] rfl rfl (any_of HT_.out (by kernel_rfl)) (fun _ _ _ h=>h) (Or.inl ⟨by rfl,?_⟩) ?_ ?_
             rotate_left
             ·intro w';go_simp;with_reducible rfl
             rotate_left
             ·simp only [Act.put,sa_,sb_,sc_,i64_w];rfl
             refine take_ (i:=1) (N:=some 87) (v:=?_) (a':=?_) #[Y,Y,Z,Z,Z,Z,Z,Z,Z,Z,Z,Z,Z,Z,Z,Z,Z] rfl rfl (take_ofW HT_.out HW_.out (by kernel_rfl)) (fun _ _ _ h=>h) (Or.inl ⟨by rfl,?_⟩) hHeld ?_ ?_
             rotate_left
             ·rintro w' ⟨s0,s1,s2,s3⟩
              go_simp
              with_reducible rfl
             rotate_left
             ·simp only [Act.put,sa_,sb_,sc_,i64_w];rfl
             refine pure_ (i:=2) (N:=some 88) (v:=?_) (a':=?_) #[Y,Y,Y,Z,Z,Z,Z,Z,Z,Z,Z,Z,Z,Z,Z,Z,Z] rfl rfl (any_of HT_.out (by kernel_rfl)) (fun _ _ _ h=>h) (Or.inl ⟨by rfl,?_⟩) ?_ ?_
             rotate_left
             ·intro w';go_simp;with_reducible rfl
             rotate_left
             ·simp only [Act.put,sa_,sb_,sc_,i64_w];rfl
             refine pure_ (i:=3) (N:=some 89) (v:=?_) (a':=?_) #[Y,Y,Y,Y,Z,Z,Z,Z,Z,Z,Z,Z,Z,Z,Z,Z,Z] rfl rfl (any_of HT_.out (by kernel_rfl)) (fun _ _ _ h=>h) (Or.inl ⟨by rfl,?_⟩) ?_ ?_
             rotate_left
             ·intro w';go_simp;with_reducible rfl
             rotate_left
             ·simp only [Act.put,sa_,sb_,sc_,i64_w];rfl
             refine pure_ (i:=4) (N:=some 90) (v:=?_) (a':=?_) #[Y,Y,Y,Y,Y,Z,Z,Z,Z,Z,Z,Z,Z,Z,Z,Z,Z] rfl rfl (any_of HT_.out (by kernel_rfl)) (fun _ _ _ h=>h) (Or.inl ⟨by rfl,?_⟩) ?_ ?_
             rotate_left
             ·intro w';go_simp;with_reducible rfl
             rotate_left
             ·simp only [Act.put,sa_,sb_,sc_,i64_w];rfl
             refine pure_ (i:=5) (N:=some 91) (v:=?_) (a':=?_) #[Y,Y,Y,Y,Y,Y,Z,Z,Z,Z,Z,Z,Z,Z,Z,Z,Z] rfl rfl (any_of HT_.out (by kernel_rfl)) (fun _ _ _ h=>h) (Or.inl ⟨by rfl,?_⟩) ?_ ?_
             rotate_left
             ·intro w';go_simp;with_reducible rfl
             rotate_left
             ·simp only [Act.put,sa_,sb_,sc_,i64_w];rfl
             refine pure_ (i:=7) (N:=some 93) (v:=?_) (a':=?_) #[Y,Y,Y,Y,Y,Y,Z,Y,Z,Z,Z,Z,Z,Z,Z,Z,Z] rfl rfl (any_of HT_.out (by kernel_rfl)) (fun _ _ _ h=>h) (Or.inl ⟨by rfl,?_⟩) ?_ ?_
             rotate_left
             ·intro w';go_simp;with_reducible rfl
             rotate_left
             ·simp only [Act.put,sa_,sb_,sc_,i64_w];rfl
             refine pure_ (i:=9) (N:=some 95) (v:=?_) (a':=?_) #[Y,Y,Y,Y,Y,Y,Z,Y,Z,Y,Z,Z,Z,Z,Z,Z,Z] rfl rfl (any_of HT_.out (by kernel_rfl)) (fun _ _ _ h=>h) (Or.inl ⟨by rfl,?_⟩) ?_ ?_
             rotate_left
             ·intro w';go_simp;with_reducible rfl
             rotate_left
             ·simp only [Act.put,sa_,sb_,sc_,i64_w];rfl
             refine pure_ (i:=10) (N:=some 96) (v:=?_) (a':=?_) #[Y,Y,Y,Y,Y,Y,Z,Y,Z,Y,Y,Z,Z,Z,Z,Z,Z] rfl rfl (any_of HT_.out (by kernel_rfl)) (fun _ _ _ h=>h) (Or.inl ⟨by rfl,?_⟩) ?_ ?_
             rotate_left
             ·intro w';go_simp;with_reducible rfl
             rotate_left
             ·simp only [Act.put,sa_,sb_,sc_,i64_w];rfl
             refine take_ (i:=6) (N:=some 92) (v:=?_) (a':=?_) #[Y,Y,Y,Y,Y,Y,Y,Y,Z,Y,Y,Z,Z,Z,Z,Z,Z] rfl rfl (take_ofW HT_.out HW_.out (by kernel_rfl)) (fun _ _ _ h=>h) (Or.inl ⟨by rfl,?_⟩) hHeld ?_ ?_
             rotate_left
             ·rintro w' ⟨s0,s1,s2,s3⟩
              go_simp
              with_reducible rfl
             rotate_left
             ·simp only [Act.put,sa_,sb_,sc_,i64_w];rfl
             refine take_ (i:=8) (N:=some 94) (v:=?_) (a':=?_) #[Y,Y,Y,Y,Y,Y,Y,Y,Y,Y,Y,Z,Z,Z,Z,Z,Z] rfl rfl (take_ofW HT_.out HW_.out (by kernel_rfl)) (fun _ _ _ h=>h) (Or.inl ⟨by rfl,?_⟩) hHeld ?_ ?_
             rotate_left
             ·rintro w' ⟨s0,s1,s2,s3⟩
              go_simp
              with_reducible rfl
             rotate_left
             ·simp only [Act.put,sa_,sb_,sc_,i64_w];rfl
             refine one_ (i:=11) (N:=some 97) #[Y,Y,Y,Y,Y,Y,Y,Y,Y,Y,Y,Y,Z,Z,Z,Z,Z] rfl rfl (one_of HT_.out (by kernel_rfl)) (by decide) (fun K hK=>?_)
             refine goes_ Try.func46 (by kernel_rfl) rfl #[.slice Ao17 aJ.length co17,.slice Ao52 x9_2.length co52] (by rfl) rfl rfl (by (try simp only [List.map_toArray,List.map_cons,List.map_nil]);first|done|rfl|(simp only [List.length_drop,List.length_take];rfl)) ?_
             with_reducible refine (impl_HashAll.calls _ _ aJ _ _ x9_2 bO bG _ ?side1 ?side2 ?side3 ?side4 A62.out).mono ?_
             (case side1=>repeat (first|exact (iz7 HO_6.out).2.2|(with_reducible refine Kd.C_alloc ?_ _)|(with_reducible refine Kd.C_drewN ?_ _)|(with_reducible refine Kd.C_drew ?_)))
             (case side2=>exact (iz7 HO_6.out).2.1)
             (case side3=>repeat (first|exact (iz7 HO_9.out).2.2|(with_reducible refine Kd.C_alloc ?_ _)|(with_reducible refine Kd.C_drewN ?_ _)|(with_reducible refine Kd.C_drew ?_)))
             (case side4=>exact (iz7 HO_9.out).2.1)
             rintro e w76 ⟨v722,rfl,ho0,hb⟩
             refine ⟨_,rfl,?_⟩
             have n0_:=zz7 (jz7 (by (with_reducible repeat (first|apply az7|apply bz7|apply cz7));exact HO_3.out) (fz7 ho0) hb)
             have n1_:=zz7 (jz7 (by (with_reducible repeat (first|apply az7|apply bz7|apply cz7));exact HO_4.out) (fz7 ho0) hb)
             have n2_:=zz7 (jz7 (by (with_reducible repeat (first|apply az7|apply bz7|apply cz7));exact HO_6.out) (fz7 ho0) hb)
             have n3_:=zz7 (jz7 (by (with_reducible repeat (first|apply az7|apply bz7|apply cz7));exact HO_7.out) (fz7 ho0) hb)
             have n4_:=zz7 (jz7 (by (with_reducible repeat (first|apply az7|apply bz7|apply cz7));exact HO_9.out) (fz7 ho0) hb)
             have n5_:=zz7 (jz7 (by (with_reducible repeat (first|apply az7|apply bz7|apply cz7));exact HO_680001.out) (fz7 ho0) hb)
             have n6_:=zz7 (jz7 (by (with_reducible repeat (first|apply az7|apply bz7|apply cz7));exact HO_691001.out) (fz7 ho0) hb)
             have n7_:=zz7 (jz7 (by (with_reducible repeat (first|apply az7|apply bz7|apply cz7));exact HO714.out) (fz7 ho0) hb)
             have n8_:=zz7 (jz7 (by (with_reducible repeat (first|apply az7|apply bz7|apply cz7));exact HO718.out) (fz7 ho0) hb)
             have n9_:=zz7 (Kd.R_lower (kz7 (kz7 (kz7 (kz7 (kz7 (kz7 (kz7 (kz7 (kz7 ho0 (Kd.R_lt (by (with_reducible repeat (first|apply az7|apply bz7|apply cz7));exact HO_3.out))) (Kd.R_lt (by (with_reducible repeat (first|apply az7|apply bz7|apply cz7));exact HO_4.out))) (Kd.R_lt (by (with_reducible repeat (first|apply az7|apply bz7|apply cz7));exact HO_6.out))) (Kd.R_lt (by (with_reducible repeat (first|apply az7|apply bz7|apply cz7));exact HO_7.out))) (Kd.R_lt (by (with_reducible repeat (first|apply az7|apply bz7|apply cz7));exact HO_9.out))) (Kd.R_lt (by (with_reducible repeat (first|apply az7|apply bz7|apply cz7));exact HO_680001.out))) (Kd.R_lt (by (with_reducible repeat (first|apply az7|apply bz7|apply cz7));exact HO_691001.out))) (Kd.R_lt (by (with_reducible repeat (first|apply az7|apply bz7|apply cz7));exact HO714.out))) (Kd.R_lt (by (with_reducible repeat (first|apply az7|apply bz7|apply cz7));exact HO718.out))) (below_size (by repeat(first|(with_reducible first|exact HB.out|apply by7|apply ay7|apply cy7|refine dy7 ?_ GE679.out|refine dy7 ?_ GE690.out|refine dy7 ?_ GE719.out)|exact HB.out))))
             have n10_:=zz7 (hy7 (g:=gb679) (o:=.cells #[.int .i64 aI,.slice Ao15 aC.length co15] 26 (0,0)) (by (with_reducible repeat (first|refine ey7 ?_ _|refine gy7 ?_|refine fy7 ?_ _));exact BK679.out) hb)
             have n11_:=zz7 (hy7 (g:=gb690) (o:=.cells #[.int .i64 aD,.slice Ao23 aA.length co23] 26 (0,0)) (by (with_reducible repeat (first|refine ey7 ?_ _|refine gy7 ?_|refine fy7 ?_ _));exact BK690.out) hb)
             have n12_:=zz7 (hy7 (g:=gb719) (o:=.cells #[.int .i64 aT,.slice Ao73 aK.length co73] 26 (0,0)) (by (with_reducible repeat (first|refine ey7 ?_ _|refine gy7 ?_|refine fy7 ?_ _));exact BK719.out) hb)
             have n13_:=zz7 (below_step (by repeat(first|(with_reducible first|exact HB.out|apply by7|apply ay7|apply cy7|refine dy7 ?_ GE679.out|refine dy7 ?_ GE690.out|refine dy7 ?_ GE719.out)|exact HB.out)) hb)
             clear HO_3
             clear HO_4
             clear HO_6
             clear HO_7
             clear HO_9
             clear HO_680001
             clear HO_691001
             clear HO714
             clear HO718
             clear BK679
             clear BK690
             clear BK719
             clear HB
             have HO_3:=n0_
             have HO_4:=n1_
             have HO_6:=n2_
             have HO_7:=n3_
             have HO_9:=n4_
             have HO_680001:=n5_
             have HO_691001:=n6_
             have HO714:=n7_
             have HO718:=n8_
             have HO723:=n9_
             have BK679:=n10_
             have BK690:=n11_
             have BK719:=n12_
             have HB:=n13_
             clear n0_ n1_ n2_ n3_ n4_ n5_ n6_ n7_ n8_ n9_ n10_ n11_ n12_ n13_
             (try clear hb);(try clear hb2);(try clear hk)
             (try clear hi)
             (try clear ho0)
             obtain⟨Ao77,co77,eo77⟩:=Kd.R_slice HO723.out
             (first|subst eo77|(injection eo77 with f1_ f2_ f3_;have f4_:=f1_.symm;have f5_:=f3_.symm;clear f1_ f2_ f3_;subst f4_;subst f5_))
             refine hK.out _ _ ⟨(blk_cell BK690.out 0).trans rfl,(blk_cell BK690.out 1).trans rfl,(blk_cell BK719.out 0).trans rfl,(blk_cell BK719.out 1).trans rfl⟩ (fun hHeld=>?_)
             clear hK K
             refine norm_ (a':=?_) ?_ ?_
             rotate_left
             ·show Act.put _ (some 97) _ = _
              simp only [Act.put,sa_,sb_,sc_,i64_w]
              rfl
             refine pure_ (i:=12) (N:=some 98) (v:=?_) (a':=?_) #[Y,Y,Y,Y,Y,Y,Y,Y,Y,Y,Y,Y,Y,Z,Z,Z,Z] rfl rfl (any_of HT_.out (by kernel_rfl)) (fun _ _ _ h=>h) (Or.inl ⟨by rfl,?_⟩) ?_ ?_
             rotate_left
             ·intro w';go_simp;with_reducible rfl
             rotate_left
             ·simp only [Act.put,sa_,sb_,sc_,i64_w];rfl
             refine one_ (i:=13) (N:=some 99) #[Y,Y,Y,Y,Y,Y,Y,Y,Y,Y,Y,Y,Y,Y,Z,Z,Z] rfl rfl (one_of HT_.out (by kernel_rfl)) (by decide) (fun K hK=>?_)
             refine goes_ Try.func27 (by kernel_rfl) rfl #[.slice Ao23 aA.length co23,.slice Ao77 bG.length co77] (by rfl) rfl rfl (by (try simp only [List.map_toArray,List.map_cons,List.map_nil]);first|done|rfl|(simp only [List.length_drop,List.length_take];rfl)) ?_
             with_reducible refine (laws_lwXor.calls k2 _ _ aA _ _ bG aZ _ ?side1 ?side2 ?side3 ?side4 A63.out).mono ?_
             (case side1=>repeat (first|exact (iz7 HO_691001.out).2.2|(with_reducible refine Kd.C_alloc ?_ _)|(with_reducible refine Kd.C_drewN ?_ _)|(with_reducible refine Kd.C_drew ?_)))
             (case side2=>exact (iz7 HO_691001.out).2.1)
             (case side3=>repeat (first|exact (iz7 HO723.out).2.2|(with_reducible refine Kd.C_alloc ?_ _)|(with_reducible refine Kd.C_drewN ?_ _)|(with_reducible refine Kd.C_drew ?_)))
             (case side4=>exact (iz7 HO723.out).2.1)
             rintro e w78 ⟨v725,rfl,ho0,hb⟩
             refine ⟨_,rfl,?_⟩
             have n0_:=zz7 (jz7 (by (with_reducible repeat (first|apply az7|apply bz7|apply cz7));exact HO_3.out) (fz7 ho0) hb)
             have n1_:=zz7 (jz7 (by (with_reducible repeat (first|apply az7|apply bz7|apply cz7));exact HO_4.out) (fz7 ho0) hb)
             have n2_:=zz7 (jz7 (by (with_reducible repeat (first|apply az7|apply bz7|apply cz7));exact HO_6.out) (fz7 ho0) hb)
             have n3_:=zz7 (jz7 (by (with_reducible repeat (first|apply az7|apply bz7|apply cz7));exact HO_7.out) (fz7 ho0) hb)
             have n4_:=zz7 (jz7 (by (with_reducible repeat (first|apply az7|apply bz7|apply cz7));exact HO_9.out) (fz7 ho0) hb)
             have n5_:=zz7 (jz7 (by (with_reducible repeat (first|apply az7|apply bz7|apply cz7));exact HO_680001.out) (fz7 ho0) hb)
             have n6_:=zz7 (jz7 (by (with_reducible repeat (first|apply az7|apply bz7|apply cz7));exact HO_691001.out) (fz7 ho0) hb)
             have n7_:=zz7 (jz7 (by (with_reducible repeat (first|apply az7|apply bz7|apply cz7));exact HO714.out) (fz7 ho0) hb)
             have n8_:=zz7 (jz7 (by (with_reducible repeat (first|apply az7|apply bz7|apply cz7));exact HO718.out) (fz7 ho0) hb)
             have n9_:=zz7 (jz7 (by (with_reducible repeat (first|apply az7|apply bz7|apply cz7));exact HO723.out) (fz7 ho0) hb)
             have n10_:=zz7 (Kd.R_lower (kz7 (kz7 (kz7 (kz7 (kz7 (kz7 (kz7 (kz7 (kz7 (kz7 ho0 (Kd.R_lt (by (with_reducible repeat (first|apply az7|apply bz7|apply cz7));exact HO_3.out))) (Kd.R_lt (by (with_reducible repeat (first|apply az7|apply bz7|apply cz7));exact HO_4.out))) (Kd.R_lt (by (with_reducible repeat (first|apply az7|apply bz7|apply cz7));exact HO_6.out))) (Kd.R_lt (by (with_reducible repeat (first|apply az7|apply bz7|apply cz7));exact HO_7.out))) (Kd.R_lt (by (with_reducible repeat (first|apply az7|apply bz7|apply cz7));exact HO_9.out))) (Kd.R_lt (by (with_reducible repeat (first|apply az7|apply bz7|apply cz7));exact HO_680001.out))) (Kd.R_lt (by (with_reducible repeat (first|apply az7|apply bz7|apply cz7));exact HO_691001.out))) (Kd.R_lt (by (with_reducible repeat (first|apply az7|apply bz7|apply cz7));exact HO714.out))) (Kd.R_lt (by (with_reducible repeat (first|apply az7|apply bz7|apply cz7));exact HO718.out))) (Kd.R_lt (by (with_reducible repeat (first|apply az7|apply bz7|apply cz7));exact HO723.out))) (below_size (by repeat(first|(with_reducible first|exact HB.out|apply by7|apply ay7|apply cy7|refine dy7 ?_ GE679.out|refine dy7 ?_ GE690.out|refine dy7 ?_ GE719.out)|exact HB.out))))
             have n11_:=zz7 (hy7 (g:=gb679) (o:=.cells #[.int .i64 aI,.slice Ao15 aC.length co15] 26 (0,0)) (by (with_reducible repeat (first|refine ey7 ?_ _|refine gy7 ?_|refine fy7 ?_ _));exact BK679.out) hb)
             have n12_:=zz7 (hy7 (g:=gb690) (o:=.cells #[.int .i64 aD,.slice Ao23 aA.length co23] 26 (0,0)) (by (with_reducible repeat (first|refine ey7 ?_ _|refine gy7 ?_|refine fy7 ?_ _));exact BK690.out) hb)
             have n13_:=zz7 (hy7 (g:=gb719) (o:=.cells #[.int .i64 aT,.slice Ao73 aK.length co73] 26 (0,0)) (by (with_reducible repeat (first|refine ey7 ?_ _|refine gy7 ?_|refine fy7 ?_ _));exact BK719.out) hb)
             have n14_:=zz7 (below_step (by repeat(first|(with_reducible first|exact HB.out|apply by7|apply ay7|apply cy7|refine dy7 ?_ GE679.out|refine dy7 ?_ GE690.out|refine dy7 ?_ GE719.out)|exact HB.out)) hb)
             clear HO_3
             clear HO_4
             clear HO_6
             clear HO_7
             clear HO_9
             clear HO_680001
             clear HO_691001
             clear HO714
             clear HO718
             clear HO723
             clear BK679
             clear BK690
             clear BK719
             clear HB
             have HO_3:=n0_
             have HO_4:=n1_
             have HO_6:=n2_
             have HO_7:=n3_
             have HO_9:=n4_
             have HO_680001:=n5_
             have HO_691001:=n6_
             have HO714:=n7_
             have HO718:=n8_
             have HO723:=n9_
             have HO726:=n10_
             have BK679:=n11_
             have BK690:=n12_
             have BK719:=n13_
             have HB:=n14_
             clear n0_ n1_ n2_ n3_ n4_ n5_ n6_ n7_ n8_ n9_ n10_ n11_ n12_ n13_ n14_
             (try clear hb);(try clear hb2);(try clear hk)
             (try clear hi)
             (try clear ho0)
             obtain⟨Ao79,co79,eo79⟩:=Kd.R_slice HO726.out
             (first|subst eo79|(injection eo79 with f1_ f2_ f3_;have f4_:=f1_.symm;have f5_:=f3_.symm;clear f1_ f2_ f3_;subst f4_;subst f5_))
             refine hK.out _ _ ⟨(blk_cell BK690.out 0).trans rfl,(blk_cell BK690.out 1).trans rfl,(blk_cell BK719.out 0).trans rfl,(blk_cell BK719.out 1).trans rfl⟩ (fun hHeld=>?_)
             clear hK K
             refine norm_ (a':=?_) ?_ ?_
             rotate_left
             ·show Act.put _ (some 99) _ = _
              simp only [Act.put,sa_,sb_,sc_,i64_w]
              rfl
             refine one_ (i:=14) (N:=some 100) #[Y,Y,Y,Y,Y,Y,Y,Y,Y,Y,Y,Y,Y,Y,Y,Z,Z] rfl rfl (one_of HT_.out (by kernel_rfl)) (by decide) (fun K hK=>?_)
             refine goes_ Try.func17 (by kernel_rfl) rfl #[.slice Ao73 aK.length co73,.slice Ao79 aZ.length co79] (by rfl) rfl rfl (by (try simp only [List.map_toArray,List.map_cons,List.map_nil]);first|done|rfl|(simp only [List.length_drop,List.length_take];rfl)) ?_
             with_reducible refine (laws_lwSame.calls _ _ aK _ _ aZ true _ ?side1 ?side2 ?side3 ?side4 A64.out).mono ?_
             (case side1=>repeat (first|exact (iz7 HO718.out).2.2|(with_reducible refine Kd.C_alloc ?_ _)|(with_reducible refine Kd.C_drewN ?_ _)|(with_reducible refine Kd.C_drew ?_)))
             (case side2=>exact (iz7 HO718.out).2.1)
             (case side3=>repeat (first|exact (iz7 HO726.out).2.2|(with_reducible refine Kd.C_alloc ?_ _)|(with_reducible refine Kd.C_drewN ?_ _)|(with_reducible refine Kd.C_drew ?_)))
             (case side4=>exact (iz7 HO726.out).2.1)
             rintro e w' ⟨rfl,⟨nd,rfl⟩⟩
             refine ⟨_,rfl,?_⟩
             refine hK.out _ _ ⟨(blk_cell BK690.out 0).trans rfl,(blk_cell BK690.out 1).trans rfl,(blk_cell BK719.out 0).trans rfl,(blk_cell BK719.out 1).trans rfl⟩ (fun hHeld=>?_)
             clear hK K
             refine norm_ (a':=?_) ?_ ?_
             rotate_left
             ·show Act.put _ (some 100) _ = _
              simp only [Act.put,sa_,sb_,sc_,i64_w]
              rfl
             refine pure_ (i:=15) (N:=some 101) (v:=?_) (a':=?_) #[Y,Y,Y,Y,Y,Y,Y,Y,Y,Y,Y,Y,Y,Y,Y,Y,Z] rfl rfl (any_of HT_.out (by kernel_rfl)) (fun _ _ _ h=>h) (Or.inl ⟨by rfl,?_⟩) ?_ ?_
             rotate_left
             ·intro w';go_simp;with_reducible rfl
             rotate_left
             ·simp only [Act.put,sa_,sb_,sc_,i64_w];rfl
             refine pure_ (i:=16) (N:=some 102) (v:=?_) (a':=?_) #[Y,Y,Y,Y,Y,Y,Y,Y,Y,Y,Y,Y,Y,Y,Y,Y,Y] rfl rfl (any_of HT_.out (by kernel_rfl)) (fun _ _ _ h=>h) (Or.inl ⟨by rfl,?_⟩) ?_ ?_
             rotate_left
             ·intro w';go_simp;with_reducible rfl
             rotate_left
             ·simp only [Act.put,sa_,sb_,sc_,i64_w];rfl
             refine done_ (done_of HT_.out (by kernel_rfl)) ?_
             try go_wp2
             (try simp only [← hl9_2])
             go_meet
             case rel=>exact⟨_,(aE),(aG),(aC),(aA),(.slice Ao15 aC.length co15),(.slice Ao23 aA.length co23),H',⟨by have:=HJ7.out;have:=HK2.out;first|omega|exact Nat.le_refl _⟩,⟨by (try simp only [hl9_2]);(with_reducible repeat (first|apply az7|apply bz7|apply cz7));exact gz7 HO_3.out (fun _ hk=>⟨hk.1.1.1,⟨hk.1.1.2.2.2.2.1,hk.1.1.2.2.2.2.2.1⟩⟩)⟩,⟨by (try simp only [hl9_2]);(with_reducible repeat (first|apply az7|apply bz7|apply cz7));exact gz7 HO_4.out (fun _ hk=>⟨hk.1.1.1,⟨hk.1.1.2.2.2.2.1,hk.1.1.2.2.2.2.2.1⟩⟩)⟩,⟨by (try simp only [hl9_2]);(with_reducible repeat (first|apply az7|apply bz7|apply cz7));exact gz7 HO_680001.out (fun _ hk=>⟨hk.1.1.1,⟨hk.1.1.2.1,hk.1.1.2.2.2.2.2.1⟩⟩)⟩,⟨by (try simp only [hl9_2]);(with_reducible repeat (first|apply az7|apply bz7|apply cz7));exact gz7 HO_691001.out (fun _ hk=>⟨hk.1.1.1,⟨hk.1.1.2.1,hk.1.1.2.2.2.2.2.1⟩⟩)⟩,⟨by (try simp only [hl9_2]);(with_reducible repeat (first|refine ey7 ?_ _|refine gy7 ?_|refine fy7 ?_ _));exact BK679.out⟩,⟨by (try simp only [hl9_2]);(with_reducible repeat (first|refine ey7 ?_ _|refine gy7 ?_|refine fy7 ?_ _));exact BK690.out⟩,⟨by repeat (first|(with_reducible first|exact HB.out|apply by7|apply ay7|apply cy7|refine dy7 ?_ GE679.out|refine dy7 ?_ GE690.out|refine dy7 ?_ GE719.out)|exact HB.out)⟩⟩
            ·replace c65:=Bool.eq_false_iff.mpr c65
             subst c65
             have H1 : (some false) = some r:=by rw [if_neg (show ¬ (false = true) by decide)] at H;exact H
             clear H
             have H:=H1
             clear H1
             exact absurd (Option.some.inj H) (by rw [HRT.out];decide)
           ·rw [if_neg c61] at H
            have c61b0 : ((aA.length : Int) == 16) = false:=beq_eq_false_iff_ne.mpr c61
            have c61b1 : ((aA.length : Int) != 16) = true:=bne_iff_ne.mpr c61
            exact absurd (Option.some.inj H) (by rw [HRT.out];decide)
       ·rw [if_neg c48] at H
        exact absurd H (by simp)
      ·rw [if_neg c47] at H
       have c47b0 : (aD == 0) = false:=beq_eq_false_iff_ne.mpr c47
       have c47b1 : (aD != 0) = true:=bne_iff_ne.mpr c47
       (first|rw [c47b0]|(simp only [i64_w,i32_w];rw [c47b0])|skip)
       have H':=zz7 H
       clear H
       go_wp2
       go_meet
       case rel=>exact⟨_,(aE),(aG),(aC),(aA),(.slice Ao15 aC.length co15),(.slice Ao23 aA.length co23),H',⟨by have:=HJ7.out;first|omega|exact Nat.le_refl _⟩,⟨by (with_reducible repeat (first|apply az7|apply bz7|apply cz7));exact gz7 HO_3.out (fun _ hk=>⟨hk.1,⟨hk.2.2.2.1,hk.2.2.2.2⟩⟩)⟩,⟨by (with_reducible repeat (first|apply az7|apply bz7|apply cz7));exact gz7 HO_4.out (fun _ hk=>⟨hk.1,⟨hk.2.2.2.1,hk.2.2.2.2⟩⟩)⟩,⟨by (with_reducible repeat (first|apply az7|apply bz7|apply cz7));exact gz7 HO_680001.out (fun _ hk=>⟨hk.1,⟨hk.2.1,hk.2.2.2.2⟩⟩)⟩,⟨by (with_reducible repeat (first|apply az7|apply bz7|apply cz7));exact gz7 HO_691001.out (fun _ hk=>⟨hk.1,⟨hk.2.1,hk.2.2.2.2⟩⟩)⟩,⟨by (with_reducible repeat (first|refine ey7 ?_ _|refine gy7 ?_|refine fy7 ?_ _));exact BK679.out⟩,⟨by (with_reducible repeat (first|refine ey7 ?_ _|refine gy7 ?_|refine fy7 ?_ _));exact BK690.out⟩,⟨by repeat (first|(with_reducible first|exact HB.out|apply by7|apply ay7|apply cy7|refine dy7 ?_ GE679.out|refine dy7 ?_ GE690.out)|exact HB.out)⟩⟩
     case rest =>
      clear HC44
      try clear c1
      try clear c2
      try clear p2
      try clear c4
      try clear c6
      try clear c8
      try clear c9
      try clear c17
      try clear c27
      try clear c46
      try clear c47
      try clear c47b0
      try clear c47b1
      try clear c48
      try clear c61
      try clear c61b0
      try clear c61b1
      try clear c65
      try clear c84
      try clear c85
      try clear c98
      try clear c99
      try clear hcz100_0
      try clear hcz100_1
      try clear hcz86_0
      try clear hcz86_1
      try clear hfz100_0
      try clear hfz100_1
      try clear hfz86_0
      try clear hfz86_1
      obtain⟨kq,x3_43,x4_43,x680001_43,x691001_43,u680001,u691001,HA,HJ43,HO_3,HO_4,HO_680001,HO_691001,BK679,BK690,HB⟩:=hcut
      have hl3_43:=(iz7 HO_3.out).1
      rw [hl3_43] at HO_3
      (try simp only [hl3_43])
      (try simp only [hl3_43] at BK679)
      (try simp only [hl3_43] at BK690)
      (try simp only [hl3_43] at HO_4)
      (try simp only [hl3_43] at HO_680001)
      (try simp only [hl3_43] at HO_691001)
      have hl4_43:=(iz7 HO_4.out).1
      rw [hl4_43] at HO_4
      (try simp only [hl4_43])
      (try simp only [hl4_43] at BK679)
      (try simp only [hl4_43] at BK690)
      (try simp only [hl4_43] at HO_3)
      (try simp only [hl4_43] at HO_680001)
      (try simp only [hl4_43] at HO_691001)
      cases kq with
     |zero=>exact absurd HA.out (by simp [laws_FnGroups.j2])
     |succ kj43 =>
       have H:=HA.out
       clear HA
       simp only [laws_FnGroups.j2] at H
       by_cases c104 : aI = 0
       ·rw [if_pos c104] at H
        have c104b0 : (aI == 0) = true:=beq_iff_eq.mpr c104
        have c104b1 : (aI != 0) = false:=bne_eq_false_iff_eq.mpr c104
        clear c104
        by_cases c105 : 16 ≤ 281474976710656
        ·rw [if_pos c105] at H
         have c105b0:=eq_true c105
         have c105b1 : decide (16 ≤ 281474976710656) = true:=decide_eq_true c105
         clear c105
         obtain⟨y728,hy728⟩ : ∃ y_ : List Int,y_ = (List.replicate 16 0):=⟨_,rfl⟩
         replace H : (if 0 < (y728.length : Int) then ((some (([] : List Int) : List Int)).bind fun y732=>(if y732.length + x4_43.length < 140737488355328 then ((some (y732 ++ x4_43 : List Int)).bind fun y735=>((laws_lwAt.f l0 2 16).bind fun aM=>(if 0 ≤ aM then (if aM < (y735.length : Int) then ((some (y735.set (aM : Int).toNat (Go.bits .xor .u8 (rd y735 aM) 90) : List Int)).bind fun y740=>((spec_GroupTimes.f kj43 x3_43 x4_43).bind fun bt741=>((laws_lwSame.f x680001_43 bt741.2).bind fun aX=>(if aX = true then ((impl_GroupTimes.f kj43 x4_43 x3_43).bind fun bt746=>((laws_lwSame.f bt746.2 x680001_43).bind fun aW=>(if aW = true then ((impl_GroupTimes.f kj43 x3_43 (y728.set (0 : Int).toNat 128)).bind fun bt751=>((laws_lwSame.f bt751.2 x3_43).bind fun aU=>(if aU = true then ((laws_lwXor.f kj43 x4_43 y740).bind fun aQ=>((impl_GroupTimes.f kj43 x3_43 aQ).bind fun bt759=>((impl_GroupTimes.f kj43 x3_43 y740).bind fun bt763=>((laws_lwXor.f kj43 x680001_43 bt763.2).bind fun aN=>((laws_lwSame.f bt759.2 aN).bind fun aP=>(some aP)))))) else (some false)))) else (some false)))) else (some false))))) else (none)) else (none)))) else (none))) else (none)) = some r:=by first|(rw [hy728];with_reducible exact H)|(have H2_:=(Option.bind_some _ _).symm.trans H;rw [hy728];with_reducible exact H2_)|(have H2_:=(Option.bind_some _ _).symm.trans H;with_reducible exact H2_)|with_reducible exact H|(rw [hy728];exact H)|exact H
         have Ny728:=zz7 hy728
         clear hy728
         by_cases c106 : 0 < (y728.length : Int)
         ·rw [if_pos c106] at H
          have c106b0 : decide (0 < (y728.length : Int)) = true:=decide_eq_true c106
          have c106b1 : decide (0 < y728.length) = true:=decide_eq_true (by omega)
          clear c106
          obtain⟨y731,hy731⟩ : ∃ y_ : List Int,y_ = (y728.set (0 : Int).toNat 128):=⟨_,rfl⟩
          replace H : ((some (([] : List Int) : List Int)).bind fun y732=>(if y732.length + x4_43.length < 140737488355328 then ((some (y732 ++ x4_43 : List Int)).bind fun y735=>((laws_lwAt.f l0 2 16).bind fun aM=>(if 0 ≤ aM then (if aM < (y735.length : Int) then ((some (y735.set (aM : Int).toNat (Go.bits .xor .u8 (rd y735 aM) 90) : List Int)).bind fun y740=>((spec_GroupTimes.f kj43 x3_43 x4_43).bind fun bt741=>((laws_lwSame.f x680001_43 bt741.2).bind fun aX=>(if aX = true then ((impl_GroupTimes.f kj43 x4_43 x3_43).bind fun bt746=>((laws_lwSame.f bt746.2 x680001_43).bind fun aW=>(if aW = true then ((impl_GroupTimes.f kj43 x3_43 y731).bind fun bt751=>((laws_lwSame.f bt751.2 x3_43).bind fun aU=>(if aU = true then ((laws_lwXor.f kj43 x4_43 y740).bind fun aQ=>((impl_GroupTimes.f kj43 x3_43 aQ).bind fun bt759=>((impl_GroupTimes.f kj43 x3_43 y740).bind fun bt763=>((laws_lwXor.f kj43 x680001_43 bt763.2).bind fun aN=>((laws_lwSame.f bt759.2 aN).bind fun aP=>(some aP)))))) else (some false)))) else (some false)))) else (some false))))) else (none)) else (none)))) else (none))) = some r:=by first|(rw [hy731];with_reducible exact H)|(have H2_:=(Option.bind_some _ _).symm.trans H;rw [hy731];with_reducible exact H2_)|(have H2_:=(Option.bind_some _ _).symm.trans H;with_reducible exact H2_)|with_reducible exact H|(rw [hy731];exact H)|exact H
          have Ny731:=zz7 hy731
          clear hy731
          obtain⟨y732,hy732⟩ : ∃ y_ : List Int,y_ = (([] : List Int)):=⟨_,rfl⟩
          replace H : (if y732.length + x4_43.length < 140737488355328 then ((some (y732 ++ x4_43 : List Int)).bind fun y735=>((laws_lwAt.f l0 2 16).bind fun aM=>(if 0 ≤ aM then (if aM < (y735.length : Int) then ((some (y735.set (aM : Int).toNat (Go.bits .xor .u8 (rd y735 aM) 90) : List Int)).bind fun y740=>((spec_GroupTimes.f kj43 x3_43 x4_43).bind fun bt741=>((laws_lwSame.f x680001_43 bt741.2).bind fun aX=>(if aX = true then ((impl_GroupTimes.f kj43 x4_43 x3_43).bind fun bt746=>((laws_lwSame.f bt746.2 x680001_43).bind fun aW=>(if aW = true then ((impl_GroupTimes.f kj43 x3_43 y731).bind fun bt751=>((laws_lwSame.f bt751.2 x3_43).bind fun aU=>(if aU = true then ((laws_lwXor.f kj43 x4_43 y740).bind fun aQ=>((impl_GroupTimes.f kj43 x3_43 aQ).bind fun bt759=>((impl_GroupTimes.f kj43 x3_43 y740).bind fun bt763=>((laws_lwXor.f kj43 x680001_43 bt763.2).bind fun aN=>((laws_lwSame.f bt759.2 aN).bind fun aP=>(some aP)))))) else (some false)))) else (some false)))) else (some false))))) else (none)) else (none)))) else (none)) = some r:=by first|(rw [hy732];with_reducible exact H)|(have H2_:=(Option.bind_some _ _).symm.trans H;rw [hy732];with_reducible exact H2_)|(have H2_:=(Option.bind_some _ _).symm.trans H;with_reducible exact H2_)|with_reducible exact H|(rw [hy732];exact H)|exact H
          have Ny732:=zz7 hy732
          clear hy732
          by_cases c108 : y732.length + x4_43.length < 140737488355328
          ·rw [if_pos c108] at H
           have LMc108:=zz7 c108
           clear c108
           obtain⟨y735,hy735⟩ : ∃ y_ : List Int,y_ = (y732 ++ x4_43):=⟨_,rfl⟩
           replace H : ((laws_lwAt.f l0 2 16).bind fun aM=>(if 0 ≤ aM then (if aM < (y735.length : Int) then ((some (y735.set (aM : Int).toNat (Go.bits .xor .u8 (rd y735 aM) 90) : List Int)).bind fun y740=>((spec_GroupTimes.f kj43 x3_43 x4_43).bind fun bt741=>((laws_lwSame.f x680001_43 bt741.2).bind fun aX=>(if aX = true then ((impl_GroupTimes.f kj43 x4_43 x3_43).bind fun bt746=>((laws_lwSame.f bt746.2 x680001_43).bind fun aW=>(if aW = true then ((impl_GroupTimes.f kj43 x3_43 y731).bind fun bt751=>((laws_lwSame.f bt751.2 x3_43).bind fun aU=>(if aU = true then ((laws_lwXor.f kj43 x4_43 y740).bind fun aQ=>((impl_GroupTimes.f kj43 x3_43 aQ).bind fun bt759=>((impl_GroupTimes.f kj43 x3_43 y740).bind fun bt763=>((laws_lwXor.f kj43 x680001_43 bt763.2).bind fun aN=>((laws_lwSame.f bt759.2 aN).bind fun aP=>(some aP)))))) else (some false)))) else (some false)))) else (some false))))) else (none)) else (none))) = some r:=by first|(rw [hy735];with_reducible exact H)|(have H2_:=(Option.bind_some _ _).symm.trans H;rw [hy735];with_reducible exact H2_)|(have H2_:=(Option.bind_some _ _).symm.trans H;with_reducible exact H2_)|with_reducible exact H|(rw [hy735];exact H)|exact H
           have Ny735:=zz7 hy735
           clear hy735
           replace H:=Option.bind_eq_some_iff.mp H
           obtain⟨aM,A1090,H⟩:=H
           replace H : (if 0 ≤ aM then (if aM < (y735.length : Int) then ((some (y735.set (aM : Int).toNat (Go.bits .xor .u8 (rd y735 aM) 90) : List Int)).bind fun y740=>((spec_GroupTimes.f kj43 x3_43 x4_43).bind fun bt741=>((laws_lwSame.f x680001_43 bt741.2).bind fun aX=>(if aX = true then ((impl_GroupTimes.f kj43 x4_43 x3_43).bind fun bt746=>((laws_lwSame.f bt746.2 x680001_43).bind fun aW=>(if aW = true then ((impl_GroupTimes.f kj43 x3_43 y731).bind fun bt751=>((laws_lwSame.f bt751.2 x3_43).bind fun aU=>(if aU = true then ((laws_lwXor.f kj43 x4_43 y740).bind fun aQ=>((impl_GroupTimes.f kj43 x3_43 aQ).bind fun bt759=>((impl_GroupTimes.f kj43 x3_43 y740).bind fun bt763=>((laws_lwXor.f kj43 x680001_43 bt763.2).bind fun aN=>((laws_lwSame.f bt759.2 aN).bind fun aP=>(some aP)))))) else (some false)))) else (some false)))) else (some false))))) else (none)) else (none)) = some r:=H
           have A109:=zz7 A1090
           clear A1090
           by_cases c110 : 0 ≤ aM
           ·rw [if_pos c110] at H
            have c110b0 : decide (0 ≤ aM) = true:=decide_eq_true c110
            clear c110
            by_cases c111 : aM < (y735.length : Int)
            ·rw [if_pos c111] at H
             have c111b0 : decide (aM < (y735.length : Int)) = true:=decide_eq_true c111
             clear c111
             obtain⟨y740,hy740⟩ : ∃ y_ : List Int,y_ = (y735.set (aM : Int).toNat (Go.bits .xor .u8 (rd y735 aM) 90)):=⟨_,rfl⟩
             replace H : ((spec_GroupTimes.f kj43 x3_43 x4_43).bind fun bt741=>((laws_lwSame.f x680001_43 bt741.2).bind fun aX=>(if aX = true then ((impl_GroupTimes.f kj43 x4_43 x3_43).bind fun bt746=>((laws_lwSame.f bt746.2 x680001_43).bind fun aW=>(if aW = true then ((impl_GroupTimes.f kj43 x3_43 y731).bind fun bt751=>((laws_lwSame.f bt751.2 x3_43).bind fun aU=>(if aU = true then ((laws_lwXor.f kj43 x4_43 y740).bind fun aQ=>((impl_GroupTimes.f kj43 x3_43 aQ).bind fun bt759=>((impl_GroupTimes.f kj43 x3_43 y740).bind fun bt763=>((laws_lwXor.f kj43 x680001_43 bt763.2).bind fun aN=>((laws_lwSame.f bt759.2 aN).bind fun aP=>(some aP)))))) else (some false)))) else (some false)))) else (some false)))) = some r:=by first|(rw [hy740];with_reducible exact H)|(have H2_:=(Option.bind_some _ _).symm.trans H;rw [hy740];with_reducible exact H2_)|(have H2_:=(Option.bind_some _ _).symm.trans H;with_reducible exact H2_)|with_reducible exact H|(rw [hy740];exact H)|exact H
             have Ny740:=zz7 hy740
             clear hy740
             replace H:=Option.bind_eq_some_iff.mp H
             obtain⟨⟨bP,bH⟩,A1130,H⟩:=H
             replace H : ((laws_lwSame.f x680001_43 bH).bind fun aX=>(if aX = true then ((impl_GroupTimes.f kj43 x4_43 x3_43).bind fun bt746=>((laws_lwSame.f bt746.2 x680001_43).bind fun aW=>(if aW = true then ((impl_GroupTimes.f kj43 x3_43 y731).bind fun bt751=>((laws_lwSame.f bt751.2 x3_43).bind fun aU=>(if aU = true then ((laws_lwXor.f kj43 x4_43 y740).bind fun aQ=>((impl_GroupTimes.f kj43 x3_43 aQ).bind fun bt759=>((impl_GroupTimes.f kj43 x3_43 y740).bind fun bt763=>((laws_lwXor.f kj43 x680001_43 bt763.2).bind fun aN=>((laws_lwSame.f bt759.2 aN).bind fun aP=>(some aP)))))) else (some false)))) else (some false)))) else (some false))) = some r:=H
             have A113:=zz7 A1130
             clear A1130
             replace H:=Option.bind_eq_some_iff.mp H
             obtain⟨aX,A1140,H⟩:=H
             replace H : (if aX = true then ((impl_GroupTimes.f kj43 x4_43 x3_43).bind fun bt746=>((laws_lwSame.f bt746.2 x680001_43).bind fun aW=>(if aW = true then ((impl_GroupTimes.f kj43 x3_43 y731).bind fun bt751=>((laws_lwSame.f bt751.2 x3_43).bind fun aU=>(if aU = true then ((laws_lwXor.f kj43 x4_43 y740).bind fun aQ=>((impl_GroupTimes.f kj43 x3_43 aQ).bind fun bt759=>((impl_GroupTimes.f kj43 x3_43 y740).bind fun bt763=>((laws_lwXor.f kj43 x680001_43 bt763.2).bind fun aN=>((laws_lwSame.f bt759.2 aN).bind fun aP=>(some aP)))))) else (some false)))) else (some false)))) else (some false)) = some r:=H
             have A114:=zz7 A1140
             clear A1140
             by_cases c115 : aX = true
             ·subst c115
              have H1 : ((impl_GroupTimes.f kj43 x4_43 x3_43).bind fun bt746=>((laws_lwSame.f bt746.2 x680001_43).bind fun aW=>(if aW = true then ((impl_GroupTimes.f kj43 x3_43 y731).bind fun bt751=>((laws_lwSame.f bt751.2 x3_43).bind fun aU=>(if aU = true then ((laws_lwXor.f kj43 x4_43 y740).bind fun aQ=>((impl_GroupTimes.f kj43 x3_43 aQ).bind fun bt759=>((impl_GroupTimes.f kj43 x3_43 y740).bind fun bt763=>((laws_lwXor.f kj43 x680001_43 bt763.2).bind fun aN=>((laws_lwSame.f bt759.2 aN).bind fun aP=>(some aP)))))) else (some false)))) else (some false)))) = some r:=by rw [if_pos rfl] at H;exact H
              clear H
              have H:=H1
              clear H1
              replace H:=Option.bind_eq_some_iff.mp H
              obtain⟨⟨bQ,bI⟩,A1160,H⟩:=H
              replace H : ((laws_lwSame.f bI x680001_43).bind fun aW=>(if aW = true then ((impl_GroupTimes.f kj43 x3_43 y731).bind fun bt751=>((laws_lwSame.f bt751.2 x3_43).bind fun aU=>(if aU = true then ((laws_lwXor.f kj43 x4_43 y740).bind fun aQ=>((impl_GroupTimes.f kj43 x3_43 aQ).bind fun bt759=>((impl_GroupTimes.f kj43 x3_43 y740).bind fun bt763=>((laws_lwXor.f kj43 x680001_43 bt763.2).bind fun aN=>((laws_lwSame.f bt759.2 aN).bind fun aP=>(some aP)))))) else (some false)))) else (some false))) = some r:=H
              have A116:=zz7 A1160
              clear A1160
              replace H:=Option.bind_eq_some_iff.mp H
              obtain⟨aW,A1170,H⟩:=H
              replace H : (if aW = true then ((impl_GroupTimes.f kj43 x3_43 y731).bind fun bt751=>((laws_lwSame.f bt751.2 x3_43).bind fun aU=>(if aU = true then ((laws_lwXor.f kj43 x4_43 y740).bind fun aQ=>((impl_GroupTimes.f kj43 x3_43 aQ).bind fun bt759=>((impl_GroupTimes.f kj43 x3_43 y740).bind fun bt763=>((laws_lwXor.f kj43 x680001_43 bt763.2).bind fun aN=>((laws_lwSame.f bt759.2 aN).bind fun aP=>(some aP)))))) else (some false)))) else (some false)) = some r:=H
              have A117:=zz7 A1170
              clear A1170
              by_cases c118 : aW = true
              ·subst c118
               have H1 : ((impl_GroupTimes.f kj43 x3_43 y731).bind fun bt751=>((laws_lwSame.f bt751.2 x3_43).bind fun aU=>(if aU = true then ((laws_lwXor.f kj43 x4_43 y740).bind fun aQ=>((impl_GroupTimes.f kj43 x3_43 aQ).bind fun bt759=>((impl_GroupTimes.f kj43 x3_43 y740).bind fun bt763=>((laws_lwXor.f kj43 x680001_43 bt763.2).bind fun aN=>((laws_lwSame.f bt759.2 aN).bind fun aP=>(some aP)))))) else (some false)))) = some r:=by rw [if_pos rfl] at H;exact H
               clear H
               have H:=H1
               clear H1
               replace H:=Option.bind_eq_some_iff.mp H
               obtain⟨⟨bR,bJ⟩,A1190,H⟩:=H
               replace H : ((laws_lwSame.f bJ x3_43).bind fun aU=>(if aU = true then ((laws_lwXor.f kj43 x4_43 y740).bind fun aQ=>((impl_GroupTimes.f kj43 x3_43 aQ).bind fun bt759=>((impl_GroupTimes.f kj43 x3_43 y740).bind fun bt763=>((laws_lwXor.f kj43 x680001_43 bt763.2).bind fun aN=>((laws_lwSame.f bt759.2 aN).bind fun aP=>(some aP)))))) else (some false))) = some r:=H
               have A119:=zz7 A1190
               clear A1190
               replace H:=Option.bind_eq_some_iff.mp H
               obtain⟨aU,A1200,H⟩:=H
               replace H : (if aU = true then ((laws_lwXor.f kj43 x4_43 y740).bind fun aQ=>((impl_GroupTimes.f kj43 x3_43 aQ).bind fun bt759=>((impl_GroupTimes.f kj43 x3_43 y740).bind fun bt763=>((laws_lwXor.f kj43 x680001_43 bt763.2).bind fun aN=>((laws_lwSame.f bt759.2 aN).bind fun aP=>(some aP)))))) else (some false)) = some r:=H
               have A120:=zz7 A1200
               clear A1200
               by_cases c121 : aU = true
               ·subst c121
                have H1 : ((laws_lwXor.f kj43 x4_43 y740).bind fun aQ=>((impl_GroupTimes.f kj43 x3_43 aQ).bind fun bt759=>((impl_GroupTimes.f kj43 x3_43 y740).bind fun bt763=>((laws_lwXor.f kj43 x680001_43 bt763.2).bind fun aN=>((laws_lwSame.f bt759.2 aN).bind fun aP=>(some aP)))))) = some r:=by rw [if_pos rfl] at H;exact H
                clear H
                have H:=H1
                clear H1
                replace H:=Option.bind_eq_some_iff.mp H
                obtain⟨aQ,A1220,H⟩:=H
                replace H : ((impl_GroupTimes.f kj43 x3_43 aQ).bind fun bt759=>((impl_GroupTimes.f kj43 x3_43 y740).bind fun bt763=>((laws_lwXor.f kj43 x680001_43 bt763.2).bind fun aN=>((laws_lwSame.f bt759.2 aN).bind fun aP=>(some aP))))) = some r:=H
                have A122:=zz7 A1220
                clear A1220
                replace H:=Option.bind_eq_some_iff.mp H
                obtain⟨⟨bS,bD⟩,A1230,H⟩:=H
                replace H : ((impl_GroupTimes.f kj43 x3_43 y740).bind fun bt763=>((laws_lwXor.f kj43 x680001_43 bt763.2).bind fun aN=>((laws_lwSame.f bD aN).bind fun aP=>(some aP)))) = some r:=H
                have A123:=zz7 A1230
                clear A1230
                replace H:=Option.bind_eq_some_iff.mp H
                obtain⟨⟨bT,bK⟩,A1240,H⟩:=H
                replace H : ((laws_lwXor.f kj43 x680001_43 bK).bind fun aN=>((laws_lwSame.f bD aN).bind fun aP=>(some aP))) = some r:=H
                have A124:=zz7 A1240
                clear A1240
                replace H:=Option.bind_eq_some_iff.mp H
                obtain⟨aN,A1250,H⟩:=H
                replace H : ((laws_lwSame.f bD aN).bind fun aP=>(some aP)) = some r:=H
                have A125:=zz7 A1250
                clear A1250
                replace H:=Option.bind_eq_some_iff.mp H
                obtain⟨aP,A1260,H⟩:=H
                replace H : (some aP) = some r:=H
                have A126:=zz7 A1260
                clear A1260
                obtain rfl:=Option.some.inj H
                have hnb127:=NB679_690.out
                have hnc127:=NB690_679.out
                have hcz128_0 : wc.cell? ⟨gb679,0,none⟩ = some (.int .i64 aI):=(blk_cell BK679.out 0).trans rfl
                have hcz128_1 : wc.cell? ⟨gb679,1,none⟩ = some (u680001):=(blk_cell BK679.out 1).trans rfl
                have hfz128_0:=blk_frozen BK679.out 0
                have hfz128_1:=blk_frozen BK679.out 1
                try go_wp2_with (first|((with_reducible refine gate_dst (N:=106) rfl ?_);refine Kd.R_make (Kd.int .u8) _ 5 rfl (N:=106) rfl 22 _ _ rfl 16 rfl rfl Try.underlying22 (.int .u8 0) 1 info5 rfl (by decide) (by omega) 0 (ok:=fun _=>True) (okp:=fun _=>True) rfl (fun _ hk=>hk) trivial (by omega) (by omega) (Below.refl _ _) (Nat.le_refl _) ?_;intro v729 w129 ho130 hb hg_ hnew_;clear hg_ hnew_;(first|rw [← Ny728.out] at ho130|(simp only [Int.reduceToNat] at ho130;rw [← Ny728.out] at ho130));have n0_:=zz7 (jz7 (by (with_reducible repeat (first|apply az7|apply bz7|apply cz7));exact HO_3.out) (fz7 ho130) hb);have n1_:=zz7 (jz7 (by (with_reducible repeat (first|apply az7|apply bz7|apply cz7));exact HO_4.out) (fz7 ho130) hb);have n2_:=zz7 (jz7 (by (with_reducible repeat (first|apply az7|apply bz7|apply cz7));exact HO_680001.out) (fz7 ho130) hb);have n3_:=zz7 (jz7 (by (with_reducible repeat (first|apply az7|apply bz7|apply cz7));exact HO_691001.out) (fz7 ho130) hb);have n4_:=zz7 (Kd.R_lower (kz7 (kz7 (kz7 (kz7 ho130 (Kd.R_lt (by (with_reducible repeat (first|apply az7|apply bz7|apply cz7));exact HO_3.out))) (Kd.R_lt (by (with_reducible repeat (first|apply az7|apply bz7|apply cz7));exact HO_4.out))) (Kd.R_lt (by (with_reducible repeat (first|apply az7|apply bz7|apply cz7));exact HO_680001.out))) (Kd.R_lt (by (with_reducible repeat (first|apply az7|apply bz7|apply cz7));exact HO_691001.out))) (below_size (by repeat(first|(with_reducible first|exact HB.out|apply by7|apply ay7|apply cy7|refine dy7 ?_ GE679.out|refine dy7 ?_ GE690.out)|exact HB.out))));have n5_:=zz7 (hy7 (g:=gb679) (o:=.cells #[.int .i64 aI,u680001] 26 (0,0)) (by (with_reducible repeat (first|refine ey7 ?_ _|refine gy7 ?_|refine fy7 ?_ _));exact BK679.out) hb);have n6_:=zz7 (hy7 (g:=gb690) (o:=.cells #[.int .i64 aD,u691001] 26 (0,0)) (by (with_reducible repeat (first|refine ey7 ?_ _|refine gy7 ?_|refine fy7 ?_ _));exact BK690.out) hb);have n7_:=zz7 (below_step (by repeat(first|(with_reducible first|exact HB.out|apply by7|apply ay7|apply cy7|refine dy7 ?_ GE679.out|refine dy7 ?_ GE690.out)|exact HB.out)) hb);clear HO_3;clear HO_4;clear HO_680001;clear HO_691001;clear BK679;clear BK690;clear HB;have HO_3:=n0_;have HO_4:=n1_;have HO_680001:=n2_;have HO_691001:=n3_;have HO730:=n4_;have BK679:=n5_;have BK690:=n6_;have HB:=n7_;clear n0_ n1_ n2_ n3_ n4_ n5_ n6_ n7_;clear hb ho130;have p107 : 0 ≤ (0 : Int):=(by omega);have q107 : (0 : Int) < ((y728.length : Int) : Int):=of_decide_eq_true (by first|(with_reducible assumption)|assumption);have qi107 : (0 < y728.length) = True:=eq_true (by omega);obtain⟨go107,co107,eo107,gb107,gl107,cl107,HG107⟩:=Kd.R_form HO730.out (by omega);(first|cases eo107|(injection eo107 with ea_ en_ ec_;(first|subst ea_|(injection ea_ with ea_;subst ea_));subst ec_;clear en_));have GB107:=zz7 gb107;have GG107:=zz7 HG107;clear gb107 gl107 HG107;obtain⟨hx107_0,hf107_0⟩:=Kd.R_celln 0 HO730.out (0 : Int) p107 q107;(try rw [show ((0 : Int)).toNat = 0 from rfl] at hx107_0);(try simp only [Nat.reduceMul,Nat.zero_mul,Nat.zero_add,Nat.reduceAdd] at hx107_0);(try rw [show ((0 : Int)).toNat = 0 from rfl] at hf107_0);(try simp only [Nat.reduceMul,Nat.zero_mul,Nat.zero_add,Nat.reduceAdd] at hf107_0);replace p107:=eq_true p107;replace q107:=eq_true q107;have n_:=zz7 (gz7 (ok':=(fun k_=>some k_ ≠ (.slice Ao10 x3_43.length co10 : Value).ownBlock ∧ some k_ ≠ (.slice Ao11 x4_43.length co11 : Value).ownBlock ∧ some k_ ≠ (u680001 : Value).ownBlock ∧ some k_ ≠ (u691001 : Value).ownBlock)) HO730.out (fun k_ hk=>⟨hk.1.1.1.2,⟨hk.1.1.2,⟨hk.1.2,hk.2⟩⟩⟩));clear HO730;have HO730:=n_;clear n_;obtain⟨hy131_,hz131_⟩:=Kd.R_celln 0 HO730.out (0 : Int) (by omega) (of_decide_eq_true (by first|(with_reducible assumption)|assumption));(try simp only [Int.reduceToNat,Int.toNat_zero,Int.toNat_ofNat,Nat.reduceMul,Nat.zero_mul,Nat.zero_add] at hy131_ hz131_);(try rw [show ((0 : Int)).toNat = 0 from rfl] at hy131_);(try rw [show ((0 : Int)).toNat = 0 from rfl] at hz131_);have HP131:=Kd.R_putg HO730.out (0 : Int) 128)|((with_reducible refine gate_store (t:=5) (p:=108) rfl ?_);refine store_event (t:=5) (p:=108) (v:=?vo_w132) (w1:=(w129.setCell ⟨go107,(0 : Int).toNat,none⟩ (.int .u8 128))) ?hg ?ho ?hn ?hr ?_;(case ho=>rfl);(case hg=>rfl);(case hn=>rfl);(case hr=>first|(go_simp;done)|(go_simp;rfl));intro w132 hw;have hg : w129.grownBy w132 (some go107):=(by rw [hw];exact HP131.2);have hp_ : Kd.R (Kd.int .u8) 5 w132 w.heap.size (fun k_=>some k_ ≠ (.slice Ao10 x3_43.length co10 : Value).ownBlock ∧ some k_ ≠ (.slice Ao11 x4_43.length co11 : Value).ownBlock ∧ some k_ ≠ (u680001 : Value).ownBlock ∧ some k_ ≠ (u691001 : Value).ownBlock) (.slice (some ⟨go107,0,none⟩) y728.length co107) y731:=(by rw [hw,Ny731.out];exact HP131.1);clear HP131;have n0_:=zz7 (Kd.R_after (v:=(.slice (some ⟨go107,0,none⟩) y728.length co107)) (v1:=(.slice (some ⟨go107,0,none⟩) y728.length co107)) (ok:=(fun k_=>some k_ ≠ (.slice Ao11 x4_43.length co11 : Value).ownBlock ∧ some k_ ≠ (u680001 : Value).ownBlock ∧ some k_ ≠ (u691001 : Value).ownBlock)) (by (with_reducible repeat (first|apply az7|apply bz7|apply cz7));exact HO_3.out) hg (.inl rfl));have n1_:=zz7 (Kd.R_after (v:=(.slice (some ⟨go107,0,none⟩) y728.length co107)) (v1:=(.slice (some ⟨go107,0,none⟩) y728.length co107)) (ok:=(fun k_=>some k_ ≠ (.slice Ao10 x3_43.length co10 : Value).ownBlock ∧ some k_ ≠ (u680001 : Value).ownBlock ∧ some k_ ≠ (u691001 : Value).ownBlock)) (by (with_reducible repeat (first|apply az7|apply bz7|apply cz7));exact HO_4.out) hg (.inl rfl));have n2_:=zz7 (Kd.R_after (v:=(.slice (some ⟨go107,0,none⟩) y728.length co107)) (v1:=(.slice (some ⟨go107,0,none⟩) y728.length co107)) (ok:=(fun k_=>some k_ ≠ (.slice Ao10 x3_43.length co10 : Value).ownBlock ∧ some k_ ≠ (.slice Ao11 x4_43.length co11 : Value).ownBlock ∧ some k_ ≠ (u691001 : Value).ownBlock)) (by (with_reducible repeat (first|apply az7|apply bz7|apply cz7));exact HO_680001.out) hg (.inl rfl));have n3_:=zz7 (Kd.R_after (v:=(.slice (some ⟨go107,0,none⟩) y728.length co107)) (v1:=(.slice (some ⟨go107,0,none⟩) y728.length co107)) (ok:=(fun k_=>some k_ ≠ (.slice Ao10 x3_43.length co10 : Value).ownBlock ∧ some k_ ≠ (.slice Ao11 x4_43.length co11 : Value).ownBlock ∧ some k_ ≠ (u680001 : Value).ownBlock)) (by (with_reducible repeat (first|apply az7|apply bz7|apply cz7));exact HO_691001.out) hg (.inl rfl));have n4_:=zz7 (blk_grown (g:=gb679) (o:=.cells #[.int .i64 aI,u680001] 26 (0,0)) (by (with_reducible repeat (first|refine ey7 ?_ _|refine gy7 ?_|refine fy7 ?_ _));exact BK679.out) hg (Kd.R_ne HO730.out BK679.out (by decide)));have n5_:=zz7 (blk_grown (g:=gb690) (o:=.cells #[.int .i64 aD,u691001] 26 (0,0)) (by (with_reducible repeat (first|refine ey7 ?_ _|refine gy7 ?_|refine fy7 ?_ _));exact BK690.out) hg (Kd.R_ne HO730.out BK690.out (by decide)));have n6_:=zz7 (hp_);have n7_:=zz7 ((by rw [hw];exact dy7 (HB.out) GB107.out : Below w.heap.size w w132));clear HO_3;clear HO_4;clear HO_680001;clear HO_691001;clear BK679;clear BK690;clear HO730;clear HB;have HO_3:=n0_;have HO_4:=n1_;have HO_680001:=n2_;have HO_691001:=n3_;have BK679:=n4_;have BK690:=n5_;have HO730:=n6_;have HB:=n7_;clear n0_ n1_ n2_ n3_ n4_ n5_ n6_ n7_;clear hg hw hp_)|((with_reducible refine gate_dst (N:=109) rfl ?_);refine Kd.R_lit (Kd.int .u8) _ 5 ?hg (N:=109) ?hd (xs:=([] : List Int)) (inner:=[]) (ok:=fun _=>True) (okp:=fun _=>True) ?hr ?hp (fun _ hk=>hk) trivial (Below.refl _ _) (Nat.le_refl _) (by simp) ?_;(case hd=>rfl);(case hg=>rfl);(case hr=>first|(go_simp;done)|(go_simp;rfl));(case hp=>exact (Reps.none _ _));intro v733 w133 ho134 hb hg_ hnew_;clear hg_ hnew_;(first|rw [← Ny732.out] at ho134|(simp only [Int.reduceToNat] at ho134;rw [← Ny732.out] at ho134));have n0_:=zz7 (jz7 (by (with_reducible repeat (first|apply az7|apply bz7|apply cz7));exact HO_3.out) (fz7 ho134) hb);have n1_:=zz7 (jz7 (by (with_reducible repeat (first|apply az7|apply bz7|apply cz7));exact HO_4.out) (fz7 ho134) hb);have n2_:=zz7 (jz7 (by (with_reducible repeat (first|apply az7|apply bz7|apply cz7));exact HO_680001.out) (fz7 ho134) hb);have n3_:=zz7 (jz7 (by (with_reducible repeat (first|apply az7|apply bz7|apply cz7));exact HO_691001.out) (fz7 ho134) hb);have n4_:=zz7 (jz7 (by (with_reducible repeat (first|apply az7|apply bz7|apply cz7));exact HO730.out) (fz7 ho134) hb);have n5_:=zz7 (Kd.R_lower (kz7 (kz7 (kz7 (kz7 (kz7 ho134 (Kd.R_lt (by (with_reducible repeat (first|apply az7|apply bz7|apply cz7));exact HO_3.out))) (Kd.R_lt (by (with_reducible repeat (first|apply az7|apply bz7|apply cz7));exact HO_4.out))) (Kd.R_lt (by (with_reducible repeat (first|apply az7|apply bz7|apply cz7));exact HO_680001.out))) (Kd.R_lt (by (with_reducible repeat (first|apply az7|apply bz7|apply cz7));exact HO_691001.out))) (Kd.R_lt (by (with_reducible repeat (first|apply az7|apply bz7|apply cz7));exact HO730.out))) (below_size (by repeat(first|(with_reducible first|exact HB.out|apply by7|apply ay7|apply cy7|refine dy7 ?_ GE679.out|refine dy7 ?_ GE690.out)|exact HB.out))));have n6_:=zz7 (hy7 (g:=gb679) (o:=.cells #[.int .i64 aI,u680001] 26 (0,0)) (by (with_reducible repeat (first|refine ey7 ?_ _|refine gy7 ?_|refine fy7 ?_ _));exact BK679.out) hb);have n7_:=zz7 (hy7 (g:=gb690) (o:=.cells #[.int .i64 aD,u691001] 26 (0,0)) (by (with_reducible repeat (first|refine ey7 ?_ _|refine gy7 ?_|refine fy7 ?_ _));exact BK690.out) hb);have n8_:=zz7 (below_step (by repeat(first|(with_reducible first|exact HB.out|apply by7|apply ay7|apply cy7|refine dy7 ?_ GE679.out|refine dy7 ?_ GE690.out)|exact HB.out)) hb);clear HO_3;clear HO_4;clear HO_680001;clear HO_691001;clear HO730;clear BK679;clear BK690;clear HB;have HO_3:=n0_;have HO_4:=n1_;have HO_680001:=n2_;have HO_691001:=n3_;have HO730:=n4_;have HO734:=n5_;have BK679:=n6_;have BK690:=n7_;have HB:=n8_;clear n0_ n1_ n2_ n3_ n4_ n5_ n6_ n7_ n8_;clear hb ho134)|((with_reducible refine gate_builtin (b:=.append) (xs:=#[.tmp 109,.tmp 110]) rfl ?_);at_builtin;refine Kd.R_append_rows (Kd.int .u8) (w0:=w) w.heap.size rfl (.tmp 109) (.tmp 110) 22 5 (.int .u8 0) 1 rfl Try.underlying22 info5 rfl (by decide) (by omega) v733 y732 x4_43 _ _ _ (fun k_=>some k_ ≠ (.slice Ao10 x3_43.length co10 : Value).ownBlock ∧ some k_ ≠ (.slice Ao11 x4_43.length co11 : Value).ownBlock ∧ some k_ ≠ (u680001 : Value).ownBlock ∧ some k_ ≠ (u691001 : Value).ownBlock ∧ some k_ ≠ (.slice (some ⟨go107,0,none⟩) y728.length co107 : Value).ownBlock) (fun _=>False) rfl rfl ?aO ?aR (fun _ _ h=>h) (fun _ h=>h.elim) ?aF ?aB ?aS ?aL ?_;(case aR=>repeat (first|exact (iz7 HO_4.out).2.2|(with_reducible refine Kd.C_alloc ?_ _)|(with_reducible refine Kd.C_drewN ?_ _)|(with_reducible refine Kd.C_drew ?_)));(case aB=>exact (by repeat(first|(with_reducible first|exact HB.out|apply by7|apply ay7|apply cy7|refine dy7 ?_ GE679.out|refine dy7 ?_ GE690.out)|exact HB.out)));(case aF=>exact (fun k_ hk=>⟨Kd.fresh' (Kd.R_lt (by (with_reducible repeat (first|apply az7|apply bz7|apply cz7));exact HO_3.out)) k_ hk,Kd.fresh' (Kd.R_lt (by (with_reducible repeat (first|apply az7|apply bz7|apply cz7));exact HO_4.out)) k_ hk,Kd.fresh' (Kd.R_lt (by (with_reducible repeat (first|apply az7|apply bz7|apply cz7));exact HO_680001.out)) k_ hk,Kd.fresh' (Kd.R_lt (by (with_reducible repeat (first|apply az7|apply bz7|apply cz7));exact HO_691001.out)) k_ hk,Kd.fresh' (Kd.R_lt (by (with_reducible repeat (first|apply az7|apply bz7|apply cz7));exact HO730.out)) k_ hk⟩));(case aO=>exact (by (with_reducible repeat (first|apply az7|apply bz7|apply cz7));exact gz7 HO734.out (fun _ hk=>⟨hk.1.1.1.1.2,⟨hk.1.1.1.2,⟨hk.1.1.2,⟨hk.1.2,hk.2⟩⟩⟩⟩)));(case aS=>exact (below_size (by repeat(first|(with_reducible first|exact HB.out|apply by7|apply ay7|apply cy7|refine dy7 ?_ GE679.out|refine dy7 ?_ GE690.out)|exact HB.out))));(case aL=>have:=LMc108.out;omega);intro v736 w135 ho hb hg hat;rw [← Ny735.out] at ho;have n0_:=zz7 (Kd.R_after (ok:=(fun k_=>some k_ ≠ (.slice Ao11 x4_43.length co11 : Value).ownBlock ∧ some k_ ≠ (u680001 : Value).ownBlock ∧ some k_ ≠ (u691001 : Value).ownBlock ∧ some k_ ≠ (.slice (some ⟨go107,0,none⟩) y728.length co107 : Value).ownBlock)) (by (with_reducible repeat (first|apply az7|apply bz7|apply cz7));exact gz7 HO_3.out (fun _ hk=>⟨⟨hk.1.1.1,⟨hk.1.1.2.1,⟨hk.1.1.2.2,hk.1.2⟩⟩⟩,hk.2⟩)) hg hat);have n1_:=zz7 (Kd.R_after (ok:=(fun k_=>some k_ ≠ (.slice Ao10 x3_43.length co10 : Value).ownBlock ∧ some k_ ≠ (u680001 : Value).ownBlock ∧ some k_ ≠ (u691001 : Value).ownBlock ∧ some k_ ≠ (.slice (some ⟨go107,0,none⟩) y728.length co107 : Value).ownBlock)) (by (with_reducible repeat (first|apply az7|apply bz7|apply cz7));exact gz7 HO_4.out (fun _ hk=>⟨⟨hk.1.1.1,⟨hk.1.1.2.1,⟨hk.1.1.2.2,hk.1.2⟩⟩⟩,hk.2⟩)) hg hat);have n2_:=zz7 (Kd.R_after (ok:=(fun k_=>some k_ ≠ (.slice Ao10 x3_43.length co10 : Value).ownBlock ∧ some k_ ≠ (.slice Ao11 x4_43.length co11 : Value).ownBlock ∧ some k_ ≠ (u691001 : Value).ownBlock ∧ some k_ ≠ (.slice (some ⟨go107,0,none⟩) y728.length co107 : Value).ownBlock)) (by (with_reducible repeat (first|apply az7|apply bz7|apply cz7));exact gz7 HO_680001.out (fun _ hk=>⟨⟨hk.1.1.1,⟨hk.1.1.2.1,⟨hk.1.1.2.2,hk.1.2⟩⟩⟩,hk.2⟩)) hg hat);have n3_:=zz7 (Kd.R_after (ok:=(fun k_=>some k_ ≠ (.slice Ao10 x3_43.length co10 : Value).ownBlock ∧ some k_ ≠ (.slice Ao11 x4_43.length co11 : Value).ownBlock ∧ some k_ ≠ (u680001 : Value).ownBlock ∧ some k_ ≠ (.slice (some ⟨go107,0,none⟩) y728.length co107 : Value).ownBlock)) (by (with_reducible repeat (first|apply az7|apply bz7|apply cz7));exact gz7 HO_691001.out (fun _ hk=>⟨⟨hk.1.1.1,⟨hk.1.1.2.1,⟨hk.1.1.2.2,hk.1.2⟩⟩⟩,hk.2⟩)) hg hat);have n4_:=zz7 (blk_grown (g:=gb679) (o:=.cells #[.int .i64 aI,u680001] 26 (0,0)) (by (with_reducible repeat (first|refine ey7 ?_ _|refine gy7 ?_|refine fy7 ?_ _));exact BK679.out) hg (Kd.R_ne HO734.out BK679.out (by decide)));have n5_:=zz7 (blk_grown (g:=gb690) (o:=.cells #[.int .i64 aD,u691001] 26 (0,0)) (by (with_reducible repeat (first|refine ey7 ?_ _|refine gy7 ?_|refine fy7 ?_ _));exact BK690.out) hg (Kd.R_ne HO734.out BK690.out (by decide)));have n6_:=zz7 (Kd.R_after (ok:=(fun k_=>some k_ ≠ (.slice Ao10 x3_43.length co10 : Value).ownBlock ∧ some k_ ≠ (.slice Ao11 x4_43.length co11 : Value).ownBlock ∧ some k_ ≠ (u680001 : Value).ownBlock ∧ some k_ ≠ (u691001 : Value).ownBlock)) (by (with_reducible repeat (first|apply az7|apply bz7|apply cz7));exact HO730.out) hg hat);have n7_:=zz7 (hb);have n8_:=zz7 (ho);clear HO_3;clear HO_4;clear HO_680001;clear HO_691001;clear BK679;clear BK690;clear HO730;clear HB;clear HO734;have HO_3:=n0_;have HO_4:=n1_;have HO_680001:=n2_;have HO_691001:=n3_;have BK679:=n4_;have BK690:=n5_;have HO730:=n6_;have HB:=n7_;have HO737:=n8_;clear n0_ n1_ n2_ n3_ n4_ n5_ n6_ n7_ n8_;clear ho hb hg hat)|((with_reducible refine gate_callee (f:=42) rfl ?_);refine goesL_ (some 114) rfl rfl Try.func42 (by kernel_rfl) rfl #[.slice A0 l0.length c0,.int .i64 2,.int .i64 16] rfl (by (try simp only [List.map_toArray,List.map_cons,List.map_nil]);first|done|rfl|(simp only [List.length_drop,List.length_take];rfl)) ?_;(with_reducible refine (laws_lwAt.calls _ _ l0 2 16 aM _ ?side1 ?side2 A109.out).mono ?_);(case side1=>repeat (first|exact (Kd.C_below HR0.out HB.out)|(with_reducible refine Kd.C_alloc ?_ _)|(with_reducible refine Kd.C_drewN ?_ _)|(with_reducible refine Kd.C_drew ?_)));(case side2=>exact HC0.out);rintro e w' ⟨rfl,⟨nd,rfl⟩⟩;refine ⟨_,rfl,?_⟩;(try (rw [drewN_self w135];generalize hq_ : World.drewN w135 _ = w135;have n0_ : Aside0 (Kd.R (Kd.int .u8) 5 w135 w.heap.size (fun k_=>some k_ ≠ (v736 : Value).ownBlock ∧ some k_ ≠ (.slice Ao10 x3_43.length co10 : Value).ownBlock ∧ some k_ ≠ (.slice Ao11 x4_43.length co11 : Value).ownBlock ∧ some k_ ≠ (u680001 : Value).ownBlock ∧ some k_ ≠ (u691001 : Value).ownBlock) (.slice (some ⟨go107,0,none⟩) y728.length co107) y731):=⟨by rw [← hq_];exact (by (with_reducible repeat (first|apply az7|apply bz7|apply cz7));exact gz7 HO730.out (fun _ hk=>⟨hk.2,⟨hk.1.1,⟨hk.1.2.1,⟨hk.1.2.2.1,hk.1.2.2.2⟩⟩⟩⟩))⟩;have n1_ : Aside0 (Kd.R (Kd.int .u8) 5 w135 w.heap.size (fun k_=>some k_ ≠ (.slice (some ⟨go107,0,none⟩) y728.length co107 : Value).ownBlock ∧ some k_ ≠ (.slice Ao10 x3_43.length co10 : Value).ownBlock ∧ some k_ ≠ (.slice Ao11 x4_43.length co11 : Value).ownBlock ∧ some k_ ≠ (u680001 : Value).ownBlock ∧ some k_ ≠ (u691001 : Value).ownBlock) v736 y735):=⟨by rw [← hq_];exact (by (with_reducible repeat (first|apply az7|apply bz7|apply cz7));exact gz7 HO737.out (fun _ hk=>⟨hk.2.2.2.2,⟨hk.1,⟨hk.2.1,⟨hk.2.2.1,hk.2.2.2.1⟩⟩⟩⟩))⟩;have n2_ : Aside0 (Kd.R (Kd.int .u8) 5 w135 w.heap.size (fun k_=>some k_ ≠ (.slice (some ⟨go107,0,none⟩) y728.length co107 : Value).ownBlock ∧ some k_ ≠ (v736 : Value).ownBlock ∧ some k_ ≠ (.slice Ao11 x4_43.length co11 : Value).ownBlock ∧ some k_ ≠ (u680001 : Value).ownBlock ∧ some k_ ≠ (u691001 : Value).ownBlock) (.slice Ao10 x3_43.length co10) x3_43):=⟨by rw [← hq_];exact (by (with_reducible repeat (first|apply az7|apply bz7|apply cz7));exact gz7 HO_3.out (fun _ hk=>⟨hk.1.2.2.2,⟨hk.2,⟨hk.1.1,⟨hk.1.2.1,hk.1.2.2.1⟩⟩⟩⟩))⟩;have n3_ : Aside0 (Kd.R (Kd.int .u8) 5 w135 w.heap.size (fun k_=>some k_ ≠ (.slice (some ⟨go107,0,none⟩) y728.length co107 : Value).ownBlock ∧ some k_ ≠ (v736 : Value).ownBlock ∧ some k_ ≠ (.slice Ao10 x3_43.length co10 : Value).ownBlock ∧ some k_ ≠ (u680001 : Value).ownBlock ∧ some k_ ≠ (u691001 : Value).ownBlock) (.slice Ao11 x4_43.length co11) x4_43):=⟨by rw [← hq_];exact (by (with_reducible repeat (first|apply az7|apply bz7|apply cz7));exact gz7 HO_4.out (fun _ hk=>⟨hk.1.2.2.2,⟨hk.2,⟨hk.1.1,⟨hk.1.2.1,hk.1.2.2.1⟩⟩⟩⟩))⟩;have n4_ : Aside0 (Kd.R (Kd.int .u8) 82 w135 w.heap.size (fun k_=>some k_ ≠ (.slice (some ⟨go107,0,none⟩) y728.length co107 : Value).ownBlock ∧ some k_ ≠ (v736 : Value).ownBlock ∧ some k_ ≠ (.slice Ao10 x3_43.length co10 : Value).ownBlock ∧ some k_ ≠ (.slice Ao11 x4_43.length co11 : Value).ownBlock ∧ some k_ ≠ (u691001 : Value).ownBlock) u680001 x680001_43):=⟨by rw [← hq_];exact (by (with_reducible repeat (first|apply az7|apply bz7|apply cz7));exact gz7 HO_680001.out (fun _ hk=>⟨hk.1.2.2.2,⟨hk.2,⟨hk.1.1,⟨hk.1.2.1,hk.1.2.2.1⟩⟩⟩⟩))⟩;have n5_ : Aside0 (Kd.R (Kd.int .u8) 82 w135 w.heap.size (fun k_=>some k_ ≠ (.slice (some ⟨go107,0,none⟩) y728.length co107 : Value).ownBlock ∧ some k_ ≠ (v736 : Value).ownBlock ∧ some k_ ≠ (.slice Ao10 x3_43.length co10 : Value).ownBlock ∧ some k_ ≠ (.slice Ao11 x4_43.length co11 : Value).ownBlock ∧ some k_ ≠ (u680001 : Value).ownBlock) u691001 x691001_43):=⟨by rw [← hq_];exact (by (with_reducible repeat (first|apply az7|apply bz7|apply cz7));exact gz7 HO_691001.out (fun _ hk=>⟨hk.1.2.2.2,⟨hk.2,⟨hk.1.1,⟨hk.1.2.1,hk.1.2.2.1⟩⟩⟩⟩))⟩;have n6_ : Aside0 (w135.heap[gb679]? = some (.cells #[.int .i64 aI,u680001] 26 (0,0))):=⟨by rw [← hq_];exact (by (with_reducible repeat (first|refine ey7 ?_ _|refine gy7 ?_|refine fy7 ?_ _));exact BK679.out)⟩;have n7_ : Aside0 (w135.heap[gb690]? = some (.cells #[.int .i64 aD,u691001] 26 (0,0))):=⟨by rw [← hq_];exact (by (with_reducible repeat (first|refine ey7 ?_ _|refine gy7 ?_|refine fy7 ?_ _));exact BK690.out)⟩;have n8_ : Aside0 (Below w.heap.size w w135):=⟨by rw [← hq_];exact (by repeat(first|(with_reducible first|exact HB.out|apply by7|apply ay7|apply cy7|refine dy7 ?_ GE679.out|refine dy7 ?_ GE690.out)|exact HB.out))⟩;clear HO730 HO737 HO_3 HO_4 HO_680001 HO_691001 BK679 BK690 HB hq_;have HO730:=n0_;have HO737:=n1_;have HO_3:=n2_;have HO_4:=n3_;have HO_680001:=n4_;have HO_691001:=n5_;have BK679:=n6_;have BK690:=n7_;have HB:=n8_;clear n0_ n1_ n2_ n3_ n4_ n5_ n6_ n7_ n8_));obtain⟨Ao136,co136,eo136⟩:=Kd.R_slice HO737.out;subst eo136;have p739 : 0 ≤ (aM : Int):=of_decide_eq_true (by first|(with_reducible assumption)|assumption);have q739 : aM < (y735.length : Int):=of_decide_eq_true (by first|(with_reducible assumption)|assumption);obtain⟨ad739,e739,hx739_0⟩:=Kd.at_int (iz7 HO737.out).2.2 aM p739 q739;cases e739;replace p739:=eq_true p739;replace q739:=eq_true q739;have p112 : 0 ≤ (aM : Int):=of_decide_eq_true (by first|(with_reducible assumption)|assumption);have q112 : (aM : Int) < ((y735.length : Int) : Int):=of_decide_eq_true (by first|(with_reducible assumption)|assumption);obtain⟨go112,co112,eo112,gb112,gl112,cl112,HG112⟩:=Kd.R_form HO737.out (by omega);(first|cases eo112|(injection eo112 with ea_ en_ ec_;(first|subst ea_|(injection ea_ with ea_;subst ea_));subst ec_;clear en_));have GB112:=zz7 gb112;have GG112:=zz7 HG112;clear gb112 gl112 HG112;(first|simp only [add_plain] at hx739_0|skip);obtain⟨hx112_0,hf112_0⟩:=Kd.R_celln 0 HO737.out (aM : Int) p112 q112;replace p112:=eq_true p112;replace q112:=eq_true q112;obtain⟨hy137_,hz137_⟩:=Kd.R_celln 0 HO737.out (aM : Int) (of_decide_eq_true (by first|(with_reducible assumption)|assumption)) (of_decide_eq_true (by first|(with_reducible assumption)|assumption));have HP137:=Kd.R_putg HO737.out (aM : Int) (Go.bits .xor .u8 (rd y735 aM) 90))|((with_reducible refine gate_store (t:=5) (p:=118) rfl ?_);refine store_event (t:=5) (p:=118) (v:=?vo_w138) (w1:=(w135.setCell ⟨go112,(aM : Int).toNat,none⟩ (.int .u8 (Go.bits .xor .u8 (rd y735 aM) 90)))) ?hg ?ho ?hn ?hr ?_;(case ho=>rfl);(case hg=>rfl);(case hn=>rfl);(case hr=>first|(go_simp;done)|(go_simp;rfl));intro w138 hw;have hg : w135.grownBy w138 (some go112):=(by rw [hw];exact HP137.2);have hp_ : Kd.R (Kd.int .u8) 5 w138 w.heap.size (fun k_=>some k_ ≠ (.slice Ao10 x3_43.length co10 : Value).ownBlock ∧ some k_ ≠ (.slice Ao11 x4_43.length co11 : Value).ownBlock ∧ some k_ ≠ (u680001 : Value).ownBlock ∧ some k_ ≠ (u691001 : Value).ownBlock ∧ some k_ ≠ (.slice (some ⟨go107,0,none⟩) y728.length co107 : Value).ownBlock) (.slice (some ⟨go112,0,none⟩) y735.length co136) y740:=(by rw [hw,Ny740.out];exact Kd.R_mono HP137.1 (fun _ hk=>⟨hk.2.1,hk.2.2.1,hk.2.2.2.1,hk.2.2.2.2,hk.1⟩));clear HP137;have n0_:=zz7 (Kd.R_after (v:=(.slice (some ⟨go112,0,none⟩) y735.length co136)) (v1:=(.slice (some ⟨go112,0,none⟩) y735.length co136)) (ok:=(fun k_=>some k_ ≠ (.slice Ao11 x4_43.length co11 : Value).ownBlock ∧ some k_ ≠ (u680001 : Value).ownBlock ∧ some k_ ≠ (u691001 : Value).ownBlock ∧ some k_ ≠ (.slice (some ⟨go107,0,none⟩) y728.length co107 : Value).ownBlock)) (by (with_reducible repeat (first|apply az7|apply bz7|apply cz7));exact Kd.R_mono HO_3.out (fun _ h=>⟨⟨h.2.2.1,h.2.2.2.1,h.2.2.2.2,h.1⟩,h.2.1⟩)) hg (.inl rfl));have n1_:=zz7 (Kd.R_after (v:=(.slice (some ⟨go112,0,none⟩) y735.length co136)) (v1:=(.slice (some ⟨go112,0,none⟩) y735.length co136)) (ok:=(fun k_=>some k_ ≠ (.slice Ao10 x3_43.length co10 : Value).ownBlock ∧ some k_ ≠ (u680001 : Value).ownBlock ∧ some k_ ≠ (u691001 : Value).ownBlock ∧ some k_ ≠ (.slice (some ⟨go107,0,none⟩) y728.length co107 : Value).ownBlock)) (by (with_reducible repeat (first|apply az7|apply bz7|apply cz7));exact Kd.R_mono HO_4.out (fun _ h=>⟨⟨h.2.2.1,h.2.2.2.1,h.2.2.2.2,h.1⟩,h.2.1⟩)) hg (.inl rfl));have n2_:=zz7 (Kd.R_after (v:=(.slice (some ⟨go112,0,none⟩) y735.length co136)) (v1:=(.slice (some ⟨go112,0,none⟩) y735.length co136)) (ok:=(fun k_=>some k_ ≠ (.slice Ao10 x3_43.length co10 : Value).ownBlock ∧ some k_ ≠ (.slice Ao11 x4_43.length co11 : Value).ownBlock ∧ some k_ ≠ (u691001 : Value).ownBlock ∧ some k_ ≠ (.slice (some ⟨go107,0,none⟩) y728.length co107 : Value).ownBlock)) (by (with_reducible repeat (first|apply az7|apply bz7|apply cz7));exact Kd.R_mono HO_680001.out (fun _ h=>⟨⟨h.2.2.1,h.2.2.2.1,h.2.2.2.2,h.1⟩,h.2.1⟩)) hg (.inl rfl));have n3_:=zz7 (Kd.R_after (v:=(.slice (some ⟨go112,0,none⟩) y735.length co136)) (v1:=(.slice (some ⟨go112,0,none⟩) y735.length co136)) (ok:=(fun k_=>some k_ ≠ (.slice Ao10 x3_43.length co10 : Value).ownBlock ∧ some k_ ≠ (.slice Ao11 x4_43.length co11 : Value).ownBlock ∧ some k_ ≠ (u680001 : Value).ownBlock ∧ some k_ ≠ (.slice (some ⟨go107,0,none⟩) y728.length co107 : Value).ownBlock)) (by (with_reducible repeat (first|apply az7|apply bz7|apply cz7));exact Kd.R_mono HO_691001.out (fun _ h=>⟨⟨h.2.2.1,h.2.2.2.1,h.2.2.2.2,h.1⟩,h.2.1⟩)) hg (.inl rfl));have n4_:=zz7 (blk_grown (g:=gb679) (o:=.cells #[.int .i64 aI,u680001] 26 (0,0)) (by (with_reducible repeat (first|refine ey7 ?_ _|refine gy7 ?_|refine fy7 ?_ _));exact BK679.out) hg (Kd.R_ne HO737.out BK679.out (by decide)));have n5_:=zz7 (blk_grown (g:=gb690) (o:=.cells #[.int .i64 aD,u691001] 26 (0,0)) (by (with_reducible repeat (first|refine ey7 ?_ _|refine gy7 ?_|refine fy7 ?_ _));exact BK690.out) hg (Kd.R_ne HO737.out BK690.out (by decide)));have n6_:=zz7 (Kd.R_after (v:=(.slice (some ⟨go112,0,none⟩) y735.length co136)) (v1:=(.slice (some ⟨go112,0,none⟩) y735.length co136)) (ok:=(fun k_=>some k_ ≠ (.slice Ao10 x3_43.length co10 : Value).ownBlock ∧ some k_ ≠ (.slice Ao11 x4_43.length co11 : Value).ownBlock ∧ some k_ ≠ (u680001 : Value).ownBlock ∧ some k_ ≠ (u691001 : Value).ownBlock)) (by (with_reducible repeat (first|apply az7|apply bz7|apply cz7));exact Kd.R_mono HO730.out (fun _ h=>⟨⟨h.2.1,h.2.2.1,h.2.2.2.1,h.2.2.2.2⟩,h.1⟩)) hg (.inl rfl));have n7_:=zz7 (hp_);have n8_:=zz7 ((by rw [hw];exact dy7 (HB.out) GB112.out : Below w.heap.size w w138));clear HO_3;clear HO_4;clear HO_680001;clear HO_691001;clear BK679;clear BK690;clear HO730;clear HO737;clear HB;have HO_3:=n0_;have HO_4:=n1_;have HO_680001:=n2_;have HO_691001:=n3_;have BK679:=n4_;have BK690:=n5_;have HO730:=n6_;have HO737:=n7_;have HB:=n8_;clear n0_ n1_ n2_ n3_ n4_ n5_ n6_ n7_ n8_;clear hg hw hp_))
                have n0_:=zz7 (cz7 HO_3.out)
                have n1_:=zz7 (cz7 HO_4.out)
                have n2_:=zz7 (cz7 HO_680001.out)
                have n3_:=zz7 (cz7 HO_691001.out)
                have n4_:=zz7 (cz7 HO730.out)
                have n5_:=zz7 (cz7 HO737.out)
                have n6_:=zz7 (gy7 BK679.out)
                have n7_:=zz7 (gy7 BK690.out)
                have n8_:=zz7 (cy7 HB.out)
                clear HO_3
                clear HO_4
                clear HO_680001
                clear HO_691001
                clear HO730
                clear HO737
                clear BK679
                clear BK690
                clear HB
                have HO_3:=n0_
                have HO_4:=n1_
                have HO_680001:=n2_
                have HO_691001:=n3_
                have HO730:=n4_
                have HO737:=n5_
                have BK679:=n6_
                have BK690:=n7_
                have HB:=n8_
                clear n0_ n1_ n2_ n3_ n4_ n5_ n6_ n7_ n8_
                refine start_ (n:=41) (S:=fun w'=>w'.cell? ⟨gb679,0,none⟩ = some (.int .i64 aI) ∧ w'.cell? ⟨gb679,1,none⟩ = some (u680001)) (ds:=[]) #[Z,Z,Z,Z,Z,Z,Z,Z,Z,Z,Z,Z,Z,Z,Z,Z,Z,Z,Z,Z,Z,Z,Z,Z,Z,Z,Z,Z,Z,Z,Z,Z,Z,Z,Z,Z,Z,Z,Z,Z,Z] (by kernel_rfl) rfl rfl ⟨(blk_cell BK679.out 0).trans rfl,(blk_cell BK679.out 1).trans rfl⟩ (fun hHeld=>?_);refine with_tabW laws_FnGroups.tab25 laws_FnGroups.bits25 (fun HT_ HW_=>?_)
                generalize w138.drew = w139 at HO_3 HO_4 HO_680001 HO_691001 HO730 HO737 BK679 BK690 HB hHeld ⊢
                refine pure_ (i:=0) (N:=some 119) (v:=?_) (a':=?_) #[Y,Z,Z,Z,Z,Z,Z,Z,Z,Z,Z,Z,Z,Z,Z,Z,Z,Z,Z,Z,Z,Z,Z,Z,Z,Z,Z,Z,Z,Z,Z,Z,Z,Z,Z,Z,Z,Z,Z,Z,Z] rfl rfl (any_of HT_.out (by kernel_rfl)) (fun _ _ _ h=>h) (Or.inl ⟨by rfl,?_⟩) ?_ ?_
                rotate_left
                ·intro w';go_simp;with_reducible rfl
                rotate_left
                ·simp only [Act.put,sa_,sb_,sc_,i64_w];rfl
                refine pure_ (i:=2) (N:=some 121) (v:=?_) (a':=?_) #[Y,Z,Y,Z,Z,Z,Z,Z,Z,Z,Z,Z,Z,Z,Z,Z,Z,Z,Z,Z,Z,Z,Z,Z,Z,Z,Z,Z,Z,Z,Z,Z,Z,Z,Z,Z,Z,Z,Z,Z,Z] rfl rfl (any_of HT_.out (by kernel_rfl)) (fun _ _ _ h=>h) (Or.inl ⟨by rfl,?_⟩) ?_ ?_
                rotate_left
                ·intro w';go_simp;with_reducible rfl
                rotate_left
                ·simp only [Act.put,sa_,sb_,sc_,i64_w];rfl
                refine pure_ (i:=3) (N:=some 122) (v:=?_) (a':=?_) #[Y,Z,Y,Y,Z,Z,Z,Z,Z,Z,Z,Z,Z,Z,Z,Z,Z,Z,Z,Z,Z,Z,Z,Z,Z,Z,Z,Z,Z,Z,Z,Z,Z,Z,Z,Z,Z,Z,Z,Z,Z] rfl rfl (any_of HT_.out (by kernel_rfl)) (fun _ _ _ h=>h) (Or.inl ⟨by rfl,?_⟩) ?_ ?_
                rotate_left
                ·intro w';go_simp;with_reducible rfl
                rotate_left
                ·simp only [Act.put,sa_,sb_,sc_,i64_w];rfl
                refine take_ (i:=1) (N:=some 120) (v:=?_) (a':=?_) #[Y,Y,Y,Y,Z,Z,Z,Z,Z,Z,Z,Z,Z,Z,Z,Z,Z,Z,Z,Z,Z,Z,Z,Z,Z,Z,Z,Z,Z,Z,Z,Z,Z,Z,Z,Z,Z,Z,Z,Z,Z] rfl rfl (take_ofW HT_.out HW_.out (by kernel_rfl)) (fun _ _ _ h=>h) (Or.inl ⟨by rfl,?_⟩) hHeld ?_ ?_
                rotate_left
                ·rintro w' ⟨s0,s1⟩
                 go_simp
                 with_reducible rfl
                rotate_left
                ·simp only [Act.put,sa_,sb_,sc_,i64_w];rfl
                refine one_ (i:=4) (N:=some 123) #[Y,Y,Y,Y,Y,Z,Z,Z,Z,Z,Z,Z,Z,Z,Z,Z,Z,Z,Z,Z,Z,Z,Z,Z,Z,Z,Z,Z,Z,Z,Z,Z,Z,Z,Z,Z,Z,Z,Z,Z,Z] rfl rfl (one_of HT_.out (by kernel_rfl)) (by decide) (fun K hK=>?_)
                refine goes_ Try.func47 (by kernel_rfl) rfl #[.slice Ao10 x3_43.length co10,.slice Ao11 x4_43.length co11] (by rfl) rfl rfl (by (try simp only [List.map_toArray,List.map_cons,List.map_nil]);first|done|rfl|(simp only [List.length_drop,List.length_take];rfl)) ?_
                with_reducible refine (spec_GroupTimes.calls kj43 _ _ x3_43 _ _ x4_43 bP bH _ ?side1 ?side2 ?side3 ?side4 A113.out).mono ?_
                (case side1=>repeat (first|exact (iz7 HO_3.out).2.2|(with_reducible refine Kd.C_alloc ?_ _)|(with_reducible refine Kd.C_drewN ?_ _)|(with_reducible refine Kd.C_drew ?_)))
                (case side2=>exact (iz7 HO_3.out).2.1)
                (case side3=>repeat (first|exact (iz7 HO_4.out).2.2|(with_reducible refine Kd.C_alloc ?_ _)|(with_reducible refine Kd.C_drewN ?_ _)|(with_reducible refine Kd.C_drew ?_)))
                (case side4=>exact (iz7 HO_4.out).2.1)
                rintro e w140 ⟨v743,rfl,ho0,hb⟩
                refine ⟨_,rfl,?_⟩
                have n0_:=zz7 (jz7 (by (with_reducible repeat (first|apply az7|apply bz7|apply cz7));exact HO_3.out) (fz7 ho0) hb)
                have n1_:=zz7 (jz7 (by (with_reducible repeat (first|apply az7|apply bz7|apply cz7));exact HO_4.out) (fz7 ho0) hb)
                have n2_:=zz7 (jz7 (by (with_reducible repeat (first|apply az7|apply bz7|apply cz7));exact HO_680001.out) (fz7 ho0) hb)
                have n3_:=zz7 (jz7 (by (with_reducible repeat (first|apply az7|apply bz7|apply cz7));exact HO_691001.out) (fz7 ho0) hb)
                have n4_:=zz7 (jz7 (by (with_reducible repeat (first|apply az7|apply bz7|apply cz7));exact HO730.out) (fz7 ho0) hb)
                have n5_:=zz7 (jz7 (by (with_reducible repeat (first|apply az7|apply bz7|apply cz7));exact HO737.out) (fz7 ho0) hb)
                have n6_:=zz7 (Kd.R_lower (kz7 (kz7 (kz7 (kz7 (kz7 (kz7 ho0 (Kd.R_lt (by (with_reducible repeat (first|apply az7|apply bz7|apply cz7));exact HO_3.out))) (Kd.R_lt (by (with_reducible repeat (first|apply az7|apply bz7|apply cz7));exact HO_4.out))) (Kd.R_lt (by (with_reducible repeat (first|apply az7|apply bz7|apply cz7));exact HO_680001.out))) (Kd.R_lt (by (with_reducible repeat (first|apply az7|apply bz7|apply cz7));exact HO_691001.out))) (Kd.R_lt (by (with_reducible repeat (first|apply az7|apply bz7|apply cz7));exact HO730.out))) (Kd.R_lt (by (with_reducible repeat (first|apply az7|apply bz7|apply cz7));exact HO737.out))) (below_size (by repeat(first|(with_reducible first|exact HB.out|apply by7|apply ay7|apply cy7|refine dy7 ?_ GE679.out|refine dy7 ?_ GE690.out)|exact HB.out))))
                have n7_:=zz7 (hy7 (g:=gb679) (o:=.cells #[.int .i64 aI,u680001] 26 (0,0)) (by (with_reducible repeat (first|refine ey7 ?_ _|refine gy7 ?_|refine fy7 ?_ _));exact BK679.out) hb)
                have n8_:=zz7 (hy7 (g:=gb690) (o:=.cells #[.int .i64 aD,u691001] 26 (0,0)) (by (with_reducible repeat (first|refine ey7 ?_ _|refine gy7 ?_|refine fy7 ?_ _));exact BK690.out) hb)
                have n9_:=zz7 (below_step (by repeat(first|(with_reducible first|exact HB.out|apply by7|apply ay7|apply cy7|refine dy7 ?_ GE679.out|refine dy7 ?_ GE690.out)|exact HB.out)) hb)
                clear HO_3
                clear HO_4
                clear HO_680001
                clear HO_691001
                clear HO730
                clear HO737
                clear BK679
                clear BK690
                clear HB
                have HO_3:=n0_
                have HO_4:=n1_
                have HO_680001:=n2_
                have HO_691001:=n3_
                have HO730:=n4_
                have HO737:=n5_
                have HO744:=n6_
                have BK679:=n7_
                have BK690:=n8_
                have HB:=n9_
                clear n0_ n1_ n2_ n3_ n4_ n5_ n6_ n7_ n8_ n9_
                (try clear hb);(try clear hb2);(try clear hk)
                (try clear hi)
                (try clear ho0)
                obtain⟨Ao141,co141,eo141⟩:=Kd.R_slice HO_680001.out
                (first|subst eo141|(injection eo141 with f1_ f2_ f3_;have f4_:=f1_.symm;have f5_:=f3_.symm;clear f1_ f2_ f3_;subst f4_;subst f5_))
                obtain⟨Ao142,co142,eo142⟩:=Kd.R_slice HO744.out
                (first|subst eo142|(injection eo142 with f1_ f2_ f3_;have f4_:=f1_.symm;have f5_:=f3_.symm;clear f1_ f2_ f3_;subst f4_;subst f5_))
                refine hK.out _ _ ⟨(blk_cell BK679.out 0).trans rfl,(blk_cell BK679.out 1).trans rfl⟩ (fun hHeld=>?_)
                clear hK K
                refine norm_ (a':=?_) ?_ ?_
                rotate_left
                ·show Act.put _ (some 123) _ = _
                 simp only [Act.put,sa_,sb_,sc_,i64_w]
                 rfl
                refine pure_ (i:=5) (N:=some 124) (v:=?_) (a':=?_) #[Y,Y,Y,Y,Y,Y,Z,Z,Z,Z,Z,Z,Z,Z,Z,Z,Z,Z,Z,Z,Z,Z,Z,Z,Z,Z,Z,Z,Z,Z,Z,Z,Z,Z,Z,Z,Z,Z,Z,Z,Z] rfl rfl (any_of HT_.out (by kernel_rfl)) (fun _ _ _ h=>h) (Or.inl ⟨by rfl,?_⟩) ?_ ?_
                rotate_left
                ·intro w';go_simp;with_reducible rfl
                rotate_left
                ·simp only [Act.put,sa_,sb_,sc_,i64_w];rfl
                refine one_ (i:=6) (N:=some 125) #[Y,Y,Y,Y,Y,Y,Y,Z,Z,Z,Z,Z,Z,Z,Z,Z,Z,Z,Z,Z,Z,Z,Z,Z,Z,Z,Z,Z,Z,Z,Z,Z,Z,Z,Z,Z,Z,Z,Z,Z,Z] rfl rfl (one_of HT_.out (by kernel_rfl)) (by decide) (fun K hK=>?_)
                refine goes_ Try.func17 (by kernel_rfl) rfl #[.slice Ao141 x680001_43.length co141,.slice Ao142 bH.length co142] (by rfl) rfl rfl (by (try simp only [List.map_toArray,List.map_cons,List.map_nil]);first|done|rfl|(simp only [List.length_drop,List.length_take];rfl)) ?_
                with_reducible refine (laws_lwSame.calls _ _ x680001_43 _ _ bH true _ ?side1 ?side2 ?side3 ?side4 A114.out).mono ?_
                (case side1=>repeat (first|exact (iz7 HO_680001.out).2.2|(with_reducible refine Kd.C_alloc ?_ _)|(with_reducible refine Kd.C_drewN ?_ _)|(with_reducible refine Kd.C_drew ?_)))
                (case side2=>exact (iz7 HO_680001.out).2.1)
                (case side3=>repeat (first|exact (iz7 HO744.out).2.2|(with_reducible refine Kd.C_alloc ?_ _)|(with_reducible refine Kd.C_drewN ?_ _)|(with_reducible refine Kd.C_drew ?_)))
                (case side4=>exact (iz7 HO744.out).2.1)
                rintro e w' ⟨rfl,⟨nd,rfl⟩⟩
                refine ⟨_,rfl,?_⟩
                refine hK.out _ _ ⟨(blk_cell BK679.out 0).trans rfl,(blk_cell BK679.out 1).trans rfl⟩ (fun hHeld=>?_)
                clear hK K
                refine norm_ (a':=?_) ?_ ?_
                rotate_left
                ·show Act.put _ (some 125) _ = _
                 simp only [Act.put,sa_,sb_,sc_,i64_w]
                 rfl
                refine pure_ (i:=7) (N:=some 126) (v:=?_) (a':=?_) #[Y,Y,Y,Y,Y,Y,Y,Y,Z,Z,Z,Z,Z,Z,Z,Z,Z,Z,Z,Z,Z,Z,Z,Z,Z,Z,Z,Z,Z,Z,Z,Z,Z,Z,Z,Z,Z,Z,Z,Z,Z] rfl rfl (any_of HT_.out (by kernel_rfl)) (fun _ _ _ h=>h) (Or.inl ⟨by rfl,?_⟩) ?_ ?_
                rotate_left
                ·intro w';go_simp;with_reducible rfl
                rotate_left
                ·simp only [Act.put,sa_,sb_,sc_,i64_w];rfl
                refine pure_ (i:=8) (N:=some 127) (v:=?_) (a':=?_) #[Y,Y,Y,Y,Y,Y,Y,Y,Y,Z,Z,Z,Z,Z,Z,Z,Z,Z,Z,Z,Z,Z,Z,Z,Z,Z,Z,Z,Z,Z,Z,Z,Z,Z,Z,Z,Z,Z,Z,Z,Z] rfl rfl (any_of HT_.out (by kernel_rfl)) (fun _ _ _ h=>h) (Or.inl ⟨by rfl,?_⟩) ?_ ?_
                rotate_left
                ·intro w';go_simp;with_reducible rfl
                rotate_left
                ·simp only [Act.put,sa_,sb_,sc_,i64_w];rfl
                refine pure_ (i:=9) (N:=some 128) (v:=?_) (a':=?_) #[Y,Y,Y,Y,Y,Y,Y,Y,Y,Y,Z,Z,Z,Z,Z,Z,Z,Z,Z,Z,Z,Z,Z,Z,Z,Z,Z,Z,Z,Z,Z,Z,Z,Z,Z,Z,Z,Z,Z,Z,Z] rfl rfl (any_of HT_.out (by kernel_rfl)) (fun _ _ _ h=>h) (Or.inl ⟨by rfl,?_⟩) ?_ ?_
                rotate_left
                ·intro w';go_simp;with_reducible rfl
                rotate_left
                ·simp only [Act.put,sa_,sb_,sc_,i64_w];rfl
                refine pure_ (i:=12) (N:=some 131) (v:=?_) (a':=?_) #[Y,Y,Y,Y,Y,Y,Y,Y,Y,Y,Z,Z,Y,Z,Z,Z,Z,Z,Z,Z,Z,Z,Z,Z,Z,Z,Z,Z,Z,Z,Z,Z,Z,Z,Z,Z,Z,Z,Z,Z,Z] rfl rfl (any_of HT_.out (by kernel_rfl)) (fun _ _ _ h=>h) (Or.inl ⟨by rfl,?_⟩) ?_ ?_
                rotate_left
                ·intro w';go_simp;with_reducible rfl
                rotate_left
                ·simp only [Act.put,sa_,sb_,sc_,i64_w];rfl
                refine take_ (i:=13) (N:=some 132) (v:=?_) (a':=?_) #[Y,Y,Y,Y,Y,Y,Y,Y,Y,Y,Z,Z,Y,Y,Z,Z,Z,Z,Z,Z,Z,Z,Z,Z,Z,Z,Z,Z,Z,Z,Z,Z,Z,Z,Z,Z,Z,Z,Z,Z,Z] rfl rfl (take_ofW HT_.out HW_.out (by kernel_rfl)) (fun _ _ _ h=>h) (Or.inl ⟨by rfl,?_⟩) hHeld ?_ ?_
                rotate_left
                ·rintro w' ⟨s0,s1⟩
                 go_simp
                 with_reducible rfl
                rotate_left
                ·simp only [Act.put,sa_,sb_,sc_,i64_w];rfl
                refine one_ (i:=10) (N:=some 129) #[Y,Y,Y,Y,Y,Y,Y,Y,Y,Y,Y,Z,Y,Y,Z,Z,Z,Z,Z,Z,Z,Z,Z,Z,Z,Z,Z,Z,Z,Z,Z,Z,Z,Z,Z,Z,Z,Z,Z,Z,Z] rfl rfl (one_of HT_.out (by kernel_rfl)) (by decide) (fun K hK=>?_)
                refine goes_ Try.func44 (by kernel_rfl) rfl #[.slice Ao11 x4_43.length co11,.slice Ao10 x3_43.length co10] (by rfl) rfl rfl (by (try simp only [List.map_toArray,List.map_cons,List.map_nil]);first|done|rfl|(simp only [List.length_drop,List.length_take];rfl)) ?_
                with_reducible refine (impl_GroupTimes.calls kj43 _ _ x4_43 _ _ x3_43 bQ bI _ ?side1 ?side2 ?side3 ?side4 A116.out).mono ?_
                (case side1=>repeat (first|exact (iz7 HO_4.out).2.2|(with_reducible refine Kd.C_alloc ?_ _)|(with_reducible refine Kd.C_drewN ?_ _)|(with_reducible refine Kd.C_drew ?_)))
                (case side2=>exact (iz7 HO_4.out).2.1)
                (case side3=>repeat (first|exact (iz7 HO_3.out).2.2|(with_reducible refine Kd.C_alloc ?_ _)|(with_reducible refine Kd.C_drewN ?_ _)|(with_reducible refine Kd.C_drew ?_)))
                (case side4=>exact (iz7 HO_3.out).2.1)
                rintro e w143 ⟨v748,rfl,ho0,hb⟩
                refine ⟨_,rfl,?_⟩
                have n0_:=zz7 (jz7 (by (with_reducible repeat (first|apply az7|apply bz7|apply cz7));exact HO_3.out) (fz7 ho0) hb)
                have n1_:=zz7 (jz7 (by (with_reducible repeat (first|apply az7|apply bz7|apply cz7));exact HO_4.out) (fz7 ho0) hb)
                have n2_:=zz7 (jz7 (by (with_reducible repeat (first|apply az7|apply bz7|apply cz7));exact HO_680001.out) (fz7 ho0) hb)
                have n3_:=zz7 (jz7 (by (with_reducible repeat (first|apply az7|apply bz7|apply cz7));exact HO_691001.out) (fz7 ho0) hb)
                have n4_:=zz7 (jz7 (by (with_reducible repeat (first|apply az7|apply bz7|apply cz7));exact HO730.out) (fz7 ho0) hb)
                have n5_:=zz7 (jz7 (by (with_reducible repeat (first|apply az7|apply bz7|apply cz7));exact HO737.out) (fz7 ho0) hb)
                have n6_:=zz7 (jz7 (by (with_reducible repeat (first|apply az7|apply bz7|apply cz7));exact HO744.out) (fz7 ho0) hb)
                have n7_:=zz7 (Kd.R_lower (kz7 (kz7 (kz7 (kz7 (kz7 (kz7 (kz7 ho0 (Kd.R_lt (by (with_reducible repeat (first|apply az7|apply bz7|apply cz7));exact HO_3.out))) (Kd.R_lt (by (with_reducible repeat (first|apply az7|apply bz7|apply cz7));exact HO_4.out))) (Kd.R_lt (by (with_reducible repeat (first|apply az7|apply bz7|apply cz7));exact HO_680001.out))) (Kd.R_lt (by (with_reducible repeat (first|apply az7|apply bz7|apply cz7));exact HO_691001.out))) (Kd.R_lt (by (with_reducible repeat (first|apply az7|apply bz7|apply cz7));exact HO730.out))) (Kd.R_lt (by (with_reducible repeat (first|apply az7|apply bz7|apply cz7));exact HO737.out))) (Kd.R_lt (by (with_reducible repeat (first|apply az7|apply bz7|apply cz7));exact HO744.out))) (below_size (by repeat(first|(with_reducible first|exact HB.out|apply by7|apply ay7|apply cy7|refine dy7 ?_ GE679.out|refine dy7 ?_ GE690.out)|exact HB.out))))
                have n8_:=zz7 (hy7 (g:=gb679) (o:=.cells #[.int .i64 aI,.slice Ao141 x680001_43.length co141] 26 (0,0)) (by (with_reducible repeat (first|refine ey7 ?_ _|refine gy7 ?_|refine fy7 ?_ _));exact BK679.out) hb)
                have n9_:=zz7 (hy7 (g:=gb690) (o:=.cells #[.int .i64 aD,u691001] 26 (0,0)) (by (with_reducible repeat (first|refine ey7 ?_ _|refine gy7 ?_|refine fy7 ?_ _));exact BK690.out) hb)
                have n10_:=zz7 (below_step (by repeat(first|(with_reducible first|exact HB.out|apply by7|apply ay7|apply cy7|refine dy7 ?_ GE679.out|refine dy7 ?_ GE690.out)|exact HB.out)) hb)
                clear HO_3
                clear HO_4
                clear HO_680001
                clear HO_691001
                clear HO730
                clear HO737
                clear HO744
                clear BK679
                clear BK690
                clear HB
                have HO_3:=n0_
                have HO_4:=n1_
                have HO_680001:=n2_
                have HO_691001:=n3_
                have HO730:=n4_
                have HO737:=n5_
                have HO744:=n6_
                have HO749:=n7_
                have BK679:=n8_
                have BK690:=n9_
                have HB:=n10_
                clear n0_ n1_ n2_ n3_ n4_ n5_ n6_ n7_ n8_ n9_ n10_
                (try clear hb);(try clear hb2);(try clear hk)
                (try clear hi)
                (try clear ho0)
                obtain⟨Ao144,co144,eo144⟩:=Kd.R_slice HO749.out
                (first|subst eo144|(injection eo144 with f1_ f2_ f3_;have f4_:=f1_.symm;have f5_:=f3_.symm;clear f1_ f2_ f3_;subst f4_;subst f5_))
                refine hK.out _ _ ⟨(blk_cell BK679.out 0).trans rfl,(blk_cell BK679.out 1).trans rfl⟩ (fun hHeld=>?_)
                clear hK K
                refine norm_ (a':=?_) ?_ ?_
                rotate_left
                ·show Act.put _ (some 129) _ = _
                 simp only [Act.put,sa_,sb_,sc_,i64_w]
                 rfl
                refine pure_ (i:=11) (N:=some 130) (v:=?_) (a':=?_) #[Y,Y,Y,Y,Y,Y,Y,Y,Y,Y,Y,Y,Y,Y,Z,Z,Z,Z,Z,Z,Z,Z,Z,Z,Z,Z,Z,Z,Z,Z,Z,Z,Z,Z,Z,Z,Z,Z,Z,Z,Z] rfl rfl (any_of HT_.out (by kernel_rfl)) (fun _ _ _ h=>h) (Or.inl ⟨by rfl,?_⟩) ?_ ?_
                rotate_left
                ·intro w';go_simp;with_reducible rfl
                rotate_left
                ·simp only [Act.put,sa_,sb_,sc_,i64_w];rfl
                refine one_ (i:=14) (N:=some 133) #[Y,Y,Y,Y,Y,Y,Y,Y,Y,Y,Y,Y,Y,Y,Y,Z,Z,Z,Z,Z,Z,Z,Z,Z,Z,Z,Z,Z,Z,Z,Z,Z,Z,Z,Z,Z,Z,Z,Z,Z,Z] rfl rfl (one_of HT_.out (by kernel_rfl)) (by decide) (fun K hK=>?_)
                refine goes_ Try.func17 (by kernel_rfl) rfl #[.slice Ao144 bI.length co144,.slice Ao141 x680001_43.length co141] (by rfl) rfl rfl (by (try simp only [List.map_toArray,List.map_cons,List.map_nil]);first|done|rfl|(simp only [List.length_drop,List.length_take];rfl)) ?_
                with_reducible refine (laws_lwSame.calls _ _ bI _ _ x680001_43 true _ ?side1 ?side2 ?side3 ?side4 A117.out).mono ?_
                (case side1=>repeat (first|exact (iz7 HO749.out).2.2|(with_reducible refine Kd.C_alloc ?_ _)|(with_reducible refine Kd.C_drewN ?_ _)|(with_reducible refine Kd.C_drew ?_)))
                (case side2=>exact (iz7 HO749.out).2.1)
                (case side3=>repeat (first|exact (iz7 HO_680001.out).2.2|(with_reducible refine Kd.C_alloc ?_ _)|(with_reducible refine Kd.C_drewN ?_ _)|(with_reducible refine Kd.C_drew ?_)))
                (case side4=>exact (iz7 HO_680001.out).2.1)
                rintro e w' ⟨rfl,⟨nd,rfl⟩⟩
                refine ⟨_,rfl,?_⟩
                refine hK.out _ _ ⟨(blk_cell BK679.out 0).trans rfl,(blk_cell BK679.out 1).trans rfl⟩ (fun hHeld=>?_)
                clear hK K
                refine norm_ (a':=?_) ?_ ?_
                rotate_left
                ·show Act.put _ (some 133) _ = _
                 simp only [Act.put,sa_,sb_,sc_,i64_w]
                 rfl
                refine pure_ (i:=15) (N:=some 134) (v:=?_) (a':=?_) #[Y,Y,Y,Y,Y,Y,Y,Y,Y,Y,Y,Y,Y,Y,Y,Y,Z,Z,Z,Z,Z,Z,Z,Z,Z,Z,Z,Z,Z,Z,Z,Z,Z,Z,Z,Z,Z,Z,Z,Z,Z] rfl rfl (any_of HT_.out (by kernel_rfl)) (fun _ _ _ h=>h) (Or.inl ⟨by rfl,?_⟩) ?_ ?_
                rotate_left
                ·intro w';go_simp;with_reducible rfl
                rotate_left
                ·simp only [Act.put,sa_,sb_,sc_,i64_w];rfl
                refine pure_ (i:=16) (N:=some 135) (v:=?_) (a':=?_) #[Y,Y,Y,Y,Y,Y,Y,Y,Y,Y,Y,Y,Y,Y,Y,Y,Y,Z,Z,Z,Z,Z,Z,Z,Z,Z,Z,Z,Z,Z,Z,Z,Z,Z,Z,Z,Z,Z,Z,Z,Z] rfl rfl (any_of HT_.out (by kernel_rfl)) (fun _ _ _ h=>h) (Or.inl ⟨by rfl,?_⟩) ?_ ?_
                rotate_left
                ·intro w';go_simp;with_reducible rfl
                rotate_left
                ·simp only [Act.put,sa_,sb_,sc_,i64_w];rfl
                refine pure_ (i:=17) (N:=some 136) (v:=?_) (a':=?_) #[Y,Y,Y,Y,Y,Y,Y,Y,Y,Y,Y,Y,Y,Y,Y,Y,Y,Y,Z,Z,Z,Z,Z,Z,Z,Z,Z,Z,Z,Z,Z,Z,Z,Z,Z,Z,Z,Z,Z,Z,Z] rfl rfl (any_of HT_.out (by kernel_rfl)) (fun _ _ _ h=>h) (Or.inl ⟨by rfl,?_⟩) ?_ ?_
                rotate_left
                ·intro w';go_simp;with_reducible rfl
                rotate_left
                ·simp only [Act.put,sa_,sb_,sc_,i64_w];rfl
                refine pure_ (i:=18) (N:=some 137) (v:=?_) (a':=?_) #[Y,Y,Y,Y,Y,Y,Y,Y,Y,Y,Y,Y,Y,Y,Y,Y,Y,Y,Y,Z,Z,Z,Z,Z,Z,Z,Z,Z,Z,Z,Z,Z,Z,Z,Z,Z,Z,Z,Z,Z,Z] rfl rfl (any_of HT_.out (by kernel_rfl)) (fun _ _ _ h=>h) (Or.inl ⟨by rfl,?_⟩) ?_ ?_
                rotate_left
                ·intro w';go_simp;with_reducible rfl
                rotate_left
                ·simp only [Act.put,sa_,sb_,sc_,i64_w];rfl
                refine pure_ (i:=21) (N:=some 140) (v:=?_) (a':=?_) #[Y,Y,Y,Y,Y,Y,Y,Y,Y,Y,Y,Y,Y,Y,Y,Y,Y,Y,Y,Z,Z,Y,Z,Z,Z,Z,Z,Z,Z,Z,Z,Z,Z,Z,Z,Z,Z,Z,Z,Z,Z] rfl rfl (any_of HT_.out (by kernel_rfl)) (fun _ _ _ h=>h) (Or.inl ⟨by rfl,?_⟩) ?_ ?_
                rotate_left
                ·intro w';go_simp;with_reducible rfl
                rotate_left
                ·simp only [Act.put,sa_,sb_,sc_,i64_w];rfl
                refine one_ (i:=19) (N:=some 138) #[Y,Y,Y,Y,Y,Y,Y,Y,Y,Y,Y,Y,Y,Y,Y,Y,Y,Y,Y,Y,Z,Y,Z,Z,Z,Z,Z,Z,Z,Z,Z,Z,Z,Z,Z,Z,Z,Z,Z,Z,Z] rfl rfl (one_of HT_.out (by kernel_rfl)) (by decide) (fun K hK=>?_)
                refine goes_ Try.func44 (by kernel_rfl) rfl #[.slice Ao10 x3_43.length co10,.slice (some ⟨go107,0,none⟩) y731.length co107] (by rfl) rfl rfl (by (try simp only [List.map_toArray,List.map_cons,List.map_nil]);first|done|(rw [show y731.length = y728.length from (iz7 HO730.out).1.symm] <;> rfl)|rfl|(simp only [List.length_drop,List.length_take];rfl)) ?_
                with_reducible refine (impl_GroupTimes.calls kj43 _ _ x3_43 _ _ y731 bR bJ _ ?side1 ?side2 ?side3 ?side4 A119.out).mono ?_
                (case side1=>repeat (first|exact (iz7 HO_3.out).2.2|(with_reducible refine Kd.C_alloc ?_ _)|(with_reducible refine Kd.C_drewN ?_ _)|(with_reducible refine Kd.C_drew ?_)))
                (case side2=>exact (iz7 HO_3.out).2.1)
                (case side3=>repeat (first|exact (iz7 HO730.out).2.2|(with_reducible refine Kd.C_alloc ?_ _)|(with_reducible refine Kd.C_drewN ?_ _)|(with_reducible refine Kd.C_drew ?_)))
                (case side4=>rw [show y731.length = y728.length from (iz7 HO730.out).1.symm];exact (iz7 HO730.out).2.1)
                rintro e w145 ⟨v753,rfl,ho0,hb⟩
                refine ⟨_,rfl,?_⟩
                have n0_:=zz7 (jz7 (by (with_reducible repeat (first|apply az7|apply bz7|apply cz7));exact HO_3.out) (fz7 ho0) hb)
                have n1_:=zz7 (jz7 (by (with_reducible repeat (first|apply az7|apply bz7|apply cz7));exact HO_4.out) (fz7 ho0) hb)
                have n2_:=zz7 (jz7 (by (with_reducible repeat (first|apply az7|apply bz7|apply cz7));exact HO_680001.out) (fz7 ho0) hb)
                have n3_:=zz7 (jz7 (by (with_reducible repeat (first|apply az7|apply bz7|apply cz7));exact HO_691001.out) (fz7 ho0) hb)
                have n4_:=zz7 (jz7 (by (with_reducible repeat (first|apply az7|apply bz7|apply cz7));exact HO730.out) (fz7 ho0) hb)
                have n5_:=zz7 (jz7 (by (with_reducible repeat (first|apply az7|apply bz7|apply cz7));exact HO737.out) (fz7 ho0) hb)
                have n6_:=zz7 (jz7 (by (with_reducible repeat (first|apply az7|apply bz7|apply cz7));exact HO744.out) (fz7 ho0) hb)
                have n7_:=zz7 (jz7 (by (with_reducible repeat (first|apply az7|apply bz7|apply cz7));exact HO749.out) (fz7 ho0) hb)
                have n8_:=zz7 (Kd.R_lower (kz7 (kz7 (kz7 (kz7 (kz7 (kz7 (kz7 (kz7 ho0 (Kd.R_lt (by (with_reducible repeat (first|apply az7|apply bz7|apply cz7));exact HO_3.out))) (Kd.R_lt (by (with_reducible repeat (first|apply az7|apply bz7|apply cz7));exact HO_4.out))) (Kd.R_lt (by (with_reducible repeat (first|apply az7|apply bz7|apply cz7));exact HO_680001.out))) (Kd.R_lt (by (with_reducible repeat (first|apply az7|apply bz7|apply cz7));exact HO_691001.out))) (Kd.R_lt (by (with_reducible repeat (first|apply az7|apply bz7|apply cz7));exact HO730.out))) (Kd.R_lt (by (with_reducible repeat (first|apply az7|apply bz7|apply cz7));exact HO737.out))) (Kd.R_lt (by (with_reducible repeat (first|apply az7|apply bz7|apply cz7));exact HO744.out))) (Kd.R_lt (by (with_reducible repeat (first|apply az7|apply bz7|apply cz7));exact HO749.out))) (below_size (by repeat(first|(with_reducible first|exact HB.out|apply by7|apply ay7|apply cy7|refine dy7 ?_ GE679.out|refine dy7 ?_ GE690.out)|exact HB.out))))
                have n9_:=zz7 (hy7 (g:=gb679) (o:=.cells #[.int .i64 aI,.slice Ao141 x680001_43.length co141] 26 (0,0)) (by (with_reducible repeat (first|refine ey7 ?_ _|refine gy7 ?_|refine fy7 ?_ _));exact BK679.out) hb)
                have n10_:=zz7 (hy7 (g:=gb690) (o:=.cells #[.int .i64 aD,u691001] 26 (0,0)) (by (with_reducible repeat (first|refine ey7 ?_ _|refine gy7 ?_|refine fy7 ?_ _));exact BK690.out) hb)
                have n11_:=zz7 (below_step (by repeat(first|(with_reducible first|exact HB.out|apply by7|apply ay7|apply cy7|refine dy7 ?_ GE679.out|refine dy7 ?_ GE690.out)|exact HB.out)) hb)
                clear HO_3
                clear HO_4
                clear HO_680001
                clear HO_691001
                clear HO730
                clear HO737
                clear HO744
                clear HO749
                clear BK679
                clear BK690
                clear HB
                have HO_3:=n0_
                have HO_4:=n1_
                have HO_680001:=n2_
                have HO_691001:=n3_
                have HO730:=n4_
                have HO737:=n5_
                have HO744:=n6_
                have HO749:=n7_
                have HO754:=n8_
                have BK679:=n9_
                have BK690:=n10_
                have HB:=n11_
                clear n0_ n1_ n2_ n3_ n4_ n5_ n6_ n7_ n8_ n9_ n10_ n11_
                (try clear hb);(try clear hb2);(try clear hk)
                (try clear hi)
                (try clear ho0)
                obtain⟨Ao146,co146,eo146⟩:=Kd.R_slice HO754.out
                (first|subst eo146|(injection eo146 with f1_ f2_ f3_;have f4_:=f1_.symm;have f5_:=f3_.symm;clear f1_ f2_ f3_;subst f4_;subst f5_))
                refine hK.out _ _ ⟨(blk_cell BK679.out 0).trans rfl,(blk_cell BK679.out 1).trans rfl⟩ (fun hHeld=>?_)
                clear hK K
                refine norm_ (a':=?_) ?_ ?_
                rotate_left
                ·show Act.put _ (some 138) _ = _
                 simp only [Act.put,sa_,sb_,sc_,i64_w]
                 rfl
                refine pure_ (i:=20) (N:=some 139) (v:=?_) (a':=?_) #[Y,Y,Y,Y,Y,Y,Y,Y,Y,Y,Y,Y,Y,Y,Y,Y,Y,Y,Y,Y,Y,Y,Z,Z,Z,Z,Z,Z,Z,Z,Z,Z,Z,Z,Z,Z,Z,Z,Z,Z,Z] rfl rfl (any_of HT_.out (by kernel_rfl)) (fun _ _ _ h=>h) (Or.inl ⟨by rfl,?_⟩) ?_ ?_
                rotate_left
                ·intro w';go_simp;with_reducible rfl
                rotate_left
                ·simp only [Act.put,sa_,sb_,sc_,i64_w];rfl
                refine one_ (i:=22) (N:=some 141) #[Y,Y,Y,Y,Y,Y,Y,Y,Y,Y,Y,Y,Y,Y,Y,Y,Y,Y,Y,Y,Y,Y,Y,Z,Z,Z,Z,Z,Z,Z,Z,Z,Z,Z,Z,Z,Z,Z,Z,Z,Z] rfl rfl (one_of HT_.out (by kernel_rfl)) (by decide) (fun K hK=>?_)
                refine goes_ Try.func17 (by kernel_rfl) rfl #[.slice Ao146 bJ.length co146,.slice Ao10 x3_43.length co10] (by rfl) rfl rfl (by (try simp only [List.map_toArray,List.map_cons,List.map_nil]);first|done|rfl|(simp only [List.length_drop,List.length_take];rfl)) ?_
                with_reducible refine (laws_lwSame.calls _ _ bJ _ _ x3_43 true _ ?side1 ?side2 ?side3 ?side4 A120.out).mono ?_
                (case side1=>repeat (first|exact (iz7 HO754.out).2.2|(with_reducible refine Kd.C_alloc ?_ _)|(with_reducible refine Kd.C_drewN ?_ _)|(with_reducible refine Kd.C_drew ?_)))
                (case side2=>exact (iz7 HO754.out).2.1)
                (case side3=>repeat (first|exact (iz7 HO_3.out).2.2|(with_reducible refine Kd.C_alloc ?_ _)|(with_reducible refine Kd.C_drewN ?_ _)|(with_reducible refine Kd.C_drew ?_)))
                (case side4=>exact (iz7 HO_3.out).2.1)
                rintro e w' ⟨rfl,⟨nd,rfl⟩⟩
                refine ⟨_,rfl,?_⟩
                refine hK.out _ _ ⟨(blk_cell BK679.out 0).trans rfl,(blk_cell BK679.out 1).trans rfl⟩ (fun hHeld=>?_)
                clear hK K
                refine norm_ (a':=?_) ?_ ?_
                rotate_left
                ·show Act.put _ (some 141) _ = _
                 simp only [Act.put,sa_,sb_,sc_,i64_w]
                 rfl
                refine pure_ (i:=23) (N:=some 142) (v:=?_) (a':=?_) #[Y,Y,Y,Y,Y,Y,Y,Y,Y,Y,Y,Y,Y,Y,Y,Y,Y,Y,Y,Y,Y,Y,Y,Y,Z,Z,Z,Z,Z,Z,Z,Z,Z,Z,Z,Z,Z,Z,Z,Z,Z] rfl rfl (any_of HT_.out (by kernel_rfl)) (fun _ _ _ h=>h) (Or.inl ⟨by rfl,?_⟩) ?_ ?_
                rotate_left
                ·intro w';go_simp;with_reducible rfl
                rotate_left
                ·simp only [Act.put,sa_,sb_,sc_,i64_w];rfl
                refine pure_ (i:=24) (N:=some 143) (v:=?_) (a':=?_) #[Y,Y,Y,Y,Y,Y,Y,Y,Y,Y,Y,Y,Y,Y,Y,Y,Y,Y,Y,Y,Y,Y,Y,Y,Y,Z,Z,Z,Z,Z,Z,Z,Z,Z,Z,Z,Z,Z,Z,Z,Z] rfl rfl (any_of HT_.out (by kernel_rfl)) (fun _ _ _ h=>h) (Or.inl ⟨by rfl,?_⟩) ?_ ?_
                rotate_left
                ·intro w';go_simp;with_reducible rfl
                rotate_left
                ·simp only [Act.put,sa_,sb_,sc_,i64_w];rfl
                refine pure_ (i:=25) (N:=some 144) (v:=?_) (a':=?_) #[Y,Y,Y,Y,Y,Y,Y,Y,Y,Y,Y,Y,Y,Y,Y,Y,Y,Y,Y,Y,Y,Y,Y,Y,Y,Y,Z,Z,Z,Z,Z,Z,Z,Z,Z,Z,Z,Z,Z,Z,Z] rfl rfl (any_of HT_.out (by kernel_rfl)) (fun _ _ _ h=>h) (Or.inl ⟨by rfl,?_⟩) ?_ ?_
                rotate_left
                ·intro w';go_simp;with_reducible rfl
                rotate_left
                ·simp only [Act.put,sa_,sb_,sc_,i64_w];rfl
                refine pure_ (i:=26) (N:=some 145) (v:=?_) (a':=?_) #[Y,Y,Y,Y,Y,Y,Y,Y,Y,Y,Y,Y,Y,Y,Y,Y,Y,Y,Y,Y,Y,Y,Y,Y,Y,Y,Y,Z,Z,Z,Z,Z,Z,Z,Z,Z,Z,Z,Z,Z,Z] rfl rfl (any_of HT_.out (by kernel_rfl)) (fun _ _ _ h=>h) (Or.inl ⟨by rfl,?_⟩) ?_ ?_
                rotate_left
                ·intro w';go_simp;with_reducible rfl
                rotate_left
                ·simp only [Act.put,sa_,sb_,sc_,i64_w];rfl
                refine pure_ (i:=27) (N:=some 146) (v:=?_) (a':=?_) #[Y,Y,Y,Y,Y,Y,Y,Y,Y,Y,Y,Y,Y,Y,Y,Y,Y,Y,Y,Y,Y,Y,Y,Y,Y,Y,Y,Y,Z,Z,Z,Z,Z,Z,Z,Z,Z,Z,Z,Z,Z] rfl rfl (any_of HT_.out (by kernel_rfl)) (fun _ _ _ h=>h) (Or.inl ⟨by rfl,?_⟩) ?_ ?_
                rotate_left
                ·intro w';go_simp;with_reducible rfl
                rotate_left
                ·simp only [Act.put,sa_,sb_,sc_,i64_w];rfl
                refine pure_ (i:=31) (N:=some 150) (v:=?_) (a':=?_) #[Y,Y,Y,Y,Y,Y,Y,Y,Y,Y,Y,Y,Y,Y,Y,Y,Y,Y,Y,Y,Y,Y,Y,Y,Y,Y,Y,Y,Z,Z,Z,Y,Z,Z,Z,Z,Z,Z,Z,Z,Z] rfl rfl (any_of HT_.out (by kernel_rfl)) (fun _ _ _ h=>h) (Or.inl ⟨by rfl,?_⟩) ?_ ?_
                rotate_left
                ·intro w';go_simp;with_reducible rfl
                rotate_left
                ·simp only [Act.put,sa_,sb_,sc_,i64_w];rfl
                refine pure_ (i:=33) (N:=some 152) (v:=?_) (a':=?_) #[Y,Y,Y,Y,Y,Y,Y,Y,Y,Y,Y,Y,Y,Y,Y,Y,Y,Y,Y,Y,Y,Y,Y,Y,Y,Y,Y,Y,Z,Z,Z,Y,Z,Y,Z,Z,Z,Z,Z,Z,Z] rfl rfl (any_of HT_.out (by kernel_rfl)) (fun _ _ _ h=>h) (Or.inl ⟨by rfl,?_⟩) ?_ ?_
                rotate_left
                ·intro w';go_simp;with_reducible rfl
                rotate_left
                ·simp only [Act.put,sa_,sb_,sc_,i64_w];rfl
                refine pure_ (i:=34) (N:=some 153) (v:=?_) (a':=?_) #[Y,Y,Y,Y,Y,Y,Y,Y,Y,Y,Y,Y,Y,Y,Y,Y,Y,Y,Y,Y,Y,Y,Y,Y,Y,Y,Y,Y,Z,Z,Z,Y,Z,Y,Y,Z,Z,Z,Z,Z,Z] rfl rfl (any_of HT_.out (by kernel_rfl)) (fun _ _ _ h=>h) (Or.inl ⟨by rfl,?_⟩) ?_ ?_
                rotate_left
                ·intro w';go_simp;with_reducible rfl
                rotate_left
                ·simp only [Act.put,sa_,sb_,sc_,i64_w];rfl
                refine take_ (i:=32) (N:=some 151) (v:=?_) (a':=?_) #[Y,Y,Y,Y,Y,Y,Y,Y,Y,Y,Y,Y,Y,Y,Y,Y,Y,Y,Y,Y,Y,Y,Y,Y,Y,Y,Y,Y,Z,Z,Z,Y,Y,Y,Y,Z,Z,Z,Z,Z,Z] rfl rfl (take_ofW HT_.out HW_.out (by kernel_rfl)) (fun _ _ _ h=>h) (Or.inl ⟨by rfl,?_⟩) hHeld ?_ ?_
                rotate_left
                ·rintro w' ⟨s0,s1⟩
                 go_simp
                 with_reducible rfl
                rotate_left
                ·simp only [Act.put,sa_,sb_,sc_,i64_w];rfl
                refine one_ (i:=28) (N:=some 147) #[Y,Y,Y,Y,Y,Y,Y,Y,Y,Y,Y,Y,Y,Y,Y,Y,Y,Y,Y,Y,Y,Y,Y,Y,Y,Y,Y,Y,Y,Z,Z,Y,Y,Y,Y,Z,Z,Z,Z,Z,Z] rfl rfl (one_of HT_.out (by kernel_rfl)) (by decide) (fun K hK=>?_)
                refine goes_ Try.func27 (by kernel_rfl) rfl #[.slice Ao11 x4_43.length co11,.slice (some ⟨go112,0,none⟩) y740.length co136] (by rfl) rfl rfl (by (try simp only [List.map_toArray,List.map_cons,List.map_nil]);first|done|(rw [show y740.length = y735.length from (iz7 HO737.out).1.symm] <;> rfl)|rfl|(simp only [List.length_drop,List.length_take];rfl)) ?_
                with_reducible refine (laws_lwXor.calls kj43 _ _ x4_43 _ _ y740 aQ _ ?side1 ?side2 ?side3 ?side4 A122.out).mono ?_
                (case side1=>repeat (first|exact (iz7 HO_4.out).2.2|(with_reducible refine Kd.C_alloc ?_ _)|(with_reducible refine Kd.C_drewN ?_ _)|(with_reducible refine Kd.C_drew ?_)))
                (case side2=>exact (iz7 HO_4.out).2.1)
                (case side3=>repeat (first|exact (iz7 HO737.out).2.2|(with_reducible refine Kd.C_alloc ?_ _)|(with_reducible refine Kd.C_drewN ?_ _)|(with_reducible refine Kd.C_drew ?_)))
                (case side4=>rw [show y740.length = y735.length from (iz7 HO737.out).1.symm];exact (iz7 HO737.out).2.1)
                rintro e w147 ⟨v757,rfl,ho0,hb⟩
                refine ⟨_,rfl,?_⟩
                have n0_:=zz7 (jz7 (by (with_reducible repeat (first|apply az7|apply bz7|apply cz7));exact HO_3.out) (fz7 ho0) hb)
                have n1_:=zz7 (jz7 (by (with_reducible repeat (first|apply az7|apply bz7|apply cz7));exact HO_4.out) (fz7 ho0) hb)
                have n2_:=zz7 (jz7 (by (with_reducible repeat (first|apply az7|apply bz7|apply cz7));exact HO_680001.out) (fz7 ho0) hb)
                have n3_:=zz7 (jz7 (by (with_reducible repeat (first|apply az7|apply bz7|apply cz7));exact HO_691001.out) (fz7 ho0) hb)
                have n4_:=zz7 (jz7 (by (with_reducible repeat (first|apply az7|apply bz7|apply cz7));exact HO730.out) (fz7 ho0) hb)
                have n5_:=zz7 (jz7 (by (with_reducible repeat (first|apply az7|apply bz7|apply cz7));exact HO737.out) (fz7 ho0) hb)
                have n6_:=zz7 (jz7 (by (with_reducible repeat (first|apply az7|apply bz7|apply cz7));exact HO744.out) (fz7 ho0) hb)
                have n7_:=zz7 (jz7 (by (with_reducible repeat (first|apply az7|apply bz7|apply cz7));exact HO749.out) (fz7 ho0) hb)
                have n8_:=zz7 (jz7 (by (with_reducible repeat (first|apply az7|apply bz7|apply cz7));exact HO754.out) (fz7 ho0) hb)
                have n9_:=zz7 (Kd.R_lower (kz7 (kz7 (kz7 (kz7 (kz7 (kz7 (kz7 (kz7 (kz7 ho0 (Kd.R_lt (by (with_reducible repeat (first|apply az7|apply bz7|apply cz7));exact HO_3.out))) (Kd.R_lt (by (with_reducible repeat (first|apply az7|apply bz7|apply cz7));exact HO_4.out))) (Kd.R_lt (by (with_reducible repeat (first|apply az7|apply bz7|apply cz7));exact HO_680001.out))) (Kd.R_lt (by (with_reducible repeat (first|apply az7|apply bz7|apply cz7));exact HO_691001.out))) (Kd.R_lt (by (with_reducible repeat (first|apply az7|apply bz7|apply cz7));exact HO730.out))) (Kd.R_lt (by (with_reducible repeat (first|apply az7|apply bz7|apply cz7));exact HO737.out))) (Kd.R_lt (by (with_reducible repeat (first|apply az7|apply bz7|apply cz7));exact HO744.out))) (Kd.R_lt (by (with_reducible repeat (first|apply az7|apply bz7|apply cz7));exact HO749.out))) (Kd.R_lt (by (with_reducible repeat (first|apply az7|apply bz7|apply cz7));exact HO754.out))) (below_size (by repeat(first|(with_reducible first|exact HB.out|apply by7|apply ay7|apply cy7|refine dy7 ?_ GE679.out|refine dy7 ?_ GE690.out)|exact HB.out))))
                have n10_:=zz7 (hy7 (g:=gb679) (o:=.cells #[.int .i64 aI,.slice Ao141 x680001_43.length co141] 26 (0,0)) (by (with_reducible repeat (first|refine ey7 ?_ _|refine gy7 ?_|refine fy7 ?_ _));exact BK679.out) hb)
                have n11_:=zz7 (hy7 (g:=gb690) (o:=.cells #[.int .i64 aD,u691001] 26 (0,0)) (by (with_reducible repeat (first|refine ey7 ?_ _|refine gy7 ?_|refine fy7 ?_ _));exact BK690.out) hb)
                have n12_:=zz7 (below_step (by repeat(first|(with_reducible first|exact HB.out|apply by7|apply ay7|apply cy7|refine dy7 ?_ GE679.out|refine dy7 ?_ GE690.out)|exact HB.out)) hb)
                clear HO_3
                clear HO_4
                clear HO_680001
                clear HO_691001
                clear HO730
                clear HO737
                clear HO744
                clear HO749
                clear HO754
                clear BK679
                clear BK690
                clear HB
                have HO_3:=n0_
                have HO_4:=n1_
                have HO_680001:=n2_
                have HO_691001:=n3_
                have HO730:=n4_
                have HO737:=n5_
                have HO744:=n6_
                have HO749:=n7_
                have HO754:=n8_
                have HO758:=n9_
                have BK679:=n10_
                have BK690:=n11_
                have HB:=n12_
                clear n0_ n1_ n2_ n3_ n4_ n5_ n6_ n7_ n8_ n9_ n10_ n11_ n12_
                (try clear hb);(try clear hb2);(try clear hk)
                (try clear hi)
                (try clear ho0)
                obtain⟨Ao148,co148,eo148⟩:=Kd.R_slice HO758.out
                (first|subst eo148|(injection eo148 with f1_ f2_ f3_;have f4_:=f1_.symm;have f5_:=f3_.symm;clear f1_ f2_ f3_;subst f4_;subst f5_))
                refine hK.out _ _ ⟨(blk_cell BK679.out 0).trans rfl,(blk_cell BK679.out 1).trans rfl⟩ (fun hHeld=>?_)
                clear hK K
                refine norm_ (a':=?_) ?_ ?_
                rotate_left
                ·show Act.put _ (some 147) _ = _
                 simp only [Act.put,sa_,sb_,sc_,i64_w]
                 rfl
                refine one_ (i:=29) (N:=some 148) #[Y,Y,Y,Y,Y,Y,Y,Y,Y,Y,Y,Y,Y,Y,Y,Y,Y,Y,Y,Y,Y,Y,Y,Y,Y,Y,Y,Y,Y,Y,Z,Y,Y,Y,Y,Z,Z,Z,Z,Z,Z] rfl rfl (one_of HT_.out (by kernel_rfl)) (by decide) (fun K hK=>?_)
                refine goes_ Try.func44 (by kernel_rfl) rfl #[.slice Ao10 x3_43.length co10,.slice Ao148 aQ.length co148] (by rfl) rfl rfl (by (try simp only [List.map_toArray,List.map_cons,List.map_nil]);first|done|rfl|(simp only [List.length_drop,List.length_take];rfl)) ?_
                with_reducible refine (impl_GroupTimes.calls kj43 _ _ x3_43 _ _ aQ bS bD _ ?side1 ?side2 ?side3 ?side4 A123.out).mono ?_
                (case side1=>repeat (first|exact (iz7 HO_3.out).2.2|(with_reducible refine Kd.C_alloc ?_ _)|(with_reducible refine Kd.C_drewN ?_ _)|(with_reducible refine Kd.C_drew ?_)))
                (case side2=>exact (iz7 HO_3.out).2.1)
                (case side3=>repeat (first|exact (iz7 HO758.out).2.2|(with_reducible refine Kd.C_alloc ?_ _)|(with_reducible refine Kd.C_drewN ?_ _)|(with_reducible refine Kd.C_drew ?_)))
                (case side4=>exact (iz7 HO758.out).2.1)
                rintro e w149 ⟨v761,rfl,ho0,hb⟩
                refine ⟨_,rfl,?_⟩
                have n0_:=zz7 (jz7 (by (with_reducible repeat (first|apply az7|apply bz7|apply cz7));exact HO_3.out) (fz7 ho0) hb)
                have n1_:=zz7 (jz7 (by (with_reducible repeat (first|apply az7|apply bz7|apply cz7));exact HO_4.out) (fz7 ho0) hb)
                have n2_:=zz7 (jz7 (by (with_reducible repeat (first|apply az7|apply bz7|apply cz7));exact HO_680001.out) (fz7 ho0) hb)
                have n3_:=zz7 (jz7 (by (with_reducible repeat (first|apply az7|apply bz7|apply cz7));exact HO_691001.out) (fz7 ho0) hb)
                have n4_:=zz7 (jz7 (by (with_reducible repeat (first|apply az7|apply bz7|apply cz7));exact HO730.out) (fz7 ho0) hb)
                have n5_:=zz7 (jz7 (by (with_reducible repeat (first|apply az7|apply bz7|apply cz7));exact HO737.out) (fz7 ho0) hb)
                have n6_:=zz7 (jz7 (by (with_reducible repeat (first|apply az7|apply bz7|apply cz7));exact HO744.out) (fz7 ho0) hb)
                have n7_:=zz7 (jz7 (by (with_reducible repeat (first|apply az7|apply bz7|apply cz7));exact HO749.out) (fz7 ho0) hb)
                have n8_:=zz7 (jz7 (by (with_reducible repeat (first|apply az7|apply bz7|apply cz7));exact HO754.out) (fz7 ho0) hb)
                have n9_:=zz7 (jz7 (by (with_reducible repeat (first|apply az7|apply bz7|apply cz7));exact HO758.out) (fz7 ho0) hb)
                have n10_:=zz7 (Kd.R_lower (kz7 (kz7 (kz7 (kz7 (kz7 (kz7 (kz7 (kz7 (kz7 (kz7 ho0 (Kd.R_lt (by (with_reducible repeat (first|apply az7|apply bz7|apply cz7));exact HO_3.out))) (Kd.R_lt (by (with_reducible repeat (first|apply az7|apply bz7|apply cz7));exact HO_4.out))) (Kd.R_lt (by (with_reducible repeat (first|apply az7|apply bz7|apply cz7));exact HO_680001.out))) (Kd.R_lt (by (with_reducible repeat (first|apply az7|apply bz7|apply cz7));exact HO_691001.out))) (Kd.R_lt (by (with_reducible repeat (first|apply az7|apply bz7|apply cz7));exact HO730.out))) (Kd.R_lt (by (with_reducible repeat (first|apply az7|apply bz7|apply cz7));exact HO737.out))) (Kd.R_lt (by (with_reducible repeat (first|apply az7|apply bz7|apply cz7));exact HO744.out))) (Kd.R_lt (by (with_reducible repeat (first|apply az7|apply bz7|apply cz7));exact HO749.out))) (Kd.R_lt (by (with_reducible repeat (first|apply az7|apply bz7|apply cz7));exact HO754.out))) (Kd.R_lt (by (with_reducible repeat (first|apply az7|apply bz7|apply cz7));exact HO758.out))) (below_size (by repeat(first|(with_reducible first|exact HB.out|apply by7|apply ay7|apply cy7|refine dy7 ?_ GE679.out|refine dy7 ?_ GE690.out)|exact HB.out))))
                have n11_:=zz7 (hy7 (g:=gb679) (o:=.cells #[.int .i64 aI,.slice Ao141 x680001_43.length co141] 26 (0,0)) (by (with_reducible repeat (first|refine ey7 ?_ _|refine gy7 ?_|refine fy7 ?_ _));exact BK679.out) hb)
                have n12_:=zz7 (hy7 (g:=gb690) (o:=.cells #[.int .i64 aD,u691001] 26 (0,0)) (by (with_reducible repeat (first|refine ey7 ?_ _|refine gy7 ?_|refine fy7 ?_ _));exact BK690.out) hb)
                have n13_:=zz7 (below_step (by repeat(first|(with_reducible first|exact HB.out|apply by7|apply ay7|apply cy7|refine dy7 ?_ GE679.out|refine dy7 ?_ GE690.out)|exact HB.out)) hb)
                clear HO_3
                clear HO_4
                clear HO_680001
                clear HO_691001
                clear HO730
                clear HO737
                clear HO744
                clear HO749
                clear HO754
                clear HO758
                clear BK679
                clear BK690
                clear HB
                have HO_3:=n0_
                have HO_4:=n1_
                have HO_680001:=n2_
                have HO_691001:=n3_
                have HO730:=n4_
                have HO737:=n5_
                have HO744:=n6_
                have HO749:=n7_
                have HO754:=n8_
                have HO758:=n9_
                have HO762:=n10_
                have BK679:=n11_
                have BK690:=n12_
                have HB:=n13_
                clear n0_ n1_ n2_ n3_ n4_ n5_ n6_ n7_ n8_ n9_ n10_ n11_ n12_ n13_
                (try clear hb);(try clear hb2);(try clear hk)
                (try clear hi)
                (try clear ho0)
                refine hK.out _ _ ⟨(blk_cell BK679.out 0).trans rfl,(blk_cell BK679.out 1).trans rfl⟩ (fun hHeld=>?_)
                clear hK K
                refine norm_ (a':=?_) ?_ ?_
                rotate_left
                ·show Act.put _ (some 148) _ = _
                 simp only [Act.put,sa_,sb_,sc_,i64_w]
                 rfl
                refine pure_ (i:=30) (N:=some 149) (v:=?_) (a':=?_) #[Y,Y,Y,Y,Y,Y,Y,Y,Y,Y,Y,Y,Y,Y,Y,Y,Y,Y,Y,Y,Y,Y,Y,Y,Y,Y,Y,Y,Y,Y,Y,Y,Y,Y,Y,Z,Z,Z,Z,Z,Z] rfl rfl (any_of HT_.out (by kernel_rfl)) (fun _ _ _ h=>h) (Or.inl ⟨by rfl,?_⟩) ?_ ?_
                rotate_left
                ·intro w';go_simp;with_reducible rfl
                rotate_left
                ·simp only [Act.put,sa_,sb_,sc_,i64_w];rfl
                refine one_ (i:=35) (N:=some 154) #[Y,Y,Y,Y,Y,Y,Y,Y,Y,Y,Y,Y,Y,Y,Y,Y,Y,Y,Y,Y,Y,Y,Y,Y,Y,Y,Y,Y,Y,Y,Y,Y,Y,Y,Y,Y,Z,Z,Z,Z,Z] rfl rfl (one_of HT_.out (by kernel_rfl)) (by decide) (fun K hK=>?_)
                refine goes_ Try.func44 (by kernel_rfl) rfl #[.slice Ao10 x3_43.length co10,.slice (some ⟨go112,0,none⟩) y740.length co136] (by rfl) rfl rfl (by (try simp only [List.map_toArray,List.map_cons,List.map_nil]);first|done|(rw [show y740.length = y735.length from (iz7 HO737.out).1.symm] <;> rfl)|rfl|(simp only [List.length_drop,List.length_take];rfl)) ?_
                with_reducible refine (impl_GroupTimes.calls kj43 _ _ x3_43 _ _ y740 bT bK _ ?side1 ?side2 ?side3 ?side4 A124.out).mono ?_
                (case side1=>repeat (first|exact (iz7 HO_3.out).2.2|(with_reducible refine Kd.C_alloc ?_ _)|(with_reducible refine Kd.C_drewN ?_ _)|(with_reducible refine Kd.C_drew ?_)))
                (case side2=>exact (iz7 HO_3.out).2.1)
                (case side3=>repeat (first|exact (iz7 HO737.out).2.2|(with_reducible refine Kd.C_alloc ?_ _)|(with_reducible refine Kd.C_drewN ?_ _)|(with_reducible refine Kd.C_drew ?_)))
                (case side4=>rw [show y740.length = y735.length from (iz7 HO737.out).1.symm];exact (iz7 HO737.out).2.1)
                rintro e w150 ⟨v765,rfl,ho0,hb⟩
                refine ⟨_,rfl,?_⟩
                have n0_:=zz7 (jz7 (by (with_reducible repeat (first|apply az7|apply bz7|apply cz7));exact HO_3.out) (fz7 ho0) hb)
                have n1_:=zz7 (jz7 (by (with_reducible repeat (first|apply az7|apply bz7|apply cz7));exact HO_4.out) (fz7 ho0) hb)
                have n2_:=zz7 (jz7 (by (with_reducible repeat (first|apply az7|apply bz7|apply cz7));exact HO_680001.out) (fz7 ho0) hb)
                have n3_:=zz7 (jz7 (by (with_reducible repeat (first|apply az7|apply bz7|apply cz7));exact HO_691001.out) (fz7 ho0) hb)
                have n4_:=zz7 (jz7 (by (with_reducible repeat (first|apply az7|apply bz7|apply cz7));exact HO730.out) (fz7 ho0) hb)
                have n5_:=zz7 (jz7 (by (with_reducible repeat (first|apply az7|apply bz7|apply cz7));exact HO737.out) (fz7 ho0) hb)
                have n6_:=zz7 (jz7 (by (with_reducible repeat (first|apply az7|apply bz7|apply cz7));exact HO744.out) (fz7 ho0) hb)
                have n7_:=zz7 (jz7 (by (with_reducible repeat (first|apply az7|apply bz7|apply cz7));exact HO749.out) (fz7 ho0) hb)
                have n8_:=zz7 (jz7 (by (with_reducible repeat (first|apply az7|apply bz7|apply cz7));exact HO754.out) (fz7 ho0) hb)
                have n9_:=zz7 (jz7 (by (with_reducible repeat (first|apply az7|apply bz7|apply cz7));exact HO758.out) (fz7 ho0) hb)
                have n10_:=zz7 (jz7 (by (with_reducible repeat (first|apply az7|apply bz7|apply cz7));exact HO762.out) (fz7 ho0) hb)
                have n11_:=zz7 (Kd.R_lower (kz7 (kz7 (kz7 (kz7 (kz7 (kz7 (kz7 (kz7 (kz7 (kz7 (kz7 ho0 (Kd.R_lt (by (with_reducible repeat (first|apply az7|apply bz7|apply cz7));exact HO_3.out))) (Kd.R_lt (by (with_reducible repeat (first|apply az7|apply bz7|apply cz7));exact HO_4.out))) (Kd.R_lt (by (with_reducible repeat (first|apply az7|apply bz7|apply cz7));exact HO_680001.out))) (Kd.R_lt (by (with_reducible repeat (first|apply az7|apply bz7|apply cz7));exact HO_691001.out))) (Kd.R_lt (by (with_reducible repeat (first|apply az7|apply bz7|apply cz7));exact HO730.out))) (Kd.R_lt (by (with_reducible repeat (first|apply az7|apply bz7|apply cz7));exact HO737.out))) (Kd.R_lt (by (with_reducible repeat (first|apply az7|apply bz7|apply cz7));exact HO744.out))) (Kd.R_lt (by (with_reducible repeat (first|apply az7|apply bz7|apply cz7));exact HO749.out))) (Kd.R_lt (by (with_reducible repeat (first|apply az7|apply bz7|apply cz7));exact HO754.out))) (Kd.R_lt (by (with_reducible repeat (first|apply az7|apply bz7|apply cz7));exact HO758.out))) (Kd.R_lt (by (with_reducible repeat (first|apply az7|apply bz7|apply cz7));exact HO762.out))) (below_size (by repeat(first|(with_reducible first|exact HB.out|apply by7|apply ay7|apply cy7|refine dy7 ?_ GE679.out|refine dy7 ?_ GE690.out)|exact HB.out))))
                have n12_:=zz7 (hy7 (g:=gb679) (o:=.cells #[.int .i64 aI,.slice Ao141 x680001_43.length co141] 26 (0,0)) (by (with_reducible repeat (first|refine ey7 ?_ _|refine gy7 ?_|refine fy7 ?_ _));exact BK679.out) hb)
                have n13_:=zz7 (hy7 (g:=gb690) (o:=.cells #[.int .i64 aD,u691001] 26 (0,0)) (by (with_reducible repeat (first|refine ey7 ?_ _|refine gy7 ?_|refine fy7 ?_ _));exact BK690.out) hb)
                have n14_:=zz7 (below_step (by repeat(first|(with_reducible first|exact HB.out|apply by7|apply ay7|apply cy7|refine dy7 ?_ GE679.out|refine dy7 ?_ GE690.out)|exact HB.out)) hb)
                clear HO_3
                clear HO_4
                clear HO_680001
                clear HO_691001
                clear HO730
                clear HO737
                clear HO744
                clear HO749
                clear HO754
                clear HO758
                clear HO762
                clear BK679
                clear BK690
                clear HB
                have HO_3:=n0_
                have HO_4:=n1_
                have HO_680001:=n2_
                have HO_691001:=n3_
                have HO730:=n4_
                have HO737:=n5_
                have HO744:=n6_
                have HO749:=n7_
                have HO754:=n8_
                have HO758:=n9_
                have HO762:=n10_
                have HO766:=n11_
                have BK679:=n12_
                have BK690:=n13_
                have HB:=n14_
                clear n0_ n1_ n2_ n3_ n4_ n5_ n6_ n7_ n8_ n9_ n10_ n11_ n12_ n13_ n14_
                (try clear hb);(try clear hb2);(try clear hk)
                (try clear hi)
                (try clear ho0)
                obtain⟨Ao151,co151,eo151⟩:=Kd.R_slice HO766.out
                (first|subst eo151|(injection eo151 with f1_ f2_ f3_;have f4_:=f1_.symm;have f5_:=f3_.symm;clear f1_ f2_ f3_;subst f4_;subst f5_))
                refine hK.out _ _ ⟨(blk_cell BK679.out 0).trans rfl,(blk_cell BK679.out 1).trans rfl⟩ (fun hHeld=>?_)
                clear hK K
                refine norm_ (a':=?_) ?_ ?_
                rotate_left
                ·show Act.put _ (some 154) _ = _
                 simp only [Act.put,sa_,sb_,sc_,i64_w]
                 rfl
                refine pure_ (i:=36) (N:=some 155) (v:=?_) (a':=?_) #[Y,Y,Y,Y,Y,Y,Y,Y,Y,Y,Y,Y,Y,Y,Y,Y,Y,Y,Y,Y,Y,Y,Y,Y,Y,Y,Y,Y,Y,Y,Y,Y,Y,Y,Y,Y,Y,Z,Z,Z,Z] rfl rfl (any_of HT_.out (by kernel_rfl)) (fun _ _ _ h=>h) (Or.inl ⟨by rfl,?_⟩) ?_ ?_
                rotate_left
                ·intro w';go_simp;with_reducible rfl
                rotate_left
                ·simp only [Act.put,sa_,sb_,sc_,i64_w];rfl
                refine one_ (i:=37) (N:=some 156) #[Y,Y,Y,Y,Y,Y,Y,Y,Y,Y,Y,Y,Y,Y,Y,Y,Y,Y,Y,Y,Y,Y,Y,Y,Y,Y,Y,Y,Y,Y,Y,Y,Y,Y,Y,Y,Y,Y,Z,Z,Z] rfl rfl (one_of HT_.out (by kernel_rfl)) (by decide) (fun K hK=>?_)
                refine goes_ Try.func27 (by kernel_rfl) rfl #[.slice Ao141 x680001_43.length co141,.slice Ao151 bK.length co151] (by rfl) rfl rfl (by (try simp only [List.map_toArray,List.map_cons,List.map_nil]);first|done|rfl|(simp only [List.length_drop,List.length_take];rfl)) ?_
                with_reducible refine (laws_lwXor.calls kj43 _ _ x680001_43 _ _ bK aN _ ?side1 ?side2 ?side3 ?side4 A125.out).mono ?_
                (case side1=>repeat (first|exact (iz7 HO_680001.out).2.2|(with_reducible refine Kd.C_alloc ?_ _)|(with_reducible refine Kd.C_drewN ?_ _)|(with_reducible refine Kd.C_drew ?_)))
                (case side2=>exact (iz7 HO_680001.out).2.1)
                (case side3=>repeat (first|exact (iz7 HO766.out).2.2|(with_reducible refine Kd.C_alloc ?_ _)|(with_reducible refine Kd.C_drewN ?_ _)|(with_reducible refine Kd.C_drew ?_)))
                (case side4=>exact (iz7 HO766.out).2.1)
                rintro e w152 ⟨v768,rfl,ho0,hb⟩
                refine ⟨_,rfl,?_⟩
                have n0_:=zz7 (jz7 (by (with_reducible repeat (first|apply az7|apply bz7|apply cz7));exact HO_3.out) (fz7 ho0) hb)
                have n1_:=zz7 (jz7 (by (with_reducible repeat (first|apply az7|apply bz7|apply cz7));exact HO_4.out) (fz7 ho0) hb)
                have n2_:=zz7 (jz7 (by (with_reducible repeat (first|apply az7|apply bz7|apply cz7));exact HO_680001.out) (fz7 ho0) hb)
                have n3_:=zz7 (jz7 (by (with_reducible repeat (first|apply az7|apply bz7|apply cz7));exact HO_691001.out) (fz7 ho0) hb)
                have n4_:=zz7 (jz7 (by (with_reducible repeat (first|apply az7|apply bz7|apply cz7));exact HO730.out) (fz7 ho0) hb)
                have n5_:=zz7 (jz7 (by (with_reducible repeat (first|apply az7|apply bz7|apply cz7));exact HO737.out) (fz7 ho0) hb)
                have n6_:=zz7 (jz7 (by (with_reducible repeat (first|apply az7|apply bz7|apply cz7));exact HO744.out) (fz7 ho0) hb)
                have n7_:=zz7 (jz7 (by (with_reducible repeat (first|apply az7|apply bz7|apply cz7));exact HO749.out) (fz7 ho0) hb)
                have n8_:=zz7 (jz7 (by (with_reducible repeat (first|apply az7|apply bz7|apply cz7));exact HO754.out) (fz7 ho0) hb)
                have n9_:=zz7 (jz7 (by (with_reducible repeat (first|apply az7|apply bz7|apply cz7));exact HO758.out) (fz7 ho0) hb)
                have n10_:=zz7 (jz7 (by (with_reducible repeat (first|apply az7|apply bz7|apply cz7));exact HO762.out) (fz7 ho0) hb)
                have n11_:=zz7 (jz7 (by (with_reducible repeat (first|apply az7|apply bz7|apply cz7));exact HO766.out) (fz7 ho0) hb)
                have n12_:=zz7 (Kd.R_lower (kz7 (kz7 (kz7 (kz7 (kz7 (kz7 (kz7 (kz7 (kz7 (kz7 (kz7 (kz7 ho0 (Kd.R_lt (by (with_reducible repeat (first|apply az7|apply bz7|apply cz7));exact HO_3.out))) (Kd.R_lt (by (with_reducible repeat (first|apply az7|apply bz7|apply cz7));exact HO_4.out))) (Kd.R_lt (by (with_reducible repeat (first|apply az7|apply bz7|apply cz7));exact HO_680001.out))) (Kd.R_lt (by (with_reducible repeat (first|apply az7|apply bz7|apply cz7));exact HO_691001.out))) (Kd.R_lt (by (with_reducible repeat (first|apply az7|apply bz7|apply cz7));exact HO730.out))) (Kd.R_lt (by (with_reducible repeat (first|apply az7|apply bz7|apply cz7));exact HO737.out))) (Kd.R_lt (by (with_reducible repeat (first|apply az7|apply bz7|apply cz7));exact HO744.out))) (Kd.R_lt (by (with_reducible repeat (first|apply az7|apply bz7|apply cz7));exact HO749.out))) (Kd.R_lt (by (with_reducible repeat (first|apply az7|apply bz7|apply cz7));exact HO754.out))) (Kd.R_lt (by (with_reducible repeat (first|apply az7|apply bz7|apply cz7));exact HO758.out))) (Kd.R_lt (by (with_reducible repeat (first|apply az7|apply bz7|apply cz7));exact HO762.out))) (Kd.R_lt (by (with_reducible repeat (first|apply az7|apply bz7|apply cz7));exact HO766.out))) (below_size (by repeat(first|(with_reducible first|exact HB.out|apply by7|apply ay7|apply cy7|refine dy7 ?_ GE679.out|refine dy7 ?_ GE690.out)|exact HB.out))))
                have n13_:=zz7 (hy7 (g:=gb679) (o:=.cells #[.int .i64 aI,.slice Ao141 x680001_43.length co141] 26 (0,0)) (by (with_reducible repeat (first|refine ey7 ?_ _|refine gy7 ?_|refine fy7 ?_ _));exact BK679.out) hb)
                have n14_:=zz7 (hy7 (g:=gb690) (o:=.cells #[.int .i64 aD,u691001] 26 (0,0)) (by (with_reducible repeat (first|refine ey7 ?_ _|refine gy7 ?_|refine fy7 ?_ _));exact BK690.out) hb)
                have n15_:=zz7 (below_step (by repeat(first|(with_reducible first|exact HB.out|apply by7|apply ay7|apply cy7|refine dy7 ?_ GE679.out|refine dy7 ?_ GE690.out)|exact HB.out)) hb)
                clear HO_3
                clear HO_4
                clear HO_680001
                clear HO_691001
                clear HO730
                clear HO737
                clear HO744
                clear HO749
                clear HO754
                clear HO758
                clear HO762
                clear HO766
                clear BK679
                clear BK690
                clear HB
                have HO_3:=n0_
                have HO_4:=n1_
                have HO_680001:=n2_
                have HO_691001:=n3_
                have HO730:=n4_
                have HO737:=n5_
                have HO744:=n6_
                have HO749:=n7_
                have HO754:=n8_
                have HO758:=n9_
                have HO762:=n10_
                have HO766:=n11_
                have HO769:=n12_
                have BK679:=n13_
                have BK690:=n14_
                have HB:=n15_
                clear n0_ n1_ n2_ n3_ n4_ n5_ n6_ n7_ n8_ n9_ n10_ n11_ n12_ n13_ n14_ n15_
                (try clear hb);(try clear hb2);(try clear hk)
                (try clear hi)
                (try clear ho0)
                obtain⟨Ao153,co153,eo153⟩:=Kd.R_slice HO762.out
                (first|subst eo153|(injection eo153 with f1_ f2_ f3_;have f4_:=f1_.symm;have f5_:=f3_.symm;clear f1_ f2_ f3_;subst f4_;subst f5_))
                obtain⟨Ao154,co154,eo154⟩:=Kd.R_slice HO769.out
                (first|subst eo154|(injection eo154 with f1_ f2_ f3_;have f4_:=f1_.symm;have f5_:=f3_.symm;clear f1_ f2_ f3_;subst f4_;subst f5_))
                refine hK.out _ _ ⟨(blk_cell BK679.out 0).trans rfl,(blk_cell BK679.out 1).trans rfl⟩ (fun hHeld=>?_)
                clear hK K
                refine norm_ (a':=?_) ?_ ?_
                rotate_left
                ·show Act.put _ (some 156) _ = _
                 simp only [Act.put,sa_,sb_,sc_,i64_w]
                 rfl
                refine one_ (i:=38) (N:=some 157) #[Y,Y,Y,Y,Y,Y,Y,Y,Y,Y,Y,Y,Y,Y,Y,Y,Y,Y,Y,Y,Y,Y,Y,Y,Y,Y,Y,Y,Y,Y,Y,Y,Y,Y,Y,Y,Y,Y,Y,Z,Z] rfl rfl (one_of HT_.out (by kernel_rfl)) (by decide) (fun K hK=>?_)
                refine goes_ Try.func17 (by kernel_rfl) rfl #[.slice Ao153 bD.length co153,.slice Ao154 aN.length co154] (by rfl) rfl rfl (by (try simp only [List.map_toArray,List.map_cons,List.map_nil]);first|done|rfl|(simp only [List.length_drop,List.length_take];rfl)) ?_
                with_reducible refine (laws_lwSame.calls _ _ bD _ _ aN aP _ ?side1 ?side2 ?side3 ?side4 A126.out).mono ?_
                (case side1=>repeat (first|exact (iz7 HO762.out).2.2|(with_reducible refine Kd.C_alloc ?_ _)|(with_reducible refine Kd.C_drewN ?_ _)|(with_reducible refine Kd.C_drew ?_)))
                (case side2=>exact (iz7 HO762.out).2.1)
                (case side3=>repeat (first|exact (iz7 HO769.out).2.2|(with_reducible refine Kd.C_alloc ?_ _)|(with_reducible refine Kd.C_drewN ?_ _)|(with_reducible refine Kd.C_drew ?_)))
                (case side4=>exact (iz7 HO769.out).2.1)
                rintro e w' ⟨rfl,⟨nd,rfl⟩⟩
                refine ⟨_,rfl,?_⟩
                refine hK.out _ _ ⟨(blk_cell BK679.out 0).trans rfl,(blk_cell BK679.out 1).trans rfl⟩ (fun hHeld=>?_)
                clear hK K
                refine norm_ (a':=?_) ?_ ?_
                rotate_left
                ·show Act.put _ (some 157) _ = _
                 simp only [Act.put,sa_,sb_,sc_,i64_w]
                 rfl
                refine pure_ (i:=39) (N:=some 158) (v:=?_) (a':=?_) #[Y,Y,Y,Y,Y,Y,Y,Y,Y,Y,Y,Y,Y,Y,Y,Y,Y,Y,Y,Y,Y,Y,Y,Y,Y,Y,Y,Y,Y,Y,Y,Y,Y,Y,Y,Y,Y,Y,Y,Y,Z] rfl rfl (any_of HT_.out (by kernel_rfl)) (fun _ _ _ h=>h) (Or.inl ⟨by rfl,?_⟩) ?_ ?_
                rotate_left
                ·intro w';go_simp;with_reducible rfl
                rotate_left
                ·simp only [Act.put,sa_,sb_,sc_,i64_w];rfl
                refine pure_ (i:=40) (N:=some 2) (v:=?_) (a':=?_) #[Y,Y,Y,Y,Y,Y,Y,Y,Y,Y,Y,Y,Y,Y,Y,Y,Y,Y,Y,Y,Y,Y,Y,Y,Y,Y,Y,Y,Y,Y,Y,Y,Y,Y,Y,Y,Y,Y,Y,Y,Y] rfl rfl (any_of HT_.out (by kernel_rfl)) (fun _ _ _ h=>h) (Or.inl ⟨by rfl,?_⟩) ?_ ?_
                rotate_left
                ·intro w';go_simp;with_reducible rfl
                rotate_left
                ·simp only [Act.put,sa_,sb_,sc_,i64_w];rfl
                refine done_ (done_of HT_.out (by kernel_rfl)) ?_
                try go_wp2
                go_ret
                exact⟨by first|rfl|(simp [errW_none,errW_some] <;> rfl)|(simp [*,errW_none,errW_some] <;> rfl),by repeat (first|(with_reducible first|exact HB.out|apply by7|apply ay7|apply cy7|refine dy7 ?_ GE679.out|refine dy7 ?_ GE690.out)|exact HB.out)⟩
               ·replace c121:=Bool.eq_false_iff.mpr c121
                subst c121
                have H1 : (some false) = some r:=by rw [if_neg (show ¬ (false = true) by decide)] at H;exact H
                clear H
                have H:=H1
                clear H1
                exact absurd (Option.some.inj H) (by rw [HRT.out];decide)
              ·replace c118:=Bool.eq_false_iff.mpr c118
               subst c118
               have H1 : (some false) = some r:=by rw [if_neg (show ¬ (false = true) by decide)] at H;exact H
               clear H
               have H:=H1
               clear H1
               exact absurd (Option.some.inj H) (by rw [HRT.out];decide)
             ·replace c115:=Bool.eq_false_iff.mpr c115
              subst c115
              have H1 : (some false) = some r:=by rw [if_neg (show ¬ (false = true) by decide)] at H;exact H
              clear H
              have H:=H1
              clear H1
              exact absurd (Option.some.inj H) (by rw [HRT.out];decide)
            ·rw [if_neg c111] at H
             exact absurd H (by simp)
           ·rw [if_neg c110] at H
            exact absurd H (by simp)
          ·rw [if_neg c108] at H
           exact absurd H (by simp)
         ·rw [if_neg c106] at H
          exact absurd H (by simp)
        ·rw [if_neg c105] at H
         exact absurd H (by simp)
       ·rw [if_neg c104] at H
        have c104b0 : (aI == 0) = false:=beq_eq_false_iff_ne.mpr c104
        have c104b1 : (aI != 0) = true:=bne_iff_ne.mpr c104
        obtain rfl:=Option.some.inj H
        have hnb209:=NB679_690.out
        have hnc209:=NB690_679.out
        have hcz210_0 : wc.cell? ⟨gb679,0,none⟩ = some (.int .i64 aI):=(blk_cell BK679.out 0).trans rfl
        have hcz210_1 : wc.cell? ⟨gb679,1,none⟩ = some (u680001):=(blk_cell BK679.out 1).trans rfl
        have hfz210_0:=blk_frozen BK679.out 0
        have hfz210_1:=blk_frozen BK679.out 1
        go_wp2
        go_ret
        exact⟨by first|rfl|(simp [errW_none,errW_some] <;> rfl)|(simp [*,errW_none,errW_some] <;> rfl),by repeat (first|(with_reducible first|exact HB.out|apply by7|apply ay7|apply cy7|refine dy7 ?_ GE679.out|refine dy7 ?_ GE690.out)|exact HB.out)⟩
end Go.Proofs.Ytjfdcabgbcbdjaa.All
