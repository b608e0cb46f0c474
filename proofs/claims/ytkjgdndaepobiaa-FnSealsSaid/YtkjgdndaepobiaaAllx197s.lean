-- Laid by wip/shake.py of this repo out of this claim's texts. Not trusted: Lean checks it.
import Derived.Test.YtkjgdndaepobiaaAb0s
import Derived.Test.YtkjgdndaepobiaaAllx0s
import Derived.Test.YtkjgdndaepobiaaAllx20s
import Derived.Test.YtkjgdndaepobiaaAllx187s
import Derived.Test.YtkjgdndaepobiaaAllx541s
import Derived.Test.YtkjgdndaepobiaaAllx188s
import Derived.Test.YtkjgdndaepobiaaAllx542s
import Derived.Test.YtkjgdndaepobiaaAllx165s
import Derived.Test.YtkjgdndaepobiaaAllx167s
import Derived.Test.YtkjgdndaepobiaaAllx196s
namespace Go.Proofs.Ytkjgdndaepobiaa.All
open Go.RowKit Go.Proofs.YtkjgdndaepobiaaW.PrintWords Go.Proofs.YtkjgdndaepobiaaW.PrintLast Go.Proofs.YtkjgdndaepobiaaW.PrintMore
attribute [local go_sem] max2_int min2_int max_two min_two max_three min_three max_four min_four
set_option linter.unusedVariables false
set_option linter.unusedSimpArgs false
open Bool renaming true→Y,false→Z
open List renaming setIfInBounds_toArray→sa_,set_cons_zero→sb_,set_cons_succ→sc_
open Go.Proofs.YtkjgdndaepobiaaW.PrintWords.Kd renaming R_alloc→az5,R_drewN→bz5,R_drew→cz5,R_below→dz5,R_far→ez5,R_base→fz5,R_mono→gz5,R_types→hz5,R_reads'→iz5,R_elder'→jz5,R_new'→kz5
open Go.Proofs.YtkjgdndaepobiaaW.PrintWords renaming pw_below_drewN→ay5,below_alloc→by5,below_drew1→cy5,below_set→dy5,blk_drewN→ey5,blk_alloc→fy5,blk_drew→gy5,blk_below→hy5
open Aside0 renaming mk→zz5
attribute [local go_sem] fldSeals42_0 fldSeals42_1
set_option maxHeartbeats 8000000 in
set_option maxRecDepth 100000 in
theorem laws_FnSeals.calls (k:Nat) (A0:Option Addr) (c0:Nat) (l0:List Int) (r:Bool) (w:World) (hr0:Kd.C (Kd.int .u8) w A0 l0.length l0) (hc0:l0.length≤c0) (h:laws_FnSeals.f k l0=some r) (hrt:r=true) :
  Calls Try.prog 5 #[.slice A0 l0.length c0] w fun e w'=>e=.returned (.bool r)∧Below w.heap.size w w':=by
 have HRT:=zz5 hrt
 clear hrt
 have hu42:=Try.underlying42
 have HR0:=zz5 hr0
 have HC0:=zz5 hc0
 clear hr0 hc0
 have HB:=zz5 (Below.refl w.heap.size w)
 have H:((laws_lwBig.f l0).bind fun t542=>(if t542=true then (some true) else ((spec_DrawSealText.f k l0).bind fun bt543=>((impl_SealText.f bt543.1 bt543.2.1 bt543.2.2.1 bt543.2.2.2).bind fun bt555=>((spec_DrawOpenText.f k l0).bind fun bt560=>((impl_OpenText.f bt560.1 bt560.2.1 bt560.2.2.1 bt560.2.2.2).bind fun bt572=>((spec_SealText.f k bt543.1 bt543.2.1 bt543.2.2.1 bt543.2.2.2).bind fun bt577=>(if bt555.1=bt577.1 then ((spec_OpenText.f k bt560.1 bt560.2.1 bt560.2.2.1 bt560.2.2.2).bind fun bt581=>(if bt572.1=bt581.1 then ((spec_OpenText.f k bt560.1 bt560.2.1 bt560.2.2.1 bt560.2.2.2).bind fun bt585=>((laws_lwSame.f bt572.2 bt585.2).bind fun t589=>(laws_FnSeals.j0 k l0 bt543.1 bt543.2.1 bt543.2.2.1 bt543.2.2.2 bt560.1 bt560.2.1 bt560.2.2.1 bt560.2.2.2 (!t589) bt555.1 bt555.2 bt572.1 bt572.2))) else (laws_FnSeals.j0 k l0 bt543.1 bt543.2.1 bt543.2.2.1 bt543.2.2.2 bt560.1 bt560.2.1 bt560.2.2.1 bt560.2.2.2 true bt555.1 bt555.2 bt572.1 bt572.2))) else (laws_FnSeals.j0 k l0 bt543.1 bt543.2.1 bt543.2.2.1 bt543.2.2.2 bt560.1 bt560.2.1 bt560.2.2.1 bt560.2.2.2 true bt555.1 bt555.2 bt572.1 bt572.2)))))))))=some r:=h
 clear h
 replace H:=Option.bind_eq_some_iff.mp H
 obtain⟨t542,A20,H⟩:=H
 replace H:(if t542=true then (some true) else ((spec_DrawSealText.f k l0).bind fun bt543=>((impl_SealText.f bt543.1 bt543.2.1 bt543.2.2.1 bt543.2.2.2).bind fun bt555=>((spec_DrawOpenText.f k l0).bind fun bt560=>((impl_OpenText.f bt560.1 bt560.2.1 bt560.2.2.1 bt560.2.2.2).bind fun bt572=>((spec_SealText.f k bt543.1 bt543.2.1 bt543.2.2.1 bt543.2.2.2).bind fun bt577=>(if bt555.1=bt577.1 then ((spec_OpenText.f k bt560.1 bt560.2.1 bt560.2.2.1 bt560.2.2.2).bind fun bt581=>(if bt572.1=bt581.1 then ((spec_OpenText.f k bt560.1 bt560.2.1 bt560.2.2.1 bt560.2.2.2).bind fun bt585=>((laws_lwSame.f bt572.2 bt585.2).bind fun t589=>(laws_FnSeals.j0 k l0 bt543.1 bt543.2.1 bt543.2.2.1 bt543.2.2.2 bt560.1 bt560.2.1 bt560.2.2.1 bt560.2.2.2 (!t589) bt555.1 bt555.2 bt572.1 bt572.2))) else (laws_FnSeals.j0 k l0 bt543.1 bt543.2.1 bt543.2.2.1 bt543.2.2.2 bt560.1 bt560.2.1 bt560.2.2.1 bt560.2.2.2 true bt555.1 bt555.2 bt572.1 bt572.2))) else (laws_FnSeals.j0 k l0 bt543.1 bt543.2.1 bt543.2.2.1 bt543.2.2.2 bt560.1 bt560.2.1 bt560.2.2.1 bt560.2.2.2 true bt555.1 bt555.2 bt572.1 bt572.2))))))))=some r:=H
 have A2:=zz5 A20
 clear A20
 by_cases c3:t542=true
 ·subst c3
  have H1:(some true)=some r:=by rw[if_pos rfl] at H;exact H
  clear H
  have H:=H1
  clear H1
  obtain rfl:=Option.some.inj H
  go_enter Try.func5,Try.ntmps5
  go_wp2_with (first|((with_reducible refine gate_callee (f:=6) rfl ?_);refine goesL_ (some 15) rfl rfl Try.func6 (by kernel_rfl) rfl #[.slice A0 l0.length c0] rfl zq20 ?_;(with_reducible refine(laws_lwBig.calls _ _ l0 true _ ?side1 ?side2 A2.out).mono ?_);(case side1=>exact zq175);(case side2=>exact HC0.out);rintro e w' ⟨rfl,⟨nd,rfl⟩⟩;refine⟨_,rfl,?_⟩))
  go_ret
  exact⟨by first|rfl|(simp[errW_none,errW_some] <;> rfl)|(simp[*,errW_none,errW_some] <;> rfl),by repeat (first|(with_reducible first|exact HB.out|apply by5|apply ay5|apply cy5)|exact HB.out)⟩
 ·replace c3:=Bool.eq_false_iff.mpr c3
  subst c3
  have H1:((spec_DrawSealText.f k l0).bind fun bt543=>((impl_SealText.f bt543.1 bt543.2.1 bt543.2.2.1 bt543.2.2.2).bind fun bt555=>((spec_DrawOpenText.f k l0).bind fun bt560=>((impl_OpenText.f bt560.1 bt560.2.1 bt560.2.2.1 bt560.2.2.2).bind fun bt572=>((spec_SealText.f k bt543.1 bt543.2.1 bt543.2.2.1 bt543.2.2.2).bind fun bt577=>(if bt555.1=bt577.1 then ((spec_OpenText.f k bt560.1 bt560.2.1 bt560.2.2.1 bt560.2.2.2).bind fun bt581=>(if bt572.1=bt581.1 then ((spec_OpenText.f k bt560.1 bt560.2.1 bt560.2.2.1 bt560.2.2.2).bind fun bt585=>((laws_lwSame.f bt572.2 bt585.2).bind fun t589=>(laws_FnSeals.j0 k l0 bt543.1 bt543.2.1 bt543.2.2.1 bt543.2.2.2 bt560.1 bt560.2.1 bt560.2.2.1 bt560.2.2.2 (!t589) bt555.1 bt555.2 bt572.1 bt572.2))) else (laws_FnSeals.j0 k l0 bt543.1 bt543.2.1 bt543.2.2.1 bt543.2.2.2 bt560.1 bt560.2.1 bt560.2.2.1 bt560.2.2.2 true bt555.1 bt555.2 bt572.1 bt572.2))) else (laws_FnSeals.j0 k l0 bt543.1 bt543.2.1 bt543.2.2.1 bt543.2.2.2 bt560.1 bt560.2.1 bt560.2.2.1 bt560.2.2.2 true bt555.1 bt555.2 bt572.1 bt572.2)))))))=some r:=by rw[if_neg (show ¬ (false=true) by decide)] at H;exact H
  clear H
  have H:=H1
  clear H1
  replace H:=Option.bind_eq_some_iff.mp H
  obtain⟨⟨t543,t544,t545,t546⟩,A40,H⟩:=H
  replace H:((impl_SealText.f t543 t544 t545 t546).bind fun bt555=>((spec_DrawOpenText.f k l0).bind fun bt560=>((impl_OpenText.f bt560.1 bt560.2.1 bt560.2.2.1 bt560.2.2.2).bind fun bt572=>((spec_SealText.f k t543 t544 t545 t546).bind fun bt577=>(if bt555.1=bt577.1 then ((spec_OpenText.f k bt560.1 bt560.2.1 bt560.2.2.1 bt560.2.2.2).bind fun bt581=>(if bt572.1=bt581.1 then ((spec_OpenText.f k bt560.1 bt560.2.1 bt560.2.2.1 bt560.2.2.2).bind fun bt585=>((laws_lwSame.f bt572.2 bt585.2).bind fun t589=>(laws_FnSeals.j0 k l0 t543 t544 t545 t546 bt560.1 bt560.2.1 bt560.2.2.1 bt560.2.2.2 (!t589) bt555.1 bt555.2 bt572.1 bt572.2))) else (laws_FnSeals.j0 k l0 t543 t544 t545 t546 bt560.1 bt560.2.1 bt560.2.2.1 bt560.2.2.2 true bt555.1 bt555.2 bt572.1 bt572.2))) else (laws_FnSeals.j0 k l0 t543 t544 t545 t546 bt560.1 bt560.2.1 bt560.2.2.1 bt560.2.2.2 true bt555.1 bt555.2 bt572.1 bt572.2))))))=some r:=H
  have A4:=zz5 A40
  clear A40
  replace H:=Option.bind_eq_some_iff.mp H
  obtain⟨⟨t555,t556⟩,A50,H⟩:=H
  replace H:((spec_DrawOpenText.f k l0).bind fun bt560=>((impl_OpenText.f bt560.1 bt560.2.1 bt560.2.2.1 bt560.2.2.2).bind fun bt572=>((spec_SealText.f k t543 t544 t545 t546).bind fun bt577=>(if t555=bt577.1 then ((spec_OpenText.f k bt560.1 bt560.2.1 bt560.2.2.1 bt560.2.2.2).bind fun bt581=>(if bt572.1=bt581.1 then ((spec_OpenText.f k bt560.1 bt560.2.1 bt560.2.2.1 bt560.2.2.2).bind fun bt585=>((laws_lwSame.f bt572.2 bt585.2).bind fun t589=>(laws_FnSeals.j0 k l0 t543 t544 t545 t546 bt560.1 bt560.2.1 bt560.2.2.1 bt560.2.2.2 (!t589) t555 t556 bt572.1 bt572.2))) else (laws_FnSeals.j0 k l0 t543 t544 t545 t546 bt560.1 bt560.2.1 bt560.2.2.1 bt560.2.2.2 true t555 t556 bt572.1 bt572.2))) else (laws_FnSeals.j0 k l0 t543 t544 t545 t546 bt560.1 bt560.2.1 bt560.2.2.1 bt560.2.2.2 true t555 t556 bt572.1 bt572.2)))))=some r:=H
  have A5:=zz5 A50
  clear A50
  replace H:=Option.bind_eq_some_iff.mp H
  obtain⟨⟨t560,t561,t562,t563⟩,A60,H⟩:=H
  replace H:((impl_OpenText.f t560 t561 t562 t563).bind fun bt572=>((spec_SealText.f k t543 t544 t545 t546).bind fun bt577=>(if t555=bt577.1 then ((spec_OpenText.f k t560 t561 t562 t563).bind fun bt581=>(if bt572.1=bt581.1 then ((spec_OpenText.f k t560 t561 t562 t563).bind fun bt585=>((laws_lwSame.f bt572.2 bt585.2).bind fun t589=>(laws_FnSeals.j0 k l0 t543 t544 t545 t546 t560 t561 t562 t563 (!t589) t555 t556 bt572.1 bt572.2))) else (laws_FnSeals.j0 k l0 t543 t544 t545 t546 t560 t561 t562 t563 true t555 t556 bt572.1 bt572.2))) else (laws_FnSeals.j0 k l0 t543 t544 t545 t546 t560 t561 t562 t563 true t555 t556 bt572.1 bt572.2))))=some r:=H
  have A6:=zz5 A60
  clear A60
  replace H:=Option.bind_eq_some_iff.mp H
  obtain⟨⟨t572,t573⟩,A70,H⟩:=H
  replace H:((spec_SealText.f k t543 t544 t545 t546).bind fun bt577=>(if t555=bt577.1 then ((spec_OpenText.f k t560 t561 t562 t563).bind fun bt581=>(if t572=bt581.1 then ((spec_OpenText.f k t560 t561 t562 t563).bind fun bt585=>((laws_lwSame.f t573 bt585.2).bind fun t589=>(laws_FnSeals.j0 k l0 t543 t544 t545 t546 t560 t561 t562 t563 (!t589) t555 t556 t572 t573))) else (laws_FnSeals.j0 k l0 t543 t544 t545 t546 t560 t561 t562 t563 true t555 t556 t572 t573))) else (laws_FnSeals.j0 k l0 t543 t544 t545 t546 t560 t561 t562 t563 true t555 t556 t572 t573)))=some r:=H
  have A7:=zz5 A70
  clear A70
  have HC8:=zz5 H
  clear H
  go_enter Try.func5,Try.ntmps5
  go_upto_region 7 with (first|((with_reducible refine gate_callee (f:=6) rfl ?_);refine goesL_ (some 15) rfl rfl Try.func6 (by kernel_rfl) rfl #[.slice A0 l0.length c0] rfl zq20 ?_;(with_reducible refine(laws_lwBig.calls _ _ l0 false _ ?side1 ?side2 A2.out).mono ?_);(case side1=>exact zq175);(case side2=>exact HC0.out);rintro e w' ⟨rfl,⟨nd,rfl⟩⟩;refine⟨_,rfl,?_⟩)|((with_reducible refine gate_callee (f:=22) rfl ?_);refine goesL_ (some 18) rfl rfl Try.func22 (by kernel_rfl) rfl #[.slice A0 l0.length c0] rfl zq20 ?_;(with_reducible refine(spec_DrawSealText.calls k _ _ l0 t543 t544 t545 t546 _ ?side1 ?side2 A4.out).mono ?_);(case side1=>exact zq175);(case side2=>exact HC0.out);rintro e w9 ⟨v547,v549,v551,v553,rfl,ho0,ho1,ho2,ho3,hb⟩;refine⟨_,rfl,?_⟩;have n0_:=zz5 (Kd.R_lower ho0 (below_size zq88));have n1_:=zz5 (Kd.R_lower ho1 (below_size zq88));have n2_:=zz5 (Kd.R_lower ho2 (below_size zq88));have n3_:=zz5 (Kd.R_lower ho3 (below_size zq88));have n4_:=zz5 (below_step zq88 hb);clear HB;have HO548:=n0_;have HO550:=n1_;have HO552:=n2_;have HO554:=n3_;have HB:=n4_;clear n0_ n1_ n2_ n3_ n4_;(try clear hb);(try clear hb2);(try clear hk);(try clear hi);(try clear ho0);(try clear ho1);(try clear ho2);(try clear ho3);obtain⟨Ao10,co10,eo10⟩:=Kd.R_slice HO548.out;subst eo10;obtain⟨Ao11,co11,eo11⟩:=Kd.R_slice HO550.out;subst eo11;obtain⟨Ao12,co12,eo12⟩:=Kd.R_slice HO552.out;subst eo12;obtain⟨Ao13,co13,eo13⟩:=Kd.R_slice HO554.out;subst eo13)|((with_reducible refine gate_callee (f:=23) rfl ?_);refine goesL_ (some 27) rfl rfl Try.func23 (by kernel_rfl) rfl #[.slice Ao10 t543.length co10,.slice Ao11 t544.length co11,.slice Ao12 t545.length co12,.slice Ao13 t546.length co13] rfl zq20 ?_;(with_reducible refine(impl_SealText.calls _ _ t543 _ _ t544 _ _ t545 _ _ t546 t555 t556 _ ?side1 ?side2 ?side3 ?side4 ?side5 ?side6 ?side7 ?side8 A5.out).mono ?_);(case side1=>exact zq127);(case side2=>exact(iz5 HO548.out).2.1);(case side3=>exact zq128);(case side4=>exact(iz5 HO550.out).2.1);(case side5=>exact zq129);(case side6=>exact(iz5 HO552.out).2.1);(case side7=>exact zq130);(case side8=>exact(iz5 HO554.out).2.1);rintro e w14 ⟨v557,rfl,ho0,hb⟩;refine⟨_,rfl,?_⟩;have n0_:=zz5 (jz5 zq36 (fz5 ho0) hb);have n1_:=zz5 (jz5 zq37 (fz5 ho0) hb);have n2_:=zz5 (jz5 zq38 (fz5 ho0) hb);have n3_:=zz5 (jz5 zq39 (fz5 ho0) hb);have n4_:=zz5 (Kd.R_lower (kz5 (kz5 (kz5 (kz5 ho0 (Kd.R_lt zq36)) (Kd.R_lt zq37)) (Kd.R_lt zq38)) (Kd.R_lt zq39)) (below_size zq88));have n5_:=zz5 (below_step zq88 hb);clear HO548;clear HO550;clear HO552;clear HO554;clear HB;have HO548:=n0_;have HO550:=n1_;have HO552:=n2_;have HO554:=n3_;have HO558:=n4_;have HB:=n5_;clear n0_ n1_ n2_ n3_ n4_ n5_;(try clear hb);(try clear hb2);(try clear hk);(try clear hi);(try clear ho0))|((with_reducible refine gate_dst (N:=7) rfl ?_);refine box_event ?hg (N:=7) ?hd (cs:=#[.int .i64 0,.slice none 0 0]) (t:=42) ?hr ?_;(case hd=>rfl);(case hg=>rfl);(case hr=>first|(go_simp;done)|(go_simp;rfl));intro gb559 hg w15 hbox hb;have n0_:=zz5 (dz5 zq36 hb);have n1_:=zz5 (dz5 zq37 hb);have n2_:=zz5 (dz5 zq38 hb);have n3_:=zz5 (dz5 zq39 hb);have n4_:=zz5 (dz5 zq45 hb);have n5_:=zz5 (below_step zq88 hb);have n6_:=zz5 (hbox);have n7_:=zz5 ((by rw[hg];exact(below_size zq88):w.heap.size≤gb559));have n8_:=zz5 ((by rw[hg];exact(below_size zq88):w.heap.size≤gb559));clear HO548;clear HO550;clear HO552;clear HO554;clear HO558;clear HB;have HO548:=n0_;have HO550:=n1_;have HO552:=n2_;have HO554:=n3_;have HO558:=n4_;have HB:=n5_;have BK559:=n6_;have GW559:=n7_;have GE559:=n8_;clear n0_ n1_ n2_ n3_ n4_ n5_ n6_ n7_ n8_;clear hb hbox hg;have hcz16_0:w15.cell? ⟨gb559,0,none⟩=some (.int .i64 0):=(blk_cell BK559.out 0).trans rfl;have hcz16_1:w15.cell? ⟨gb559,1,none⟩=some (.slice none 0 0):=(blk_cell BK559.out 1).trans rfl;have hfz16_0:=blk_frozen BK559.out 0;have hfz16_1:=blk_frozen BK559.out 1;obtain⟨Ao17,co17,eo17⟩:=Kd.R_slice HO558.out;subst eo17)|((with_reducible refine gate_callee (f:=24) rfl ?_);refine goesL_ (some 30) rfl rfl Try.func24 (by kernel_rfl) rfl #[.slice A0 l0.length c0] rfl zq20 ?_;(with_reducible refine(spec_DrawOpenText.calls k _ _ l0 t560 t561 t562 t563 _ ?side1 ?side2 A6.out).mono ?_);(case side1=>exact Kd.C_below HR0.out zq46);(case side2=>exact HC0.out);rintro e w18 ⟨v564,v566,v568,v570,rfl,ho0,ho1,ho2,ho3,hb⟩;refine⟨_,rfl,?_⟩;have n0_:=zz5 (gz5 (Kd.R_told (Kd.R_told (Kd.R_told (Kd.R_told (Kd.R_old zq55 hb) (fz5 ho0)) (fz5 ho1)) (fz5 ho2)) (fz5 ho3)) (fun _ h_=>h_.1));have n1_:=zz5 (gz5 (Kd.R_told (Kd.R_told (Kd.R_told (Kd.R_told (Kd.R_old zq56 hb) (fz5 ho0)) (fz5 ho1)) (fz5 ho2)) (fz5 ho3)) (fun _ h_=>h_.1));have n2_:=zz5 (gz5 (Kd.R_told (Kd.R_told (Kd.R_told (Kd.R_told (Kd.R_old zq57 hb) (fz5 ho0)) (fz5 ho1)) (fz5 ho2)) (fz5 ho3)) (fun _ h_=>h_.1));have n3_:=zz5 (gz5 (Kd.R_told (Kd.R_told (Kd.R_told (Kd.R_told (Kd.R_old zq58 hb) (fz5 ho0)) (fz5 ho1)) (fz5 ho2)) (fz5 ho3)) (fun _ h_=>h_.1));have n4_:=zz5 (gz5 (Kd.R_told (Kd.R_told (Kd.R_told (Kd.R_told (Kd.R_old zq59 hb) (fz5 ho0)) (fz5 ho1)) (fz5 ho2)) (fz5 ho3)) (fun _ h_=>h_.1));have n5_:=zz5 (Kd.R_lower (kz5 (kz5 (kz5 (kz5 (kz5 ho0 (Kd.R_lt zq55)) (Kd.R_lt zq56)) (Kd.R_lt zq57)) (Kd.R_lt zq58)) (Kd.R_lt zq59)) (below_size zq46));have n6_:=zz5 (Kd.R_lower (kz5 (kz5 (kz5 (kz5 (kz5 ho1 (Kd.R_lt zq55)) (Kd.R_lt zq56)) (Kd.R_lt zq57)) (Kd.R_lt zq58)) (Kd.R_lt zq59)) (below_size zq46));have n7_:=zz5 (Kd.R_lower (kz5 (kz5 (kz5 (kz5 (kz5 ho2 (Kd.R_lt zq55)) (Kd.R_lt zq56)) (Kd.R_lt zq57)) (Kd.R_lt zq58)) (Kd.R_lt zq59)) (below_size zq46));have n8_:=zz5 (Kd.R_lower (kz5 (kz5 (kz5 (kz5 (kz5 ho3 (Kd.R_lt zq55)) (Kd.R_lt zq56)) (Kd.R_lt zq57)) (Kd.R_lt zq58)) (Kd.R_lt zq59)) (below_size zq46));have n9_:=zz5 (hy5 (g:=gb559) (o:=.cells #[.int .i64 t555,.slice Ao17 t556.length co17] 42 (0,0)) (by(with_reducible repeat (first|refine ey5 ?_ _|refine gy5 ?_|refine fy5 ?_ _));refine blk_put (cs:=#[.int .i64 t555,.slice none 0 0]) ?_ 1 _ rfl;(with_reducible repeat (first|refine ey5 ?_ _|refine gy5 ?_|refine fy5 ?_ _));refine blk_put (cs:=#[.int .i64 0,.slice none 0 0]) ?_ 0 _ rfl;(with_reducible repeat (first|refine ey5 ?_ _|refine gy5 ?_|refine fy5 ?_ _));exact BK559.out) hb);have n10_:=zz5 (below_step zq46 hb);clear HO548;clear HO550;clear HO552;clear HO554;clear HO558;clear BK559;clear HB;have HO548:=n0_;have HO550:=n1_;have HO552:=n2_;have HO554:=n3_;have HO558:=n4_;have HO565:=n5_;have HO567:=n6_;have HO569:=n7_;have HO571:=n8_;have BK559:=n9_;have HB:=n10_;clear n0_ n1_ n2_ n3_ n4_ n5_ n6_ n7_ n8_ n9_ n10_;(try clear hb);(try clear hb2);(try clear hk);(try clear hi);(try clear ho0);(try clear ho1);(try clear ho2);(try clear ho3);obtain⟨Ao19,co19,eo19⟩:=Kd.R_slice HO565.out;subst eo19;obtain⟨Ao20,co20,eo20⟩:=Kd.R_slice HO567.out;subst eo20;obtain⟨Ao21,co21,eo21⟩:=Kd.R_slice HO569.out;subst eo21;obtain⟨Ao22,co22,eo22⟩:=Kd.R_slice HO571.out;subst eo22)|((with_reducible refine gate_callee (f:=25) rfl ?_);refine goesL_ (some 39) rfl rfl Try.func25 (by kernel_rfl) rfl #[.slice Ao19 t560.length co19,.slice Ao20 t561.length co20,.slice Ao21 t562.length co21,.slice Ao22 t563.length co22] rfl zq20 ?_;(with_reducible refine(impl_OpenText.calls _ _ t560 _ _ t561 _ _ t562 _ _ t563 t572 t573 _ ?side1 ?side2 ?side3 ?side4 ?side5 ?side6 ?side7 ?side8 A7.out).mono ?_);(case side1=>exact zq131);(case side2=>exact(iz5 HO565.out).2.1);(case side3=>exact zq132);(case side4=>exact(iz5 HO567.out).2.1);(case side5=>exact zq133);(case side6=>exact(iz5 HO569.out).2.1);(case side7=>exact zq134);(case side8=>exact(iz5 HO571.out).2.1);rintro e w23 ⟨v574,rfl,ho0,hb⟩;refine⟨_,rfl,?_⟩;have n0_:=zz5 (jz5 zq36 (fz5 ho0) hb);have n1_:=zz5 (jz5 zq37 (fz5 ho0) hb);have n2_:=zz5 (jz5 zq38 (fz5 ho0) hb);have n3_:=zz5 (jz5 zq39 (fz5 ho0) hb);have n4_:=zz5 (jz5 zq45 (fz5 ho0) hb);have n5_:=zz5 (jz5 zq50 (fz5 ho0) hb);have n6_:=zz5 (jz5 zq51 (fz5 ho0) hb);have n7_:=zz5 (jz5 zq52 (fz5 ho0) hb);have n8_:=zz5 (jz5 zq53 (fz5 ho0) hb);have n9_:=zz5 (Kd.R_lower (kz5 (kz5 (kz5 (kz5 (kz5 (kz5 (kz5 (kz5 (kz5 ho0 (Kd.R_lt zq36)) (Kd.R_lt zq37)) (Kd.R_lt zq38)) (Kd.R_lt zq39)) (Kd.R_lt zq45)) (Kd.R_lt zq50)) (Kd.R_lt zq51)) (Kd.R_lt zq52)) (Kd.R_lt zq53)) (below_size zq46));have n10_:=zz5 (hy5 (g:=gb559) (o:=.cells #[.int .i64 t555,.slice Ao17 t556.length co17] 42 (0,0)) zq34 hb);have n11_:=zz5 (below_step zq46 hb);clear HO548;clear HO550;clear HO552;clear HO554;clear HO558;clear HO565;clear HO567;clear HO569;clear HO571;clear BK559;clear HB;have HO548:=n0_;have HO550:=n1_;have HO552:=n2_;have HO554:=n3_;have HO558:=n4_;have HO565:=n5_;have HO567:=n6_;have HO569:=n7_;have HO571:=n8_;have HO575:=n9_;have BK559:=n10_;have HB:=n11_;clear n0_ n1_ n2_ n3_ n4_ n5_ n6_ n7_ n8_ n9_ n10_ n11_;(try clear hb);(try clear hb2);(try clear hk);(try clear hi);(try clear ho0))|((with_reducible refine gate_dst (N:=12) rfl ?_);refine box_event ?hg (N:=12) ?hd (cs:=#[.int .i64 0,.slice none 0 0]) (t:=42) ?hr ?_;(case hd=>rfl);(case hg=>rfl);(case hr=>first|(go_simp;done)|(go_simp;rfl));intro gb576 hg w24 hbox hb;have n0_:=zz5 (dz5 zq36 hb);have n1_:=zz5 (dz5 zq37 hb);have n2_:=zz5 (dz5 zq38 hb);have n3_:=zz5 (dz5 zq39 hb);have n4_:=zz5 (dz5 zq45 hb);have n5_:=zz5 (dz5 zq50 hb);have n6_:=zz5 (dz5 zq51 hb);have n7_:=zz5 (dz5 zq52 hb);have n8_:=zz5 (dz5 zq53 hb);have n9_:=zz5 (dz5 zq65 hb);have n10_:=zz5 (hy5 (g:=gb559) (o:=.cells #[.int .i64 t555,.slice Ao17 t556.length co17] 42 (0,0)) zq34 hb);have n11_:=zz5 (below_step zq46 hb);have n12_:=zz5 (hbox);have n13_:=zz5 ((by rw[hg];exact(below_size zq46):w.heap.size≤gb576));have n14_:=zz5 ((by rw[hg];exact(below_size zq46):w.heap.size≤gb576));have n15_:=zz5 ((by rw[hg];exact Nat.ne_of_lt (blk_lt (g:=gb559) (o:=.cells #[.int .i64 t555,.slice Ao17 t556.length co17] 42 (0,0)) zq34):gb559≠gb576));have n16_:=zz5 ((by rw[hg];exact Nat.ne_of_gt (blk_lt (g:=gb559) (o:=.cells #[.int .i64 t555,.slice Ao17 t556.length co17] 42 (0,0)) zq34):gb576≠gb559));clear HO548;clear HO550;clear HO552;clear HO554;clear HO558;clear HO565;clear HO567;clear HO569;clear HO571;clear HO575;clear BK559;clear HB;have HO548:=n0_;have HO550:=n1_;have HO552:=n2_;have HO554:=n3_;have HO558:=n4_;have HO565:=n5_;have HO567:=n6_;have HO569:=n7_;have HO571:=n8_;have HO575:=n9_;have BK559:=n10_;have HB:=n11_;have BK576:=n12_;have GW576:=n13_;have GE576:=n14_;have NB559_576:=n15_;have NB576_559:=n16_;clear n0_ n1_ n2_ n3_ n4_ n5_ n6_ n7_ n8_ n9_ n10_ n11_ n12_ n13_ n14_ n15_ n16_;clear hb hbox hg;have hnb25:=NB576_559.out;have hnc25:=NB559_576.out;have hcz26_0:w24.cell? ⟨gb576,0,none⟩=some (.int .i64 0):=(blk_cell BK576.out 0).trans rfl;have hcz26_1:w24.cell? ⟨gb576,1,none⟩=some (.slice none 0 0):=(blk_cell BK576.out 1).trans rfl;have hfz26_0:=blk_frozen BK576.out 0;have hfz26_1:=blk_frozen BK576.out 1;obtain⟨Ao27,co27,eo27⟩:=Kd.R_slice HO575.out;subst eo27))
  (try simp only[Act.put,sa_,sb_,sc_])
  go_cut [71] (fun v71 wc=>∃ (kq:Nat) (x71_7:Bool),v71=.bool x71_7∧Aside0 (laws_FnSeals.j0 kq l0 t543 t544 t545 t546 t560 t561 t562 t563 x71_7 t555 t556 t572 t573=some r)∧Aside0 (kq≤k)∧Aside0 (Kd.R (Kd.int .u8) 5 wc w.heap.size (fun k_=>some k_≠((.slice Ao11 t544.length co11):Value).ownBlock∧some k_≠((.slice Ao12 t545.length co12):Value).ownBlock∧some k_≠((.slice Ao13 t546.length co13):Value).ownBlock∧some k_≠((.slice Ao19 t560.length co19):Value).ownBlock∧some k_≠((.slice Ao20 t561.length co20):Value).ownBlock∧some k_≠((.slice Ao21 t562.length co21):Value).ownBlock∧some k_≠((.slice Ao22 t563.length co22):Value).ownBlock∧some k_≠((.slice Ao17 t556.length co17):Value).ownBlock∧some k_≠((.slice Ao27 t573.length co27):Value).ownBlock) (.slice Ao10 t543.length co10) t543)∧Aside0 (Kd.R (Kd.int .u8) 5 wc w.heap.size (fun k_=>some k_≠((.slice Ao10 t543.length co10):Value).ownBlock∧some k_≠((.slice Ao12 t545.length co12):Value).ownBlock∧some k_≠((.slice Ao13 t546.length co13):Value).ownBlock∧some k_≠((.slice Ao19 t560.length co19):Value).ownBlock∧some k_≠((.slice Ao20 t561.length co20):Value).ownBlock∧some k_≠((.slice Ao21 t562.length co21):Value).ownBlock∧some k_≠((.slice Ao22 t563.length co22):Value).ownBlock∧some k_≠((.slice Ao17 t556.length co17):Value).ownBlock∧some k_≠((.slice Ao27 t573.length co27):Value).ownBlock) (.slice Ao11 t544.length co11) t544)∧Aside0 (Kd.R (Kd.int .u8) 5 wc w.heap.size (fun k_=>some k_≠((.slice Ao10 t543.length co10):Value).ownBlock∧some k_≠((.slice Ao11 t544.length co11):Value).ownBlock∧some k_≠((.slice Ao13 t546.length co13):Value).ownBlock∧some k_≠((.slice Ao19 t560.length co19):Value).ownBlock∧some k_≠((.slice Ao20 t561.length co20):Value).ownBlock∧some k_≠((.slice Ao21 t562.length co21):Value).ownBlock∧some k_≠((.slice Ao22 t563.length co22):Value).ownBlock∧some k_≠((.slice Ao17 t556.length co17):Value).ownBlock∧some k_≠((.slice Ao27 t573.length co27):Value).ownBlock) (.slice Ao12 t545.length co12) t545)∧Aside0 (Kd.R (Kd.int .u8) 5 wc w.heap.size (fun k_=>some k_≠((.slice Ao10 t543.length co10):Value).ownBlock∧some k_≠((.slice Ao11 t544.length co11):Value).ownBlock∧some k_≠((.slice Ao12 t545.length co12):Value).ownBlock∧some k_≠((.slice Ao19 t560.length co19):Value).ownBlock∧some k_≠((.slice Ao20 t561.length co20):Value).ownBlock∧some k_≠((.slice Ao21 t562.length co21):Value).ownBlock∧some k_≠((.slice Ao22 t563.length co22):Value).ownBlock∧some k_≠((.slice Ao17 t556.length co17):Value).ownBlock∧some k_≠((.slice Ao27 t573.length co27):Value).ownBlock) (.slice Ao13 t546.length co13) t546)∧Aside0 (Kd.R (Kd.int .u8) 5 wc w.heap.size (fun k_=>some k_≠((.slice Ao10 t543.length co10):Value).ownBlock∧some k_≠((.slice Ao11 t544.length co11):Value).ownBlock∧some k_≠((.slice Ao12 t545.length co12):Value).ownBlock∧some k_≠((.slice Ao13 t546.length co13):Value).ownBlock∧some k_≠((.slice Ao20 t561.length co20):Value).ownBlock∧some k_≠((.slice Ao21 t562.length co21):Value).ownBlock∧some k_≠((.slice Ao22 t563.length co22):Value).ownBlock∧some k_≠((.slice Ao17 t556.length co17):Value).ownBlock∧some k_≠((.slice Ao27 t573.length co27):Value).ownBlock) (.slice Ao19 t560.length co19) t560)∧Aside0 (Kd.R (Kd.int .u8) 5 wc w.heap.size (fun k_=>some k_≠((.slice Ao10 t543.length co10):Value).ownBlock∧some k_≠((.slice Ao11 t544.length co11):Value).ownBlock∧some k_≠((.slice Ao12 t545.length co12):Value).ownBlock∧some k_≠((.slice Ao13 t546.length co13):Value).ownBlock∧some k_≠((.slice Ao19 t560.length co19):Value).ownBlock∧some k_≠((.slice Ao21 t562.length co21):Value).ownBlock∧some k_≠((.slice Ao22 t563.length co22):Value).ownBlock∧some k_≠((.slice Ao17 t556.length co17):Value).ownBlock∧some k_≠((.slice Ao27 t573.length co27):Value).ownBlock) (.slice Ao20 t561.length co20) t561)∧Aside0 (Kd.R (Kd.int .u8) 5 wc w.heap.size (fun k_=>some k_≠((.slice Ao10 t543.length co10):Value).ownBlock∧some k_≠((.slice Ao11 t544.length co11):Value).ownBlock∧some k_≠((.slice Ao12 t545.length co12):Value).ownBlock∧some k_≠((.slice Ao13 t546.length co13):Value).ownBlock∧some k_≠((.slice Ao19 t560.length co19):Value).ownBlock∧some k_≠((.slice Ao20 t561.length co20):Value).ownBlock∧some k_≠((.slice Ao22 t563.length co22):Value).ownBlock∧some k_≠((.slice Ao17 t556.length co17):Value).ownBlock∧some k_≠((.slice Ao27 t573.length co27):Value).ownBlock) (.slice Ao21 t562.length co21) t562)∧Aside0 (Kd.R (Kd.int .u8) 5 wc w.heap.size (fun k_=>some k_≠((.slice Ao10 t543.length co10):Value).ownBlock∧some k_≠((.slice Ao11 t544.length co11):Value).ownBlock∧some k_≠((.slice Ao12 t545.length co12):Value).ownBlock∧some k_≠((.slice Ao13 t546.length co13):Value).ownBlock∧some k_≠((.slice Ao19 t560.length co19):Value).ownBlock∧some k_≠((.slice Ao20 t561.length co20):Value).ownBlock∧some k_≠((.slice Ao21 t562.length co21):Value).ownBlock∧some k_≠((.slice Ao17 t556.length co17):Value).ownBlock∧some k_≠((.slice Ao27 t573.length co27):Value).ownBlock) (.slice Ao22 t563.length co22) t563)∧Aside0 (Kd.R (Kd.int .u8) 5 wc w.heap.size (fun k_=>some k_≠((.slice Ao10 t543.length co10):Value).ownBlock∧some k_≠((.slice Ao11 t544.length co11):Value).ownBlock∧some k_≠((.slice Ao12 t545.length co12):Value).ownBlock∧some k_≠((.slice Ao13 t546.length co13):Value).ownBlock∧some k_≠((.slice Ao19 t560.length co19):Value).ownBlock∧some k_≠((.slice Ao20 t561.length co20):Value).ownBlock∧some k_≠((.slice Ao21 t562.length co21):Value).ownBlock∧some k_≠((.slice Ao22 t563.length co22):Value).ownBlock∧some k_≠((.slice Ao27 t573.length co27):Value).ownBlock) (.slice Ao17 t556.length co17) t556)∧Aside0 (Kd.R (Kd.int .u8) 5 wc w.heap.size (fun k_=>some k_≠((.slice Ao10 t543.length co10):Value).ownBlock∧some k_≠((.slice Ao11 t544.length co11):Value).ownBlock∧some k_≠((.slice Ao12 t545.length co12):Value).ownBlock∧some k_≠((.slice Ao13 t546.length co13):Value).ownBlock∧some k_≠((.slice Ao19 t560.length co19):Value).ownBlock∧some k_≠((.slice Ao20 t561.length co20):Value).ownBlock∧some k_≠((.slice Ao21 t562.length co21):Value).ownBlock∧some k_≠((.slice Ao22 t563.length co22):Value).ownBlock∧some k_≠((.slice Ao17 t556.length co17):Value).ownBlock) (.slice Ao27 t573.length co27) t573)∧Aside0 (wc.heap[gb559]?=some (.cells #[.int .i64 t555,(.slice Ao17 t556.length co17)] 42 (0,0)))∧Aside0 (wc.heap[gb576]?=some (.cells #[.int .i64 t572,(.slice Ao27 t573.length co27)] 42 (0,0)))∧Aside0 (Below w.heap.size w wc))
  case first=>
   have H:=HC8.out
   clear HC8
   replace H:=Option.bind_eq_some_iff.mp H
   obtain⟨⟨t577,t578⟩,A280,H⟩:=H
   replace H:(if t555=t577 then ((spec_OpenText.f k t560 t561 t562 t563).bind fun bt581=>(if t572=bt581.1 then ((spec_OpenText.f k t560 t561 t562 t563).bind fun bt585=>((laws_lwSame.f t573 bt585.2).bind fun t589=>(laws_FnSeals.j0 k l0 t543 t544 t545 t546 t560 t561 t562 t563 (!t589) t555 t556 t572 t573))) else (laws_FnSeals.j0 k l0 t543 t544 t545 t546 t560 t561 t562 t563 true t555 t556 t572 t573))) else (laws_FnSeals.j0 k l0 t543 t544 t545 t546 t560 t561 t562 t563 true t555 t556 t572 t573))=some r:=H
   have A28:=zz5 A280
   clear A280
   by_cases c29:t555=t577
   ·rw[if_pos c29] at H
    have c29b0:(t555 == t577)=true:=beq_iff_eq.mpr c29
    have c29b1:(t555 != t577)=false:=bne_eq_false_iff_eq.mpr c29
    clear c29
    (first|rw[c29b0]|(simp only[i64_w,i32_w];rw[c29b0])|skip)
    replace H:=Option.bind_eq_some_iff.mp H
    obtain⟨⟨t581,t582⟩,A300,H⟩:=H
    replace H:(if t572=t581 then ((spec_OpenText.f k t560 t561 t562 t563).bind fun bt585=>((laws_lwSame.f t573 bt585.2).bind fun t589=>(laws_FnSeals.j0 k l0 t543 t544 t545 t546 t560 t561 t562 t563 (!t589) t555 t556 t572 t573))) else (laws_FnSeals.j0 k l0 t543 t544 t545 t546 t560 t561 t562 t563 true t555 t556 t572 t573))=some r:=H
    have A30:=zz5 A300
    clear A300
    by_cases c31:t572=t581
    ·rw[if_pos c31] at H
     have c31b0:(t572 == t581)=true:=beq_iff_eq.mpr c31
     have c31b1:(t572 != t581)=false:=bne_eq_false_iff_eq.mpr c31
     clear c31
     replace H:=Option.bind_eq_some_iff.mp H
     obtain⟨⟨t585,t586⟩,A320,H⟩:=H
     replace H:((laws_lwSame.f t573 t586).bind fun t589=>(laws_FnSeals.j0 k l0 t543 t544 t545 t546 t560 t561 t562 t563 (!t589) t555 t556 t572 t573))=some r:=H
     have A32:=zz5 A320
     clear A320
     replace H:=Option.bind_eq_some_iff.mp H
     obtain⟨t589,A330,H⟩:=H
     replace H:(laws_FnSeals.j0 k l0 t543 t544 t545 t546 t560 t561 t562 t563 (!t589) t555 t556 t572 t573)=some r:=H
     have A33:=zz5 A330
     clear A330
     have H':=zz5 H
     clear H
     try go_wp2
     have n0_:Aside0 (Kd.R (Kd.int .u8) 5 ((w24.setCell ⟨gb576,0,none⟩ (.int .i64 t572)).setCell ⟨gb576,1,none⟩ (.slice Ao27 t573.length co27)) w.heap.size (fun k_=>some k_≠(.slice Ao11 t544.length co11:Value).ownBlock∧some k_≠(.slice Ao12 t545.length co12:Value).ownBlock∧some k_≠(.slice Ao13 t546.length co13:Value).ownBlock∧some k_≠(.slice Ao17 t556.length co17:Value).ownBlock∧some k_≠(.slice Ao19 t560.length co19:Value).ownBlock∧some k_≠(.slice Ao20 t561.length co20:Value).ownBlock∧some k_≠(.slice Ao21 t562.length co21:Value).ownBlock∧some k_≠(.slice Ao22 t563.length co22:Value).ownBlock∧some k_≠(.slice Ao27 t573.length co27:Value).ownBlock) (.slice Ao10 t543.length co10) t543):=⟨zq73⟩
     have n1_:Aside0 (Kd.R (Kd.int .u8) 5 ((w24.setCell ⟨gb576,0,none⟩ (.int .i64 t572)).setCell ⟨gb576,1,none⟩ (.slice Ao27 t573.length co27)) w.heap.size (fun k_=>some k_≠(.slice Ao10 t543.length co10:Value).ownBlock∧some k_≠(.slice Ao12 t545.length co12:Value).ownBlock∧some k_≠(.slice Ao13 t546.length co13:Value).ownBlock∧some k_≠(.slice Ao17 t556.length co17:Value).ownBlock∧some k_≠(.slice Ao19 t560.length co19:Value).ownBlock∧some k_≠(.slice Ao20 t561.length co20:Value).ownBlock∧some k_≠(.slice Ao21 t562.length co21:Value).ownBlock∧some k_≠(.slice Ao22 t563.length co22:Value).ownBlock∧some k_≠(.slice Ao27 t573.length co27:Value).ownBlock) (.slice Ao11 t544.length co11) t544):=⟨zq74⟩
     have n2_:Aside0 (Kd.R (Kd.int .u8) 5 ((w24.setCell ⟨gb576,0,none⟩ (.int .i64 t572)).setCell ⟨gb576,1,none⟩ (.slice Ao27 t573.length co27)) w.heap.size (fun k_=>some k_≠(.slice Ao10 t543.length co10:Value).ownBlock∧some k_≠(.slice Ao11 t544.length co11:Value).ownBlock∧some k_≠(.slice Ao13 t546.length co13:Value).ownBlock∧some k_≠(.slice Ao17 t556.length co17:Value).ownBlock∧some k_≠(.slice Ao19 t560.length co19:Value).ownBlock∧some k_≠(.slice Ao20 t561.length co20:Value).ownBlock∧some k_≠(.slice Ao21 t562.length co21:Value).ownBlock∧some k_≠(.slice Ao22 t563.length co22:Value).ownBlock∧some k_≠(.slice Ao27 t573.length co27:Value).ownBlock) (.slice Ao12 t545.length co12) t545):=⟨zq75⟩
     have n3_:Aside0 (Kd.R (Kd.int .u8) 5 ((w24.setCell ⟨gb576,0,none⟩ (.int .i64 t572)).setCell ⟨gb576,1,none⟩ (.slice Ao27 t573.length co27)) w.heap.size (fun k_=>some k_≠(.slice Ao10 t543.length co10:Value).ownBlock∧some k_≠(.slice Ao11 t544.length co11:Value).ownBlock∧some k_≠(.slice Ao12 t545.length co12:Value).ownBlock∧some k_≠(.slice Ao17 t556.length co17:Value).ownBlock∧some k_≠(.slice Ao19 t560.length co19:Value).ownBlock∧some k_≠(.slice Ao20 t561.length co20:Value).ownBlock∧some k_≠(.slice Ao21 t562.length co21:Value).ownBlock∧some k_≠(.slice Ao22 t563.length co22:Value).ownBlock∧some k_≠(.slice Ao27 t573.length co27:Value).ownBlock) (.slice Ao13 t546.length co13) t546):=⟨zq76⟩
     have n4_:Aside0 (Kd.R (Kd.int .u8) 5 ((w24.setCell ⟨gb576,0,none⟩ (.int .i64 t572)).setCell ⟨gb576,1,none⟩ (.slice Ao27 t573.length co27)) w.heap.size (fun k_=>some k_≠(.slice Ao10 t543.length co10:Value).ownBlock∧some k_≠(.slice Ao11 t544.length co11:Value).ownBlock∧some k_≠(.slice Ao12 t545.length co12:Value).ownBlock∧some k_≠(.slice Ao13 t546.length co13:Value).ownBlock∧some k_≠(.slice Ao19 t560.length co19:Value).ownBlock∧some k_≠(.slice Ao20 t561.length co20:Value).ownBlock∧some k_≠(.slice Ao21 t562.length co21:Value).ownBlock∧some k_≠(.slice Ao22 t563.length co22:Value).ownBlock∧some k_≠(.slice Ao27 t573.length co27:Value).ownBlock) (.slice Ao17 t556.length co17) t556):=⟨zq71⟩
     have n5_:Aside0 (Kd.R (Kd.int .u8) 5 ((w24.setCell ⟨gb576,0,none⟩ (.int .i64 t572)).setCell ⟨gb576,1,none⟩ (.slice Ao27 t573.length co27)) w.heap.size (fun k_=>some k_≠(.slice Ao10 t543.length co10:Value).ownBlock∧some k_≠(.slice Ao11 t544.length co11:Value).ownBlock∧some k_≠(.slice Ao12 t545.length co12:Value).ownBlock∧some k_≠(.slice Ao13 t546.length co13:Value).ownBlock∧some k_≠(.slice Ao17 t556.length co17:Value).ownBlock∧some k_≠(.slice Ao20 t561.length co20:Value).ownBlock∧some k_≠(.slice Ao21 t562.length co21:Value).ownBlock∧some k_≠(.slice Ao22 t563.length co22:Value).ownBlock∧some k_≠(.slice Ao27 t573.length co27:Value).ownBlock) (.slice Ao19 t560.length co19) t560):=⟨zq77⟩
     have n6_:Aside0 (Kd.R (Kd.int .u8) 5 ((w24.setCell ⟨gb576,0,none⟩ (.int .i64 t572)).setCell ⟨gb576,1,none⟩ (.slice Ao27 t573.length co27)) w.heap.size (fun k_=>some k_≠(.slice Ao10 t543.length co10:Value).ownBlock∧some k_≠(.slice Ao11 t544.length co11:Value).ownBlock∧some k_≠(.slice Ao12 t545.length co12:Value).ownBlock∧some k_≠(.slice Ao13 t546.length co13:Value).ownBlock∧some k_≠(.slice Ao17 t556.length co17:Value).ownBlock∧some k_≠(.slice Ao19 t560.length co19:Value).ownBlock∧some k_≠(.slice Ao21 t562.length co21:Value).ownBlock∧some k_≠(.slice Ao22 t563.length co22:Value).ownBlock∧some k_≠(.slice Ao27 t573.length co27:Value).ownBlock) (.slice Ao20 t561.length co20) t561):=⟨zq78⟩
     have n7_:Aside0 (Kd.R (Kd.int .u8) 5 ((w24.setCell ⟨gb576,0,none⟩ (.int .i64 t572)).setCell ⟨gb576,1,none⟩ (.slice Ao27 t573.length co27)) w.heap.size (fun k_=>some k_≠(.slice Ao10 t543.length co10:Value).ownBlock∧some k_≠(.slice Ao11 t544.length co11:Value).ownBlock∧some k_≠(.slice Ao12 t545.length co12:Value).ownBlock∧some k_≠(.slice Ao13 t546.length co13:Value).ownBlock∧some k_≠(.slice Ao17 t556.length co17:Value).ownBlock∧some k_≠(.slice Ao19 t560.length co19:Value).ownBlock∧some k_≠(.slice Ao20 t561.length co20:Value).ownBlock∧some k_≠(.slice Ao22 t563.length co22:Value).ownBlock∧some k_≠(.slice Ao27 t573.length co27:Value).ownBlock) (.slice Ao21 t562.length co21) t562):=⟨zq79⟩
     have n8_:Aside0 (Kd.R (Kd.int .u8) 5 ((w24.setCell ⟨gb576,0,none⟩ (.int .i64 t572)).setCell ⟨gb576,1,none⟩ (.slice Ao27 t573.length co27)) w.heap.size (fun k_=>some k_≠(.slice Ao10 t543.length co10:Value).ownBlock∧some k_≠(.slice Ao11 t544.length co11:Value).ownBlock∧some k_≠(.slice Ao12 t545.length co12:Value).ownBlock∧some k_≠(.slice Ao13 t546.length co13:Value).ownBlock∧some k_≠(.slice Ao17 t556.length co17:Value).ownBlock∧some k_≠(.slice Ao19 t560.length co19:Value).ownBlock∧some k_≠(.slice Ao20 t561.length co20:Value).ownBlock∧some k_≠(.slice Ao21 t562.length co21:Value).ownBlock∧some k_≠(.slice Ao27 t573.length co27:Value).ownBlock) (.slice Ao22 t563.length co22) t563):=⟨zq80⟩
     have n9_:Aside0 (Kd.R (Kd.int .u8) 5 ((w24.setCell ⟨gb576,0,none⟩ (.int .i64 t572)).setCell ⟨gb576,1,none⟩ (.slice Ao27 t573.length co27)) w.heap.size (fun k_=>some k_≠(.slice Ao10 t543.length co10:Value).ownBlock∧some k_≠(.slice Ao11 t544.length co11:Value).ownBlock∧some k_≠(.slice Ao12 t545.length co12:Value).ownBlock∧some k_≠(.slice Ao13 t546.length co13:Value).ownBlock∧some k_≠(.slice Ao17 t556.length co17:Value).ownBlock∧some k_≠(.slice Ao19 t560.length co19:Value).ownBlock∧some k_≠(.slice Ao20 t561.length co20:Value).ownBlock∧some k_≠(.slice Ao21 t562.length co21:Value).ownBlock∧some k_≠(.slice Ao22 t563.length co22:Value).ownBlock) (.slice Ao27 t573.length co27) t573):=⟨zq72⟩
     have n10_:Aside0 (((w24.setCell ⟨gb576,0,none⟩ (.int .i64 t572)).setCell ⟨gb576,1,none⟩ (.slice Ao27 t573.length co27)).heap[gb559]?=some (.cells #[.int .i64 t555,.slice Ao17 t556.length co17] 42 (0,0))):=⟨zq108⟩
     have n11_:Aside0 (((w24.setCell ⟨gb576,0,none⟩ (.int .i64 t572)).setCell ⟨gb576,1,none⟩ (.slice Ao27 t573.length co27)).heap[gb576]?=some (.cells #[.int .i64 t572,.slice Ao27 t573.length co27] 42 (0,0))):=⟨zq94⟩
     have n12_:Aside0 (Below w.heap.size w ((w24.setCell ⟨gb576,0,none⟩ (.int .i64 t572)).setCell ⟨gb576,1,none⟩ (.slice Ao27 t573.length co27))):=⟨zq43⟩
     (try clear HO548);(try clear HO550);(try clear HO552)
     (try clear HO554);(try clear HO558);(try clear HO565)
     (try clear HO567);(try clear HO569);(try clear HO571)
     (try clear HO575);(try clear BK559);(try clear BK576)
     (try clear HB)
     generalize ((w24.setCell ⟨gb576,0,none⟩ (.int .i64 t572)).setCell ⟨gb576,1,none⟩ (.slice Ao27 t573.length co27))=w34 at n0_ n1_ n2_ n3_ n4_ n5_ n6_ n7_ n8_ n9_ n10_ n11_ n12_ ⊢
     have HO548:=n0_
     have HO550:=n1_
     have HO552:=n2_
     have HO554:=n3_
     have HO558:=n4_
     have HO565:=n5_
     have HO567:=n6_
     have HO569:=n7_
     have HO571:=n8_
     have HO575:=n9_
     have BK559:=n10_
     have BK576:=n11_
     have HB:=n12_
     clear n0_ n1_ n2_ n3_ n4_ n5_ n6_ n7_ n8_ n9_ n10_ n11_ n12_
     have n0_:=zz5 (cz5 HO548.out)
     have n1_:=zz5 (cz5 HO550.out)
     have n2_:=zz5 (cz5 HO552.out)
     have n3_:=zz5 (cz5 HO554.out)
     have n4_:=zz5 (cz5 HO558.out)
     have n5_:=zz5 (cz5 HO565.out)
     have n6_:=zz5 (cz5 HO567.out)
     have n7_:=zz5 (cz5 HO569.out)
     have n8_:=zz5 (cz5 HO571.out)
     have n9_:=zz5 (cz5 HO575.out)
     have n10_:=zz5 (gy5 BK559.out)
     have n11_:=zz5 (gy5 BK576.out)
     have n12_:=zz5 (cy5 HB.out)
     clear HO548
     clear HO550
     clear HO552
     clear HO554
     clear HO558
     clear HO565
     clear HO567
     clear HO569
     clear HO571
     clear HO575
     clear BK559
     clear BK576
     clear HB
     have HO548:=n0_
     have HO550:=n1_
     have HO552:=n2_
     have HO554:=n3_
     have HO558:=n4_
     have HO565:=n5_
     have HO567:=n6_
     have HO569:=n7_
     have HO571:=n8_
     have HO575:=n9_
     have BK559:=n10_
     have BK576:=n11_
     have HB:=n12_
     clear n0_ n1_ n2_ n3_ n4_ n5_ n6_ n7_ n8_ n9_ n10_ n11_ n12_
     refine start_ (n:=32) (S:=fun w'=>w'.cell? ⟨gb559,0,none⟩=some (.int .i64 t555)∧w'.cell? ⟨gb559,1,none⟩=some (.slice Ao17 t556.length co17)∧w'.cell? ⟨gb576,0,none⟩=some (.int .i64 t572)∧w'.cell? ⟨gb576,1,none⟩=some (.slice Ao27 t573.length co27)) (ds:=[]) #[Z,Z,Z,Z,Z,Z,Z,Z,Z,Z,Z,Z,Z,Z,Z,Z,Z,Z,Z,Z,Z,Z,Z,Z,Z,Z,Z,Z,Z,Z,Z,Z] (by kernel_rfl) rfl rfl ⟨(blk_cell BK559.out 0).trans rfl,(blk_cell BK559.out 1).trans rfl,(blk_cell BK576.out 0).trans rfl,(blk_cell BK576.out 1).trans rfl⟩ (fun hHeld=>?_);refine with_tabW laws_FnSeals.tab7 laws_FnSeals.bits7 (fun HT_ HW_=>?_)
     generalize w34.drew=w35 at HO548 HO550 HO552 HO554 HO558 HO565 HO567 HO569 HO571 HO575 BK559 BK576 HB hHeld ⊢
     refine pure_ (i:=0) (N:=some 40) (v:=?_) (a':=?_) #[Y,Z,Z,Z,Z,Z,Z,Z,Z,Z,Z,Z,Z,Z,Z,Z,Z,Z,Z,Z,Z,Z,Z,Z,Z,Z,Z,Z,Z,Z,Z,Z] rfl rfl (any_of HT_.out (by kernel_rfl)) (fun _ _ _ h=>h) (Or.inl ⟨zq138,?_⟩) ?_ ?_
     rotate_left
     ·intro w';go_simp;with_reducible rfl
     rotate_left
     ·simp only[Act.put,sa_,sb_,sc_,i64_w];rfl
     refine pure_ (i:=2) (N:=some 42) (v:=?_) (a':=?_) #[Y,Z,Y,Z,Z,Z,Z,Z,Z,Z,Z,Z,Z,Z,Z,Z,Z,Z,Z,Z,Z,Z,Z,Z,Z,Z,Z,Z,Z,Z,Z,Z] rfl rfl (any_of HT_.out (by kernel_rfl)) (fun _ _ _ h=>h) (Or.inl ⟨zq138,?_⟩) ?_ ?_
     rotate_left
     ·intro w';go_simp;with_reducible rfl
     rotate_left
     ·simp only[Act.put,sa_,sb_,sc_,i64_w];rfl
     refine pure_ (i:=3) (N:=some 43) (v:=?_) (a':=?_) #[Y,Z,Y,Y,Z,Z,Z,Z,Z,Z,Z,Z,Z,Z,Z,Z,Z,Z,Z,Z,Z,Z,Z,Z,Z,Z,Z,Z,Z,Z,Z,Z] rfl rfl (any_of HT_.out (by kernel_rfl)) (fun _ _ _ h=>h) (Or.inl ⟨zq138,?_⟩) ?_ ?_
     rotate_left
     ·intro w';go_simp;with_reducible rfl
     rotate_left
     ·simp only[Act.put,sa_,sb_,sc_,i64_w];rfl
     refine pure_ (i:=4) (N:=some 44) (v:=?_) (a':=?_) #[Y,Z,Y,Y,Y,Z,Z,Z,Z,Z,Z,Z,Z,Z,Z,Z,Z,Z,Z,Z,Z,Z,Z,Z,Z,Z,Z,Z,Z,Z,Z,Z] rfl rfl (any_of HT_.out (by kernel_rfl)) (fun _ _ _ h=>h) (Or.inl ⟨zq138,?_⟩) ?_ ?_
     rotate_left
     ·intro w';go_simp;with_reducible rfl
     rotate_left
     ·simp only[Act.put,sa_,sb_,sc_,i64_w];rfl
     refine pure_ (i:=5) (N:=some 45) (v:=?_) (a':=?_) #[Y,Z,Y,Y,Y,Y,Z,Z,Z,Z,Z,Z,Z,Z,Z,Z,Z,Z,Z,Z,Z,Z,Z,Z,Z,Z,Z,Z,Z,Z,Z,Z] rfl rfl (any_of HT_.out (by kernel_rfl)) (fun _ _ _ h=>h) (Or.inl ⟨zq138,?_⟩) ?_ ?_
     rotate_left
     ·intro w';go_simp;with_reducible rfl
     rotate_left
     ·simp only[Act.put,sa_,sb_,sc_,i64_w];rfl
     refine take_ (i:=1) (N:=some 41) (v:=?_) (a':=?_) #[Y,Y,Y,Y,Y,Y,Z,Z,Z,Z,Z,Z,Z,Z,Z,Z,Z,Z,Z,Z,Z,Z,Z,Z,Z,Z,Z,Z,Z,Z,Z,Z] rfl rfl (take_ofW HT_.out HW_.out (by kernel_rfl)) (fun _ _ _ h=>h) (Or.inl ⟨zq138,?_⟩) hHeld ?_ ?_
     rotate_left
     ·rintro w' ⟨s0,s1,s2,s3⟩
      go_simp
      with_reducible rfl
     rotate_left
     ·simp only[Act.put,sa_,sb_,sc_,i64_w];rfl
     refine one_ (i:=6) (N:=some 46) #[Y,Y,Y,Y,Y,Y,Y,Z,Z,Z,Z,Z,Z,Z,Z,Z,Z,Z,Z,Z,Z,Z,Z,Z,Z,Z,Z,Z,Z,Z,Z,Z] rfl rfl (one_of HT_.out (by kernel_rfl)) zq22 (fun K hK=>?_)
     refine goes_ Try.func26 (by kernel_rfl) rfl #[.slice Ao10 t543.length co10,.slice Ao11 t544.length co11,.slice Ao12 t545.length co12,.slice Ao13 t546.length co13] zq138 rfl rfl zq20 ?_
     with_reducible refine(spec_SealText.calls k _ _ t543 _ _ t544 _ _ t545 _ _ t546 t577 t578 _ ?side1 ?side2 ?side3 ?side4 ?side5 ?side6 ?side7 ?side8 A28.out).mono ?_
     (case side1=>exact zq127)
     (case side2=>exact(iz5 HO548.out).2.1)
     (case side3=>exact zq128)
     (case side4=>exact(iz5 HO550.out).2.1)
     (case side5=>exact zq129)
     (case side6=>exact(iz5 HO552.out).2.1)
     (case side7=>exact zq130)
     (case side8=>exact(iz5 HO554.out).2.1)
     rintro e w36 ⟨v579,rfl,ho0,hb⟩
     refine⟨_,rfl,?_⟩
     have n0_:=zz5 (jz5 zq36 (fz5 ho0) hb)
     have n1_:=zz5 (jz5 zq37 (fz5 ho0) hb)
     have n2_:=zz5 (jz5 zq38 (fz5 ho0) hb)
     have n3_:=zz5 (jz5 zq39 (fz5 ho0) hb)
     have n4_:=zz5 (jz5 zq45 (fz5 ho0) hb)
     have n5_:=zz5 (jz5 zq50 (fz5 ho0) hb)
     have n6_:=zz5 (jz5 zq51 (fz5 ho0) hb)
     have n7_:=zz5 (jz5 zq52 (fz5 ho0) hb)
     have n8_:=zz5 (jz5 zq53 (fz5 ho0) hb)
     have n9_:=zz5 (jz5 zq65 (fz5 ho0) hb)
     have n10_:=zz5 (Kd.R_lower (kz5 (kz5 (kz5 (kz5 (kz5 (kz5 (kz5 (kz5 (kz5 (kz5 ho0 (Kd.R_lt zq36)) (Kd.R_lt zq37)) (Kd.R_lt zq38)) (Kd.R_lt zq39)) (Kd.R_lt zq45)) (Kd.R_lt zq50)) (Kd.R_lt zq51)) (Kd.R_lt zq52)) (Kd.R_lt zq53)) (Kd.R_lt zq65)) (below_size zq12))
     have n11_:=zz5 (hy5 (g:=gb559) (o:=.cells #[.int .i64 t555,.slice Ao17 t556.length co17] 42 (0,0)) zq34 hb)
     have n12_:=zz5 (hy5 (g:=gb576) (o:=.cells #[.int .i64 t572,.slice Ao27 t573.length co27] 42 (0,0)) zq61 hb)
     have n13_:=zz5 (below_step zq12 hb)
     clear HO548
     clear HO550
     clear HO552
     clear HO554
     clear HO558
     clear HO565
     clear HO567
     clear HO569
     clear HO571
     clear HO575
     clear BK559
     clear BK576
     clear HB
     have HO548:=n0_
     have HO550:=n1_
     have HO552:=n2_
     have HO554:=n3_
     have HO558:=n4_
     have HO565:=n5_
     have HO567:=n6_
     have HO569:=n7_
     have HO571:=n8_
     have HO575:=n9_
     have HO580:=n10_
     have BK559:=n11_
     have BK576:=n12_
     have HB:=n13_
     clear n0_ n1_ n2_ n3_ n4_ n5_ n6_ n7_ n8_ n9_ n10_ n11_ n12_ n13_
     (try clear hb);(try clear hb2);(try clear hk)
     (try clear hi)
     (try clear ho0)
     refine hK.out _ _ ⟨(blk_cell BK559.out 0).trans rfl,(blk_cell BK559.out 1).trans rfl,(blk_cell BK576.out 0).trans rfl,(blk_cell BK576.out 1).trans rfl⟩ (fun hHeld=>?_)
     clear hK K
     refine norm_ (a':=?_) ?_ ?_
     rotate_left
     ·show Act.put _ (some 46) _=_
      simp only[Act.put,sa_,sb_,sc_,i64_w]
      rfl
     refine pure_ (i:=7) (N:=some 47) (v:=?_) (a':=?_) #[Y,Y,Y,Y,Y,Y,Y,Y,Z,Z,Z,Z,Z,Z,Z,Z,Z,Z,Z,Z,Z,Z,Z,Z,Z,Z,Z,Z,Z,Z,Z,Z] rfl rfl (any_of HT_.out (by kernel_rfl)) (fun _ _ _ h=>h) (Or.inl ⟨zq138,?_⟩) ?_ ?_
     rotate_left
     ·intro w';go_simp;with_reducible rfl
     rotate_left
     ·simp only[Act.put,sa_,sb_,sc_,i64_w];rfl
     refine pure_ (i:=8) (N:=some 48) (v:=?_) (a':=?_) #[Y,Y,Y,Y,Y,Y,Y,Y,Y,Z,Z,Z,Z,Z,Z,Z,Z,Z,Z,Z,Z,Z,Z,Z,Z,Z,Z,Z,Z,Z,Z,Z] rfl rfl (any_of HT_.out (by kernel_rfl)) (fun _ _ _ h=>h) (Or.inl ⟨zq138,?_⟩) ?_ ?_
     rotate_left
     ·intro w';go_simp;with_reducible rfl
     rotate_left
     ·simp only[Act.put,sa_,sb_,sc_,i64_w];rfl
     refine pure_ (i:=9) (N:=some 49) (v:=?_) (a':=?_) #[Y,Y,Y,Y,Y,Y,Y,Y,Y,Y,Z,Z,Z,Z,Z,Z,Z,Z,Z,Z,Z,Z,Z,Z,Z,Z,Z,Z,Z,Z,Z,Z] rfl rfl (any_of HT_.out (by kernel_rfl)) (fun _ _ _ h=>h) (Or.inl ⟨zq138,?_⟩) ?_ ?_
     rotate_left
     ·intro w';go_simp;with_reducible rfl
     rotate_left
     ·simp only[Act.put,sa_,sb_,sc_,i64_w];rfl
     refine pure_ (i:=10) (N:=some 50) (v:=?_) (a':=?_) #[Y,Y,Y,Y,Y,Y,Y,Y,Y,Y,Y,Z,Z,Z,Z,Z,Z,Z,Z,Z,Z,Z,Z,Z,Z,Z,Z,Z,Z,Z,Z,Z] rfl rfl (any_of HT_.out (by kernel_rfl)) (fun _ _ _ h=>h) (Or.inl ⟨zq138,?_⟩) ?_ ?_
     rotate_left
     ·intro w';go_simp;with_reducible rfl
     rotate_left
     ·simp only[Act.put,sa_,sb_,sc_,i64_w];rfl
     refine pure_ (i:=12) (N:=some 52) (v:=?_) (a':=?_) #[Y,Y,Y,Y,Y,Y,Y,Y,Y,Y,Y,Z,Y,Z,Z,Z,Z,Z,Z,Z,Z,Z,Z,Z,Z,Z,Z,Z,Z,Z,Z,Z] rfl rfl (any_of HT_.out (by kernel_rfl)) (fun _ _ _ h=>h) (Or.inl ⟨zq138,?_⟩) ?_ ?_
     rotate_left
     ·intro w';go_simp;with_reducible rfl
     rotate_left
     ·simp only[Act.put,sa_,sb_,sc_,i64_w];rfl
     refine pure_ (i:=13) (N:=some 53) (v:=?_) (a':=?_) #[Y,Y,Y,Y,Y,Y,Y,Y,Y,Y,Y,Z,Y,Y,Z,Z,Z,Z,Z,Z,Z,Z,Z,Z,Z,Z,Z,Z,Z,Z,Z,Z] rfl rfl (any_of HT_.out (by kernel_rfl)) (fun _ _ _ h=>h) (Or.inl ⟨zq138,?_⟩) ?_ ?_
     rotate_left
     ·intro w';go_simp;with_reducible rfl
     rotate_left
     ·simp only[Act.put,sa_,sb_,sc_,i64_w];rfl
     refine pure_ (i:=14) (N:=some 54) (v:=?_) (a':=?_) #[Y,Y,Y,Y,Y,Y,Y,Y,Y,Y,Y,Z,Y,Y,Y,Z,Z,Z,Z,Z,Z,Z,Z,Z,Z,Z,Z,Z,Z,Z,Z,Z] rfl rfl (any_of HT_.out (by kernel_rfl)) (fun _ _ _ h=>h) (Or.inl ⟨zq138,?_⟩) ?_ ?_
     rotate_left
     ·intro w';go_simp;with_reducible rfl
     rotate_left
     ·simp only[Act.put,sa_,sb_,sc_,i64_w];rfl
     refine pure_ (i:=15) (N:=some 55) (v:=?_) (a':=?_) #[Y,Y,Y,Y,Y,Y,Y,Y,Y,Y,Y,Z,Y,Y,Y,Y,Z,Z,Z,Z,Z,Z,Z,Z,Z,Z,Z,Z,Z,Z,Z,Z] rfl rfl (any_of HT_.out (by kernel_rfl)) (fun _ _ _ h=>h) (Or.inl ⟨zq138,?_⟩) ?_ ?_
     rotate_left
     ·intro w';go_simp;with_reducible rfl
     rotate_left
     ·simp only[Act.put,sa_,sb_,sc_,i64_w];rfl
     refine take_ (i:=11) (N:=some 51) (v:=?_) (a':=?_) #[Y,Y,Y,Y,Y,Y,Y,Y,Y,Y,Y,Y,Y,Y,Y,Y,Z,Z,Z,Z,Z,Z,Z,Z,Z,Z,Z,Z,Z,Z,Z,Z] rfl rfl (take_ofW HT_.out HW_.out (by kernel_rfl)) (fun _ _ _ h=>h) (Or.inl ⟨zq138,?_⟩) hHeld ?_ ?_
     rotate_left
     ·rintro w' ⟨s0,s1,s2,s3⟩
      go_simp
      with_reducible rfl
     rotate_left
     ·simp only[Act.put,sa_,sb_,sc_,i64_w];rfl
     refine one_ (i:=16) (N:=some 56) #[Y,Y,Y,Y,Y,Y,Y,Y,Y,Y,Y,Y,Y,Y,Y,Y,Y,Z,Z,Z,Z,Z,Z,Z,Z,Z,Z,Z,Z,Z,Z,Z] rfl rfl (one_of HT_.out (by kernel_rfl)) zq22 (fun K hK=>?_)
     refine goes_ Try.func27 (by kernel_rfl) rfl #[.slice Ao19 t560.length co19,.slice Ao20 t561.length co20,.slice Ao21 t562.length co21,.slice Ao22 t563.length co22] zq138 rfl rfl zq20 ?_
     with_reducible refine(spec_OpenText.calls k _ _ t560 _ _ t561 _ _ t562 _ _ t563 t581 t582 _ ?side1 ?side2 ?side3 ?side4 ?side5 ?side6 ?side7 ?side8 A30.out).mono ?_
     (case side1=>exact zq131)
     (case side2=>exact(iz5 HO565.out).2.1)
     (case side3=>exact zq132)
     (case side4=>exact(iz5 HO567.out).2.1)
     (case side5=>exact zq133)
     (case side6=>exact(iz5 HO569.out).2.1)
     (case side7=>exact zq134)
     (case side8=>exact(iz5 HO571.out).2.1)
     rintro e w37 ⟨v583,rfl,ho0,hb⟩
     refine⟨_,rfl,?_⟩
     have n0_:=zz5 (jz5 zq36 (fz5 ho0) hb)
     have n1_:=zz5 (jz5 zq37 (fz5 ho0) hb)
     have n2_:=zz5 (jz5 zq38 (fz5 ho0) hb)
     have n3_:=zz5 (jz5 zq39 (fz5 ho0) hb)
     have n4_:=zz5 (jz5 zq45 (fz5 ho0) hb)
     have n5_:=zz5 (jz5 zq50 (fz5 ho0) hb)
     have n6_:=zz5 (jz5 zq51 (fz5 ho0) hb)
     have n7_:=zz5 (jz5 zq52 (fz5 ho0) hb)
     have n8_:=zz5 (jz5 zq53 (fz5 ho0) hb)
     have n9_:=zz5 (jz5 zq65 (fz5 ho0) hb)
     have n10_:=zz5 (jz5 zq144 (fz5 ho0) hb)
     have n11_:=zz5 (Kd.R_lower (kz5 (kz5 (kz5 (kz5 (kz5 (kz5 (kz5 (kz5 (kz5 (kz5 (kz5 ho0 (Kd.R_lt zq36)) (Kd.R_lt zq37)) (Kd.R_lt zq38)) (Kd.R_lt zq39)) (Kd.R_lt zq45)) (Kd.R_lt zq50)) (Kd.R_lt zq51)) (Kd.R_lt zq52)) (Kd.R_lt zq53)) (Kd.R_lt zq65)) (Kd.R_lt zq144)) (below_size zq12))
     have n12_:=zz5 (hy5 (g:=gb559) (o:=.cells #[.int .i64 t555,.slice Ao17 t556.length co17] 42 (0,0)) zq34 hb)
     have n13_:=zz5 (hy5 (g:=gb576) (o:=.cells #[.int .i64 t572,.slice Ao27 t573.length co27] 42 (0,0)) zq61 hb)
     have n14_:=zz5 (below_step zq12 hb)
     clear HO548
     clear HO550
     clear HO552
     clear HO554
     clear HO558
     clear HO565
     clear HO567
     clear HO569
     clear HO571
     clear HO575
     clear HO580
     clear BK559
     clear BK576
     clear HB
     have HO548:=n0_
     have HO550:=n1_
     have HO552:=n2_
     have HO554:=n3_
     have HO558:=n4_
     have HO565:=n5_
     have HO567:=n6_
     have HO569:=n7_
     have HO571:=n8_
     have HO575:=n9_
     have HO580:=n10_
     have HO584:=n11_
     have BK559:=n12_
     have BK576:=n13_
     have HB:=n14_
     clear n0_ n1_ n2_ n3_ n4_ n5_ n6_ n7_ n8_ n9_ n10_ n11_ n12_ n13_ n14_
     (try clear hb);(try clear hb2);(try clear hk)
     (try clear hi)
     (try clear ho0)
     refine hK.out _ _ ⟨(blk_cell BK559.out 0).trans rfl,(blk_cell BK559.out 1).trans rfl,(blk_cell BK576.out 0).trans rfl,(blk_cell BK576.out 1).trans rfl⟩ (fun hHeld=>?_)
     clear hK K
     refine norm_ (a':=?_) ?_ ?_
     rotate_left
     ·show Act.put _ (some 56) _=_
      simp only[Act.put,sa_,sb_,sc_,i64_w]
      rfl
     refine pure_ (i:=17) (N:=some 57) (v:=?_) (a':=?_) #[Y,Y,Y,Y,Y,Y,Y,Y,Y,Y,Y,Y,Y,Y,Y,Y,Y,Y,Z,Z,Z,Z,Z,Z,Z,Z,Z,Z,Z,Z,Z,Z] rfl rfl (any_of HT_.out (by kernel_rfl)) (fun _ _ _ h=>h) (Or.inl ⟨zq138,?_⟩) ?_ ?_
     rotate_left
     ·intro w';go_simp;with_reducible rfl
     rotate_left
     ·simp only[Act.put,sa_,sb_,sc_,i64_w];rfl
     refine pure_ (i:=18) (N:=some 58) (v:=?_) (a':=?_) #[Y,Y,Y,Y,Y,Y,Y,Y,Y,Y,Y,Y,Y,Y,Y,Y,Y,Y,Y,Z,Z,Z,Z,Z,Z,Z,Z,Z,Z,Z,Z,Z] rfl rfl (any_of HT_.out (by kernel_rfl)) (fun _ _ _ h=>h) (Or.inl ⟨zq138,?_⟩) ?_ ?_
     rotate_left
     ·intro w';go_simp;with_reducible rfl
     rotate_left
     ·simp only[Act.put,sa_,sb_,sc_,i64_w];rfl
     refine pure_ (i:=19) (N:=some 59) (v:=?_) (a':=?_) #[Y,Y,Y,Y,Y,Y,Y,Y,Y,Y,Y,Y,Y,Y,Y,Y,Y,Y,Y,Y,Z,Z,Z,Z,Z,Z,Z,Z,Z,Z,Z,Z] rfl rfl (any_of HT_.out (by kernel_rfl)) (fun _ _ _ h=>h) (Or.inl ⟨zq138,?_⟩) ?_ ?_
     rotate_left
     ·intro w';go_simp;with_reducible rfl
     rotate_left
     ·simp only[Act.put,sa_,sb_,sc_,i64_w];rfl
     refine pure_ (i:=20) (N:=some 60) (v:=?_) (a':=?_) #[Y,Y,Y,Y,Y,Y,Y,Y,Y,Y,Y,Y,Y,Y,Y,Y,Y,Y,Y,Y,Y,Z,Z,Z,Z,Z,Z,Z,Z,Z,Z,Z] rfl rfl (any_of HT_.out (by kernel_rfl)) (fun _ _ _ h=>h) (Or.inl ⟨zq138,?_⟩) ?_ ?_
     rotate_left
     ·intro w';go_simp;with_reducible rfl
     rotate_left
     ·simp only[Act.put,sa_,sb_,sc_,i64_w];rfl
     refine pure_ (i:=21) (N:=some 61) (v:=?_) (a':=?_) #[Y,Y,Y,Y,Y,Y,Y,Y,Y,Y,Y,Y,Y,Y,Y,Y,Y,Y,Y,Y,Y,Y,Z,Z,Z,Z,Z,Z,Z,Z,Z,Z] rfl rfl (any_of HT_.out (by kernel_rfl)) (fun _ _ _ h=>h) (Or.inl ⟨zq138,?_⟩) ?_ ?_
     rotate_left
     ·intro w';go_simp;with_reducible rfl
     rotate_left
     ·simp only[Act.put,sa_,sb_,sc_,i64_w];rfl
     refine pure_ (i:=23) (N:=some 63) (v:=?_) (a':=?_) #[Y,Y,Y,Y,Y,Y,Y,Y,Y,Y,Y,Y,Y,Y,Y,Y,Y,Y,Y,Y,Y,Y,Z,Y,Z,Z,Z,Z,Z,Z,Z,Z] rfl rfl (any_of HT_.out (by kernel_rfl)) (fun _ _ _ h=>h) (Or.inl ⟨zq138,?_⟩) ?_ ?_
     rotate_left
     ·intro w';go_simp;with_reducible rfl
     rotate_left
     ·simp only[Act.put,sa_,sb_,sc_,i64_w];rfl
     refine pure_ (i:=24) (N:=some 64) (v:=?_) (a':=?_) #[Y,Y,Y,Y,Y,Y,Y,Y,Y,Y,Y,Y,Y,Y,Y,Y,Y,Y,Y,Y,Y,Y,Z,Y,Y,Z,Z,Z,Z,Z,Z,Z] rfl rfl (any_of HT_.out (by kernel_rfl)) (fun _ _ _ h=>h) (Or.inl ⟨zq138,?_⟩) ?_ ?_
     rotate_left
     ·intro w';go_simp;with_reducible rfl
     rotate_left
     ·simp only[Act.put,sa_,sb_,sc_,i64_w];rfl
     refine pure_ (i:=25) (N:=some 65) (v:=?_) (a':=?_) #[Y,Y,Y,Y,Y,Y,Y,Y,Y,Y,Y,Y,Y,Y,Y,Y,Y,Y,Y,Y,Y,Y,Z,Y,Y,Y,Z,Z,Z,Z,Z,Z] rfl rfl (any_of HT_.out (by kernel_rfl)) (fun _ _ _ h=>h) (Or.inl ⟨zq138,?_⟩) ?_ ?_
     rotate_left
     ·intro w';go_simp;with_reducible rfl
     rotate_left
     ·simp only[Act.put,sa_,sb_,sc_,i64_w];rfl
     refine pure_ (i:=26) (N:=some 66) (v:=?_) (a':=?_) #[Y,Y,Y,Y,Y,Y,Y,Y,Y,Y,Y,Y,Y,Y,Y,Y,Y,Y,Y,Y,Y,Y,Z,Y,Y,Y,Y,Z,Z,Z,Z,Z] rfl rfl (any_of HT_.out (by kernel_rfl)) (fun _ _ _ h=>h) (Or.inl ⟨zq138,?_⟩) ?_ ?_
     rotate_left
     ·intro w';go_simp;with_reducible rfl
     rotate_left
     ·simp only[Act.put,sa_,sb_,sc_,i64_w];rfl
     refine take_ (i:=22) (N:=some 62) (v:=?_) (a':=?_) #[Y,Y,Y,Y,Y,Y,Y,Y,Y,Y,Y,Y,Y,Y,Y,Y,Y,Y,Y,Y,Y,Y,Y,Y,Y,Y,Y,Z,Z,Z,Z,Z] rfl rfl (take_ofW HT_.out HW_.out (by kernel_rfl)) (fun _ _ _ h=>h) (Or.inl ⟨zq138,?_⟩) hHeld ?_ ?_
     rotate_left
     ·rintro w' ⟨s0,s1,s2,s3⟩
      go_simp
      with_reducible rfl
     rotate_left
     ·simp only[Act.put,sa_,sb_,sc_,i64_w];rfl
     refine one_ (i:=27) (N:=some 67) #[Y,Y,Y,Y,Y,Y,Y,Y,Y,Y,Y,Y,Y,Y,Y,Y,Y,Y,Y,Y,Y,Y,Y,Y,Y,Y,Y,Y,Z,Z,Z,Z] rfl rfl (one_of HT_.out (by kernel_rfl)) zq22 (fun K hK=>?_)
     refine goes_ Try.func27 (by kernel_rfl) rfl #[.slice Ao19 t560.length co19,.slice Ao20 t561.length co20,.slice Ao21 t562.length co21,.slice Ao22 t563.length co22] zq138 rfl rfl zq20 ?_
     with_reducible refine(spec_OpenText.calls k _ _ t560 _ _ t561 _ _ t562 _ _ t563 t585 t586 _ ?side1 ?side2 ?side3 ?side4 ?side5 ?side6 ?side7 ?side8 A32.out).mono ?_
     (case side1=>exact zq131)
     (case side2=>exact(iz5 HO565.out).2.1)
     (case side3=>exact zq132)
     (case side4=>exact(iz5 HO567.out).2.1)
     (case side5=>exact zq133)
     (case side6=>exact(iz5 HO569.out).2.1)
     (case side7=>exact zq134)
     (case side8=>exact(iz5 HO571.out).2.1)
     rintro e w38 ⟨v587,rfl,ho0,hb⟩
     refine⟨_,rfl,?_⟩
     have n0_:=zz5 (jz5 zq36 (fz5 ho0) hb)
     have n1_:=zz5 (jz5 zq37 (fz5 ho0) hb)
     have n2_:=zz5 (jz5 zq38 (fz5 ho0) hb)
     have n3_:=zz5 (jz5 zq39 (fz5 ho0) hb)
     have n4_:=zz5 (jz5 zq45 (fz5 ho0) hb)
     have n5_:=zz5 (jz5 zq50 (fz5 ho0) hb)
     have n6_:=zz5 (jz5 zq51 (fz5 ho0) hb)
     have n7_:=zz5 (jz5 zq52 (fz5 ho0) hb)
     have n8_:=zz5 (jz5 zq53 (fz5 ho0) hb)
     have n9_:=zz5 (jz5 zq65 (fz5 ho0) hb)
     have n10_:=zz5 (jz5 zq144 (fz5 ho0) hb)
     have n11_:=zz5 (jz5 (by(with_reducible repeat (first|apply az5|apply bz5|apply cz5));exact HO584.out) (fz5 ho0) hb)
     have n12_:=zz5 (Kd.R_lower (kz5 (kz5 (kz5 (kz5 (kz5 (kz5 (kz5 (kz5 (kz5 (kz5 (kz5 (kz5 ho0 (Kd.R_lt zq36)) (Kd.R_lt zq37)) (Kd.R_lt zq38)) (Kd.R_lt zq39)) (Kd.R_lt zq45)) (Kd.R_lt zq50)) (Kd.R_lt zq51)) (Kd.R_lt zq52)) (Kd.R_lt zq53)) (Kd.R_lt zq65)) (Kd.R_lt zq144)) (Kd.R_lt (by(with_reducible repeat (first|apply az5|apply bz5|apply cz5));exact HO584.out))) (below_size zq12))
     have n13_:=zz5 (hy5 (g:=gb559) (o:=.cells #[.int .i64 t555,.slice Ao17 t556.length co17] 42 (0,0)) zq34 hb)
     have n14_:=zz5 (hy5 (g:=gb576) (o:=.cells #[.int .i64 t572,.slice Ao27 t573.length co27] 42 (0,0)) zq61 hb)
     have n15_:=zz5 (below_step zq12 hb)
     clear HO548
     clear HO550
     clear HO552
     clear HO554
     clear HO558
     clear HO565
     clear HO567
     clear HO569
     clear HO571
     clear HO575
     clear HO580
     clear HO584
     clear BK559
     clear BK576
     clear HB
     have HO548:=n0_
     have HO550:=n1_
     have HO552:=n2_
     have HO554:=n3_
     have HO558:=n4_
     have HO565:=n5_
     have HO567:=n6_
     have HO569:=n7_
     have HO571:=n8_
     have HO575:=n9_
     have HO580:=n10_
     have HO584:=n11_
     have HO588:=n12_
     have BK559:=n13_
     have BK576:=n14_
     have HB:=n15_
     clear n0_ n1_ n2_ n3_ n4_ n5_ n6_ n7_ n8_ n9_ n10_ n11_ n12_ n13_ n14_ n15_
     (try clear hb);(try clear hb2);(try clear hk)
     (try clear hi)
     (try clear ho0)
     obtain⟨Ao39,co39,eo39⟩:=Kd.R_slice HO588.out
     (first|subst eo39|(injection eo39 with f1_ f2_ f3_;have f4_:=f1_.symm;have f5_:=f3_.symm;clear f1_ f2_ f3_;subst f4_;subst f5_))
     refine hK.out _ _ ⟨(blk_cell BK559.out 0).trans rfl,(blk_cell BK559.out 1).trans rfl,(blk_cell BK576.out 0).trans rfl,(blk_cell BK576.out 1).trans rfl⟩ (fun hHeld=>?_)
     clear hK K
     refine norm_ (a':=?_) ?_ ?_
     rotate_left
     ·show Act.put _ (some 67) _=_
      simp only[Act.put,sa_,sb_,sc_,i64_w]
      rfl
     refine pure_ (i:=28) (N:=some 68) (v:=?_) (a':=?_) #[Y,Y,Y,Y,Y,Y,Y,Y,Y,Y,Y,Y,Y,Y,Y,Y,Y,Y,Y,Y,Y,Y,Y,Y,Y,Y,Y,Y,Y,Z,Z,Z] rfl rfl (any_of HT_.out (by kernel_rfl)) (fun _ _ _ h=>h) (Or.inl ⟨zq138,?_⟩) ?_ ?_
     rotate_left
     ·intro w';go_simp;with_reducible rfl
     rotate_left
     ·simp only[Act.put,sa_,sb_,sc_,i64_w];rfl
     refine one_ (i:=29) (N:=some 69) #[Y,Y,Y,Y,Y,Y,Y,Y,Y,Y,Y,Y,Y,Y,Y,Y,Y,Y,Y,Y,Y,Y,Y,Y,Y,Y,Y,Y,Y,Y,Z,Z] rfl rfl (one_of HT_.out (by kernel_rfl)) zq22 (fun K hK=>?_)
     refine goes_ Try.func13 (by kernel_rfl) rfl #[.slice Ao27 t573.length co27,.slice Ao39 t586.length co39] zq138 rfl rfl zq20 ?_
     with_reducible refine(laws_lwSame.calls _ _ t573 _ _ t586 t589 _ ?side1 ?side2 ?side3 ?side4 A33.out).mono ?_
     (case side1=>repeat (first|exact(iz5 HO575.out).2.2|(with_reducible refine Kd.C_alloc ?_ _)|(with_reducible refine Kd.C_drewN ?_ _)|(with_reducible refine Kd.C_drew ?_)))
     (case side2=>exact(iz5 HO575.out).2.1)
     (case side3=>repeat (first|exact(iz5 HO588.out).2.2|(with_reducible refine Kd.C_alloc ?_ _)|(with_reducible refine Kd.C_drewN ?_ _)|(with_reducible refine Kd.C_drew ?_)))
     (case side4=>exact(iz5 HO588.out).2.1)
     rintro e w' ⟨rfl,⟨nd,rfl⟩⟩
     refine⟨_,rfl,?_⟩
     refine hK.out _ _ ⟨(blk_cell BK559.out 0).trans rfl,(blk_cell BK559.out 1).trans rfl,(blk_cell BK576.out 0).trans rfl,(blk_cell BK576.out 1).trans rfl⟩ (fun hHeld=>?_)
     clear hK K
     refine norm_ (a':=?_) ?_ ?_
     rotate_left
     ·show Act.put _ (some 69) _=_
      simp only[Act.put,sa_,sb_,sc_,i64_w]
      rfl
     refine pure_ (i:=30) (N:=some 70) (v:=?_) (a':=?_) #[Y,Y,Y,Y,Y,Y,Y,Y,Y,Y,Y,Y,Y,Y,Y,Y,Y,Y,Y,Y,Y,Y,Y,Y,Y,Y,Y,Y,Y,Y,Y,Z] rfl rfl (any_of HT_.out (by kernel_rfl)) (fun _ _ _ h=>h) (Or.inl ⟨zq138,?_⟩) ?_ ?_
     rotate_left
     ·intro w';go_simp;with_reducible rfl
     rotate_left
     ·simp only[Act.put,sa_,sb_,sc_,i64_w];rfl
     refine pure_ (i:=31) (N:=some 71) (v:=?_) (a':=?_) #[Y,Y,Y,Y,Y,Y,Y,Y,Y,Y,Y,Y,Y,Y,Y,Y,Y,Y,Y,Y,Y,Y,Y,Y,Y,Y,Y,Y,Y,Y,Y,Y] rfl rfl (any_of HT_.out (by kernel_rfl)) (fun _ _ _ h=>h) (Or.inl ⟨zq138,?_⟩) ?_ ?_
     rotate_left
     ·intro w';go_simp;with_reducible rfl
     rotate_left
     ·simp only[Act.put,sa_,sb_,sc_,i64_w];rfl
     refine done_ (done_of HT_.out (by kernel_rfl)) ?_
     try go_wp2
     go_meet
     case rel=>exact⟨_,(!t589),zq181,H',⟨by first|omega|exact Nat.le_refl _⟩,⟨by(with_reducible repeat (first|apply az5|apply bz5|apply cz5));exact gz5 HO548.out (fun _ hk=>⟨hk.1.1.1.1,⟨hk.1.1.1.2.1,⟨hk.1.1.1.2.2.1,⟨hk.1.1.1.2.2.2.2.1,⟨hk.1.1.1.2.2.2.2.2.1,⟨hk.1.1.1.2.2.2.2.2.2.1,⟨hk.1.1.1.2.2.2.2.2.2.2.1,⟨hk.1.1.1.2.2.2.1,hk.1.1.1.2.2.2.2.2.2.2.2⟩⟩⟩⟩⟩⟩⟩⟩)⟩,⟨by(with_reducible repeat (first|apply az5|apply bz5|apply cz5));exact gz5 HO550.out (fun _ hk=>⟨hk.1.1.1.1,⟨hk.1.1.1.2.1,⟨hk.1.1.1.2.2.1,⟨hk.1.1.1.2.2.2.2.1,⟨hk.1.1.1.2.2.2.2.2.1,⟨hk.1.1.1.2.2.2.2.2.2.1,⟨hk.1.1.1.2.2.2.2.2.2.2.1,⟨hk.1.1.1.2.2.2.1,hk.1.1.1.2.2.2.2.2.2.2.2⟩⟩⟩⟩⟩⟩⟩⟩)⟩,⟨by(with_reducible repeat (first|apply az5|apply bz5|apply cz5));exact gz5 HO552.out (fun _ hk=>⟨hk.1.1.1.1,⟨hk.1.1.1.2.1,⟨hk.1.1.1.2.2.1,⟨hk.1.1.1.2.2.2.2.1,⟨hk.1.1.1.2.2.2.2.2.1,⟨hk.1.1.1.2.2.2.2.2.2.1,⟨hk.1.1.1.2.2.2.2.2.2.2.1,⟨hk.1.1.1.2.2.2.1,hk.1.1.1.2.2.2.2.2.2.2.2⟩⟩⟩⟩⟩⟩⟩⟩)⟩,⟨by(with_reducible repeat (first|apply az5|apply bz5|apply cz5));exact gz5 HO554.out (fun _ hk=>⟨hk.1.1.1.1,⟨hk.1.1.1.2.1,⟨hk.1.1.1.2.2.1,⟨hk.1.1.1.2.2.2.2.1,⟨hk.1.1.1.2.2.2.2.2.1,⟨hk.1.1.1.2.2.2.2.2.2.1,⟨hk.1.1.1.2.2.2.2.2.2.2.1,⟨hk.1.1.1.2.2.2.1,hk.1.1.1.2.2.2.2.2.2.2.2⟩⟩⟩⟩⟩⟩⟩⟩)⟩,⟨by(with_reducible repeat (first|apply az5|apply bz5|apply cz5));exact gz5 HO565.out (fun _ hk=>⟨hk.1.1.1.1,⟨hk.1.1.1.2.1,⟨hk.1.1.1.2.2.1,⟨hk.1.1.1.2.2.2.1,⟨hk.1.1.1.2.2.2.2.2.1,⟨hk.1.1.1.2.2.2.2.2.2.1,⟨hk.1.1.1.2.2.2.2.2.2.2.1,⟨hk.1.1.1.2.2.2.2.1,hk.1.1.1.2.2.2.2.2.2.2.2⟩⟩⟩⟩⟩⟩⟩⟩)⟩,⟨by(with_reducible repeat (first|apply az5|apply bz5|apply cz5));exact gz5 HO567.out (fun _ hk=>⟨hk.1.1.1.1,⟨hk.1.1.1.2.1,⟨hk.1.1.1.2.2.1,⟨hk.1.1.1.2.2.2.1,⟨hk.1.1.1.2.2.2.2.2.1,⟨hk.1.1.1.2.2.2.2.2.2.1,⟨hk.1.1.1.2.2.2.2.2.2.2.1,⟨hk.1.1.1.2.2.2.2.1,hk.1.1.1.2.2.2.2.2.2.2.2⟩⟩⟩⟩⟩⟩⟩⟩)⟩,⟨by(with_reducible repeat (first|apply az5|apply bz5|apply cz5));exact gz5 HO569.out (fun _ hk=>⟨hk.1.1.1.1,⟨hk.1.1.1.2.1,⟨hk.1.1.1.2.2.1,⟨hk.1.1.1.2.2.2.1,⟨hk.1.1.1.2.2.2.2.2.1,⟨hk.1.1.1.2.2.2.2.2.2.1,⟨hk.1.1.1.2.2.2.2.2.2.2.1,⟨hk.1.1.1.2.2.2.2.1,hk.1.1.1.2.2.2.2.2.2.2.2⟩⟩⟩⟩⟩⟩⟩⟩)⟩,⟨by(with_reducible repeat (first|apply az5|apply bz5|apply cz5));exact gz5 HO571.out (fun _ hk=>⟨hk.1.1.1.1,⟨hk.1.1.1.2.1,⟨hk.1.1.1.2.2.1,⟨hk.1.1.1.2.2.2.1,⟨hk.1.1.1.2.2.2.2.2.1,⟨hk.1.1.1.2.2.2.2.2.2.1,⟨hk.1.1.1.2.2.2.2.2.2.2.1,⟨hk.1.1.1.2.2.2.2.1,hk.1.1.1.2.2.2.2.2.2.2.2⟩⟩⟩⟩⟩⟩⟩⟩)⟩,⟨by(with_reducible repeat (first|apply az5|apply bz5|apply cz5));exact gz5 HO558.out (fun _ hk=>⟨hk.1.1.1.1,⟨hk.1.1.1.2.1,⟨hk.1.1.1.2.2.1,⟨hk.1.1.1.2.2.2.1,⟨hk.1.1.1.2.2.2.2.1,⟨hk.1.1.1.2.2.2.2.2.1,⟨hk.1.1.1.2.2.2.2.2.2.1,⟨hk.1.1.1.2.2.2.2.2.2.2.1,hk.1.1.1.2.2.2.2.2.2.2.2⟩⟩⟩⟩⟩⟩⟩⟩)⟩,⟨by(with_reducible repeat (first|apply az5|apply bz5|apply cz5));exact gz5 HO575.out (fun _ hk=>⟨hk.1.1.1.1,⟨hk.1.1.1.2.1,⟨hk.1.1.1.2.2.1,⟨hk.1.1.1.2.2.2.1,⟨hk.1.1.1.2.2.2.2.2.1,⟨hk.1.1.1.2.2.2.2.2.2.1,⟨hk.1.1.1.2.2.2.2.2.2.2.1,⟨hk.1.1.1.2.2.2.2.2.2.2.2,hk.1.1.1.2.2.2.2.1⟩⟩⟩⟩⟩⟩⟩⟩)⟩,⟨zq34⟩,⟨zq61⟩,⟨zq43⟩⟩
    ·rw[if_neg c31] at H
     have c31b0:(t572 == t581)=false:=beq_eq_false_iff_ne.mpr c31
     have c31b1:(t572 != t581)=true:=bne_iff_ne.mpr c31
     have H':=zz5 H
     clear H
     try go_wp2
     have n0_:Aside0 (Kd.R (Kd.int .u8) 5 ((w24.setCell ⟨gb576,0,none⟩ (.int .i64 t572)).setCell ⟨gb576,1,none⟩ (.slice Ao27 t573.length co27)) w.heap.size (fun k_=>some k_≠(.slice Ao11 t544.length co11:Value).ownBlock∧some k_≠(.slice Ao12 t545.length co12:Value).ownBlock∧some k_≠(.slice Ao13 t546.length co13:Value).ownBlock∧some k_≠(.slice Ao17 t556.length co17:Value).ownBlock∧some k_≠(.slice Ao19 t560.length co19:Value).ownBlock∧some k_≠(.slice Ao20 t561.length co20:Value).ownBlock∧some k_≠(.slice Ao21 t562.length co21:Value).ownBlock∧some k_≠(.slice Ao22 t563.length co22:Value).ownBlock∧some k_≠(.slice Ao27 t573.length co27:Value).ownBlock) (.slice Ao10 t543.length co10) t543):=⟨zq73⟩
     have n1_:Aside0 (Kd.R (Kd.int .u8) 5 ((w24.setCell ⟨gb576,0,none⟩ (.int .i64 t572)).setCell ⟨gb576,1,none⟩ (.slice Ao27 t573.length co27)) w.heap.size (fun k_=>some k_≠(.slice Ao10 t543.length co10:Value).ownBlock∧some k_≠(.slice Ao12 t545.length co12:Value).ownBlock∧some k_≠(.slice Ao13 t546.length co13:Value).ownBlock∧some k_≠(.slice Ao17 t556.length co17:Value).ownBlock∧some k_≠(.slice Ao19 t560.length co19:Value).ownBlock∧some k_≠(.slice Ao20 t561.length co20:Value).ownBlock∧some k_≠(.slice Ao21 t562.length co21:Value).ownBlock∧some k_≠(.slice Ao22 t563.length co22:Value).ownBlock∧some k_≠(.slice Ao27 t573.length co27:Value).ownBlock) (.slice Ao11 t544.length co11) t544):=⟨zq74⟩
     have n2_:Aside0 (Kd.R (Kd.int .u8) 5 ((w24.setCell ⟨gb576,0,none⟩ (.int .i64 t572)).setCell ⟨gb576,1,none⟩ (.slice Ao27 t573.length co27)) w.heap.size (fun k_=>some k_≠(.slice Ao10 t543.length co10:Value).ownBlock∧some k_≠(.slice Ao11 t544.length co11:Value).ownBlock∧some k_≠(.slice Ao13 t546.length co13:Value).ownBlock∧some k_≠(.slice Ao17 t556.length co17:Value).ownBlock∧some k_≠(.slice Ao19 t560.length co19:Value).ownBlock∧some k_≠(.slice Ao20 t561.length co20:Value).ownBlock∧some k_≠(.slice Ao21 t562.length co21:Value).ownBlock∧some k_≠(.slice Ao22 t563.length co22:Value).ownBlock∧some k_≠(.slice Ao27 t573.length co27:Value).ownBlock) (.slice Ao12 t545.length co12) t545):=⟨zq75⟩
     have n3_:Aside0 (Kd.R (Kd.int .u8) 5 ((w24.setCell ⟨gb576,0,none⟩ (.int .i64 t572)).setCell ⟨gb576,1,none⟩ (.slice Ao27 t573.length co27)) w.heap.size (fun k_=>some k_≠(.slice Ao10 t543.length co10:Value).ownBlock∧some k_≠(.slice Ao11 t544.length co11:Value).ownBlock∧some k_≠(.slice Ao12 t545.length co12:Value).ownBlock∧some k_≠(.slice Ao17 t556.length co17:Value).ownBlock∧some k_≠(.slice Ao19 t560.length co19:Value).ownBlock∧some k_≠(.slice Ao20 t561.length co20:Value).ownBlock∧some k_≠(.slice Ao21 t562.length co21:Value).ownBlock∧some k_≠(.slice Ao22 t563.length co22:Value).ownBlock∧some k_≠(.slice Ao27 t573.length co27:Value).ownBlock) (.slice Ao13 t546.length co13) t546):=⟨zq76⟩
     have n4_:Aside0 (Kd.R (Kd.int .u8) 5 ((w24.setCell ⟨gb576,0,none⟩ (.int .i64 t572)).setCell ⟨gb576,1,none⟩ (.slice Ao27 t573.length co27)) w.heap.size (fun k_=>some k_≠(.slice Ao10 t543.length co10:Value).ownBlock∧some k_≠(.slice Ao11 t544.length co11:Value).ownBlock∧some k_≠(.slice Ao12 t545.length co12:Value).ownBlock∧some k_≠(.slice Ao13 t546.length co13:Value).ownBlock∧some k_≠(.slice Ao19 t560.length co19:Value).ownBlock∧some k_≠(.slice Ao20 t561.length co20:Value).ownBlock∧some k_≠(.slice Ao21 t562.length co21:Value).ownBlock∧some k_≠(.slice Ao22 t563.length co22:Value).ownBlock∧some k_≠(.slice Ao27 t573.length co27:Value).ownBlock) (.slice Ao17 t556.length co17) t556):=⟨zq71⟩
     have n5_:Aside0 (Kd.R (Kd.int .u8) 5 ((w24.setCell ⟨gb576,0,none⟩ (.int .i64 t572)).setCell ⟨gb576,1,none⟩ (.slice Ao27 t573.length co27)) w.heap.size (fun k_=>some k_≠(.slice Ao10 t543.length co10:Value).ownBlock∧some k_≠(.slice Ao11 t544.length co11:Value).ownBlock∧some k_≠(.slice Ao12 t545.length co12:Value).ownBlock∧some k_≠(.slice Ao13 t546.length co13:Value).ownBlock∧some k_≠(.slice Ao17 t556.length co17:Value).ownBlock∧some k_≠(.slice Ao20 t561.length co20:Value).ownBlock∧some k_≠(.slice Ao21 t562.length co21:Value).ownBlock∧some k_≠(.slice Ao22 t563.length co22:Value).ownBlock∧some k_≠(.slice Ao27 t573.length co27:Value).ownBlock) (.slice Ao19 t560.length co19) t560):=⟨zq77⟩
     have n6_:Aside0 (Kd.R (Kd.int .u8) 5 ((w24.setCell ⟨gb576,0,none⟩ (.int .i64 t572)).setCell ⟨gb576,1,none⟩ (.slice Ao27 t573.length co27)) w.heap.size (fun k_=>some k_≠(.slice Ao10 t543.length co10:Value).ownBlock∧some k_≠(.slice Ao11 t544.length co11:Value).ownBlock∧some k_≠(.slice Ao12 t545.length co12:Value).ownBlock∧some k_≠(.slice Ao13 t546.length co13:Value).ownBlock∧some k_≠(.slice Ao17 t556.length co17:Value).ownBlock∧some k_≠(.slice Ao19 t560.length co19:Value).ownBlock∧some k_≠(.slice Ao21 t562.length co21:Value).ownBlock∧some k_≠(.slice Ao22 t563.length co22:Value).ownBlock∧some k_≠(.slice Ao27 t573.length co27:Value).ownBlock) (.slice Ao20 t561.length co20) t561):=⟨zq78⟩
     have n7_:Aside0 (Kd.R (Kd.int .u8) 5 ((w24.setCell ⟨gb576,0,none⟩ (.int .i64 t572)).setCell ⟨gb576,1,none⟩ (.slice Ao27 t573.length co27)) w.heap.size (fun k_=>some k_≠(.slice Ao10 t543.length co10:Value).ownBlock∧some k_≠(.slice Ao11 t544.length co11:Value).ownBlock∧some k_≠(.slice Ao12 t545.length co12:Value).ownBlock∧some k_≠(.slice Ao13 t546.length co13:Value).ownBlock∧some k_≠(.slice Ao17 t556.length co17:Value).ownBlock∧some k_≠(.slice Ao19 t560.length co19:Value).ownBlock∧some k_≠(.slice Ao20 t561.length co20:Value).ownBlock∧some k_≠(.slice Ao22 t563.length co22:Value).ownBlock∧some k_≠(.slice Ao27 t573.length co27:Value).ownBlock) (.slice Ao21 t562.length co21) t562):=⟨zq79⟩
     have n8_:Aside0 (Kd.R (Kd.int .u8) 5 ((w24.setCell ⟨gb576,0,none⟩ (.int .i64 t572)).setCell ⟨gb576,1,none⟩ (.slice Ao27 t573.length co27)) w.heap.size (fun k_=>some k_≠(.slice Ao10 t543.length co10:Value).ownBlock∧some k_≠(.slice Ao11 t544.length co11:Value).ownBlock∧some k_≠(.slice Ao12 t545.length co12:Value).ownBlock∧some k_≠(.slice Ao13 t546.length co13:Value).ownBlock∧some k_≠(.slice Ao17 t556.length co17:Value).ownBlock∧some k_≠(.slice Ao19 t560.length co19:Value).ownBlock∧some k_≠(.slice Ao20 t561.length co20:Value).ownBlock∧some k_≠(.slice Ao21 t562.length co21:Value).ownBlock∧some k_≠(.slice Ao27 t573.length co27:Value).ownBlock) (.slice Ao22 t563.length co22) t563):=⟨zq80⟩
     have n9_:Aside0 (Kd.R (Kd.int .u8) 5 ((w24.setCell ⟨gb576,0,none⟩ (.int .i64 t572)).setCell ⟨gb576,1,none⟩ (.slice Ao27 t573.length co27)) w.heap.size (fun k_=>some k_≠(.slice Ao10 t543.length co10:Value).ownBlock∧some k_≠(.slice Ao11 t544.length co11:Value).ownBlock∧some k_≠(.slice Ao12 t545.length co12:Value).ownBlock∧some k_≠(.slice Ao13 t546.length co13:Value).ownBlock∧some k_≠(.slice Ao17 t556.length co17:Value).ownBlock∧some k_≠(.slice Ao19 t560.length co19:Value).ownBlock∧some k_≠(.slice Ao20 t561.length co20:Value).ownBlock∧some k_≠(.slice Ao21 t562.length co21:Value).ownBlock∧some k_≠(.slice Ao22 t563.length co22:Value).ownBlock) (.slice Ao27 t573.length co27) t573):=⟨zq72⟩
     have n10_:Aside0 (((w24.setCell ⟨gb576,0,none⟩ (.int .i64 t572)).setCell ⟨gb576,1,none⟩ (.slice Ao27 t573.length co27)).heap[gb559]?=some (.cells #[.int .i64 t555,.slice Ao17 t556.length co17] 42 (0,0))):=⟨zq108⟩
     have n11_:Aside0 (((w24.setCell ⟨gb576,0,none⟩ (.int .i64 t572)).setCell ⟨gb576,1,none⟩ (.slice Ao27 t573.length co27)).heap[gb576]?=some (.cells #[.int .i64 t572,.slice Ao27 t573.length co27] 42 (0,0))):=⟨zq94⟩
     have n12_:Aside0 (Below w.heap.size w ((w24.setCell ⟨gb576,0,none⟩ (.int .i64 t572)).setCell ⟨gb576,1,none⟩ (.slice Ao27 t573.length co27))):=⟨zq43⟩
     (try clear HO548);(try clear HO550);(try clear HO552)
     (try clear HO554);(try clear HO558);(try clear HO565)
     (try clear HO567);(try clear HO569);(try clear HO571)
     (try clear HO575);(try clear BK559);(try clear BK576)
     (try clear HB)
     generalize ((w24.setCell ⟨gb576,0,none⟩ (.int .i64 t572)).setCell ⟨gb576,1,none⟩ (.slice Ao27 t573.length co27))=w40 at n0_ n1_ n2_ n3_ n4_ n5_ n6_ n7_ n8_ n9_ n10_ n11_ n12_ ⊢
     have HO548:=n0_
     have HO550:=n1_
     have HO552:=n2_
     have HO554:=n3_
     have HO558:=n4_
     have HO565:=n5_
     have HO567:=n6_
     have HO569:=n7_
     have HO571:=n8_
     have HO575:=n9_
     have BK559:=n10_
     have BK576:=n11_
     have HB:=n12_
     clear n0_ n1_ n2_ n3_ n4_ n5_ n6_ n7_ n8_ n9_ n10_ n11_ n12_
     have n0_:=zz5 (cz5 HO548.out)
     have n1_:=zz5 (cz5 HO550.out)
     have n2_:=zz5 (cz5 HO552.out)
     have n3_:=zz5 (cz5 HO554.out)
     have n4_:=zz5 (cz5 HO558.out)
     have n5_:=zz5 (cz5 HO565.out)
     have n6_:=zz5 (cz5 HO567.out)
     have n7_:=zz5 (cz5 HO569.out)
     have n8_:=zz5 (cz5 HO571.out)
     have n9_:=zz5 (cz5 HO575.out)
     have n10_:=zz5 (gy5 BK559.out)
     have n11_:=zz5 (gy5 BK576.out)
     have n12_:=zz5 (cy5 HB.out)
     clear HO548
     clear HO550
     clear HO552
     clear HO554
     clear HO558
     clear HO565
     clear HO567
     clear HO569
     clear HO571
     clear HO575
     clear BK559
     clear BK576
     clear HB
     have HO548:=n0_
     have HO550:=n1_
     have HO552:=n2_
     have HO554:=n3_
     have HO558:=n4_
     have HO565:=n5_
     have HO567:=n6_
     have HO569:=n7_
     have HO571:=n8_
     have HO575:=n9_
     have BK559:=n10_
     have BK576:=n11_
     have HB:=n12_
     clear n0_ n1_ n2_ n3_ n4_ n5_ n6_ n7_ n8_ n9_ n10_ n11_ n12_
     refine start_ (n:=32) (S:=fun w'=>w'.cell? ⟨gb559,0,none⟩=some (.int .i64 t555)∧w'.cell? ⟨gb559,1,none⟩=some (.slice Ao17 t556.length co17)∧w'.cell? ⟨gb576,0,none⟩=some (.int .i64 t572)∧w'.cell? ⟨gb576,1,none⟩=some (.slice Ao27 t573.length co27)) (ds:=[]) #[Z,Z,Z,Z,Z,Z,Z,Z,Z,Z,Z,Z,Z,Z,Z,Z,Z,Z,Z,Z,Z,Z,Z,Z,Z,Z,Z,Z,Z,Z,Z,Z] (by kernel_rfl) rfl rfl ⟨(blk_cell BK559.out 0).trans rfl,(blk_cell BK559.out 1).trans rfl,(blk_cell BK576.out 0).trans rfl,(blk_cell BK576.out 1).trans rfl⟩ (fun hHeld=>?_);refine with_tabW laws_FnSeals.tab7 laws_FnSeals.bits7 (fun HT_ HW_=>?_)
     generalize w40.drew=w41 at HO548 HO550 HO552 HO554 HO558 HO565 HO567 HO569 HO571 HO575 BK559 BK576 HB hHeld ⊢
     refine pure_ (i:=0) (N:=some 40) (v:=?_) (a':=?_) #[Y,Z,Z,Z,Z,Z,Z,Z,Z,Z,Z,Z,Z,Z,Z,Z,Z,Z,Z,Z,Z,Z,Z,Z,Z,Z,Z,Z,Z,Z,Z,Z] rfl rfl (any_of HT_.out (by kernel_rfl)) (fun _ _ _ h=>h) (Or.inl ⟨zq138,?_⟩) ?_ ?_
     rotate_left
     ·intro w';go_simp;with_reducible rfl
     rotate_left
     ·simp only[Act.put,sa_,sb_,sc_,i64_w];rfl
     refine pure_ (i:=2) (N:=some 42) (v:=?_) (a':=?_) #[Y,Z,Y,Z,Z,Z,Z,Z,Z,Z,Z,Z,Z,Z,Z,Z,Z,Z,Z,Z,Z,Z,Z,Z,Z,Z,Z,Z,Z,Z,Z,Z] rfl rfl (any_of HT_.out (by kernel_rfl)) (fun _ _ _ h=>h) (Or.inl ⟨zq138,?_⟩) ?_ ?_
     rotate_left
     ·intro w';go_simp;with_reducible rfl
     rotate_left
     ·simp only[Act.put,sa_,sb_,sc_,i64_w];rfl
     refine pure_ (i:=3) (N:=some 43) (v:=?_) (a':=?_) #[Y,Z,Y,Y,Z,Z,Z,Z,Z,Z,Z,Z,Z,Z,Z,Z,Z,Z,Z,Z,Z,Z,Z,Z,Z,Z,Z,Z,Z,Z,Z,Z] rfl rfl (any_of HT_.out (by kernel_rfl)) (fun _ _ _ h=>h) (Or.inl ⟨zq138,?_⟩) ?_ ?_
     rotate_left
     ·intro w';go_simp;with_reducible rfl
     rotate_left
     ·simp only[Act.put,sa_,sb_,sc_,i64_w];rfl
     refine pure_ (i:=4) (N:=some 44) (v:=?_) (a':=?_) #[Y,Z,Y,Y,Y,Z,Z,Z,Z,Z,Z,Z,Z,Z,Z,Z,Z,Z,Z,Z,Z,Z,Z,Z,Z,Z,Z,Z,Z,Z,Z,Z] rfl rfl (any_of HT_.out (by kernel_rfl)) (fun _ _ _ h=>h) (Or.inl ⟨zq138,?_⟩) ?_ ?_
     rotate_left
     ·intro w';go_simp;with_reducible rfl
     rotate_left
     ·simp only[Act.put,sa_,sb_,sc_,i64_w];rfl
     refine pure_ (i:=5) (N:=some 45) (v:=?_) (a':=?_) #[Y,Z,Y,Y,Y,Y,Z,Z,Z,Z,Z,Z,Z,Z,Z,Z,Z,Z,Z,Z,Z,Z,Z,Z,Z,Z,Z,Z,Z,Z,Z,Z] rfl rfl (any_of HT_.out (by kernel_rfl)) (fun _ _ _ h=>h) (Or.inl ⟨zq138,?_⟩) ?_ ?_
     rotate_left
     ·intro w';go_simp;with_reducible rfl
     rotate_left
     ·simp only[Act.put,sa_,sb_,sc_,i64_w];rfl
     refine take_ (i:=1) (N:=some 41) (v:=?_) (a':=?_) #[Y,Y,Y,Y,Y,Y,Z,Z,Z,Z,Z,Z,Z,Z,Z,Z,Z,Z,Z,Z,Z,Z,Z,Z,Z,Z,Z,Z,Z,Z,Z,Z] rfl rfl (take_ofW HT_.out HW_.out (by kernel_rfl)) (fun _ _ _ h=>h) (Or.inl ⟨zq138,?_⟩) hHeld ?_ ?_
     rotate_left
     ·rintro w' ⟨s0,s1,s2,s3⟩
      go_simp
      with_reducible rfl
     rotate_left
     ·simp only[Act.put,sa_,sb_,sc_,i64_w];rfl
     refine one_ (i:=6) (N:=some 46) #[Y,Y,Y,Y,Y,Y,Y,Z,Z,Z,Z,Z,Z,Z,Z,Z,Z,Z,Z,Z,Z,Z,Z,Z,Z,Z,Z,Z,Z,Z,Z,Z] rfl rfl (one_of HT_.out (by kernel_rfl)) zq22 (fun K hK=>?_)
     refine goes_ Try.func26 (by kernel_rfl) rfl #[.slice Ao10 t543.length co10,.slice Ao11 t544.length co11,.slice Ao12 t545.length co12,.slice Ao13 t546.length co13] zq138 rfl rfl zq20 ?_
     with_reducible refine(spec_SealText.calls k _ _ t543 _ _ t544 _ _ t545 _ _ t546 t577 t578 _ ?side1 ?side2 ?side3 ?side4 ?side5 ?side6 ?side7 ?side8 A28.out).mono ?_
     (case side1=>exact zq127)
     (case side2=>exact(iz5 HO548.out).2.1)
     (case side3=>exact zq128)
     (case side4=>exact(iz5 HO550.out).2.1)
     (case side5=>exact zq129)
     (case side6=>exact(iz5 HO552.out).2.1)
     (case side7=>exact zq130)
     (case side8=>exact(iz5 HO554.out).2.1)
     rintro e w42 ⟨v579,rfl,ho0,hb⟩
     refine⟨_,rfl,?_⟩
     have n0_:=zz5 (jz5 zq36 (fz5 ho0) hb)
     have n1_:=zz5 (jz5 zq37 (fz5 ho0) hb)
     have n2_:=zz5 (jz5 zq38 (fz5 ho0) hb)
     have n3_:=zz5 (jz5 zq39 (fz5 ho0) hb)
     have n4_:=zz5 (jz5 zq45 (fz5 ho0) hb)
     have n5_:=zz5 (jz5 zq50 (fz5 ho0) hb)
     have n6_:=zz5 (jz5 zq51 (fz5 ho0) hb)
     have n7_:=zz5 (jz5 zq52 (fz5 ho0) hb)
     have n8_:=zz5 (jz5 zq53 (fz5 ho0) hb)
     have n9_:=zz5 (jz5 zq65 (fz5 ho0) hb)
     have n10_:=zz5 (Kd.R_lower (kz5 (kz5 (kz5 (kz5 (kz5 (kz5 (kz5 (kz5 (kz5 (kz5 ho0 (Kd.R_lt zq36)) (Kd.R_lt zq37)) (Kd.R_lt zq38)) (Kd.R_lt zq39)) (Kd.R_lt zq45)) (Kd.R_lt zq50)) (Kd.R_lt zq51)) (Kd.R_lt zq52)) (Kd.R_lt zq53)) (Kd.R_lt zq65)) (below_size zq12))
     have n11_:=zz5 (hy5 (g:=gb559) (o:=.cells #[.int .i64 t555,.slice Ao17 t556.length co17] 42 (0,0)) zq34 hb)
     have n12_:=zz5 (hy5 (g:=gb576) (o:=.cells #[.int .i64 t572,.slice Ao27 t573.length co27] 42 (0,0)) zq61 hb)
     have n13_:=zz5 (below_step zq12 hb)
     clear HO548
     clear HO550
     clear HO552
     clear HO554
     clear HO558
     clear HO565
     clear HO567
     clear HO569
     clear HO571
     clear HO575
     clear BK559
     clear BK576
     clear HB
     have HO548:=n0_
     have HO550:=n1_
     have HO552:=n2_
     have HO554:=n3_
     have HO558:=n4_
     have HO565:=n5_
     have HO567:=n6_
     have HO569:=n7_
     have HO571:=n8_
     have HO575:=n9_
     have HO580:=n10_
     have BK559:=n11_
     have BK576:=n12_
     have HB:=n13_
     clear n0_ n1_ n2_ n3_ n4_ n5_ n6_ n7_ n8_ n9_ n10_ n11_ n12_ n13_
     (try clear hb);(try clear hb2);(try clear hk)
     (try clear hi)
     (try clear ho0)
     refine hK.out _ _ ⟨(blk_cell BK559.out 0).trans rfl,(blk_cell BK559.out 1).trans rfl,(blk_cell BK576.out 0).trans rfl,(blk_cell BK576.out 1).trans rfl⟩ (fun hHeld=>?_)
     clear hK K
     refine norm_ (a':=?_) ?_ ?_
     rotate_left
     ·show Act.put _ (some 46) _=_
      simp only[Act.put,sa_,sb_,sc_,i64_w]
      rfl
     refine pure_ (i:=7) (N:=some 47) (v:=?_) (a':=?_) #[Y,Y,Y,Y,Y,Y,Y,Y,Z,Z,Z,Z,Z,Z,Z,Z,Z,Z,Z,Z,Z,Z,Z,Z,Z,Z,Z,Z,Z,Z,Z,Z] rfl rfl (any_of HT_.out (by kernel_rfl)) (fun _ _ _ h=>h) (Or.inl ⟨zq138,?_⟩) ?_ ?_
     rotate_left
     ·intro w';go_simp;with_reducible rfl
     rotate_left
     ·simp only[Act.put,sa_,sb_,sc_,i64_w];rfl
     refine pure_ (i:=8) (N:=some 48) (v:=?_) (a':=?_) #[Y,Y,Y,Y,Y,Y,Y,Y,Y,Z,Z,Z,Z,Z,Z,Z,Z,Z,Z,Z,Z,Z,Z,Z,Z,Z,Z,Z,Z,Z,Z,Z] rfl rfl (any_of HT_.out (by kernel_rfl)) (fun _ _ _ h=>h) (Or.inl ⟨zq138,?_⟩) ?_ ?_
     rotate_left
     ·intro w';go_simp;with_reducible rfl
     rotate_left
     ·simp only[Act.put,sa_,sb_,sc_,i64_w];rfl
     refine pure_ (i:=9) (N:=some 49) (v:=?_) (a':=?_) #[Y,Y,Y,Y,Y,Y,Y,Y,Y,Y,Z,Z,Z,Z,Z,Z,Z,Z,Z,Z,Z,Z,Z,Z,Z,Z,Z,Z,Z,Z,Z,Z] rfl rfl (any_of HT_.out (by kernel_rfl)) (fun _ _ _ h=>h) (Or.inl ⟨zq138,?_⟩) ?_ ?_
     rotate_left
     ·intro w';go_simp;with_reducible rfl
     rotate_left
     ·simp only[Act.put,sa_,sb_,sc_,i64_w];rfl
     refine pure_ (i:=10) (N:=some 50) (v:=?_) (a':=?_) #[Y,Y,Y,Y,Y,Y,Y,Y,Y,Y,Y,Z,Z,Z,Z,Z,Z,Z,Z,Z,Z,Z,Z,Z,Z,Z,Z,Z,Z,Z,Z,Z] rfl rfl (any_of HT_.out (by kernel_rfl)) (fun _ _ _ h=>h) (Or.inl ⟨zq138,?_⟩) ?_ ?_
     rotate_left
     ·intro w';go_simp;with_reducible rfl
     rotate_left
     ·simp only[Act.put,sa_,sb_,sc_,i64_w];rfl
     refine pure_ (i:=12) (N:=some 52) (v:=?_) (a':=?_) #[Y,Y,Y,Y,Y,Y,Y,Y,Y,Y,Y,Z,Y,Z,Z,Z,Z,Z,Z,Z,Z,Z,Z,Z,Z,Z,Z,Z,Z,Z,Z,Z] rfl rfl (any_of HT_.out (by kernel_rfl)) (fun _ _ _ h=>h) (Or.inl ⟨zq138,?_⟩) ?_ ?_
     rotate_left
     ·intro w';go_simp;with_reducible rfl
     rotate_left
     ·simp only[Act.put,sa_,sb_,sc_,i64_w];rfl
     refine pure_ (i:=13) (N:=some 53) (v:=?_) (a':=?_) #[Y,Y,Y,Y,Y,Y,Y,Y,Y,Y,Y,Z,Y,Y,Z,Z,Z,Z,Z,Z,Z,Z,Z,Z,Z,Z,Z,Z,Z,Z,Z,Z] rfl rfl (any_of HT_.out (by kernel_rfl)) (fun _ _ _ h=>h) (Or.inl ⟨zq138,?_⟩) ?_ ?_
     rotate_left
     ·intro w';go_simp;with_reducible rfl
     rotate_left
     ·simp only[Act.put,sa_,sb_,sc_,i64_w];rfl
     refine pure_ (i:=14) (N:=some 54) (v:=?_) (a':=?_) #[Y,Y,Y,Y,Y,Y,Y,Y,Y,Y,Y,Z,Y,Y,Y,Z,Z,Z,Z,Z,Z,Z,Z,Z,Z,Z,Z,Z,Z,Z,Z,Z] rfl rfl (any_of HT_.out (by kernel_rfl)) (fun _ _ _ h=>h) (Or.inl ⟨zq138,?_⟩) ?_ ?_
     rotate_left
     ·intro w';go_simp;with_reducible rfl
     rotate_left
     ·simp only[Act.put,sa_,sb_,sc_,i64_w];rfl
     refine pure_ (i:=15) (N:=some 55) (v:=?_) (a':=?_) #[Y,Y,Y,Y,Y,Y,Y,Y,Y,Y,Y,Z,Y,Y,Y,Y,Z,Z,Z,Z,Z,Z,Z,Z,Z,Z,Z,Z,Z,Z,Z,Z] rfl rfl (any_of HT_.out (by kernel_rfl)) (fun _ _ _ h=>h) (Or.inl ⟨zq138,?_⟩) ?_ ?_
     rotate_left
     ·intro w';go_simp;with_reducible rfl
     rotate_left
     ·simp only[Act.put,sa_,sb_,sc_,i64_w];rfl
     refine take_ (i:=11) (N:=some 51) (v:=?_) (a':=?_) #[Y,Y,Y,Y,Y,Y,Y,Y,Y,Y,Y,Y,Y,Y,Y,Y,Z,Z,Z,Z,Z,Z,Z,Z,Z,Z,Z,Z,Z,Z,Z,Z] rfl rfl (take_ofW HT_.out HW_.out (by kernel_rfl)) (fun _ _ _ h=>h) (Or.inl ⟨zq138,?_⟩) hHeld ?_ ?_
     rotate_left
     ·rintro w' ⟨s0,s1,s2,s3⟩
      go_simp
      with_reducible rfl
     rotate_left
     ·simp only[Act.put,sa_,sb_,sc_,i64_w];rfl
     refine one_ (i:=16) (N:=some 56) #[Y,Y,Y,Y,Y,Y,Y,Y,Y,Y,Y,Y,Y,Y,Y,Y,Y,Z,Z,Z,Z,Z,Z,Z,Z,Z,Z,Z,Z,Z,Z,Z] rfl rfl (one_of HT_.out (by kernel_rfl)) zq22 (fun K hK=>?_)
     refine goes_ Try.func27 (by kernel_rfl) rfl #[.slice Ao19 t560.length co19,.slice Ao20 t561.length co20,.slice Ao21 t562.length co21,.slice Ao22 t563.length co22] zq138 rfl rfl zq20 ?_
     with_reducible refine(spec_OpenText.calls k _ _ t560 _ _ t561 _ _ t562 _ _ t563 t581 t582 _ ?side1 ?side2 ?side3 ?side4 ?side5 ?side6 ?side7 ?side8 A30.out).mono ?_
     (case side1=>exact zq131)
     (case side2=>exact(iz5 HO565.out).2.1)
     (case side3=>exact zq132)
     (case side4=>exact(iz5 HO567.out).2.1)
     (case side5=>exact zq133)
     (case side6=>exact(iz5 HO569.out).2.1)
     (case side7=>exact zq134)
     (case side8=>exact(iz5 HO571.out).2.1)
     rintro e w43 ⟨v583,rfl,ho0,hb⟩
     refine⟨_,rfl,?_⟩
     have n0_:=zz5 (jz5 zq36 (fz5 ho0) hb)
     have n1_:=zz5 (jz5 zq37 (fz5 ho0) hb)
     have n2_:=zz5 (jz5 zq38 (fz5 ho0) hb)
     have n3_:=zz5 (jz5 zq39 (fz5 ho0) hb)
     have n4_:=zz5 (jz5 zq45 (fz5 ho0) hb)
     have n5_:=zz5 (jz5 zq50 (fz5 ho0) hb)
     have n6_:=zz5 (jz5 zq51 (fz5 ho0) hb)
     have n7_:=zz5 (jz5 zq52 (fz5 ho0) hb)
     have n8_:=zz5 (jz5 zq53 (fz5 ho0) hb)
     have n9_:=zz5 (jz5 zq65 (fz5 ho0) hb)
     have n10_:=zz5 (jz5 zq144 (fz5 ho0) hb)
     have n11_:=zz5 (Kd.R_lower (kz5 (kz5 (kz5 (kz5 (kz5 (kz5 (kz5 (kz5 (kz5 (kz5 (kz5 ho0 (Kd.R_lt zq36)) (Kd.R_lt zq37)) (Kd.R_lt zq38)) (Kd.R_lt zq39)) (Kd.R_lt zq45)) (Kd.R_lt zq50)) (Kd.R_lt zq51)) (Kd.R_lt zq52)) (Kd.R_lt zq53)) (Kd.R_lt zq65)) (Kd.R_lt zq144)) (below_size zq12))
     have n12_:=zz5 (hy5 (g:=gb559) (o:=.cells #[.int .i64 t555,.slice Ao17 t556.length co17] 42 (0,0)) zq34 hb)
     have n13_:=zz5 (hy5 (g:=gb576) (o:=.cells #[.int .i64 t572,.slice Ao27 t573.length co27] 42 (0,0)) zq61 hb)
     have n14_:=zz5 (below_step zq12 hb)
     clear HO548
     clear HO550
     clear HO552
     clear HO554
     clear HO558
     clear HO565
     clear HO567
     clear HO569
     clear HO571
     clear HO575
     clear HO580
     clear BK559
     clear BK576
     clear HB
     have HO548:=n0_
     have HO550:=n1_
     have HO552:=n2_
     have HO554:=n3_
     have HO558:=n4_
     have HO565:=n5_
     have HO567:=n6_
     have HO569:=n7_
     have HO571:=n8_
     have HO575:=n9_
     have HO580:=n10_
     have HO584:=n11_
     have BK559:=n12_
     have BK576:=n13_
     have HB:=n14_
     clear n0_ n1_ n2_ n3_ n4_ n5_ n6_ n7_ n8_ n9_ n10_ n11_ n12_ n13_ n14_
     (try clear hb);(try clear hb2);(try clear hk)
     (try clear hi)
     (try clear ho0)
     refine hK.out _ _ ⟨(blk_cell BK559.out 0).trans rfl,(blk_cell BK559.out 1).trans rfl,(blk_cell BK576.out 0).trans rfl,(blk_cell BK576.out 1).trans rfl⟩ (fun hHeld=>?_)
     clear hK K
     refine norm_ (a':=?_) ?_ ?_
     rotate_left
     ·show Act.put _ (some 56) _=_
      simp only[Act.put,sa_,sb_,sc_,i64_w]
      rfl
     refine pure_ (i:=17) (N:=some 57) (v:=?_) (a':=?_) #[Y,Y,Y,Y,Y,Y,Y,Y,Y,Y,Y,Y,Y,Y,Y,Y,Y,Y,Z,Z,Z,Z,Z,Z,Z,Z,Z,Z,Z,Z,Z,Z] rfl rfl (any_of HT_.out (by kernel_rfl)) (fun _ _ _ h=>h) (Or.inl ⟨zq138,?_⟩) ?_ ?_
     rotate_left
     ·intro w';go_simp;with_reducible rfl
     rotate_left
     ·simp only[Act.put,sa_,sb_,sc_,i64_w];rfl
     refine pure_ (i:=18) (N:=some 58) (v:=?_) (a':=?_) #[Y,Y,Y,Y,Y,Y,Y,Y,Y,Y,Y,Y,Y,Y,Y,Y,Y,Y,Y,Z,Z,Z,Z,Z,Z,Z,Z,Z,Z,Z,Z,Z] rfl rfl (any_of HT_.out (by kernel_rfl)) (fun _ _ _ h=>h) (Or.inl ⟨zq138,?_⟩) ?_ ?_
     rotate_left
     ·intro w';go_simp;with_reducible rfl
     rotate_left
     ·simp only[Act.put,sa_,sb_,sc_,i64_w];rfl
     refine pure_ (i:=19) (N:=some 59) (v:=?_) (a':=?_) #[Y,Y,Y,Y,Y,Y,Y,Y,Y,Y,Y,Y,Y,Y,Y,Y,Y,Y,Y,Y,Z,Z,Z,Z,Z,Z,Z,Z,Z,Z,Z,Z] rfl rfl (any_of HT_.out (by kernel_rfl)) (fun _ _ _ h=>h) (Or.inl ⟨zq138,?_⟩) ?_ ?_
     rotate_left
     ·intro w';go_simp;with_reducible rfl
     rotate_left
     ·simp only[Act.put,sa_,sb_,sc_,i64_w];rfl
     refine pure_ (i:=20) (N:=some 60) (v:=?_) (a':=?_) #[Y,Y,Y,Y,Y,Y,Y,Y,Y,Y,Y,Y,Y,Y,Y,Y,Y,Y,Y,Y,Y,Z,Z,Z,Z,Z,Z,Z,Z,Z,Z,Z] rfl rfl (any_of HT_.out (by kernel_rfl)) (fun _ _ _ h=>h) (Or.inl ⟨zq138,?_⟩) ?_ ?_
     rotate_left
     ·intro w';go_simp;with_reducible rfl
     rotate_left
     ·simp only[Act.put,sa_,sb_,sc_,i64_w];rfl
     refine pure_ (i:=21) (N:=some 61) (v:=undef) (a':=?_) #[Y,Y,Y,Y,Y,Y,Y,Y,Y,Y,Y,Y,Y,Y,Y,Y,Y,Y,Y,Y,Y,Y,Z,Z,Z,Z,Z,Z,Z,Z,Z,Z] rfl rfl (any_of HT_.out (by kernel_rfl)) (fun _ _ _ h=>h) (Or.inr ⟨zq138,rfl⟩) ?_ ?_
     rotate_left
     ·simp only[Act.put,sa_,sb_,sc_,i64_w];rfl
     refine pure_ (i:=22) (N:=some 62) (v:=undef) (a':=?_) #[Y,Y,Y,Y,Y,Y,Y,Y,Y,Y,Y,Y,Y,Y,Y,Y,Y,Y,Y,Y,Y,Y,Y,Z,Z,Z,Z,Z,Z,Z,Z,Z] rfl rfl (any_of HT_.out (by kernel_rfl)) (fun _ _ _ h=>h) (Or.inr ⟨zq138,rfl⟩) ?_ ?_
     rotate_left
     ·simp only[Act.put,sa_,sb_,sc_,i64_w];rfl
     refine pure_ (i:=23) (N:=some 63) (v:=undef) (a':=?_) #[Y,Y,Y,Y,Y,Y,Y,Y,Y,Y,Y,Y,Y,Y,Y,Y,Y,Y,Y,Y,Y,Y,Y,Y,Z,Z,Z,Z,Z,Z,Z,Z] rfl rfl (any_of HT_.out (by kernel_rfl)) (fun _ _ _ h=>h) (Or.inr ⟨zq138,rfl⟩) ?_ ?_
     rotate_left
     ·simp only[Act.put,sa_,sb_,sc_,i64_w];rfl
     refine pure_ (i:=24) (N:=some 64) (v:=undef) (a':=?_) #[Y,Y,Y,Y,Y,Y,Y,Y,Y,Y,Y,Y,Y,Y,Y,Y,Y,Y,Y,Y,Y,Y,Y,Y,Y,Z,Z,Z,Z,Z,Z,Z] rfl rfl (any_of HT_.out (by kernel_rfl)) (fun _ _ _ h=>h) (Or.inr ⟨zq138,rfl⟩) ?_ ?_
     rotate_left
     ·simp only[Act.put,sa_,sb_,sc_,i64_w];rfl
     refine pure_ (i:=25) (N:=some 65) (v:=undef) (a':=?_) #[Y,Y,Y,Y,Y,Y,Y,Y,Y,Y,Y,Y,Y,Y,Y,Y,Y,Y,Y,Y,Y,Y,Y,Y,Y,Y,Z,Z,Z,Z,Z,Z] rfl rfl (any_of HT_.out (by kernel_rfl)) (fun _ _ _ h=>h) (Or.inr ⟨zq138,rfl⟩) ?_ ?_
     rotate_left
     ·simp only[Act.put,sa_,sb_,sc_,i64_w];rfl
     refine pure_ (i:=26) (N:=some 66) (v:=undef) (a':=?_) #[Y,Y,Y,Y,Y,Y,Y,Y,Y,Y,Y,Y,Y,Y,Y,Y,Y,Y,Y,Y,Y,Y,Y,Y,Y,Y,Y,Z,Z,Z,Z,Z] rfl rfl (any_of HT_.out (by kernel_rfl)) (fun _ _ _ h=>h) (Or.inr ⟨zq138,rfl⟩) ?_ ?_
     rotate_left
     ·simp only[Act.put,sa_,sb_,sc_,i64_w];rfl
     refine pure_ (i:=27) (N:=some 67) (v:=undef) (a':=?_) #[Y,Y,Y,Y,Y,Y,Y,Y,Y,Y,Y,Y,Y,Y,Y,Y,Y,Y,Y,Y,Y,Y,Y,Y,Y,Y,Y,Y,Z,Z,Z,Z] rfl rfl (any_of HT_.out (by kernel_rfl)) (fun _ _ _ h=>h) (Or.inr ⟨zq138,rfl⟩) ?_ ?_
     rotate_left
     ·simp only[Act.put,sa_,sb_,sc_,i64_w];rfl
     refine pure_ (i:=28) (N:=some 68) (v:=undef) (a':=?_) #[Y,Y,Y,Y,Y,Y,Y,Y,Y,Y,Y,Y,Y,Y,Y,Y,Y,Y,Y,Y,Y,Y,Y,Y,Y,Y,Y,Y,Y,Z,Z,Z] rfl rfl (any_of HT_.out (by kernel_rfl)) (fun _ _ _ h=>h) (Or.inr ⟨zq138,rfl⟩) ?_ ?_
     rotate_left
     ·simp only[Act.put,sa_,sb_,sc_,i64_w];rfl
     refine pure_ (i:=29) (N:=some 69) (v:=undef) (a':=?_) #[Y,Y,Y,Y,Y,Y,Y,Y,Y,Y,Y,Y,Y,Y,Y,Y,Y,Y,Y,Y,Y,Y,Y,Y,Y,Y,Y,Y,Y,Y,Z,Z] rfl rfl (any_of HT_.out (by kernel_rfl)) (fun _ _ _ h=>h) (Or.inr ⟨zq138,rfl⟩) ?_ ?_
     rotate_left
     ·simp only[Act.put,sa_,sb_,sc_,i64_w];rfl
     refine pure_ (i:=30) (N:=some 70) (v:=undef) (a':=?_) #[Y,Y,Y,Y,Y,Y,Y,Y,Y,Y,Y,Y,Y,Y,Y,Y,Y,Y,Y,Y,Y,Y,Y,Y,Y,Y,Y,Y,Y,Y,Y,Z] rfl rfl (any_of HT_.out (by kernel_rfl)) (fun _ _ _ h=>h) (Or.inr ⟨zq138,rfl⟩) ?_ ?_
     rotate_left
     ·simp only[Act.put,sa_,sb_,sc_,i64_w];rfl
     refine pure_ (i:=31) (N:=some 71) (v:=?_) (a':=?_) #[Y,Y,Y,Y,Y,Y,Y,Y,Y,Y,Y,Y,Y,Y,Y,Y,Y,Y,Y,Y,Y,Y,Y,Y,Y,Y,Y,Y,Y,Y,Y,Y] rfl rfl (any_of HT_.out (by kernel_rfl)) (fun _ _ _ h=>h) (Or.inl ⟨zq138,?_⟩) ?_ ?_
     rotate_left
     ·intro w';go_simp;with_reducible rfl
     rotate_left
     ·simp only[Act.put,sa_,sb_,sc_,i64_w];rfl
     refine done_ (done_of HT_.out (by kernel_rfl)) ?_
     try go_wp2
     go_meet
     case rel=>exact⟨_,(true),zq181,H',⟨by first|omega|exact Nat.le_refl _⟩,⟨by(with_reducible repeat (first|apply az5|apply bz5|apply cz5));exact gz5 HO548.out (fun _ hk=>⟨hk.1.1.1,⟨hk.1.1.2.1,⟨hk.1.1.2.2.1,⟨hk.1.1.2.2.2.2.1,⟨hk.1.1.2.2.2.2.2.1,⟨hk.1.1.2.2.2.2.2.2.1,⟨hk.1.1.2.2.2.2.2.2.2.1,⟨hk.1.1.2.2.2.1,hk.1.1.2.2.2.2.2.2.2.2⟩⟩⟩⟩⟩⟩⟩⟩)⟩,⟨by(with_reducible repeat (first|apply az5|apply bz5|apply cz5));exact gz5 HO550.out (fun _ hk=>⟨hk.1.1.1,⟨hk.1.1.2.1,⟨hk.1.1.2.2.1,⟨hk.1.1.2.2.2.2.1,⟨hk.1.1.2.2.2.2.2.1,⟨hk.1.1.2.2.2.2.2.2.1,⟨hk.1.1.2.2.2.2.2.2.2.1,⟨hk.1.1.2.2.2.1,hk.1.1.2.2.2.2.2.2.2.2⟩⟩⟩⟩⟩⟩⟩⟩)⟩,⟨by(with_reducible repeat (first|apply az5|apply bz5|apply cz5));exact gz5 HO552.out (fun _ hk=>⟨hk.1.1.1,⟨hk.1.1.2.1,⟨hk.1.1.2.2.1,⟨hk.1.1.2.2.2.2.1,⟨hk.1.1.2.2.2.2.2.1,⟨hk.1.1.2.2.2.2.2.2.1,⟨hk.1.1.2.2.2.2.2.2.2.1,⟨hk.1.1.2.2.2.1,hk.1.1.2.2.2.2.2.2.2.2⟩⟩⟩⟩⟩⟩⟩⟩)⟩,⟨by(with_reducible repeat (first|apply az5|apply bz5|apply cz5));exact gz5 HO554.out (fun _ hk=>⟨hk.1.1.1,⟨hk.1.1.2.1,⟨hk.1.1.2.2.1,⟨hk.1.1.2.2.2.2.1,⟨hk.1.1.2.2.2.2.2.1,⟨hk.1.1.2.2.2.2.2.2.1,⟨hk.1.1.2.2.2.2.2.2.2.1,⟨hk.1.1.2.2.2.1,hk.1.1.2.2.2.2.2.2.2.2⟩⟩⟩⟩⟩⟩⟩⟩)⟩,⟨by(with_reducible repeat (first|apply az5|apply bz5|apply cz5));exact gz5 HO565.out (fun _ hk=>⟨hk.1.1.1,⟨hk.1.1.2.1,⟨hk.1.1.2.2.1,⟨hk.1.1.2.2.2.1,⟨hk.1.1.2.2.2.2.2.1,⟨hk.1.1.2.2.2.2.2.2.1,⟨hk.1.1.2.2.2.2.2.2.2.1,⟨hk.1.1.2.2.2.2.1,hk.1.1.2.2.2.2.2.2.2.2⟩⟩⟩⟩⟩⟩⟩⟩)⟩,⟨by(with_reducible repeat (first|apply az5|apply bz5|apply cz5));exact gz5 HO567.out (fun _ hk=>⟨hk.1.1.1,⟨hk.1.1.2.1,⟨hk.1.1.2.2.1,⟨hk.1.1.2.2.2.1,⟨hk.1.1.2.2.2.2.2.1,⟨hk.1.1.2.2.2.2.2.2.1,⟨hk.1.1.2.2.2.2.2.2.2.1,⟨hk.1.1.2.2.2.2.1,hk.1.1.2.2.2.2.2.2.2.2⟩⟩⟩⟩⟩⟩⟩⟩)⟩,⟨by(with_reducible repeat (first|apply az5|apply bz5|apply cz5));exact gz5 HO569.out (fun _ hk=>⟨hk.1.1.1,⟨hk.1.1.2.1,⟨hk.1.1.2.2.1,⟨hk.1.1.2.2.2.1,⟨hk.1.1.2.2.2.2.2.1,⟨hk.1.1.2.2.2.2.2.2.1,⟨hk.1.1.2.2.2.2.2.2.2.1,⟨hk.1.1.2.2.2.2.1,hk.1.1.2.2.2.2.2.2.2.2⟩⟩⟩⟩⟩⟩⟩⟩)⟩,⟨by(with_reducible repeat (first|apply az5|apply bz5|apply cz5));exact gz5 HO571.out (fun _ hk=>⟨hk.1.1.1,⟨hk.1.1.2.1,⟨hk.1.1.2.2.1,⟨hk.1.1.2.2.2.1,⟨hk.1.1.2.2.2.2.2.1,⟨hk.1.1.2.2.2.2.2.2.1,⟨hk.1.1.2.2.2.2.2.2.2.1,⟨hk.1.1.2.2.2.2.1,hk.1.1.2.2.2.2.2.2.2.2⟩⟩⟩⟩⟩⟩⟩⟩)⟩,⟨by(with_reducible repeat (first|apply az5|apply bz5|apply cz5));exact gz5 HO558.out (fun _ hk=>⟨hk.1.1.1,⟨hk.1.1.2.1,⟨hk.1.1.2.2.1,⟨hk.1.1.2.2.2.1,⟨hk.1.1.2.2.2.2.1,⟨hk.1.1.2.2.2.2.2.1,⟨hk.1.1.2.2.2.2.2.2.1,⟨hk.1.1.2.2.2.2.2.2.2.1,hk.1.1.2.2.2.2.2.2.2.2⟩⟩⟩⟩⟩⟩⟩⟩)⟩,⟨by(with_reducible repeat (first|apply az5|apply bz5|apply cz5));exact gz5 HO575.out (fun _ hk=>⟨hk.1.1.1,⟨hk.1.1.2.1,⟨hk.1.1.2.2.1,⟨hk.1.1.2.2.2.1,⟨hk.1.1.2.2.2.2.2.1,⟨hk.1.1.2.2.2.2.2.2.1,⟨hk.1.1.2.2.2.2.2.2.2.1,⟨hk.1.1.2.2.2.2.2.2.2.2,hk.1.1.2.2.2.2.1⟩⟩⟩⟩⟩⟩⟩⟩)⟩,⟨zq34⟩,⟨zq61⟩,⟨zq43⟩⟩
   ·rw[if_neg c29] at H
    have c29b0:(t555 == t577)=false:=beq_eq_false_iff_ne.mpr c29
    have c29b1:(t555 != t577)=true:=bne_iff_ne.mpr c29
    (first|rw[c29b0]|(simp only[i64_w,i32_w];rw[c29b0])|skip)
    have H':=zz5 H
    clear H
    try go_wp2
    have n0_:Aside0 (Kd.R (Kd.int .u8) 5 ((w24.setCell ⟨gb576,0,none⟩ (.int .i64 t572)).setCell ⟨gb576,1,none⟩ (.slice Ao27 t573.length co27)) w.heap.size (fun k_=>some k_≠(.slice Ao11 t544.length co11:Value).ownBlock∧some k_≠(.slice Ao12 t545.length co12:Value).ownBlock∧some k_≠(.slice Ao13 t546.length co13:Value).ownBlock∧some k_≠(.slice Ao17 t556.length co17:Value).ownBlock∧some k_≠(.slice Ao19 t560.length co19:Value).ownBlock∧some k_≠(.slice Ao20 t561.length co20:Value).ownBlock∧some k_≠(.slice Ao21 t562.length co21:Value).ownBlock∧some k_≠(.slice Ao22 t563.length co22:Value).ownBlock∧some k_≠(.slice Ao27 t573.length co27:Value).ownBlock) (.slice Ao10 t543.length co10) t543):=⟨zq73⟩
    have n1_:Aside0 (Kd.R (Kd.int .u8) 5 ((w24.setCell ⟨gb576,0,none⟩ (.int .i64 t572)).setCell ⟨gb576,1,none⟩ (.slice Ao27 t573.length co27)) w.heap.size (fun k_=>some k_≠(.slice Ao10 t543.length co10:Value).ownBlock∧some k_≠(.slice Ao12 t545.length co12:Value).ownBlock∧some k_≠(.slice Ao13 t546.length co13:Value).ownBlock∧some k_≠(.slice Ao17 t556.length co17:Value).ownBlock∧some k_≠(.slice Ao19 t560.length co19:Value).ownBlock∧some k_≠(.slice Ao20 t561.length co20:Value).ownBlock∧some k_≠(.slice Ao21 t562.length co21:Value).ownBlock∧some k_≠(.slice Ao22 t563.length co22:Value).ownBlock∧some k_≠(.slice Ao27 t573.length co27:Value).ownBlock) (.slice Ao11 t544.length co11) t544):=⟨zq74⟩
    have n2_:Aside0 (Kd.R (Kd.int .u8) 5 ((w24.setCell ⟨gb576,0,none⟩ (.int .i64 t572)).setCell ⟨gb576,1,none⟩ (.slice Ao27 t573.length co27)) w.heap.size (fun k_=>some k_≠(.slice Ao10 t543.length co10:Value).ownBlock∧some k_≠(.slice Ao11 t544.length co11:Value).ownBlock∧some k_≠(.slice Ao13 t546.length co13:Value).ownBlock∧some k_≠(.slice Ao17 t556.length co17:Value).ownBlock∧some k_≠(.slice Ao19 t560.length co19:Value).ownBlock∧some k_≠(.slice Ao20 t561.length co20:Value).ownBlock∧some k_≠(.slice Ao21 t562.length co21:Value).ownBlock∧some k_≠(.slice Ao22 t563.length co22:Value).ownBlock∧some k_≠(.slice Ao27 t573.length co27:Value).ownBlock) (.slice Ao12 t545.length co12) t545):=⟨zq75⟩
    have n3_:Aside0 (Kd.R (Kd.int .u8) 5 ((w24.setCell ⟨gb576,0,none⟩ (.int .i64 t572)).setCell ⟨gb576,1,none⟩ (.slice Ao27 t573.length co27)) w.heap.size (fun k_=>some k_≠(.slice Ao10 t543.length co10:Value).ownBlock∧some k_≠(.slice Ao11 t544.length co11:Value).ownBlock∧some k_≠(.slice Ao12 t545.length co12:Value).ownBlock∧some k_≠(.slice Ao17 t556.length co17:Value).ownBlock∧some k_≠(.slice Ao19 t560.length co19:Value).ownBlock∧some k_≠(.slice Ao20 t561.length co20:Value).ownBlock∧some k_≠(.slice Ao21 t562.length co21:Value).ownBlock∧some k_≠(.slice Ao22 t563.length co22:Value).ownBlock∧some k_≠(.slice Ao27 t573.length co27:Value).ownBlock) (.slice Ao13 t546.length co13) t546):=⟨zq76⟩
    have n4_:Aside0 (Kd.R (Kd.int .u8) 5 ((w24.setCell ⟨gb576,0,none⟩ (.int .i64 t572)).setCell ⟨gb576,1,none⟩ (.slice Ao27 t573.length co27)) w.heap.size (fun k_=>some k_≠(.slice Ao10 t543.length co10:Value).ownBlock∧some k_≠(.slice Ao11 t544.length co11:Value).ownBlock∧some k_≠(.slice Ao12 t545.length co12:Value).ownBlock∧some k_≠(.slice Ao13 t546.length co13:Value).ownBlock∧some k_≠(.slice Ao19 t560.length co19:Value).ownBlock∧some k_≠(.slice Ao20 t561.length co20:Value).ownBlock∧some k_≠(.slice Ao21 t562.length co21:Value).ownBlock∧some k_≠(.slice Ao22 t563.length co22:Value).ownBlock∧some k_≠(.slice Ao27 t573.length co27:Value).ownBlock) (.slice Ao17 t556.length co17) t556):=⟨zq71⟩
    have n5_:Aside0 (Kd.R (Kd.int .u8) 5 ((w24.setCell ⟨gb576,0,none⟩ (.int .i64 t572)).setCell ⟨gb576,1,none⟩ (.slice Ao27 t573.length co27)) w.heap.size (fun k_=>some k_≠(.slice Ao10 t543.length co10:Value).ownBlock∧some k_≠(.slice Ao11 t544.length co11:Value).ownBlock∧some k_≠(.slice Ao12 t545.length co12:Value).ownBlock∧some k_≠(.slice Ao13 t546.length co13:Value).ownBlock∧some k_≠(.slice Ao17 t556.length co17:Value).ownBlock∧some k_≠(.slice Ao20 t561.length co20:Value).ownBlock∧some k_≠(.slice Ao21 t562.length co21:Value).ownBlock∧some k_≠(.slice Ao22 t563.length co22:Value).ownBlock∧some k_≠(.slice Ao27 t573.length co27:Value).ownBlock) (.slice Ao19 t560.length co19) t560):=⟨zq77⟩
    have n6_:Aside0 (Kd.R (Kd.int .u8) 5 ((w24.setCell ⟨gb576,0,none⟩ (.int .i64 t572)).setCell ⟨gb576,1,none⟩ (.slice Ao27 t573.length co27)) w.heap.size (fun k_=>some k_≠(.slice Ao10 t543.length co10:Value).ownBlock∧some k_≠(.slice Ao11 t544.length co11:Value).ownBlock∧some k_≠(.slice Ao12 t545.length co12:Value).ownBlock∧some k_≠(.slice Ao13 t546.length co13:Value).ownBlock∧some k_≠(.slice Ao17 t556.length co17:Value).ownBlock∧some k_≠(.slice Ao19 t560.length co19:Value).ownBlock∧some k_≠(.slice Ao21 t562.length co21:Value).ownBlock∧some k_≠(.slice Ao22 t563.length co22:Value).ownBlock∧some k_≠(.slice Ao27 t573.length co27:Value).ownBlock) (.slice Ao20 t561.length co20) t561):=⟨zq78⟩
    have n7_:Aside0 (Kd.R (Kd.int .u8) 5 ((w24.setCell ⟨gb576,0,none⟩ (.int .i64 t572)).setCell ⟨gb576,1,none⟩ (.slice Ao27 t573.length co27)) w.heap.size (fun k_=>some k_≠(.slice Ao10 t543.length co10:Value).ownBlock∧some k_≠(.slice Ao11 t544.length co11:Value).ownBlock∧some k_≠(.slice Ao12 t545.length co12:Value).ownBlock∧some k_≠(.slice Ao13 t546.length co13:Value).ownBlock∧some k_≠(.slice Ao17 t556.length co17:Value).ownBlock∧some k_≠(.slice Ao19 t560.length co19:Value).ownBlock∧some k_≠(.slice Ao20 t561.length co20:Value).ownBlock∧some k_≠(.slice Ao22 t563.length co22:Value).ownBlock∧some k_≠(.slice Ao27 t573.length co27:Value).ownBlock) (.slice Ao21 t562.length co21) t562):=⟨zq79⟩
    have n8_:Aside0 (Kd.R (Kd.int .u8) 5 ((w24.setCell ⟨gb576,0,none⟩ (.int .i64 t572)).setCell ⟨gb576,1,none⟩ (.slice Ao27 t573.length co27)) w.heap.size (fun k_=>some k_≠(.slice Ao10 t543.length co10:Value).ownBlock∧some k_≠(.slice Ao11 t544.length co11:Value).ownBlock∧some k_≠(.slice Ao12 t545.length co12:Value).ownBlock∧some k_≠(.slice Ao13 t546.length co13:Value).ownBlock∧some k_≠(.slice Ao17 t556.length co17:Value).ownBlock∧some k_≠(.slice Ao19 t560.length co19:Value).ownBlock∧some k_≠(.slice Ao20 t561.length co20:Value).ownBlock∧some k_≠(.slice Ao21 t562.length co21:Value).ownBlock∧some k_≠(.slice Ao27 t573.length co27:Value).ownBlock) (.slice Ao22 t563.length co22) t563):=⟨zq80⟩
    have n9_:Aside0 (Kd.R (Kd.int .u8) 5 ((w24.setCell ⟨gb576,0,none⟩ (.int .i64 t572)).setCell ⟨gb576,1,none⟩ (.slice Ao27 t573.length co27)) w.heap.size (fun k_=>some k_≠(.slice Ao10 t543.length co10:Value).ownBlock∧some k_≠(.slice Ao11 t544.length co11:Value).ownBlock∧some k_≠(.slice Ao12 t545.length co12:Value).ownBlock∧some k_≠(.slice Ao13 t546.length co13:Value).ownBlock∧some k_≠(.slice Ao17 t556.length co17:Value).ownBlock∧some k_≠(.slice Ao19 t560.length co19:Value).ownBlock∧some k_≠(.slice Ao20 t561.length co20:Value).ownBlock∧some k_≠(.slice Ao21 t562.length co21:Value).ownBlock∧some k_≠(.slice Ao22 t563.length co22:Value).ownBlock) (.slice Ao27 t573.length co27) t573):=⟨zq72⟩
    have n10_:Aside0 (((w24.setCell ⟨gb576,0,none⟩ (.int .i64 t572)).setCell ⟨gb576,1,none⟩ (.slice Ao27 t573.length co27)).heap[gb559]?=some (.cells #[.int .i64 t555,.slice Ao17 t556.length co17] 42 (0,0))):=⟨zq108⟩
    have n11_:Aside0 (((w24.setCell ⟨gb576,0,none⟩ (.int .i64 t572)).setCell ⟨gb576,1,none⟩ (.slice Ao27 t573.length co27)).heap[gb576]?=some (.cells #[.int .i64 t572,.slice Ao27 t573.length co27] 42 (0,0))):=⟨zq94⟩
    have n12_:Aside0 (Below w.heap.size w ((w24.setCell ⟨gb576,0,none⟩ (.int .i64 t572)).setCell ⟨gb576,1,none⟩ (.slice Ao27 t573.length co27))):=⟨zq43⟩
    (try clear HO548);(try clear HO550);(try clear HO552)
    (try clear HO554);(try clear HO558);(try clear HO565)
    (try clear HO567);(try clear HO569);(try clear HO571)
    (try clear HO575);(try clear BK559);(try clear BK576)
    (try clear HB)
    generalize ((w24.setCell ⟨gb576,0,none⟩ (.int .i64 t572)).setCell ⟨gb576,1,none⟩ (.slice Ao27 t573.length co27))=w44 at n0_ n1_ n2_ n3_ n4_ n5_ n6_ n7_ n8_ n9_ n10_ n11_ n12_ ⊢
    have HO548:=n0_
    have HO550:=n1_
    have HO552:=n2_
    have HO554:=n3_
    have HO558:=n4_
    have HO565:=n5_
    have HO567:=n6_
    have HO569:=n7_
    have HO571:=n8_
    have HO575:=n9_
    have BK559:=n10_
    have BK576:=n11_
    have HB:=n12_
    clear n0_ n1_ n2_ n3_ n4_ n5_ n6_ n7_ n8_ n9_ n10_ n11_ n12_
    have n0_:=zz5 (cz5 HO548.out)
    have n1_:=zz5 (cz5 HO550.out)
    have n2_:=zz5 (cz5 HO552.out)
    have n3_:=zz5 (cz5 HO554.out)
    have n4_:=zz5 (cz5 HO558.out)
    have n5_:=zz5 (cz5 HO565.out)
    have n6_:=zz5 (cz5 HO567.out)
    have n7_:=zz5 (cz5 HO569.out)
    have n8_:=zz5 (cz5 HO571.out)
    have n9_:=zz5 (cz5 HO575.out)
    have n10_:=zz5 (gy5 BK559.out)
    have n11_:=zz5 (gy5 BK576.out)
    have n12_:=zz5 (cy5 HB.out)
    clear HO548
    clear HO550
    clear HO552
    clear HO554
    clear HO558
    clear HO565
    clear HO567
    clear HO569
    clear HO571
    clear HO575
    clear BK559
    clear BK576
    clear HB
    have HO548:=n0_
    have HO550:=n1_
    have HO552:=n2_
    have HO554:=n3_
    have HO558:=n4_
    have HO565:=n5_
    have HO567:=n6_
    have HO569:=n7_
    have HO571:=n8_
    have HO575:=n9_
    have BK559:=n10_
    have BK576:=n11_
    have HB:=n12_
    clear n0_ n1_ n2_ n3_ n4_ n5_ n6_ n7_ n8_ n9_ n10_ n11_ n12_
    refine start_ (n:=32) (S:=fun w'=>w'.cell? ⟨gb559,0,none⟩=some (.int .i64 t555)∧w'.cell? ⟨gb559,1,none⟩=some (.slice Ao17 t556.length co17)) (ds:=[]) #[Z,Z,Z,Z,Z,Z,Z,Z,Z,Z,Z,Z,Z,Z,Z,Z,Z,Z,Z,Z,Z,Z,Z,Z,Z,Z,Z,Z,Z,Z,Z,Z] (by kernel_rfl) rfl rfl ⟨(blk_cell BK559.out 0).trans rfl,(blk_cell BK559.out 1).trans rfl⟩ (fun hHeld=>?_);refine with_tabW laws_FnSeals.tab7 laws_FnSeals.bits7 (fun HT_ HW_=>?_)
    generalize w44.drew=w45 at HO548 HO550 HO552 HO554 HO558 HO565 HO567 HO569 HO571 HO575 BK559 BK576 HB hHeld ⊢
    refine pure_ (i:=0) (N:=some 40) (v:=?_) (a':=?_) #[Y,Z,Z,Z,Z,Z,Z,Z,Z,Z,Z,Z,Z,Z,Z,Z,Z,Z,Z,Z,Z,Z,Z,Z,Z,Z,Z,Z,Z,Z,Z,Z] rfl rfl (any_of HT_.out (by kernel_rfl)) (fun _ _ _ h=>h) (Or.inl ⟨zq138,?_⟩) ?_ ?_
    rotate_left
    ·intro w';go_simp;with_reducible rfl
    rotate_left
    ·simp only[Act.put,sa_,sb_,sc_,i64_w];rfl
    refine pure_ (i:=2) (N:=some 42) (v:=?_) (a':=?_) #[Y,Z,Y,Z,Z,Z,Z,Z,Z,Z,Z,Z,Z,Z,Z,Z,Z,Z,Z,Z,Z,Z,Z,Z,Z,Z,Z,Z,Z,Z,Z,Z] rfl rfl (any_of HT_.out (by kernel_rfl)) (fun _ _ _ h=>h) (Or.inl ⟨zq138,?_⟩) ?_ ?_
    rotate_left
    ·intro w';go_simp;with_reducible rfl
    rotate_left
    ·simp only[Act.put,sa_,sb_,sc_,i64_w];rfl
    refine pure_ (i:=3) (N:=some 43) (v:=?_) (a':=?_) #[Y,Z,Y,Y,Z,Z,Z,Z,Z,Z,Z,Z,Z,Z,Z,Z,Z,Z,Z,Z,Z,Z,Z,Z,Z,Z,Z,Z,Z,Z,Z,Z] rfl rfl (any_of HT_.out (by kernel_rfl)) (fun _ _ _ h=>h) (Or.inl ⟨zq138,?_⟩) ?_ ?_
    rotate_left
    ·intro w';go_simp;with_reducible rfl
    rotate_left
    ·simp only[Act.put,sa_,sb_,sc_,i64_w];rfl
    refine pure_ (i:=4) (N:=some 44) (v:=?_) (a':=?_) #[Y,Z,Y,Y,Y,Z,Z,Z,Z,Z,Z,Z,Z,Z,Z,Z,Z,Z,Z,Z,Z,Z,Z,Z,Z,Z,Z,Z,Z,Z,Z,Z] rfl rfl (any_of HT_.out (by kernel_rfl)) (fun _ _ _ h=>h) (Or.inl ⟨zq138,?_⟩) ?_ ?_
    rotate_left
    ·intro w';go_simp;with_reducible rfl
    rotate_left
    ·simp only[Act.put,sa_,sb_,sc_,i64_w];rfl
    refine pure_ (i:=5) (N:=some 45) (v:=?_) (a':=?_) #[Y,Z,Y,Y,Y,Y,Z,Z,Z,Z,Z,Z,Z,Z,Z,Z,Z,Z,Z,Z,Z,Z,Z,Z,Z,Z,Z,Z,Z,Z,Z,Z] rfl rfl (any_of HT_.out (by kernel_rfl)) (fun _ _ _ h=>h) (Or.inl ⟨zq138,?_⟩) ?_ ?_
    rotate_left
    ·intro w';go_simp;with_reducible rfl
    rotate_left
    ·simp only[Act.put,sa_,sb_,sc_,i64_w];rfl
    refine take_ (i:=1) (N:=some 41) (v:=?_) (a':=?_) #[Y,Y,Y,Y,Y,Y,Z,Z,Z,Z,Z,Z,Z,Z,Z,Z,Z,Z,Z,Z,Z,Z,Z,Z,Z,Z,Z,Z,Z,Z,Z,Z] rfl rfl (take_ofW HT_.out HW_.out (by kernel_rfl)) (fun _ _ _ h=>h) (Or.inl ⟨zq138,?_⟩) hHeld ?_ ?_
    rotate_left
    ·rintro w' ⟨s0,s1⟩
     go_simp
     with_reducible rfl
    rotate_left
    ·simp only[Act.put,sa_,sb_,sc_,i64_w];rfl
    refine one_ (i:=6) (N:=some 46) #[Y,Y,Y,Y,Y,Y,Y,Z,Z,Z,Z,Z,Z,Z,Z,Z,Z,Z,Z,Z,Z,Z,Z,Z,Z,Z,Z,Z,Z,Z,Z,Z] rfl rfl (one_of HT_.out (by kernel_rfl)) zq22 (fun K hK=>?_)
    refine goes_ Try.func26 (by kernel_rfl) rfl #[.slice Ao10 t543.length co10,.slice Ao11 t544.length co11,.slice Ao12 t545.length co12,.slice Ao13 t546.length co13] zq138 rfl rfl zq20 ?_
    with_reducible refine(spec_SealText.calls k _ _ t543 _ _ t544 _ _ t545 _ _ t546 t577 t578 _ ?side1 ?side2 ?side3 ?side4 ?side5 ?side6 ?side7 ?side8 A28.out).mono ?_
    (case side1=>exact zq127)
    (case side2=>exact(iz5 HO548.out).2.1)
    (case side3=>exact zq128)
    (case side4=>exact(iz5 HO550.out).2.1)
    (case side5=>exact zq129)
    (case side6=>exact(iz5 HO552.out).2.1)
    (case side7=>exact zq130)
    (case side8=>exact(iz5 HO554.out).2.1)
    rintro e w46 ⟨v579,rfl,ho0,hb⟩
    refine⟨_,rfl,?_⟩
    have n0_:=zz5 (jz5 zq36 (fz5 ho0) hb)
    have n1_:=zz5 (jz5 zq37 (fz5 ho0) hb)
    have n2_:=zz5 (jz5 zq38 (fz5 ho0) hb)
    have n3_:=zz5 (jz5 zq39 (fz5 ho0) hb)
    have n4_:=zz5 (jz5 zq45 (fz5 ho0) hb)
    have n5_:=zz5 (jz5 zq50 (fz5 ho0) hb)
    have n6_:=zz5 (jz5 zq51 (fz5 ho0) hb)
    have n7_:=zz5 (jz5 zq52 (fz5 ho0) hb)
    have n8_:=zz5 (jz5 zq53 (fz5 ho0) hb)
    have n9_:=zz5 (jz5 zq65 (fz5 ho0) hb)
    have n10_:=zz5 (Kd.R_lower (kz5 (kz5 (kz5 (kz5 (kz5 (kz5 (kz5 (kz5 (kz5 (kz5 ho0 (Kd.R_lt zq36)) (Kd.R_lt zq37)) (Kd.R_lt zq38)) (Kd.R_lt zq39)) (Kd.R_lt zq45)) (Kd.R_lt zq50)) (Kd.R_lt zq51)) (Kd.R_lt zq52)) (Kd.R_lt zq53)) (Kd.R_lt zq65)) (below_size zq12))
    have n11_:=zz5 (hy5 (g:=gb559) (o:=.cells #[.int .i64 t555,.slice Ao17 t556.length co17] 42 (0,0)) zq34 hb)
    have n12_:=zz5 (hy5 (g:=gb576) (o:=.cells #[.int .i64 t572,.slice Ao27 t573.length co27] 42 (0,0)) zq61 hb)
    have n13_:=zz5 (below_step zq12 hb)
    clear HO548
    clear HO550
    clear HO552
    clear HO554
    clear HO558
    clear HO565
    clear HO567
    clear HO569
    clear HO571
    clear HO575
    clear BK559
    clear BK576
    clear HB
    have HO548:=n0_
    have HO550:=n1_
    have HO552:=n2_
    have HO554:=n3_
    have HO558:=n4_
    have HO565:=n5_
    have HO567:=n6_
    have HO569:=n7_
    have HO571:=n8_
    have HO575:=n9_
    have HO580:=n10_
    have BK559:=n11_
    have BK576:=n12_
    have HB:=n13_
    clear n0_ n1_ n2_ n3_ n4_ n5_ n6_ n7_ n8_ n9_ n10_ n11_ n12_ n13_
    (try clear hb);(try clear hb2);(try clear hk)
    (try clear hi)
    (try clear ho0)
    refine hK.out _ _ ⟨(blk_cell BK559.out 0).trans rfl,(blk_cell BK559.out 1).trans rfl⟩ (fun hHeld=>?_)
    clear hK K
    refine norm_ (a':=?_) ?_ ?_
    rotate_left
    ·show Act.put _ (some 46) _=_
     simp only[Act.put,sa_,sb_,sc_,i64_w]
     rfl
    refine pure_ (i:=7) (N:=some 47) (v:=?_) (a':=?_) #[Y,Y,Y,Y,Y,Y,Y,Y,Z,Z,Z,Z,Z,Z,Z,Z,Z,Z,Z,Z,Z,Z,Z,Z,Z,Z,Z,Z,Z,Z,Z,Z] rfl rfl (any_of HT_.out (by kernel_rfl)) (fun _ _ _ h=>h) (Or.inl ⟨zq138,?_⟩) ?_ ?_
    rotate_left
    ·intro w';go_simp;with_reducible rfl
    rotate_left
    ·simp only[Act.put,sa_,sb_,sc_,i64_w];rfl
    refine pure_ (i:=8) (N:=some 48) (v:=?_) (a':=?_) #[Y,Y,Y,Y,Y,Y,Y,Y,Y,Z,Z,Z,Z,Z,Z,Z,Z,Z,Z,Z,Z,Z,Z,Z,Z,Z,Z,Z,Z,Z,Z,Z] rfl rfl (any_of HT_.out (by kernel_rfl)) (fun _ _ _ h=>h) (Or.inl ⟨zq138,?_⟩) ?_ ?_
    rotate_left
    ·intro w';go_simp;with_reducible rfl
    rotate_left
    ·simp only[Act.put,sa_,sb_,sc_,i64_w];rfl
    refine pure_ (i:=9) (N:=some 49) (v:=?_) (a':=?_) #[Y,Y,Y,Y,Y,Y,Y,Y,Y,Y,Z,Z,Z,Z,Z,Z,Z,Z,Z,Z,Z,Z,Z,Z,Z,Z,Z,Z,Z,Z,Z,Z] rfl rfl (any_of HT_.out (by kernel_rfl)) (fun _ _ _ h=>h) (Or.inl ⟨zq138,?_⟩) ?_ ?_
    rotate_left
    ·intro w';go_simp;with_reducible rfl
    rotate_left
    ·simp only[Act.put,sa_,sb_,sc_,i64_w];rfl
    refine pure_ (i:=10) (N:=some 50) (v:=undef) (a':=?_) #[Y,Y,Y,Y,Y,Y,Y,Y,Y,Y,Y,Z,Z,Z,Z,Z,Z,Z,Z,Z,Z,Z,Z,Z,Z,Z,Z,Z,Z,Z,Z,Z] rfl rfl (any_of HT_.out (by kernel_rfl)) (fun _ _ _ h=>h) (Or.inr ⟨zq138,rfl⟩) ?_ ?_
    rotate_left
    ·simp only[Act.put,sa_,sb_,sc_,i64_w];rfl
    refine pure_ (i:=11) (N:=some 51) (v:=undef) (a':=?_) #[Y,Y,Y,Y,Y,Y,Y,Y,Y,Y,Y,Y,Z,Z,Z,Z,Z,Z,Z,Z,Z,Z,Z,Z,Z,Z,Z,Z,Z,Z,Z,Z] rfl rfl (any_of HT_.out (by kernel_rfl)) (fun _ _ _ h=>h) (Or.inr ⟨zq138,rfl⟩) ?_ ?_
    rotate_left
    ·simp only[Act.put,sa_,sb_,sc_,i64_w];rfl
    refine pure_ (i:=12) (N:=some 52) (v:=undef) (a':=?_) #[Y,Y,Y,Y,Y,Y,Y,Y,Y,Y,Y,Y,Y,Z,Z,Z,Z,Z,Z,Z,Z,Z,Z,Z,Z,Z,Z,Z,Z,Z,Z,Z] rfl rfl (any_of HT_.out (by kernel_rfl)) (fun _ _ _ h=>h) (Or.inr ⟨zq138,rfl⟩) ?_ ?_
    rotate_left
    ·simp only[Act.put,sa_,sb_,sc_,i64_w];rfl
    refine pure_ (i:=13) (N:=some 53) (v:=undef) (a':=?_) #[Y,Y,Y,Y,Y,Y,Y,Y,Y,Y,Y,Y,Y,Y,Z,Z,Z,Z,Z,Z,Z,Z,Z,Z,Z,Z,Z,Z,Z,Z,Z,Z] rfl rfl (any_of HT_.out (by kernel_rfl)) (fun _ _ _ h=>h) (Or.inr ⟨zq138,rfl⟩) ?_ ?_
    rotate_left
    ·simp only[Act.put,sa_,sb_,sc_,i64_w];rfl
    refine pure_ (i:=14) (N:=some 54) (v:=undef) (a':=?_) #[Y,Y,Y,Y,Y,Y,Y,Y,Y,Y,Y,Y,Y,Y,Y,Z,Z,Z,Z,Z,Z,Z,Z,Z,Z,Z,Z,Z,Z,Z,Z,Z] rfl rfl (any_of HT_.out (by kernel_rfl)) (fun _ _ _ h=>h) (Or.inr ⟨zq138,rfl⟩) ?_ ?_
    rotate_left
    ·simp only[Act.put,sa_,sb_,sc_,i64_w];rfl
    refine pure_ (i:=15) (N:=some 55) (v:=undef) (a':=?_) #[Y,Y,Y,Y,Y,Y,Y,Y,Y,Y,Y,Y,Y,Y,Y,Y,Z,Z,Z,Z,Z,Z,Z,Z,Z,Z,Z,Z,Z,Z,Z,Z] rfl rfl (any_of HT_.out (by kernel_rfl)) (fun _ _ _ h=>h) (Or.inr ⟨zq138,rfl⟩) ?_ ?_
    rotate_left
    ·simp only[Act.put,sa_,sb_,sc_,i64_w];rfl
    refine pure_ (i:=16) (N:=some 56) (v:=undef) (a':=?_) #[Y,Y,Y,Y,Y,Y,Y,Y,Y,Y,Y,Y,Y,Y,Y,Y,Y,Z,Z,Z,Z,Z,Z,Z,Z,Z,Z,Z,Z,Z,Z,Z] rfl rfl (any_of HT_.out (by kernel_rfl)) (fun _ _ _ h=>h) (Or.inr ⟨zq138,rfl⟩) ?_ ?_
    rotate_left
    ·simp only[Act.put,sa_,sb_,sc_,i64_w];rfl
    refine pure_ (i:=17) (N:=some 57) (v:=undef) (a':=?_) #[Y,Y,Y,Y,Y,Y,Y,Y,Y,Y,Y,Y,Y,Y,Y,Y,Y,Y,Z,Z,Z,Z,Z,Z,Z,Z,Z,Z,Z,Z,Z,Z] rfl rfl (any_of HT_.out (by kernel_rfl)) (fun _ _ _ h=>h) (Or.inr ⟨zq138,rfl⟩) ?_ ?_
    rotate_left
    ·simp only[Act.put,sa_,sb_,sc_,i64_w];rfl
    refine pure_ (i:=18) (N:=some 58) (v:=undef) (a':=?_) #[Y,Y,Y,Y,Y,Y,Y,Y,Y,Y,Y,Y,Y,Y,Y,Y,Y,Y,Y,Z,Z,Z,Z,Z,Z,Z,Z,Z,Z,Z,Z,Z] rfl rfl (any_of HT_.out (by kernel_rfl)) (fun _ _ _ h=>h) (Or.inr ⟨zq138,rfl⟩) ?_ ?_
    rotate_left
    ·simp only[Act.put,sa_,sb_,sc_,i64_w];rfl
    refine pure_ (i:=19) (N:=some 59) (v:=?_) (a':=?_) #[Y,Y,Y,Y,Y,Y,Y,Y,Y,Y,Y,Y,Y,Y,Y,Y,Y,Y,Y,Y,Z,Z,Z,Z,Z,Z,Z,Z,Z,Z,Z,Z] rfl rfl (any_of HT_.out (by kernel_rfl)) (fun _ _ _ h=>h) (Or.inl ⟨zq138,?_⟩) ?_ ?_
    rotate_left
    ·intro w';go_simp;with_reducible rfl
    rotate_left
    ·simp only[Act.put,sa_,sb_,sc_,i64_w];rfl
    refine pure_ (i:=20) (N:=some 60) (v:=?_) (a':=?_) #[Y,Y,Y,Y,Y,Y,Y,Y,Y,Y,Y,Y,Y,Y,Y,Y,Y,Y,Y,Y,Y,Z,Z,Z,Z,Z,Z,Z,Z,Z,Z,Z] rfl rfl (any_of HT_.out (by kernel_rfl)) (fun _ _ _ h=>h) (Or.inl ⟨zq138,?_⟩) ?_ ?_
    rotate_left
    ·intro w';go_simp;with_reducible rfl
    rotate_left
    ·simp only[Act.put,sa_,sb_,sc_,i64_w];rfl
    refine pure_ (i:=21) (N:=some 61) (v:=undef) (a':=?_) #[Y,Y,Y,Y,Y,Y,Y,Y,Y,Y,Y,Y,Y,Y,Y,Y,Y,Y,Y,Y,Y,Y,Z,Z,Z,Z,Z,Z,Z,Z,Z,Z] rfl rfl (any_of HT_.out (by kernel_rfl)) (fun _ _ _ h=>h) (Or.inr ⟨zq138,rfl⟩) ?_ ?_
    rotate_left
    ·simp only[Act.put,sa_,sb_,sc_,i64_w];rfl
    refine pure_ (i:=22) (N:=some 62) (v:=undef) (a':=?_) #[Y,Y,Y,Y,Y,Y,Y,Y,Y,Y,Y,Y,Y,Y,Y,Y,Y,Y,Y,Y,Y,Y,Y,Z,Z,Z,Z,Z,Z,Z,Z,Z] rfl rfl (any_of HT_.out (by kernel_rfl)) (fun _ _ _ h=>h) (Or.inr ⟨zq138,rfl⟩) ?_ ?_
    rotate_left
    ·simp only[Act.put,sa_,sb_,sc_,i64_w];rfl
    refine pure_ (i:=23) (N:=some 63) (v:=undef) (a':=?_) #[Y,Y,Y,Y,Y,Y,Y,Y,Y,Y,Y,Y,Y,Y,Y,Y,Y,Y,Y,Y,Y,Y,Y,Y,Z,Z,Z,Z,Z,Z,Z,Z] rfl rfl (any_of HT_.out (by kernel_rfl)) (fun _ _ _ h=>h) (Or.inr ⟨zq138,rfl⟩) ?_ ?_
    rotate_left
    ·simp only[Act.put,sa_,sb_,sc_,i64_w];rfl
    refine pure_ (i:=24) (N:=some 64) (v:=undef) (a':=?_) #[Y,Y,Y,Y,Y,Y,Y,Y,Y,Y,Y,Y,Y,Y,Y,Y,Y,Y,Y,Y,Y,Y,Y,Y,Y,Z,Z,Z,Z,Z,Z,Z] rfl rfl (any_of HT_.out (by kernel_rfl)) (fun _ _ _ h=>h) (Or.inr ⟨zq138,rfl⟩) ?_ ?_
    rotate_left
    ·simp only[Act.put,sa_,sb_,sc_,i64_w];rfl
    refine pure_ (i:=25) (N:=some 65) (v:=undef) (a':=?_) #[Y,Y,Y,Y,Y,Y,Y,Y,Y,Y,Y,Y,Y,Y,Y,Y,Y,Y,Y,Y,Y,Y,Y,Y,Y,Y,Z,Z,Z,Z,Z,Z] rfl rfl (any_of HT_.out (by kernel_rfl)) (fun _ _ _ h=>h) (Or.inr ⟨zq138,rfl⟩) ?_ ?_
    rotate_left
    ·simp only[Act.put,sa_,sb_,sc_,i64_w];rfl
    refine pure_ (i:=26) (N:=some 66) (v:=undef) (a':=?_) #[Y,Y,Y,Y,Y,Y,Y,Y,Y,Y,Y,Y,Y,Y,Y,Y,Y,Y,Y,Y,Y,Y,Y,Y,Y,Y,Y,Z,Z,Z,Z,Z] rfl rfl (any_of HT_.out (by kernel_rfl)) (fun _ _ _ h=>h) (Or.inr ⟨zq138,rfl⟩) ?_ ?_
    rotate_left
    ·simp only[Act.put,sa_,sb_,sc_,i64_w];rfl
    refine pure_ (i:=27) (N:=some 67) (v:=undef) (a':=?_) #[Y,Y,Y,Y,Y,Y,Y,Y,Y,Y,Y,Y,Y,Y,Y,Y,Y,Y,Y,Y,Y,Y,Y,Y,Y,Y,Y,Y,Z,Z,Z,Z] rfl rfl (any_of HT_.out (by kernel_rfl)) (fun _ _ _ h=>h) (Or.inr ⟨zq138,rfl⟩) ?_ ?_
    rotate_left
    ·simp only[Act.put,sa_,sb_,sc_,i64_w];rfl
    refine pure_ (i:=28) (N:=some 68) (v:=undef) (a':=?_) #[Y,Y,Y,Y,Y,Y,Y,Y,Y,Y,Y,Y,Y,Y,Y,Y,Y,Y,Y,Y,Y,Y,Y,Y,Y,Y,Y,Y,Y,Z,Z,Z] rfl rfl (any_of HT_.out (by kernel_rfl)) (fun _ _ _ h=>h) (Or.inr ⟨zq138,rfl⟩) ?_ ?_
    rotate_left
    ·simp only[Act.put,sa_,sb_,sc_,i64_w];rfl
    refine pure_ (i:=29) (N:=some 69) (v:=undef) (a':=?_) #[Y,Y,Y,Y,Y,Y,Y,Y,Y,Y,Y,Y,Y,Y,Y,Y,Y,Y,Y,Y,Y,Y,Y,Y,Y,Y,Y,Y,Y,Y,Z,Z] rfl rfl (any_of HT_.out (by kernel_rfl)) (fun _ _ _ h=>h) (Or.inr ⟨zq138,rfl⟩) ?_ ?_
    rotate_left
    ·simp only[Act.put,sa_,sb_,sc_,i64_w];rfl
    refine pure_ (i:=30) (N:=some 70) (v:=undef) (a':=?_) #[Y,Y,Y,Y,Y,Y,Y,Y,Y,Y,Y,Y,Y,Y,Y,Y,Y,Y,Y,Y,Y,Y,Y,Y,Y,Y,Y,Y,Y,Y,Y,Z] rfl rfl (any_of HT_.out (by kernel_rfl)) (fun _ _ _ h=>h) (Or.inr ⟨zq138,rfl⟩) ?_ ?_
    rotate_left
    ·simp only[Act.put,sa_,sb_,sc_,i64_w];rfl
    refine pure_ (i:=31) (N:=some 71) (v:=?_) (a':=?_) #[Y,Y,Y,Y,Y,Y,Y,Y,Y,Y,Y,Y,Y,Y,Y,Y,Y,Y,Y,Y,Y,Y,Y,Y,Y,Y,Y,Y,Y,Y,Y,Y] rfl rfl (any_of HT_.out (by kernel_rfl)) (fun _ _ _ h=>h) (Or.inl ⟨zq138,?_⟩) ?_ ?_
    rotate_left
    ·intro w';go_simp;with_reducible rfl
    rotate_left
    ·simp only[Act.put,sa_,sb_,sc_,i64_w];rfl
    refine done_ (done_of HT_.out (by kernel_rfl)) ?_
    try go_wp2
    go_meet
    case rel=>exact⟨_,(true),zq181,H',⟨by first|omega|exact Nat.le_refl _⟩,⟨by(with_reducible repeat (first|apply az5|apply bz5|apply cz5));exact gz5 HO548.out (fun _ hk=>⟨hk.1.1,⟨hk.1.2.1,⟨hk.1.2.2.1,⟨hk.1.2.2.2.2.1,⟨hk.1.2.2.2.2.2.1,⟨hk.1.2.2.2.2.2.2.1,⟨hk.1.2.2.2.2.2.2.2.1,⟨hk.1.2.2.2.1,hk.1.2.2.2.2.2.2.2.2⟩⟩⟩⟩⟩⟩⟩⟩)⟩,⟨by(with_reducible repeat (first|apply az5|apply bz5|apply cz5));exact gz5 HO550.out (fun _ hk=>⟨hk.1.1,⟨hk.1.2.1,⟨hk.1.2.2.1,⟨hk.1.2.2.2.2.1,⟨hk.1.2.2.2.2.2.1,⟨hk.1.2.2.2.2.2.2.1,⟨hk.1.2.2.2.2.2.2.2.1,⟨hk.1.2.2.2.1,hk.1.2.2.2.2.2.2.2.2⟩⟩⟩⟩⟩⟩⟩⟩)⟩,⟨by(with_reducible repeat (first|apply az5|apply bz5|apply cz5));exact gz5 HO552.out (fun _ hk=>⟨hk.1.1,⟨hk.1.2.1,⟨hk.1.2.2.1,⟨hk.1.2.2.2.2.1,⟨hk.1.2.2.2.2.2.1,⟨hk.1.2.2.2.2.2.2.1,⟨hk.1.2.2.2.2.2.2.2.1,⟨hk.1.2.2.2.1,hk.1.2.2.2.2.2.2.2.2⟩⟩⟩⟩⟩⟩⟩⟩)⟩,⟨by(with_reducible repeat (first|apply az5|apply bz5|apply cz5));exact gz5 HO554.out (fun _ hk=>⟨hk.1.1,⟨hk.1.2.1,⟨hk.1.2.2.1,⟨hk.1.2.2.2.2.1,⟨hk.1.2.2.2.2.2.1,⟨hk.1.2.2.2.2.2.2.1,⟨hk.1.2.2.2.2.2.2.2.1,⟨hk.1.2.2.2.1,hk.1.2.2.2.2.2.2.2.2⟩⟩⟩⟩⟩⟩⟩⟩)⟩,⟨by(with_reducible repeat (first|apply az5|apply bz5|apply cz5));exact gz5 HO565.out (fun _ hk=>⟨hk.1.1,⟨hk.1.2.1,⟨hk.1.2.2.1,⟨hk.1.2.2.2.1,⟨hk.1.2.2.2.2.2.1,⟨hk.1.2.2.2.2.2.2.1,⟨hk.1.2.2.2.2.2.2.2.1,⟨hk.1.2.2.2.2.1,hk.1.2.2.2.2.2.2.2.2⟩⟩⟩⟩⟩⟩⟩⟩)⟩,⟨by(with_reducible repeat (first|apply az5|apply bz5|apply cz5));exact gz5 HO567.out (fun _ hk=>⟨hk.1.1,⟨hk.1.2.1,⟨hk.1.2.2.1,⟨hk.1.2.2.2.1,⟨hk.1.2.2.2.2.2.1,⟨hk.1.2.2.2.2.2.2.1,⟨hk.1.2.2.2.2.2.2.2.1,⟨hk.1.2.2.2.2.1,hk.1.2.2.2.2.2.2.2.2⟩⟩⟩⟩⟩⟩⟩⟩)⟩,⟨by(with_reducible repeat (first|apply az5|apply bz5|apply cz5));exact gz5 HO569.out (fun _ hk=>⟨hk.1.1,⟨hk.1.2.1,⟨hk.1.2.2.1,⟨hk.1.2.2.2.1,⟨hk.1.2.2.2.2.2.1,⟨hk.1.2.2.2.2.2.2.1,⟨hk.1.2.2.2.2.2.2.2.1,⟨hk.1.2.2.2.2.1,hk.1.2.2.2.2.2.2.2.2⟩⟩⟩⟩⟩⟩⟩⟩)⟩,⟨by(with_reducible repeat (first|apply az5|apply bz5|apply cz5));exact gz5 HO571.out (fun _ hk=>⟨hk.1.1,⟨hk.1.2.1,⟨hk.1.2.2.1,⟨hk.1.2.2.2.1,⟨hk.1.2.2.2.2.2.1,⟨hk.1.2.2.2.2.2.2.1,⟨hk.1.2.2.2.2.2.2.2.1,⟨hk.1.2.2.2.2.1,hk.1.2.2.2.2.2.2.2.2⟩⟩⟩⟩⟩⟩⟩⟩)⟩,⟨by(with_reducible repeat (first|apply az5|apply bz5|apply cz5));exact gz5 HO558.out (fun _ hk=>⟨hk.1.1,⟨hk.1.2.1,⟨hk.1.2.2.1,⟨hk.1.2.2.2.1,⟨hk.1.2.2.2.2.1,⟨hk.1.2.2.2.2.2.1,⟨hk.1.2.2.2.2.2.2.1,⟨hk.1.2.2.2.2.2.2.2.1,hk.1.2.2.2.2.2.2.2.2⟩⟩⟩⟩⟩⟩⟩⟩)⟩,⟨by(with_reducible repeat (first|apply az5|apply bz5|apply cz5));exact gz5 HO575.out (fun _ hk=>⟨hk.1.1,⟨hk.1.2.1,⟨hk.1.2.2.1,⟨hk.1.2.2.2.1,⟨hk.1.2.2.2.2.2.1,⟨hk.1.2.2.2.2.2.2.1,⟨hk.1.2.2.2.2.2.2.2.1,⟨hk.1.2.2.2.2.2.2.2.2,hk.1.2.2.2.2.1⟩⟩⟩⟩⟩⟩⟩⟩)⟩,⟨zq34⟩,⟨zq61⟩,⟨zq43⟩⟩
  case rest=>
   clear HC8
   try clear c2
   try clear p2
   try clear c26
   try clear c27
   try clear c29
   try clear c29b0
   try clear c29b1
   obtain⟨kq,x71_7,rfl,HA,HJ7,HO_3,HO_4,HO_5,HO_6,HO_8,HO_9,HO_10,HO_11,HO_560001,HO_577001,BK559,BK576,HB⟩:=hcut
   cases kq with
  |zero=>exact absurd HA.out (by simp[laws_FnSeals.j0])
  |succ kj7=>
    have H:=HA.out
    clear HA
    simp only[laws_FnSeals.j0] at H
    by_cases c47:x71_7=true
    ·subst c47
     have H1:(some false)=some r:=by rw[if_pos rfl] at H;exact H
     clear H
     have H:=H1
     clear H1
     exact absurd (Option.some.inj H) (by rw[HRT.out];decide)
    ·replace c47:=Bool.eq_false_iff.mpr c47
     subst c47
     have H1:(if t572=0 then ((impl_SealText.f t560 t561 t562 t573).bind fun bt590=>((laws_lwSame.f bt590.2 t563).bind fun t594=>(laws_FnSeals.j1 kj7 l0 t543 t544 t545 t546 (!t594) t555 t556))) else (laws_FnSeals.j1 kj7 l0 t543 t544 t545 t546 false t555 t556))=some r:=by rw[if_neg (show ¬ (false=true) by decide)] at H;exact H
     clear H
     have H:=H1
     clear H1
     have HC48:=zz5 H
     clear H
     go_upto_region 9 with (fail)
     go_cut [86] (fun v86 wc=>∃ (kq:Nat) (x86_47:Bool),v86=.bool x86_47∧Aside0 (laws_FnSeals.j1 kq l0 t543 t544 t545 t546 x86_47 t555 t556=some r)∧Aside0 (kq≤kj7)∧Aside0 (Kd.R (Kd.int .u8) 5 wc w.heap.size (fun k_=>some k_≠((.slice Ao11 t544.length co11):Value).ownBlock∧some k_≠((.slice Ao12 t545.length co12):Value).ownBlock∧some k_≠((.slice Ao13 t546.length co13):Value).ownBlock∧some k_≠((.slice Ao17 t556.length co17):Value).ownBlock∧some k_≠((.slice Ao27 t573.length co27):Value).ownBlock) (.slice Ao10 t543.length co10) t543)∧Aside0 (Kd.R (Kd.int .u8) 5 wc w.heap.size (fun k_=>some k_≠((.slice Ao10 t543.length co10):Value).ownBlock∧some k_≠((.slice Ao12 t545.length co12):Value).ownBlock∧some k_≠((.slice Ao13 t546.length co13):Value).ownBlock∧some k_≠((.slice Ao17 t556.length co17):Value).ownBlock∧some k_≠((.slice Ao27 t573.length co27):Value).ownBlock) (.slice Ao11 t544.length co11) t544)∧Aside0 (Kd.R (Kd.int .u8) 5 wc w.heap.size (fun k_=>some k_≠((.slice Ao10 t543.length co10):Value).ownBlock∧some k_≠((.slice Ao11 t544.length co11):Value).ownBlock∧some k_≠((.slice Ao13 t546.length co13):Value).ownBlock∧some k_≠((.slice Ao17 t556.length co17):Value).ownBlock∧some k_≠((.slice Ao27 t573.length co27):Value).ownBlock) (.slice Ao12 t545.length co12) t545)∧Aside0 (Kd.R (Kd.int .u8) 5 wc w.heap.size (fun k_=>some k_≠((.slice Ao10 t543.length co10):Value).ownBlock∧some k_≠((.slice Ao11 t544.length co11):Value).ownBlock∧some k_≠((.slice Ao12 t545.length co12):Value).ownBlock∧some k_≠((.slice Ao17 t556.length co17):Value).ownBlock∧some k_≠((.slice Ao27 t573.length co27):Value).ownBlock) (.slice Ao13 t546.length co13) t546)∧Aside0 (Kd.R (Kd.int .u8) 5 wc w.heap.size (fun k_=>some k_≠((.slice Ao10 t543.length co10):Value).ownBlock∧some k_≠((.slice Ao11 t544.length co11):Value).ownBlock∧some k_≠((.slice Ao12 t545.length co12):Value).ownBlock∧some k_≠((.slice Ao13 t546.length co13):Value).ownBlock∧some k_≠((.slice Ao27 t573.length co27):Value).ownBlock) (.slice Ao17 t556.length co17) t556)∧Aside0 (Kd.R (Kd.int .u8) 5 wc w.heap.size (fun k_=>some k_≠((.slice Ao10 t543.length co10):Value).ownBlock∧some k_≠((.slice Ao11 t544.length co11):Value).ownBlock∧some k_≠((.slice Ao12 t545.length co12):Value).ownBlock∧some k_≠((.slice Ao13 t546.length co13):Value).ownBlock∧some k_≠((.slice Ao17 t556.length co17):Value).ownBlock) (.slice Ao27 t573.length co27) t573)∧Aside0 (wc.heap[gb559]?=some (.cells #[.int .i64 t555,(.slice Ao17 t556.length co17)] 42 (0,0)))∧Aside0 (wc.heap[gb576]?=some (.cells #[.int .i64 t572,(.slice Ao27 t573.length co27)] 42 (0,0)))∧Aside0 (Below w.heap.size w wc))
     case first=>
      have H:=HC48.out
      clear HC48
      by_cases c49:t572=0
      ·rw[if_pos c49] at H
       have c49b0:(t572 == 0)=true:=beq_iff_eq.mpr c49
       have c49b1:(t572 != 0)=false:=bne_eq_false_iff_eq.mpr c49
       clear c49
       (first|rw[c49b0]|(simp only[i64_w,i32_w];rw[c49b0])|skip)
       replace H:=Option.bind_eq_some_iff.mp H
       obtain⟨⟨t590,t591⟩,A500,H⟩:=H
       replace H:((laws_lwSame.f t591 t563).bind fun t594=>(laws_FnSeals.j1 kj7 l0 t543 t544 t545 t546 (!t594) t555 t556))=some r:=H
       have A50:=zz5 A500
       clear A500
       replace H:=Option.bind_eq_some_iff.mp H
       obtain⟨t594,A510,H⟩:=H
       replace H:(laws_FnSeals.j1 kj7 l0 t543 t544 t545 t546 (!t594) t555 t556)=some r:=H
       have A51:=zz5 A510
       clear A510
       have H':=zz5 H
       clear H
       have hnb52:=NB576_559.out
       have hnc52:=NB559_576.out
       have hcz53_0:wc.cell? ⟨gb576,0,none⟩=some (.int .i64 t572):=(blk_cell BK576.out 0).trans rfl
       have hcz53_1:wc.cell? ⟨gb576,1,none⟩=some (.slice Ao27 t573.length co27):=(blk_cell BK576.out 1).trans rfl
       have hfz53_0:=blk_frozen BK576.out 0
       have hfz53_1:=blk_frozen BK576.out 1
       go_wp2_with (first|(go_at_call 23;(with_reducible refine(impl_SealText.calls _ _ t560 _ _ t561 _ _ t562 _ _ t573 t590 t591 _ ?side1 ?side2 ?side3 ?side4 ?side5 ?side6 ?side7 ?side8 A50.out).mono ?_);(case side1=>repeat (first|exact(iz5 HO_8.out).2.2|(with_reducible refine Kd.C_alloc ?_ _)|(with_reducible refine Kd.C_drewN ?_ _)|(with_reducible refine Kd.C_drew ?_)));(case side2=>exact(iz5 HO_8.out).2.1);(case side3=>repeat (first|exact(iz5 HO_9.out).2.2|(with_reducible refine Kd.C_alloc ?_ _)|(with_reducible refine Kd.C_drewN ?_ _)|(with_reducible refine Kd.C_drew ?_)));(case side4=>exact(iz5 HO_9.out).2.1);(case side5=>repeat (first|exact(iz5 HO_10.out).2.2|(with_reducible refine Kd.C_alloc ?_ _)|(with_reducible refine Kd.C_drewN ?_ _)|(with_reducible refine Kd.C_drew ?_)));(case side6=>exact(iz5 HO_10.out).2.1);(case side7=>repeat (first|exact(iz5 HO_577001.out).2.2|(with_reducible refine Kd.C_alloc ?_ _)|(with_reducible refine Kd.C_drewN ?_ _)|(with_reducible refine Kd.C_drew ?_)));(case side8=>exact(iz5 HO_577001.out).2.1);rintro e w54 ⟨v592,rfl,ho0,hb⟩;have n0_:=zz5 (jz5 zq81 (fz5 ho0) hb);have n1_:=zz5 (jz5 zq82 (fz5 ho0) hb);have n2_:=zz5 (jz5 zq83 (fz5 ho0) hb);have n3_:=zz5 (jz5 zq84 (fz5 ho0) hb);have n4_:=zz5 (jz5 (by(with_reducible repeat (first|apply az5|apply bz5|apply cz5));exact HO_8.out) (fz5 ho0) hb);have n5_:=zz5 (jz5 (by(with_reducible repeat (first|apply az5|apply bz5|apply cz5));exact HO_9.out) (fz5 ho0) hb);have n6_:=zz5 (jz5 (by(with_reducible repeat (first|apply az5|apply bz5|apply cz5));exact HO_10.out) (fz5 ho0) hb);have n7_:=zz5 (jz5 (by(with_reducible repeat (first|apply az5|apply bz5|apply cz5));exact HO_11.out) (fz5 ho0) hb);have n8_:=zz5 (jz5 zq69 (fz5 ho0) hb);have n9_:=zz5 (jz5 zq70 (fz5 ho0) hb);have n10_:=zz5 (Kd.R_lower (kz5 (kz5 (kz5 (kz5 (kz5 (kz5 (kz5 (kz5 (kz5 (kz5 ho0 (Kd.R_lt zq81)) (Kd.R_lt zq82)) (Kd.R_lt zq83)) (Kd.R_lt zq84)) (Kd.R_lt (by(with_reducible repeat (first|apply az5|apply bz5|apply cz5));exact HO_8.out))) (Kd.R_lt (by(with_reducible repeat (first|apply az5|apply bz5|apply cz5));exact HO_9.out))) (Kd.R_lt (by(with_reducible repeat (first|apply az5|apply bz5|apply cz5));exact HO_10.out))) (Kd.R_lt (by(with_reducible repeat (first|apply az5|apply bz5|apply cz5));exact HO_11.out))) (Kd.R_lt zq69)) (Kd.R_lt zq70)) (below_size zq12));have n11_:=zz5 (hy5 (g:=gb559) (o:=.cells #[.int .i64 t555,.slice Ao17 t556.length co17] 42 (0,0)) zq34 hb);have n12_:=zz5 (hy5 (g:=gb576) (o:=.cells #[.int .i64 t572,.slice Ao27 t573.length co27] 42 (0,0)) zq61 hb);have n13_:=zz5 (below_step zq12 hb);clear HO_3;clear HO_4;clear HO_5;clear HO_6;clear HO_8;clear HO_9;clear HO_10;clear HO_11;clear HO_560001;clear HO_577001;clear BK559;clear BK576;clear HB;have HO_3:=n0_;have HO_4:=n1_;have HO_5:=n2_;have HO_6:=n3_;have HO_8:=n4_;have HO_9:=n5_;have HO_10:=n6_;have HO_11:=n7_;have HO_560001:=n8_;have HO_577001:=n9_;have HO593:=n10_;have BK559:=n11_;have BK576:=n12_;have HB:=n13_;clear n0_ n1_ n2_ n3_ n4_ n5_ n6_ n7_ n8_ n9_ n10_ n11_ n12_ n13_;(try clear hb);(try clear hb2);(try clear hk);(try clear hi);(try clear ho0);obtain⟨Ao55,co55,eo55⟩:=Kd.R_slice HO593.out;subst eo55)|(go_at_call 13;(with_reducible refine(laws_lwSame.calls _ _ t591 _ _ t563 t594 _ ?side1 ?side2 ?side3 ?side4 A51.out).mono ?_);(case side1=>repeat (first|exact(iz5 HO593.out).2.2|(with_reducible refine Kd.C_alloc ?_ _)|(with_reducible refine Kd.C_drewN ?_ _)|(with_reducible refine Kd.C_drew ?_)));(case side2=>exact(iz5 HO593.out).2.1);(case side3=>repeat (first|exact(iz5 HO_11.out).2.2|(with_reducible refine Kd.C_alloc ?_ _)|(with_reducible refine Kd.C_drewN ?_ _)|(with_reducible refine Kd.C_drew ?_)));(case side4=>exact(iz5 HO_11.out).2.1);rintro e w' ⟨rfl,⟨nd,rfl⟩⟩))
       go_meet
       case rel=>exact⟨_,(!t594),zq181,H',⟨by have:=HJ7.out;first|omega|exact Nat.le_refl _⟩,⟨by(with_reducible repeat (first|apply az5|apply bz5|apply cz5));exact gz5 HO_3.out (fun _ hk=>⟨hk.1.1,⟨hk.1.2.1,⟨hk.1.2.2.1,⟨hk.1.2.2.2.2.2.2.2.1,hk.1.2.2.2.2.2.2.2.2⟩⟩⟩⟩)⟩,⟨by(with_reducible repeat (first|apply az5|apply bz5|apply cz5));exact gz5 HO_4.out (fun _ hk=>⟨hk.1.1,⟨hk.1.2.1,⟨hk.1.2.2.1,⟨hk.1.2.2.2.2.2.2.2.1,hk.1.2.2.2.2.2.2.2.2⟩⟩⟩⟩)⟩,⟨by(with_reducible repeat (first|apply az5|apply bz5|apply cz5));exact gz5 HO_5.out (fun _ hk=>⟨hk.1.1,⟨hk.1.2.1,⟨hk.1.2.2.1,⟨hk.1.2.2.2.2.2.2.2.1,hk.1.2.2.2.2.2.2.2.2⟩⟩⟩⟩)⟩,⟨by(with_reducible repeat (first|apply az5|apply bz5|apply cz5));exact gz5 HO_6.out (fun _ hk=>⟨hk.1.1,⟨hk.1.2.1,⟨hk.1.2.2.1,⟨hk.1.2.2.2.2.2.2.2.1,hk.1.2.2.2.2.2.2.2.2⟩⟩⟩⟩)⟩,⟨by(with_reducible repeat (first|apply az5|apply bz5|apply cz5));exact gz5 HO_560001.out (fun _ hk=>⟨hk.1.1,⟨hk.1.2.1,⟨hk.1.2.2.1,⟨hk.1.2.2.2.1,hk.1.2.2.2.2.2.2.2.2⟩⟩⟩⟩)⟩,⟨by(with_reducible repeat (first|apply az5|apply bz5|apply cz5));exact gz5 HO_577001.out (fun _ hk=>⟨hk.1.1,⟨hk.1.2.1,⟨hk.1.2.2.1,⟨hk.1.2.2.2.1,hk.1.2.2.2.2.2.2.2.2⟩⟩⟩⟩)⟩,⟨zq34⟩,⟨zq61⟩,⟨zq43⟩⟩
      ·rw[if_neg c49] at H
       have c49b0:(t572 == 0)=false:=beq_eq_false_iff_ne.mpr c49
       have c49b1:(t572 != 0)=true:=bne_iff_ne.mpr c49
       (first|rw[c49b0]|(simp only[i64_w,i32_w];rw[c49b0])|skip)
       have H':=zz5 H
       clear H
       have hnb56:=NB576_559.out
       have hnc56:=NB559_576.out
       have hcz57_0:wc.cell? ⟨gb576,0,none⟩=some (.int .i64 t572):=(blk_cell BK576.out 0).trans rfl
       have hcz57_1:wc.cell? ⟨gb576,1,none⟩=some (.slice Ao27 t573.length co27):=(blk_cell BK576.out 1).trans rfl
       have hfz57_0:=blk_frozen BK576.out 0
       have hfz57_1:=blk_frozen BK576.out 1
       go_wp2
       go_meet
       case rel=>exact⟨_,(false),zq181,H',⟨by have:=HJ7.out;first|omega|exact Nat.le_refl _⟩,⟨by(with_reducible repeat (first|apply az5|apply bz5|apply cz5));exact gz5 HO_3.out (fun _ hk=>⟨hk.1,⟨hk.2.1,⟨hk.2.2.1,⟨hk.2.2.2.2.2.2.2.1,hk.2.2.2.2.2.2.2.2⟩⟩⟩⟩)⟩,⟨by(with_reducible repeat (first|apply az5|apply bz5|apply cz5));exact gz5 HO_4.out (fun _ hk=>⟨hk.1,⟨hk.2.1,⟨hk.2.2.1,⟨hk.2.2.2.2.2.2.2.1,hk.2.2.2.2.2.2.2.2⟩⟩⟩⟩)⟩,⟨by(with_reducible repeat (first|apply az5|apply bz5|apply cz5));exact gz5 HO_5.out (fun _ hk=>⟨hk.1,⟨hk.2.1,⟨hk.2.2.1,⟨hk.2.2.2.2.2.2.2.1,hk.2.2.2.2.2.2.2.2⟩⟩⟩⟩)⟩,⟨by(with_reducible repeat (first|apply az5|apply bz5|apply cz5));exact gz5 HO_6.out (fun _ hk=>⟨hk.1,⟨hk.2.1,⟨hk.2.2.1,⟨hk.2.2.2.2.2.2.2.1,hk.2.2.2.2.2.2.2.2⟩⟩⟩⟩)⟩,⟨by(with_reducible repeat (first|apply az5|apply bz5|apply cz5));exact gz5 HO_560001.out (fun _ hk=>⟨hk.1,⟨hk.2.1,⟨hk.2.2.1,⟨hk.2.2.2.1,hk.2.2.2.2.2.2.2.2⟩⟩⟩⟩)⟩,⟨by(with_reducible repeat (first|apply az5|apply bz5|apply cz5));exact gz5 HO_577001.out (fun _ hk=>⟨hk.1,⟨hk.2.1,⟨hk.2.2.1,⟨hk.2.2.2.1,hk.2.2.2.2.2.2.2.2⟩⟩⟩⟩)⟩,⟨zq34⟩,⟨zq61⟩,⟨zq43⟩⟩
     case rest=>
      clear HC48
      try clear c2
      try clear p2
      try clear c4
      try clear c5
      try clear c26
      try clear c27
      try clear c29
      try clear c29b0
      try clear c29b1
      try clear c47
      try clear c49
      try clear c49b0
      try clear c49b1
      try clear c52
      try clear c56
      try clear hcz53_0
      try clear hcz53_1
      try clear hcz57_0
      try clear hcz57_1
      try clear hfz53_0
      try clear hfz53_1
      try clear hfz57_0
      try clear hfz57_1
      try clear p2
      obtain⟨kq,x86_47,rfl,HA,HJ47,HO_3,HO_4,HO_5,HO_6,HO_560001,HO_577001,BK559,BK576,HB⟩:=hcut
      cases kq with
     |zero=>exact absurd HA.out (by simp[laws_FnSeals.j1])
     |succ kj47=>
       have H:=HA.out
       clear HA
       simp only[laws_FnSeals.j1] at H
       by_cases c58:x86_47=true
       ·subst c58
        have H1:(some false)=some r:=by rw[if_pos rfl] at H;exact H
        clear H
        have H:=H1
        clear H1
        exact absurd (Option.some.inj H) (by rw[HRT.out];decide)
       ·replace c58:=Bool.eq_false_iff.mpr c58
        subst c58
        have H1:(if t555=0 then (if (t556.length:Int)=(wrap64 ((t546.length:Int)+16)) then ((spec_SealText.f kj47 t543 t544 t545 t546).bind fun bt595=>((laws_lwSame.f t556 bt595.2).bind fun t599=>(laws_FnSeals.j2 kj47 l0 t543 t544 t545 t546 (!t599) t555 t556))) else (laws_FnSeals.j2 kj47 l0 t543 t544 t545 t546 true t555 t556)) else (some true))=some r:=by rw[if_neg (show ¬ (false=true) by decide)] at H;exact H
        clear H
        have H:=H1
        clear H1
        by_cases c59:t555=0
        ·rw[if_pos c59] at H
         have c59b0:(t555 == 0)=true:=beq_iff_eq.mpr c59
         have c59b1:(t555 != 0)=false:=bne_eq_false_iff_eq.mpr c59
         clear c59
         have HC60:=zz5 H
         clear H
         have hnb61:=NB559_576.out
         have hnc61:=NB576_559.out
         have hcz62_0:wc.cell? ⟨gb559,0,none⟩=some (.int .i64 t555):=(blk_cell BK559.out 0).trans rfl
         have hcz62_1:wc.cell? ⟨gb559,1,none⟩=some (.slice Ao17 t556.length co17):=(blk_cell BK559.out 1).trans rfl
         have hfz62_0:=blk_frozen BK559.out 0
         have hfz62_1:=blk_frozen BK559.out 1
         go_upto_region 13 with (fail)
         go_cut [108] (fun v108 wc=>∃ (kq:Nat) (x108_59:Bool),v108=.bool x108_59∧Aside0 (laws_FnSeals.j2 kq l0 t543 t544 t545 t546 x108_59 t555 t556=some r)∧Aside0 (kq≤kj47)∧Aside0 (Kd.R (Kd.int .u8) 5 wc w.heap.size (fun k_=>some k_≠((.slice Ao11 t544.length co11):Value).ownBlock∧some k_≠((.slice Ao12 t545.length co12):Value).ownBlock∧some k_≠((.slice Ao13 t546.length co13):Value).ownBlock∧some k_≠((.slice Ao17 t556.length co17):Value).ownBlock∧some k_≠((.slice Ao27 t573.length co27):Value).ownBlock) (.slice Ao10 t543.length co10) t543)∧Aside0 (Kd.R (Kd.int .u8) 5 wc w.heap.size (fun k_=>some k_≠((.slice Ao10 t543.length co10):Value).ownBlock∧some k_≠((.slice Ao12 t545.length co12):Value).ownBlock∧some k_≠((.slice Ao13 t546.length co13):Value).ownBlock∧some k_≠((.slice Ao17 t556.length co17):Value).ownBlock∧some k_≠((.slice Ao27 t573.length co27):Value).ownBlock) (.slice Ao11 t544.length co11) t544)∧Aside0 (Kd.R (Kd.int .u8) 5 wc w.heap.size (fun k_=>some k_≠((.slice Ao10 t543.length co10):Value).ownBlock∧some k_≠((.slice Ao11 t544.length co11):Value).ownBlock∧some k_≠((.slice Ao13 t546.length co13):Value).ownBlock∧some k_≠((.slice Ao17 t556.length co17):Value).ownBlock∧some k_≠((.slice Ao27 t573.length co27):Value).ownBlock) (.slice Ao12 t545.length co12) t545)∧Aside0 (Kd.R (Kd.int .u8) 5 wc w.heap.size (fun k_=>some k_≠((.slice Ao10 t543.length co10):Value).ownBlock∧some k_≠((.slice Ao11 t544.length co11):Value).ownBlock∧some k_≠((.slice Ao12 t545.length co12):Value).ownBlock∧some k_≠((.slice Ao17 t556.length co17):Value).ownBlock∧some k_≠((.slice Ao27 t573.length co27):Value).ownBlock) (.slice Ao13 t546.length co13) t546)∧Aside0 (Kd.R (Kd.int .u8) 5 wc w.heap.size (fun k_=>some k_≠((.slice Ao10 t543.length co10):Value).ownBlock∧some k_≠((.slice Ao11 t544.length co11):Value).ownBlock∧some k_≠((.slice Ao12 t545.length co12):Value).ownBlock∧some k_≠((.slice Ao13 t546.length co13):Value).ownBlock∧some k_≠((.slice Ao27 t573.length co27):Value).ownBlock) (.slice Ao17 t556.length co17) t556)∧Aside0 (Kd.R (Kd.int .u8) 5 wc w.heap.size (fun k_=>some k_≠((.slice Ao10 t543.length co10):Value).ownBlock∧some k_≠((.slice Ao11 t544.length co11):Value).ownBlock∧some k_≠((.slice Ao12 t545.length co12):Value).ownBlock∧some k_≠((.slice Ao13 t546.length co13):Value).ownBlock∧some k_≠((.slice Ao17 t556.length co17):Value).ownBlock) (.slice Ao27 t573.length co27) t573)∧Aside0 (wc.heap[gb559]?=some (.cells #[.int .i64 t555,(.slice Ao17 t556.length co17)] 42 (0,0)))∧Aside0 (wc.heap[gb576]?=some (.cells #[.int .i64 t572,(.slice Ao27 t573.length co27)] 42 (0,0)))∧Aside0 (Below w.heap.size w wc))
         case first=>
          have H:=HC60.out
          clear HC60
          by_cases c63:(t556.length:Int)=(wrap64 ((t546.length:Int)+16))
          ·rw[if_pos c63] at H
           have c63b0:((t556.length:Int) == (wrap64 ((t546.length:Int)+16)))=true:=beq_iff_eq.mpr c63
           have c63b1:((t556.length:Int) != (wrap64 ((t546.length:Int)+16)))=false:=bne_eq_false_iff_eq.mpr c63
           clear c63
           (first|rw[c63b0]|(simp only[i64_w,i32_w];rw[c63b0])|skip)
           replace H:=Option.bind_eq_some_iff.mp H
           obtain⟨⟨t595,t596⟩,A640,H⟩:=H
           replace H:((laws_lwSame.f t556 t596).bind fun t599=>(laws_FnSeals.j2 kj47 l0 t543 t544 t545 t546 (!t599) t555 t556))=some r:=H
           have A64:=zz5 A640
           clear A640
           replace H:=Option.bind_eq_some_iff.mp H
           obtain⟨t599,A650,H⟩:=H
           replace H:(laws_FnSeals.j2 kj47 l0 t543 t544 t545 t546 (!t599) t555 t556)=some r:=H
           have A65:=zz5 A650
           clear A650
           have H':=zz5 H
           clear H
           try go_wp2
           have n0_:=zz5 (cz5 HO_3.out)
           have n1_:=zz5 (cz5 HO_4.out)
           have n2_:=zz5 (cz5 HO_5.out)
           have n3_:=zz5 (cz5 HO_6.out)
           have n4_:=zz5 (cz5 HO_560001.out)
           have n5_:=zz5 (cz5 HO_577001.out)
           have n6_:=zz5 (gy5 BK559.out)
           have n7_:=zz5 (gy5 BK576.out)
           have n8_:=zz5 (cy5 HB.out)
           clear HO_3
           clear HO_4
           clear HO_5
           clear HO_6
           clear HO_560001
           clear HO_577001
           clear BK559
           clear BK576
           clear HB
           have HO_3:=n0_
           have HO_4:=n1_
           have HO_5:=n2_
           have HO_6:=n3_
           have HO_560001:=n4_
           have HO_577001:=n5_
           have BK559:=n6_
           have BK576:=n7_
           have HB:=n8_
           clear n0_ n1_ n2_ n3_ n4_ n5_ n6_ n7_ n8_
           refine start_ (n:=19) (S:=fun w'=>w'.cell? ⟨gb559,0,none⟩=some (.int .i64 t555)∧w'.cell? ⟨gb559,1,none⟩=some (.slice Ao17 t556.length co17)) (ds:=[]) #[Z,Z,Z,Z,Z,Z,Z,Z,Z,Z,Z,Z,Z,Z,Z,Z,Z,Z,Z] (by kernel_rfl) rfl rfl ⟨(blk_cell BK559.out 0).trans rfl,(blk_cell BK559.out 1).trans rfl⟩ (fun hHeld=>?_);refine with_tabW laws_FnSeals.tab13 laws_FnSeals.bits13 (fun HT_ HW_=>?_)
           generalize wc.drew=w66 at HO_3 HO_4 HO_5 HO_6 HO_560001 HO_577001 BK559 BK576 HB hHeld ⊢
           refine pure_ (i:=0) (N:=some 90) (v:=?_) (a':=?_) #[Y,Z,Z,Z,Z,Z,Z,Z,Z,Z,Z,Z,Z,Z,Z,Z,Z,Z,Z] rfl rfl (any_of HT_.out (by kernel_rfl)) (fun _ _ _ h=>h) (Or.inl ⟨zq138,?_⟩) ?_ ?_
           rotate_left
           ·intro w';go_simp;with_reducible rfl
           rotate_left
           ·simp only[Act.put,sa_,sb_,sc_,i64_w];rfl
           refine pure_ (i:=3) (N:=some 93) (v:=?_) (a':=?_) #[Y,Z,Z,Y,Z,Z,Z,Z,Z,Z,Z,Z,Z,Z,Z,Z,Z,Z,Z] rfl rfl (any_of HT_.out (by kernel_rfl)) (fun _ _ _ h=>h) (Or.inl ⟨zq138,?_⟩) ?_ ?_
           rotate_left
           ·intro w';go_simp;with_reducible rfl
           rotate_left
           ·simp only[Act.put,sa_,sb_,sc_,i64_w];rfl
           refine pure_ (i:=4) (N:=some 94) (v:=?_) (a':=?_) #[Y,Z,Z,Y,Y,Z,Z,Z,Z,Z,Z,Z,Z,Z,Z,Z,Z,Z,Z] rfl rfl (any_of HT_.out (by kernel_rfl)) (fun _ _ _ h=>h) (Or.inl ⟨zq138,?_⟩) ?_ ?_
           rotate_left
           ·intro w';go_simp;with_reducible rfl
           rotate_left
           ·simp only[Act.put,sa_,sb_,sc_,i64_w];rfl
           refine pure_ (i:=5) (N:=some 95) (v:=?_) (a':=?_) #[Y,Z,Z,Y,Y,Y,Z,Z,Z,Z,Z,Z,Z,Z,Z,Z,Z,Z,Z] rfl rfl (any_of HT_.out (by kernel_rfl)) (fun _ _ _ h=>h) (Or.inl ⟨zq138,?_⟩) ?_ ?_
           rotate_left
           ·intro w';go_simp;with_reducible rfl
           rotate_left
           ·simp only[Act.put,sa_,sb_,sc_,i64_w];rfl
           refine take_ (i:=1) (N:=some 91) (v:=?_) (a':=?_) #[Y,Y,Z,Y,Y,Y,Z,Z,Z,Z,Z,Z,Z,Z,Z,Z,Z,Z,Z] rfl rfl (take_ofW HT_.out HW_.out (by kernel_rfl)) (fun _ _ _ h=>h) (Or.inl ⟨zq138,?_⟩) hHeld ?_ ?_
           rotate_left
           ·rintro w' ⟨s0,s1⟩
            go_simp
            with_reducible rfl
           rotate_left
           ·simp only[Act.put,sa_,sb_,sc_,i64_w];rfl
           refine pure_ (i:=2) (N:=some 92) (v:=?_) (a':=?_) #[Y,Y,Y,Y,Y,Y,Z,Z,Z,Z,Z,Z,Z,Z,Z,Z,Z,Z,Z] rfl rfl (any_of HT_.out (by kernel_rfl)) (fun _ _ _ h=>h) (Or.inl ⟨zq138,?_⟩) ?_ ?_
           rotate_left
           ·intro w';go_simp;with_reducible rfl
           rotate_left
           ·simp only[Act.put,sa_,sb_,sc_,i64_w];rfl
           refine pure_ (i:=6) (N:=some 96) (v:=?_) (a':=?_) #[Y,Y,Y,Y,Y,Y,Y,Z,Z,Z,Z,Z,Z,Z,Z,Z,Z,Z,Z] rfl rfl (any_of HT_.out (by kernel_rfl)) (fun _ _ _ h=>h) (Or.inl ⟨zq138,?_⟩) ?_ ?_
           rotate_left
           ·intro w';go_simp;with_reducible rfl
           rotate_left
           ·simp only[Act.put,sa_,sb_,sc_,i64_w];rfl
           refine pure_ (i:=7) (N:=some 97) (v:=?_) (a':=?_) #[Y,Y,Y,Y,Y,Y,Y,Y,Z,Z,Z,Z,Z,Z,Z,Z,Z,Z,Z] rfl rfl (any_of HT_.out (by kernel_rfl)) (fun _ _ _ h=>h) (Or.inl ⟨zq138,?_⟩) ?_ ?_
           rotate_left
           ·intro w';go_simp;with_reducible rfl
           rotate_left
           ·simp only[Act.put,sa_,sb_,sc_,i64_w];rfl
           refine pure_ (i:=8) (N:=some 98) (v:=?_) (a':=?_) #[Y,Y,Y,Y,Y,Y,Y,Y,Y,Z,Z,Z,Z,Z,Z,Z,Z,Z,Z] rfl rfl (any_of HT_.out (by kernel_rfl)) (fun _ _ _ h=>h) (Or.inl ⟨zq138,?_⟩) ?_ ?_
           rotate_left
           ·intro w';go_simp;with_reducible rfl
           rotate_left
           ·simp only[Act.put,sa_,sb_,sc_,i64_w];rfl
           refine pure_ (i:=10) (N:=some 100) (v:=?_) (a':=?_) #[Y,Y,Y,Y,Y,Y,Y,Y,Y,Z,Y,Z,Z,Z,Z,Z,Z,Z,Z] rfl rfl (any_of HT_.out (by kernel_rfl)) (fun _ _ _ h=>h) (Or.inl ⟨zq138,?_⟩) ?_ ?_
           rotate_left
           ·intro w';go_simp;with_reducible rfl
           rotate_left
           ·simp only[Act.put,sa_,sb_,sc_,i64_w];rfl
           refine pure_ (i:=11) (N:=some 101) (v:=?_) (a':=?_) #[Y,Y,Y,Y,Y,Y,Y,Y,Y,Z,Y,Y,Z,Z,Z,Z,Z,Z,Z] rfl rfl (any_of HT_.out (by kernel_rfl)) (fun _ _ _ h=>h) (Or.inl ⟨zq138,?_⟩) ?_ ?_
           rotate_left
           ·intro w';go_simp;with_reducible rfl
           rotate_left
           ·simp only[Act.put,sa_,sb_,sc_,i64_w];rfl
           refine pure_ (i:=12) (N:=some 102) (v:=?_) (a':=?_) #[Y,Y,Y,Y,Y,Y,Y,Y,Y,Z,Y,Y,Y,Z,Z,Z,Z,Z,Z] rfl rfl (any_of HT_.out (by kernel_rfl)) (fun _ _ _ h=>h) (Or.inl ⟨zq138,?_⟩) ?_ ?_
           rotate_left
           ·intro w';go_simp;with_reducible rfl
           rotate_left
           ·simp only[Act.put,sa_,sb_,sc_,i64_w];rfl
           refine pure_ (i:=13) (N:=some 103) (v:=?_) (a':=?_) #[Y,Y,Y,Y,Y,Y,Y,Y,Y,Z,Y,Y,Y,Y,Z,Z,Z,Z,Z] rfl rfl (any_of HT_.out (by kernel_rfl)) (fun _ _ _ h=>h) (Or.inl ⟨zq138,?_⟩) ?_ ?_
           rotate_left
           ·intro w';go_simp;with_reducible rfl
           rotate_left
           ·simp only[Act.put,sa_,sb_,sc_,i64_w];rfl
           refine take_ (i:=9) (N:=some 99) (v:=?_) (a':=?_) #[Y,Y,Y,Y,Y,Y,Y,Y,Y,Y,Y,Y,Y,Y,Z,Z,Z,Z,Z] rfl rfl (take_ofW HT_.out HW_.out (by kernel_rfl)) (fun _ _ _ h=>h) (Or.inl ⟨zq138,?_⟩) hHeld ?_ ?_
           rotate_left
           ·rintro w' ⟨s0,s1⟩
            go_simp
            with_reducible rfl
           rotate_left
           ·simp only[Act.put,sa_,sb_,sc_,i64_w];rfl
           refine one_ (i:=14) (N:=some 104) #[Y,Y,Y,Y,Y,Y,Y,Y,Y,Y,Y,Y,Y,Y,Y,Z,Z,Z,Z] rfl rfl (one_of HT_.out (by kernel_rfl)) zq22 (fun K hK=>?_)
           refine goes_ Try.func26 (by kernel_rfl) rfl #[.slice Ao10 t543.length co10,.slice Ao11 t544.length co11,.slice Ao12 t545.length co12,.slice Ao13 t546.length co13] zq138 rfl rfl zq20 ?_
           with_reducible refine(spec_SealText.calls kj47 _ _ t543 _ _ t544 _ _ t545 _ _ t546 t595 t596 _ ?side1 ?side2 ?side3 ?side4 ?side5 ?side6 ?side7 ?side8 A64.out).mono ?_
           (case side1=>exact zq170)
           (case side2=>exact(iz5 HO_3.out).2.1)
           (case side3=>exact zq171)
           (case side4=>exact(iz5 HO_4.out).2.1)
           (case side5=>exact zq172)
           (case side6=>exact(iz5 HO_5.out).2.1)
           (case side7=>repeat (first|exact(iz5 HO_6.out).2.2|(with_reducible refine Kd.C_alloc ?_ _)|(with_reducible refine Kd.C_drewN ?_ _)|(with_reducible refine Kd.C_drew ?_)))
           (case side8=>exact(iz5 HO_6.out).2.1)
           rintro e w67 ⟨v597,rfl,ho0,hb⟩
           refine⟨_,rfl,?_⟩
           have n0_:=zz5 (jz5 zq81 (fz5 ho0) hb)
           have n1_:=zz5 (jz5 zq82 (fz5 ho0) hb)
           have n2_:=zz5 (jz5 zq83 (fz5 ho0) hb)
           have n3_:=zz5 (jz5 zq84 (fz5 ho0) hb)
           have n4_:=zz5 (jz5 zq69 (fz5 ho0) hb)
           have n5_:=zz5 (jz5 zq70 (fz5 ho0) hb)
           have n6_:=zz5 (Kd.R_lower (kz5 (kz5 (kz5 (kz5 (kz5 (kz5 ho0 (Kd.R_lt zq81)) (Kd.R_lt zq82)) (Kd.R_lt zq83)) (Kd.R_lt zq84)) (Kd.R_lt zq69)) (Kd.R_lt zq70)) (below_size zq12))
           have n7_:=zz5 (hy5 (g:=gb559) (o:=.cells #[.int .i64 t555,.slice Ao17 t556.length co17] 42 (0,0)) zq34 hb)
           have n8_:=zz5 (hy5 (g:=gb576) (o:=.cells #[.int .i64 t572,.slice Ao27 t573.length co27] 42 (0,0)) zq61 hb)
           have n9_:=zz5 (below_step zq12 hb)
           clear HO_3
           clear HO_4
           clear HO_5
           clear HO_6
           clear HO_560001
           clear HO_577001
           clear BK559
           clear BK576
           clear HB
           have HO_3:=n0_
           have HO_4:=n1_
           have HO_5:=n2_
           have HO_6:=n3_
           have HO_560001:=n4_
           have HO_577001:=n5_
           have HO598:=n6_
           have BK559:=n7_
           have BK576:=n8_
           have HB:=n9_
           clear n0_ n1_ n2_ n3_ n4_ n5_ n6_ n7_ n8_ n9_
           (try clear hb);(try clear hb2);(try clear hk)
           (try clear hi)
           (try clear ho0)
           obtain⟨Ao68,co68,eo68⟩:=Kd.R_slice HO598.out
           (first|subst eo68|(injection eo68 with f1_ f2_ f3_;have f4_:=f1_.symm;have f5_:=f3_.symm;clear f1_ f2_ f3_;subst f4_;subst f5_))
           refine hK.out _ _ ⟨(blk_cell BK559.out 0).trans rfl,(blk_cell BK559.out 1).trans rfl⟩ (fun hHeld=>?_)
           clear hK K
           refine norm_ (a':=?_) ?_ ?_
           rotate_left
           ·show Act.put _ (some 104) _=_
            simp only[Act.put,sa_,sb_,sc_,i64_w]
            rfl
           refine pure_ (i:=15) (N:=some 105) (v:=?_) (a':=?_) #[Y,Y,Y,Y,Y,Y,Y,Y,Y,Y,Y,Y,Y,Y,Y,Y,Z,Z,Z] rfl rfl (any_of HT_.out (by kernel_rfl)) (fun _ _ _ h=>h) (Or.inl ⟨zq138,?_⟩) ?_ ?_
           rotate_left
           ·intro w';go_simp;with_reducible rfl
           rotate_left
           ·simp only[Act.put,sa_,sb_,sc_,i64_w];rfl
           refine one_ (i:=16) (N:=some 106) #[Y,Y,Y,Y,Y,Y,Y,Y,Y,Y,Y,Y,Y,Y,Y,Y,Y,Z,Z] rfl rfl (one_of HT_.out (by kernel_rfl)) zq22 (fun K hK=>?_)
           refine goes_ Try.func13 (by kernel_rfl) rfl #[.slice Ao17 t556.length co17,.slice Ao68 t596.length co68] zq138 rfl rfl zq20 ?_
           with_reducible refine(laws_lwSame.calls _ _ t556 _ _ t596 t599 _ ?side1 ?side2 ?side3 ?side4 A65.out).mono ?_
           (case side1=>repeat (first|exact(iz5 HO_560001.out).2.2|(with_reducible refine Kd.C_alloc ?_ _)|(with_reducible refine Kd.C_drewN ?_ _)|(with_reducible refine Kd.C_drew ?_)))
           (case side2=>exact(iz5 HO_560001.out).2.1)
           (case side3=>repeat (first|exact(iz5 HO598.out).2.2|(with_reducible refine Kd.C_alloc ?_ _)|(with_reducible refine Kd.C_drewN ?_ _)|(with_reducible refine Kd.C_drew ?_)))
           (case side4=>exact(iz5 HO598.out).2.1)
           rintro e w' ⟨rfl,⟨nd,rfl⟩⟩
           refine⟨_,rfl,?_⟩
           refine hK.out _ _ ⟨(blk_cell BK559.out 0).trans rfl,(blk_cell BK559.out 1).trans rfl⟩ (fun hHeld=>?_)
           clear hK K
           refine norm_ (a':=?_) ?_ ?_
           rotate_left
           ·show Act.put _ (some 106) _=_
            simp only[Act.put,sa_,sb_,sc_,i64_w]
            rfl
           refine pure_ (i:=17) (N:=some 107) (v:=?_) (a':=?_) #[Y,Y,Y,Y,Y,Y,Y,Y,Y,Y,Y,Y,Y,Y,Y,Y,Y,Y,Z] rfl rfl (any_of HT_.out (by kernel_rfl)) (fun _ _ _ h=>h) (Or.inl ⟨zq138,?_⟩) ?_ ?_
           rotate_left
           ·intro w';go_simp;with_reducible rfl
           rotate_left
           ·simp only[Act.put,sa_,sb_,sc_,i64_w];rfl
           refine pure_ (i:=18) (N:=some 108) (v:=?_) (a':=?_) #[Y,Y,Y,Y,Y,Y,Y,Y,Y,Y,Y,Y,Y,Y,Y,Y,Y,Y,Y] rfl rfl (any_of HT_.out (by kernel_rfl)) (fun _ _ _ h=>h) (Or.inl ⟨zq138,?_⟩) ?_ ?_
           rotate_left
           ·intro w';go_simp;with_reducible rfl
           rotate_left
           ·simp only[Act.put,sa_,sb_,sc_,i64_w];rfl
           refine done_ (done_of HT_.out (by kernel_rfl)) ?_
           try go_wp2
           go_meet
           case rel=>exact⟨_,(!t599),zq181,H',⟨by have:=HJ7.out;have:=HJ47.out;first|omega|exact Nat.le_refl _⟩,⟨by(with_reducible repeat (first|apply az5|apply bz5|apply cz5));exact gz5 HO_3.out (fun _ hk=>⟨hk.1.1,⟨hk.1.2.1,⟨hk.1.2.2.1,⟨hk.1.2.2.2.1,hk.1.2.2.2.2⟩⟩⟩⟩)⟩,⟨by(with_reducible repeat (first|apply az5|apply bz5|apply cz5));exact gz5 HO_4.out (fun _ hk=>⟨hk.1.1,⟨hk.1.2.1,⟨hk.1.2.2.1,⟨hk.1.2.2.2.1,hk.1.2.2.2.2⟩⟩⟩⟩)⟩,⟨by(with_reducible repeat (first|apply az5|apply bz5|apply cz5));exact gz5 HO_5.out (fun _ hk=>⟨hk.1.1,⟨hk.1.2.1,⟨hk.1.2.2.1,⟨hk.1.2.2.2.1,hk.1.2.2.2.2⟩⟩⟩⟩)⟩,⟨by(with_reducible repeat (first|apply az5|apply bz5|apply cz5));exact gz5 HO_6.out (fun _ hk=>⟨hk.1.1,⟨hk.1.2.1,⟨hk.1.2.2.1,⟨hk.1.2.2.2.1,hk.1.2.2.2.2⟩⟩⟩⟩)⟩,⟨by(with_reducible repeat (first|apply az5|apply bz5|apply cz5));exact gz5 HO_560001.out (fun _ hk=>⟨hk.1.1,⟨hk.1.2.1,⟨hk.1.2.2.1,⟨hk.1.2.2.2.1,hk.1.2.2.2.2⟩⟩⟩⟩)⟩,⟨by(with_reducible repeat (first|apply az5|apply bz5|apply cz5));exact gz5 HO_577001.out (fun _ hk=>⟨hk.1.1,⟨hk.1.2.1,⟨hk.1.2.2.1,⟨hk.1.2.2.2.1,hk.1.2.2.2.2⟩⟩⟩⟩)⟩,⟨zq34⟩,⟨zq61⟩,⟨zq43⟩⟩
          ·rw[if_neg c63] at H
           have c63b0:((t556.length:Int) == (wrap64 ((t546.length:Int)+16)))=false:=beq_eq_false_iff_ne.mpr c63
           have c63b1:((t556.length:Int) != (wrap64 ((t546.length:Int)+16)))=true:=bne_iff_ne.mpr c63
           (first|rw[c63b0]|(simp only[i64_w,i32_w];rw[c63b0])|skip)
           have H':=zz5 H
           clear H
           try go_wp2
           have n0_:=zz5 (cz5 HO_3.out)
           have n1_:=zz5 (cz5 HO_4.out)
           have n2_:=zz5 (cz5 HO_5.out)
           have n3_:=zz5 (cz5 HO_6.out)
           have n4_:=zz5 (cz5 HO_560001.out)
           have n5_:=zz5 (cz5 HO_577001.out)
           have n6_:=zz5 (gy5 BK559.out)
           have n7_:=zz5 (gy5 BK576.out)
           have n8_:=zz5 (cy5 HB.out)
           clear HO_3
           clear HO_4
           clear HO_5
           clear HO_6
           clear HO_560001
           clear HO_577001
           clear BK559
           clear BK576
           clear HB
           have HO_3:=n0_
           have HO_4:=n1_
           have HO_5:=n2_
           have HO_6:=n3_
           have HO_560001:=n4_
           have HO_577001:=n5_
           have BK559:=n6_
           have BK576:=n7_
           have HB:=n8_
           clear n0_ n1_ n2_ n3_ n4_ n5_ n6_ n7_ n8_
           refine start_ (n:=19) (S:=fun w'=>w'.cell? ⟨gb559,0,none⟩=some (.int .i64 t555)∧w'.cell? ⟨gb559,1,none⟩=some (.slice Ao17 t556.length co17)) (ds:=[]) #[Z,Z,Z,Z,Z,Z,Z,Z,Z,Z,Z,Z,Z,Z,Z,Z,Z,Z,Z] (by kernel_rfl) rfl rfl ⟨(blk_cell BK559.out 0).trans rfl,(blk_cell BK559.out 1).trans rfl⟩ (fun hHeld=>?_);refine with_tabW laws_FnSeals.tab13 laws_FnSeals.bits13 (fun HT_ HW_=>?_)
           generalize wc.drew=w69 at HO_3 HO_4 HO_5 HO_6 HO_560001 HO_577001 BK559 BK576 HB hHeld ⊢
           refine pure_ (i:=0) (N:=some 90) (v:=?_) (a':=?_) #[Y,Z,Z,Z,Z,Z,Z,Z,Z,Z,Z,Z,Z,Z,Z,Z,Z,Z,Z] rfl rfl (any_of HT_.out (by kernel_rfl)) (fun _ _ _ h=>h) (Or.inl ⟨zq138,?_⟩) ?_ ?_
           rotate_left
           ·intro w';go_simp;with_reducible rfl
           rotate_left
           ·simp only[Act.put,sa_,sb_,sc_,i64_w];rfl
           refine pure_ (i:=3) (N:=some 93) (v:=?_) (a':=?_) #[Y,Z,Z,Y,Z,Z,Z,Z,Z,Z,Z,Z,Z,Z,Z,Z,Z,Z,Z] rfl rfl (any_of HT_.out (by kernel_rfl)) (fun _ _ _ h=>h) (Or.inl ⟨zq138,?_⟩) ?_ ?_
           rotate_left
           ·intro w';go_simp;with_reducible rfl
           rotate_left
           ·simp only[Act.put,sa_,sb_,sc_,i64_w];rfl
           refine pure_ (i:=4) (N:=some 94) (v:=?_) (a':=?_) #[Y,Z,Z,Y,Y,Z,Z,Z,Z,Z,Z,Z,Z,Z,Z,Z,Z,Z,Z] rfl rfl (any_of HT_.out (by kernel_rfl)) (fun _ _ _ h=>h) (Or.inl ⟨zq138,?_⟩) ?_ ?_
           rotate_left
           ·intro w';go_simp;with_reducible rfl
           rotate_left
           ·simp only[Act.put,sa_,sb_,sc_,i64_w];rfl
           refine pure_ (i:=5) (N:=some 95) (v:=?_) (a':=?_) #[Y,Z,Z,Y,Y,Y,Z,Z,Z,Z,Z,Z,Z,Z,Z,Z,Z,Z,Z] rfl rfl (any_of HT_.out (by kernel_rfl)) (fun _ _ _ h=>h) (Or.inl ⟨zq138,?_⟩) ?_ ?_
           rotate_left
           ·intro w';go_simp;with_reducible rfl
           rotate_left
           ·simp only[Act.put,sa_,sb_,sc_,i64_w];rfl
           refine take_ (i:=1) (N:=some 91) (v:=?_) (a':=?_) #[Y,Y,Z,Y,Y,Y,Z,Z,Z,Z,Z,Z,Z,Z,Z,Z,Z,Z,Z] rfl rfl (take_ofW HT_.out HW_.out (by kernel_rfl)) (fun _ _ _ h=>h) (Or.inl ⟨zq138,?_⟩) hHeld ?_ ?_
           rotate_left
           ·rintro w' ⟨s0,s1⟩
            go_simp
            with_reducible rfl
           rotate_left
           ·simp only[Act.put,sa_,sb_,sc_,i64_w];rfl
           refine pure_ (i:=2) (N:=some 92) (v:=?_) (a':=?_) #[Y,Y,Y,Y,Y,Y,Z,Z,Z,Z,Z,Z,Z,Z,Z,Z,Z,Z,Z] rfl rfl (any_of HT_.out (by kernel_rfl)) (fun _ _ _ h=>h) (Or.inl ⟨zq138,?_⟩) ?_ ?_
           rotate_left
           ·intro w';go_simp;with_reducible rfl
           rotate_left
           ·simp only[Act.put,sa_,sb_,sc_,i64_w];rfl
           refine pure_ (i:=6) (N:=some 96) (v:=?_) (a':=?_) #[Y,Y,Y,Y,Y,Y,Y,Z,Z,Z,Z,Z,Z,Z,Z,Z,Z,Z,Z] rfl rfl (any_of HT_.out (by kernel_rfl)) (fun _ _ _ h=>h) (Or.inl ⟨zq138,?_⟩) ?_ ?_
           rotate_left
           ·intro w';go_simp;with_reducible rfl
           rotate_left
           ·simp only[Act.put,sa_,sb_,sc_,i64_w];rfl
           refine pure_ (i:=7) (N:=some 97) (v:=?_) (a':=?_) #[Y,Y,Y,Y,Y,Y,Y,Y,Z,Z,Z,Z,Z,Z,Z,Z,Z,Z,Z] rfl rfl (any_of HT_.out (by kernel_rfl)) (fun _ _ _ h=>h) (Or.inl ⟨zq138,?_⟩) ?_ ?_
           rotate_left
           ·intro w';go_simp;with_reducible rfl
           rotate_left
           ·simp only[Act.put,sa_,sb_,sc_,i64_w];rfl
           refine pure_ (i:=8) (N:=some 98) (v:=undef) (a':=?_) #[Y,Y,Y,Y,Y,Y,Y,Y,Y,Z,Z,Z,Z,Z,Z,Z,Z,Z,Z] rfl rfl (any_of HT_.out (by kernel_rfl)) (fun _ _ _ h=>h) (Or.inr ⟨zq138,rfl⟩) ?_ ?_
           rotate_left
           ·simp only[Act.put,sa_,sb_,sc_,i64_w];rfl
           refine pure_ (i:=9) (N:=some 99) (v:=undef) (a':=?_) #[Y,Y,Y,Y,Y,Y,Y,Y,Y,Y,Z,Z,Z,Z,Z,Z,Z,Z,Z] rfl rfl (any_of HT_.out (by kernel_rfl)) (fun _ _ _ h=>h) (Or.inr ⟨zq138,rfl⟩) ?_ ?_
           rotate_left
           ·simp only[Act.put,sa_,sb_,sc_,i64_w];rfl
           refine pure_ (i:=10) (N:=some 100) (v:=undef) (a':=?_) #[Y,Y,Y,Y,Y,Y,Y,Y,Y,Y,Y,Z,Z,Z,Z,Z,Z,Z,Z] rfl rfl (any_of HT_.out (by kernel_rfl)) (fun _ _ _ h=>h) (Or.inr ⟨zq138,rfl⟩) ?_ ?_
           rotate_left
           ·simp only[Act.put,sa_,sb_,sc_,i64_w];rfl
           refine pure_ (i:=11) (N:=some 101) (v:=undef) (a':=?_) #[Y,Y,Y,Y,Y,Y,Y,Y,Y,Y,Y,Y,Z,Z,Z,Z,Z,Z,Z] rfl rfl (any_of HT_.out (by kernel_rfl)) (fun _ _ _ h=>h) (Or.inr ⟨zq138,rfl⟩) ?_ ?_
           rotate_left
           ·simp only[Act.put,sa_,sb_,sc_,i64_w];rfl
           refine pure_ (i:=12) (N:=some 102) (v:=undef) (a':=?_) #[Y,Y,Y,Y,Y,Y,Y,Y,Y,Y,Y,Y,Y,Z,Z,Z,Z,Z,Z] rfl rfl (any_of HT_.out (by kernel_rfl)) (fun _ _ _ h=>h) (Or.inr ⟨zq138,rfl⟩) ?_ ?_
           rotate_left
           ·simp only[Act.put,sa_,sb_,sc_,i64_w];rfl
           refine pure_ (i:=13) (N:=some 103) (v:=undef) (a':=?_) #[Y,Y,Y,Y,Y,Y,Y,Y,Y,Y,Y,Y,Y,Y,Z,Z,Z,Z,Z] rfl rfl (any_of HT_.out (by kernel_rfl)) (fun _ _ _ h=>h) (Or.inr ⟨zq138,rfl⟩) ?_ ?_
           rotate_left
           ·simp only[Act.put,sa_,sb_,sc_,i64_w];rfl
           refine pure_ (i:=14) (N:=some 104) (v:=undef) (a':=?_) #[Y,Y,Y,Y,Y,Y,Y,Y,Y,Y,Y,Y,Y,Y,Y,Z,Z,Z,Z] rfl rfl (any_of HT_.out (by kernel_rfl)) (fun _ _ _ h=>h) (Or.inr ⟨zq138,rfl⟩) ?_ ?_
           rotate_left
           ·simp only[Act.put,sa_,sb_,sc_,i64_w];rfl
           refine pure_ (i:=15) (N:=some 105) (v:=undef) (a':=?_) #[Y,Y,Y,Y,Y,Y,Y,Y,Y,Y,Y,Y,Y,Y,Y,Y,Z,Z,Z] rfl rfl (any_of HT_.out (by kernel_rfl)) (fun _ _ _ h=>h) (Or.inr ⟨zq138,rfl⟩) ?_ ?_
           rotate_left
           ·simp only[Act.put,sa_,sb_,sc_,i64_w];rfl
           refine pure_ (i:=16) (N:=some 106) (v:=undef) (a':=?_) #[Y,Y,Y,Y,Y,Y,Y,Y,Y,Y,Y,Y,Y,Y,Y,Y,Y,Z,Z] rfl rfl (any_of HT_.out (by kernel_rfl)) (fun _ _ _ h=>h) (Or.inr ⟨zq138,rfl⟩) ?_ ?_
           rotate_left
           ·simp only[Act.put,sa_,sb_,sc_,i64_w];rfl
           refine pure_ (i:=17) (N:=some 107) (v:=undef) (a':=?_) #[Y,Y,Y,Y,Y,Y,Y,Y,Y,Y,Y,Y,Y,Y,Y,Y,Y,Y,Z] rfl rfl (any_of HT_.out (by kernel_rfl)) (fun _ _ _ h=>h) (Or.inr ⟨zq138,rfl⟩) ?_ ?_
           rotate_left
           ·simp only[Act.put,sa_,sb_,sc_,i64_w];rfl
           refine pure_ (i:=18) (N:=some 108) (v:=?_) (a':=?_) #[Y,Y,Y,Y,Y,Y,Y,Y,Y,Y,Y,Y,Y,Y,Y,Y,Y,Y,Y] rfl rfl (any_of HT_.out (by kernel_rfl)) (fun _ _ _ h=>h) (Or.inl ⟨zq138,?_⟩) ?_ ?_
           rotate_left
           ·intro w';go_simp;with_reducible rfl
           rotate_left
           ·simp only[Act.put,sa_,sb_,sc_,i64_w];rfl
           refine done_ (done_of HT_.out (by kernel_rfl)) ?_
           try go_wp2
           go_meet
           case rel=>exact⟨_,(true),zq181,H',⟨by have:=HJ7.out;have:=HJ47.out;first|omega|exact Nat.le_refl _⟩,⟨by(with_reducible repeat (first|apply az5|apply bz5|apply cz5));exact HO_3.out⟩,⟨by(with_reducible repeat (first|apply az5|apply bz5|apply cz5));exact HO_4.out⟩,⟨by(with_reducible repeat (first|apply az5|apply bz5|apply cz5));exact HO_5.out⟩,⟨by(with_reducible repeat (first|apply az5|apply bz5|apply cz5));exact HO_6.out⟩,⟨by(with_reducible repeat (first|apply az5|apply bz5|apply cz5));exact HO_560001.out⟩,⟨by(with_reducible repeat (first|apply az5|apply bz5|apply cz5));exact HO_577001.out⟩,⟨zq34⟩,⟨zq61⟩,⟨zq43⟩⟩
         case rest=>
          clear HC60
          try clear c1
          try clear c2
          try clear p2
          try clear c4
          try clear c5
          try clear c6
          try clear p6
          try clear c13
          try clear c26
          try clear c27
          try clear c29
          try clear c29b0
          try clear c29b1
          try clear c47
          try clear c49
          try clear c49b0
          try clear c49b1
          try clear c52
          try clear c56
          try clear c58
          try clear c59
          try clear c59b0
          try clear c59b1
          try clear c61
          try clear c63
          try clear c63b0
          try clear c63b1
          try clear p64
          try clear hcz53_0
          try clear hcz53_1
          try clear hcz57_0
          try clear hcz57_1
          try clear hcz62_0
          try clear hcz62_1
          try clear hfz53_0
          try clear hfz53_1
          try clear hfz57_0
          try clear hfz57_1
          try clear hfz62_0
          try clear hfz62_1
          try clear p2
          obtain⟨kq,x108_59,rfl,HA,HJ59,HO_3,HO_4,HO_5,HO_6,HO_560001,HO_577001,BK559,BK576,HB⟩:=hcut
          cases kq with
         |zero=>exact absurd HA.out (by simp[laws_FnSeals.j2])
         |succ kj59=>
           have H:=HA.out
           clear HA
           simp only[laws_FnSeals.j2] at H
           by_cases c70:x108_59=true
           ·subst c70
            have H1:(some false)=some r:=by rw[if_pos rfl] at H;exact H
            clear H
            have H:=H1
            clear H1
            exact absurd (Option.some.inj H) (by rw[HRT.out];decide)
           ·replace c70:=Bool.eq_false_iff.mpr c70
            subst c70
            have H1:((some (([]:List Int):List Int)).bind fun y600=>(if y600.length+t556.length < 140737488355328 then ((some (y600 ++ t556:List Int)).bind fun y603=>((laws_lwAt.f l0 2 16).bind fun t606=>(if 0≤(wrap64 ((wrap64 ((y603.length:Int) - 1)) - t606)) then (if (wrap64 ((wrap64 ((y603.length:Int) - 1)) - t606)) < (y603.length:Int) then ((laws_lwAt.f l0 3 255).bind fun t608=>((impl_OpenText.f t543 t544 t545 t556).bind fun bt610=>((laws_lwSame.f bt610.2 t546).bind fun t614=>(if t614=true then ((impl_OpenText.f t543 t544 t545 t556).bind fun bt615=>(if bt615.1=0 then ((impl_OpenText.f t543 t544 t545 (y603.set ((wrap64 ((wrap64 ((y603.length:Int) - 1)) - t606)):Int).toNat (Go.bits .xor .u8 (rd y603 (wrap64 ((wrap64 ((y603.length:Int) - 1)) - t606))) ((wrap64 (1+t608)) % 256)))).bind fun bt619=>(some (bt619.1 == 9))) else (some false))) else (some false))))) else (none)) else (none)))) else (none)))=some r:=by rw[if_neg (show ¬ (false=true) by decide)] at H;exact H
            clear H
            have H:=H1
            clear H1
            obtain⟨y600,hy600⟩:∃ y_:List Int,y_=(([]:List Int)):=⟨_,rfl⟩
            replace H:(if y600.length+t556.length < 140737488355328 then ((some (y600 ++ t556:List Int)).bind fun y603=>((laws_lwAt.f l0 2 16).bind fun t606=>(if 0≤(wrap64 ((wrap64 ((y603.length:Int) - 1)) - t606)) then (if (wrap64 ((wrap64 ((y603.length:Int) - 1)) - t606)) < (y603.length:Int) then ((laws_lwAt.f l0 3 255).bind fun t608=>((impl_OpenText.f t543 t544 t545 t556).bind fun bt610=>((laws_lwSame.f bt610.2 t546).bind fun t614=>(if t614=true then ((impl_OpenText.f t543 t544 t545 t556).bind fun bt615=>(if bt615.1=0 then ((impl_OpenText.f t543 t544 t545 (y603.set ((wrap64 ((wrap64 ((y603.length:Int) - 1)) - t606)):Int).toNat (Go.bits .xor .u8 (rd y603 (wrap64 ((wrap64 ((y603.length:Int) - 1)) - t606))) ((wrap64 (1+t608)) % 256)))).bind fun bt619=>(some (bt619.1 == 9))) else (some false))) else (some false))))) else (none)) else (none)))) else (none))=some r:=by first|(rw[hy600];with_reducible exact H)|(have H2_:=(Option.bind_some _ _).symm.trans H;rw[hy600];with_reducible exact H2_)|(have H2_:=(Option.bind_some _ _).symm.trans H;with_reducible exact H2_)|with_reducible exact H|(rw[hy600];exact H)|exact H
            have Ny600:=zz5 hy600
            clear hy600
            by_cases c71:y600.length+t556.length < 140737488355328
            ·rw[if_pos c71] at H
             have LMc71:=zz5 c71
             clear c71
             obtain⟨y603,hy603⟩:∃ y_:List Int,y_=(y600 ++ t556):=⟨_,rfl⟩
             replace H:((laws_lwAt.f l0 2 16).bind fun t606=>(if 0≤(wrap64 ((wrap64 ((y603.length:Int) - 1)) - t606)) then (if (wrap64 ((wrap64 ((y603.length:Int) - 1)) - t606)) < (y603.length:Int) then ((laws_lwAt.f l0 3 255).bind fun t608=>((impl_OpenText.f t543 t544 t545 t556).bind fun bt610=>((laws_lwSame.f bt610.2 t546).bind fun t614=>(if t614=true then ((impl_OpenText.f t543 t544 t545 t556).bind fun bt615=>(if bt615.1=0 then ((impl_OpenText.f t543 t544 t545 (y603.set ((wrap64 ((wrap64 ((y603.length:Int) - 1)) - t606)):Int).toNat (Go.bits .xor .u8 (rd y603 (wrap64 ((wrap64 ((y603.length:Int) - 1)) - t606))) ((wrap64 (1+t608)) % 256)))).bind fun bt619=>(some (bt619.1 == 9))) else (some false))) else (some false))))) else (none)) else (none)))=some r:=by first|(rw[hy603];with_reducible exact H)|(have H2_:=(Option.bind_some _ _).symm.trans H;rw[hy603];with_reducible exact H2_)|(have H2_:=(Option.bind_some _ _).symm.trans H;with_reducible exact H2_)|with_reducible exact H|(rw[hy603];exact H)|exact H
             have Ny603:=zz5 hy603
             clear hy603
             replace H:=Option.bind_eq_some_iff.mp H
             obtain⟨t606,A720,H⟩:=H
             replace H:(if 0≤(wrap64 ((wrap64 ((y603.length:Int) - 1)) - t606)) then (if (wrap64 ((wrap64 ((y603.length:Int) - 1)) - t606)) < (y603.length:Int) then ((laws_lwAt.f l0 3 255).bind fun t608=>((impl_OpenText.f t543 t544 t545 t556).bind fun bt610=>((laws_lwSame.f bt610.2 t546).bind fun t614=>(if t614=true then ((impl_OpenText.f t543 t544 t545 t556).bind fun bt615=>(if bt615.1=0 then ((impl_OpenText.f t543 t544 t545 (y603.set ((wrap64 ((wrap64 ((y603.length:Int) - 1)) - t606)):Int).toNat (Go.bits .xor .u8 (rd y603 (wrap64 ((wrap64 ((y603.length:Int) - 1)) - t606))) ((wrap64 (1+t608)) % 256)))).bind fun bt619=>(some (bt619.1 == 9))) else (some false))) else (some false))))) else (none)) else (none))=some r:=H
             have A72:=zz5 A720
             clear A720
             obtain⟨ji73,hji73⟩:∃ j_:Int,(wrap64 ((wrap64 ((y603.length:Int) - 1)) - t606))=j_:=⟨_,rfl⟩
             replace H:(if 0≤(ji73) then (if (ji73) < (y603.length:Int) then ((laws_lwAt.f l0 3 255).bind fun t608=>((impl_OpenText.f t543 t544 t545 t556).bind fun bt610=>((laws_lwSame.f bt610.2 t546).bind fun t614=>(if t614=true then ((impl_OpenText.f t543 t544 t545 t556).bind fun bt615=>(if bt615.1=0 then ((impl_OpenText.f t543 t544 t545 (y603.set ((ji73):Int).toNat (Go.bits .xor .u8 (rd y603 (ji73)) ((wrap64 (1+t608)) % 256)))).bind fun bt619=>(some (bt619.1 == 9))) else (some false))) else (some false))))) else (none)) else (none))=some r:=by first|(rw[hji73] at H;exact H)|(simp only[hji73] at H ⊢;exact H)
             (try rw[hji73] at A72)
             have hji73w:(IntKind.i64.wrap ((wrap64 ((y603.length:Int) - 1)) - t606))=ji73:=(i64_w _).trans hji73
             by_cases c74:0≤(ji73)
             ·rw[if_pos c74] at H
              have c74b0:decide (0≤(ji73))=true:=decide_eq_true c74
              clear c74
              by_cases c75:(ji73) < (y603.length:Int)
              ·rw[if_pos c75] at H
               have c75b0:decide ((ji73) < (y603.length:Int))=true:=decide_eq_true c75
               clear c75
               replace H:=Option.bind_eq_some_iff.mp H
               obtain⟨t608,A760,H⟩:=H
               replace H:((impl_OpenText.f t543 t544 t545 t556).bind fun bt610=>((laws_lwSame.f bt610.2 t546).bind fun t614=>(if t614=true then ((impl_OpenText.f t543 t544 t545 t556).bind fun bt615=>(if bt615.1=0 then ((impl_OpenText.f t543 t544 t545 (y603.set ((ji73):Int).toNat (Go.bits .xor .u8 (rd y603 (ji73)) ((wrap64 (1+t608)) % 256)))).bind fun bt619=>(some (bt619.1 == 9))) else (some false))) else (some false))))=some r:=H
               have A76:=zz5 A760
               clear A760
               obtain⟨y609,hy609⟩:∃ y_:List Int,y_=(y603.set ((ji73):Int).toNat (Go.bits .xor .u8 (rd y603 (ji73)) ((wrap64 (1+t608)) % 256))):=⟨_,rfl⟩
               replace H:((impl_OpenText.f t543 t544 t545 t556).bind fun bt610=>((laws_lwSame.f bt610.2 t546).bind fun t614=>(if t614=true then ((impl_OpenText.f t543 t544 t545 t556).bind fun bt615=>(if bt615.1=0 then ((impl_OpenText.f t543 t544 t545 y609).bind fun bt619=>(some (bt619.1 == 9))) else (some false))) else (some false))))=some r:=by first|(rw[hy609];with_reducible exact H)|(have H2_:=(Option.bind_some _ _).symm.trans H;rw[hy609];with_reducible exact H2_)|(have H2_:=(Option.bind_some _ _).symm.trans H;with_reducible exact H2_)|with_reducible exact H|(rw[hy609];exact H)|exact H
               have Ny609:=zz5 hy609
               clear hy609
               replace H:=Option.bind_eq_some_iff.mp H
               obtain⟨⟨t610,t611⟩,A780,H⟩:=H
               replace H:((laws_lwSame.f t611 t546).bind fun t614=>(if t614=true then ((impl_OpenText.f t543 t544 t545 t556).bind fun bt615=>(if bt615.1=0 then ((impl_OpenText.f t543 t544 t545 y609).bind fun bt619=>(some (bt619.1 == 9))) else (some false))) else (some false)))=some r:=H
               have A78:=zz5 A780
               clear A780
               replace H:=Option.bind_eq_some_iff.mp H
               obtain⟨t614,A790,H⟩:=H
               replace H:(if t614=true then ((impl_OpenText.f t543 t544 t545 t556).bind fun bt615=>(if bt615.1=0 then ((impl_OpenText.f t543 t544 t545 y609).bind fun bt619=>(some (bt619.1 == 9))) else (some false))) else (some false))=some r:=H
               have A79:=zz5 A790
               clear A790
               by_cases c80:t614=true
               ·subst c80
                have H1:((impl_OpenText.f t543 t544 t545 t556).bind fun bt615=>(if bt615.1=0 then ((impl_OpenText.f t543 t544 t545 y609).bind fun bt619=>(some (bt619.1 == 9))) else (some false)))=some r:=by rw[if_pos rfl] at H;exact H
                clear H
                have H:=H1
                clear H1
                replace H:=Option.bind_eq_some_iff.mp H
                obtain⟨⟨t615,t616⟩,A810,H⟩:=H
                replace H:(if t615=0 then ((impl_OpenText.f t543 t544 t545 y609).bind fun bt619=>(some (bt619.1 == 9))) else (some false))=some r:=H
                have A81:=zz5 A810
                clear A810
                by_cases c82:t615=0
                ·rw[if_pos c82] at H
                 have c82b0:(t615 == 0)=true:=beq_iff_eq.mpr c82
                 have c82b1:(t615 != 0)=false:=bne_eq_false_iff_eq.mpr c82
                 clear c82
                 replace H:=Option.bind_eq_some_iff.mp H
                 obtain⟨⟨t619,t620⟩,A830,H⟩:=H
                 replace H:(some (t619 == 9))=some r:=H
                 have A83:=zz5 A830
                 clear A830
                 obtain rfl:=Option.some.inj H
                 try go_wp2_with (first|((with_reducible refine gate_dst (N:=109) rfl ?_);refine Kd.R_lit (Kd.int .u8) _ 5 ?hg (N:=109) ?hd (xs:=([]:List Int)) (inner:=[]) (ok:=fun _=>True) (okp:=fun _=>True) ?hr ?hp (fun _ hk=>hk) trivial (Below.refl _ _) (Nat.le_refl _) zq101 ?_;(case hd=>rfl);(case hg=>rfl);(case hr=>first|(go_simp;done)|(go_simp;rfl));(case hp=>exact(Reps.none _ _));intro v601 w84 ho85 hb hg_ hnew_;clear hg_ hnew_;(first|rw[← Ny600.out] at ho85|(simp only[Int.reduceToNat] at ho85;rw[← Ny600.out] at ho85));have n0_:=zz5 (jz5 zq81 (fz5 ho85) hb);have n1_:=zz5 (jz5 zq82 (fz5 ho85) hb);have n2_:=zz5 (jz5 zq83 (fz5 ho85) hb);have n3_:=zz5 (jz5 zq84 (fz5 ho85) hb);have n4_:=zz5 (jz5 zq69 (fz5 ho85) hb);have n5_:=zz5 (jz5 zq70 (fz5 ho85) hb);have n6_:=zz5 (Kd.R_lower (kz5 (kz5 (kz5 (kz5 (kz5 (kz5 ho85 (Kd.R_lt zq81)) (Kd.R_lt zq82)) (Kd.R_lt zq83)) (Kd.R_lt zq84)) (Kd.R_lt zq69)) (Kd.R_lt zq70)) (below_size zq12));have n7_:=zz5 (hy5 (g:=gb559) (o:=.cells #[.int .i64 t555,.slice Ao17 t556.length co17] 42 (0,0)) zq34 hb);have n8_:=zz5 (hy5 (g:=gb576) (o:=.cells #[.int .i64 t572,.slice Ao27 t573.length co27] 42 (0,0)) zq61 hb);have n9_:=zz5 (below_step zq12 hb);clear HO_3;clear HO_4;clear HO_5;clear HO_6;clear HO_560001;clear HO_577001;clear BK559;clear BK576;clear HB;have HO_3:=n0_;have HO_4:=n1_;have HO_5:=n2_;have HO_6:=n3_;have HO_560001:=n4_;have HO_577001:=n5_;have HO602:=n6_;have BK559:=n7_;have BK576:=n8_;have HB:=n9_;clear n0_ n1_ n2_ n3_ n4_ n5_ n6_ n7_ n8_ n9_;clear hb ho85;have hnb86:=NB559_576.out;have hnc86:=NB576_559.out;have hcz87_0:w84.cell? ⟨gb559,0,none⟩=some (.int .i64 t555):=(blk_cell BK559.out 0).trans rfl;have hcz87_1:w84.cell? ⟨gb559,1,none⟩=some (.slice Ao17 t556.length co17):=(blk_cell BK559.out 1).trans rfl;have hfz87_0:=blk_frozen BK559.out 0;have hfz87_1:=blk_frozen BK559.out 1)|((with_reducible refine gate_builtin (b:=.append) (xs:=#[.tmp 109,.tmp 111]) rfl ?_);at_builtin;refine Kd.R_append_rows (Kd.int .u8) (w0:=w) w.heap.size rfl (.tmp 109) (.tmp 111) 22 5 (.int .u8 0) 1 rfl Try.underlying22 info5 rfl zq22 zq9 v601 y600 t556 _ _ _ (fun k_=>some k_≠(.slice Ao10 t543.length co10:Value).ownBlock∧some k_≠(.slice Ao11 t544.length co11:Value).ownBlock∧some k_≠(.slice Ao12 t545.length co12:Value).ownBlock∧some k_≠(.slice Ao13 t546.length co13:Value).ownBlock∧some k_≠(.slice Ao17 t556.length co17:Value).ownBlock∧some k_≠(.slice Ao27 t573.length co27:Value).ownBlock) (fun _=>False) rfl rfl ?aO ?aR (fun _ _ h=>h) (fun _ h=>h.elim) ?aF ?aB ?aS ?aL ?_;(case aR=>repeat (first|exact(iz5 HO_560001.out).2.2|(with_reducible refine Kd.C_alloc ?_ _)|(with_reducible refine Kd.C_drewN ?_ _)|(with_reducible refine Kd.C_drew ?_)));(case aB=>exact zq12);(case aF=>exact(fun k_ hk=>⟨Kd.fresh' (Kd.R_lt zq81) k_ hk,Kd.fresh' (Kd.R_lt zq82) k_ hk,Kd.fresh' (Kd.R_lt zq83) k_ hk,Kd.fresh' (Kd.R_lt zq84) k_ hk,Kd.fresh' (Kd.R_lt zq69) k_ hk,Kd.fresh' (Kd.R_lt zq70) k_ hk⟩));(case aO=>exact(by(with_reducible repeat (first|apply az5|apply bz5|apply cz5));exact gz5 HO602.out (fun _ hk=>⟨hk.1.1.1.1.1.2,⟨hk.1.1.1.1.2,⟨hk.1.1.1.2,⟨hk.1.1.2,⟨hk.1.2,hk.2⟩⟩⟩⟩⟩)));(case aS=>exact(below_size zq12));(case aL=>have:=LMc71.out;omega);intro v604 w88 ho hb hg hat;rw[← Ny603.out] at ho;have n0_:=zz5 (Kd.R_after (ok:=(fun k_=>some k_≠(.slice Ao11 t544.length co11:Value).ownBlock∧some k_≠(.slice Ao12 t545.length co12:Value).ownBlock∧some k_≠(.slice Ao13 t546.length co13:Value).ownBlock∧some k_≠(.slice Ao17 t556.length co17:Value).ownBlock∧some k_≠(.slice Ao27 t573.length co27:Value).ownBlock)) zq81 hg hat);have n1_:=zz5 (Kd.R_after (ok:=(fun k_=>some k_≠(.slice Ao10 t543.length co10:Value).ownBlock∧some k_≠(.slice Ao12 t545.length co12:Value).ownBlock∧some k_≠(.slice Ao13 t546.length co13:Value).ownBlock∧some k_≠(.slice Ao17 t556.length co17:Value).ownBlock∧some k_≠(.slice Ao27 t573.length co27:Value).ownBlock)) zq82 hg hat);have n2_:=zz5 (Kd.R_after (ok:=(fun k_=>some k_≠(.slice Ao10 t543.length co10:Value).ownBlock∧some k_≠(.slice Ao11 t544.length co11:Value).ownBlock∧some k_≠(.slice Ao13 t546.length co13:Value).ownBlock∧some k_≠(.slice Ao17 t556.length co17:Value).ownBlock∧some k_≠(.slice Ao27 t573.length co27:Value).ownBlock)) zq83 hg hat);have n3_:=zz5 (Kd.R_after (ok:=(fun k_=>some k_≠(.slice Ao10 t543.length co10:Value).ownBlock∧some k_≠(.slice Ao11 t544.length co11:Value).ownBlock∧some k_≠(.slice Ao12 t545.length co12:Value).ownBlock∧some k_≠(.slice Ao17 t556.length co17:Value).ownBlock∧some k_≠(.slice Ao27 t573.length co27:Value).ownBlock)) zq84 hg hat);have n4_:=zz5 (Kd.R_after (ok:=(fun k_=>some k_≠(.slice Ao10 t543.length co10:Value).ownBlock∧some k_≠(.slice Ao11 t544.length co11:Value).ownBlock∧some k_≠(.slice Ao12 t545.length co12:Value).ownBlock∧some k_≠(.slice Ao13 t546.length co13:Value).ownBlock∧some k_≠(.slice Ao27 t573.length co27:Value).ownBlock)) zq69 hg hat);have n5_:=zz5 (Kd.R_after (ok:=(fun k_=>some k_≠(.slice Ao10 t543.length co10:Value).ownBlock∧some k_≠(.slice Ao11 t544.length co11:Value).ownBlock∧some k_≠(.slice Ao12 t545.length co12:Value).ownBlock∧some k_≠(.slice Ao13 t546.length co13:Value).ownBlock∧some k_≠(.slice Ao17 t556.length co17:Value).ownBlock)) zq70 hg hat);have n6_:=zz5 (blk_grown (g:=gb559) (o:=.cells #[.int .i64 t555,.slice Ao17 t556.length co17] 42 (0,0)) zq34 hg (Kd.R_ne HO602.out BK559.out zq22));have n7_:=zz5 (blk_grown (g:=gb576) (o:=.cells #[.int .i64 t572,.slice Ao27 t573.length co27] 42 (0,0)) zq61 hg (Kd.R_ne HO602.out BK576.out zq22));have n8_:=zz5 (hb);have n9_:=zz5 (ho);clear HO_3;clear HO_4;clear HO_5;clear HO_6;clear HO_560001;clear HO_577001;clear BK559;clear BK576;clear HB;clear HO602;have HO_3:=n0_;have HO_4:=n1_;have HO_5:=n2_;have HO_6:=n3_;have HO_560001:=n4_;have HO_577001:=n5_;have BK559:=n6_;have BK576:=n7_;have HB:=n8_;have HO605:=n9_;clear n0_ n1_ n2_ n3_ n4_ n5_ n6_ n7_ n8_ n9_;clear ho hb hg hat))
                 have n0_:=zz5 (cz5 HO_3.out)
                 have n1_:=zz5 (cz5 HO_4.out)
                 have n2_:=zz5 (cz5 HO_5.out)
                 have n3_:=zz5 (cz5 HO_6.out)
                 have n4_:=zz5 (cz5 HO_560001.out)
                 have n5_:=zz5 (cz5 HO_577001.out)
                 have n6_:=zz5 (cz5 HO605.out)
                 have n7_:=zz5 (gy5 BK559.out)
                 have n8_:=zz5 (gy5 BK576.out)
                 have n9_:=zz5 (cy5 HB.out)
                 clear HO_3
                 clear HO_4
                 clear HO_5
                 clear HO_6
                 clear HO_560001
                 clear HO_577001
                 clear HO605
                 clear BK559
                 clear BK576
                 clear HB
                 have HO_3:=n0_
                 have HO_4:=n1_
                 have HO_5:=n2_
                 have HO_6:=n3_
                 have HO_560001:=n4_
                 have HO_577001:=n5_
                 have HO605:=n6_
                 have BK559:=n7_
                 have BK576:=n8_
                 have HB:=n9_
                 clear n0_ n1_ n2_ n3_ n4_ n5_ n6_ n7_ n8_ n9_
                 obtain⟨Ao90,co90,eo90⟩:=Kd.R_slice HO605.out
                 (first|subst eo90|(injection eo90 with f1_ f2_ f3_;have f4_:=f1_.symm;have f5_:=f3_.symm;clear f1_ f2_ f3_;subst f4_;subst f5_))
                 have p607:0≤((ji73):Int):=of_decide_eq_true zq202
                 have q607:(ji73) < (y603.length:Int):=of_decide_eq_true zq202
                 obtain⟨ad607,e607,hx607_0⟩:=Kd.at_int (iz5 HO605.out).2.2 (ji73) p607 q607
                 cases e607
                 replace p607:=eq_true p607
                 replace q607:=eq_true q607
                 refine start_ (n:=16) (S:=fun w'=>w'.cell? (ad607.add ((ji73)).toNat)=some (.int .u8 (rd y603 (ji73)))) (ds:=[15]) #[Z,Z,Z,Z,Z,Z,Z,Z,Z,Z,Z,Z,Z,Z,Z,Z] (by kernel_rfl) rfl rfl (hx607_0) (fun hHeld=>?_);refine with_tabW laws_FnSeals.tab16 laws_FnSeals.bits16 (fun HT_ HW_=>?_)
                 generalize w88.drew=w89 at HO_3 HO_4 HO_5 HO_6 HO_560001 HO_577001 HO605 BK559 BK576 HB hx607_0 hHeld ⊢
                 refine pure_ (i:=0) (N:=some 113) (v:=?_) (a':=?_) #[Y,Z,Z,Z,Z,Z,Z,Z,Z,Z,Z,Z,Z,Z,Z,Z] rfl rfl (any_of HT_.out (by kernel_rfl)) (fun _ _ _ h=>h) (Or.inl ⟨zq138,?_⟩) ?_ ?_
                 rotate_left
                 ·intro w';go_simp;with_reducible rfl
                 rotate_left
                 ·simp only[Act.put,sa_,sb_,sc_,i64_w];rfl
                 refine pure_ (i:=1) (N:=some 114) (v:=?_) (a':=?_) #[Y,Y,Z,Z,Z,Z,Z,Z,Z,Z,Z,Z,Z,Z,Z,Z] rfl rfl (any_of HT_.out (by kernel_rfl)) (fun _ _ _ h=>h) (Or.inl ⟨zq138,?_⟩) ?_ ?_
                 rotate_left
                 ·intro w';go_simp;with_reducible rfl
                 rotate_left
                 ·simp only[Act.put,sa_,sb_,sc_,i64_w];rfl
                 refine pure_ (i:=2) (N:=some 115) (v:=?_) (a':=?_) #[Y,Y,Y,Z,Z,Z,Z,Z,Z,Z,Z,Z,Z,Z,Z,Z] rfl rfl (any_of HT_.out (by kernel_rfl)) (fun _ _ _ h=>h) (Or.inl ⟨zq138,?_⟩) ?_ ?_
                 rotate_left
                 ·intro w';go_simp;with_reducible rfl
                 rotate_left
                 ·simp only[Act.put,sa_,sb_,sc_,i64_w];rfl
                 refine pure_ (i:=3) (N:=some 116) (v:=?_) (a':=?_) #[Y,Y,Y,Y,Z,Z,Z,Z,Z,Z,Z,Z,Z,Z,Z,Z] rfl rfl (any_of HT_.out (by kernel_rfl)) (fun _ _ _ h=>h) (Or.inl ⟨zq138,?_⟩) ?_ ?_
                 rotate_left
                 ·intro w';go_simp;with_reducible rfl
                 rotate_left
                 ·simp only[Act.put,sa_,sb_,sc_,i64_w];rfl
                 refine pure_ (i:=4) (N:=some 117) (v:=?_) (a':=?_) #[Y,Y,Y,Y,Y,Z,Z,Z,Z,Z,Z,Z,Z,Z,Z,Z] rfl rfl (any_of HT_.out (by kernel_rfl)) (fun _ _ _ h=>h) (Or.inl ⟨zq138,?_⟩) ?_ ?_
                 rotate_left
                 ·intro w';go_simp;with_reducible rfl
                 rotate_left
                 ·simp only[Act.put,sa_,sb_,sc_,i64_w];rfl
                 refine pure_ (i:=9) (N:=some 122) (v:=?_) (a':=?_) #[Y,Y,Y,Y,Y,Z,Z,Z,Z,Y,Z,Z,Z,Z,Z,Z] rfl rfl (any_of HT_.out (by kernel_rfl)) (fun _ _ _ h=>h) (Or.inl ⟨zq138,?_⟩) ?_ ?_
                 rotate_left
                 ·intro w';go_simp;with_reducible rfl
                 rotate_left
                 ·simp only[Act.put,sa_,sb_,sc_,i64_w];rfl
                 refine one_ (i:=5) (N:=some 118) #[Y,Y,Y,Y,Y,Y,Z,Z,Z,Y,Z,Z,Z,Z,Z,Z] rfl rfl (one_of HT_.out (by kernel_rfl)) zq22 (fun K hK=>?_)
                 refine goes_ Try.func28 (by kernel_rfl) rfl #[.slice A0 l0.length c0,.int .i64 2,.int .i64 16] zq138 rfl rfl zq20 ?_
                 with_reducible refine(laws_lwAt.calls _ _ l0 2 16 t606 _ ?side1 ?side2 A72.out).mono ?_
                 (case side1=>repeat (first|exact(Kd.C_below HR0.out HB.out)|(with_reducible refine Kd.C_alloc ?_ _)|(with_reducible refine Kd.C_drewN ?_ _)|(with_reducible refine Kd.C_drew ?_)))
                 (case side2=>exact HC0.out)
                 rintro e w' ⟨rfl,⟨nd,rfl⟩⟩
                 refine⟨_,rfl,?_⟩
                 refine hK.out _ _ (hHeld) (fun hHeld=>?_)
                 clear hK K
                 refine norm_ (a':=?_) ?_ ?_
                 rotate_left
                 ·show Act.put _ (some 118) _=_
                  simp only[Act.put,sa_,sb_,sc_,i64_w]
                  rfl
                 refine pure_ (i:=6) (N:=some 119) (v:=?_) (a':=?_) #[Y,Y,Y,Y,Y,Y,Y,Z,Z,Y,Z,Z,Z,Z,Z,Z] rfl rfl (any_of HT_.out (by kernel_rfl)) (fun _ _ _ h=>h) (Or.inl ⟨zq138,?_⟩) ?_ ?_
                 rotate_left
                 ·intro w';go_simp;with_reducible rfl
                 rotate_left
                 ·simp only[Act.put,sa_,sb_,sc_,i64_w];rfl
                 refine pure_ (i:=7) (N:=some 120) (v:=?_) (a':=?_) #[Y,Y,Y,Y,Y,Y,Y,Y,Z,Y,Z,Z,Z,Z,Z,Z] rfl rfl (any_of HT_.out (by kernel_rfl)) (fun _ _ _ h=>h) (Or.inl ⟨zq138,?_⟩) ?_ ?_
                 rotate_left
                 ·intro w';go_simp;with_reducible rfl
                 rotate_left
                 ·simp only[Act.put,sa_,sb_,sc_,i64_w];rfl
                 refine take_ (i:=8) (N:=some 121) (v:=?_) (a':=?_) #[Y,Y,Y,Y,Y,Y,Y,Y,Y,Y,Z,Z,Z,Z,Z,Z] rfl rfl (take_ofW HT_.out HW_.out (by kernel_rfl)) (fun _ _ _ h=>h) (Or.inl ⟨zq138,?_⟩) hHeld ?_ ?_
                 rotate_left
                 ·intro w' s0
                  go_simp
                  with_reducible rfl
                 rotate_left
                 ·simp only[Act.put,sa_,sb_,sc_,i64_w];rfl
                 refine one_ (i:=10) (N:=some 123) #[Y,Y,Y,Y,Y,Y,Y,Y,Y,Y,Y,Z,Z,Z,Z,Z] rfl rfl (one_of HT_.out (by kernel_rfl)) zq22 (fun K hK=>?_)
                 refine goes_ Try.func28 (by kernel_rfl) rfl #[.slice A0 l0.length c0,.int .i64 3,.int .i64 255] zq138 rfl rfl zq20 ?_
                 with_reducible refine(laws_lwAt.calls _ _ l0 3 255 t608 _ ?side1 ?side2 A76.out).mono ?_
                 (case side1=>repeat (first|exact(Kd.C_below HR0.out zq12)|(with_reducible refine Kd.C_alloc ?_ _)|(with_reducible refine Kd.C_drewN ?_ _)|(with_reducible refine Kd.C_drew ?_)))
                 (case side2=>exact HC0.out)
                 rintro e w' ⟨rfl,⟨nd,rfl⟩⟩
                 refine⟨_,rfl,?_⟩
                 have p77:0≤((ji73):Int):=of_decide_eq_true zq202
                 have q77:((ji73):Int) < ((y603.length:Int):Int):=of_decide_eq_true zq202
                 obtain⟨go77,co77,eo77,gb77,gl77,cl77,HG77⟩:=Kd.R_form HO605.out zq9
                 (first|cases eo77|(injection eo77 with ea_ en_ ec_;(first|subst ea_|(injection ea_ with ea_;subst ea_));subst ec_;clear en_))
                 have GB77:=zz5 gb77
                 have GG77:=zz5 HG77
                 clear gb77 gl77 HG77
                 (first|simp only[add_plain] at hx607_0|skip)
                 obtain⟨hx77_0,hf77_0⟩:=Kd.R_celln 0 HO605.out ((ji73):Int) p77 q77
                 replace p77:=eq_true p77
                 replace q77:=eq_true q77
                 have HP91:=Kd.R_putn HO605.out ((ji73):Int) (Go.bits .xor .u8 (rd y603 (ji73)) ((wrap64 (1+t608)) % 256))
                 rw[← Ny609.out] at HP91
                 have HQ91:=zz5 HP91
                 clear HP91
                 refine hK.out _ _ (hHeld) (fun hHeld=>?_)
                 clear hK K
                 refine norm_ (a':=?_) ?_ ?_
                 rotate_left
                 ·show Act.put _ (some 123) _=_
                  simp only[Act.put,sa_,sb_,sc_,i64_w]
                  rfl
                 refine pure_ (i:=11) (N:=some 124) (v:=?_) (a':=?_) #[Y,Y,Y,Y,Y,Y,Y,Y,Y,Y,Y,Y,Z,Z,Z,Z] rfl rfl (any_of HT_.out (by kernel_rfl)) (fun _ _ _ h=>h) (Or.inl ⟨zq138,?_⟩) ?_ ?_
                 rotate_left
                 ·intro w';go_simp;with_reducible rfl
                 rotate_left
                 ·simp only[Act.put,sa_,sb_,sc_,i64_w];rfl
                 refine pure_ (i:=12) (N:=some 125) (v:=?_) (a':=?_) #[Y,Y,Y,Y,Y,Y,Y,Y,Y,Y,Y,Y,Y,Z,Z,Z] rfl rfl (any_of HT_.out (by kernel_rfl)) (fun _ _ _ h=>h) (Or.inl ⟨zq138,?_⟩) ?_ ?_
                 rotate_left
                 ·intro w';go_simp;with_reducible rfl
                 rotate_left
                 ·simp only[Act.put,sa_,sb_,sc_,i64_w];rfl
                 refine pure_ (i:=13) (N:=some 126) (v:=?_) (a':=?_) #[Y,Y,Y,Y,Y,Y,Y,Y,Y,Y,Y,Y,Y,Y,Z,Z] rfl rfl (any_of HT_.out (by kernel_rfl)) (fun _ _ _ h=>h) (Or.inl ⟨zq138,?_⟩) ?_ ?_
                 rotate_left
                 ·intro w';go_simp;with_reducible rfl
                 rotate_left
                 ·simp only[Act.put,sa_,sb_,sc_,i64_w];rfl
                 refine pure_ (i:=14) (N:=some 127) (v:=?_) (a':=?_) #[Y,Y,Y,Y,Y,Y,Y,Y,Y,Y,Y,Y,Y,Y,Y,Z] rfl rfl (any_of HT_.out (by kernel_rfl)) (fun _ _ _ h=>h) (Or.inl ⟨zq138,?_⟩) ?_ ?_
                 rotate_left
                 ·intro w';go_simp;with_reducible rfl
                 rotate_left
                 ·simp only[Act.put,sa_,sb_,sc_,i64_w];rfl
                 refine last_ (i:=15) (N:=none) #[Y,Y,Y,Y,Y,Y,Y,Y,Y,Y,Y,Y,Y,Y,Y,Y] rfl rfl (one_of HT_.out (by kernel_rfl)) zq22 (fun K hK=>?_)
                 refine skip_ (w1:=?_) zq138 rfl ?_ ?_
                 rotate_left
                 ·go_simp
                  rfl
                 refine hK.out _ _ ?_
                 clear hK K
                 refine done_ (done_of HT_.out (by kernel_rfl)) ?_
                 have hcz92_0:w89.cell? ⟨gb559,0,none⟩=some (.int .i64 t555):=(blk_cell BK559.out 0).trans rfl
                 have hcz92_1:w89.cell? ⟨gb559,1,none⟩=some (.slice Ao17 t556.length co17):=(blk_cell BK559.out 1).trans rfl
                 have hfz92_0:=blk_frozen BK559.out 0
                 have hfz92_1:=blk_frozen BK559.out 1
                 have hnz1:gb559≠go77:=fun e_=>Kd.R_ne HO605.out BK559.out zq22 (by rw[e_];rfl)
                 have hnz2:go77≠gb559:=fun e_=>hnz1 e_.symm
                 try go_wp2_with (first|((with_reducible refine gate_callee (f:=25) rfl ?_);refine goesL_ (some 133) rfl rfl Try.func25 (by kernel_rfl) rfl #[.slice Ao10 t543.length co10,.slice Ao11 t544.length co11,.slice Ao12 t545.length co12,.slice Ao17 t556.length co17] rfl zq20 ?_;(with_reducible refine(impl_OpenText.calls _ _ t543 _ _ t544 _ _ t545 _ _ t556 t610 t611 _ ?side1 ?side2 ?side3 ?side4 ?side5 ?side6 ?side7 ?side8 A78.out).mono ?_);(case side1=>refine(iz5 (e:=5) (base:=w.heap.size) (ok:=fun k_=>((some k_≠(.slice Ao11 t544.length co11:Value).ownBlock∧(some k_≠(.slice Ao12 t545.length co12:Value).ownBlock∧(some k_≠(.slice Ao13 t546.length co13:Value).ownBlock∧(some k_≠(.slice Ao17 t556.length co17:Value).ownBlock∧some k_≠(.slice Ao27 t573.length co27:Value).ownBlock))))∧some k_≠(.slice (some ⟨go77,0,none⟩) y603.length co90:Value).ownBlock)) (n:=t543.length) (c:=co10) ?_).2.2;exact zq105);(case side2=>exact(iz5 HO_3.out).2.1);(case side3=>refine(iz5 (e:=5) (base:=w.heap.size) (ok:=fun k_=>((some k_≠(.slice Ao10 t543.length co10:Value).ownBlock∧(some k_≠(.slice Ao12 t545.length co12:Value).ownBlock∧(some k_≠(.slice Ao13 t546.length co13:Value).ownBlock∧(some k_≠(.slice Ao17 t556.length co17:Value).ownBlock∧some k_≠(.slice Ao27 t573.length co27:Value).ownBlock))))∧some k_≠(.slice (some ⟨go77,0,none⟩) y603.length co90:Value).ownBlock)) (n:=t544.length) (c:=co11) ?_).2.2;exact zq106);(case side4=>exact(iz5 HO_4.out).2.1);(case side5=>refine(iz5 (e:=5) (base:=w.heap.size) (ok:=fun k_=>((some k_≠(.slice Ao10 t543.length co10:Value).ownBlock∧(some k_≠(.slice Ao11 t544.length co11:Value).ownBlock∧(some k_≠(.slice Ao13 t546.length co13:Value).ownBlock∧(some k_≠(.slice Ao17 t556.length co17:Value).ownBlock∧some k_≠(.slice Ao27 t573.length co27:Value).ownBlock))))∧some k_≠(.slice (some ⟨go77,0,none⟩) y603.length co90:Value).ownBlock)) (n:=t545.length) (c:=co12) ?_).2.2;exact zq107);(case side6=>exact(iz5 HO_5.out).2.1);(case side7=>refine(iz5 (e:=5) (base:=w.heap.size) (ok:=fun k_=>((some k_≠(.slice Ao10 t543.length co10:Value).ownBlock∧(some k_≠(.slice Ao11 t544.length co11:Value).ownBlock∧(some k_≠(.slice Ao12 t545.length co12:Value).ownBlock∧(some k_≠(.slice Ao13 t546.length co13:Value).ownBlock∧some k_≠(.slice Ao27 t573.length co27:Value).ownBlock))))∧some k_≠(.slice (some ⟨go77,0,none⟩) y603.length co90:Value).ownBlock)) (n:=t556.length) (c:=co17) ?_).2.2;exact zq104);(case side8=>exact(iz5 HO_560001.out).2.1);rintro e w93 ⟨v612,rfl,ho0,hb⟩;refine⟨_,rfl,?_⟩;have n0_:=zz5 (jz5 zq105 (fz5 ho0) hb);have n1_:=zz5 (jz5 zq106 (fz5 ho0) hb);have n2_:=zz5 (jz5 zq107 (fz5 ho0) hb);have n3_:=zz5 (jz5 zq157 (fz5 ho0) hb);have n4_:=zz5 (jz5 zq104 (fz5 ho0) hb);have n5_:=zz5 (jz5 zq156 (fz5 ho0) hb);have n6_:=zz5 (jz5 (by(with_reducible repeat (first|apply az5|apply bz5|apply cz5));exact HQ91.out) (fz5 ho0) hb);have n7_:=zz5 (Kd.R_lower (kz5 (kz5 (kz5 (kz5 (kz5 (kz5 (kz5 ho0 (Kd.R_lt zq105)) (Kd.R_lt zq106)) (Kd.R_lt zq107)) (Kd.R_lt zq157)) (Kd.R_lt zq104)) (Kd.R_lt zq156)) (Kd.R_lt (by(with_reducible repeat (first|apply az5|apply bz5|apply cz5));exact HQ91.out))) (below_size zq188));have n8_:=zz5 (hy5 (g:=gb559) (o:=.cells #[.int .i64 t555,.slice Ao17 t556.length co17] 42 (0,0)) (by(with_reducible repeat (first|refine ey5 ?_ _|refine gy5 ?_|refine fy5 ?_ _));refine blk_far ?_ (by have h_:=Kd.R_ne HO605.out BK559.out zq22;intro e_;exact h_ (by rw[e_];rfl)) _;(with_reducible repeat (first|refine ey5 ?_ _|refine gy5 ?_|refine fy5 ?_ _));exact BK559.out) hb);have n9_:=zz5 (hy5 (g:=gb576) (o:=.cells #[.int .i64 t572,.slice Ao27 t573.length co27] 42 (0,0)) (by(with_reducible repeat (first|refine ey5 ?_ _|refine gy5 ?_|refine fy5 ?_ _));refine blk_far ?_ (by have h_:=Kd.R_ne HO605.out BK576.out zq22;intro e_;exact h_ (by rw[e_];rfl)) _;(with_reducible repeat (first|refine ey5 ?_ _|refine gy5 ?_|refine fy5 ?_ _));exact BK576.out) hb);have n10_:=zz5 (below_step zq188 hb);clear HO_3;clear HO_4;clear HO_5;clear HO_6;clear HO_560001;clear HO_577001;clear HO605;clear BK559;clear BK576;clear HB;have HO_3:=n0_;have HO_4:=n1_;have HO_5:=n2_;have HO_6:=n3_;have HO_560001:=n4_;have HO_577001:=n5_;have HO605:=n6_;have HO613:=n7_;have BK559:=n8_;have BK576:=n9_;have HB:=n10_;clear n0_ n1_ n2_ n3_ n4_ n5_ n6_ n7_ n8_ n9_ n10_;(try clear hb);(try clear hb2);(try clear hk);(try clear hi);(try clear ho0);obtain⟨Ao94,co94,eo94⟩:=Kd.R_slice HO613.out;subst eo94)|((with_reducible refine gate_callee (f:=13) rfl ?_);refine goesL_ (some 136) rfl rfl Try.func13 (by kernel_rfl) rfl #[.slice Ao94 t611.length co94,.slice Ao13 t546.length co13] rfl zq20 ?_;(with_reducible refine(laws_lwSame.calls _ _ t611 _ _ t546 true _ ?side1 ?side2 ?side3 ?side4 A79.out).mono ?_);(case side1=>repeat (first|exact(iz5 HO613.out).2.2|(with_reducible refine Kd.C_alloc ?_ _)|(with_reducible refine Kd.C_drewN ?_ _)|(with_reducible refine Kd.C_drew ?_)));(case side2=>exact(iz5 HO613.out).2.1);(case side3=>repeat (first|exact(iz5 HO_6.out).2.2|(with_reducible refine Kd.C_alloc ?_ _)|(with_reducible refine Kd.C_drewN ?_ _)|(with_reducible refine Kd.C_drew ?_)));(case side4=>exact(iz5 HO_6.out).2.1);rintro e w' ⟨rfl,⟨nd,rfl⟩⟩;refine⟨_,rfl,?_⟩;have hcz95_0:w93.cell? ⟨gb559,0,none⟩=some (.int .i64 t555):=(blk_cell BK559.out 0).trans rfl;have hcz95_1:w93.cell? ⟨gb559,1,none⟩=some (.slice Ao17 t556.length co17):=(blk_cell BK559.out 1).trans rfl;have hfz95_0:=blk_frozen BK559.out 0;have hfz95_1:=blk_frozen BK559.out 1)|(go_at_call 25;(with_reducible refine(impl_OpenText.calls _ _ t543 _ _ t544 _ _ t545 _ _ t556 t615 t616 _ ?side1 ?side2 ?side3 ?side4 ?side5 ?side6 ?side7 ?side8 A81.out).mono ?_);(case side1=>exact zq170);(case side2=>exact(iz5 HO_3.out).2.1);(case side3=>exact zq171);(case side4=>exact(iz5 HO_4.out).2.1);(case side5=>exact zq172);(case side6=>exact(iz5 HO_5.out).2.1);(case side7=>repeat (first|exact(iz5 HO_560001.out).2.2|(with_reducible refine Kd.C_alloc ?_ _)|(with_reducible refine Kd.C_drewN ?_ _)|(with_reducible refine Kd.C_drew ?_)));(case side8=>exact(iz5 HO_560001.out).2.1);rintro e w96 ⟨v617,rfl,ho0,hb⟩;have n0_:=zz5 (jz5 zq81 (fz5 ho0) hb);have n1_:=zz5 (jz5 zq82 (fz5 ho0) hb);have n2_:=zz5 (jz5 zq83 (fz5 ho0) hb);have n3_:=zz5 (jz5 zq84 (fz5 ho0) hb);have n4_:=zz5 (jz5 zq69 (fz5 ho0) hb);have n5_:=zz5 (jz5 zq70 (fz5 ho0) hb);have n6_:=zz5 (jz5 zq178 (fz5 ho0) hb);have n7_:=zz5 (jz5 zq179 (fz5 ho0) hb);have n8_:=zz5 (Kd.R_lower (kz5 (kz5 (kz5 (kz5 (kz5 (kz5 (kz5 (kz5 ho0 (Kd.R_lt zq81)) (Kd.R_lt zq82)) (Kd.R_lt zq83)) (Kd.R_lt zq84)) (Kd.R_lt zq69)) (Kd.R_lt zq70)) (Kd.R_lt zq178)) (Kd.R_lt zq179)) (below_size zq12));have n9_:=zz5 (hy5 (g:=gb559) (o:=.cells #[.int .i64 t555,.slice Ao17 t556.length co17] 42 (0,0)) zq34 hb);have n10_:=zz5 (hy5 (g:=gb576) (o:=.cells #[.int .i64 t572,.slice Ao27 t573.length co27] 42 (0,0)) zq61 hb);have n11_:=zz5 (below_step zq12 hb);clear HO_3;clear HO_4;clear HO_5;clear HO_6;clear HO_560001;clear HO_577001;clear HO605;clear HO613;clear BK559;clear BK576;clear HB;have HO_3:=n0_;have HO_4:=n1_;have HO_5:=n2_;have HO_6:=n3_;have HO_560001:=n4_;have HO_577001:=n5_;have HO605:=n6_;have HO613:=n7_;have HO618:=n8_;have BK559:=n9_;have BK576:=n10_;have HB:=n11_;clear n0_ n1_ n2_ n3_ n4_ n5_ n6_ n7_ n8_ n9_ n10_ n11_;(try clear hb);(try clear hb2);(try clear hk);(try clear hi);(try clear ho0))|(go_at_call 25;refine calls_of_args (args':=#[.slice Ao10 t543.length co10,.slice Ao11 t544.length co11,.slice Ao12 t545.length co12,.slice (some ⟨go77,0,none⟩) y609.length co90]) (by first|(rw[show y609.length=y603.length from (iz5 HO605.out).1.symm] <;> rfl)|rfl) ?_;(with_reducible refine(impl_OpenText.calls _ _ t543 _ _ t544 _ _ t545 _ _ y609 t619 t620 _ ?side1 ?side2 ?side3 ?side4 ?side5 ?side6 ?side7 ?side8 A83.out).mono ?_);(case side1=>exact zq170);(case side2=>exact(iz5 HO_3.out).2.1);(case side3=>exact zq171);(case side4=>exact(iz5 HO_4.out).2.1);(case side5=>exact zq172);(case side6=>exact(iz5 HO_5.out).2.1);(case side7=>repeat (first|exact(iz5 HO605.out).2.2|(with_reducible refine Kd.C_alloc ?_ _)|(with_reducible refine Kd.C_drewN ?_ _)|(with_reducible refine Kd.C_drew ?_)));(case side8=>rw[show y609.length=y603.length from (iz5 HO605.out).1.symm];exact(iz5 HO605.out).2.1);rintro e w97 ⟨v621,rfl,ho0,hb⟩;have n0_:=zz5 (jz5 zq81 (fz5 ho0) hb);have n1_:=zz5 (jz5 zq82 (fz5 ho0) hb);have n2_:=zz5 (jz5 zq83 (fz5 ho0) hb);have n3_:=zz5 (jz5 zq84 (fz5 ho0) hb);have n4_:=zz5 (jz5 zq69 (fz5 ho0) hb);have n5_:=zz5 (jz5 zq70 (fz5 ho0) hb);have n6_:=zz5 (jz5 zq178 (fz5 ho0) hb);have n7_:=zz5 (jz5 zq179 (fz5 ho0) hb);have n8_:=zz5 (jz5 (by(with_reducible repeat (first|apply az5|apply bz5|apply cz5));exact HO618.out) (fz5 ho0) hb);have n9_:=zz5 (Kd.R_lower (kz5 (kz5 (kz5 (kz5 (kz5 (kz5 (kz5 (kz5 (kz5 ho0 (Kd.R_lt zq81)) (Kd.R_lt zq82)) (Kd.R_lt zq83)) (Kd.R_lt zq84)) (Kd.R_lt zq69)) (Kd.R_lt zq70)) (Kd.R_lt zq178)) (Kd.R_lt zq179)) (Kd.R_lt (by(with_reducible repeat (first|apply az5|apply bz5|apply cz5));exact HO618.out))) (below_size zq12));have n10_:=zz5 (hy5 (g:=gb559) (o:=.cells #[.int .i64 t555,.slice Ao17 t556.length co17] 42 (0,0)) zq34 hb);have n11_:=zz5 (hy5 (g:=gb576) (o:=.cells #[.int .i64 t572,.slice Ao27 t573.length co27] 42 (0,0)) zq61 hb);have n12_:=zz5 (below_step zq12 hb);clear HO_3;clear HO_4;clear HO_5;clear HO_6;clear HO_560001;clear HO_577001;clear HO605;clear HO613;clear HO618;clear BK559;clear BK576;clear HB;have HO_3:=n0_;have HO_4:=n1_;have HO_5:=n2_;have HO_6:=n3_;have HO_560001:=n4_;have HO_577001:=n5_;have HO605:=n6_;have HO613:=n7_;have HO618:=n8_;have HO622:=n9_;have BK559:=n10_;have BK576:=n11_;have HB:=n12_;clear n0_ n1_ n2_ n3_ n4_ n5_ n6_ n7_ n8_ n9_ n10_ n11_ n12_;(try clear hb);(try clear hb2);(try clear hk);(try clear hi);(try clear ho0)))
                 go_ret
                 exact⟨by first|rfl|(simp[errW_none,errW_some] <;> rfl)|(simp only[← hji73];first|rfl|(simp[errW_none,errW_some] <;> rfl))|(simp[*,errW_none,errW_some] <;> rfl),by repeat (first|(with_reducible first|exact HB.out|apply by5|apply ay5|apply cy5|refine dy5 ?_ GE559.out|refine dy5 ?_ GE576.out)|exact HB.out)⟩
                ·rw[if_neg c82] at H
                 have c82b0:(t615 == 0)=false:=beq_eq_false_iff_ne.mpr c82
                 have c82b1:(t615 != 0)=true:=bne_iff_ne.mpr c82
                 exact absurd (Option.some.inj H) (by rw[HRT.out];decide)
               ·replace c80:=Bool.eq_false_iff.mpr c80
                subst c80
                have H1:(some false)=some r:=by rw[if_neg (show ¬ (false=true) by decide)] at H;exact H
                clear H
                have H:=H1
                clear H1
                exact absurd (Option.some.inj H) (by rw[HRT.out];decide)
              ·rw[if_neg c75] at H
               exact absurd H zq101
             ·rw[if_neg c74] at H
              exact absurd H zq101
            ·rw[if_neg c71] at H
             exact absurd H zq101
        ·rw[if_neg c59] at H
         have c59b0:(t555 == 0)=false:=beq_eq_false_iff_ne.mpr c59
         have c59b1:(t555 != 0)=true:=bne_iff_ne.mpr c59
         obtain rfl:=Option.some.inj H
         have hnb122:=NB559_576.out
         have hnc122:=NB576_559.out
         have hcz123_0:wc.cell? ⟨gb559,0,none⟩=some (.int .i64 t555):=(blk_cell BK559.out 0).trans rfl
         have hcz123_1:wc.cell? ⟨gb559,1,none⟩=some (.slice Ao17 t556.length co17):=(blk_cell BK559.out 1).trans rfl
         have hfz123_0:=blk_frozen BK559.out 0
         have hfz123_1:=blk_frozen BK559.out 1
         go_wp2
         go_ret
         exact⟨by first|rfl|(simp[errW_none,errW_some] <;> rfl)|(simp[*,errW_none,errW_some] <;> rfl),by repeat (first|(with_reducible first|exact HB.out|apply by5|apply ay5|apply cy5|refine dy5 ?_ GE559.out|refine dy5 ?_ GE576.out)|exact HB.out)⟩
end Go.Proofs.Ytkjgdndaepobiaa.All
