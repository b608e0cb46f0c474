-- Laid by wip/shake.py of this repo out of this claim's texts. Not trusted: Lean checks it.
import Derived.Test.YtmnhddedcbkpoaaAb0s
import Derived.Test.YtmnhddedcbkpoaaBytes
import Derived.Test.YtmnhddedcbkpoaaAllx6s
import Derived.Test.YtmnhddedcbkpoaaAllx23s
section
namespace Go.Proofs.Ytmnhddedcbkpoaa.All
open Go.Proofs.YtmnhddedcbkpoaaW.PrintWords.Aside0 renaming mk→zM
open Go.RowKit Go.Proofs.YtmnhddedcbkpoaaW.PrintWords Go.Proofs.YtmnhddedcbkpoaaW.PrintLast Go.Proofs.YtmnhddedcbkpoaaW.PrintMore
attribute [local go_sem] max2_int min2_int max_two min_two max_three min_three max_four min_four
set_option linter.unusedVariables false
set_option linter.unusedSimpArgs false
def spec_l1Source.f (l0:List Int):Option (List Int × Int):=some (l0,0)
set_option maxHeartbeats 8000000 in
set_option maxRecDepth 100000 in
theorem spec_l1Source.calls (A0:Option Addr) (c0:Nat) (l0:List Int) (r1:List Int) (r2:Int) (w0 w:World) (hB:Below w0.heap.size w0 w) (hr0:Kd.C (Kd.int .u8) w0 A0 l0.length l0) (hc0:l0.length≤c0) (h:spec_l1Source.f l0=some (r1,r2)) :
  Calls Try.prog 60 #[.slice A0 l0.length c0] w fun e w'=>∃ g_:Nat,e=.returned (.pointer (some ⟨g_,0,none⟩))∧IsS112 w0 w' g_ r1 r2∧Below w0.heap.size w0 w'∧Below w.heap.size w w':=by
 have hu112:=Try.underlying112
 have HR0:=zM hr0
 have HC0:=zM hc0
 clear hr0 hc0
 have HBW:=zM (Below.refl w.heap.size w)
 have HW0:=zM hB.size
 have HB:=zM hB
 clear hB
 have H:(some (l0,0))=some (r1,r2):=h
 clear h
 simp only[Option.some.injEq,Prod.mk.injEq] at H
 obtain⟨rfl,rfl⟩:=H
 go_enter Try.func60,Try.ntmps60
 go_wp2_with (first|((with_reducible refine gate_dst (N:=5) rfl ?_);refine box_event ?hg (N:=5) ?hd (cs:=#[.slice A0 l0.length c0,.int .i64 0]) (t:=112) ?hr ?_;(case hd=>rfl);(case hg=>rfl);(case hr=>first|(go_simp;done)|(go_simp;rfl));intro gb134 hg w2 hbox hb;have n0_:=zM (below_step HBW.out hb);have n1_:=zM (below_step zq0 hb);have n2_:=zM (hbox);have n3_:=zM ((by rw[hg];exact(below_size zq103):w.heap.size≤gb134));have n4_:=zM ((Nat.le_trans HW0.out (by rw[hg];exact(below_size zq103):w.heap.size≤gb134):w0.heap.size≤gb134));clear HBW;clear HB;have HBW:=n0_;have HB:=n1_;have BK134:=n2_;have GW134:=n3_;have GE134:=n4_;clear n0_ n1_ n2_ n3_ n4_;clear hb hbox hg))
 go_ret
 exact⟨_,rfl,(show IsS112 w0 _ gb134 l0 0 from ⟨_,_,by(with_reducible repeat (first|refine blk_drewN ?_ _|refine blk_drew ?_|refine blk_alloc ?_ _));exact BK134.out,GE134.out,HR0.out⟩),by repeat (first|(with_reducible first|exact HB.out|apply below_alloc|apply pw_below_drewN|apply below_drew1|refine below_set ?_ GE134.out)|exact HB.out),by repeat (first|(with_reducible first|exact HBW.out|apply below_alloc|apply pw_below_drewN|apply below_drew1|refine below_set ?_ GW134.out)|exact HBW.out)⟩
def impl_in.f (a0:Int) (a1:Int) (a2:Int):Option (Bool):=if a0 ≥ a1 then (some (decide (a0≤a2))) else (some false)
set_option maxHeartbeats 8000000 in
set_option maxRecDepth 100000 in
theorem impl_in.calls (a0:Int) (a1:Int) (a2:Int) (r:Bool) (w:World) (h:impl_in.f a0 a1 a2=some r) :
  Calls Try.prog 65 #[.int .i64 a0,.int .i64 a1,.int .i64 a2] w fun e w'=>e=.returned (.bool r)∧Drawn0 w w':=by
 have H:(if a0 ≥ a1 then (some (decide (a0≤a2))) else (some false))=some r:=h
 clear h
 by_cases c4:a0 ≥ a1
 ·rw[if_pos c4] at H
  have c4b0:decide (a1≤a0)=true:=decide_eq_true c4
  clear c4
  obtain rfl:=Option.some.inj H
  go_enter Try.func65,Try.ntmps65
  go_wp2
  go_ret
  exact⟨zq53,zq72⟩
 ·rw[if_neg c4] at H
  have c4b0:decide (a1≤a0)=false:=decide_eq_false c4
  clear c4
  obtain rfl:=Option.some.inj H
  go_enter Try.func65,Try.ntmps65
  go_wp2
  go_ret
  exact⟨zq53,zq72⟩
end Go.Proofs.Ytmnhddedcbkpoaa.All
end
section
namespace Go.Proofs.Ytmnhddedcbkpoaa.All
open Go.Proofs.YtmnhddedcbkpoaaW.PrintWords.Aside0 renaming mk→zM
open Go.RowKit Go.Proofs.YtmnhddedcbkpoaaW.PrintWords Go.Proofs.YtmnhddedcbkpoaaW.PrintLast Go.Proofs.YtmnhddedcbkpoaaW.PrintMore
attribute [local go_sem] max2_int min2_int max_two min_two max_three min_three max_four min_four
set_option linter.unusedVariables false
set_option linter.unusedSimpArgs false
def impl_isKeyId.f (a0:Int):Option (Bool):=(impl_in.f a0 1 255).bind fun t144=>(some t144)
set_option maxHeartbeats 8000000 in
set_option maxRecDepth 100000 in
theorem impl_isKeyId.calls (a0:Int) (r:Bool) (w:World) (h:impl_isKeyId.f a0=some r) :
  Calls Try.prog 93 #[.int .i64 a0] w fun e w'=>e=.returned (.bool r)∧Drawn0 w w':=by
 have H:((impl_in.f a0 1 255).bind fun t144=>(some t144))=some r:=h
 clear h
 replace H:=Option.bind_eq_some_iff.mp H
 obtain⟨t144,A20,H⟩:=H
 replace H:(some t144)=some r:=H
 have A2:=zM A20
 clear A20
 obtain rfl:=Option.some.inj H
 go_enter Try.func93,Try.ntmps93
 go_wp2_with (first|((with_reducible refine gate_callee (f:=65) rfl ?_);refine goesL_ (some 4) rfl rfl Try.func65 (by kernel_rfl) rfl #[.int .i64 a0,.int .i64 1,.int .i64 255] rfl zq5 ?_;(with_reducible refine(impl_in.calls a0 1 255 t144 _ A2.out).mono ?_);rintro e w' ⟨rfl,⟨nd,rfl⟩⟩;refine⟨_,rfl,?_⟩))
 go_ret
 exact⟨zq53,zq72⟩
def impl_Key_fault.f (a0_0:Int) (l0_1:List Int):Option (Int):=(impl_isKeyId.f a0_0).bind fun t146=>(if t146=true then (if (l0_1.length:Int)=16 then (some 0) else (some 2)) else (some 3))
set_option maxHeartbeats 8000000 in
set_option maxRecDepth 100000 in
theorem impl_Key_fault.calls (a0_0:Int) (A0_1:Option Addr) (c0_1:Nat) (l0_1:List Int) (r:Int) (w:World) (hr0_1:Kd.C (Kd.int .u8) w A0_1 l0_1.length l0_1) (hc0_1:l0_1.length≤c0_1) (h:impl_Key_fault.f a0_0 l0_1=some r) :
  Calls Try.prog 72 #[.agg #[.int .i64 a0_0,.slice A0_1 l0_1.length c0_1]] w fun e w'=>e=.returned (.int .i64 r)∧Below w.heap.size w w':=by
 have hu25:=Try.underlying25
 have HR0_1:=zM hr0_1
 have HC0_1:=zM hc0_1
 clear hr0_1 hc0_1
 have HB:=zM (Below.refl w.heap.size w)
 have H:((impl_isKeyId.f a0_0).bind fun t146=>(if t146=true then (if (l0_1.length:Int)=16 then (some 0) else (some 2)) else (some 3)))=some r:=h
 clear h
 replace H:=Option.bind_eq_some_iff.mp H
 obtain⟨t146,A20,H⟩:=H
 replace H:(if t146=true then (if (l0_1.length:Int)=16 then (some 0) else (some 2)) else (some 3))=some r:=H
 have A2:=zM A20
 clear A20
 by_cases c3:t146=true
 ·subst c3
  have H1:(if (l0_1.length:Int)=16 then (some 0) else (some 2))=some r:=by rw[if_pos rfl] at H;exact H
  clear H
  have H:=H1
  clear H1
  by_cases c4:(l0_1.length:Int)=16
  ·rw[if_pos c4] at H
   have c4b0:((l0_1.length:Int) == 16)=true:=beq_iff_eq.mpr c4
   have c4b1:((l0_1.length:Int) != 16)=false:=bne_eq_false_iff_eq.mpr c4
   clear c4
   obtain rfl:=Option.some.inj H
   go_enter Try.func72,Try.ntmps72
   go_wp2_with (first|((with_reducible refine gate_dst (N:=1) rfl ?_);refine box_event ?hg (N:=1) ?hd (cs:=#[.int .i64 a0_0,.slice A0_1 l0_1.length c0_1]) (t:=25) ?hr ?_;(case hd=>rfl);(case hg=>rfl);(case hr=>first|(go_simp;done)|(go_simp;rfl));intro gb145 hg w5 hbox hb;have n0_:=zM (below_step zq0 hb);have n1_:=zM (hbox);have n2_:=zM ((by rw[hg];exact(below_size zq0):w.heap.size≤gb145));have n3_:=zM ((by rw[hg];exact(below_size zq0):w.heap.size≤gb145));clear HB;have HB:=n0_;have BK145:=n1_;have GW145:=n2_;have GE145:=n3_;clear n0_ n1_ n2_ n3_;clear hb hbox hg;have hcz6_0:w5.cell? ⟨gb145,0,none⟩=some (.int .i64 a0_0):=(blk_cell BK145.out 0).trans rfl;have hcz6_1:w5.cell? ⟨gb145,1,none⟩=some (.slice A0_1 l0_1.length c0_1):=(blk_cell BK145.out 1).trans rfl;have hfz6_0:=blk_frozen BK145.out 0;have hfz6_1:=blk_frozen BK145.out 1)|((with_reducible refine gate_callee (f:=93) rfl ?_);refine goesL_ (some 5) rfl rfl Try.func93 (by kernel_rfl) rfl #[.int .i64 a0_0] rfl zq5 ?_;(with_reducible refine(impl_isKeyId.calls a0_0 true _ A2.out).mono ?_);rintro e w' ⟨rfl,⟨nd,rfl⟩⟩;refine⟨_,rfl,?_⟩))
   go_ret
   exact⟨zq10,zq83⟩
  ·rw[if_neg c4] at H
   have c4b0:((l0_1.length:Int) == 16)=false:=beq_eq_false_iff_ne.mpr c4
   have c4b1:((l0_1.length:Int) != 16)=true:=bne_iff_ne.mpr c4
   obtain rfl:=Option.some.inj H
   go_enter Try.func72,Try.ntmps72
   go_wp2_with (first|((with_reducible refine gate_dst (N:=1) rfl ?_);refine box_event ?hg (N:=1) ?hd (cs:=#[.int .i64 a0_0,.slice A0_1 l0_1.length c0_1]) (t:=25) ?hr ?_;(case hd=>rfl);(case hg=>rfl);(case hr=>first|(go_simp;done)|(go_simp;rfl));intro gb145 hg w7 hbox hb;have n0_:=zM (below_step zq0 hb);have n1_:=zM (hbox);have n2_:=zM ((by rw[hg];exact(below_size zq0):w.heap.size≤gb145));have n3_:=zM ((by rw[hg];exact(below_size zq0):w.heap.size≤gb145));clear HB;have HB:=n0_;have BK145:=n1_;have GW145:=n2_;have GE145:=n3_;clear n0_ n1_ n2_ n3_;clear hb hbox hg;have hcz8_0:w7.cell? ⟨gb145,0,none⟩=some (.int .i64 a0_0):=(blk_cell BK145.out 0).trans rfl;have hcz8_1:w7.cell? ⟨gb145,1,none⟩=some (.slice A0_1 l0_1.length c0_1):=(blk_cell BK145.out 1).trans rfl;have hfz8_0:=blk_frozen BK145.out 0;have hfz8_1:=blk_frozen BK145.out 1)|((with_reducible refine gate_callee (f:=93) rfl ?_);refine goesL_ (some 5) rfl rfl Try.func93 (by kernel_rfl) rfl #[.int .i64 a0_0] rfl zq5 ?_;(with_reducible refine(impl_isKeyId.calls a0_0 true _ A2.out).mono ?_);rintro e w' ⟨rfl,⟨nd,rfl⟩⟩;refine⟨_,rfl,?_⟩))
   go_ret
   exact⟨zq10,zq83⟩
 ·replace c3:=Bool.eq_false_iff.mpr c3
  subst c3
  have H1:(some 3)=some r:=by rw[if_neg (show ¬ (false=true) by decide)] at H;exact H
  clear H
  have H:=H1
  clear H1
  obtain rfl:=Option.some.inj H
  go_enter Try.func72,Try.ntmps72
  go_wp2_with (first|((with_reducible refine gate_dst (N:=1) rfl ?_);refine box_event ?hg (N:=1) ?hd (cs:=#[.int .i64 a0_0,.slice A0_1 l0_1.length c0_1]) (t:=25) ?hr ?_;(case hd=>rfl);(case hg=>rfl);(case hr=>first|(go_simp;done)|(go_simp;rfl));intro gb145 hg w9 hbox hb;have n0_:=zM (below_step zq0 hb);have n1_:=zM (hbox);have n2_:=zM ((by rw[hg];exact(below_size zq0):w.heap.size≤gb145));have n3_:=zM ((by rw[hg];exact(below_size zq0):w.heap.size≤gb145));clear HB;have HB:=n0_;have BK145:=n1_;have GW145:=n2_;have GE145:=n3_;clear n0_ n1_ n2_ n3_;clear hb hbox hg;have hcz10_0:w9.cell? ⟨gb145,0,none⟩=some (.int .i64 a0_0):=(blk_cell BK145.out 0).trans rfl;have hcz10_1:w9.cell? ⟨gb145,1,none⟩=some (.slice A0_1 l0_1.length c0_1):=(blk_cell BK145.out 1).trans rfl;have hfz10_0:=blk_frozen BK145.out 0;have hfz10_1:=blk_frozen BK145.out 1)|((with_reducible refine gate_callee (f:=93) rfl ?_);refine goesL_ (some 5) rfl rfl Try.func93 (by kernel_rfl) rfl #[.int .i64 a0_0] rfl zq5 ?_;(with_reducible refine(impl_isKeyId.calls a0_0 false _ A2.out).mono ?_);rintro e w' ⟨rfl,⟨nd,rfl⟩⟩;refine⟨_,rfl,?_⟩))
  go_ret
  exact⟨zq10,zq83⟩
end Go.Proofs.Ytmnhddedcbkpoaa.All
end
section
set_option linter.unusedVariables false
namespace Go.Proofs.Ytmnhddedcbkpoaa
open Go.Proofs.YtmnhddedcbkpoaaW.PrintWords.Aside0 renaming mk→zM
open Go.RowKit Go.Proofs.YtmnhddedcbkpoaaW.PrintWords
theorem wrap_next (k n:Nat) (h:k < n) (hn:n < 140737488355328):wrap64 ((k:Int)+1)=((k+1:Nat):Int):=by unfold wrap64;omega
theorem next_less (k n:Nat) (h:k < n) (hn:n < 140737488355328):n - (intOf (.int .i64 (wrap64 ((k:Int)+1)))).toNat < n - (intOf (.int .i64 (k:Int))).toNat:=by
 rw[wrap_next k n h hn]
 simp only[intOf]
 omega
end Go.Proofs.Ytmnhddedcbkpoaa
end
section
namespace Go.Proofs.Ytmnhddedcbkpoaa.All
open Go.Proofs.YtmnhddedcbkpoaaW.PrintWords.Aside0 renaming mk→zM
open Go.RowKit Go.Proofs.YtmnhddedcbkpoaaW.PrintWords Go.Proofs.YtmnhddedcbkpoaaW.PrintLast Go.Proofs.YtmnhddedcbkpoaaW.PrintMore
attribute [local go_sem] max2_int min2_int max_two min_two max_three min_three max_four min_four
set_option linter.unusedVariables false
set_option linter.unusedSimpArgs false
def placeL (id:Int):List S25→Int→Int
 | [],_=>-1
 | x :: xs,i=>if x.f0=id then i else placeL id xs (i+1)
theorem placeL_drop (id:Int) (l:List S25) (k:Nat) (h:k < l.length):placeL id (l.drop k) k=if (rd_T25 l (k:Int)).f0=id then (k:Int) else placeL id (l.drop (k+1)) ((k+1:Nat):Int):=by
 rw[List.drop_eq_getElem_cons h]
 simp only[placeL]
 rw[show rd_T25 l (k:Int)=l[k] by unfold rd_T25;rw[Int.toNat_natCast,List.getD_eq_getElem?_getD,List.getElem?_eq_getElem h];rfl]
 rfl
def impl_Ring_place.f (a0_0:Int) (l0_1:List S25) (a1:Int):Option Int:=if l0_1.length < 140737488355328 then some (placeL a1 l0_1 0) else none
set_option maxHeartbeats 4000000 in
set_option maxRecDepth 100000 in
theorem place_test (x id:Int) (A:Option Addr) (n c g:Nat) (W:World) (hc:W.cell? ⟨g,0,none⟩=some (.int .i64 id)) :
  Calls Try.prog 98 #[.agg #[.int .i64 x,.slice A n c],.pointer (some ⟨g,0,none⟩)] W fun e w'=>e=.returned (.bool (x == id))∧Below W.heap.size W w':=by
 have hg:g < W.heap.size:=World.block_lt_of_cell? W _ hc
 have hne:g≠W.heap.size:=by omega
 go_enter Try.func98,Try.ntmps98
 go_wp2
 go_ret
 exact⟨rfl,(Below.refl _ _).alloc (Nat.le_refl _) _⟩
set_option maxHeartbeats 4000000 in
set_option maxRecDepth 100000 in
theorem place_index (id:Int) (A:Option Addr) (c g:Nat) (l:List S25) (w:World) (hr0:Kd.C k25 w A l.length l) (hcell:w.cell? ⟨g,0,none⟩=some (.int .i64 id)) (hm0:l.length < 140737488355328) :
  Calls Try.prog 97 #[.slice A l.length c,.func (.func 98) #[] #[.pointer (some ⟨g,0,none⟩)]] w fun e w'=>e=.returned (.int .i64 (placeL id l 0))∧Below w.heap.size w w':=by
 have HR:=zM hr0
 have HC:=zM hcell
 have HM:=zM hm0
 have HB:=zM (Below.refl w.heap.size w)
 have hg:=World.block_lt_of_cell? w _ hcell
 clear hr0 hcell hm0
 go_enter Try.func97,Try.ntmps97
 go_wp2
 go_loopw [5,8] (fun _ v8 W=>∃ kk:Nat,kk≤l.length∧v8=.int .i64 kk∧Aside0 (placeL id l 0=placeL id (l.drop kk) kk)∧Aside0 (Below w.heap.size w W)) (fun _ v8 _=>l.length - (intOf v8).toNat)
 case atStart=>exact⟨0,Nat.zero_le _,rfl,⟨rfl⟩,HB⟩
 case round=>
  clear HB
  obtain⟨kk,hk,rfl,HP,HB⟩:=hrel
  by_cases hl:kk < l.length
  ·have hd:decide (kk < l.length)=true:=decide_eq_true hl
   have HD:=zM (placeL_drop id l kk hl)
   obtain⟨ad,A1,c1,rfl,hx0,hx1,hl1,hi1⟩:=at_T25 HR.out (kk:Int) zq21 zq21
   clear hl1 hi1
   generalize rd_T25 l (kk:Int)=x at HD hx0 hx1
   rw[Int.toNat_natCast] at hx0 hx1
   replace hx0:=(HB.out.cell (World.block_lt_of_cell? w _ hx0)).trans hx0
   replace hx1:=(HB.out.cell (World.block_lt_of_cell? w _ hx1)).trans hx1
   have HCW:=zM ((HB.out.cell (World.block_lt_of_cell? w _ HC.out)).trans HC.out)
   have hlt:=zM hl
   by_cases he:x.f0=id
   ·have HE:=zM he
    have hbt:(x.f0 == id)=true:=beq_iff_eq.mpr he
    clear he
    go_wp2_with (go_at_call 98;refine(place_test x.f0 id A1 x.f1.length c1 g _ HCW.out).mono ?_;rintro e wk ⟨rfl,hb⟩)
    go_ret
    exact⟨by rw[HP.out,HD.out,if_pos HE.out];rfl,below_step HB.out hb⟩
   ·have HE:=zM he
    have hbt:(x.f0 == id)=false:=beq_eq_false_iff_ne.mpr he
    clear he
    go_wp2_with (go_at_call 98;refine(place_test x.f0 id A1 x.f1.length c1 g _ HCW.out).mono ?_;rintro e wk ⟨rfl,hb⟩)
    go_roundw
    case rel=>exact⟨kk+1,hlt.out,congrArg _ (wrap_next kk _ hlt.out HM.out),⟨by rw[HP.out,HD.out,if_neg HE.out]⟩,⟨below_step HB.out hb⟩⟩
    case measure=>exact next_less kk _ hlt.out HM.out
  ·obtain rfl:kk=l.length:=by omega
   have HP2:Aside0 (placeL id l 0=-1):=⟨by rw[HP.out,List.drop_length];rfl⟩
   clear HP
   go_wp2
   go_ret
   exact⟨by rw[HP2.out];rfl,HB.out⟩
set_option maxHeartbeats 4000000 in
set_option maxRecDepth 100000 in
theorem impl_Ring_place.calls (a0_0:Int) (A0_1:Option Addr) (c0_1:Nat) (l0_1:List S25) (a1:Int) (r:Int) (w:World) (hr0_1:Kd.C k25 w A0_1 l0_1.length l0_1) (hc0_1:l0_1.length≤c0_1) (h:impl_Ring_place.f a0_0 l0_1 a1=some r) :
  Calls Try.prog 73 #[.agg #[.int .i64 a0_0,.slice A0_1 l0_1.length c0_1],.int .i64 a1] w fun e w'=>e=.returned (.int .i64 r)∧Below w.heap.size w w':=by
 unfold impl_Ring_place.f at h
 by_cases hm:l0_1.length < 140737488355328
 ·rw[if_pos hm,Option.some.injEq] at h
  subst h
  have HR:=zM hr0_1
  clear hr0_1 hc0_1
  go_enter Try.func73,Try.ntmps73
  go_wp2_with (go_at_call 97;refine(place_index a1 A0_1 c0_1 (w.heap.size+1) l0_1 _ (Kd.C_alloc (Kd.C_alloc HR.out _) _) zq58 hm).mono ?_;rintro e wk ⟨rfl,hb⟩)
  go_ret
  exact⟨rfl,(((Below.refl _ _).alloc (Nat.le_refl _) _).alloc zq58 _).trans (hb.mono (by simp;omega))⟩
 ·rw[if_neg hm] at h
  cases h
end Go.Proofs.Ytmnhddedcbkpoaa.All
end
