-- Laid by wip/shake.py of this repo out of this claim's texts. Not trusted: Lean checks it.
import Derived.Test.YtkjgdndaepobiaaAb0s
import Derived.Test.YtkjgdndaepobiaaAllx0s
import Derived.Test.YtkjgdndaepobiaaAllx20s
import Derived.Test.YtkjgdndaepobiaaAllx187s
import Derived.Test.YtkjgdndaepobiaaAllx164s
namespace Go.Proofs.Ytkjgdndaepobiaa.All
open Go.Proofs.YtkjgdndaepobiaaW.PrintWords.Aside0 renaming mk→zM
open Go.RowKit Go.Proofs.YtkjgdndaepobiaaW.PrintWords Go.Proofs.YtkjgdndaepobiaaW.PrintLast Go.Proofs.YtkjgdndaepobiaaW.PrintMore
attribute [local go_sem] max2_int min2_int max_two min_two max_three min_three max_four min_four
set_option linter.unusedVariables false
set_option linter.unusedSimpArgs false
def spec_DrawOpenText.j0:Nat→List Int→List Int→List Int→List Int→Bool→List Int→Int→Option (List Int × List Int × List Int × List Int)
 | 0,_,_,_,_,_,_,_=>none
 | k+1,x7,x8,x9,x10,x38,x478000,x478001=>if x38=true then (some (x7,x8,x9,x10)) else ((spec_l3Seal.f k x7 x8 x9 x10).bind fun t490=>((spec_l1Next.f x478000 x478001 7).bind fun bt493=>(if bt493.1=0 then ((spec_l1Next.f x478000 bt493.2 (t490.length:Int)).bind fun bt495=>(if 0≤bt495.1 then (if bt495.1 < (t490.length:Int) then ((spec_l1Next.f x478000 bt495.2 255).bind fun bt498=>(some (x7,x8,x9,(t490.set (bt495.1:Int).toNat (Go.bits .xor .u8 (rd t490 bt495.1) ((wrap64 (1+bt498.1)) % 256)))))) else (none)) else (none))) else (if bt493.1=1 then ((spec_l1Next.f x478000 bt493.2 (t490.length:Int)).bind fun bt501=>(if 0≤bt501.1 then (if bt501.1≤(t490.length:Int) then (some (x7,x8,x9,(t490.take (bt501.1:Int).toNat))) else (none)) else (none))) else (if bt493.1=2 then (if 0 < (x8.length:Int) then (some (x7,(x8.set (0:Int).toNat (Go.bits .xor .u8 (rd x8 0) 1)),x9,t490)) else (none)) else (if bt493.1=3 then (if x9.length < 140737488355328 then (some (x7,x8,(x9 ++ [0]),t490)) else (none)) else (some (x7,x8,x9,t490))))))))
def spec_DrawOpenText.f (k:Nat) (l0:List Int):Option (List Int × List Int × List Int × List Int):=(spec_l1Later.f l0 1).bind fun bt475=>((spec_DrawSealText.f k l0).bind fun bt478=>(if (bt478.1.length:Int)=16 then (if (bt478.2.1.length:Int)=12 then (if (bt478.2.2.1.length:Int) > 100 then (spec_DrawOpenText.j0 k bt478.1 bt478.2.1 bt478.2.2.1 bt478.2.2.2 true bt475.1 bt475.2) else (spec_DrawOpenText.j0 k bt478.1 bt478.2.1 bt478.2.2.1 bt478.2.2.2 (decide ((bt478.2.2.2.length:Int) > 600)) bt475.1 bt475.2)) else (spec_DrawOpenText.j0 k bt478.1 bt478.2.1 bt478.2.2.1 bt478.2.2.2 true bt475.1 bt475.2)) else (spec_DrawOpenText.j0 k bt478.1 bt478.2.1 bt478.2.2.1 bt478.2.2.2 true bt475.1 bt475.2)))
theorem spec_DrawOpenText.mono_l:∀ k,(∀ y0 y1 y2 y3 y4 y5 y6,LeO (spec_DrawOpenText.j0 k y0 y1 y2 y3 y4 y5 y6) (spec_DrawOpenText.j0 (k+1) y0 y1 y2 y3 y4 y5 y6))
 | 0=>fun _ _ _ _ _ _ _ r h=>by simp[spec_DrawOpenText.j0] at h
 | k+1=>by
  have ih0:=spec_DrawOpenText.mono_l k
  ·intro y0 y1 y2 y3 y4 y5 y6
   unfold spec_DrawOpenText.j0
   repeat' first
   | (with_reducible exact ih0 _ _ _ _ _ _ _)
   | (with_reducible exact spec_DrawSealText.mono _ _)
   | (with_reducible exact spec_l3Seal.mono _ _ _ _ _)
   | (with_reducible exact LeO.refl _)
   | (with_reducible exact LeO.none _)
   | (with_reducible refine LeO.ite ?_ ?_)
   | (with_reducible refine LeO.bind ?_ (fun _=>?_))
   | exact ih0 _ _ _ _ _ _ _
   | exact spec_DrawSealText.mono _ _
   | exact spec_l3Seal.mono _ _ _ _ _
   | exact LeO.none _
   | refine LeO.ite ?_ ?_
   | refine LeO.bind ?_ (fun _=>?_)
theorem spec_DrawOpenText.mono:∀ a0 k,LeO (spec_DrawOpenText.f k a0) (spec_DrawOpenText.f (k+1) a0):=by
 intro a0 k
 have ih0:=spec_DrawOpenText.mono_l k
 unfold spec_DrawOpenText.f
 repeat' first
   | (with_reducible exact ih0 _ _ _ _ _ _ _)
   | (with_reducible exact spec_DrawSealText.mono _ _)
   | (with_reducible exact spec_l3Seal.mono _ _ _ _ _)
   | (with_reducible exact LeO.refl _)
   | (with_reducible exact LeO.none _)
   | (with_reducible refine LeO.ite ?_ ?_)
   | (with_reducible refine LeO.bind ?_ (fun _=>?_))
   | exact ih0 _ _ _ _ _ _ _
   | exact spec_DrawSealText.mono _ _
   | exact spec_l3Seal.mono _ _ _ _ _
   | exact LeO.none _
   | refine LeO.ite ?_ ?_
   | refine LeO.bind ?_ (fun _=>?_)
def spec_DrawOpenText.T8:Bool × List (List Nat × List Nat):=(true,[([],[]),([],[]),([],[]),([2],[2]),([1,3],[1,3]),([0,4],[0,4]),([5],[5]),([],[]),([7,4],[7]),([8],[8]),([9],[9]),([6,10],[6,10]),([0,4,0,1,2,3,4,5,6,7,8,9,10,11],[0,4]),([12,11,8,0,1,2,3,4,5,6,7,8,9,10,11],[11,12])])
def spec_DrawOpenText.B8:List Nat:=[0,0,0,4,14,31,63,0,158,414,926,2047,4095,8191]
theorem spec_DrawOpenText.tab8:rtab .any (opsOf Try.f24 8)=spec_DrawOpenText.T8:=by kernel_rfl
theorem spec_DrawOpenText.bits8:waitsOk spec_DrawOpenText.T8.2 spec_DrawOpenText.B8=true:=by kernel_rfl
set_option maxHeartbeats 8000000 in
set_option maxRecDepth 100000 in
theorem spec_DrawOpenText.calls (k:Nat) (A0:Option Addr) (c0:Nat) (l0:List Int) (r1:List Int) (r2:List Int) (r3:List Int) (r4:List Int) (w:World) (hr0:Kd.C (Kd.int .u8) w A0 l0.length l0) (hc0:l0.length≤c0) (h:spec_DrawOpenText.f k l0=some (r1,r2,r3,r4)) :
  Calls Try.prog 24 #[.slice A0 l0.length c0] w fun e w'=>∃ v0_ v1_ v2_ v3_:Value,e=.returned (.tuple #[v0_,v1_,v2_,v3_])∧Kd.R (Kd.int .u8) 5 w' w.heap.size (fun k_=>some k_≠(v1_:Value).ownBlock∧some k_≠(v2_:Value).ownBlock∧some k_≠(v3_:Value).ownBlock) v0_ r1∧Kd.R (Kd.int .u8) 5 w' w.heap.size (fun k_=>some k_≠(v0_:Value).ownBlock∧some k_≠(v2_:Value).ownBlock∧some k_≠(v3_:Value).ownBlock) v1_ r2∧Kd.R (Kd.int .u8) 5 w' w.heap.size (fun k_=>some k_≠(v0_:Value).ownBlock∧some k_≠(v1_:Value).ownBlock∧some k_≠(v3_:Value).ownBlock) v2_ r3∧Kd.R (Kd.int .u8) 5 w' w.heap.size (fun k_=>some k_≠(v0_:Value).ownBlock∧some k_≠(v1_:Value).ownBlock∧some k_≠(v2_:Value).ownBlock) v3_ r4∧Below w.heap.size w w':=by
 have HR0:=zM hr0
 have HC0:=zM hc0
 clear hr0 hc0
 have HB:=zM (Below.refl w.heap.size w)
 have H:((spec_l1Later.f l0 1).bind fun bt475=>((spec_DrawSealText.f k l0).bind fun bt478=>(if (bt478.1.length:Int)=16 then (if (bt478.2.1.length:Int)=12 then (if (bt478.2.2.1.length:Int) > 100 then (spec_DrawOpenText.j0 k bt478.1 bt478.2.1 bt478.2.2.1 bt478.2.2.2 true bt475.1 bt475.2) else (spec_DrawOpenText.j0 k bt478.1 bt478.2.1 bt478.2.2.1 bt478.2.2.2 (decide ((bt478.2.2.2.length:Int) > 600)) bt475.1 bt475.2)) else (spec_DrawOpenText.j0 k bt478.1 bt478.2.1 bt478.2.2.1 bt478.2.2.2 true bt475.1 bt475.2)) else (spec_DrawOpenText.j0 k bt478.1 bt478.2.1 bt478.2.2.1 bt478.2.2.2 true bt475.1 bt475.2))))=some (r1,r2,r3,r4):=h
 clear h
 replace H:=Option.bind_eq_some_iff.mp H
 obtain⟨⟨t475,t476⟩,A20,H⟩:=H
 replace H:((spec_DrawSealText.f k l0).bind fun bt478=>(if (bt478.1.length:Int)=16 then (if (bt478.2.1.length:Int)=12 then (if (bt478.2.2.1.length:Int) > 100 then (spec_DrawOpenText.j0 k bt478.1 bt478.2.1 bt478.2.2.1 bt478.2.2.2 true t475 t476) else (spec_DrawOpenText.j0 k bt478.1 bt478.2.1 bt478.2.2.1 bt478.2.2.2 (decide ((bt478.2.2.2.length:Int) > 600)) t475 t476)) else (spec_DrawOpenText.j0 k bt478.1 bt478.2.1 bt478.2.2.1 bt478.2.2.2 true t475 t476)) else (spec_DrawOpenText.j0 k bt478.1 bt478.2.1 bt478.2.2.1 bt478.2.2.2 true t475 t476)))=some (r1,r2,r3,r4):=H
 have A2:=zM A20
 clear A20
 replace H:=Option.bind_eq_some_iff.mp H
 obtain⟨⟨t478,t479,t480,t481⟩,A30,H⟩:=H
 replace H:(if (t478.length:Int)=16 then (if (t479.length:Int)=12 then (if (t480.length:Int) > 100 then (spec_DrawOpenText.j0 k t478 t479 t480 t481 true t475 t476) else (spec_DrawOpenText.j0 k t478 t479 t480 t481 (decide ((t481.length:Int) > 600)) t475 t476)) else (spec_DrawOpenText.j0 k t478 t479 t480 t481 true t475 t476)) else (spec_DrawOpenText.j0 k t478 t479 t480 t481 true t475 t476))=some (r1,r2,r3,r4):=H
 have A3:=zM A30
 clear A30
 have HC4:=zM H
 clear H
 go_enter Try.func24,Try.ntmps24
 go_upto_region 3 with (first|((with_reducible refine gate_callee (f:=52) rfl ?_);refine goesL_ (some 13) rfl rfl Try.func52 (by kernel_rfl) rfl #[.slice A0 l0.length c0,.int .i64 1] rfl zq1 ?_;(with_reducible refine(spec_l1Later.calls _ _ l0 1 t475 t476 w _ ?side1 ?side2 ?side3 A2.out).mono ?_);(case side1=>exact zq0);(case side2=>exact HR0.out);(case side3=>exact HC0.out);rintro e w5 ⟨g477,rfl,hi,hb,hb2⟩;refine⟨_,rfl,?_⟩;have n0_:=zM (hb);have n1_:=zM (hi);clear HB;have HB:=n0_;have HI477:=n1_;clear n0_ n1_;(try clear hb);(try clear hb2);(try clear hk);(try clear hi))|((with_reducible refine gate_callee (f:=22) rfl ?_);refine goesL_ (some 16) rfl rfl Try.func22 (by kernel_rfl) rfl #[.slice A0 l0.length c0] rfl zq1 ?_;(with_reducible refine(spec_DrawSealText.calls k _ _ l0 t478 t479 t480 t481 _ ?side1 ?side2 A3.out).mono ?_);(case side1=>exact zq26);(case side2=>exact HC0.out);rintro e w6 ⟨v482,v484,v486,v488,rfl,ho0,ho1,ho2,ho3,hb⟩;refine⟨_,rfl,?_⟩;have n0_:=zM (Kd.R_lower ho0 (below_size zq15));have n1_:=zM (Kd.R_lower ho1 (below_size zq15));have n2_:=zM (Kd.R_lower ho2 (below_size zq15));have n3_:=zM (Kd.R_lower ho3 (below_size zq15));have n4_:=zM (IsS73.below zq54 hb);have n5_:=zM (below_step zq15 hb);clear HI477;clear HB;have HO483:=n0_;have HO485:=n1_;have HO487:=n2_;have HO489:=n3_;have HI477:=n4_;have HB:=n5_;clear n0_ n1_ n2_ n3_ n4_ n5_;(try clear hb);(try clear hb2);(try clear hk);(try clear hi);(try clear ho0);(try clear ho1);(try clear ho2);(try clear ho3)))
 (try simp only[Act.put,List.setIfInBounds_toArray,List.set_cons_zero,List.set_cons_succ])
 go_cut [38] (fun v38 wc=>∃ (kq:Nat) (x38_3:Bool),v38=.bool x38_3∧Aside0 (spec_DrawOpenText.j0 kq t478 t479 t480 t481 x38_3 t475 t476=some (r1,r2,r3,r4))∧Aside0 (kq≤k)∧Aside0 (Kd.R (Kd.int .u8) 5 wc w.heap.size (fun k_=>some k_≠(v484:Value).ownBlock∧some k_≠(v486:Value).ownBlock∧some k_≠(v488:Value).ownBlock) v482 t478)∧Aside0 (Kd.R (Kd.int .u8) 5 wc w.heap.size (fun k_=>some k_≠(v482:Value).ownBlock∧some k_≠(v486:Value).ownBlock∧some k_≠(v488:Value).ownBlock) v484 t479)∧Aside0 (Kd.R (Kd.int .u8) 5 wc w.heap.size (fun k_=>some k_≠(v482:Value).ownBlock∧some k_≠(v484:Value).ownBlock∧some k_≠(v488:Value).ownBlock) v486 t480)∧Aside0 (Kd.R (Kd.int .u8) 5 wc w.heap.size (fun k_=>some k_≠(v482:Value).ownBlock∧some k_≠(v484:Value).ownBlock∧some k_≠(v486:Value).ownBlock) v488 t481)∧Aside0 (IsS73 w wc g477 t475 t476)∧Aside0 (Below w.heap.size w wc))
 case first=>
  have H:=HC4.out
  clear HC4
  by_cases c7:(t478.length:Int)=16
  ·rw[if_pos c7] at H
   have c7b0:((t478.length:Int) == 16)=true:=beq_iff_eq.mpr c7
   have c7b1:((t478.length:Int) != 16)=false:=bne_eq_false_iff_eq.mpr c7
   clear c7
   (first|rw[c7b0]|(simp only[i64_w,i32_w];rw[c7b0])|skip)
   by_cases c8:(t479.length:Int)=12
   ·rw[if_pos c8] at H
    have c8b0:((t479.length:Int) == 12)=true:=beq_iff_eq.mpr c8
    have c8b1:((t479.length:Int) != 12)=false:=bne_eq_false_iff_eq.mpr c8
    clear c8
    by_cases c9:(t480.length:Int) > 100
    ·rw[if_pos c9] at H
     have c9b0:decide (100 < (t480.length:Int))=true:=decide_eq_true c9
     have c9b1:decide (100 < t480.length)=true:=decide_eq_true zq9
     clear c9
     have H':=zM H
     clear H
     obtain⟨Ao10,co10,eo10⟩:=Kd.R_slice HO483.out
     subst eo10
     obtain⟨Ao11,co11,eo11⟩:=Kd.R_slice HO485.out
     subst eo11
     obtain⟨Ao12,co12,eo12⟩:=Kd.R_slice HO487.out
     subst eo12
     go_wp2
     go_meet
     case rel=>exact⟨_,(true),zq8,H',⟨zq176⟩,⟨zq163⟩,⟨zq164⟩,⟨zq165⟩,⟨zq166⟩,⟨zq54⟩,⟨zq15⟩⟩
    ·rw[if_neg c9] at H
     have c9b0:decide (100 < (t480.length:Int))=false:=decide_eq_false c9
     have c9b1:decide (100 < t480.length)=false:=decide_eq_false zq9
     clear c9
     have H':=zM H
     clear H
     obtain⟨Ao13,co13,eo13⟩:=Kd.R_slice HO483.out
     subst eo13
     obtain⟨Ao14,co14,eo14⟩:=Kd.R_slice HO485.out
     subst eo14
     obtain⟨Ao15,co15,eo15⟩:=Kd.R_slice HO487.out
     subst eo15
     obtain⟨Ao16,co16,eo16⟩:=Kd.R_slice HO489.out
     subst eo16
     go_wp2
     go_meet
     case rel=>exact⟨_,(decide ((t481.length:Int) > 600)),zq8,H',⟨zq176⟩,⟨zq163⟩,⟨zq164⟩,⟨zq165⟩,⟨zq166⟩,⟨zq54⟩,⟨zq15⟩⟩
   ·rw[if_neg c8] at H
    have c8b0:((t479.length:Int) == 12)=false:=beq_eq_false_iff_ne.mpr c8
    have c8b1:((t479.length:Int) != 12)=true:=bne_iff_ne.mpr c8
    have H':=zM H
    clear H
    obtain⟨Ao17,co17,eo17⟩:=Kd.R_slice HO483.out
    subst eo17
    obtain⟨Ao18,co18,eo18⟩:=Kd.R_slice HO485.out
    subst eo18
    go_wp2
    go_meet
    case rel=>exact⟨_,(true),zq8,H',⟨zq176⟩,⟨zq163⟩,⟨zq164⟩,⟨zq165⟩,⟨zq166⟩,⟨zq54⟩,⟨zq15⟩⟩
  ·rw[if_neg c7] at H
   have c7b0:((t478.length:Int) == 16)=false:=beq_eq_false_iff_ne.mpr c7
   have c7b1:((t478.length:Int) != 16)=true:=bne_iff_ne.mpr c7
   (first|rw[c7b0]|(simp only[i64_w,i32_w];rw[c7b0])|skip)
   have H':=zM H
   clear H
   obtain⟨Ao19,co19,eo19⟩:=Kd.R_slice HO483.out
   subst eo19
   go_wp2
   go_meet
   case rel=>exact⟨_,(true),zq8,H',⟨zq176⟩,⟨zq163⟩,⟨zq164⟩,⟨zq165⟩,⟨zq166⟩,⟨zq54⟩,⟨zq15⟩⟩
 case rest=>
  clear HC4
  try clear c2
  try clear p2
  try clear c5
  try clear c7
  try clear c7b0
  try clear c7b1
  try clear c8
  try clear c8b0
  try clear c8b1
  try clear c9
  try clear c9b0
  try clear c9b1
  obtain⟨kq,x38_3,rfl,HA,HJ3,HO_7,HO_8,HO_9,HO_10,HI477,HB⟩:=hcut
  cases kq with
  | zero=>exact absurd HA.out (by simp[spec_DrawOpenText.j0])
  | succ kj3=>
   have H:=HA.out
   clear HA
   simp only[spec_DrawOpenText.j0] at H
   by_cases c20:x38_3=true
   ·subst c20
    have H1:(some (t478,t479,t480,t481))=some (r1,r2,r3,r4):=by rw[if_pos rfl] at H;exact H
    clear H
    have H:=H1
    clear H1
    simp only[Option.some.injEq,Prod.mk.injEq] at H
    obtain⟨rfl,rfl,rfl,rfl⟩:=H
    go_wp2
    refine bodyPost_ret (results_list (rs:=[.tmp 2,.tmp 3,.tmp 4,.tmp 5]) rfl zq101 (.tmp (.tmp (.tmp (.tmp .nil))))) rfl ?_
    exact⟨_,_,_,_,zq14,zq17,by(with_reducible repeat (first|apply Kd.R_alloc|apply Kd.R_drewN|apply Kd.R_drew));exact HO_8.out,zq19,by(with_reducible repeat (first|apply Kd.R_alloc|apply Kd.R_drewN|apply Kd.R_drew));exact HO_10.out,zq15⟩
   ·replace c20:=Bool.eq_false_iff.mpr c20
    subst c20
    have H1:((spec_l3Seal.f kj3 t478 t479 t480 t481).bind fun t490=>((spec_l1Next.f t475 t476 7).bind fun bt493=>(if bt493.1=0 then ((spec_l1Next.f t475 bt493.2 (t490.length:Int)).bind fun bt495=>(if 0≤bt495.1 then (if bt495.1 < (t490.length:Int) then ((spec_l1Next.f t475 bt495.2 255).bind fun bt498=>(some (t478,t479,t480,(t490.set (bt495.1:Int).toNat (Go.bits .xor .u8 (rd t490 bt495.1) ((wrap64 (1+bt498.1)) % 256)))))) else (none)) else (none))) else (if bt493.1=1 then ((spec_l1Next.f t475 bt493.2 (t490.length:Int)).bind fun bt501=>(if 0≤bt501.1 then (if bt501.1≤(t490.length:Int) then (some (t478,t479,t480,(t490.take (bt501.1:Int).toNat))) else (none)) else (none))) else (if bt493.1=2 then (if 0 < (t479.length:Int) then (some (t478,(t479.set (0:Int).toNat (Go.bits .xor .u8 (rd t479 0) 1)),t480,t490)) else (none)) else (if bt493.1=3 then (if t480.length < 140737488355328 then (some (t478,t479,(t480 ++ [0]),t490)) else (none)) else (some (t478,t479,t480,t490))))))))=some (r1,r2,r3,r4):=by rw[if_neg (show ¬ (false=true) by decide)] at H;exact H
    clear H
    have H:=H1
    clear H1
    replace H:=Option.bind_eq_some_iff.mp H
    obtain⟨t490,A210,H⟩:=H
    replace H:((spec_l1Next.f t475 t476 7).bind fun bt493=>(if bt493.1=0 then ((spec_l1Next.f t475 bt493.2 (t490.length:Int)).bind fun bt495=>(if 0≤bt495.1 then (if bt495.1 < (t490.length:Int) then ((spec_l1Next.f t475 bt495.2 255).bind fun bt498=>(some (t478,t479,t480,(t490.set (bt495.1:Int).toNat (Go.bits .xor .u8 (rd t490 bt495.1) ((wrap64 (1+bt498.1)) % 256)))))) else (none)) else (none))) else (if bt493.1=1 then ((spec_l1Next.f t475 bt493.2 (t490.length:Int)).bind fun bt501=>(if 0≤bt501.1 then (if bt501.1≤(t490.length:Int) then (some (t478,t479,t480,(t490.take (bt501.1:Int).toNat))) else (none)) else (none))) else (if bt493.1=2 then (if 0 < (t479.length:Int) then (some (t478,(t479.set (0:Int).toNat (Go.bits .xor .u8 (rd t479 0) 1)),t480,t490)) else (none)) else (if bt493.1=3 then (if t480.length < 140737488355328 then (some (t478,t479,(t480 ++ [0]),t490)) else (none)) else (some (t478,t479,t480,t490)))))))=some (r1,r2,r3,r4):=H
    have A21:=zM A210
    clear A210
    replace H:=Option.bind_eq_some_iff.mp H
    obtain⟨⟨t493,t494⟩,A220,H⟩:=H
    replace H:(if t493=0 then ((spec_l1Next.f t475 t494 (t490.length:Int)).bind fun bt495=>(if 0≤bt495.1 then (if bt495.1 < (t490.length:Int) then ((spec_l1Next.f t475 bt495.2 255).bind fun bt498=>(some (t478,t479,t480,(t490.set (bt495.1:Int).toNat (Go.bits .xor .u8 (rd t490 bt495.1) ((wrap64 (1+bt498.1)) % 256)))))) else (none)) else (none))) else (if t493=1 then ((spec_l1Next.f t475 t494 (t490.length:Int)).bind fun bt501=>(if 0≤bt501.1 then (if bt501.1≤(t490.length:Int) then (some (t478,t479,t480,(t490.take (bt501.1:Int).toNat))) else (none)) else (none))) else (if t493=2 then (if 0 < (t479.length:Int) then (some (t478,(t479.set (0:Int).toNat (Go.bits .xor .u8 (rd t479 0) 1)),t480,t490)) else (none)) else (if t493=3 then (if t480.length < 140737488355328 then (some (t478,t479,(t480 ++ [0]),t490)) else (none)) else (some (t478,t479,t480,t490))))))=some (r1,r2,r3,r4):=H
    have A22:=zM A220
    clear A220
    by_cases c23:t493=0
    ·rw[if_pos c23] at H
     have c23b0:(t493 == 0)=true:=beq_iff_eq.mpr c23
     have c23b1:(t493 != 0)=false:=bne_eq_false_iff_eq.mpr c23
     clear c23
     replace H:=Option.bind_eq_some_iff.mp H
     obtain⟨⟨t495,t496⟩,A240,H⟩:=H
     replace H:(if 0≤t495 then (if t495 < (t490.length:Int) then ((spec_l1Next.f t475 t496 255).bind fun bt498=>(some (t478,t479,t480,(t490.set (t495:Int).toNat (Go.bits .xor .u8 (rd t490 t495) ((wrap64 (1+bt498.1)) % 256)))))) else (none)) else (none))=some (r1,r2,r3,r4):=H
     have A24:=zM A240
     clear A240
     by_cases c25:0≤t495
     ·rw[if_pos c25] at H
      have c25b0:decide (0≤t495)=true:=decide_eq_true c25
      clear c25
      by_cases c26:t495 < (t490.length:Int)
      ·rw[if_pos c26] at H
       have c26b0:decide (t495 < (t490.length:Int))=true:=decide_eq_true c26
       clear c26
       replace H:=Option.bind_eq_some_iff.mp H
       obtain⟨⟨t498,t499⟩,A270,H⟩:=H
       replace H:(some (t478,t479,t480,(t490.set (t495:Int).toNat (Go.bits .xor .u8 (rd t490 t495) ((wrap64 (1+t498)) % 256)))))=some (r1,r2,r3,r4):=H
       have A27:=zM A270
       clear A270
       obtain⟨y500,hy500⟩:∃ y_:List Int,y_=(t490.set (t495:Int).toNat (Go.bits .xor .u8 (rd t490 t495) ((wrap64 (1+t498)) % 256))):=⟨_,rfl⟩
       replace H:(some (t478,t479,t480,y500))=some (r1,r2,r3,r4):=by first|(rw[hy500];with_reducible exact H)|(have H2_:=(Option.bind_some _ _).symm.trans H;rw[hy500];with_reducible exact H2_)|(have H2_:=(Option.bind_some _ _).symm.trans H;with_reducible exact H2_)|with_reducible exact H|(rw[hy500];exact H)|exact H
       have Ny500:=zM hy500
       clear hy500
       simp only[Option.some.injEq,Prod.mk.injEq] at H
       obtain⟨rfl,rfl,rfl,rfl⟩:=H
       obtain⟨Ao29,co29,eo29⟩:=Kd.R_slice HO_7.out
       subst eo29
       obtain⟨Ao30,co30,eo30⟩:=Kd.R_slice HO_8.out
       subst eo30
       obtain⟨Ao31,co31,eo31⟩:=Kd.R_slice HO_9.out
       subst eo31
       obtain⟨Ao32,co32,eo32⟩:=Kd.R_slice HO_10.out
       subst eo32
       try go_wp2_with (first|((with_reducible refine gate_callee (f:=53) rfl ?_);refine goesL_ (some 47) rfl rfl Try.func53 (by kernel_rfl) rfl #[.slice Ao29 t478.length co29,.slice Ao30 t479.length co30,.slice Ao31 t480.length co31,.slice Ao32 t481.length co32] rfl zq1 ?_;(with_reducible refine(spec_l3Seal.calls kj3 _ _ t478 _ _ t479 _ _ t480 _ _ t481 t490 _ ?side1 ?side2 ?side3 ?side4 ?side5 ?side6 ?side7 ?side8 A21.out).mono ?_);(case side1=>exact zq111);(case side2=>exact(Kd.R_reads' HO_7.out).2.1);(case side3=>exact zq112);(case side4=>exact(Kd.R_reads' HO_8.out).2.1);(case side5=>exact zq113);(case side6=>exact(Kd.R_reads' HO_9.out).2.1);(case side7=>exact zq110);(case side8=>exact(Kd.R_reads' HO_10.out).2.1);rintro e w33 ⟨v491,rfl,ho0,hb⟩;refine⟨_,rfl,?_⟩;have n0_:=zM (Kd.R_elder' zq17 (Kd.R_base ho0) hb);have n1_:=zM (Kd.R_elder' zq25 (Kd.R_base ho0) hb);have n2_:=zM (Kd.R_elder' zq19 (Kd.R_base ho0) hb);have n3_:=zM (Kd.R_elder' zq24 (Kd.R_base ho0) hb);have n4_:=zM (Kd.R_lower (Kd.R_new' (Kd.R_new' (Kd.R_new' (Kd.R_new' ho0 (Kd.R_lt zq17)) (Kd.R_lt zq25)) (Kd.R_lt zq19)) (Kd.R_lt zq24)) (below_size zq15));have n5_:=zM (IsS73.below zq54 hb);have n6_:=zM (below_step zq15 hb);clear HO_7;clear HO_8;clear HO_9;clear HO_10;clear HI477;clear HB;have HO_7:=n0_;have HO_8:=n1_;have HO_9:=n2_;have HO_10:=n3_;have HO492:=n4_;have HI477:=n5_;have HB:=n6_;clear n0_ n1_ n2_ n3_ n4_ n5_ n6_;(try clear hb);(try clear hb2);(try clear hk);(try clear hi);(try clear ho0))|((with_reducible refine gate_callee (f:=54) rfl ?_);refine goesL_ (some 49) rfl rfl Try.func54 (by kernel_rfl) rfl #[.pointer (some ⟨g477,0,none⟩),.int .i64 7] rfl zq1 ?_;(with_reducible refine(spec_l1Next.calls g477 t475 t476 7 t493 t494 w _ ?side1 ?side2 A22.out).mono ?_);(case side1=>exact zq54);(case side2=>exact zq15);rintro e w34 ⟨rfl,hi,hb,hk⟩;refine⟨_,rfl,?_⟩;have n0_:=zM (Kd.R_mono (Kd.R_keep (IsS73.apart (show IsS73 w _ g477 t475 t476 from by repeat (first|(with_reducible first|exact HI477.out|apply IsS73.alloc|apply IsS73.drewN|apply IsS73.drew|apply IsS73.set_1)|exact HI477.out)) zq17 zq22) hk (fun _ h=>h.2)) (fun _ h=>h.1));have n1_:=zM (Kd.R_mono (Kd.R_keep (IsS73.apart (show IsS73 w _ g477 t475 t476 from by repeat (first|(with_reducible first|exact HI477.out|apply IsS73.alloc|apply IsS73.drewN|apply IsS73.drew|apply IsS73.set_1)|exact HI477.out)) zq25 zq22) hk (fun _ h=>h.2)) (fun _ h=>h.1));have n2_:=zM (Kd.R_mono (Kd.R_keep (IsS73.apart (show IsS73 w _ g477 t475 t476 from by repeat (first|(with_reducible first|exact HI477.out|apply IsS73.alloc|apply IsS73.drewN|apply IsS73.drew|apply IsS73.set_1)|exact HI477.out)) zq19 zq22) hk (fun _ h=>h.2)) (fun _ h=>h.1));have n3_:=zM (Kd.R_mono (Kd.R_keep (IsS73.apart (show IsS73 w _ g477 t475 t476 from by repeat (first|(with_reducible first|exact HI477.out|apply IsS73.alloc|apply IsS73.drewN|apply IsS73.drew|apply IsS73.set_1)|exact HI477.out)) zq24 zq22) hk (fun _ h=>h.2)) (fun _ h=>h.1));have n4_:=zM (Kd.R_mono (Kd.R_keep (IsS73.apart (show IsS73 w _ g477 t475 t476 from by repeat (first|(with_reducible first|exact HI477.out|apply IsS73.alloc|apply IsS73.drewN|apply IsS73.drew|apply IsS73.set_1)|exact HI477.out)) zq87 zq22) hk (fun _ h=>h.2)) (fun _ h=>h.1));have n5_:=zM (hb);have n6_:=zM (hi);clear HO_7;clear HO_8;clear HO_9;clear HO_10;clear HO492;clear HB;clear HI477;have HO_7:=n0_;have HO_8:=n1_;have HO_9:=n2_;have HO_10:=n3_;have HO492:=n4_;have HB:=n5_;have HI477:=n6_;clear n0_ n1_ n2_ n3_ n4_ n5_ n6_;(try clear hb);(try clear hb2);(try clear hk);(try clear hi)))
       have n0_:=zM (Kd.R_drew HO_7.out)
       have n1_:=zM (Kd.R_drew HO_8.out)
       have n2_:=zM (Kd.R_drew HO_9.out)
       have n3_:=zM (Kd.R_drew HO_10.out)
       have n4_:=zM (Kd.R_drew HO492.out)
       have n5_:=zM (IsS73.drew HI477.out)
       have n6_:=zM (below_drew1 HB.out)
       clear HO_7
       clear HO_8
       clear HO_9
       clear HO_10
       clear HO492
       clear HI477
       clear HB
       have HO_7:=n0_
       have HO_8:=n1_
       have HO_9:=n2_
       have HO_10:=n3_
       have HO492:=n4_
       have HI477:=n5_
       have HB:=n6_
       clear n0_ n1_ n2_ n3_ n4_ n5_ n6_
       obtain⟨Ao36,co36,eo36⟩:=Kd.R_slice HO492.out
       (first|subst eo36|(injection eo36 with f1_ f2_ f3_;have f4_:=f1_.symm;have f5_:=f3_.symm;clear f1_ f2_ f3_;subst f4_;subst f5_))
       have p497:0≤(t495:Int):=of_decide_eq_true zq7
       have q497:t495 < (t490.length:Int):=of_decide_eq_true zq7
       obtain⟨ad497,e497,hx497_0⟩:=Kd.at_int (Kd.R_reads' HO492.out).2.2 t495 p497 q497
       cases e497
       replace p497:=eq_true p497
       replace q497:=eq_true q497
       refine start_ (n:=14) (S:=fun w'=>w'.cell? (ad497.add (t495).toNat)=some (.int .u8 (rd t490 t495))) (ds:=[13]) #[false,false,false,false,false,false,false,false,false,false,false,false,false,false] (by kernel_rfl) rfl rfl (hx497_0) (fun hHeld=>?_);refine with_tabW spec_DrawOpenText.tab8 spec_DrawOpenText.bits8 (fun HT_ HW_=>?_)
       generalize w34.drew=w35 at HO_7 HO_8 HO_9 HO_10 HO492 HI477 HB hx497_0 hHeld ⊢
       refine pure_ (i:=0) (N:=some 52) (v:=?_) (a':=?_) #[true,false,false,false,false,false,false,false,false,false,false,false,false,false] rfl rfl (any_of HT_.out (by kernel_rfl)) (fun _ _ _ h=>h) (Or.inl ⟨zq138,?_⟩) ?_ ?_
       rotate_left
       ·intro w'
        go_simp
        with_reducible rfl
       rotate_left
       ·simp only[Act.put,List.setIfInBounds_toArray,List.set_cons_zero,List.set_cons_succ,i64_w,i32_w]
        rfl
       refine pure_ (i:=1) (N:=some 53) (v:=?_) (a':=?_) #[true,true,false,false,false,false,false,false,false,false,false,false,false,false] rfl rfl (any_of HT_.out (by kernel_rfl)) (fun _ _ _ h=>h) (Or.inl ⟨zq138,?_⟩) ?_ ?_
       rotate_left
       ·intro w'
        go_simp
        with_reducible rfl
       rotate_left
       ·simp only[Act.put,List.setIfInBounds_toArray,List.set_cons_zero,List.set_cons_succ,i64_w,i32_w]
        rfl
       refine pure_ (i:=2) (N:=some 54) (v:=?_) (a':=?_) #[true,true,true,false,false,false,false,false,false,false,false,false,false,false] rfl rfl (any_of HT_.out (by kernel_rfl)) (fun _ _ _ h=>h) (Or.inl ⟨zq138,?_⟩) ?_ ?_
       rotate_left
       ·intro w'
        go_simp
        with_reducible rfl
       rotate_left
       ·simp only[Act.put,List.setIfInBounds_toArray,List.set_cons_zero,List.set_cons_succ,i64_w,i32_w]
        rfl
       refine pure_ (i:=3) (N:=some 55) (v:=?_) (a':=?_) #[true,true,true,true,false,false,false,false,false,false,false,false,false,false] rfl rfl (any_of HT_.out (by kernel_rfl)) (fun _ _ _ h=>h) (Or.inl ⟨zq138,?_⟩) ?_ ?_
       rotate_left
       ·intro w'
        go_simp
        with_reducible rfl
       rotate_left
       ·simp only[Act.put,List.setIfInBounds_toArray,List.set_cons_zero,List.set_cons_succ,i64_w,i32_w]
        rfl
       refine pure_ (i:=7) (N:=some 59) (v:=?_) (a':=?_) #[true,true,true,true,false,false,false,true,false,false,false,false,false,false] rfl rfl (any_of HT_.out (by kernel_rfl)) (fun _ _ _ h=>h) (Or.inl ⟨zq138,?_⟩) ?_ ?_
       rotate_left
       ·intro w'
        go_simp
        with_reducible rfl
       rotate_left
       ·simp only[Act.put,List.setIfInBounds_toArray,List.set_cons_zero,List.set_cons_succ,i64_w,i32_w]
        rfl
       refine one_ (i:=4) (N:=some 56) #[true,true,true,true,true,false,false,true,false,false,false,false,false,false] rfl rfl (one_of HT_.out (by kernel_rfl)) zq22 (fun K hK=>?_)
       refine goes_ Try.func54 (by kernel_rfl) rfl #[.pointer (some ⟨g477,0,none⟩),.int .i64 (t490.length:Int)] zq138 rfl rfl zq1 ?_
       with_reducible refine(spec_l1Next.calls g477 t475 t494 (t490.length:Int) t495 t496 w _ ?side1 ?side2 A24.out).mono ?_
       (case side1=>exact zq54)
       (case side2=>exact zq15)
       rintro e w37 ⟨rfl,hi,hb,hk⟩
       have HS0_:=keep_cell hk (hHeld) zq174
       refine⟨_,rfl,?_⟩
       have n0_:=zM (Kd.R_mono (Kd.R_keep (IsS73.apart (show IsS73 w _ g477 t475 t494 from by repeat (first|(with_reducible first|exact HI477.out|apply IsS73.alloc|apply IsS73.drewN|apply IsS73.drew|apply IsS73.set_1)|exact HI477.out)) zq17 zq22) hk (fun _ h=>h.2)) (fun _ h=>h.1))
       have n1_:=zM (Kd.R_mono (Kd.R_keep (IsS73.apart (show IsS73 w _ g477 t475 t494 from by repeat (first|(with_reducible first|exact HI477.out|apply IsS73.alloc|apply IsS73.drewN|apply IsS73.drew|apply IsS73.set_1)|exact HI477.out)) zq25 zq22) hk (fun _ h=>h.2)) (fun _ h=>h.1))
       have n2_:=zM (Kd.R_mono (Kd.R_keep (IsS73.apart (show IsS73 w _ g477 t475 t494 from by repeat (first|(with_reducible first|exact HI477.out|apply IsS73.alloc|apply IsS73.drewN|apply IsS73.drew|apply IsS73.set_1)|exact HI477.out)) zq19 zq22) hk (fun _ h=>h.2)) (fun _ h=>h.1))
       have n3_:=zM (Kd.R_mono (Kd.R_keep (IsS73.apart (show IsS73 w _ g477 t475 t494 from by repeat (first|(with_reducible first|exact HI477.out|apply IsS73.alloc|apply IsS73.drewN|apply IsS73.drew|apply IsS73.set_1)|exact HI477.out)) zq24 zq22) hk (fun _ h=>h.2)) (fun _ h=>h.1))
       have n4_:=zM (Kd.R_mono (Kd.R_keep (IsS73.apart (show IsS73 w _ g477 t475 t494 from by repeat (first|(with_reducible first|exact HI477.out|apply IsS73.alloc|apply IsS73.drewN|apply IsS73.drew|apply IsS73.set_1)|exact HI477.out)) zq87 zq22) hk (fun _ h=>h.2)) (fun _ h=>h.1))
       have n5_:=zM (hb)
       have n6_:=zM (hi)
       clear HO_7
       clear HO_8
       clear HO_9
       clear HO_10
       clear HO492
       clear HB
       clear HI477
       have HO_7:=n0_
       have HO_8:=n1_
       have HO_9:=n2_
       have HO_10:=n3_
       have HO492:=n4_
       have HB:=n5_
       have HI477:=n6_
       clear n0_ n1_ n2_ n3_ n4_ n5_ n6_
       (try clear hb)
       (try clear hb2)
       (try clear hk)
       (try clear hi)
       refine hK.out _ _ (HS0_) (fun hHeld=>?_)
       clear hK K
       refine norm_ (a':=?_) ?_ ?_
       rotate_left
       ·show Act.put _ (some 56) _=_
        simp only[Act.put,List.setIfInBounds_toArray,List.set_cons_zero,List.set_cons_succ,i64_w,i32_w]
        rfl
       refine pure_ (i:=5) (N:=some 57) (v:=?_) (a':=?_) #[true,true,true,true,true,true,false,true,false,false,false,false,false,false] rfl rfl (any_of HT_.out (by kernel_rfl)) (fun _ _ _ h=>h) (Or.inl ⟨zq138,?_⟩) ?_ ?_
       rotate_left
       ·intro w'
        go_simp
        with_reducible rfl
       rotate_left
       ·simp only[Act.put,List.setIfInBounds_toArray,List.set_cons_zero,List.set_cons_succ,i64_w,i32_w]
        rfl
       refine take_ (i:=6) (N:=some 58) (v:=?_) (a':=?_) #[true,true,true,true,true,true,true,true,false,false,false,false,false,false] rfl rfl (take_ofW HT_.out HW_.out (by kernel_rfl)) (fun _ _ _ h=>h) (Or.inl ⟨zq138,?_⟩) hHeld ?_ ?_
       rotate_left
       ·intro w' s0
        go_simp
        with_reducible rfl
       rotate_left
       ·simp only[Act.put,List.setIfInBounds_toArray,List.set_cons_zero,List.set_cons_succ,i64_w,i32_w]
        rfl
       refine one_ (i:=8) (N:=some 60) #[true,true,true,true,true,true,true,true,true,false,false,false,false,false] rfl rfl (one_of HT_.out (by kernel_rfl)) zq22 (fun K hK=>?_)
       refine goes_ Try.func54 (by kernel_rfl) rfl #[.pointer (some ⟨g477,0,none⟩),.int .i64 255] zq138 rfl rfl zq1 ?_
       with_reducible refine(spec_l1Next.calls g477 t475 t496 255 t498 t499 w _ ?side1 ?side2 A27.out).mono ?_
       (case side1=>exact zq54)
       (case side2=>exact zq15)
       rintro e w38 ⟨rfl,hi,hb,hk⟩
       have HS0_:=keep_cell hk (hHeld) zq174
       refine⟨_,rfl,?_⟩
       have n0_:=zM (Kd.R_mono (Kd.R_keep (IsS73.apart (show IsS73 w _ g477 t475 t496 from by repeat (first|(with_reducible first|exact HI477.out|apply IsS73.alloc|apply IsS73.drewN|apply IsS73.drew|apply IsS73.set_1)|exact HI477.out)) zq17 zq22) hk (fun _ h=>h.2)) (fun _ h=>h.1))
       have n1_:=zM (Kd.R_mono (Kd.R_keep (IsS73.apart (show IsS73 w _ g477 t475 t496 from by repeat (first|(with_reducible first|exact HI477.out|apply IsS73.alloc|apply IsS73.drewN|apply IsS73.drew|apply IsS73.set_1)|exact HI477.out)) zq25 zq22) hk (fun _ h=>h.2)) (fun _ h=>h.1))
       have n2_:=zM (Kd.R_mono (Kd.R_keep (IsS73.apart (show IsS73 w _ g477 t475 t496 from by repeat (first|(with_reducible first|exact HI477.out|apply IsS73.alloc|apply IsS73.drewN|apply IsS73.drew|apply IsS73.set_1)|exact HI477.out)) zq19 zq22) hk (fun _ h=>h.2)) (fun _ h=>h.1))
       have n3_:=zM (Kd.R_mono (Kd.R_keep (IsS73.apart (show IsS73 w _ g477 t475 t496 from by repeat (first|(with_reducible first|exact HI477.out|apply IsS73.alloc|apply IsS73.drewN|apply IsS73.drew|apply IsS73.set_1)|exact HI477.out)) zq24 zq22) hk (fun _ h=>h.2)) (fun _ h=>h.1))
       have n4_:=zM (Kd.R_mono (Kd.R_keep (IsS73.apart (show IsS73 w _ g477 t475 t496 from by repeat (first|(with_reducible first|exact HI477.out|apply IsS73.alloc|apply IsS73.drewN|apply IsS73.drew|apply IsS73.set_1)|exact HI477.out)) zq87 zq22) hk (fun _ h=>h.2)) (fun _ h=>h.1))
       have n5_:=zM (hb)
       have n6_:=zM (hi)
       clear HO_7
       clear HO_8
       clear HO_9
       clear HO_10
       clear HO492
       clear HB
       clear HI477
       have HO_7:=n0_
       have HO_8:=n1_
       have HO_9:=n2_
       have HO_10:=n3_
       have HO492:=n4_
       have HB:=n5_
       have HI477:=n6_
       clear n0_ n1_ n2_ n3_ n4_ n5_ n6_
       (try clear hb)
       (try clear hb2)
       (try clear hk)
       (try clear hi)
       have p28:0≤(t495:Int):=of_decide_eq_true zq7
       have q28:(t495:Int) < ((t490.length:Int):Int):=of_decide_eq_true zq7
       obtain⟨go28,co28,eo28,gb28,gl28,cl28,HG28⟩:=Kd.R_form HO492.out zq9
       (first|cases eo28|(injection eo28 with ea_ en_ ec_;(first|subst ea_|(injection ea_ with ea_;subst ea_));subst ec_;clear en_))
       have GB28:=zM gb28
       have GG28:=zM HG28
       clear gb28 gl28 HG28
       (first|simp only[add_plain] at hx497_0|skip)
       obtain⟨hx28_0,hf28_0⟩:=Kd.R_celln 0 HO492.out (t495:Int) p28 q28
       replace p28:=eq_true p28
       replace q28:=eq_true q28
       have HN477_go28:=zM (show g477≠go28 from by have h_:=IsS73.own_ne HI477.out HO492.out zq22;intro e_;exact h_ (by rw[e_];rfl))
       have HP39:=Kd.R_putn HO492.out (t495:Int) (Go.bits .xor .u8 (rd t490 t495) ((wrap64 (1+t498)) % 256))
       rw[← Ny500.out] at HP39
       have HQ39:=zM HP39
       clear HP39
       refine hK.out _ _ (HS0_) (fun hHeld=>?_)
       clear hK K
       refine norm_ (a':=?_) ?_ ?_
       rotate_left
       ·show Act.put _ (some 60) _=_
        simp only[Act.put,List.setIfInBounds_toArray,List.set_cons_zero,List.set_cons_succ,i64_w,i32_w]
        rfl
       refine pure_ (i:=9) (N:=some 61) (v:=?_) (a':=?_) #[true,true,true,true,true,true,true,true,true,true,false,false,false,false] rfl rfl (any_of HT_.out (by kernel_rfl)) (fun _ _ _ h=>h) (Or.inl ⟨zq138,?_⟩) ?_ ?_
       rotate_left
       ·intro w'
        go_simp
        with_reducible rfl
       rotate_left
       ·simp only[Act.put,List.setIfInBounds_toArray,List.set_cons_zero,List.set_cons_succ,i64_w,i32_w]
        rfl
       refine pure_ (i:=10) (N:=some 62) (v:=?_) (a':=?_) #[true,true,true,true,true,true,true,true,true,true,true,false,false,false] rfl rfl (any_of HT_.out (by kernel_rfl)) (fun _ _ _ h=>h) (Or.inl ⟨zq138,?_⟩) ?_ ?_
       rotate_left
       ·intro w'
        go_simp
        with_reducible rfl
       rotate_left
       ·simp only[Act.put,List.setIfInBounds_toArray,List.set_cons_zero,List.set_cons_succ,i64_w,i32_w]
        rfl
       refine pure_ (i:=11) (N:=some 63) (v:=?_) (a':=?_) #[true,true,true,true,true,true,true,true,true,true,true,true,false,false] rfl rfl (any_of HT_.out (by kernel_rfl)) (fun _ _ _ h=>h) (Or.inl ⟨zq138,?_⟩) ?_ ?_
       rotate_left
       ·intro w'
        go_simp
        with_reducible rfl
       rotate_left
       ·simp only[Act.put,List.setIfInBounds_toArray,List.set_cons_zero,List.set_cons_succ,i64_w,i32_w]
        rfl
       refine pure_ (i:=12) (N:=some 64) (v:=?_) (a':=?_) #[true,true,true,true,true,true,true,true,true,true,true,true,true,false] rfl rfl (any_of HT_.out (by kernel_rfl)) (fun _ _ _ h=>h) (Or.inl ⟨zq138,?_⟩) ?_ ?_
       rotate_left
       ·intro w'
        go_simp
        with_reducible rfl
       rotate_left
       ·simp only[Act.put,List.setIfInBounds_toArray,List.set_cons_zero,List.set_cons_succ,i64_w,i32_w]
        rfl
       refine last_ (i:=13) (N:=none) #[true,true,true,true,true,true,true,true,true,true,true,true,true,true] rfl rfl (one_of HT_.out (by kernel_rfl)) zq22 (fun K hK=>?_)
       refine skip_ (w1:=?_) zq138 rfl ?_ ?_
       rotate_left
       ·go_simp
        rfl
       refine hK.out _ _ ?_
       clear hK K
       refine done_ (done_of HT_.out (by kernel_rfl)) ?_
       try go_wp2
       refine bodyPost_ret (results_list (rs:=[.tmp 2,.tmp 3,.tmp 4,.tmp 5]) rfl zq101 (.tmp (.tmp (.tmp (.tmp .nil))))) rfl ?_
       exact⟨_,_,_,_,zq14,by(with_reducible repeat (first|apply Kd.R_alloc|apply Kd.R_drewN|apply Kd.R_drew));exact Kd.R_mono (Kd.R_far (p:=⟨go28,(t495:Int).toNat,none⟩) (Kd.R_mono HO_7.out (fun k_ hk=>(⟨hk,fun e_=>hk.2 (by rw[e_];rfl)⟩:_∧k_≠go28))) (fun _ hk=>hk.2) (.int .u8 (Go.bits .xor .u8 (rd t490 t495) ((wrap64 (1+t498)) % 256)))) (fun _ hk=>⟨hk.1.1.1,⟨hk.1.1.2.1,hk.1.2⟩⟩),by(with_reducible repeat (first|apply Kd.R_alloc|apply Kd.R_drewN|apply Kd.R_drew));exact Kd.R_mono (Kd.R_far (p:=⟨go28,(t495:Int).toNat,none⟩) (Kd.R_mono HO_8.out (fun k_ hk=>(⟨hk,fun e_=>hk.2 (by rw[e_];rfl)⟩:_∧k_≠go28))) (fun _ hk=>hk.2) (.int .u8 (Go.bits .xor .u8 (rd t490 t495) ((wrap64 (1+t498)) % 256)))) (fun _ hk=>⟨hk.1.1.1,⟨hk.1.1.2.1,hk.1.2⟩⟩),by(with_reducible repeat (first|apply Kd.R_alloc|apply Kd.R_drewN|apply Kd.R_drew));exact Kd.R_mono (Kd.R_far (p:=⟨go28,(t495:Int).toNat,none⟩) (Kd.R_mono HO_9.out (fun k_ hk=>(⟨hk,fun e_=>hk.2 (by rw[e_];rfl)⟩:_∧k_≠go28))) (fun _ hk=>hk.2) (.int .u8 (Go.bits .xor .u8 (rd t490 t495) ((wrap64 (1+t498)) % 256)))) (fun _ hk=>⟨hk.1.1.1,⟨hk.1.1.2.1,hk.1.2⟩⟩),by(with_reducible repeat (first|apply Kd.R_alloc|apply Kd.R_drewN|apply Kd.R_drew));exact Kd.R_mono HQ39.out (fun _ hk=>⟨hk.1.1.1.2,⟨hk.1.1.2,hk.1.2⟩⟩),by repeat (first|(with_reducible first|exact HB.out|apply below_alloc|apply pw_below_drewN|apply below_drew1|refine below_set ?_ GB28.out|refine below_set ?_ (IsS73.ge HI477.out))|exact HB.out)⟩
      ·rw[if_neg c26] at H
       exact absurd H zq101
     ·rw[if_neg c25] at H
      exact absurd H zq101
    ·rw[if_neg c23] at H
     have c23b0:(t493 == 0)=false:=beq_eq_false_iff_ne.mpr c23
     have c23b1:(t493 != 0)=true:=bne_iff_ne.mpr c23
     by_cases c40:t493=1
     ·rw[if_pos c40] at H
      have c40b0:(t493 == 1)=true:=beq_iff_eq.mpr c40
      have c40b1:(t493 != 1)=false:=bne_eq_false_iff_eq.mpr c40
      clear c40
      replace H:=Option.bind_eq_some_iff.mp H
      obtain⟨⟨t501,t502⟩,A410,H⟩:=H
      replace H:(if 0≤t501 then (if t501≤(t490.length:Int) then (some (t478,t479,t480,(t490.take (t501:Int).toNat))) else (none)) else (none))=some (r1,r2,r3,r4):=H
      have A41:=zM A410
      clear A410
      by_cases c42:0≤t501
      ·rw[if_pos c42] at H
       have c42b0:=eq_true c42
       have c42b1:decide (0≤t501)=true:=decide_eq_true c42
       clear c42
       by_cases c43:t501≤(t490.length:Int)
       ·rw[if_pos c43] at H
        have c43b0:=eq_true c43
        have c43b1:decide (t501≤(t490.length:Int))=true:=decide_eq_true c43
        clear c43
        obtain⟨y503,hy503⟩:∃ y_:List Int,y_=(t490.take (t501:Int).toNat):=⟨_,rfl⟩
        replace H:(some (t478,t479,t480,y503))=some (r1,r2,r3,r4):=by first|(rw[hy503];with_reducible exact H)|(have H2_:=(Option.bind_some _ _).symm.trans H;rw[hy503];with_reducible exact H2_)|(have H2_:=(Option.bind_some _ _).symm.trans H;with_reducible exact H2_)|with_reducible exact H|(rw[hy503];exact H)|exact H
        have Ny503:=zM hy503
        clear hy503
        simp only[Option.some.injEq,Prod.mk.injEq] at H
        obtain⟨rfl,rfl,rfl,rfl⟩:=H
        obtain⟨Ao44,co44,eo44⟩:=Kd.R_slice HO_7.out
        subst eo44
        obtain⟨Ao45,co45,eo45⟩:=Kd.R_slice HO_8.out
        subst eo45
        obtain⟨Ao46,co46,eo46⟩:=Kd.R_slice HO_9.out
        subst eo46
        obtain⟨Ao47,co47,eo47⟩:=Kd.R_slice HO_10.out
        subst eo47
        go_wp2_with (first|((with_reducible refine gate_callee (f:=53) rfl ?_);refine goesL_ (some 47) rfl rfl Try.func53 (by kernel_rfl) rfl #[.slice Ao44 t478.length co44,.slice Ao45 t479.length co45,.slice Ao46 t480.length co46,.slice Ao47 t481.length co47] rfl zq1 ?_;(with_reducible refine(spec_l3Seal.calls kj3 _ _ t478 _ _ t479 _ _ t480 _ _ t481 t490 _ ?side1 ?side2 ?side3 ?side4 ?side5 ?side6 ?side7 ?side8 A21.out).mono ?_);(case side1=>exact zq111);(case side2=>exact(Kd.R_reads' HO_7.out).2.1);(case side3=>exact zq112);(case side4=>exact(Kd.R_reads' HO_8.out).2.1);(case side5=>exact zq113);(case side6=>exact(Kd.R_reads' HO_9.out).2.1);(case side7=>exact zq110);(case side8=>exact(Kd.R_reads' HO_10.out).2.1);rintro e w48 ⟨v491,rfl,ho0,hb⟩;refine⟨_,rfl,?_⟩;have n0_:=zM (Kd.R_elder' zq17 (Kd.R_base ho0) hb);have n1_:=zM (Kd.R_elder' zq25 (Kd.R_base ho0) hb);have n2_:=zM (Kd.R_elder' zq19 (Kd.R_base ho0) hb);have n3_:=zM (Kd.R_elder' zq24 (Kd.R_base ho0) hb);have n4_:=zM (Kd.R_lower (Kd.R_new' (Kd.R_new' (Kd.R_new' (Kd.R_new' ho0 (Kd.R_lt zq17)) (Kd.R_lt zq25)) (Kd.R_lt zq19)) (Kd.R_lt zq24)) (below_size zq15));have n5_:=zM (IsS73.below zq54 hb);have n6_:=zM (below_step zq15 hb);clear HO_7;clear HO_8;clear HO_9;clear HO_10;clear HI477;clear HB;have HO_7:=n0_;have HO_8:=n1_;have HO_9:=n2_;have HO_10:=n3_;have HO492:=n4_;have HI477:=n5_;have HB:=n6_;clear n0_ n1_ n2_ n3_ n4_ n5_ n6_;(try clear hb);(try clear hb2);(try clear hk);(try clear hi);(try clear ho0))|((with_reducible refine gate_callee (f:=54) rfl ?_);refine goesL_ (some 49) rfl rfl Try.func54 (by kernel_rfl) rfl #[.pointer (some ⟨g477,0,none⟩),.int .i64 7] rfl zq1 ?_;(with_reducible refine(spec_l1Next.calls g477 t475 t476 7 t493 t494 w _ ?side1 ?side2 A22.out).mono ?_);(case side1=>exact zq54);(case side2=>exact zq15);rintro e w49 ⟨rfl,hi,hb,hk⟩;refine⟨_,rfl,?_⟩;have n0_:=zM (Kd.R_mono (Kd.R_keep (IsS73.apart (show IsS73 w _ g477 t475 t476 from by repeat (first|(with_reducible first|exact HI477.out|apply IsS73.alloc|apply IsS73.drewN|apply IsS73.drew|apply IsS73.set_1)|exact HI477.out)) zq17 zq22) hk (fun _ h=>h.2)) (fun _ h=>h.1));have n1_:=zM (Kd.R_mono (Kd.R_keep (IsS73.apart (show IsS73 w _ g477 t475 t476 from by repeat (first|(with_reducible first|exact HI477.out|apply IsS73.alloc|apply IsS73.drewN|apply IsS73.drew|apply IsS73.set_1)|exact HI477.out)) zq25 zq22) hk (fun _ h=>h.2)) (fun _ h=>h.1));have n2_:=zM (Kd.R_mono (Kd.R_keep (IsS73.apart (show IsS73 w _ g477 t475 t476 from by repeat (first|(with_reducible first|exact HI477.out|apply IsS73.alloc|apply IsS73.drewN|apply IsS73.drew|apply IsS73.set_1)|exact HI477.out)) zq19 zq22) hk (fun _ h=>h.2)) (fun _ h=>h.1));have n3_:=zM (Kd.R_mono (Kd.R_keep (IsS73.apart (show IsS73 w _ g477 t475 t476 from by repeat (first|(with_reducible first|exact HI477.out|apply IsS73.alloc|apply IsS73.drewN|apply IsS73.drew|apply IsS73.set_1)|exact HI477.out)) zq24 zq22) hk (fun _ h=>h.2)) (fun _ h=>h.1));have n4_:=zM (Kd.R_mono (Kd.R_keep (IsS73.apart (show IsS73 w _ g477 t475 t476 from by repeat (first|(with_reducible first|exact HI477.out|apply IsS73.alloc|apply IsS73.drewN|apply IsS73.drew|apply IsS73.set_1)|exact HI477.out)) zq87 zq22) hk (fun _ h=>h.2)) (fun _ h=>h.1));have n5_:=zM (hb);have n6_:=zM (hi);clear HO_7;clear HO_8;clear HO_9;clear HO_10;clear HO492;clear HB;clear HI477;have HO_7:=n0_;have HO_8:=n1_;have HO_9:=n2_;have HO_10:=n3_;have HO492:=n4_;have HB:=n5_;have HI477:=n6_;clear n0_ n1_ n2_ n3_ n4_ n5_ n6_;(try clear hb);(try clear hb2);(try clear hk);(try clear hi);obtain⟨Ao50,co50,eo50⟩:=Kd.R_slice HO492.out;subst eo50)|((with_reducible refine gate_callee (f:=54) rfl ?_);refine goesL_ (some 71) rfl rfl Try.func54 (by kernel_rfl) rfl #[.pointer (some ⟨g477,0,none⟩),.int .i64 (t490.length:Int)] rfl zq1 ?_;(with_reducible refine(spec_l1Next.calls g477 t475 t494 (t490.length:Int) t501 t502 w _ ?side1 ?side2 A41.out).mono ?_);(case side1=>exact zq54);(case side2=>exact zq15);rintro e w51 ⟨rfl,hi,hb,hk⟩;refine⟨_,rfl,?_⟩;have n0_:=zM (Kd.R_mono (Kd.R_keep (IsS73.apart (show IsS73 w _ g477 t475 t494 from by repeat (first|(with_reducible first|exact HI477.out|apply IsS73.alloc|apply IsS73.drewN|apply IsS73.drew|apply IsS73.set_1)|exact HI477.out)) zq17 zq22) hk (fun _ h=>h.2)) (fun _ h=>h.1));have n1_:=zM (Kd.R_mono (Kd.R_keep (IsS73.apart (show IsS73 w _ g477 t475 t494 from by repeat (first|(with_reducible first|exact HI477.out|apply IsS73.alloc|apply IsS73.drewN|apply IsS73.drew|apply IsS73.set_1)|exact HI477.out)) zq25 zq22) hk (fun _ h=>h.2)) (fun _ h=>h.1));have n2_:=zM (Kd.R_mono (Kd.R_keep (IsS73.apart (show IsS73 w _ g477 t475 t494 from by repeat (first|(with_reducible first|exact HI477.out|apply IsS73.alloc|apply IsS73.drewN|apply IsS73.drew|apply IsS73.set_1)|exact HI477.out)) zq19 zq22) hk (fun _ h=>h.2)) (fun _ h=>h.1));have n3_:=zM (Kd.R_mono (Kd.R_keep (IsS73.apart (show IsS73 w _ g477 t475 t494 from by repeat (first|(with_reducible first|exact HI477.out|apply IsS73.alloc|apply IsS73.drewN|apply IsS73.drew|apply IsS73.set_1)|exact HI477.out)) zq24 zq22) hk (fun _ h=>h.2)) (fun _ h=>h.1));have n4_:=zM (Kd.R_mono (Kd.R_keep (IsS73.apart (show IsS73 w _ g477 t475 t494 from by repeat (first|(with_reducible first|exact HI477.out|apply IsS73.alloc|apply IsS73.drewN|apply IsS73.drew|apply IsS73.set_1)|exact HI477.out)) zq87 zq22) hk (fun _ h=>h.2)) (fun _ h=>h.1));have n5_:=zM (hb);have n6_:=zM (hi);clear HO_7;clear HO_8;clear HO_9;clear HO_10;clear HO492;clear HB;clear HI477;have HO_7:=n0_;have HO_8:=n1_;have HO_9:=n2_;have HO_10:=n3_;have HO492:=n4_;have HB:=n5_;have HI477:=n6_;clear n0_ n1_ n2_ n3_ n4_ n5_ n6_;(try clear hb);(try clear hb2);(try clear hk);(try clear hi);have q52:(t501:Int)≤((t490.length:Int):Int):=of_decide_eq_true zq7;obtain⟨i052,hi052,_,hsz52,_⟩:=info_parts info5;have hcut52:=cut_to (P:=Try.prog) 22 5 .i64 Try.underlying22 hi052 Ao50 t490.length co50 t501 (of_decide_eq_true zq7) q52 (Kd.R_reads' HO492.out).2.1;have hr52:=Kd.R_take (m:=(t501:Int).toNat) HO492.out zq9;have hy52:y503.length=(t501:Int).toNat:=(by rw[Ny503.out,List.length_take];omega);rw[← Ny503.out] at hr52;rw[← hy52] at hr52 hcut52;clear hy52 hi052 hsz52 HO492;have HO505:=zM hr52;clear hr52;replace q52:=eq_true q52))
        refine bodyPost_ret (results_list (rs:=[.tmp 2,.tmp 3,.tmp 4,.tmp 5]) rfl zq101 (.tmp (.tmp (.tmp (.tmp .nil))))) rfl ?_
        exact⟨_,_,_,_,zq14,zq191,zq192,zq193,by(with_reducible repeat (first|apply Kd.R_alloc|apply Kd.R_drewN|apply Kd.R_drew));exact Kd.R_mono HO505.out (fun _ hk=>⟨hk.1.1.1.2,⟨hk.1.1.2,hk.1.2⟩⟩),zq15⟩
       ·rw[if_neg c43] at H
        exact absurd H zq101
      ·rw[if_neg c42] at H
       exact absurd H zq101
     ·rw[if_neg c40] at H
      have c40b0:(t493 == 1)=false:=beq_eq_false_iff_ne.mpr c40
      have c40b1:(t493 != 1)=true:=bne_iff_ne.mpr c40
      by_cases c53:t493=2
      ·rw[if_pos c53] at H
       have c53b0:(t493 == 2)=true:=beq_iff_eq.mpr c53
       have c53b1:(t493 != 2)=false:=bne_eq_false_iff_eq.mpr c53
       clear c53
       by_cases c54:0 < (t479.length:Int)
       ·rw[if_pos c54] at H
        have c54b0:decide (0 < (t479.length:Int))=true:=decide_eq_true c54
        have c54b1:decide (0 < t479.length)=true:=decide_eq_true zq9
        clear c54
        obtain⟨y507,hy507⟩:∃ y_:List Int,y_=(t479.set (0:Int).toNat (Go.bits .xor .u8 (rd t479 0) 1)):=⟨_,rfl⟩
        replace H:(some (t478,y507,t480,t490))=some (r1,r2,r3,r4):=by first|(rw[hy507];with_reducible exact H)|(have H2_:=(Option.bind_some _ _).symm.trans H;rw[hy507];with_reducible exact H2_)|(have H2_:=(Option.bind_some _ _).symm.trans H;with_reducible exact H2_)|with_reducible exact H|(rw[hy507];exact H)|exact H
        have Ny507:=zM hy507
        clear hy507
        simp only[Option.some.injEq,Prod.mk.injEq] at H
        obtain⟨rfl,rfl,rfl,rfl⟩:=H
        obtain⟨Ao56,co56,eo56⟩:=Kd.R_slice HO_7.out
        subst eo56
        obtain⟨Ao57,co57,eo57⟩:=Kd.R_slice HO_8.out
        subst eo57
        obtain⟨Ao58,co58,eo58⟩:=Kd.R_slice HO_9.out
        subst eo58
        obtain⟨Ao59,co59,eo59⟩:=Kd.R_slice HO_10.out
        subst eo59
        go_wp2_with (first|((with_reducible refine gate_callee (f:=53) rfl ?_);refine goesL_ (some 47) rfl rfl Try.func53 (by kernel_rfl) rfl #[.slice Ao56 t478.length co56,.slice Ao57 t479.length co57,.slice Ao58 t480.length co58,.slice Ao59 t481.length co59] rfl zq1 ?_;(with_reducible refine(spec_l3Seal.calls kj3 _ _ t478 _ _ t479 _ _ t480 _ _ t481 t490 _ ?side1 ?side2 ?side3 ?side4 ?side5 ?side6 ?side7 ?side8 A21.out).mono ?_);(case side1=>exact zq111);(case side2=>exact(Kd.R_reads' HO_7.out).2.1);(case side3=>exact zq112);(case side4=>exact(Kd.R_reads' HO_8.out).2.1);(case side5=>exact zq113);(case side6=>exact(Kd.R_reads' HO_9.out).2.1);(case side7=>exact zq110);(case side8=>exact(Kd.R_reads' HO_10.out).2.1);rintro e w60 ⟨v491,rfl,ho0,hb⟩;refine⟨_,rfl,?_⟩;have n0_:=zM (Kd.R_elder' zq17 (Kd.R_base ho0) hb);have n1_:=zM (Kd.R_elder' zq25 (Kd.R_base ho0) hb);have n2_:=zM (Kd.R_elder' zq19 (Kd.R_base ho0) hb);have n3_:=zM (Kd.R_elder' zq24 (Kd.R_base ho0) hb);have n4_:=zM (Kd.R_lower (Kd.R_new' (Kd.R_new' (Kd.R_new' (Kd.R_new' ho0 (Kd.R_lt zq17)) (Kd.R_lt zq25)) (Kd.R_lt zq19)) (Kd.R_lt zq24)) (below_size zq15));have n5_:=zM (IsS73.below zq54 hb);have n6_:=zM (below_step zq15 hb);clear HO_7;clear HO_8;clear HO_9;clear HO_10;clear HI477;clear HB;have HO_7:=n0_;have HO_8:=n1_;have HO_9:=n2_;have HO_10:=n3_;have HO492:=n4_;have HI477:=n5_;have HB:=n6_;clear n0_ n1_ n2_ n3_ n4_ n5_ n6_;(try clear hb);(try clear hb2);(try clear hk);(try clear hi);(try clear ho0))|((with_reducible refine gate_callee (f:=54) rfl ?_);refine goesL_ (some 49) rfl rfl Try.func54 (by kernel_rfl) rfl #[.pointer (some ⟨g477,0,none⟩),.int .i64 7] rfl zq1 ?_;(with_reducible refine(spec_l1Next.calls g477 t475 t476 7 t493 t494 w _ ?side1 ?side2 A22.out).mono ?_);(case side1=>exact zq54);(case side2=>exact zq15);rintro e w61 ⟨rfl,hi,hb,hk⟩;refine⟨_,rfl,?_⟩;have n0_:=zM (Kd.R_mono (Kd.R_keep (IsS73.apart (show IsS73 w _ g477 t475 t476 from by repeat (first|(with_reducible first|exact HI477.out|apply IsS73.alloc|apply IsS73.drewN|apply IsS73.drew|apply IsS73.set_1)|exact HI477.out)) zq17 zq22) hk (fun _ h=>h.2)) (fun _ h=>h.1));have n1_:=zM (Kd.R_mono (Kd.R_keep (IsS73.apart (show IsS73 w _ g477 t475 t476 from by repeat (first|(with_reducible first|exact HI477.out|apply IsS73.alloc|apply IsS73.drewN|apply IsS73.drew|apply IsS73.set_1)|exact HI477.out)) zq25 zq22) hk (fun _ h=>h.2)) (fun _ h=>h.1));have n2_:=zM (Kd.R_mono (Kd.R_keep (IsS73.apart (show IsS73 w _ g477 t475 t476 from by repeat (first|(with_reducible first|exact HI477.out|apply IsS73.alloc|apply IsS73.drewN|apply IsS73.drew|apply IsS73.set_1)|exact HI477.out)) zq19 zq22) hk (fun _ h=>h.2)) (fun _ h=>h.1));have n3_:=zM (Kd.R_mono (Kd.R_keep (IsS73.apart (show IsS73 w _ g477 t475 t476 from by repeat (first|(with_reducible first|exact HI477.out|apply IsS73.alloc|apply IsS73.drewN|apply IsS73.drew|apply IsS73.set_1)|exact HI477.out)) zq24 zq22) hk (fun _ h=>h.2)) (fun _ h=>h.1));have n4_:=zM (Kd.R_mono (Kd.R_keep (IsS73.apart (show IsS73 w _ g477 t475 t476 from by repeat (first|(with_reducible first|exact HI477.out|apply IsS73.alloc|apply IsS73.drewN|apply IsS73.drew|apply IsS73.set_1)|exact HI477.out)) zq87 zq22) hk (fun _ h=>h.2)) (fun _ h=>h.1));have n5_:=zM (hb);have n6_:=zM (hi);clear HO_7;clear HO_8;clear HO_9;clear HO_10;clear HO492;clear HB;clear HI477;have HO_7:=n0_;have HO_8:=n1_;have HO_9:=n2_;have HO_10:=n3_;have HO492:=n4_;have HB:=n5_;have HI477:=n6_;clear n0_ n1_ n2_ n3_ n4_ n5_ n6_;(try clear hb);(try clear hb2);(try clear hk);(try clear hi);have p506:0≤(0:Int):=zq9;have q506:0 < (t479.length:Int):=of_decide_eq_true zq7;obtain⟨ad506,e506,hx506_0⟩:=Kd.at_int (Kd.R_reads' HO_8.out).2.2 0 p506 q506;cases e506;have qi506:(0 < t479.length)=True:=eq_true zq9;(try rw[show ((0:Int)).toNat=0 from rfl] at hx506_0);(try rw[Addr.add_zero'] at hx506_0);replace p506:=eq_true p506;replace q506:=eq_true q506;have p55:0≤(0:Int):=zq9;have q55:(0:Int) < ((t479.length:Int):Int):=of_decide_eq_true zq7;have qi55:(0 < t479.length)=True:=eq_true zq9;obtain⟨go55,co55,eo55,gb55,gl55,cl55,HG55⟩:=Kd.R_form HO_8.out zq9;(first|cases eo55|(injection eo55 with ea_ en_ ec_;(first|subst ea_|(injection ea_ with ea_;subst ea_));subst ec_;clear en_));have GB55:=zM gb55;have GG55:=zM HG55;clear gb55 gl55 HG55;(first|simp only[add_plain] at hx506_0|skip);obtain⟨hx55_0,hf55_0⟩:=Kd.R_celln 0 HO_8.out (0:Int) p55 q55;(try rw[show ((0:Int)).toNat=0 from rfl] at hx55_0);(try simp only[Nat.reduceMul,Nat.zero_mul,Nat.zero_add,Nat.reduceAdd] at hx55_0);(try rw[show ((0:Int)).toNat=0 from rfl] at hf55_0);(try simp only[Nat.reduceMul,Nat.zero_mul,Nat.zero_add,Nat.reduceAdd] at hf55_0);replace p55:=eq_true p55;replace q55:=eq_true q55;have n_:=zM (Kd.R_mono (ok':=(fun k_=>some k_≠(.slice Ao56 t478.length co56:Value).ownBlock∧some k_≠(.slice Ao58 t480.length co58:Value).ownBlock∧some k_≠(.slice Ao59 t481.length co59:Value).ownBlock∧some k_≠(v491:Value).ownBlock)) HO_8.out (fun k_ hk=>⟨hk.1.1,⟨hk.1.2.1,⟨hk.1.2.2,hk.2⟩⟩⟩));clear HO_8;have HO_8:=n_;clear n_;obtain⟨hy62_,hz62_⟩:=Kd.R_celln 0 HO_8.out (0:Int) zq9 (of_decide_eq_true zq7);(try simp only[Int.reduceToNat,Int.toNat_zero,Int.toNat_ofNat,Nat.reduceMul,Nat.zero_mul,Nat.zero_add] at hy62_ hz62_);(try rw[show ((0:Int)).toNat=0 from rfl] at hy62_);(try rw[show ((0:Int)).toNat=0 from rfl] at hz62_);have HP62:=Kd.R_putg HO_8.out (0:Int) (Go.bits .xor .u8 (rd t479 0) 1))|((with_reducible refine gate_store (t:=5) (p:=79) rfl ?_);refine store_event (t:=5) (p:=79) (v:=?vo_w63) (w1:=(w61.setCell ⟨go55,(0:Int).toNat,none⟩ (.int .u8 (Go.bits .xor .u8 (rd t479 0) 1)))) ?hg ?ho ?hn ?hr ?_;(case ho=>rfl);(case hg=>rfl);(case hn=>rfl);(case hr=>first|(go_simp;done)|(go_simp;rfl));intro w63 hw;have hg:w61.grownBy w63 (some go55):=(by rw[hw];exact HP62.2);have hp_:Kd.R (Kd.int .u8) 5 w63 w.heap.size (fun k_=>some k_≠(.slice Ao56 t478.length co56:Value).ownBlock∧some k_≠(.slice Ao58 t480.length co58:Value).ownBlock∧some k_≠(.slice Ao59 t481.length co59:Value).ownBlock∧some k_≠(v491:Value).ownBlock) (.slice (some ⟨go55,0,none⟩) t479.length co57) y507:=(by rw[hw,Ny507.out];exact HP62.1);clear HP62;have n0_:=zM (Kd.R_after (v:=(.slice (some ⟨go55,0,none⟩) t479.length co57)) (v1:=(.slice (some ⟨go55,0,none⟩) t479.length co57)) (ok:=(fun k_=>some k_≠(.slice Ao58 t480.length co58:Value).ownBlock∧some k_≠(.slice Ao59 t481.length co59:Value).ownBlock∧some k_≠(v491:Value).ownBlock)) (by(with_reducible repeat (first|apply Kd.R_alloc|apply Kd.R_drewN|apply Kd.R_drew));exact Kd.R_mono HO_7.out (fun _ hk=>⟨⟨hk.1.2.1,⟨hk.1.2.2,hk.2⟩⟩,hk.1.1⟩)) hg (.inl rfl));have n1_:=zM (hp_);have n2_:=zM (Kd.R_after (v:=(.slice (some ⟨go55,0,none⟩) t479.length co57)) (v1:=(.slice (some ⟨go55,0,none⟩) t479.length co57)) (ok:=(fun k_=>some k_≠(.slice Ao56 t478.length co56:Value).ownBlock∧some k_≠(.slice Ao59 t481.length co59:Value).ownBlock∧some k_≠(v491:Value).ownBlock)) (by(with_reducible repeat (first|apply Kd.R_alloc|apply Kd.R_drewN|apply Kd.R_drew));exact Kd.R_mono HO_9.out (fun _ hk=>⟨⟨hk.1.1,⟨hk.1.2.2,hk.2⟩⟩,hk.1.2.1⟩)) hg (.inl rfl));have n3_:=zM (Kd.R_after (v:=(.slice (some ⟨go55,0,none⟩) t479.length co57)) (v1:=(.slice (some ⟨go55,0,none⟩) t479.length co57)) (ok:=(fun k_=>some k_≠(.slice Ao56 t478.length co56:Value).ownBlock∧some k_≠(.slice Ao58 t480.length co58:Value).ownBlock∧some k_≠(v491:Value).ownBlock)) (by(with_reducible repeat (first|apply Kd.R_alloc|apply Kd.R_drewN|apply Kd.R_drew));exact Kd.R_mono HO_10.out (fun _ hk=>⟨⟨hk.1.1,⟨hk.1.2.2,hk.2⟩⟩,hk.1.2.1⟩)) hg (.inl rfl));have n4_:=zM (IsS73.grown zq54 hg (IsS73.own_ne HI477.out HO_8.out zq22));have n5_:=zM (Kd.R_after (v:=(.slice (some ⟨go55,0,none⟩) t479.length co57)) (v1:=(.slice (some ⟨go55,0,none⟩) t479.length co57)) (ok:=(fun k_=>some k_≠(.slice Ao56 t478.length co56:Value).ownBlock∧some k_≠(.slice Ao58 t480.length co58:Value).ownBlock∧some k_≠(.slice Ao59 t481.length co59:Value).ownBlock)) (by(with_reducible repeat (first|apply Kd.R_alloc|apply Kd.R_drewN|apply Kd.R_drew));exact Kd.R_mono HO492.out (fun _ hk=>⟨⟨hk.1.1.1.2,⟨hk.1.2,hk.2⟩⟩,hk.1.1.2⟩)) hg (.inl rfl));have n6_:=zM ((by rw[hw];exact below_set (HB.out) GB55.out:Below w.heap.size w w63));clear HO_7;clear HO_8;clear HO_9;clear HO_10;clear HI477;clear HO492;clear HB;have HO_7:=n0_;have HO_8:=n1_;have HO_9:=n2_;have HO_10:=n3_;have HI477:=n4_;have HO492:=n5_;have HB:=n6_;clear n0_ n1_ n2_ n3_ n4_ n5_ n6_;clear hg hw hp_))
        refine bodyPost_ret (results_list (rs:=[.tmp 2,.tmp 3,.tmp 4,.tmp 5]) rfl zq101 (.tmp (.tmp (.tmp (.tmp .nil))))) rfl ?_
        exact⟨_,_,_,_,zq14,by(with_reducible repeat (first|apply Kd.R_alloc|apply Kd.R_drewN|apply Kd.R_drew));exact Kd.R_mono HO_7.out (fun _ hk=>⟨hk.2,⟨hk.1.1,hk.1.2.2⟩⟩),by(with_reducible repeat (first|apply Kd.R_alloc|apply Kd.R_drewN|apply Kd.R_drew));exact Kd.R_mono HO_8.out (fun _ hk=>⟨hk.1,⟨hk.2.1,hk.2.2.2⟩⟩),by(with_reducible repeat (first|apply Kd.R_alloc|apply Kd.R_drewN|apply Kd.R_drew));exact Kd.R_mono HO_9.out (fun _ hk=>⟨hk.1.1,⟨hk.2,hk.1.2.2⟩⟩),by(with_reducible repeat (first|apply Kd.R_alloc|apply Kd.R_drewN|apply Kd.R_drew));exact Kd.R_mono HO492.out (fun _ hk=>⟨hk.1.1,⟨hk.2,hk.1.2.1⟩⟩),zq15⟩
       ·rw[if_neg c54] at H
        exact absurd H zq101
      ·rw[if_neg c53] at H
       have c53b0:(t493 == 2)=false:=beq_eq_false_iff_ne.mpr c53
       have c53b1:(t493 != 2)=true:=bne_iff_ne.mpr c53
       by_cases c64:t493=3
       ·rw[if_pos c64] at H
        have c64b0:(t493 == 3)=true:=beq_iff_eq.mpr c64
        have c64b1:(t493 != 3)=false:=bne_eq_false_iff_eq.mpr c64
        clear c64
        by_cases c65:t480.length < 140737488355328
        ·rw[if_pos c65] at H
         have LMc65:=zM c65
         clear c65
         obtain⟨y508,hy508⟩:∃ y_:List Int,y_=(t480 ++ [0]):=⟨_,rfl⟩
         replace H:(some (t478,t479,y508,t490))=some (r1,r2,r3,r4):=by first|(rw[hy508];with_reducible exact H)|(have H2_:=(Option.bind_some _ _).symm.trans H;rw[hy508];with_reducible exact H2_)|(have H2_:=(Option.bind_some _ _).symm.trans H;with_reducible exact H2_)|with_reducible exact H|(rw[hy508];exact H)|exact H
         have Ny508:=zM hy508
         clear hy508
         simp only[Option.some.injEq,Prod.mk.injEq] at H
         obtain⟨rfl,rfl,rfl,rfl⟩:=H
         obtain⟨Ao66,co66,eo66⟩:=Kd.R_slice HO_7.out
         subst eo66
         obtain⟨Ao67,co67,eo67⟩:=Kd.R_slice HO_8.out
         subst eo67
         obtain⟨Ao68,co68,eo68⟩:=Kd.R_slice HO_9.out
         subst eo68
         obtain⟨Ao69,co69,eo69⟩:=Kd.R_slice HO_10.out
         subst eo69
         go_wp2_with (first|((with_reducible refine gate_callee (f:=53) rfl ?_);refine goesL_ (some 47) rfl rfl Try.func53 (by kernel_rfl) rfl #[.slice Ao66 t478.length co66,.slice Ao67 t479.length co67,.slice Ao68 t480.length co68,.slice Ao69 t481.length co69] rfl zq1 ?_;(with_reducible refine(spec_l3Seal.calls kj3 _ _ t478 _ _ t479 _ _ t480 _ _ t481 t490 _ ?side1 ?side2 ?side3 ?side4 ?side5 ?side6 ?side7 ?side8 A21.out).mono ?_);(case side1=>exact zq111);(case side2=>exact(Kd.R_reads' HO_7.out).2.1);(case side3=>exact zq112);(case side4=>exact(Kd.R_reads' HO_8.out).2.1);(case side5=>exact zq113);(case side6=>exact(Kd.R_reads' HO_9.out).2.1);(case side7=>exact zq110);(case side8=>exact(Kd.R_reads' HO_10.out).2.1);rintro e w70 ⟨v491,rfl,ho0,hb⟩;refine⟨_,rfl,?_⟩;have n0_:=zM (Kd.R_elder' zq17 (Kd.R_base ho0) hb);have n1_:=zM (Kd.R_elder' zq25 (Kd.R_base ho0) hb);have n2_:=zM (Kd.R_elder' zq19 (Kd.R_base ho0) hb);have n3_:=zM (Kd.R_elder' zq24 (Kd.R_base ho0) hb);have n4_:=zM (Kd.R_lower (Kd.R_new' (Kd.R_new' (Kd.R_new' (Kd.R_new' ho0 (Kd.R_lt zq17)) (Kd.R_lt zq25)) (Kd.R_lt zq19)) (Kd.R_lt zq24)) (below_size zq15));have n5_:=zM (IsS73.below zq54 hb);have n6_:=zM (below_step zq15 hb);clear HO_7;clear HO_8;clear HO_9;clear HO_10;clear HI477;clear HB;have HO_7:=n0_;have HO_8:=n1_;have HO_9:=n2_;have HO_10:=n3_;have HO492:=n4_;have HI477:=n5_;have HB:=n6_;clear n0_ n1_ n2_ n3_ n4_ n5_ n6_;(try clear hb);(try clear hb2);(try clear hk);(try clear hi);(try clear ho0))|((with_reducible refine gate_callee (f:=54) rfl ?_);refine goesL_ (some 49) rfl rfl Try.func54 (by kernel_rfl) rfl #[.pointer (some ⟨g477,0,none⟩),.int .i64 7] rfl zq1 ?_;(with_reducible refine(spec_l1Next.calls g477 t475 t476 7 t493 t494 w _ ?side1 ?side2 A22.out).mono ?_);(case side1=>exact zq54);(case side2=>exact zq15);rintro e w71 ⟨rfl,hi,hb,hk⟩;refine⟨_,rfl,?_⟩;have n0_:=zM (Kd.R_mono (Kd.R_keep (IsS73.apart (show IsS73 w _ g477 t475 t476 from by repeat (first|(with_reducible first|exact HI477.out|apply IsS73.alloc|apply IsS73.drewN|apply IsS73.drew|apply IsS73.set_1)|exact HI477.out)) zq17 zq22) hk (fun _ h=>h.2)) (fun _ h=>h.1));have n1_:=zM (Kd.R_mono (Kd.R_keep (IsS73.apart (show IsS73 w _ g477 t475 t476 from by repeat (first|(with_reducible first|exact HI477.out|apply IsS73.alloc|apply IsS73.drewN|apply IsS73.drew|apply IsS73.set_1)|exact HI477.out)) zq25 zq22) hk (fun _ h=>h.2)) (fun _ h=>h.1));have n2_:=zM (Kd.R_mono (Kd.R_keep (IsS73.apart (show IsS73 w _ g477 t475 t476 from by repeat (first|(with_reducible first|exact HI477.out|apply IsS73.alloc|apply IsS73.drewN|apply IsS73.drew|apply IsS73.set_1)|exact HI477.out)) zq19 zq22) hk (fun _ h=>h.2)) (fun _ h=>h.1));have n3_:=zM (Kd.R_mono (Kd.R_keep (IsS73.apart (show IsS73 w _ g477 t475 t476 from by repeat (first|(with_reducible first|exact HI477.out|apply IsS73.alloc|apply IsS73.drewN|apply IsS73.drew|apply IsS73.set_1)|exact HI477.out)) zq24 zq22) hk (fun _ h=>h.2)) (fun _ h=>h.1));have n4_:=zM (Kd.R_mono (Kd.R_keep (IsS73.apart (show IsS73 w _ g477 t475 t476 from by repeat (first|(with_reducible first|exact HI477.out|apply IsS73.alloc|apply IsS73.drewN|apply IsS73.drew|apply IsS73.set_1)|exact HI477.out)) zq87 zq22) hk (fun _ h=>h.2)) (fun _ h=>h.1));have n5_:=zM (hb);have n6_:=zM (hi);clear HO_7;clear HO_8;clear HO_9;clear HO_10;clear HO492;clear HB;clear HI477;have HO_7:=n0_;have HO_8:=n1_;have HO_9:=n2_;have HO_10:=n3_;have HO492:=n4_;have HB:=n5_;have HI477:=n6_;clear n0_ n1_ n2_ n3_ n4_ n5_ n6_;(try clear hb);(try clear hb2);(try clear hk);(try clear hi))|((with_reducible refine gate_builtin (b:=.append) (xs:=#[.tmp 82,.tmp 83]) rfl ?_);(try (refine gate_guard zq138 ?_;dsimp only));at_builtin;refine Kd.R_append (Kd.int .u8) (w0:=w) w.heap.size rfl (.tmp 82) (.tmp 83) 22 5 (.int .u8 0) 1 rfl Try.underlying22 info5 rfl zq22 zq9 (.slice Ao68 t480.length co68) t480 0 [.int .u8 0] (fun k_=>some k_≠(.slice Ao66 t478.length co66:Value).ownBlock∧some k_≠(.slice Ao67 t479.length co67:Value).ownBlock∧some k_≠(.slice Ao69 t481.length co69:Value).ownBlock∧some k_≠(v491:Value).ownBlock) (fun _=>False) rfl rfl ?aP (fun _ hk=>hk.elim) ?aF ?aO ?aB ?aS ?aL ?_;(case aP=>exact rfl);(case aB=>exact zq15);(case aF=>exact(fun k_ hk=>⟨Kd.fresh' (Kd.R_lt zq17) k_ hk,Kd.fresh' (Kd.R_lt zq25) k_ hk,Kd.fresh' (Kd.R_lt zq24) k_ hk,Kd.fresh' (Kd.R_lt zq87) k_ hk⟩));(case aO=>exact(by(with_reducible repeat (first|apply Kd.R_alloc|apply Kd.R_drewN|apply Kd.R_drew));exact Kd.R_mono HO_9.out (fun _ hk=>⟨hk.1.1,⟨hk.1.2.1,⟨hk.1.2.2,hk.2⟩⟩⟩)));(case aS=>exact(below_size zq15));(case aL=>have:=LMc65.out;omega);intro v509 w72 ho hb hg hat;rw[← Ny508.out] at ho;have n0_:=zM (Kd.R_after (ok:=(fun k_=>some k_≠(.slice Ao67 t479.length co67:Value).ownBlock∧some k_≠(.slice Ao69 t481.length co69:Value).ownBlock∧some k_≠(v491:Value).ownBlock)) (by(with_reducible repeat (first|apply Kd.R_alloc|apply Kd.R_drewN|apply Kd.R_drew));exact Kd.R_mono HO_7.out (fun _ hk=>⟨⟨hk.1.1,⟨hk.1.2.2,hk.2⟩⟩,hk.1.2.1⟩)) hg hat);have n1_:=zM (Kd.R_after (ok:=(fun k_=>some k_≠(.slice Ao66 t478.length co66:Value).ownBlock∧some k_≠(.slice Ao69 t481.length co69:Value).ownBlock∧some k_≠(v491:Value).ownBlock)) (by(with_reducible repeat (first|apply Kd.R_alloc|apply Kd.R_drewN|apply Kd.R_drew));exact Kd.R_mono HO_8.out (fun _ hk=>⟨⟨hk.1.1,⟨hk.1.2.2,hk.2⟩⟩,hk.1.2.1⟩)) hg hat);have n2_:=zM (Kd.R_after (ok:=(fun k_=>some k_≠(.slice Ao66 t478.length co66:Value).ownBlock∧some k_≠(.slice Ao67 t479.length co67:Value).ownBlock∧some k_≠(v491:Value).ownBlock)) (by(with_reducible repeat (first|apply Kd.R_alloc|apply Kd.R_drewN|apply Kd.R_drew));exact Kd.R_mono HO_10.out (fun _ hk=>⟨⟨hk.1.1,⟨hk.1.2.1,hk.2⟩⟩,hk.1.2.2⟩)) hg hat);have n3_:=zM (IsS73.grown zq54 hg (IsS73.own_ne HI477.out HO_9.out zq22));have n4_:=zM (Kd.R_after (ok:=(fun k_=>some k_≠(.slice Ao66 t478.length co66:Value).ownBlock∧some k_≠(.slice Ao67 t479.length co67:Value).ownBlock∧some k_≠(.slice Ao69 t481.length co69:Value).ownBlock)) (by(with_reducible repeat (first|apply Kd.R_alloc|apply Kd.R_drewN|apply Kd.R_drew));exact Kd.R_mono HO492.out (fun _ hk=>⟨⟨hk.1.1.1.2,⟨hk.1.1.2,hk.2⟩⟩,hk.1.2⟩)) hg hat);have n5_:=zM (hb);have n6_:=zM (ho);clear HO_7;clear HO_8;clear HO_10;clear HI477;clear HO492;clear HB;clear HO_9;have HO_7:=n0_;have HO_8:=n1_;have HO_10:=n2_;have HI477:=n3_;have HO492:=n4_;have HB:=n5_;have HO510:=n6_;clear n0_ n1_ n2_ n3_ n4_ n5_ n6_;clear ho hb hg hat))
         refine bodyPost_ret (results_list (rs:=[.tmp 2,.tmp 3,.tmp 4,.tmp 5]) rfl zq101 (.tmp (.tmp (.tmp (.tmp .nil))))) rfl ?_
         exact⟨_,_,_,_,zq14,by(with_reducible repeat (first|apply Kd.R_alloc|apply Kd.R_drewN|apply Kd.R_drew));exact Kd.R_mono HO_7.out (fun _ hk=>⟨hk.1.1,⟨hk.2,hk.1.2.2⟩⟩),by(with_reducible repeat (first|apply Kd.R_alloc|apply Kd.R_drewN|apply Kd.R_drew));exact Kd.R_mono HO_8.out (fun _ hk=>⟨hk.1.1,⟨hk.2,hk.1.2.2⟩⟩),by(with_reducible repeat (first|apply Kd.R_alloc|apply Kd.R_drewN|apply Kd.R_drew));exact Kd.R_mono HO510.out (fun _ hk=>⟨hk.1,⟨hk.2.1,hk.2.2.2⟩⟩),by(with_reducible repeat (first|apply Kd.R_alloc|apply Kd.R_drewN|apply Kd.R_drew));exact Kd.R_mono HO492.out (fun _ hk=>⟨hk.1.1,⟨hk.1.2.1,hk.2⟩⟩),zq15⟩
        ·rw[if_neg c65] at H
         exact absurd H zq101
       ·rw[if_neg c64] at H
        have c64b0:(t493 == 3)=false:=beq_eq_false_iff_ne.mpr c64
        have c64b1:(t493 != 3)=true:=bne_iff_ne.mpr c64
        simp only[Option.some.injEq,Prod.mk.injEq] at H
        obtain⟨rfl,rfl,rfl,rfl⟩:=H
        obtain⟨Ao73,co73,eo73⟩:=Kd.R_slice HO_7.out
        subst eo73
        obtain⟨Ao74,co74,eo74⟩:=Kd.R_slice HO_8.out
        subst eo74
        obtain⟨Ao75,co75,eo75⟩:=Kd.R_slice HO_9.out
        subst eo75
        obtain⟨Ao76,co76,eo76⟩:=Kd.R_slice HO_10.out
        subst eo76
        go_wp2_with (first|((with_reducible refine gate_callee (f:=53) rfl ?_);refine goesL_ (some 47) rfl rfl Try.func53 (by kernel_rfl) rfl #[.slice Ao73 t478.length co73,.slice Ao74 t479.length co74,.slice Ao75 t480.length co75,.slice Ao76 t481.length co76] rfl zq1 ?_;(with_reducible refine(spec_l3Seal.calls kj3 _ _ t478 _ _ t479 _ _ t480 _ _ t481 t490 _ ?side1 ?side2 ?side3 ?side4 ?side5 ?side6 ?side7 ?side8 A21.out).mono ?_);(case side1=>exact zq111);(case side2=>exact(Kd.R_reads' HO_7.out).2.1);(case side3=>exact zq112);(case side4=>exact(Kd.R_reads' HO_8.out).2.1);(case side5=>exact zq113);(case side6=>exact(Kd.R_reads' HO_9.out).2.1);(case side7=>exact zq110);(case side8=>exact(Kd.R_reads' HO_10.out).2.1);rintro e w77 ⟨v491,rfl,ho0,hb⟩;refine⟨_,rfl,?_⟩;have n0_:=zM (Kd.R_elder' zq17 (Kd.R_base ho0) hb);have n1_:=zM (Kd.R_elder' zq25 (Kd.R_base ho0) hb);have n2_:=zM (Kd.R_elder' zq19 (Kd.R_base ho0) hb);have n3_:=zM (Kd.R_elder' zq24 (Kd.R_base ho0) hb);have n4_:=zM (Kd.R_lower (Kd.R_new' (Kd.R_new' (Kd.R_new' (Kd.R_new' ho0 (Kd.R_lt zq17)) (Kd.R_lt zq25)) (Kd.R_lt zq19)) (Kd.R_lt zq24)) (below_size zq15));have n5_:=zM (IsS73.below zq54 hb);have n6_:=zM (below_step zq15 hb);clear HO_7;clear HO_8;clear HO_9;clear HO_10;clear HI477;clear HB;have HO_7:=n0_;have HO_8:=n1_;have HO_9:=n2_;have HO_10:=n3_;have HO492:=n4_;have HI477:=n5_;have HB:=n6_;clear n0_ n1_ n2_ n3_ n4_ n5_ n6_;(try clear hb);(try clear hb2);(try clear hk);(try clear hi);(try clear ho0))|((with_reducible refine gate_callee (f:=54) rfl ?_);refine goesL_ (some 49) rfl rfl Try.func54 (by kernel_rfl) rfl #[.pointer (some ⟨g477,0,none⟩),.int .i64 7] rfl zq1 ?_;(with_reducible refine(spec_l1Next.calls g477 t475 t476 7 t493 t494 w _ ?side1 ?side2 A22.out).mono ?_);(case side1=>exact zq54);(case side2=>exact zq15);rintro e w78 ⟨rfl,hi,hb,hk⟩;refine⟨_,rfl,?_⟩;have n0_:=zM (Kd.R_mono (Kd.R_keep (IsS73.apart (show IsS73 w _ g477 t475 t476 from by repeat (first|(with_reducible first|exact HI477.out|apply IsS73.alloc|apply IsS73.drewN|apply IsS73.drew|apply IsS73.set_1)|exact HI477.out)) zq17 zq22) hk (fun _ h=>h.2)) (fun _ h=>h.1));have n1_:=zM (Kd.R_mono (Kd.R_keep (IsS73.apart (show IsS73 w _ g477 t475 t476 from by repeat (first|(with_reducible first|exact HI477.out|apply IsS73.alloc|apply IsS73.drewN|apply IsS73.drew|apply IsS73.set_1)|exact HI477.out)) zq25 zq22) hk (fun _ h=>h.2)) (fun _ h=>h.1));have n2_:=zM (Kd.R_mono (Kd.R_keep (IsS73.apart (show IsS73 w _ g477 t475 t476 from by repeat (first|(with_reducible first|exact HI477.out|apply IsS73.alloc|apply IsS73.drewN|apply IsS73.drew|apply IsS73.set_1)|exact HI477.out)) zq19 zq22) hk (fun _ h=>h.2)) (fun _ h=>h.1));have n3_:=zM (Kd.R_mono (Kd.R_keep (IsS73.apart (show IsS73 w _ g477 t475 t476 from by repeat (first|(with_reducible first|exact HI477.out|apply IsS73.alloc|apply IsS73.drewN|apply IsS73.drew|apply IsS73.set_1)|exact HI477.out)) zq24 zq22) hk (fun _ h=>h.2)) (fun _ h=>h.1));have n4_:=zM (Kd.R_mono (Kd.R_keep (IsS73.apart (show IsS73 w _ g477 t475 t476 from by repeat (first|(with_reducible first|exact HI477.out|apply IsS73.alloc|apply IsS73.drewN|apply IsS73.drew|apply IsS73.set_1)|exact HI477.out)) zq87 zq22) hk (fun _ h=>h.2)) (fun _ h=>h.1));have n5_:=zM (hb);have n6_:=zM (hi);clear HO_7;clear HO_8;clear HO_9;clear HO_10;clear HO492;clear HB;clear HI477;have HO_7:=n0_;have HO_8:=n1_;have HO_9:=n2_;have HO_10:=n3_;have HO492:=n4_;have HB:=n5_;have HI477:=n6_;clear n0_ n1_ n2_ n3_ n4_ n5_ n6_;(try clear hb);(try clear hb2);(try clear hk);(try clear hi)))
        refine bodyPost_ret (results_list (rs:=[.tmp 2,.tmp 3,.tmp 4,.tmp 5]) rfl zq101 (.tmp (.tmp (.tmp (.tmp .nil))))) rfl ?_
        exact⟨_,_,_,_,zq14,zq191,zq192,zq193,by(with_reducible repeat (first|apply Kd.R_alloc|apply Kd.R_drewN|apply Kd.R_drew));exact Kd.R_mono HO492.out (fun _ hk=>⟨hk.1.1.1.2,⟨hk.1.1.2,hk.1.2⟩⟩),zq15⟩
end Go.Proofs.Ytkjgdndaepobiaa.All
