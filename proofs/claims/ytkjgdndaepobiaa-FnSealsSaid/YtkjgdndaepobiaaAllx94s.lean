-- Laid by wip/shake.py of this repo out of this claim's texts. Not trusted: Lean checks it.
import Derived.Test.YtkjgdndaepobiaaAb0s
import Derived.Test.YtkjgdndaepobiaaAllx0s
namespace Go.Proofs.Ytkjgdndaepobiaa.All
open Go.RowKit Go.Proofs.YtkjgdndaepobiaaW.PrintWords Go.Proofs.YtkjgdndaepobiaaW.PrintLast Go.Proofs.YtkjgdndaepobiaaW.PrintMore
attribute [local go_sem] max2_int min2_int max_two min_two max_three min_three max_four min_four
set_option linter.unusedVariables false
set_option linter.unusedSimpArgs false
def spec_l3Half.l0:Nat→List Int→Int→Int→Option (Int)
 | 0,_,_,_=>none
 | k+1,x0,x3,x4=>if x4 < 8 then (if 0≤x4 then (if x4 < (x0.length:Int) then (spec_l3Half.l0 k x0 (IntKind.u64.wrap ((IntKind.u64.wrap (x3*256))+(IntKind.u64.wrap (rd x0 x4)))) (wrap64 (x4+1))) else (none)) else (none)) else (some x3)
def spec_l3Half.f (k:Nat) (l0:List Int):Option (Int):=spec_l3Half.l0 k l0 0 0
theorem spec_l3Half.mono_l:∀ k,(∀ y0 y1 y2,LeO (spec_l3Half.l0 k y0 y1 y2) (spec_l3Half.l0 (k+1) y0 y1 y2))
 | 0=>fun _ _ _ r h=>by simp[spec_l3Half.l0] at h
 | k+1=>by
  have ih0:=spec_l3Half.mono_l k
  ·intro y0 y1 y2
   unfold spec_l3Half.l0
   repeat' first
   | (with_reducible exact ih0 _ _ _)
   | (with_reducible exact LeO.refl _)
   | (with_reducible exact LeO.none _)
   | (with_reducible refine LeO.ite ?_ ?_)
   | (with_reducible refine LeO.bind ?_ (fun _=>?_))
   | exact ih0 _ _ _
   | exact LeO.none _
   | refine LeO.ite ?_ ?_
   | refine LeO.bind ?_ (fun _=>?_)
theorem spec_l3Half.mono:∀ a0 k,LeO (spec_l3Half.f k a0) (spec_l3Half.f (k+1) a0):=by
 intro a0 k
 have ih0:=spec_l3Half.mono_l k
 unfold spec_l3Half.f
 repeat' first
   | (with_reducible exact ih0 _ _ _)
   | (with_reducible exact LeO.refl _)
   | (with_reducible exact LeO.none _)
   | (with_reducible refine LeO.ite ?_ ?_)
   | (with_reducible refine LeO.bind ?_ (fun _=>?_))
   | exact ih0 _ _ _
   | exact LeO.none _
   | refine LeO.ite ?_ ?_
   | refine LeO.bind ?_ (fun _=>?_)
set_option maxHeartbeats 8000000 in
set_option maxRecDepth 100000 in
theorem spec_l3Half.calls (k:Nat) (A0:Option Addr) (c0:Nat) (l0:List Int) (r:Int) (w:World) (hr0:Kd.C (Kd.int .u8) w A0 l0.length l0) (hc0:l0.length≤c0) (h:spec_l3Half.f k l0=some r) :
  Calls Try.prog 87 #[.slice A0 l0.length c0] w fun e w'=>e=.returned (.int .u64 r)∧Drawn0 w w':=by
 have HR0:=Aside0.mk hr0
 have HC0:=Aside0.mk hc0
 clear hr0 hc0
 have H:(spec_l3Half.l0 k l0 0 0)=some r:=h
 clear h
 have H':=Aside0.mk H
 clear H
 go_enter Try.func87,Try.ntmps87
 go_wp2
 go_loopg [3,4] k (fun kq v3 v4 w'=>∃ (x3_1:Int) (x4_1:Int),v3=.int .u64 x3_1∧v4=.int .i64 x4_1∧Aside0 (spec_l3Half.l0 kq l0 x3_1 x4_1=some r)∧Aside0 (kq≤k)∧Drawn0 w w')
 case atStart=>exact⟨(0),(0),zq8,zq8,H',⟨Nat.le_refl _⟩,zq47⟩
 case round=>
  clear H'
  obtain⟨x3_1,x4_1,rfl,rfl,HA,HK1,⟨m1,rfl⟩⟩:=hrel
  cases gk with
  | zero=>exact absurd HA.out (by simp[spec_l3Half.l0])
  | succ k1=>
   have H:=HA.out
   clear HA
   simp only[spec_l3Half.l0] at H
   by_cases c2:x4_1 < 8
   ·rw[if_pos c2] at H
    have c2b0:decide (x4_1 < 8)=true:=decide_eq_true c2
    clear c2
    by_cases c3:0≤x4_1
    ·rw[if_pos c3] at H
     have c3b0:decide (0≤x4_1)=true:=decide_eq_true c3
     clear c3
     by_cases c4:x4_1 < (l0.length:Int)
     ·rw[if_pos c4] at H
      have c4b0:decide (x4_1 < (l0.length:Int))=true:=decide_eq_true c4
      clear c4
      have H':=Aside0.mk H
      clear H
      have p395:0≤(x4_1:Int):=of_decide_eq_true zq7
      have q395:x4_1 < (l0.length:Int):=of_decide_eq_true zq7
      obtain⟨ad395,e395,hx395_0⟩:=Kd.at_int HR0.out x4_1 p395 q395
      cases e395
      replace p395:=eq_true p395
      replace q395:=eq_true q395
      go_wp2
      go_roundg k1
      case measure=>have:=HK1.out;omega
      case rel=>exact⟨(IntKind.u64.wrap ((IntKind.u64.wrap (x3_1*256))+(IntKind.u64.wrap (rd l0 x4_1)))),(wrap64 (x4_1+1)),zq8,zq8,H',⟨zq153⟩,zq47⟩
     ·rw[if_neg c4] at H
      exact absurd H zq101
    ·rw[if_neg c3] at H
     exact absurd H zq101
   ·rw[if_neg c2] at H
    have c2b0:decide (x4_1 < 8)=false:=decide_eq_false c2
    clear c2
    obtain rfl:=Option.some.inj H
    go_wp2
    go_ret
    exact⟨zq8,zq47⟩
end Go.Proofs.Ytkjgdndaepobiaa.All
