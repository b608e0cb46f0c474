-- Laid by wip/shake.py of this repo out of this claim's texts. Not trusted: Lean checks it.
import Derived.Test.YtmnhddedcbkpoaaAb0s
import Derived.Test.YtmnhddedcbkpoaaBytes
import Derived.Test.YtmnhddedcbkpoaaAllx550s
import Derived.Test.YtmnhddedcbkpoaaAllx10s
import Derived.Test.YtmnhddedcbkpoaaAllx24s
import Derived.Lib.SliceRun
section
namespace Go.Proofs.Ytmnhddedcbkpoaa.All
open Go.Proofs.YtmnhddedcbkpoaaW.PrintWords.Aside0 renaming mk→zM
open Go.RowKit Go.Proofs.YtmnhddedcbkpoaaW.PrintWords Go.Proofs.YtmnhddedcbkpoaaW.PrintLast Go.Proofs.YtmnhddedcbkpoaaW.PrintMore
attribute [local go_sem] max2_int min2_int max_two min_two max_three min_three max_four min_four
set_option linter.unusedVariables false
set_option linter.unusedSimpArgs false
def sameK (x y:S25):Bool:=decide (x.f0=y.f0) && ((strOfNums x.f1).toList == (strOfNums y.f1).toList)
def sameKs:List S25→List S25→Bool
 | [],[]=>true
 | x :: xs,y :: ys=>if sameK x y=true then sameKs xs ys else false
 | _,_=>false
theorem sameKs_len:∀ (a b:List S25),a.length≠b.length→sameKs a b=false
 | [],[]=>fun h=>absurd rfl h
 | [],_ :: _=>fun _=>rfl
 | _ :: _,[]=>fun _=>rfl
 | x :: xs,y :: ys=>fun h=>by
  simp only[sameKs]
  by_cases hq:sameK x y=true
  ·rw[if_pos hq];exact sameKs_len xs ys (fun e=>h (by simp[e]))
  ·rw[if_neg hq]
theorem sameKs_drop (a b:List S25) (k:Nat) (ha:k < a.length) (hb:k < b.length):sameKs (a.drop k) (b.drop k)=if sameK (rd_T25 a (k:Int)) (rd_T25 b (k:Int))=true then sameKs (a.drop (k+1)) (b.drop (k+1)) else false:=by
 rw[List.drop_eq_getElem_cons ha,List.drop_eq_getElem_cons hb,rd_get a k ha,rd_get b k hb]
 simp only[sameKs]
theorem sameK_eq (x y:S25):impl_sameKey.f x.f0 x.f1 y.f0 y.f1=some (sameK x y):=by
 unfold impl_sameKey.f bytes_Equal.f sameK
 by_cases h:x.f0=y.f0
 ·rw[if_pos h,decide_eq_true h];simp
 ·rw[if_neg h,decide_eq_false h];simp
def impl_SameRings.f (a0_0:Int) (l0_1:List S25) (a1_0:Int) (l1_1:List S25):Option Bool:=if l0_1.length < 140737488355328 then (if a0_0=a1_0 then some (sameKs l0_1 l1_1) else some false) else none
set_option maxHeartbeats 4000000 in
set_option maxRecDepth 100000 in
theorem equalKeys (A:Option Addr) (c:Nat) (l:List S25) (B:Option Addr) (d:Nat) (m:List S25) (w:World) (hr0:Kd.C k25 w A l.length l) (hr1:Kd.C k25 w B m.length m) (hm0:l.length < 140737488355328) :
  Calls Try.prog 69 #[.slice A l.length c,.slice B m.length d,.func (.func 70) #[] #[]] w fun e w'=>e=.returned (.bool (sameKs l m))∧Below w.heap.size w w':=by
 have HR:=zM hr0
 have HQ:=zM hr1
 have HM:=zM hm0
 have HB:=zM (Below.refl w.heap.size w)
 clear hr0 hr1 hm0
 by_cases hlen:l.length=m.length
 ·have HN:=zM hlen
  have hd:(l.length == m.length)=true:=beq_iff_eq.mpr hlen
  have hd1:((l.length:Int) == (m.length:Int))=true:=beq_iff_eq.mpr zq21
  have hd2:((l.length:Int) != (m.length:Int))=false:=bne_eq_false_iff_eq.mpr zq21
  clear hlen
  go_enter Try.func69,Try.ntmps69
  go_wp2
  go_loopw [7,17] (fun _ v17 W=>∃ kk:Nat,kk≤l.length∧v17=.int .i64 kk∧Aside0 (sameKs l m=sameKs (l.drop kk) (m.drop kk))∧Aside0 (Below w.heap.size w W)) (fun _ v17 _=>l.length - (intOf v17).toNat)
  case atStart=>exact⟨0,Nat.zero_le _,rfl,⟨rfl⟩,HB⟩
  case round=>
   clear HB hd hd1 hd2
   obtain⟨kk,hk,rfl,HP,HB⟩:=hrel
   by_cases hl:kk < l.length
   ·have hd:decide (kk < l.length)=true:=decide_eq_true hl
    have hl2:kk < m.length:=by have:=HN.out;omega
    have HD:=zM (sameKs_drop l m kk hl hl2)
    have hlt:=zM hl
    obtain⟨ad,A1,c1,rfl,hx0,hx1,hxl,hxi⟩:=at_T25 HR.out (kk:Int) zq21 zq21
    obtain⟨ad2,A2,c2,rfl,hy0,hy1,hyl,hyi⟩:=at_T25 HQ.out (kk:Int) zq21 zq21
    generalize rd_T25 l (kk:Int)=x at HD hx0 hx1 hxl hxi
    generalize rd_T25 m (kk:Int)=y at HD hy0 hy1 hyl hyi
    rw[Int.toNat_natCast] at hx0 hx1 hy0 hy1
    have HX:=zM (And.intro hx0 hx1)
    have HY:=zM (And.intro hy0 hy1)
    have HRX:=zM hxi
    have HRY:=zM hyi
    have HLX:=zM hxl
    have HLY:=zM hyl
    clear hx0 hx1 hxl hxi hy0 hy1 hyl hyi
    have hx0:=(HB.out.cell (World.block_lt_of_cell? w _ HX.out.1)).trans HX.out.1
    have hx1:=(HB.out.cell (World.block_lt_of_cell? w _ HX.out.2)).trans HX.out.2
    have hy0:∀ o,(wr.alloc o).cell? _=_:=fun o=>Go.Lib.cell?_alloc_some _ ((HB.out.cell (World.block_lt_of_cell? w _ HY.out.1)).trans HY.out.1)
    have hy1:∀ o,(wr.alloc o).cell? _=_:=fun o=>Go.Lib.cell?_alloc_some _ ((HB.out.cell (World.block_lt_of_cell? w _ HY.out.2)).trans HY.out.2)
    by_cases hs:sameK x y=true
    ·have HS:Aside0 (impl_sameKey.f x.f0 x.f1 y.f0 y.f1=some true):=⟨by rw[sameK_eq,hs]⟩
     have HP2:Aside0 (sameKs l m=sameKs (l.drop (kk+1)) (m.drop (kk+1))):=⟨by rw[HP.out,HD.out,if_pos hs]⟩
     clear HP HD hs
     go_wp2_with (first
       | (go_at_call 70;(with_reducible refine(impl_sameKey.calls x.f0 A1 c1 x.f1 y.f0 A2 c2 y.f1 true _ ?hC1 HLX.out ?hC2 HLY.out HS.out).mono ?_);(case hC1=>exact Kd.C_below HRX.out zq0);(case hC2=>exact Kd.C_below HRY.out zq0);rintro e wk ⟨rfl,hb⟩;have n0_:=zM (below_step zq0 hb);clear HB hb;have HB:=n0_;clear n0_))
     go_roundw
     case rel=>exact⟨kk+1,hlt.out,congrArg _ (wrap_next kk _ hlt.out HM.out),HP2,⟨zq0⟩⟩
     case measure=>exact next_less kk _ hlt.out HM.out
    ·have HS:Aside0 (impl_sameKey.f x.f0 x.f1 y.f0 y.f1=some false):=⟨by rw[sameK_eq,Bool.eq_false_iff.mpr hs]⟩
     have HP2:Aside0 (sameKs l m=false):=⟨by rw[HP.out,HD.out,if_neg hs]⟩
     clear HP HD hs
     go_wp2_with (first
       | (go_at_call 70;(with_reducible refine(impl_sameKey.calls x.f0 A1 c1 x.f1 y.f0 A2 c2 y.f1 false _ ?hC1 HLX.out ?hC2 HLY.out HS.out).mono ?_);(case hC1=>exact Kd.C_below HRX.out zq0);(case hC2=>exact Kd.C_below HRY.out zq0);rintro e wk ⟨rfl,hb⟩;have n0_:=zM (below_step zq0 hb);clear HB hb;have HB:=n0_;clear n0_))
     go_ret
     exact⟨by rw[HP2.out];rfl,zq0⟩
   ·obtain rfl:kk=l.length:=by omega
    have HP2:Aside0 (sameKs l m=true):=⟨by rw[HP.out,List.drop_length,HN.out,List.drop_length];rfl⟩
    clear HP
    go_wp2
    go_ret
    exact⟨by rw[HP2.out];rfl,HB.out⟩
 ·have HN:Aside0 (sameKs l m=false):=⟨sameKs_len l m hlen⟩
  have hd:(l.length == m.length)=false:=beq_eq_false_iff_ne.mpr hlen
  have hd1:((l.length:Int) == (m.length:Int))=false:=beq_eq_false_iff_ne.mpr zq21
  have hd2:((l.length:Int) != (m.length:Int))=true:=bne_iff_ne.mpr zq21
  clear hlen
  go_enter Try.func69,Try.ntmps69
  go_wp2
  go_ret
  exact⟨by rw[HN.out];rfl,HB.out⟩
set_option maxHeartbeats 4000000 in
set_option maxRecDepth 100000 in
theorem impl_SameRings.calls (a0_0:Int) (A0_1:Option Addr) (c0_1:Nat) (l0_1:List S25) (a1_0:Int) (A1_1:Option Addr) (c1_1:Nat) (l1_1:List S25) (r:Bool) (w:World) (hr0_1:Kd.C k25 w A0_1 l0_1.length l0_1) (hc0_1:l0_1.length≤c0_1) (hr1_1:Kd.C k25 w A1_1 l1_1.length l1_1) (hc1_1:l1_1.length≤c1_1) (h:impl_SameRings.f a0_0 l0_1 a1_0 l1_1=some r) :
  Calls Try.prog 23 #[.agg #[.int .i64 a0_0,.slice A0_1 l0_1.length c0_1],.agg #[.int .i64 a1_0,.slice A1_1 l1_1.length c1_1]] w fun e w'=>e=.returned (.bool r)∧Below w.heap.size w w':=by
 unfold impl_SameRings.f at h
 by_cases hm:l0_1.length < 140737488355328
 ·rw[if_pos hm] at h
  have HM:=zM hm
  clear hm
  have HR:=zM hr0_1
  have HQ:=zM hr1_1
  clear hr0_1 hc0_1 hr1_1 hc1_1
  by_cases hp:a0_0=a1_0
  ·rw[if_pos hp,Option.some.injEq] at h
   subst h
   have hd:(a0_0 == a1_0)=true:=beq_iff_eq.mpr hp
   clear hp
   go_enter Try.func23,Try.ntmps23
   go_wp2_with (go_at_call 69;refine(equalKeys A0_1 c0_1 l0_1 A1_1 c1_1 l1_1 _ (Kd.C_alloc (Kd.C_alloc HR.out _) _) (Kd.C_alloc (Kd.C_alloc HQ.out _) _) HM.out).mono ?_;rintro e wk ⟨rfl,hb⟩)
   go_ret
   exact⟨rfl,(((Below.refl _ _).alloc (Nat.le_refl _) _).alloc zq58 _).trans (hb.mono (by simp;omega))⟩
  ·rw[if_neg hp,Option.some.injEq] at h
   subst h
   have hd:(a0_0 == a1_0)=false:=beq_eq_false_iff_ne.mpr hp
   clear hp
   go_enter Try.func23,Try.ntmps23
   go_wp2
   go_ret
   exact⟨rfl,(((Below.refl _ _).alloc (Nat.le_refl _) _).alloc zq58 _)⟩
 ·rw[if_neg hm] at h
  cases h
end Go.Proofs.Ytmnhddedcbkpoaa.All
end
section
namespace Go.Proofs.Ytmnhddedcbkpoaa.All
open Go.Proofs.YtmnhddedcbkpoaaW.PrintWords.Aside0 renaming mk→zM
open Go.RowKit Go.Proofs.YtmnhddedcbkpoaaW.PrintWords Go.Proofs.YtmnhddedcbkpoaaW.PrintLast Go.Proofs.YtmnhddedcbkpoaaW.PrintMore
attribute [local go_sem] max2_int min2_int max_two min_two max_three min_three max_four min_four
set_option linter.unusedVariables false
set_option linter.unusedSimpArgs false
set_option maxHeartbeats 4000000 in
set_option maxRecDepth 100000 in
theorem l4Same_at (p q:Addr) (x y:S25) (A B:Option Addr) (c d:Nat) (w:World) (hx0:w.cell? p=some (.int .i64 x.f0)) (hx1:w.cell? ⟨p.block,p.off+1,none⟩=some (.slice A x.f1.length c)) (hy0:w.cell? q=some (.int .i64 y.f0)) (hy1:w.cell? ⟨q.block,q.off+1,none⟩=some (.slice B y.f1.length d)) (hrx:Kd.C (Kd.int .u8) w A x.f1.length x.f1) (hry:Kd.C (Kd.int .u8) w B y.f1.length y.f1) :
  Calls Try.prog 71 #[.pointer (some p),.pointer (some q)] w fun e w'=>e=.returned (.bool (sameK x y))∧∃ m,w'=w.drewN m:=by
 have HX:=zM (fun m=>Kd.C_string (P:=Try.prog) (c:=c) Try.underlying22 Try.underlying5 Try.underlying9 (Kd.C_drewN hrx m))
 have HY:=zM (fun m=>Kd.C_string (P:=Try.prog) (c:=d) Try.underlying22 Try.underlying5 Try.underlying9 (Kd.C_drewN hry m))
 clear hrx hry
 by_cases h:x.f0=y.f0
 ·have HV:Aside0 (sameK x y=((strOfNums x.f1).toList == (strOfNums y.f1).toList)):=⟨by unfold sameK;rw[decide_eq_true h,Bool.true_and]⟩
  have hd:(x.f0 == y.f0)=true:=beq_iff_eq.mpr h
  have hcx:=HX.out
  have hcy:=HY.out
  have hcx1:Sem.run _ _ w.drew=.ok _ w.drew:=HX.out 1
  have hcy1:Sem.run _ _ w.drew=.ok _ w.drew:=HY.out 1
  have hcx0:Sem.run _ _ w=.ok _ w:=HX.out 0
  have hcy0:Sem.run _ _ w=.ok _ w:=HY.out 0
  clear h HX HY
  go_enter Try.func71,Try.ntmps71
  go_wp2_with fail
  go_quiet (fail)
  go_wp2
  go_ret
  exact⟨by rw[HV.out];rfl,_,rfl⟩
 ·have HV:Aside0 (sameK x y=false):=⟨by unfold sameK;rw[decide_eq_false h,Bool.false_and]⟩
  have hd:(x.f0 == y.f0)=false:=beq_eq_false_iff_ne.mpr h
  clear h HX HY
  go_enter Try.func71,Try.ntmps71
  go_wp2_with fail
  go_quiet (fail)
  go_wp2
  go_ret
  exact⟨by rw[HV.out];rfl,_,rfl⟩
theorem l4Same_as (p q:Addr) (x y:S25) (r:Bool) (hr:sameK x y=r) (A B:Option Addr) (c d:Nat) (w:World) (hx0:w.cell? p=some (.int .i64 x.f0)) (hx1:w.cell? ⟨p.block,p.off+1,none⟩=some (.slice A x.f1.length c)) (hy0:w.cell? q=some (.int .i64 y.f0)) (hy1:w.cell? ⟨q.block,q.off+1,none⟩=some (.slice B y.f1.length d)) (hrx:Kd.C (Kd.int .u8) w A x.f1.length x.f1) (hry:Kd.C (Kd.int .u8) w B y.f1.length y.f1) :
  Calls Try.prog 71 #[.pointer (some p),.pointer (some q)] w fun e w'=>e=.returned (.bool r)∧∃ m,w'=w.drewN m:=by
 subst hr
 exact l4Same_at p q x y A B c d w hx0 hx1 hy0 hy1 hrx hry
def spec_SameRings.f (a0_0:Int) (l0_1:List S25) (a1_0:Int) (l1_1:List S25):Option Bool:=if l0_1.length < 140737488355328 then (if a0_0=a1_0 then some (sameKs l0_1 l1_1) else some false) else none
set_option maxHeartbeats 4000000 in
set_option maxRecDepth 100000 in
theorem spec_SameRings.calls (a0_0:Int) (A0_1:Option Addr) (c0_1:Nat) (l0_1:List S25) (a1_0:Int) (A1_1:Option Addr) (c1_1:Nat) (l1_1:List S25) (r:Bool) (w:World) (hr0_1:Kd.C k25 w A0_1 l0_1.length l0_1) (hc0_1:l0_1.length≤c0_1) (hr1_1:Kd.C k25 w A1_1 l1_1.length l1_1) (hc1_1:l1_1.length≤c1_1) (h:spec_SameRings.f a0_0 l0_1 a1_0 l1_1=some r) :
  Calls Try.prog 24 #[.agg #[.int .i64 a0_0,.slice A0_1 l0_1.length c0_1],.agg #[.int .i64 a1_0,.slice A1_1 l1_1.length c1_1]] w fun e w'=>e=.returned (.bool r)∧Below w.heap.size w w':=by
 unfold spec_SameRings.f at h
 by_cases hm:l0_1.length < 140737488355328
 ·rw[if_pos hm] at h
  have HM:=zM hm
  clear hm
  have HR:=zM hr0_1
  have HQ:=zM hr1_1
  clear hr0_1 hc0_1 hr1_1 hc1_1
  by_cases hp:a0_0=a1_0
  ·rw[if_pos hp,Option.some.injEq] at h
   subst h
   have hd:(a0_0 == a1_0)=true:=beq_iff_eq.mpr hp
   have hdn:(a0_0 != a1_0)=false:=bne_eq_false_iff_eq.mpr hp
   clear hp
   by_cases hlen:l0_1.length=l1_1.length
   ·have HN:=zM hlen
    have hd0:(l0_1.length == l1_1.length)=true:=beq_iff_eq.mpr hlen
    have hd1:((l0_1.length:Int) == (l1_1.length:Int))=true:=beq_iff_eq.mpr zq21
    have hd2:((l0_1.length:Int) != (l1_1.length:Int))=false:=bne_eq_false_iff_eq.mpr zq21
    clear hlen
    go_enter Try.func24,Try.ntmps24
    go_wp2
    go_loopw [5] (fun v5 W=>∃ kk:Nat,kk≤l0_1.length∧v5=.int .i64 kk∧Aside0 (sameKs l0_1 l1_1=sameKs (l0_1.drop kk) (l1_1.drop kk))∧Aside0 (W.heap[w.heap.size]?=some (.cells #[.int .i64 a0_0,.slice A0_1 l0_1.length c0_1] 29 (0,0)))∧Aside0 (W.heap[w.heap.size+1]?=some (.cells #[.int .i64 a1_0,.slice A1_1 l1_1.length c1_1] 29 (0,0)))∧Aside0 (Below w.heap.size w W)) (fun v5 _=>l0_1.length - (intOf v5).toNat)
    case atStart=>exact⟨0,Nat.zero_le _,rfl,⟨rfl⟩,⟨blk_alloc (heap_alloc_new w _) _⟩,⟨by have h9:=heap_alloc_new (w.alloc (.cells #[.int .i64 a0_0,.slice A0_1 l0_1.length c0_1] 29)) (.cells #[.int .i64 a1_0,.slice A1_1 l1_1.length c1_1] 29);simpa using h9⟩,⟨(((Below.refl _ _).alloc (Nat.le_refl _) _).alloc zq58 _)⟩⟩
    case round=>
     clear hd0 hd1 hd2 hd hdn
     obtain⟨kk,hk,rfl,HP,BK,BL,HB⟩:=hrel
     obtain⟨ha0,ha1⟩:=ringFault_box _ _ _ _ _ _ BK.out
     obtain⟨hb0,hb1⟩:=ringFault_box _ _ _ _ _ _ BL.out
     by_cases hl:kk < l0_1.length
     ·have hd:decide (kk < l0_1.length)=true:=decide_eq_true hl
      have hl2:kk < l1_1.length:=by have:=HN.out;omega
      have HD:=zM (sameKs_drop l0_1 l1_1 kk hl hl2)
      have hlt:=zM hl
      obtain⟨ad,A1,c1,rfl,hx0,hx1,hxl,hxi⟩:=at_T25 HR.out (kk:Int) zq21 zq21
      obtain⟨ad2,A2,c2,rfl,hy0,hy1,hyl,hyi⟩:=at_T25 HQ.out (kk:Int) zq21 zq21
      generalize rd_T25 l0_1 (kk:Int)=x at HD hx0 hx1 hxl hxi
      generalize rd_T25 l1_1 (kk:Int)=y at HD hy0 hy1 hyl hyi
      rw[Int.toNat_natCast] at hx0 hx1 hy0 hy1
      have HX:=zM (And.intro ((HB.out.cell (World.block_lt_of_cell? w _ hx0)).trans hx0) ((HB.out.cell (World.block_lt_of_cell? w _ hx1)).trans hx1))
      have HY:=zM (And.intro ((HB.out.cell (World.block_lt_of_cell? w _ hy0)).trans hy0) ((HB.out.cell (World.block_lt_of_cell? w _ hy1)).trans hy1))
      have HRX:=zM hxi
      have HRY:=zM hyi
      clear hx0 hx1 hxl hxi hy0 hy1 hyl hyi
      by_cases hs:sameK x y=true
      ·have HS:=zM hs
       have HP2:Aside0 (sameKs l0_1 l1_1=sameKs (l0_1.drop (kk+1)) (l1_1.drop (kk+1))):=⟨by rw[HP.out,HD.out,if_pos hs]⟩
       clear HP HD hs
       go_wp2_with fail
       go_quiet ((go_at_call 71;exact Calls.quiet_of (l4Same_as (ad.add (kk*2)) (ad2.add (kk*2)) x y true HS.out A1 A2 c1 c2 _ HX.out.1 HX.out.2 HY.out.1 HY.out.2 (Kd.C_drewN (Kd.C_below HRX.out HB.out) _) (Kd.C_drewN (Kd.C_below HRY.out HB.out) _))))
       go_wp2
       go_roundw
       case rel=>exact⟨kk+1,hlt.out,congrArg _ (wrap_next kk _ hlt.out HM.out),HP2,⟨zq108⟩,⟨by(with_reducible repeat (first|refine blk_drewN ?_ _|refine blk_drew ?_|refine blk_alloc ?_ _));exact BL.out⟩,⟨zq0⟩⟩
       case measure=>exact next_less kk _ hlt.out HM.out
      ·have HS:=zM (Bool.eq_false_iff.mpr hs)
       have HP2:Aside0 (sameKs l0_1 l1_1=false):=⟨by rw[HP.out,HD.out,if_neg hs]⟩
       clear HP HD hs
       go_wp2_with fail
       go_quiet ((go_at_call 71;exact Calls.quiet_of (l4Same_as (ad.add (kk*2)) (ad2.add (kk*2)) x y false HS.out A1 A2 c1 c2 _ HX.out.1 HX.out.2 HY.out.1 HY.out.2 (Kd.C_drewN (Kd.C_below HRX.out HB.out) _) (Kd.C_drewN (Kd.C_below HRY.out HB.out) _))))
       go_wp2
       go_ret
       exact⟨by rw[HP2.out];rfl,zq0⟩
     ·obtain rfl:kk=l0_1.length:=by omega
      have HP2:Aside0 (sameKs l0_1 l1_1=true):=⟨by rw[HP.out,List.drop_length,HN.out,List.drop_length];rfl⟩
      clear HP
      go_wp2
      go_ret
      exact⟨by rw[HP2.out];rfl,HB.out⟩
   ·have HN:Aside0 (sameKs l0_1 l1_1=false):=⟨sameKs_len _ _ hlen⟩
    have hd0:(l0_1.length == l1_1.length)=false:=beq_eq_false_iff_ne.mpr hlen
    have hd1:((l0_1.length:Int) == (l1_1.length:Int))=false:=beq_eq_false_iff_ne.mpr zq21
    have hd2:((l0_1.length:Int) != (l1_1.length:Int))=true:=bne_iff_ne.mpr zq21
    clear hlen
    go_enter Try.func24,Try.ntmps24
    go_wp2
    go_ret
    exact⟨by rw[HN.out];rfl,(((Below.refl _ _).alloc (Nat.le_refl _) _).alloc zq58 _)⟩
  ·rw[if_neg hp,Option.some.injEq] at h
   subst h
   have hd:(a0_0 == a1_0)=false:=beq_eq_false_iff_ne.mpr hp
   have hdn:(a0_0 != a1_0)=true:=bne_iff_ne.mpr hp
   clear hp
   go_enter Try.func24,Try.ntmps24
   go_wp2
   go_ret
   exact⟨rfl,(((Below.refl _ _).alloc (Nat.le_refl _) _).alloc zq58 _)⟩
 ·rw[if_neg hm] at h
  cases h
end Go.Proofs.Ytmnhddedcbkpoaa.All
end
