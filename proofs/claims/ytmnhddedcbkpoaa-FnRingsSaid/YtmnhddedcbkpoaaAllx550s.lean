-- Laid by wip/shake.py of this repo out of this claim's texts. Not trusted: Lean checks it.
import Derived.Test.YtmnhddedcbkpoaaAb0s
import Derived.Test.YtmnhddedcbkpoaaBytes
import Derived.Test.YtmnhddedcbkpoaaAllx24s
import Derived.Test.YtmnhddedcbkpoaaAllx33s
import Derived.Test.YtmnhddedcbkpoaaAllx35s
namespace Go.Proofs.Ytmnhddedcbkpoaa.All
open Go.Proofs.YtmnhddedcbkpoaaW.PrintWords.Aside0 renaming mk→zM
open Go.RowKit Go.Proofs.YtmnhddedcbkpoaaW.PrintWords Go.Proofs.YtmnhddedcbkpoaaW.PrintLast Go.Proofs.YtmnhddedcbkpoaaW.PrintMore
attribute [local go_sem] max2_int min2_int max_two min_two max_three min_three max_four min_four
set_option linter.unusedVariables false
set_option linter.unusedSimpArgs false
def keyC (x:Int) (n:Nat):Int:=if 1≤x∧x≤255 then (if n=16 then 0 else 2) else 3
def faultsL:List S25→Int
 | []=>0
 | x :: xs=>if keyC x.f0 x.f1.length=0 then faultsL xs else keyC x.f0 x.f1.length
def orderL:List S25→Bool
 | x :: y :: xs=>if y.f0≤x.f0 then false else orderL (y :: xs)
 | _=>true
def ringFaultL (p:Int) (l:List S25):Int:=if l.length < 1 ∨ 3 < l.length then 2 else if faultsL l=0 then (if orderL l=true then (if placeL p l 0 < 0 then 4 else 0) else 1) else faultsL l
def spec_RingFault.f (a0_0:Int) (l0_1:List S25):Option Int:=some (ringFaultL a0_0 l0_1)
theorem rd_get (l:List S25) (k:Nat) (h:k < l.length):rd_T25 l (k:Int)=l[k]:=by
 unfold rd_T25
 rw[Int.toNat_natCast,List.getD_eq_getElem?_getD,List.getElem?_eq_getElem h]
 rfl
theorem faultsL_drop (l:List S25) (k:Nat) (h:k < l.length):faultsL (l.drop k)=if keyC (rd_T25 l (k:Int)).f0 (rd_T25 l (k:Int)).f1.length=0 then faultsL (l.drop (k+1)) else keyC (rd_T25 l (k:Int)).f0 (rd_T25 l (k:Int)).f1.length:=by
 rw[List.drop_eq_getElem_cons h,rd_get l k h]
 simp only[faultsL]
theorem orderL_drop (l:List S25) (k:Nat) (h:k+1 < l.length):orderL (l.drop k)=if (rd_T25 l ((k+1:Nat):Int)).f0≤(rd_T25 l (k:Int)).f0 then false else orderL (l.drop (k+1)):=by
 rw[List.drop_eq_getElem_cons (show k < l.length by omega),List.drop_eq_getElem_cons h,rd_get l k zq21,rd_get l (k+1) h]
 simp only[orderL]
theorem orderL_end (l:List S25) (k:Nat) (h:k+1=l.length):orderL (l.drop k)=true:=by
 rw[List.drop_eq_getElem_cons (show k < l.length by omega),List.drop_eq_nil_of_le zq21]
 simp only[orderL]
theorem l4Find_loop (id p:Int) (l:List S25) (hl:l.length < 140737488355328) (d:Nat):∀ (k i:Nat),i+d=l.length→d < k→spec_l4Find.l0 k id (i:Int) p l=some (placeL id (l.drop i) i,p):=by
 induction d with
 | zero=>
  intro k i hi hk
  obtain⟨k,rfl⟩:∃ m,k=m+1:=⟨k - 1,zq21⟩
  simp only[spec_l4Find.l0]
  rw[if_neg zq21,List.drop_of_length_le zq21]
  rfl
 | succ d ih=>
  intro k i hi hk
  obtain⟨k,rfl⟩:∃ m,k=m+1:=⟨k - 1,zq21⟩
  simp only[spec_l4Find.l0]
  rw[if_pos zq21,if_pos zq21,placeL_drop id l i zq21,wrap_next i l.length zq21 hl,ih k (i+1) zq21 zq21]
  by_cases h:(rd_T25 l (i:Int)).f0=id
  ·rw[if_pos h,if_pos h]
  ·rw[if_neg h,if_neg h]
theorem l4Find_eq (id p:Int) (l:List S25) (hl:l.length < 140737488355328) (k:Nat) (hk:l.length < k):spec_l4Find.f k p l id=some (placeL id l 0,p):=by
 have h:=l4Find_loop id p l hl l.length k 0 zq21 hk
 simpa [spec_l4Find.f] using h
set_option maxHeartbeats 4000000 in
set_option maxRecDepth 100000 in
theorem l4Key_at (p:Addr) (x:Int) (A:Option Addr) (n c:Nat) (w:World) (h0:w.cell? p=some (.int .i64 x)) (h1:w.cell? ⟨p.block,p.off+1,none⟩=some (.slice A n c)) :
  Calls Try.prog 83 #[.pointer (some p)] w fun e w'=>e=.returned (.int .i64 (keyC x n))∧Below w.heap.size w w':=by
 by_cases hin:1≤x∧x≤255
 ·have A0:Aside0 (spec_l1In.f x 1 255=some true):=⟨by unfold spec_l1In.f;rw[if_pos hin.1,decide_eq_true hin.2]⟩
  have hk:Aside0 (keyC x n=if n=16 then 0 else 2):=⟨by unfold keyC;rw[if_pos hin]⟩
  clear hin
  by_cases hn:n=16
  ·have hk2:Aside0 (keyC x n=0):=⟨by rw[hk.out,if_pos hn]⟩
   have hb:((n:Int) == 16)=true:=by rw[hn];rfl
   have hb2:((n:Int) != 16)=false:=by rw[hn];rfl
   clear hn hk
   go_enter Try.func83,Try.ntmps83
   go_wp2_with (go_at_call 68;refine(spec_l1In.calls x 1 255 true _ A0.out).mono ?_;rintro e wk ⟨rfl,⟨nd,rfl⟩⟩)
   go_ret
   exact⟨by rw[hk2.out];rfl,zq99⟩
  ·have hk2:Aside0 (keyC x n=2):=⟨by rw[hk.out,if_neg hn]⟩
   have hb:((n:Int) == 16)=false:=by rw[beq_eq_false_iff_ne];omega
   have hb2:((n:Int) != 16)=true:=by rw[bne_iff_ne];omega
   clear hn hk
   go_enter Try.func83,Try.ntmps83
   go_wp2_with (go_at_call 68;refine(spec_l1In.calls x 1 255 true _ A0.out).mono ?_;rintro e wk ⟨rfl,⟨nd,rfl⟩⟩)
   go_ret
   exact⟨by rw[hk2.out];rfl,zq99⟩
 ·have A0:Aside0 (spec_l1In.f x 1 255=some false):=⟨by
   unfold spec_l1In.f
   by_cases h1:x ≥ 1
   ·rw[if_pos h1,decide_eq_false (fun h2=>hin ⟨h1,h2⟩)]
   ·rw[if_neg h1]⟩
  have hk2:Aside0 (keyC x n=3):=⟨by unfold keyC;rw[if_neg hin]⟩
  clear hin
  go_enter Try.func83,Try.ntmps83
  go_wp2_with (go_at_call 68;refine(spec_l1In.calls x 1 255 false _ A0.out).mono ?_;rintro e wk ⟨rfl,⟨nd,rfl⟩⟩)
  go_ret
  exact⟨by rw[hk2.out];rfl,zq99⟩
theorem l4Key_as (p:Addr) (x:Int) (A:Option Addr) (n c:Nat) (r:Int) (hr:keyC x n=r) (w:World) (h0:w.cell? p=some (.int .i64 x)) (h1:w.cell? ⟨p.block,p.off+1,none⟩=some (.slice A n c)) :
  Calls Try.prog 83 #[.pointer (some p)] w fun e w'=>e=.returned (.int .i64 r)∧Below w.heap.size w w':=by
 subst hr
 exact l4Key_at p x A n c w h0 h1
theorem ringFault_box (g:Nat) (p:Int) (A:Option Addr) (n c:Nat) (W:World) (h:W.heap[g]?=some (.cells #[.int .i64 p,.slice A n c] 29 (0,0))):W.cell? ⟨g,0,none⟩=some (.int .i64 p)∧W.cell? ⟨g,1,none⟩=some (.slice A n c):=⟨(blk_cell h 0).trans rfl,(blk_cell h 1).trans rfl⟩
set_option maxHeartbeats 4000000 in
set_option maxRecDepth 100000 in
theorem spec_RingFault.calls (a0_0:Int) (A0_1:Option Addr) (c0_1:Nat) (l0_1:List S25) (r:Int) (w:World) (hr0_1:Kd.C k25 w A0_1 l0_1.length l0_1) (hc0_1:l0_1.length≤c0_1) (h:spec_RingFault.f a0_0 l0_1=some r) :
  Calls Try.prog 37 #[.agg #[.int .i64 a0_0,.slice A0_1 l0_1.length c0_1]] w fun e w'=>e=.returned (.int .i64 r)∧Below w.heap.size w w':=by
 unfold spec_RingFault.f at h
 rw[Option.some.injEq] at h
 subst h
 have HR:=zM hr0_1
 have HC:=zM hc0_1
 clear hr0_1 hc0_1
 have HB:=zM (Below.refl w.heap.size w)
 by_cases h1:l0_1.length < 1
 ·have HV:Aside0 (ringFaultL a0_0 l0_1=2):=⟨by unfold ringFaultL;rw[if_pos (.inl h1)]⟩
  have hd:decide (l0_1.length < 1)=true:=decide_eq_true h1
  have hd2:decide ((l0_1.length:Int) < 1)=true:=decide_eq_true zq21
  go_enter Try.func37,Try.ntmps37
  go_wp2
  go_ret
  exact⟨by rw[HV.out];rfl,by repeat (first|exact HB.out|apply below_alloc|apply pw_below_drewN|apply below_drew1)⟩
 ·by_cases h3:3 < l0_1.length
  ·have HV:Aside0 (ringFaultL a0_0 l0_1=2):=⟨by unfold ringFaultL;rw[if_pos (.inr h3)]⟩
   have hd:decide (l0_1.length < 1)=false:=decide_eq_false h1
   have hd2:decide ((l0_1.length:Int) < 1)=false:=decide_eq_false zq21
   have he:decide (3 < l0_1.length)=true:=decide_eq_true h3
   have he2:decide ((l0_1.length:Int) > 3)=true:=decide_eq_true zq21
   have he3:decide (3 < (l0_1.length:Int))=true:=decide_eq_true zq21
   go_enter Try.func37,Try.ntmps37
   go_wp2
   go_ret
   exact⟨by rw[HV.out];rfl,by repeat (first|exact HB.out|apply below_alloc|apply pw_below_drewN|apply below_drew1)⟩
  ·have HV:Aside0 (ringFaultL a0_0 l0_1=if faultsL l0_1=0 then (if orderL l0_1=true then (if placeL a0_0 l0_1 0 < 0 then 4 else 0) else 1) else faultsL l0_1):=⟨by unfold ringFaultL;rw[if_neg zq21]⟩
   have HL:Aside0 (1≤l0_1.length∧l0_1.length≤3):=⟨zq21⟩
   have hd:decide (l0_1.length < 1)=false:=decide_eq_false h1
   have hd2:decide ((l0_1.length:Int) < 1)=false:=decide_eq_false zq21
   have he:decide (3 < l0_1.length)=false:=decide_eq_false h3
   have he2:decide ((l0_1.length:Int) > 3)=false:=decide_eq_false zq21
   have he3:decide (3 < (l0_1.length:Int))=false:=decide_eq_false zq21
   have HLB:Aside0 (l0_1.length < 140737488355328):=⟨by have:=HL.out;omega⟩
   clear h1 h3
   go_enter Try.func37,Try.ntmps37
   go_wp2_with (first
    | ((with_reducible refine gate_dst (N:=1) rfl ?_);refine box_event ?hg (N:=1) ?hd (cs:=#[.int .i64 a0_0,.slice A0_1 l0_1.length c0_1]) (t:=29) ?hr ?_;(case hd=>rfl);(case hg=>rfl);(case hr=>first|(go_simp;done)|(go_simp;rfl));intro g hg w2 hbox hb;have BK:=zM hbox;have n1_:=zM (below_step HB.out hb);have GE:=zM (show w.heap.size≤g by rw[hg];exact Nat.le_refl _);clear HB;have HB:=n1_;clear n1_;clear hb hbox hg;obtain⟨hb0,hb1⟩:=ringFault_box _ _ _ _ _ _ BK.out))
   clear hd hd2 he he2 he3 hb0 hb1
   go_loopw [3,4] (fun v3 _ W=>∃ kk:Nat,kk≤l0_1.length∧v3=.int .i64 kk∧Aside0 (faultsL l0_1=faultsL (l0_1.drop kk))∧Aside0 (W.heap[g]?=some (.cells #[.int .i64 a0_0,.slice A0_1 l0_1.length c0_1] 29 (0,0)))∧Aside0 (Below w.heap.size w W)) (fun v3 _ _=>l0_1.length - (intOf v3).toNat)
   case atStart=>exact⟨0,Nat.zero_le _,rfl,⟨rfl⟩,BK,HB⟩
   case round=>
    clear BK HB
    obtain⟨kk,hk,rfl,HP,BK,HB⟩:=hrel
    obtain⟨hb0,hb1⟩:=ringFault_box _ _ _ _ _ _ BK.out
    by_cases hl:kk < l0_1.length
    ·have hd:decide (kk < l0_1.length)=true:=decide_eq_true hl
     have HD:=zM (faultsL_drop l0_1 kk hl)
     have hlt:=zM hl
     obtain⟨ad,A1,c1,rfl,hx0,hx1,hl1,hi1⟩:=at_T25 HR.out (kk:Int) zq21 zq21
     clear hl1 hi1
     generalize rd_T25 l0_1 (kk:Int)=x at HD hx0 hx1
     rw[Int.toNat_natCast] at hx0 hx1
     have HX:=zM (And.intro ((HB.out.cell (World.block_lt_of_cell? w _ hx0)).trans hx0) ((HB.out.cell (World.block_lt_of_cell? w _ hx1)).trans hx1))
     clear hx0 hx1
     by_cases hz:keyC x.f0 x.f1.length=0
     ·have HZ:=zM hz
      have HD2:Aside0 (faultsL l0_1=faultsL (l0_1.drop (kk+1))):=⟨by rw[HP.out,HD.out,if_pos hz]⟩
      clear HP HD hz
      go_wp2_with (go_at_call 83;refine(l4Key_as (ad.add (kk*2)) x.f0 A1 x.f1.length c1 0 HZ.out _ HX.out.1 HX.out.2).mono ?_;rintro e wk ⟨rfl,hb⟩;have n0_:=zM (below_step HB.out hb);have n1_:=zM (blk_below (g:=g) BK.out hb);clear HB BK hb0 hb1;have HB:=n0_;have BK:=n1_;clear n0_ n1_ hb)
      go_roundw
      case rel=>exact⟨kk+1,hlt.out,congrArg _ (wrap_next kk _ hlt.out HLB.out),HD2,BK,HB⟩
      case measure=>exact next_less kk _ hlt.out HLB.out
     ·obtain⟨c,HZ⟩:∃ c,Aside0 (keyC x.f0 x.f1.length=c):=⟨_,⟨rfl⟩⟩
      rw[HZ.out] at hz
      have hc1:(c == 0)=false:=beq_eq_false_iff_ne.mpr hz
      have hc2:(c != 0)=true:=bne_iff_ne.mpr hz
      have HV2:Aside0 (ringFaultL a0_0 l0_1=c):=⟨by rw[HV.out,HP.out,HD.out,HZ.out,if_neg hz,if_neg hz]⟩
      clear HP HD hz HV
      go_wp2_with (go_at_call 83;refine(l4Key_as (ad.add (kk*2)) x.f0 A1 x.f1.length c1 c HZ.out _ HX.out.1 HX.out.2).mono ?_;rintro e wk ⟨rfl,hb⟩;have n0_:=zM (below_step HB.out hb);clear HB;have HB:=n0_;clear n0_ hb)
      go_ret
      exact⟨by rw[HV2.out];rfl,HB.out⟩
    ·obtain rfl:kk=l0_1.length:=by omega
     have HF:Aside0 (faultsL l0_1=0):=⟨by rw[HP.out,List.drop_length];rfl⟩
     have HV2:Aside0 (ringFaultL a0_0 l0_1=if orderL l0_1=true then (if placeL a0_0 l0_1 0 < 0 then 4 else 0) else 1):=⟨by rw[HV.out,if_pos HF.out]⟩
     clear HP HF HV hl
     obtain⟨wo,rfl⟩:∃ wo:World,wo=wr:=⟨_,rfl⟩
     go_wp2
     go_loopw [5] (fun v5 W=>∃ kk:Nat,1≤kk∧kk≤l0_1.length∧v5=.int .i64 kk∧Aside0 (orderL l0_1=orderL (l0_1.drop (kk - 1)))∧Aside0 (W.heap[g]?=some (.cells #[.int .i64 a0_0,.slice A0_1 l0_1.length c0_1] 29 (0,0)))∧Aside0 (Below w.heap.size w W)) (fun v5 _=>l0_1.length - (intOf v5).toNat)
     case atStart=>exact⟨1,zq21,HL.out.1,rfl,⟨rfl⟩,BK,HB⟩
     case round=>
      clear BK HB hb0 hb1 hk
      obtain⟨kk,hk1,hk,rfl,HP,BK,HB⟩:=hrel
      obtain⟨hb0,hb1⟩:=ringFault_box _ _ _ _ _ _ BK.out
      by_cases hl:kk < l0_1.length
      ·obtain⟨j,rfl⟩:∃ j,kk=j+1:=⟨kk - 1,zq21⟩
       have hd:decide (j+1 < l0_1.length)=true:=decide_eq_true hl
       have hd2:decide (((j+1:Nat):Int) < (l0_1.length:Int))=true:=decide_eq_true zq21
       have hd3:decide ((j:Int)+1 < (l0_1.length:Int))=true:=decide_eq_true zq21
       have HD:=zM (orderL_drop l0_1 j hl)
       have hlt:=zM hl
       obtain⟨ad,A1,c1,rfl,hx0,hx1,hl1,hi1⟩:=at_T25 HR.out ((j+1:Nat):Int) zq21 zq21
       obtain⟨ad2,A2,c2,e2,hy0,hy1,hl2,hi2⟩:=at_T25 HR.out (j:Int) zq21 zq21
       injection e2 with e2
       subst e2
       clear hl1 hi1 hl2 hi2 hx1 hy1
       replace hx0:=(HB.out.cell (World.block_lt_of_cell? w _ hx0)).trans hx0
       replace hy0:=(HB.out.cell (World.block_lt_of_cell? w _ hy0)).trans hy0
       generalize (rd_T25 l0_1 ((j+1:Nat):Int)).f0=x at HD hx0
       generalize (rd_T25 l0_1 (j:Int)).f0=y at HD hy0
       rw[Int.toNat_natCast] at hx0 hy0
       have hj2:j+1≤3:=by have:=HL.out;omega
       have hs1:IntKind.i64.wrap (((j+1:Nat):Int) - 1)=(j:Int):=by rw[IntWalk.i64_in _ zq21];omega
       have hs2:IntKind.i64.wrap ((j:Int)+1 - 1)=(j:Int):=by rw[IntWalk.i64_in _ zq21];omega
       by_cases hxy:x≤y
       ·have HV3:Aside0 (ringFaultL a0_0 l0_1=1):=⟨by rw[HV2.out,HP.out,show j+1 - 1=j from rfl,HD.out,if_pos hxy];rfl⟩
        have hc1:decide (x≤y)=true:=decide_eq_true hxy
        clear HV2 HP HD
        go_wp2_with fail
        go_quiet (fail)
        go_wp2
        go_ret
        exact⟨by rw[HV3.out];rfl,zq0⟩
       ·have HP2:Aside0 (orderL l0_1=orderL (l0_1.drop (j+1))):=⟨by rw[HP.out,show j+1 - 1=j from rfl,HD.out,if_neg hxy]⟩
        have hc1:decide (x≤y)=false:=decide_eq_false hxy
        clear HP HD hxy
        go_wp2_with fail
        go_quiet (fail)
        clear hs1 hs2
        go_wp2
        go_roundw
        case rel=>exact⟨j+1+1,zq21,hlt.out,by go_num,HP2,⟨zq108⟩,⟨zq0⟩⟩
        case measure=>have:=hlt.out;simp[intOf];omega
      ·obtain rfl:kk=l0_1.length:=by omega
       obtain⟨q,HQ⟩:∃ q,Aside0 (placeL a0_0 l0_1 0=q):=⟨_,⟨rfl⟩⟩
       have HV3:Aside0 (ringFaultL a0_0 l0_1=if q < 0 then 4 else 0):=⟨by rw[HV2.out,HP.out,orderL_end _ _ (by have:=HL.out;omega),if_pos rfl,HQ.out]⟩
       clear HV2 HP hl
       by_cases hq:q < 0
       ·have HV4:Aside0 (ringFaultL a0_0 l0_1=4):=⟨by rw[HV3.out,if_pos hq]⟩
        have hc1:decide (q < 0)=true:=decide_eq_true hq
        clear HV3 hq
        go_wp2_with (go_at_call 84;refine(spec_l4Find.calls (l0_1.length+1) g a0_0 l0_1 a0_0 q a0_0 w _ ⟨A0_1,c0_1,BK.out,GE.out,HR.out⟩ HB.out (by rw[l4Find_eq a0_0 a0_0 l0_1 HLB.out _ (Nat.lt_succ_self _),HQ.out])).mono ?_;rintro e wk ⟨rfl,hI,hb,hk9⟩;clear hI hk9;have n0_:=zM hb;clear HB hb;have HB:=n0_;clear n0_)
        go_ret
        exact⟨by rw[HV4.out];rfl,HB.out⟩
       ·have HV4:Aside0 (ringFaultL a0_0 l0_1=0):=⟨by rw[HV3.out,if_neg hq]⟩
        have hc1:decide (q < 0)=false:=decide_eq_false hq
        clear HV3 hq
        go_wp2_with (go_at_call 84;refine(spec_l4Find.calls (l0_1.length+1) g a0_0 l0_1 a0_0 q a0_0 w _ ⟨A0_1,c0_1,BK.out,GE.out,HR.out⟩ HB.out (by rw[l4Find_eq a0_0 a0_0 l0_1 HLB.out _ (Nat.lt_succ_self _),HQ.out])).mono ?_;rintro e wk ⟨rfl,hI,hb,hk9⟩;clear hI hk9;have n0_:=zM hb;clear HB hb;have HB:=n0_;clear n0_)
        go_ret
        exact⟨by rw[HV4.out];rfl,HB.out⟩
end Go.Proofs.Ytmnhddedcbkpoaa.All
