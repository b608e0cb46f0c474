-- Laid by wip/shake.py of this repo out of this claim's texts. Not trusted: Lean checks it.
import Derived.Test.YtmnhddedcbkpoaaAb0s
import Derived.Test.YtmnhddedcbkpoaaBytes
namespace Go.Proofs.Ytmnhddedcbkpoaa.All
open Go.RowKit Go.Proofs.YtmnhddedcbkpoaaW.PrintWords Go.Proofs.YtmnhddedcbkpoaaW.PrintLast Go.Proofs.YtmnhddedcbkpoaaW.PrintMore
attribute [local go_sem] max2_int min2_int max_two min_two max_three min_three max_four min_four
set_option linter.unusedVariables false
set_option linter.unusedSimpArgs false
def IsS112 (w0 W:World) (g:Nat) (f0:List Int) (f1:Int):Prop:=∃ A0 c0,W.heap[g]?=some (.cells #[.slice A0 f0.length c0,.int .i64 f1] 112 (0,0))∧w0.heap.size≤g∧Kd.C (Kd.int .u8) w0 A0 f0.length f0
theorem IsS112.grown {w0 W:World} {g:Nat} {f0:List Int} {f1:Int} {W1:World} {row:Option Nat} (h:IsS112 w0 W g f0 f1) (hw:W.grownBy W1 row) (hne:some g≠row):IsS112 w0 W1 g f0 f1:=by
 obtain⟨A0,c0,hb,hg,hr0⟩:=h
 exact⟨A0,c0,blk_grown hb hw hne,hg,hr0⟩
theorem IsS112.fresh {w0 W:World} {g:Nat} {f0:List Int} {f1:Int} (h:IsS112 w0 W g f0 f1):∀ k,W.heap.size≤k→k≠g:=by
 obtain⟨A0,c0,hb,hg,hr0⟩:=h
 exact Kd.freshB hb
theorem IsS112.kept {w0 W:World} {g:Nat} {f0:List Int} {f1:Int} {W1:World} {S:Nat→Prop} (h:IsS112 w0 W g f0 f1) (hk:Kept W W1 S) (hne:¬ S g):IsS112 w0 W1 g f0 f1:=by
 obtain⟨A0,c0,hb,hg,hr0⟩:=h
 exact⟨A0,c0,blk_kept hb hk hne,hg,hr0⟩
theorem IsS112.below {w0 W:World} {g:Nat} {f0:List Int} {f1:Int} {W1:World} (h:IsS112 w0 W g f0 f1) (hw:Below W.heap.size W W1):IsS112 w0 W1 g f0 f1:=h.grown (grown_of_below hw none) zq58
theorem IsS112.alloc {w0 W:World} {g:Nat} {f0:List Int} {f1:Int} (h:IsS112 w0 W g f0 f1) (o:Obj):IsS112 w0 (W.alloc o) g f0 f1:=h.below (below_alloc (Below.refl _ _) o)
theorem IsS112.drewN {w0 W:World} {g:Nat} {f0:List Int} {f1:Int} (h:IsS112 w0 W g f0 f1) (m:Nat):IsS112 w0 (W.drewN m) g f0 f1:=h
theorem IsS112.drew {w0 W:World} {g:Nat} {f0:List Int} {f1:Int} (h:IsS112 w0 W g f0 f1):IsS112 w0 W.drew g f0 f1:=h
theorem IsS112.at_ {w0 W:World} {g:Nat} {f0:List Int} {f1:Int} {w':World} {m:Nat} (hq:W.drewN m=w') (h:IsS112 w0 W g f0 f1):IsS112 w0 w' g f0 f1:=by subst hq;exact IsS112.drewN h m
theorem IsS112.apart {w0 W:World} {g:Nat} {f0:List Int} {f1:Int} {α:Type} {d:Kd α} {e:Nat} {base:Nat} {ok:Nat→Prop} {v:Value} {xs:List α} (h:IsS112 w0 W g f0 f1) (ho:d.R e W base ok v xs) (ht:∀ q,q ∈ e :: d.E→q≠112):d.R e W base (fun k=>ok k∧k≠g) v xs:=by
 obtain⟨A0,c0,hb,hg,hr0⟩:=h
 exact Kd.R_types ho hb ht
theorem IsS112.own_ne {w0 W:World} {g:Nat} {f0:List Int} {f1:Int} {α:Type} {d:Kd α} {e:Nat} {base:Nat} {ok:Nat→Prop} {v:Value} {xs:List α} (h:IsS112 w0 W g f0 f1) (ho:d.R e W base ok v xs) (ht:e≠112):some g≠v.ownBlock:=by
 obtain⟨A0,c0,hb,hg,hr0⟩:=h
 exact Kd.R_ne ho hb ht
theorem IsS112.apartS {w0 W:World} {g:Nat} {f0:List Int} {f1:Int} {α:Type} {d:Kd α} {e:Nat} {base:Nat} {ok:Nat→Prop} {v:Value} {xs:List α} (h:IsS112 w0 W g f0 f1) (ho:d.S e W base ok v xs) (ht:∀ q,q ∈ e :: d.E→q≠112):d.S e W base (fun k=>ok k∧k≠g) v xs:=by
 obtain⟨A0,c0,hb,hg,hr0⟩:=h
 exact Kd.S_types ho hb ht
theorem IsS112.own_neS {w0 W:World} {g:Nat} {f0:List Int} {f1:Int} {α:Type} {d:Kd α} {e:Nat} {base:Nat} {ok:Nat→Prop} {v:Value} {xs:List α} (h:IsS112 w0 W g f0 f1) (ho:d.S e W base ok v xs) (ht:e≠112):some g≠v.ownBlock:=by
 obtain⟨A0,c0,hb,hg,hr0⟩:=h
 exact Kd.S_ne ho hb ht
theorem IsS112.lt {w0 W:World} {g:Nat} {f0:List Int} {f1:Int} (h:IsS112 w0 W g f0 f1):g < W.heap.size:=by
 obtain⟨A0,c0,hb,hg,hr0⟩:=h
 exact blk_lt hb
theorem IsS112.ge {w0 W:World} {g:Nat} {f0:List Int} {f1:Int} (h:IsS112 w0 W g f0 f1):w0.heap.size≤g:=by
 obtain⟨A0,c0,hb,hg,hr0⟩:=h
 exact hg
theorem IsS112.ne_blk {w0 W:World} {g:Nat} {f0:List Int} {f1:Int} {a:Nat} {cs:Array Value} {t:TypeId} {fr:Nat × Nat} (h:IsS112 w0 W g f0 f1) (hb2:W.heap[a]?=some (.cells cs t fr)) (ht:t≠112):g≠a:=by
 obtain⟨A0,c0,hb,hg,hr0⟩:=h
 rintro rfl
 rw[hb] at hb2
 injection hb2 with hb2
 injection hb2 with _ ht2
 exact ht ht2.symm
theorem IsS112.far {w0 W:World} {g:Nat} {f0:List Int} {f1:Int} {p:Addr} (h:IsS112 w0 W g f0 f1) (hne:g≠p.block) (u:Value):IsS112 w0 (W.setCell p u) g f0 f1:=by
 obtain⟨A0,c0,hb,hg,hr0⟩:=h
 exact⟨A0,c0,blk_far hb hne u,hg,hr0⟩
theorem cellS112_0 {W:World} {g:Nat} {A0:Option Addr} {c0:Nat} {f0:List Int} {f1:Int} (h:W.heap[g]?=some (.cells #[.slice A0 f0.length c0,.int .i64 f1] 112 (0,0))):W.cell? ⟨g,0,none⟩=some (.slice A0 f0.length c0):=(blk_cell h 0).trans rfl
theorem cellS112_1 {W:World} {g:Nat} {A0:Option Addr} {c0:Nat} {f0:List Int} {f1:Int} (h:W.heap[g]?=some (.cells #[.slice A0 f0.length c0,.int .i64 f1] 112 (0,0))):W.cell? ⟨g,1,none⟩=some (.int .i64 f1):=(blk_cell h 1).trans rfl
theorem IsS112.set_1 {w0 W:World} {g:Nat} {f0:List Int} {f1:Int} (h:IsS112 w0 W g f0 f1) (x:Int):IsS112 w0 (W.setCell ⟨g,1,none⟩ (.int .i64 x)) g f0 x:=by
 obtain⟨A0,c0,hb,hg,hr0⟩:=h
 exact⟨A0,c0,by simpa using blk_set hb 1 (.int .i64 x),hg,hr0⟩
def spec_l1Next.f (s0_0:List Int) (s0_1:Int) (a1:Int):Option (Int × Int):=if a1 < 1 then (some (0,wrap64 (s0_1+1))) else (if (s0_0.length:Int)=0 then (if a1=0 then (none) else (some (Int.tmod (wrap64 ((wrap64 ((wrap64 (s0_1+1)) - 1))*7)) a1,wrap64 (s0_1+1)))) else (if 0≤(Int.tmod (wrap64 ((wrap64 (s0_1+1)) - 1)) (s0_0.length:Int)) then (if (Int.tmod (wrap64 ((wrap64 (s0_1+1)) - 1)) (s0_0.length:Int)) < (s0_0.length:Int) then (if a1 > 200 then (if 0≤(Int.tmod (wrap64 ((wrap64 ((wrap64 (s0_1+1)) - 1))+1)) (s0_0.length:Int)) then (if (Int.tmod (wrap64 ((wrap64 ((wrap64 (s0_1+1)) - 1))+1)) (s0_0.length:Int)) < (s0_0.length:Int) then (if a1 > 60000 then (if 0≤(Int.tmod (wrap64 ((wrap64 ((wrap64 (s0_1+1)) - 1))+2)) (s0_0.length:Int)) then (if (Int.tmod (wrap64 ((wrap64 ((wrap64 (s0_1+1)) - 1))+2)) (s0_0.length:Int)) < (s0_0.length:Int) then (if a1=0 then (none) else (some (Int.tmod (wrap64 ((wrap64 ((wrap64 ((wrap64 ((wrap64 ((wrap64 ((wrap64 (rd s0_0 (Int.tmod (wrap64 ((wrap64 (s0_1+1)) - 1)) (s0_0.length:Int))))+(wrap64 ((wrap64 (Int.tdiv (wrap64 ((wrap64 (s0_1+1)) - 1)) (s0_0.length:Int)))*37))))*251))+(wrap64 ((wrap64 (rd s0_0 (Int.tmod (wrap64 ((wrap64 ((wrap64 (s0_1+1)) - 1))+1)) (s0_0.length:Int))))*13))))+(wrap64 ((wrap64 (s0_1+1)) - 1))))*257))+(wrap64 (rd s0_0 (Int.tmod (wrap64 ((wrap64 ((wrap64 (s0_1+1)) - 1))+2)) (s0_0.length:Int)))))) a1,wrap64 (s0_1+1)))) else (none)) else (none)) else (if a1=0 then (none) else (some (Int.tmod (wrap64 ((wrap64 ((wrap64 ((wrap64 ((wrap64 (rd s0_0 (Int.tmod (wrap64 ((wrap64 (s0_1+1)) - 1)) (s0_0.length:Int))))+(wrap64 ((wrap64 (Int.tdiv (wrap64 ((wrap64 (s0_1+1)) - 1)) (s0_0.length:Int)))*37))))*251))+(wrap64 ((wrap64 (rd s0_0 (Int.tmod (wrap64 ((wrap64 ((wrap64 (s0_1+1)) - 1))+1)) (s0_0.length:Int))))*13))))+(wrap64 ((wrap64 (s0_1+1)) - 1)))) a1,wrap64 (s0_1+1))))) else (none)) else (none)) else (if a1 > 60000 then (if 0≤(Int.tmod (wrap64 ((wrap64 ((wrap64 (s0_1+1)) - 1))+2)) (s0_0.length:Int)) then (if (Int.tmod (wrap64 ((wrap64 ((wrap64 (s0_1+1)) - 1))+2)) (s0_0.length:Int)) < (s0_0.length:Int) then (if a1=0 then (none) else (some (Int.tmod (wrap64 ((wrap64 ((wrap64 ((wrap64 (rd s0_0 (Int.tmod (wrap64 ((wrap64 (s0_1+1)) - 1)) (s0_0.length:Int))))+(wrap64 ((wrap64 (Int.tdiv (wrap64 ((wrap64 (s0_1+1)) - 1)) (s0_0.length:Int)))*37))))*257))+(wrap64 (rd s0_0 (Int.tmod (wrap64 ((wrap64 ((wrap64 (s0_1+1)) - 1))+2)) (s0_0.length:Int)))))) a1,wrap64 (s0_1+1)))) else (none)) else (none)) else (if a1=0 then (none) else (some (Int.tmod (wrap64 ((wrap64 (rd s0_0 (Int.tmod (wrap64 ((wrap64 (s0_1+1)) - 1)) (s0_0.length:Int))))+(wrap64 ((wrap64 (Int.tdiv (wrap64 ((wrap64 (s0_1+1)) - 1)) (s0_0.length:Int)))*37)))) a1,wrap64 (s0_1+1)))))) else (none)) else (none)))
set_option maxHeartbeats 8000000 in
set_option maxRecDepth 100000 in
theorem spec_l1Next.calls (g:Nat) (s0_0:List Int) (s0_1:Int) (a1:Int) (r1:Int) (r2:Int) (w0 w:World) (hI:IsS112 w0 w g s0_0 s0_1) (hB:Below w0.heap.size w0 w) (h:spec_l1Next.f s0_0 s0_1 a1=some (r1,r2)) :
  Calls Try.prog 95 #[.pointer (some ⟨g,0,none⟩),.int .i64 a1] w fun e w'=>e=.returned (.int .i64 r1)∧IsS112 w0 w' g s0_0 r2∧Below w0.heap.size w0 w'∧KeepBut w w' g none:=by
 have HI0:=Aside0.mk hI
 have HK:=Aside0.mk (KeepBut.refl w g none)
 have HL:=Aside0.mk hB.size
 clear hI
 have HW0:=Aside0.mk hB.size
 have HB:=Aside0.mk hB
 clear hB
 have H:(if a1 < 1 then (some (0,wrap64 (s0_1+1))) else (if (s0_0.length:Int)=0 then (if a1=0 then (none) else (some (Int.tmod (wrap64 ((wrap64 ((wrap64 (s0_1+1)) - 1))*7)) a1,wrap64 (s0_1+1)))) else (if 0≤(Int.tmod (wrap64 ((wrap64 (s0_1+1)) - 1)) (s0_0.length:Int)) then (if (Int.tmod (wrap64 ((wrap64 (s0_1+1)) - 1)) (s0_0.length:Int)) < (s0_0.length:Int) then (if a1 > 200 then (if 0≤(Int.tmod (wrap64 ((wrap64 ((wrap64 (s0_1+1)) - 1))+1)) (s0_0.length:Int)) then (if (Int.tmod (wrap64 ((wrap64 ((wrap64 (s0_1+1)) - 1))+1)) (s0_0.length:Int)) < (s0_0.length:Int) then (if a1 > 60000 then (if 0≤(Int.tmod (wrap64 ((wrap64 ((wrap64 (s0_1+1)) - 1))+2)) (s0_0.length:Int)) then (if (Int.tmod (wrap64 ((wrap64 ((wrap64 (s0_1+1)) - 1))+2)) (s0_0.length:Int)) < (s0_0.length:Int) then (if a1=0 then (none) else (some (Int.tmod (wrap64 ((wrap64 ((wrap64 ((wrap64 ((wrap64 ((wrap64 ((wrap64 (rd s0_0 (Int.tmod (wrap64 ((wrap64 (s0_1+1)) - 1)) (s0_0.length:Int))))+(wrap64 ((wrap64 (Int.tdiv (wrap64 ((wrap64 (s0_1+1)) - 1)) (s0_0.length:Int)))*37))))*251))+(wrap64 ((wrap64 (rd s0_0 (Int.tmod (wrap64 ((wrap64 ((wrap64 (s0_1+1)) - 1))+1)) (s0_0.length:Int))))*13))))+(wrap64 ((wrap64 (s0_1+1)) - 1))))*257))+(wrap64 (rd s0_0 (Int.tmod (wrap64 ((wrap64 ((wrap64 (s0_1+1)) - 1))+2)) (s0_0.length:Int)))))) a1,wrap64 (s0_1+1)))) else (none)) else (none)) else (if a1=0 then (none) else (some (Int.tmod (wrap64 ((wrap64 ((wrap64 ((wrap64 ((wrap64 (rd s0_0 (Int.tmod (wrap64 ((wrap64 (s0_1+1)) - 1)) (s0_0.length:Int))))+(wrap64 ((wrap64 (Int.tdiv (wrap64 ((wrap64 (s0_1+1)) - 1)) (s0_0.length:Int)))*37))))*251))+(wrap64 ((wrap64 (rd s0_0 (Int.tmod (wrap64 ((wrap64 ((wrap64 (s0_1+1)) - 1))+1)) (s0_0.length:Int))))*13))))+(wrap64 ((wrap64 (s0_1+1)) - 1)))) a1,wrap64 (s0_1+1))))) else (none)) else (none)) else (if a1 > 60000 then (if 0≤(Int.tmod (wrap64 ((wrap64 ((wrap64 (s0_1+1)) - 1))+2)) (s0_0.length:Int)) then (if (Int.tmod (wrap64 ((wrap64 ((wrap64 (s0_1+1)) - 1))+2)) (s0_0.length:Int)) < (s0_0.length:Int) then (if a1=0 then (none) else (some (Int.tmod (wrap64 ((wrap64 ((wrap64 ((wrap64 (rd s0_0 (Int.tmod (wrap64 ((wrap64 (s0_1+1)) - 1)) (s0_0.length:Int))))+(wrap64 ((wrap64 (Int.tdiv (wrap64 ((wrap64 (s0_1+1)) - 1)) (s0_0.length:Int)))*37))))*257))+(wrap64 (rd s0_0 (Int.tmod (wrap64 ((wrap64 ((wrap64 (s0_1+1)) - 1))+2)) (s0_0.length:Int)))))) a1,wrap64 (s0_1+1)))) else (none)) else (none)) else (if a1=0 then (none) else (some (Int.tmod (wrap64 ((wrap64 (rd s0_0 (Int.tmod (wrap64 ((wrap64 (s0_1+1)) - 1)) (s0_0.length:Int))))+(wrap64 ((wrap64 (Int.tdiv (wrap64 ((wrap64 (s0_1+1)) - 1)) (s0_0.length:Int)))*37)))) a1,wrap64 (s0_1+1)))))) else (none)) else (none))))=some (r1,r2):=h
 clear h
 by_cases c3:a1 < 1
 ·rw[if_pos c3] at H
  have c3b0:decide (a1 < 1)=true:=decide_eq_true c3
  clear c3
  simp only[Option.some.injEq,Prod.mk.injEq] at H
  obtain⟨rfl,rfl⟩:=H
  obtain⟨ASz4_0,cSz4_0,HGz4,hgz4,HSz4_0⟩:=HI0.out
  have hcz4_0:=cellS112_0 HGz4
  have hcz4_1:=cellS112_1 HGz4
  have hfz4_1:=blk_frozen HGz4 1
  clear HGz4 hgz4
  go_enter Try.func95,Try.ntmps95
  go_wp2
  repeat (go_quiet (fail);try go_wp2)
  go_ret
  exact⟨zq10,zq32,zq30,zq13⟩
 ·rw[if_neg c3] at H
  have c3b0:decide (a1 < 1)=false:=decide_eq_false c3
  clear c3
  by_cases c5:(s0_0.length:Int)=0
  ·rw[if_pos c5] at H
   have c5b0:((s0_0.length:Int) == 0)=true:=beq_iff_eq.mpr c5
   have c5b1:((s0_0.length:Int) != 0)=false:=bne_eq_false_iff_eq.mpr c5
   clear c5
   by_cases c6:a1=0
   ·rw[if_pos c6] at H
    exact absurd H zq58
   ·rw[if_neg c6] at H
    have c6b0:(a1 == 0)=false:=beq_eq_false_iff_ne.mpr c6
    have c6b1:(a1 != 0)=true:=bne_iff_ne.mpr c6
    simp only[Option.some.injEq,Prod.mk.injEq] at H
    obtain⟨rfl,rfl⟩:=H
    obtain⟨ASz7_0,cSz7_0,HGz7,hgz7,HSz7_0⟩:=HI0.out
    have hcz7_0:=cellS112_0 HGz7
    have hcz7_1:=cellS112_1 HGz7
    have hfz7_1:=blk_frozen HGz7 1
    clear HGz7 hgz7
    go_enter Try.func95,Try.ntmps95
    go_wp2
    repeat (go_quiet (fail);try go_wp2)
    go_ret
    exact⟨zq10,zq32,zq30,zq13⟩
  ·rw[if_neg c5] at H
   have c5b0:((s0_0.length:Int) == 0)=false:=beq_eq_false_iff_ne.mpr c5
   have c5b1:((s0_0.length:Int) != 0)=true:=bne_iff_ne.mpr c5
   have c5b2:¬ (s0_0=[]):=fun h_=>c5 (by rw[h_];rfl)
   obtain⟨ji8,hji8⟩:∃ j_:Int,(Int.tmod (wrap64 ((wrap64 (s0_1+1)) - 1)) (s0_0.length:Int))=j_:=⟨_,rfl⟩
   replace H:(if 0≤(ji8) then (if (ji8) < (s0_0.length:Int) then (if a1 > 200 then (if 0≤(Int.tmod (wrap64 ((wrap64 ((wrap64 (s0_1+1)) - 1))+1)) (s0_0.length:Int)) then (if (Int.tmod (wrap64 ((wrap64 ((wrap64 (s0_1+1)) - 1))+1)) (s0_0.length:Int)) < (s0_0.length:Int) then (if a1 > 60000 then (if 0≤(Int.tmod (wrap64 ((wrap64 ((wrap64 (s0_1+1)) - 1))+2)) (s0_0.length:Int)) then (if (Int.tmod (wrap64 ((wrap64 ((wrap64 (s0_1+1)) - 1))+2)) (s0_0.length:Int)) < (s0_0.length:Int) then (if a1=0 then (none) else (some (Int.tmod (wrap64 ((wrap64 ((wrap64 ((wrap64 ((wrap64 ((wrap64 ((wrap64 (rd s0_0 (ji8)))+(wrap64 ((wrap64 (Int.tdiv (wrap64 ((wrap64 (s0_1+1)) - 1)) (s0_0.length:Int)))*37))))*251))+(wrap64 ((wrap64 (rd s0_0 (Int.tmod (wrap64 ((wrap64 ((wrap64 (s0_1+1)) - 1))+1)) (s0_0.length:Int))))*13))))+(wrap64 ((wrap64 (s0_1+1)) - 1))))*257))+(wrap64 (rd s0_0 (Int.tmod (wrap64 ((wrap64 ((wrap64 (s0_1+1)) - 1))+2)) (s0_0.length:Int)))))) a1,wrap64 (s0_1+1)))) else (none)) else (none)) else (if a1=0 then (none) else (some (Int.tmod (wrap64 ((wrap64 ((wrap64 ((wrap64 ((wrap64 (rd s0_0 (ji8)))+(wrap64 ((wrap64 (Int.tdiv (wrap64 ((wrap64 (s0_1+1)) - 1)) (s0_0.length:Int)))*37))))*251))+(wrap64 ((wrap64 (rd s0_0 (Int.tmod (wrap64 ((wrap64 ((wrap64 (s0_1+1)) - 1))+1)) (s0_0.length:Int))))*13))))+(wrap64 ((wrap64 (s0_1+1)) - 1)))) a1,wrap64 (s0_1+1))))) else (none)) else (none)) else (if a1 > 60000 then (if 0≤(Int.tmod (wrap64 ((wrap64 ((wrap64 (s0_1+1)) - 1))+2)) (s0_0.length:Int)) then (if (Int.tmod (wrap64 ((wrap64 ((wrap64 (s0_1+1)) - 1))+2)) (s0_0.length:Int)) < (s0_0.length:Int) then (if a1=0 then (none) else (some (Int.tmod (wrap64 ((wrap64 ((wrap64 ((wrap64 (rd s0_0 (ji8)))+(wrap64 ((wrap64 (Int.tdiv (wrap64 ((wrap64 (s0_1+1)) - 1)) (s0_0.length:Int)))*37))))*257))+(wrap64 (rd s0_0 (Int.tmod (wrap64 ((wrap64 ((wrap64 (s0_1+1)) - 1))+2)) (s0_0.length:Int)))))) a1,wrap64 (s0_1+1)))) else (none)) else (none)) else (if a1=0 then (none) else (some (Int.tmod (wrap64 ((wrap64 (rd s0_0 (ji8)))+(wrap64 ((wrap64 (Int.tdiv (wrap64 ((wrap64 (s0_1+1)) - 1)) (s0_0.length:Int)))*37)))) a1,wrap64 (s0_1+1)))))) else (none)) else (none))=some (r1,r2):=by first|(rw[hji8] at H;exact H)|(simp only[hji8] at H ⊢;exact H)
   by_cases c9:0≤(ji8)
   ·rw[if_pos c9] at H
    have c9b0:decide (0≤(ji8))=true:=decide_eq_true c9
    clear c9
    by_cases c10:(ji8) < (s0_0.length:Int)
    ·rw[if_pos c10] at H
     have c10b0:decide ((ji8) < (s0_0.length:Int))=true:=decide_eq_true c10
     clear c10
     by_cases c11:a1 > 200
     ·rw[if_pos c11] at H
      have c11b0:decide (200 < a1)=true:=decide_eq_true c11
      clear c11
      obtain⟨ji12,hji12⟩:∃ j_:Int,(Int.tmod (wrap64 ((wrap64 ((wrap64 (s0_1+1)) - 1))+1)) (s0_0.length:Int))=j_:=⟨_,rfl⟩
      replace H:(if 0≤(ji12) then (if (ji12) < (s0_0.length:Int) then (if a1 > 60000 then (if 0≤(Int.tmod (wrap64 ((wrap64 ((wrap64 (s0_1+1)) - 1))+2)) (s0_0.length:Int)) then (if (Int.tmod (wrap64 ((wrap64 ((wrap64 (s0_1+1)) - 1))+2)) (s0_0.length:Int)) < (s0_0.length:Int) then (if a1=0 then (none) else (some (Int.tmod (wrap64 ((wrap64 ((wrap64 ((wrap64 ((wrap64 ((wrap64 ((wrap64 (rd s0_0 (ji8)))+(wrap64 ((wrap64 (Int.tdiv (wrap64 ((wrap64 (s0_1+1)) - 1)) (s0_0.length:Int)))*37))))*251))+(wrap64 ((wrap64 (rd s0_0 (ji12)))*13))))+(wrap64 ((wrap64 (s0_1+1)) - 1))))*257))+(wrap64 (rd s0_0 (Int.tmod (wrap64 ((wrap64 ((wrap64 (s0_1+1)) - 1))+2)) (s0_0.length:Int)))))) a1,wrap64 (s0_1+1)))) else (none)) else (none)) else (if a1=0 then (none) else (some (Int.tmod (wrap64 ((wrap64 ((wrap64 ((wrap64 ((wrap64 (rd s0_0 (ji8)))+(wrap64 ((wrap64 (Int.tdiv (wrap64 ((wrap64 (s0_1+1)) - 1)) (s0_0.length:Int)))*37))))*251))+(wrap64 ((wrap64 (rd s0_0 (ji12)))*13))))+(wrap64 ((wrap64 (s0_1+1)) - 1)))) a1,wrap64 (s0_1+1))))) else (none)) else (none))=some (r1,r2):=by first|(rw[hji12] at H;exact H)|(simp only[hji12] at H ⊢;exact H)
      by_cases c13:0≤(ji12)
      ·rw[if_pos c13] at H
       have c13b0:decide (0≤(ji12))=true:=decide_eq_true c13
       clear c13
       by_cases c14:(ji12) < (s0_0.length:Int)
       ·rw[if_pos c14] at H
        have c14b0:decide ((ji12) < (s0_0.length:Int))=true:=decide_eq_true c14
        clear c14
        by_cases c15:a1 > 60000
        ·rw[if_pos c15] at H
         have c15b0:decide (60000 < a1)=true:=decide_eq_true c15
         clear c15
         obtain⟨ji16,hji16⟩:∃ j_:Int,(Int.tmod (wrap64 ((wrap64 ((wrap64 (s0_1+1)) - 1))+2)) (s0_0.length:Int))=j_:=⟨_,rfl⟩
         replace H:(if 0≤(ji16) then (if (ji16) < (s0_0.length:Int) then (if a1=0 then (none) else (some (Int.tmod (wrap64 ((wrap64 ((wrap64 ((wrap64 ((wrap64 ((wrap64 ((wrap64 (rd s0_0 (ji8)))+(wrap64 ((wrap64 (Int.tdiv (wrap64 ((wrap64 (s0_1+1)) - 1)) (s0_0.length:Int)))*37))))*251))+(wrap64 ((wrap64 (rd s0_0 (ji12)))*13))))+(wrap64 ((wrap64 (s0_1+1)) - 1))))*257))+(wrap64 (rd s0_0 (ji16))))) a1,wrap64 (s0_1+1)))) else (none)) else (none))=some (r1,r2):=by first|(rw[hji16] at H;exact H)|(simp only[hji16] at H ⊢;exact H)
         by_cases c17:0≤(ji16)
         ·rw[if_pos c17] at H
          have c17b0:decide (0≤(ji16))=true:=decide_eq_true c17
          clear c17
          by_cases c18:(ji16) < (s0_0.length:Int)
          ·rw[if_pos c18] at H
           have c18b0:decide ((ji16) < (s0_0.length:Int))=true:=decide_eq_true c18
           clear c18
           by_cases c19:a1=0
           ·rw[if_pos c19] at H
            exact absurd H zq58
           ·rw[if_neg c19] at H
            have c19b0:(a1 == 0)=false:=beq_eq_false_iff_ne.mpr c19
            have c19b1:(a1 != 0)=true:=bne_iff_ne.mpr c19
            simp only[Option.some.injEq,Prod.mk.injEq] at H
            obtain⟨rfl,rfl⟩:=H
            obtain⟨ASz20_0,cSz20_0,HGz20,hgz20,HSz20_0⟩:=HI0.out
            have hcz20_0:=cellS112_0 HGz20
            have hcz20_1:=cellS112_1 HGz20
            have hfz20_1:=blk_frozen HGz20 1
            clear HGz20 hgz20
            have p101:0≤((ji8):Int):=of_decide_eq_true zq23
            have q101:(ji8) < (s0_0.length:Int):=of_decide_eq_true zq23
            obtain⟨ad101,e101,hx101_0⟩:=Kd.at_int HSz20_0 (ji8) p101 q101
            cases e101
            have hn101_0:ad101.block≠g:=Nat.ne_of_lt (Nat.lt_of_lt_of_le (by have:=World.block_lt_of_cell? _ _ hx101_0;first|rwa [add_block] at this|exact this) (IsS112.ge HI0.out))
            replace hx101_0:=pw_cell_below HB.out hx101_0
            replace hx101_0:=(cell_far (p:=⟨g,1,none⟩) zq75 (.int .i64 (wrap64 (s0_1+1)))).trans hx101_0
            (try have hy101_0:=fun (n_:Nat)=>(show (((w.drewN n_).setCell ⟨g,1,none⟩ (.int .i64 (wrap64 (s0_1+1))))).cell? _=some _ from hx101_0))
            clear hn101_0
            replace p101:=eq_true p101
            replace q101:=eq_true q101
            have p102:0≤((ji12):Int):=of_decide_eq_true zq23
            have q102:(ji12) < (s0_0.length:Int):=of_decide_eq_true zq23
            obtain⟨ad102,e102,hx102_0⟩:=Kd.at_int HSz20_0 (ji12) p102 q102
            obtain rfl:ad101=ad102:=(by injection e102)
            have hn102_0:ad101.block≠g:=Nat.ne_of_lt (Nat.lt_of_lt_of_le (by have:=World.block_lt_of_cell? _ _ hx102_0;first|rwa [add_block] at this|exact this) (IsS112.ge HI0.out))
            replace hx102_0:=pw_cell_below HB.out hx102_0
            replace hx102_0:=(cell_far (p:=⟨g,1,none⟩) zq105 (.int .i64 (wrap64 (s0_1+1)))).trans hx102_0
            (try have hy102_0:=fun (n_:Nat)=>(show (((w.drewN n_).setCell ⟨g,1,none⟩ (.int .i64 (wrap64 (s0_1+1))))).cell? _=some _ from hx102_0))
            clear hn102_0
            replace p102:=eq_true p102
            replace q102:=eq_true q102
            have p103:0≤((ji16):Int):=of_decide_eq_true zq23
            have q103:(ji16) < (s0_0.length:Int):=of_decide_eq_true zq23
            obtain⟨ad103,e103,hx103_0⟩:=Kd.at_int HSz20_0 (ji16) p103 q103
            obtain rfl:ad101=ad103:=(by injection e103)
            have hn103_0:ad101.block≠g:=Nat.ne_of_lt (Nat.lt_of_lt_of_le (by have:=World.block_lt_of_cell? _ _ hx103_0;first|rwa [add_block] at this|exact this) (IsS112.ge HI0.out))
            replace hx103_0:=pw_cell_below HB.out hx103_0
            replace hx103_0:=(cell_far (p:=⟨g,1,none⟩) (by first|(rw[add_block];exact hn103_0)|(show (Addr.add _ _).block≠_;rw[add_block];exact hn103_0)|exact hn103_0) (.int .i64 (wrap64 (s0_1+1)))).trans hx103_0
            (try have hy103_0:=fun (n_:Nat)=>(show (((w.drewN n_).setCell ⟨g,1,none⟩ (.int .i64 (wrap64 (s0_1+1))))).cell? _=some _ from hx103_0))
            clear hn103_0
            replace p103:=eq_true p103
            replace q103:=eq_true q103
            go_enter Try.func95,Try.ntmps95
            go_wp2
            repeat (go_quiet (fail);try go_wp2)
            go_ret
            exact⟨by first|rfl|(simp[errW_none,errW_some] <;> rfl)|(simp only[← hji8,← hji12,← hji16];first|rfl|(simp[errW_none,errW_some] <;> rfl))|(simp[*,errW_none,errW_some] <;> rfl),zq32,zq30,zq13⟩
          ·rw[if_neg c18] at H
           exact absurd H zq58
         ·rw[if_neg c17] at H
          exact absurd H zq58
        ·rw[if_neg c15] at H
         have c15b0:decide (60000 < a1)=false:=decide_eq_false c15
         clear c15
         by_cases c21:a1=0
         ·rw[if_pos c21] at H
          exact absurd H zq58
         ·rw[if_neg c21] at H
          have c21b0:(a1 == 0)=false:=beq_eq_false_iff_ne.mpr c21
          have c21b1:(a1 != 0)=true:=bne_iff_ne.mpr c21
          simp only[Option.some.injEq,Prod.mk.injEq] at H
          obtain⟨rfl,rfl⟩:=H
          obtain⟨ASz22_0,cSz22_0,HGz22,hgz22,HSz22_0⟩:=HI0.out
          have hcz22_0:=cellS112_0 HGz22
          have hcz22_1:=cellS112_1 HGz22
          have hfz22_1:=blk_frozen HGz22 1
          clear HGz22 hgz22
          have p101:0≤((ji8):Int):=of_decide_eq_true zq23
          have q101:(ji8) < (s0_0.length:Int):=of_decide_eq_true zq23
          obtain⟨ad101,e101,hx101_0⟩:=Kd.at_int HSz22_0 (ji8) p101 q101
          cases e101
          have hn101_0:ad101.block≠g:=Nat.ne_of_lt (Nat.lt_of_lt_of_le (by have:=World.block_lt_of_cell? _ _ hx101_0;first|rwa [add_block] at this|exact this) (IsS112.ge HI0.out))
          replace hx101_0:=pw_cell_below HB.out hx101_0
          replace hx101_0:=(cell_far (p:=⟨g,1,none⟩) zq75 (.int .i64 (wrap64 (s0_1+1)))).trans hx101_0
          (try have hy101_0:=fun (n_:Nat)=>(show (((w.drewN n_).setCell ⟨g,1,none⟩ (.int .i64 (wrap64 (s0_1+1))))).cell? _=some _ from hx101_0))
          clear hn101_0
          replace p101:=eq_true p101
          replace q101:=eq_true q101
          have p102:0≤((ji12):Int):=of_decide_eq_true zq23
          have q102:(ji12) < (s0_0.length:Int):=of_decide_eq_true zq23
          obtain⟨ad102,e102,hx102_0⟩:=Kd.at_int HSz22_0 (ji12) p102 q102
          obtain rfl:ad101=ad102:=(by injection e102)
          have hn102_0:ad101.block≠g:=Nat.ne_of_lt (Nat.lt_of_lt_of_le (by have:=World.block_lt_of_cell? _ _ hx102_0;first|rwa [add_block] at this|exact this) (IsS112.ge HI0.out))
          replace hx102_0:=pw_cell_below HB.out hx102_0
          replace hx102_0:=(cell_far (p:=⟨g,1,none⟩) zq105 (.int .i64 (wrap64 (s0_1+1)))).trans hx102_0
          (try have hy102_0:=fun (n_:Nat)=>(show (((w.drewN n_).setCell ⟨g,1,none⟩ (.int .i64 (wrap64 (s0_1+1))))).cell? _=some _ from hx102_0))
          clear hn102_0
          replace p102:=eq_true p102
          replace q102:=eq_true q102
          go_enter Try.func95,Try.ntmps95
          go_wp2
          repeat (go_quiet (fail);try go_wp2)
          go_ret
          exact⟨by first|rfl|(simp[errW_none,errW_some] <;> rfl)|(simp only[← hji8,← hji12];first|rfl|(simp[errW_none,errW_some] <;> rfl))|(simp[*,errW_none,errW_some] <;> rfl),zq32,zq30,zq13⟩
       ·rw[if_neg c14] at H
        exact absurd H zq58
      ·rw[if_neg c13] at H
       exact absurd H zq58
     ·rw[if_neg c11] at H
      have c11b0:decide (200 < a1)=false:=decide_eq_false c11
      clear c11
      by_cases c23:a1 > 60000
      ·rw[if_pos c23] at H
       have c23b0:decide (60000 < a1)=true:=decide_eq_true c23
       clear c23
       obtain⟨ji24,hji24⟩:∃ j_:Int,(Int.tmod (wrap64 ((wrap64 ((wrap64 (s0_1+1)) - 1))+2)) (s0_0.length:Int))=j_:=⟨_,rfl⟩
       replace H:(if 0≤(ji24) then (if (ji24) < (s0_0.length:Int) then (if a1=0 then (none) else (some (Int.tmod (wrap64 ((wrap64 ((wrap64 ((wrap64 (rd s0_0 (ji8)))+(wrap64 ((wrap64 (Int.tdiv (wrap64 ((wrap64 (s0_1+1)) - 1)) (s0_0.length:Int)))*37))))*257))+(wrap64 (rd s0_0 (ji24))))) a1,wrap64 (s0_1+1)))) else (none)) else (none))=some (r1,r2):=by first|(rw[hji24] at H;exact H)|(simp only[hji24] at H ⊢;exact H)
       by_cases c25:0≤(ji24)
       ·rw[if_pos c25] at H
        have c25b0:decide (0≤(ji24))=true:=decide_eq_true c25
        clear c25
        by_cases c26:(ji24) < (s0_0.length:Int)
        ·rw[if_pos c26] at H
         have c26b0:decide ((ji24) < (s0_0.length:Int))=true:=decide_eq_true c26
         clear c26
         by_cases c27:a1=0
         ·rw[if_pos c27] at H
          exact absurd H zq58
         ·rw[if_neg c27] at H
          have c27b0:(a1 == 0)=false:=beq_eq_false_iff_ne.mpr c27
          have c27b1:(a1 != 0)=true:=bne_iff_ne.mpr c27
          simp only[Option.some.injEq,Prod.mk.injEq] at H
          obtain⟨rfl,rfl⟩:=H
          obtain⟨ASz28_0,cSz28_0,HGz28,hgz28,HSz28_0⟩:=HI0.out
          have hcz28_0:=cellS112_0 HGz28
          have hcz28_1:=cellS112_1 HGz28
          have hfz28_1:=blk_frozen HGz28 1
          clear HGz28 hgz28
          have p101:0≤((ji8):Int):=of_decide_eq_true zq23
          have q101:(ji8) < (s0_0.length:Int):=of_decide_eq_true zq23
          obtain⟨ad101,e101,hx101_0⟩:=Kd.at_int HSz28_0 (ji8) p101 q101
          cases e101
          have hn101_0:ad101.block≠g:=Nat.ne_of_lt (Nat.lt_of_lt_of_le (by have:=World.block_lt_of_cell? _ _ hx101_0;first|rwa [add_block] at this|exact this) (IsS112.ge HI0.out))
          replace hx101_0:=pw_cell_below HB.out hx101_0
          replace hx101_0:=(cell_far (p:=⟨g,1,none⟩) zq75 (.int .i64 (wrap64 (s0_1+1)))).trans hx101_0
          (try have hy101_0:=fun (n_:Nat)=>(show (((w.drewN n_).setCell ⟨g,1,none⟩ (.int .i64 (wrap64 (s0_1+1))))).cell? _=some _ from hx101_0))
          clear hn101_0
          replace p101:=eq_true p101
          replace q101:=eq_true q101
          have p104:0≤((ji24):Int):=of_decide_eq_true zq23
          have q104:(ji24) < (s0_0.length:Int):=of_decide_eq_true zq23
          obtain⟨ad104,e104,hx104_0⟩:=Kd.at_int HSz28_0 (ji24) p104 q104
          obtain rfl:ad101=ad104:=(by injection e104)
          have hn104_0:ad101.block≠g:=Nat.ne_of_lt (Nat.lt_of_lt_of_le (by have:=World.block_lt_of_cell? _ _ hx104_0;first|rwa [add_block] at this|exact this) (IsS112.ge HI0.out))
          replace hx104_0:=pw_cell_below HB.out hx104_0
          replace hx104_0:=(cell_far (p:=⟨g,1,none⟩) (by first|(rw[add_block];exact hn104_0)|(show (Addr.add _ _).block≠_;rw[add_block];exact hn104_0)|exact hn104_0) (.int .i64 (wrap64 (s0_1+1)))).trans hx104_0
          (try have hy104_0:=fun (n_:Nat)=>(show (((w.drewN n_).setCell ⟨g,1,none⟩ (.int .i64 (wrap64 (s0_1+1))))).cell? _=some _ from hx104_0))
          clear hn104_0
          replace p104:=eq_true p104
          replace q104:=eq_true q104
          go_enter Try.func95,Try.ntmps95
          go_wp2
          repeat (go_quiet (fail);try go_wp2)
          go_ret
          exact⟨by first|rfl|(simp[errW_none,errW_some] <;> rfl)|(simp only[← hji8,← hji24];first|rfl|(simp[errW_none,errW_some] <;> rfl))|(simp[*,errW_none,errW_some] <;> rfl),zq32,zq30,zq13⟩
        ·rw[if_neg c26] at H
         exact absurd H zq58
       ·rw[if_neg c25] at H
        exact absurd H zq58
      ·rw[if_neg c23] at H
       have c23b0:decide (60000 < a1)=false:=decide_eq_false c23
       clear c23
       by_cases c29:a1=0
       ·rw[if_pos c29] at H
        exact absurd H zq58
       ·rw[if_neg c29] at H
        have c29b0:(a1 == 0)=false:=beq_eq_false_iff_ne.mpr c29
        have c29b1:(a1 != 0)=true:=bne_iff_ne.mpr c29
        simp only[Option.some.injEq,Prod.mk.injEq] at H
        obtain⟨rfl,rfl⟩:=H
        obtain⟨ASz30_0,cSz30_0,HGz30,hgz30,HSz30_0⟩:=HI0.out
        have hcz30_0:=cellS112_0 HGz30
        have hcz30_1:=cellS112_1 HGz30
        have hfz30_1:=blk_frozen HGz30 1
        clear HGz30 hgz30
        have p101:0≤((ji8):Int):=of_decide_eq_true zq23
        have q101:(ji8) < (s0_0.length:Int):=of_decide_eq_true zq23
        obtain⟨ad101,e101,hx101_0⟩:=Kd.at_int HSz30_0 (ji8) p101 q101
        cases e101
        have hn101_0:ad101.block≠g:=Nat.ne_of_lt (Nat.lt_of_lt_of_le (by have:=World.block_lt_of_cell? _ _ hx101_0;first|rwa [add_block] at this|exact this) (IsS112.ge HI0.out))
        replace hx101_0:=pw_cell_below HB.out hx101_0
        replace hx101_0:=(cell_far (p:=⟨g,1,none⟩) zq75 (.int .i64 (wrap64 (s0_1+1)))).trans hx101_0
        (try have hy101_0:=fun (n_:Nat)=>(show (((w.drewN n_).setCell ⟨g,1,none⟩ (.int .i64 (wrap64 (s0_1+1))))).cell? _=some _ from hx101_0))
        clear hn101_0
        replace p101:=eq_true p101
        replace q101:=eq_true q101
        go_enter Try.func95,Try.ntmps95
        go_wp2
        repeat (go_quiet (fail);try go_wp2)
        go_ret
        exact⟨by first|rfl|(simp[errW_none,errW_some] <;> rfl)|(simp only[← hji8];first|rfl|(simp[errW_none,errW_some] <;> rfl))|(simp[*,errW_none,errW_some] <;> rfl),zq32,zq30,zq13⟩
    ·rw[if_neg c10] at H
     exact absurd H zq58
   ·rw[if_neg c9] at H
    exact absurd H zq58
end Go.Proofs.Ytmnhddedcbkpoaa.All
