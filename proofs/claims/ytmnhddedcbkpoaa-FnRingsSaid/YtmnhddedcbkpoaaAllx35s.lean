-- Laid by wip/shake.py of this repo out of this claim's texts. Not trusted: Lean checks it.
import Derived.Test.YtmnhddedcbkpoaaAb0s
import Derived.Test.YtmnhddedcbkpoaaBytes
namespace Go.Proofs.Ytmnhddedcbkpoaa.All
open Go.Proofs.YtmnhddedcbkpoaaW.PrintWords.Aside0 renaming mk→zM
open Go.RowKit Go.Proofs.YtmnhddedcbkpoaaW.PrintWords Go.Proofs.YtmnhddedcbkpoaaW.PrintLast Go.Proofs.YtmnhddedcbkpoaaW.PrintMore
attribute [local go_sem] max2_int min2_int max_two min_two max_three min_three max_four min_four
set_option linter.unusedVariables false
set_option linter.unusedSimpArgs false
def IsS29 (w0 W:World) (g:Nat) (f0:Int) (f1:List (S25)):Prop:=∃ A1 c1,W.heap[g]?=some (.cells #[.int .i64 f0,.slice A1 f1.length c1] 29 (0,0))∧w0.heap.size≤g∧Kd.C k25 w0 A1 f1.length f1
theorem IsS29.grown {w0 W:World} {g:Nat} {f0:Int} {f1:List (S25)} {W1:World} {row:Option Nat} (h:IsS29 w0 W g f0 f1) (hw:W.grownBy W1 row) (hne:some g≠row):IsS29 w0 W1 g f0 f1:=by
 obtain⟨A1,c1,hb,hg,hr1⟩:=h
 exact⟨A1,c1,blk_grown hb hw hne,hg,hr1⟩
theorem IsS29.fresh {w0 W:World} {g:Nat} {f0:Int} {f1:List (S25)} (h:IsS29 w0 W g f0 f1):∀ k,W.heap.size≤k→k≠g:=by
 obtain⟨A1,c1,hb,hg,hr1⟩:=h
 exact Kd.freshB hb
theorem IsS29.kept {w0 W:World} {g:Nat} {f0:Int} {f1:List (S25)} {W1:World} {S:Nat→Prop} (h:IsS29 w0 W g f0 f1) (hk:Kept W W1 S) (hne:¬ S g):IsS29 w0 W1 g f0 f1:=by
 obtain⟨A1,c1,hb,hg,hr1⟩:=h
 exact⟨A1,c1,blk_kept hb hk hne,hg,hr1⟩
theorem IsS29.below {w0 W:World} {g:Nat} {f0:Int} {f1:List (S25)} {W1:World} (h:IsS29 w0 W g f0 f1) (hw:Below W.heap.size W W1):IsS29 w0 W1 g f0 f1:=h.grown (grown_of_below hw none) zq58
theorem IsS29.alloc {w0 W:World} {g:Nat} {f0:Int} {f1:List (S25)} (h:IsS29 w0 W g f0 f1) (o:Obj):IsS29 w0 (W.alloc o) g f0 f1:=h.below (below_alloc (Below.refl _ _) o)
theorem IsS29.drewN {w0 W:World} {g:Nat} {f0:Int} {f1:List (S25)} (h:IsS29 w0 W g f0 f1) (m:Nat):IsS29 w0 (W.drewN m) g f0 f1:=h
theorem IsS29.drew {w0 W:World} {g:Nat} {f0:Int} {f1:List (S25)} (h:IsS29 w0 W g f0 f1):IsS29 w0 W.drew g f0 f1:=h
theorem IsS29.at_ {w0 W:World} {g:Nat} {f0:Int} {f1:List (S25)} {w':World} {m:Nat} (hq:W.drewN m=w') (h:IsS29 w0 W g f0 f1):IsS29 w0 w' g f0 f1:=by subst hq;exact IsS29.drewN h m
theorem IsS29.apart {w0 W:World} {g:Nat} {f0:Int} {f1:List (S25)} {α:Type} {d:Kd α} {e:Nat} {base:Nat} {ok:Nat→Prop} {v:Value} {xs:List α} (h:IsS29 w0 W g f0 f1) (ho:d.R e W base ok v xs) (ht:∀ q,q ∈ e :: d.E→q≠29):d.R e W base (fun k=>ok k∧k≠g) v xs:=by
 obtain⟨A1,c1,hb,hg,hr1⟩:=h
 exact Kd.R_types ho hb ht
theorem IsS29.own_ne {w0 W:World} {g:Nat} {f0:Int} {f1:List (S25)} {α:Type} {d:Kd α} {e:Nat} {base:Nat} {ok:Nat→Prop} {v:Value} {xs:List α} (h:IsS29 w0 W g f0 f1) (ho:d.R e W base ok v xs) (ht:e≠29):some g≠v.ownBlock:=by
 obtain⟨A1,c1,hb,hg,hr1⟩:=h
 exact Kd.R_ne ho hb ht
theorem IsS29.apartS {w0 W:World} {g:Nat} {f0:Int} {f1:List (S25)} {α:Type} {d:Kd α} {e:Nat} {base:Nat} {ok:Nat→Prop} {v:Value} {xs:List α} (h:IsS29 w0 W g f0 f1) (ho:d.S e W base ok v xs) (ht:∀ q,q ∈ e :: d.E→q≠29):d.S e W base (fun k=>ok k∧k≠g) v xs:=by
 obtain⟨A1,c1,hb,hg,hr1⟩:=h
 exact Kd.S_types ho hb ht
theorem IsS29.own_neS {w0 W:World} {g:Nat} {f0:Int} {f1:List (S25)} {α:Type} {d:Kd α} {e:Nat} {base:Nat} {ok:Nat→Prop} {v:Value} {xs:List α} (h:IsS29 w0 W g f0 f1) (ho:d.S e W base ok v xs) (ht:e≠29):some g≠v.ownBlock:=by
 obtain⟨A1,c1,hb,hg,hr1⟩:=h
 exact Kd.S_ne ho hb ht
theorem IsS29.lt {w0 W:World} {g:Nat} {f0:Int} {f1:List (S25)} (h:IsS29 w0 W g f0 f1):g < W.heap.size:=by
 obtain⟨A1,c1,hb,hg,hr1⟩:=h
 exact blk_lt hb
theorem IsS29.ge {w0 W:World} {g:Nat} {f0:Int} {f1:List (S25)} (h:IsS29 w0 W g f0 f1):w0.heap.size≤g:=by
 obtain⟨A1,c1,hb,hg,hr1⟩:=h
 exact hg
theorem IsS29.ne_blk {w0 W:World} {g:Nat} {f0:Int} {f1:List (S25)} {a:Nat} {cs:Array Value} {t:TypeId} {fr:Nat × Nat} (h:IsS29 w0 W g f0 f1) (hb2:W.heap[a]?=some (.cells cs t fr)) (ht:t≠29):g≠a:=by
 obtain⟨A1,c1,hb,hg,hr1⟩:=h
 rintro rfl
 rw[hb] at hb2
 injection hb2 with hb2
 injection hb2 with _ ht2
 exact ht ht2.symm
theorem IsS29.far {w0 W:World} {g:Nat} {f0:Int} {f1:List (S25)} {p:Addr} (h:IsS29 w0 W g f0 f1) (hne:g≠p.block) (u:Value):IsS29 w0 (W.setCell p u) g f0 f1:=by
 obtain⟨A1,c1,hb,hg,hr1⟩:=h
 exact⟨A1,c1,blk_far hb hne u,hg,hr1⟩
theorem cellS29_0 {W:World} {g:Nat} {A1:Option Addr} {c1:Nat} {f0:Int} {f1:List (S25)} (h:W.heap[g]?=some (.cells #[.int .i64 f0,.slice A1 f1.length c1] 29 (0,0))):W.cell? ⟨g,0,none⟩=some (.int .i64 f0):=(blk_cell h 0).trans rfl
theorem IsS29.set_0 {w0 W:World} {g:Nat} {f0:Int} {f1:List (S25)} (h:IsS29 w0 W g f0 f1) (x:Int):IsS29 w0 (W.setCell ⟨g,0,none⟩ (.int .i64 x)) g x f1:=by
 obtain⟨A1,c1,hb,hg,hr1⟩:=h
 exact⟨A1,c1,by simpa using blk_set hb 0 (.int .i64 x),hg,hr1⟩
theorem cellS29_1 {W:World} {g:Nat} {A1:Option Addr} {c1:Nat} {f0:Int} {f1:List (S25)} (h:W.heap[g]?=some (.cells #[.int .i64 f0,.slice A1 f1.length c1] 29 (0,0))):W.cell? ⟨g,1,none⟩=some (.slice A1 f1.length c1):=(blk_cell h 1).trans rfl
def spec_l4Find.l0:Nat→Int→Int→Int→List (S25)→Option (Int × Int)
 | 0,_,_,_,_=>none
 | k+1,x1,x5,x1000,x1001=>if x5 < (x1001.length:Int) then (if 0≤x5 then (if ((rd_T25 x1001 x5).f0)=x1 then (some (x5,x1000)) else (spec_l4Find.l0 k x1 (wrap64 (x5+1)) x1000 x1001)) else (none)) else (some ((-1),x1000))
def spec_l4Find.f (k:Nat) (s0_0:Int) (s0_1:List (S25)) (a1:Int):Option (Int × Int):=spec_l4Find.l0 k a1 0 s0_0 s0_1
theorem spec_l4Find.mono_l:∀ k,(∀ y0 y1 y2 y3,LeO (spec_l4Find.l0 k y0 y1 y2 y3) (spec_l4Find.l0 (k+1) y0 y1 y2 y3))
 | 0=>fun _ _ _ _ r h=>by simp[spec_l4Find.l0] at h
 | k+1=>by
  have ih0:=spec_l4Find.mono_l k
  ·intro y0 y1 y2 y3
   unfold spec_l4Find.l0
   repeat' first
   | (with_reducible exact ih0 _ _ _ _)
   | (with_reducible exact LeO.refl _)
   | (with_reducible exact LeO.none _)
   | (with_reducible refine LeO.ite ?_ ?_)
   | (with_reducible refine LeO.bind ?_ (fun _=>?_))
   | exact ih0 _ _ _ _
   | exact LeO.none _
   | refine LeO.ite ?_ ?_
   | refine LeO.bind ?_ (fun _=>?_)
theorem spec_l4Find.mono:∀ a0 a1 a2 k,LeO (spec_l4Find.f k a0 a1 a2) (spec_l4Find.f (k+1) a0 a1 a2):=by
 intro a0 a1 a2 k
 have ih0:=spec_l4Find.mono_l k
 unfold spec_l4Find.f
 repeat' first
   | (with_reducible exact ih0 _ _ _ _)
   | (with_reducible exact LeO.refl _)
   | (with_reducible exact LeO.none _)
   | (with_reducible refine LeO.ite ?_ ?_)
   | (with_reducible refine LeO.bind ?_ (fun _=>?_))
   | exact ih0 _ _ _ _
   | exact LeO.none _
   | refine LeO.ite ?_ ?_
   | refine LeO.bind ?_ (fun _=>?_)
set_option maxHeartbeats 8000000 in
set_option maxRecDepth 100000 in
theorem spec_l4Find.calls (k:Nat) (g:Nat) (s0_0:Int) (s0_1:List (S25)) (a1:Int) (r1:Int) (r2:Int) (w0 w:World) (hI:IsS29 w0 w g s0_0 s0_1) (hB:Below w0.heap.size w0 w) (h:spec_l4Find.f k s0_0 s0_1 a1=some (r1,r2)) :
  Calls Try.prog 84 #[.pointer (some ⟨g,0,none⟩),.int .i64 a1] w fun e w'=>e=.returned (.int .i64 r1)∧IsS29 w0 w' g r2 s0_1∧Below w0.heap.size w0 w'∧KeepBut w w' g none:=by
 have HI0:=zM hI
 have HK:=zM (KeepBut.refl w g none)
 have HL:=zM hB.size
 clear hI
 have HW0:=zM hB.size
 have HB:=zM hB
 clear hB
 have H:(spec_l4Find.l0 k a1 0 s0_0 s0_1)=some (r1,r2):=h
 clear h
 have H':=zM H
 clear H
 go_enter Try.func84,Try.ntmps84
 go_wp2
 go_loopg [5] k (fun kq v5 w'=>∃ (x5_1:Int),v5=.int .i64 x5_1∧Aside0 (spec_l4Find.l0 kq a1 x5_1 s0_0 s0_1=some (r1,r2))∧Aside0 (kq≤k)∧Aside0 (IsS29 w0 w' g s0_0 s0_1)∧Aside0 (KeepBut w w' g none)∧Aside0 (Below w0.heap.size w0 w'))
 case atStart=>exact⟨(0),zq53,H',⟨Nat.le_refl _⟩,⟨zq68⟩,⟨zq13⟩,⟨zq65⟩⟩
 case round=>
  clear H'
  try clear p2
  obtain⟨x5_1,rfl,HA,HK1,HI0,HK,HB⟩:=hrel
  cases gk with
  | zero=>exact absurd HA.out (by simp[spec_l4Find.l0])
  | succ k1=>
   have H:=HA.out
   clear HA
   simp only[spec_l4Find.l0] at H
   by_cases c3:x5_1 < (s0_1.length:Int)
   ·rw[if_pos c3] at H
    have c3b0:decide (x5_1 < (s0_1.length:Int))=true:=decide_eq_true c3
    clear c3
    by_cases c4:0≤x5_1
    ·rw[if_pos c4] at H
     have c4b0:decide (0≤x5_1)=true:=decide_eq_true c4
     clear c4
     by_cases c5:((rd_T25 s0_1 x5_1).f0)=a1
     ·rw[if_pos c5] at H
      have c5b0:(((rd_T25 s0_1 x5_1).f0) == a1)=true:=beq_iff_eq.mpr c5
      have c5b1:(((rd_T25 s0_1 x5_1).f0) != a1)=false:=bne_eq_false_iff_eq.mpr c5
      clear c5
      simp only[Option.some.injEq,Prod.mk.injEq] at H
      obtain⟨rfl,rfl⟩:=H
      obtain⟨ASz6_1,cSz6_1,HGz6,hgz6,HSz6_1⟩:=HI0.out
      have hcz6_0:=cellS29_0 HGz6
      have hcz6_1:=cellS29_1 HGz6
      have hfz6_0:=blk_frozen HGz6 0
      clear HGz6 hgz6
      have p293:0≤(x5_1:Int):=of_decide_eq_true zq23
      have q293:x5_1 < (s0_1.length:Int):=of_decide_eq_true zq23
      obtain⟨ad293,A293_1,c293_1,e293,hx293_0,hx293_1,hl293_1,hi293_1⟩:=at_T25 HSz6_1 x5_1 p293 q293
      cases e293
      replace hx293_0:=pw_cell_below HB.out hx293_0
      replace hx293_1:=pw_cell_below HB.out hx293_1
      have HR293_1:=zM hi293_1
      have HC293_1:=zM hl293_1
      clear hi293_1 hl293_1
      replace p293:=eq_true p293
      replace q293:=eq_true q293
      go_wp2
      go_ret
      exact⟨zq10,zq68,zq65,zq13⟩
     ·rw[if_neg c5] at H
      have c5b0:(((rd_T25 s0_1 x5_1).f0) == a1)=false:=beq_eq_false_iff_ne.mpr c5
      have c5b1:(((rd_T25 s0_1 x5_1).f0) != a1)=true:=bne_iff_ne.mpr c5
      have H':=zM H
      clear H
      obtain⟨ASz7_1,cSz7_1,HGz7,hgz7,HSz7_1⟩:=HI0.out
      have hcz7_0:=cellS29_0 HGz7
      have hcz7_1:=cellS29_1 HGz7
      have hfz7_0:=blk_frozen HGz7 0
      clear HGz7 hgz7
      have p293:0≤(x5_1:Int):=of_decide_eq_true zq23
      have q293:x5_1 < (s0_1.length:Int):=of_decide_eq_true zq23
      obtain⟨ad293,A293_1,c293_1,e293,hx293_0,hx293_1,hl293_1,hi293_1⟩:=at_T25 HSz7_1 x5_1 p293 q293
      cases e293
      replace hx293_0:=pw_cell_below HB.out hx293_0
      replace hx293_1:=pw_cell_below HB.out hx293_1
      have HR293_1:=zM hi293_1
      have HC293_1:=zM hl293_1
      clear hi293_1 hl293_1
      replace p293:=eq_true p293
      replace q293:=eq_true q293
      go_wp2
      go_roundg k1
      case measure=>have:=HK1.out;omega
      case rel=>exact⟨(wrap64 (x5_1+1)),zq53,H',⟨by have:=HK1.out;omega⟩,⟨zq68⟩,⟨zq13⟩,⟨zq65⟩⟩
    ·rw[if_neg c4] at H
     exact absurd H zq58
   ·rw[if_neg c3] at H
    have c3b0:decide (x5_1 < (s0_1.length:Int))=false:=decide_eq_false c3
    clear c3
    simp only[Option.some.injEq,Prod.mk.injEq] at H
    obtain⟨rfl,rfl⟩:=H
    obtain⟨ASz8_1,cSz8_1,HGz8,hgz8,HSz8_1⟩:=HI0.out
    have hcz8_0:=cellS29_0 HGz8
    have hcz8_1:=cellS29_1 HGz8
    have hfz8_0:=blk_frozen HGz8 0
    clear HGz8 hgz8
    go_wp2
    go_ret
    exact⟨zq10,zq68,zq65,zq13⟩
end Go.Proofs.Ytmnhddedcbkpoaa.All
