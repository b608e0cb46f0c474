-- Laid by wip/shake.py of this repo out of this claim's texts. Not trusted: Lean checks it.
import Derived.Test.YtdbanjdnjhflcaaAb0s
import Derived.Test.YtdbanjdnjhflcaaAlgs
import Derived.Deep.RegionHeld3
set_option linter.unusedSimpArgs false
set_option linter.unusedVariables false
namespace Go.Proofs.Ytdbanjdnjhflcaa.All
open Go.Proofs.YtdbanjdnjhflcaaW.PrintWords.Aside0 renaming mk→zM
open Go.RowKit Go.Proofs.YtdbanjdnjhflcaaW.PrintWords Go.Proofs.YtdbanjdnjhflcaaW.PrintLast Go.Proofs.YtdbanjdnjhflcaaW.PrintMore
attribute [local go_sem] max2_int min2_int max_two min_two max_three min_three max_four min_four
def IsS35 (w0 W:World) (g:Nat) (f0:Int) (f1:List (S54)):Prop:=∃ A1 c1,W.heap[g]?=some (.cells #[.int .i64 f0,.slice A1 f1.length c1] 35 (0,0))∧w0.heap.size≤g∧Kd.C k54 w0 A1 f1.length f1
theorem IsS35.grown {w0 W:World} {g:Nat} {f0:Int} {f1:List (S54)} {W1:World} {row:Option Nat} (h:IsS35 w0 W g f0 f1) (hw:W.grownBy W1 row) (hne:some g≠row):IsS35 w0 W1 g f0 f1:=by
 obtain⟨A1,c1,hb,hg,hr1⟩:=h
 exact⟨A1,c1,blk_grown hb hw hne,hg,hr1⟩
theorem IsS35.kept {w0 W:World} {g:Nat} {f0:Int} {f1:List (S54)} {W1:World} {S:Nat→Prop} (h:IsS35 w0 W g f0 f1) (hk:Kept W W1 S) (hne:¬ S g):IsS35 w0 W1 g f0 f1:=by
 obtain⟨A1,c1,hb,hg,hr1⟩:=h
 exact⟨A1,c1,blk_kept hb hk hne,hg,hr1⟩
theorem IsS35.below {w0 W:World} {g:Nat} {f0:Int} {f1:List (S54)} {W1:World} (h:IsS35 w0 W g f0 f1) (hw:Below W.heap.size W W1):IsS35 w0 W1 g f0 f1:=h.grown (grown_of_below hw none) zq73
theorem IsS35.alloc {w0 W:World} {g:Nat} {f0:Int} {f1:List (S54)} (h:IsS35 w0 W g f0 f1) (o:Obj):IsS35 w0 (W.alloc o) g f0 f1:=h.below (below_alloc (Below.refl _ _) o)
theorem IsS35.drewN {w0 W:World} {g:Nat} {f0:Int} {f1:List (S54)} (h:IsS35 w0 W g f0 f1) (m:Nat):IsS35 w0 (W.drewN m) g f0 f1:=h
theorem IsS35.drew {w0 W:World} {g:Nat} {f0:Int} {f1:List (S54)} (h:IsS35 w0 W g f0 f1):IsS35 w0 W.drew g f0 f1:=h
theorem IsS35.at_ {w0 W:World} {g:Nat} {f0:Int} {f1:List (S54)} {w':World} {m:Nat} (hq:W.drewN m=w') (h:IsS35 w0 W g f0 f1):IsS35 w0 w' g f0 f1:=by subst hq;exact IsS35.drewN h m
theorem IsS35.apart {w0 W:World} {g:Nat} {f0:Int} {f1:List (S54)} {α:Type} {d:Kd α} {e:Nat} {base:Nat} {ok:Nat→Prop} {v:Value} {xs:List α} (h:IsS35 w0 W g f0 f1) (ho:d.R e W base ok v xs) (ht:∀ q,q ∈ e :: d.E→q≠35):d.R e W base (fun k=>ok k∧k≠g) v xs:=by
 obtain⟨A1,c1,hb,hg,hr1⟩:=h
 exact Kd.R_types ho hb ht
theorem IsS35.own_ne {w0 W:World} {g:Nat} {f0:Int} {f1:List (S54)} {α:Type} {d:Kd α} {e:Nat} {base:Nat} {ok:Nat→Prop} {v:Value} {xs:List α} (h:IsS35 w0 W g f0 f1) (ho:d.R e W base ok v xs) (ht:e≠35):some g≠v.ownBlock:=by
 obtain⟨A1,c1,hb,hg,hr1⟩:=h
 exact Kd.R_ne ho hb ht
theorem IsS35.ge {w0 W:World} {g:Nat} {f0:Int} {f1:List (S54)} (h:IsS35 w0 W g f0 f1):w0.heap.size≤g:=by
 obtain⟨A1,c1,hb,hg,hr1⟩:=h
 exact hg
theorem cellS35_0 {W:World} {g:Nat} {A1:Option Addr} {c1:Nat} {f0:Int} {f1:List (S54)} (h:W.heap[g]?=some (.cells #[.int .i64 f0,.slice A1 f1.length c1] 35 (0,0))):W.cell? ⟨g,0,none⟩=some (.int .i64 f0):=(blk_cell h 0).trans rfl
theorem IsS35.set_0 {w0 W:World} {g:Nat} {f0:Int} {f1:List (S54)} (h:IsS35 w0 W g f0 f1) (x:Int):IsS35 w0 (W.setCell ⟨g,0,none⟩ (.int .i64 x)) g x f1:=by
 obtain⟨A1,c1,hb,hg,hr1⟩:=h
 exact⟨A1,c1,by simpa using blk_set hb 0 (.int .i64 x),hg,hr1⟩
theorem cellS35_1 {W:World} {g:Nat} {A1:Option Addr} {c1:Nat} {f0:Int} {f1:List (S54)} (h:W.heap[g]?=some (.cells #[.int .i64 f0,.slice A1 f1.length c1] 35 (0,0))):W.cell? ⟨g,1,none⟩=some (.slice A1 f1.length c1):=(blk_cell h 1).trans rfl
theorem IsS35.new (w0 W:World) (A1:Option Addr) (c1:Nat) (f0:Int) (f1:List (S54)) (hB:Below w0.heap.size w0 W) (hr1:Kd.C k54 w0 A1 f1.length f1):IsS35 w0 (W.alloc (.cells #[.int .i64 f0,.slice A1 f1.length c1] 35)) W.heap.size f0 f1:=⟨A1,c1,by simpa using heap_alloc_new W _,hB.size,hr1⟩
def spec_l4Find.l0:Nat→Int→Int→Int→List (S54)→Option (Int × Int)
 | 0,_,_,_,_=>none
 | k+1,x1,x5,x1000,x1001=>if x5 < (x1001.length:Int) then (if 0≤x5 then (if ((rd_T54 x1001 x5).f0)=x1 then (some (x5,x1000)) else (spec_l4Find.l0 k x1 (wrap64 (x5+1)) x1000 x1001)) else (none)) else (some ((-1),x1000))
def spec_l4Find.f (k:Nat) (s0_0:Int) (s0_1:List (S54)) (a1:Int):Option (Int × Int):=spec_l4Find.l0 k a1 0 s0_0 s0_1
theorem spec_l4Find.mono_l:∀ k,(∀ y0 y1 y2 y3,LeO (spec_l4Find.l0 k y0 y1 y2 y3) (spec_l4Find.l0 (k+1) y0 y1 y2 y3))
 | 0=>fun _ _ _ _ r h=>by simp[spec_l4Find.l0] at h
 | k+1=>by
  have ih0:=spec_l4Find.mono_l k
  ·intro y0 y1 y2 y3
   unfold spec_l4Find.l0
   repeat' first
   | (with_reducible exact ih0 _ _ _ _)
   | (with_reducible exact LeO.refl _)
   | (with_reducible exact LeO.none _)
   | (with_reducible refine LeO.ite ?_ ?_)
   | (with_reducible refine LeO.bind ?_ (fun _=>?_))
   | exact ih0 _ _ _ _
   | exact LeO.none _
   | refine LeO.ite ?_ ?_
   | refine LeO.bind ?_ (fun _=>?_)
theorem spec_l4Find.mono:∀ a0 a1 a2 k,LeO (spec_l4Find.f k a0 a1 a2) (spec_l4Find.f (k+1) a0 a1 a2):=by
 intro a0 a1 a2 k
 have ih0:=spec_l4Find.mono_l k
 unfold spec_l4Find.f
 repeat' first
   | (with_reducible exact ih0 _ _ _ _)
   | (with_reducible exact LeO.refl _)
   | (with_reducible exact LeO.none _)
   | (with_reducible refine LeO.ite ?_ ?_)
   | (with_reducible refine LeO.bind ?_ (fun _=>?_))
   | exact ih0 _ _ _ _
   | exact LeO.none _
   | refine LeO.ite ?_ ?_
   | refine LeO.bind ?_ (fun _=>?_)
set_option maxHeartbeats 8000000 in
set_option maxRecDepth 100000 in
theorem spec_l4Find.calls (k:Nat) (g:Nat) (s0_0:Int) (s0_1:List (S54)) (a1:Int) (r1:Int) (r2:Int) (w0 w:World) (hI:IsS35 w0 w g s0_0 s0_1) (hB:Below w0.heap.size w0 w) (h:spec_l4Find.f k s0_0 s0_1 a1=some (r1,r2)) :
  Calls Try.prog 21 #[.pointer (some ⟨g,0,none⟩),.int .i64 a1] w fun e w'=>e=.returned (.int .i64 r1)∧IsS35 w0 w' g r2 s0_1∧Below w0.heap.size w0 w'∧KeepBut w w' g none:=by
 have HI0:=zM hI
 have HK:=zM (KeepBut.refl w g none)
 have HL:=zM hB.size
 clear hI
 have HW0:=zM hB.size
 have HB:=zM hB
 clear hB
 have H:(spec_l4Find.l0 k a1 0 s0_0 s0_1)=some (r1,r2):=h
 clear h
 have H':=zM H
 clear H
 go_enter Try.func21,Try.ntmps21
 go_wp2
 go_loopg [5] k (fun kq v5 w'=>∃ (x5_1:Int),v5=.int .i64 x5_1∧Aside0 (spec_l4Find.l0 kq a1 x5_1 s0_0 s0_1=some (r1,r2))∧Aside0 (kq≤k)∧Aside0 (IsS35 w0 w' g s0_0 s0_1)∧Aside0 (KeepBut w w' g none)∧Aside0 (Below w0.heap.size w0 w'))
 case atStart=>exact⟨(0),zq7,H',⟨Nat.le_refl _⟩,⟨zq88⟩,⟨zq50⟩,⟨zq77⟩⟩
 case round=>
  clear H'
  try clear c2
  try clear p2
  obtain⟨x5_1,rfl,HA,HK1,HI0,HK,HB⟩:=hrel
  cases gk with
  | zero=>exact absurd HA.out (by simp[spec_l4Find.l0])
  | succ k1=>
   have H:=HA.out
   clear HA
   simp only[spec_l4Find.l0] at H
   by_cases c3:x5_1 < (s0_1.length:Int)
   ·rw[if_pos c3] at H
    have c3b0:decide (x5_1 < (s0_1.length:Int))=true:=decide_eq_true c3
    clear c3
    by_cases c4:0≤x5_1
    ·rw[if_pos c4] at H
     have c4b0:decide (0≤x5_1)=true:=decide_eq_true c4
     clear c4
     by_cases c5:((rd_T54 s0_1 x5_1).f0)=a1
     ·rw[if_pos c5] at H
      have c5b0:(((rd_T54 s0_1 x5_1).f0) == a1)=true:=beq_iff_eq.mpr c5
      have c5b1:(((rd_T54 s0_1 x5_1).f0) != a1)=false:=bne_eq_false_iff_eq.mpr c5
      clear c5
      simp only[Option.some.injEq,Prod.mk.injEq] at H
      obtain⟨rfl,rfl⟩:=H
      obtain⟨ASz6_1,cSz6_1,HGz6,hgz6,HSz6_1⟩:=HI0.out
      have hcz6_0:=cellS35_0 HGz6
      have hcz6_1:=cellS35_1 HGz6
      have hfz6_0:=blk_frozen HGz6 0
      clear HGz6 hgz6
      have p109:0≤(x5_1:Int):=of_decide_eq_true zq6
      have q109:x5_1 < (s0_1.length:Int):=of_decide_eq_true zq6
      obtain⟨ad109,A109_1,c109_1,e109,hx109_0,hx109_1,hl109_1,hi109_1⟩:=at_T54 HSz6_1 x5_1 p109 q109
      cases e109
      replace hx109_0:=pw_cell_below HB.out hx109_0
      replace hx109_1:=pw_cell_below HB.out hx109_1
      have HR109_1:=zM hi109_1
      have HC109_1:=zM hl109_1
      clear hi109_1 hl109_1
      replace p109:=eq_true p109
      replace q109:=eq_true q109
      go_wp2
      go_ret
      exact⟨zq3,zq88,zq77,zq50⟩
     ·rw[if_neg c5] at H
      have c5b0:(((rd_T54 s0_1 x5_1).f0) == a1)=false:=beq_eq_false_iff_ne.mpr c5
      have c5b1:(((rd_T54 s0_1 x5_1).f0) != a1)=true:=bne_iff_ne.mpr c5
      have H':=zM H
      clear H
      obtain⟨ASz7_1,cSz7_1,HGz7,hgz7,HSz7_1⟩:=HI0.out
      have hcz7_0:=cellS35_0 HGz7
      have hcz7_1:=cellS35_1 HGz7
      have hfz7_0:=blk_frozen HGz7 0
      clear HGz7 hgz7
      have p109:0≤(x5_1:Int):=of_decide_eq_true zq6
      have q109:x5_1 < (s0_1.length:Int):=of_decide_eq_true zq6
      obtain⟨ad109,A109_1,c109_1,e109,hx109_0,hx109_1,hl109_1,hi109_1⟩:=at_T54 HSz7_1 x5_1 p109 q109
      cases e109
      replace hx109_0:=pw_cell_below HB.out hx109_0
      replace hx109_1:=pw_cell_below HB.out hx109_1
      have HR109_1:=zM hi109_1
      have HC109_1:=zM hl109_1
      clear hi109_1 hl109_1
      replace p109:=eq_true p109
      replace q109:=eq_true q109
      go_wp2
      go_roundg k1
      case measure=>have:=HK1.out;omega
      case rel=>exact⟨(wrap64 (x5_1+1)),zq7,H',⟨zq79⟩,⟨zq88⟩,⟨zq50⟩,⟨zq77⟩⟩
    ·rw[if_neg c4] at H
     exact absurd H zq73
   ·rw[if_neg c3] at H
    have c3b0:decide (x5_1 < (s0_1.length:Int))=false:=decide_eq_false c3
    clear c3
    simp only[Option.some.injEq,Prod.mk.injEq] at H
    obtain⟨rfl,rfl⟩:=H
    obtain⟨ASz8_1,cSz8_1,HGz8,hgz8,HSz8_1⟩:=HI0.out
    have hcz8_0:=cellS35_0 HGz8
    have hcz8_1:=cellS35_1 HGz8
    have hfz8_0:=blk_frozen HGz8 0
    clear HGz8 hgz8
    go_wp2
    go_ret
    exact⟨zq3,zq88,zq77,zq50⟩
def spec_l1In.f (a0:Int) (a1:Int) (a2:Int):Option (Bool):=if a0 ≥ a1 then (some (decide (a0≤a2))) else (some false)
set_option maxHeartbeats 8000000 in
set_option maxRecDepth 100000 in
theorem spec_l1In.calls (a0:Int) (a1:Int) (a2:Int) (r:Bool) (w:World) (h:spec_l1In.f a0 a1 a2=some r) :
  Calls Try.prog 59 #[.int .i64 a0,.int .i64 a1,.int .i64 a2] w fun e w'=>e=.returned (.bool r)∧Drawn0 w w':=by
 have H:(if a0 ≥ a1 then (some (decide (a0≤a2))) else (some false))=some r:=h
 clear h
 by_cases c4:a0 ≥ a1
 ·rw[if_pos c4] at H
  have c4b0:decide (a1≤a0)=true:=decide_eq_true c4
  clear c4
  obtain rfl:=Option.some.inj H
  go_enter Try.func59,Try.ntmps59
  go_wp2
  go_ret
  exact⟨zq7,zq25⟩
 ·rw[if_neg c4] at H
  have c4b0:decide (a1≤a0)=false:=decide_eq_false c4
  clear c4
  obtain rfl:=Option.some.inj H
  go_enter Try.func59,Try.ntmps59
  go_wp2
  go_ret
  exact⟨zq7,zq25⟩
end Go.Proofs.Ytdbanjdnjhflcaa.All
namespace Go.Proofs.Ytdbanjdnjhflcaa
open Go.Proofs.YtdbanjdnjhflcaaW.PrintWords.Aside0 renaming mk→zM
open Go.RowKit Go.Proofs.YtdbanjdnjhflcaaW.PrintWords
theorem wrap_next (k n:Nat) (h:k < n) (hn:n < 140737488355328):wrap64 ((k:Int)+1)=((k+1:Nat):Int):=by unfold wrap64;omega
theorem next_less (k n:Nat) (h:k < n) (hn:n < 140737488355328):n - (intOf (.int .i64 (wrap64 ((k:Int)+1)))).toNat < n - (intOf (.int .i64 (k:Int))).toNat:=by
 rw[wrap_next k n h hn]
 simp only[intOf]
 omega
end Go.Proofs.Ytdbanjdnjhflcaa
namespace Go.Proofs.Ytdbanjdnjhflcaa.All
open Go.Proofs.YtdbanjdnjhflcaaW.PrintWords.Aside0 renaming mk→zM
open Go.RowKit Go.Proofs.YtdbanjdnjhflcaaW.PrintWords Go.Proofs.YtdbanjdnjhflcaaW.PrintLast Go.Proofs.YtdbanjdnjhflcaaW.PrintMore
attribute [local go_sem] max2_int min2_int max_two min_two max_three min_three max_four min_four
def placeL (id:Int):List S54→Int→Int
 | [],_=>-1
 | x :: xs,i=>if x.f0=id then i else placeL id xs (i+1)
theorem placeL_drop (id:Int) (l:List S54) (k:Nat) (h:k < l.length):placeL id (l.drop k) k=if (rd_T54 l (k:Int)).f0=id then (k:Int) else placeL id (l.drop (k+1)) ((k+1:Nat):Int):=by
 rw[List.drop_eq_getElem_cons h]
 simp only[placeL]
 rw[show rd_T54 l (k:Int)=l[k] by unfold rd_T54;rw[Int.toNat_natCast,List.getD_eq_getElem?_getD,List.getElem?_eq_getElem h];rfl]
 rfl
def impl_Ring_place.f (a0_0:Int) (l0_1:List S54) (a1:Int):Option Int:=if l0_1.length < 140737488355328 then some (placeL a1 l0_1 0) else none
set_option maxHeartbeats 4000000 in
set_option maxRecDepth 100000 in
theorem place_test (x id:Int) (A:Option Addr) (n c g:Nat) (W:World) (hc:W.cell? ⟨g,0,none⟩=some (.int .i64 id)) :
  Calls Try.prog 67 #[.agg #[.int .i64 x,.slice A n c],.pointer (some ⟨g,0,none⟩)] W fun e w'=>e=.returned (.bool (x == id))∧Below W.heap.size W w':=by
 have hg:g < W.heap.size:=World.block_lt_of_cell? W _ hc
 have hne:g≠W.heap.size:=by omega
 go_enter Try.func67,Try.ntmps67
 go_wp2
 go_ret
 exact⟨rfl,(Below.refl _ _).alloc (Nat.le_refl _) _⟩
set_option maxHeartbeats 4000000 in
set_option maxRecDepth 100000 in
theorem place_index (id:Int) (A:Option Addr) (c g:Nat) (l:List S54) (w:World) (hr0:Kd.C k54 w A l.length l) (hcell:w.cell? ⟨g,0,none⟩=some (.int .i64 id)) (hm0:l.length < 140737488355328) :
  Calls Try.prog 66 #[.slice A l.length c,.func (.func 67) #[] #[.pointer (some ⟨g,0,none⟩)]] w fun e w'=>e=.returned (.int .i64 (placeL id l 0))∧Below w.heap.size w w':=by
 have HR:=zM hr0
 have HC:=zM hcell
 have HM:=zM hm0
 have HB:=zM (Below.refl w.heap.size w)
 have hg:=World.block_lt_of_cell? w _ hcell
 clear hr0 hcell hm0
 go_enter Try.func66,Try.ntmps66
 go_wp2
 go_loopw [5,8] (fun _ v8 W=>∃ kk:Nat,kk≤l.length∧v8=.int .i64 kk∧Aside0 (placeL id l 0=placeL id (l.drop kk) kk)∧Aside0 (Below w.heap.size w W)) (fun _ v8 _=>l.length - (intOf v8).toNat)
 case atStart=>exact⟨0,Nat.zero_le _,rfl,⟨rfl⟩,HB⟩
 case round=>
  clear HB
  obtain⟨kk,hk,rfl,HP,HB⟩:=hrel
  by_cases hl:kk < l.length
  ·have hd:decide (kk < l.length)=true:=decide_eq_true hl
   have HD:=zM (placeL_drop id l kk hl)
   obtain⟨ad,A1,c1,rfl,hx0,hx1,hl1,hi1⟩:=at_T54 HR.out (kk:Int) zq8 zq8
   clear hl1 hi1
   generalize rd_T54 l (kk:Int)=x at HD hx0 hx1
   rw[Int.toNat_natCast] at hx0 hx1
   replace hx0:=(HB.out.cell (World.block_lt_of_cell? w _ hx0)).trans hx0
   replace hx1:=(HB.out.cell (World.block_lt_of_cell? w _ hx1)).trans hx1
   have HCW:=zM ((HB.out.cell (World.block_lt_of_cell? w _ HC.out)).trans HC.out)
   have hlt:=zM hl
   by_cases he:x.f0=id
   ·have HE:=zM he
    have hbt:(x.f0 == id)=true:=beq_iff_eq.mpr he
    clear he
    go_wp2_with (go_at_call 67;refine(place_test x.f0 id A1 x.f1.length c1 g _ HCW.out).mono ?_;rintro e wk ⟨rfl,hb⟩)
    go_ret
    exact⟨by rw[HP.out,HD.out,if_pos HE.out];rfl,below_step HB.out hb⟩
   ·have HE:=zM he
    have hbt:(x.f0 == id)=false:=beq_eq_false_iff_ne.mpr he
    clear he
    go_wp2_with (go_at_call 67;refine(place_test x.f0 id A1 x.f1.length c1 g _ HCW.out).mono ?_;rintro e wk ⟨rfl,hb⟩)
    go_roundw
    case rel=>exact⟨kk+1,hlt.out,congrArg _ (wrap_next kk _ hlt.out HM.out),⟨by rw[HP.out,HD.out,if_neg HE.out]⟩,⟨below_step HB.out hb⟩⟩
    case measure=>exact next_less kk _ hlt.out HM.out
  ·obtain rfl:kk=l.length:=by omega
   have HP2:Aside0 (placeL id l 0=-1):=⟨by rw[HP.out,List.drop_length];rfl⟩
   clear HP
   go_wp2
   go_ret
   exact⟨by rw[HP2.out];rfl,HB.out⟩
set_option maxHeartbeats 4000000 in
set_option maxRecDepth 100000 in
theorem impl_Ring_place.calls (a0_0:Int) (A0_1:Option Addr) (c0_1:Nat) (l0_1:List S54) (a1:Int) (r:Int) (w:World) (hr0_1:Kd.C k54 w A0_1 l0_1.length l0_1) (hc0_1:l0_1.length≤c0_1) (h:impl_Ring_place.f a0_0 l0_1 a1=some r) :
  Calls Try.prog 48 #[.agg #[.int .i64 a0_0,.slice A0_1 l0_1.length c0_1],.int .i64 a1] w fun e w'=>e=.returned (.int .i64 r)∧Below w.heap.size w w':=by
 unfold impl_Ring_place.f at h
 by_cases hm:l0_1.length < 140737488355328
 ·rw[if_pos hm,Option.some.injEq] at h
  subst h
  have HR:=zM hr0_1
  clear hr0_1 hc0_1
  go_enter Try.func48,Try.ntmps48
  go_wp2_with (go_at_call 66;refine(place_index a1 A0_1 c0_1 (w.heap.size+1) l0_1 _ (Kd.C_alloc (Kd.C_alloc HR.out _) _) zq73 hm).mono ?_;rintro e wk ⟨rfl,hb⟩)
  go_ret
  exact⟨rfl,(((Below.refl _ _).alloc (Nat.le_refl _) _).alloc zq73 _).trans (hb.mono (by simp;omega))⟩
 ·rw[if_neg hm] at h
  cases h
def keyC (x:Int) (n:Nat):Int:=if 1≤x∧x≤255 then (if n=16 then 0 else 2) else 3
def faultsL:List S54→Int
 | []=>0
 | x :: xs=>if keyC x.f0 x.f1.length=0 then faultsL xs else keyC x.f0 x.f1.length
def orderL:List S54→Bool
 | x :: y :: xs=>if y.f0≤x.f0 then false else orderL (y :: xs)
 | _=>true
def ringFaultL (p:Int) (l:List S54):Int:=if l.length < 1 ∨ 3 < l.length then 2 else if faultsL l=0 then (if orderL l=true then (if placeL p l 0 < 0 then 4 else 0) else 1) else faultsL l
def spec_RingFault.f (a0_0:Int) (l0_1:List S54):Option Int:=some (ringFaultL a0_0 l0_1)
theorem rd_get (l:List S54) (k:Nat) (h:k < l.length):rd_T54 l (k:Int)=l[k]:=by
 unfold rd_T54
 rw[Int.toNat_natCast,List.getD_eq_getElem?_getD,List.getElem?_eq_getElem h]
 rfl
theorem faultsL_drop (l:List S54) (k:Nat) (h:k < l.length):faultsL (l.drop k)=if keyC (rd_T54 l (k:Int)).f0 (rd_T54 l (k:Int)).f1.length=0 then faultsL (l.drop (k+1)) else keyC (rd_T54 l (k:Int)).f0 (rd_T54 l (k:Int)).f1.length:=by
 rw[List.drop_eq_getElem_cons h,rd_get l k h]
 simp only[faultsL]
theorem orderL_drop (l:List S54) (k:Nat) (h:k+1 < l.length):orderL (l.drop k)=if (rd_T54 l ((k+1:Nat):Int)).f0≤(rd_T54 l (k:Int)).f0 then false else orderL (l.drop (k+1)):=by
 rw[List.drop_eq_getElem_cons (show k < l.length by omega),List.drop_eq_getElem_cons h,rd_get l k zq8,rd_get l (k+1) h]
 simp only[orderL]
theorem orderL_end (l:List S54) (k:Nat) (h:k+1=l.length):orderL (l.drop k)=true:=by
 rw[List.drop_eq_getElem_cons (show k < l.length by omega),List.drop_eq_nil_of_le zq8]
 simp only[orderL]
theorem l4Find_loop (id p:Int) (l:List S54) (hl:l.length < 140737488355328) (d:Nat):∀ (k i:Nat),i+d=l.length→d < k→spec_l4Find.l0 k id (i:Int) p l=some (placeL id (l.drop i) i,p):=by
 induction d with
 | zero=>
  intro k i hi hk
  obtain⟨k,rfl⟩:∃ m,k=m+1:=⟨k - 1,zq8⟩
  simp only[spec_l4Find.l0]
  rw[if_neg zq8,List.drop_of_length_le zq8]
  rfl
 | succ d ih=>
  intro k i hi hk
  obtain⟨k,rfl⟩:∃ m,k=m+1:=⟨k - 1,zq8⟩
  simp only[spec_l4Find.l0]
  rw[if_pos zq8,if_pos zq8,placeL_drop id l i zq8,wrap_next i l.length zq8 hl,ih k (i+1) zq8 zq8]
  by_cases h:(rd_T54 l (i:Int)).f0=id
  ·rw[if_pos h,if_pos h]
  ·rw[if_neg h,if_neg h]
theorem l4Find_eq (id p:Int) (l:List S54) (hl:l.length < 140737488355328) (k:Nat) (hk:l.length < k):spec_l4Find.f k p l id=some (placeL id l 0,p):=by
 have h:=l4Find_loop id p l hl l.length k 0 zq8 hk
 simpa [spec_l4Find.f] using h
set_option maxHeartbeats 4000000 in
set_option maxRecDepth 100000 in
theorem l4Key_at (p:Addr) (x:Int) (A:Option Addr) (n c:Nat) (w:World) (h0:w.cell? p=some (.int .i64 x)) (h1:w.cell? ⟨p.block,p.off+1,none⟩=some (.slice A n c)) :
  Calls Try.prog 39 #[.pointer (some p)] w fun e w'=>e=.returned (.int .i64 (keyC x n))∧Below w.heap.size w w':=by
 by_cases hin:1≤x∧x≤255
 ·have A0:Aside0 (spec_l1In.f x 1 255=some true):=⟨by unfold spec_l1In.f;rw[if_pos hin.1,decide_eq_true hin.2]⟩
  have hk:Aside0 (keyC x n=if n=16 then 0 else 2):=⟨by unfold keyC;rw[if_pos hin]⟩
  clear hin
  by_cases hn:n=16
  ·have hk2:Aside0 (keyC x n=0):=⟨by rw[hk.out,if_pos hn]⟩
   have hb:((n:Int) == 16)=true:=by rw[hn];rfl
   have hb2:((n:Int) != 16)=false:=by rw[hn];rfl
   clear hn hk
   go_enter Try.func39,Try.ntmps39
   go_wp2_with (go_at_call 59;refine(spec_l1In.calls x 1 255 true _ A0.out).mono ?_;rintro e wk ⟨rfl,⟨nd,rfl⟩⟩)
   go_ret
   exact⟨by rw[hk2.out];rfl,zq147⟩
  ·have hk2:Aside0 (keyC x n=2):=⟨by rw[hk.out,if_neg hn]⟩
   have hb:((n:Int) == 16)=false:=by rw[beq_eq_false_iff_ne];omega
   have hb2:((n:Int) != 16)=true:=by rw[bne_iff_ne];omega
   clear hn hk
   go_enter Try.func39,Try.ntmps39
   go_wp2_with (go_at_call 59;refine(spec_l1In.calls x 1 255 true _ A0.out).mono ?_;rintro e wk ⟨rfl,⟨nd,rfl⟩⟩)
   go_ret
   exact⟨by rw[hk2.out];rfl,zq147⟩
 ·have A0:Aside0 (spec_l1In.f x 1 255=some false):=⟨by
   unfold spec_l1In.f
   by_cases h1:x ≥ 1
   ·rw[if_pos h1,decide_eq_false (fun h2=>hin ⟨h1,h2⟩)]
   ·rw[if_neg h1]⟩
  have hk2:Aside0 (keyC x n=3):=⟨by unfold keyC;rw[if_neg hin]⟩
  clear hin
  go_enter Try.func39,Try.ntmps39
  go_wp2_with (go_at_call 59;refine(spec_l1In.calls x 1 255 false _ A0.out).mono ?_;rintro e wk ⟨rfl,⟨nd,rfl⟩⟩)
  go_ret
  exact⟨by rw[hk2.out];rfl,zq147⟩
theorem l4Key_as (p:Addr) (x:Int) (A:Option Addr) (n c:Nat) (r:Int) (hr:keyC x n=r) (w:World) (h0:w.cell? p=some (.int .i64 x)) (h1:w.cell? ⟨p.block,p.off+1,none⟩=some (.slice A n c)) :
  Calls Try.prog 39 #[.pointer (some p)] w fun e w'=>e=.returned (.int .i64 r)∧Below w.heap.size w w':=by
 subst hr
 exact l4Key_at p x A n c w h0 h1
theorem ringFault_box (g:Nat) (p:Int) (A:Option Addr) (n c:Nat) (W:World) (h:W.heap[g]?=some (.cells #[.int .i64 p,.slice A n c] 35 (0,0))):W.cell? ⟨g,0,none⟩=some (.int .i64 p)∧W.cell? ⟨g,1,none⟩=some (.slice A n c):=⟨(blk_cell h 0).trans rfl,(blk_cell h 1).trans rfl⟩
set_option maxHeartbeats 4000000 in
set_option maxRecDepth 100000 in
theorem spec_RingFault.calls (a0_0:Int) (A0_1:Option Addr) (c0_1:Nat) (l0_1:List S54) (r:Int) (w:World) (hr0_1:Kd.C k54 w A0_1 l0_1.length l0_1) (hc0_1:l0_1.length≤c0_1) (h:spec_RingFault.f a0_0 l0_1=some r) :
  Calls Try.prog 19 #[.agg #[.int .i64 a0_0,.slice A0_1 l0_1.length c0_1]] w fun e w'=>e=.returned (.int .i64 r)∧Below w.heap.size w w':=by
 unfold spec_RingFault.f at h
 rw[Option.some.injEq] at h
 subst h
 have HR:=zM hr0_1
 have HC:=zM hc0_1
 clear hr0_1 hc0_1
 have HB:=zM (Below.refl w.heap.size w)
 by_cases h1:l0_1.length < 1
 ·have HV:Aside0 (ringFaultL a0_0 l0_1=2):=⟨by unfold ringFaultL;rw[if_pos (.inl h1)]⟩
  have hd:decide (l0_1.length < 1)=true:=decide_eq_true h1
  have hd2:decide ((l0_1.length:Int) < 1)=true:=decide_eq_true zq8
  go_enter Try.func19,Try.ntmps19
  go_wp2
  go_ret
  exact⟨by rw[HV.out];rfl,zq187⟩
 ·by_cases h3:3 < l0_1.length
  ·have HV:Aside0 (ringFaultL a0_0 l0_1=2):=⟨by unfold ringFaultL;rw[if_pos (.inr h3)]⟩
   have hd:decide (l0_1.length < 1)=false:=decide_eq_false h1
   have hd2:decide ((l0_1.length:Int) < 1)=false:=decide_eq_false zq8
   have he:decide (3 < l0_1.length)=true:=decide_eq_true h3
   have he2:decide ((l0_1.length:Int) > 3)=true:=decide_eq_true zq8
   have he3:decide (3 < (l0_1.length:Int))=true:=decide_eq_true zq8
   go_enter Try.func19,Try.ntmps19
   go_wp2
   go_ret
   exact⟨by rw[HV.out];rfl,zq187⟩
  ·have HV:Aside0 (ringFaultL a0_0 l0_1=if faultsL l0_1=0 then (if orderL l0_1=true then (if placeL a0_0 l0_1 0 < 0 then 4 else 0) else 1) else faultsL l0_1):=⟨by unfold ringFaultL;rw[if_neg zq8]⟩
   have HL:Aside0 (1≤l0_1.length∧l0_1.length≤3):=⟨zq8⟩
   have hd:decide (l0_1.length < 1)=false:=decide_eq_false h1
   have hd2:decide ((l0_1.length:Int) < 1)=false:=decide_eq_false zq8
   have he:decide (3 < l0_1.length)=false:=decide_eq_false h3
   have he2:decide ((l0_1.length:Int) > 3)=false:=decide_eq_false zq8
   have he3:decide (3 < (l0_1.length:Int))=false:=decide_eq_false zq8
   have HLB:Aside0 (l0_1.length < 140737488355328):=⟨by have:=HL.out;omega⟩
   clear h1 h3
   go_enter Try.func19,Try.ntmps19
   go_wp2_with (first
    | ((with_reducible refine gate_dst (N:=1) rfl ?_);refine box_event ?hg (N:=1) ?hd (cs:=#[.int .i64 a0_0,.slice A0_1 l0_1.length c0_1]) (t:=35) ?hr ?_;(case hd=>rfl);(case hg=>rfl);(case hr=>first|(go_simp;done)|(go_simp;rfl));intro g hg w2 hbox hb;have BK:=zM hbox;have n1_:=zM (below_step HB.out hb);have GE:=zM (show w.heap.size≤g by rw[hg];exact Nat.le_refl _);clear HB;have HB:=n1_;clear n1_;clear hb hbox hg;obtain⟨hb0,hb1⟩:=ringFault_box _ _ _ _ _ _ BK.out))
   clear hd hd2 he he2 he3 hb0 hb1
   go_loopw [3,4] (fun v3 _ W=>∃ kk:Nat,kk≤l0_1.length∧v3=.int .i64 kk∧Aside0 (faultsL l0_1=faultsL (l0_1.drop kk))∧Aside0 (W.heap[g]?=some (.cells #[.int .i64 a0_0,.slice A0_1 l0_1.length c0_1] 35 (0,0)))∧Aside0 (Below w.heap.size w W)) (fun v3 _ _=>l0_1.length - (intOf v3).toNat)
   case atStart=>exact⟨0,Nat.zero_le _,rfl,⟨rfl⟩,BK,HB⟩
   case round=>
    clear BK HB
    obtain⟨kk,hk,rfl,HP,BK,HB⟩:=hrel
    obtain⟨hb0,hb1⟩:=ringFault_box _ _ _ _ _ _ BK.out
    by_cases hl:kk < l0_1.length
    ·have hd:decide (kk < l0_1.length)=true:=decide_eq_true hl
     have HD:=zM (faultsL_drop l0_1 kk hl)
     have hlt:=zM hl
     obtain⟨ad,A1,c1,rfl,hx0,hx1,hl1,hi1⟩:=at_T54 HR.out (kk:Int) zq8 zq8
     clear hl1 hi1
     generalize rd_T54 l0_1 (kk:Int)=x at HD hx0 hx1
     rw[Int.toNat_natCast] at hx0 hx1
     have HX:=zM (And.intro ((HB.out.cell (World.block_lt_of_cell? w _ hx0)).trans hx0) ((HB.out.cell (World.block_lt_of_cell? w _ hx1)).trans hx1))
     clear hx0 hx1
     by_cases hz:keyC x.f0 x.f1.length=0
     ·have HZ:=zM hz
      have HD2:Aside0 (faultsL l0_1=faultsL (l0_1.drop (kk+1))):=⟨by rw[HP.out,HD.out,if_pos hz]⟩
      clear HP HD hz
      go_wp2_with (go_at_call 39;refine(l4Key_as (ad.add (kk*2)) x.f0 A1 x.f1.length c1 0 HZ.out _ HX.out.1 HX.out.2).mono ?_;rintro e wk ⟨rfl,hb⟩;have n0_:=zM (below_step HB.out hb);have n1_:=zM (blk_below (g:=g) BK.out hb);clear HB BK hb0 hb1;have HB:=n0_;have BK:=n1_;clear n0_ n1_ hb)
      go_roundw
      case rel=>exact⟨kk+1,hlt.out,congrArg _ (wrap_next kk _ hlt.out HLB.out),HD2,BK,HB⟩
      case measure=>exact next_less kk _ hlt.out HLB.out
     ·obtain⟨c,HZ⟩:∃ c,Aside0 (keyC x.f0 x.f1.length=c):=⟨_,⟨rfl⟩⟩
      rw[HZ.out] at hz
      have hc1:(c == 0)=false:=beq_eq_false_iff_ne.mpr hz
      have hc2:(c != 0)=true:=bne_iff_ne.mpr hz
      have HV2:Aside0 (ringFaultL a0_0 l0_1=c):=⟨by rw[HV.out,HP.out,HD.out,HZ.out,if_neg hz,if_neg hz]⟩
      clear HP HD hz HV
      go_wp2_with (go_at_call 39;refine(l4Key_as (ad.add (kk*2)) x.f0 A1 x.f1.length c1 c HZ.out _ HX.out.1 HX.out.2).mono ?_;rintro e wk ⟨rfl,hb⟩;have n0_:=zM (below_step HB.out hb);clear HB;have HB:=n0_;clear n0_ hb)
      go_ret
      exact⟨by rw[HV2.out];rfl,HB.out⟩
    ·obtain rfl:kk=l0_1.length:=by omega
     have HF:Aside0 (faultsL l0_1=0):=⟨by rw[HP.out,List.drop_length];rfl⟩
     have HV2:Aside0 (ringFaultL a0_0 l0_1=if orderL l0_1=true then (if placeL a0_0 l0_1 0 < 0 then 4 else 0) else 1):=⟨by rw[HV.out,if_pos HF.out]⟩
     clear HP HF HV hl
     obtain⟨wo,rfl⟩:∃ wo:World,wo=wr:=⟨_,rfl⟩
     go_wp2
     go_loopw [5] (fun v5 W=>∃ kk:Nat,1≤kk∧kk≤l0_1.length∧v5=.int .i64 kk∧Aside0 (orderL l0_1=orderL (l0_1.drop (kk - 1)))∧Aside0 (W.heap[g]?=some (.cells #[.int .i64 a0_0,.slice A0_1 l0_1.length c0_1] 35 (0,0)))∧Aside0 (Below w.heap.size w W)) (fun v5 _=>l0_1.length - (intOf v5).toNat)
     case atStart=>exact⟨1,zq8,HL.out.1,rfl,⟨rfl⟩,BK,HB⟩
     case round=>
      clear BK HB hb0 hb1 hk
      obtain⟨kk,hk1,hk,rfl,HP,BK,HB⟩:=hrel
      obtain⟨hb0,hb1⟩:=ringFault_box _ _ _ _ _ _ BK.out
      by_cases hl:kk < l0_1.length
      ·obtain⟨j,rfl⟩:∃ j,kk=j+1:=⟨kk - 1,zq8⟩
       have hd:decide (j+1 < l0_1.length)=true:=decide_eq_true hl
       have hd2:decide (((j+1:Nat):Int) < (l0_1.length:Int))=true:=decide_eq_true zq8
       have hd3:decide ((j:Int)+1 < (l0_1.length:Int))=true:=decide_eq_true zq8
       have HD:=zM (orderL_drop l0_1 j hl)
       have hlt:=zM hl
       obtain⟨ad,A1,c1,rfl,hx0,hx1,hl1,hi1⟩:=at_T54 HR.out ((j+1:Nat):Int) zq8 zq8
       obtain⟨ad2,A2,c2,e2,hy0,hy1,hl2,hi2⟩:=at_T54 HR.out (j:Int) zq8 zq8
       injection e2 with e2
       subst e2
       clear hl1 hi1 hl2 hi2 hx1 hy1
       replace hx0:=(HB.out.cell (World.block_lt_of_cell? w _ hx0)).trans hx0
       replace hy0:=(HB.out.cell (World.block_lt_of_cell? w _ hy0)).trans hy0
       generalize (rd_T54 l0_1 ((j+1:Nat):Int)).f0=x at HD hx0
       generalize (rd_T54 l0_1 (j:Int)).f0=y at HD hy0
       rw[Int.toNat_natCast] at hx0 hy0
       have hj2:j+1≤3:=by have:=HL.out;omega
       have hs1:IntKind.i64.wrap (((j+1:Nat):Int) - 1)=(j:Int):=by rw[IntWalk.i64_in _ zq8];omega
       have hs2:IntKind.i64.wrap ((j:Int)+1 - 1)=(j:Int):=by rw[IntWalk.i64_in _ zq8];omega
       by_cases hxy:x≤y
       ·have HV3:Aside0 (ringFaultL a0_0 l0_1=1):=⟨by rw[HV2.out,HP.out,show j+1 - 1=j from rfl,HD.out,if_pos hxy];rfl⟩
        have hc1:decide (x≤y)=true:=decide_eq_true hxy
        clear HV2 HP HD
        go_wp2_with fail
        go_quiet (fail)
        go_wp2
        go_ret
        exact⟨by rw[HV3.out];rfl,zq0⟩
       ·have HP2:Aside0 (orderL l0_1=orderL (l0_1.drop (j+1))):=⟨by rw[HP.out,show j+1 - 1=j from rfl,HD.out,if_neg hxy]⟩
        have hc1:decide (x≤y)=false:=decide_eq_false hxy
        clear HP HD hxy
        go_wp2_with fail
        go_quiet (fail)
        clear hs1 hs2
        go_wp2
        go_roundw
        case rel=>exact⟨j+1+1,zq8,hlt.out,by go_num,HP2,⟨by(with_reducible repeat (first|refine blk_drewN ?_ _|refine blk_drew ?_|refine blk_alloc ?_ _));exact BK.out⟩,⟨zq0⟩⟩
        case measure=>have:=hlt.out;simp[intOf];omega
      ·obtain rfl:kk=l0_1.length:=by omega
       obtain⟨q,HQ⟩:∃ q,Aside0 (placeL a0_0 l0_1 0=q):=⟨_,⟨rfl⟩⟩
       have HV3:Aside0 (ringFaultL a0_0 l0_1=if q < 0 then 4 else 0):=⟨by rw[HV2.out,HP.out,orderL_end _ _ (by have:=HL.out;omega),if_pos rfl,HQ.out]⟩
       clear HV2 HP hl
       by_cases hq:q < 0
       ·have HV4:Aside0 (ringFaultL a0_0 l0_1=4):=⟨by rw[HV3.out,if_pos hq]⟩
        have hc1:decide (q < 0)=true:=decide_eq_true hq
        clear HV3 hq
        go_wp2_with (go_at_call 21;refine(spec_l4Find.calls (l0_1.length+1) g a0_0 l0_1 a0_0 q a0_0 w _ ⟨A0_1,c0_1,BK.out,GE.out,HR.out⟩ HB.out (by rw[l4Find_eq a0_0 a0_0 l0_1 HLB.out _ (Nat.lt_succ_self _),HQ.out])).mono ?_;rintro e wk ⟨rfl,hI,hb,hk9⟩;clear hI hk9;have n0_:=zM hb;clear HB hb;have HB:=n0_;clear n0_)
        go_ret
        exact⟨by rw[HV4.out];rfl,HB.out⟩
       ·have HV4:Aside0 (ringFaultL a0_0 l0_1=0):=⟨by rw[HV3.out,if_neg hq]⟩
        have hc1:decide (q < 0)=false:=decide_eq_false hq
        clear HV3 hq
        go_wp2_with (go_at_call 21;refine(spec_l4Find.calls (l0_1.length+1) g a0_0 l0_1 a0_0 q a0_0 w _ ⟨A0_1,c0_1,BK.out,GE.out,HR.out⟩ HB.out (by rw[l4Find_eq a0_0 a0_0 l0_1 HLB.out _ (Nat.lt_succ_self _),HQ.out])).mono ?_;rintro e wk ⟨rfl,hI,hb,hk9⟩;clear hI hk9;have n0_:=zM hb;clear HB hb;have HB:=n0_;clear n0_)
        go_ret
        exact⟨by rw[HV4.out];rfl,HB.out⟩
def IsS37 (w0 W:World) (g:Nat) (f0:Int) (f1:Int) (f2:Int) (f3:List Int):Prop:=∃ A3 c3,W.heap[g]?=some (.cells #[.int .i64 f0,.int .i64 f1,.int .i64 f2,.slice A3 f3.length c3] 37 (0,0))∧w0.heap.size≤g∧Kd.C (Kd.int .u8) w0 A3 f3.length f3
theorem IsS37.grown {w0 W:World} {g:Nat} {f0:Int} {f1:Int} {f2:Int} {f3:List Int} {W1:World} {row:Option Nat} (h:IsS37 w0 W g f0 f1 f2 f3) (hw:W.grownBy W1 row) (hne:some g≠row):IsS37 w0 W1 g f0 f1 f2 f3:=by
 obtain⟨A3,c3,hb,hg,hr3⟩:=h
 exact⟨A3,c3,blk_grown hb hw hne,hg,hr3⟩
theorem IsS37.kept {w0 W:World} {g:Nat} {f0:Int} {f1:Int} {f2:Int} {f3:List Int} {W1:World} {S:Nat→Prop} (h:IsS37 w0 W g f0 f1 f2 f3) (hk:Kept W W1 S) (hne:¬ S g):IsS37 w0 W1 g f0 f1 f2 f3:=by
 obtain⟨A3,c3,hb,hg,hr3⟩:=h
 exact⟨A3,c3,blk_kept hb hk hne,hg,hr3⟩
theorem IsS37.below {w0 W:World} {g:Nat} {f0:Int} {f1:Int} {f2:Int} {f3:List Int} {W1:World} (h:IsS37 w0 W g f0 f1 f2 f3) (hw:Below W.heap.size W W1):IsS37 w0 W1 g f0 f1 f2 f3:=h.grown (grown_of_below hw none) zq73
theorem IsS37.alloc {w0 W:World} {g:Nat} {f0:Int} {f1:Int} {f2:Int} {f3:List Int} (h:IsS37 w0 W g f0 f1 f2 f3) (o:Obj):IsS37 w0 (W.alloc o) g f0 f1 f2 f3:=h.below (below_alloc (Below.refl _ _) o)
theorem IsS37.drewN {w0 W:World} {g:Nat} {f0:Int} {f1:Int} {f2:Int} {f3:List Int} (h:IsS37 w0 W g f0 f1 f2 f3) (m:Nat):IsS37 w0 (W.drewN m) g f0 f1 f2 f3:=h
theorem IsS37.drew {w0 W:World} {g:Nat} {f0:Int} {f1:Int} {f2:Int} {f3:List Int} (h:IsS37 w0 W g f0 f1 f2 f3):IsS37 w0 W.drew g f0 f1 f2 f3:=h
theorem IsS37.at_ {w0 W:World} {g:Nat} {f0:Int} {f1:Int} {f2:Int} {f3:List Int} {w':World} {m:Nat} (hq:W.drewN m=w') (h:IsS37 w0 W g f0 f1 f2 f3):IsS37 w0 w' g f0 f1 f2 f3:=by subst hq;exact IsS37.drewN h m
theorem IsS37.apart {w0 W:World} {g:Nat} {f0:Int} {f1:Int} {f2:Int} {f3:List Int} {α:Type} {d:Kd α} {e:Nat} {base:Nat} {ok:Nat→Prop} {v:Value} {xs:List α} (h:IsS37 w0 W g f0 f1 f2 f3) (ho:d.R e W base ok v xs) (ht:∀ q,q ∈ e :: d.E→q≠37):d.R e W base (fun k=>ok k∧k≠g) v xs:=by
 obtain⟨A3,c3,hb,hg,hr3⟩:=h
 exact Kd.R_types ho hb ht
theorem IsS37.own_ne {w0 W:World} {g:Nat} {f0:Int} {f1:Int} {f2:Int} {f3:List Int} {α:Type} {d:Kd α} {e:Nat} {base:Nat} {ok:Nat→Prop} {v:Value} {xs:List α} (h:IsS37 w0 W g f0 f1 f2 f3) (ho:d.R e W base ok v xs) (ht:e≠37):some g≠v.ownBlock:=by
 obtain⟨A3,c3,hb,hg,hr3⟩:=h
 exact Kd.R_ne ho hb ht
theorem IsS37.ge {w0 W:World} {g:Nat} {f0:Int} {f1:Int} {f2:Int} {f3:List Int} (h:IsS37 w0 W g f0 f1 f2 f3):w0.heap.size≤g:=by
 obtain⟨A3,c3,hb,hg,hr3⟩:=h
 exact hg
theorem cellS37_0 {W:World} {g:Nat} {A3:Option Addr} {c3:Nat} {f0:Int} {f1:Int} {f2:Int} {f3:List Int} (h:W.heap[g]?=some (.cells #[.int .i64 f0,.int .i64 f1,.int .i64 f2,.slice A3 f3.length c3] 37 (0,0))):W.cell? ⟨g,0,none⟩=some (.int .i64 f0):=(blk_cell h 0).trans rfl
theorem IsS37.set_0 {w0 W:World} {g:Nat} {f0:Int} {f1:Int} {f2:Int} {f3:List Int} (h:IsS37 w0 W g f0 f1 f2 f3) (x:Int):IsS37 w0 (W.setCell ⟨g,0,none⟩ (.int .i64 x)) g x f1 f2 f3:=by
 obtain⟨A3,c3,hb,hg,hr3⟩:=h
 exact⟨A3,c3,by simpa using blk_set hb 0 (.int .i64 x),hg,hr3⟩
theorem cellS37_1 {W:World} {g:Nat} {A3:Option Addr} {c3:Nat} {f0:Int} {f1:Int} {f2:Int} {f3:List Int} (h:W.heap[g]?=some (.cells #[.int .i64 f0,.int .i64 f1,.int .i64 f2,.slice A3 f3.length c3] 37 (0,0))):W.cell? ⟨g,1,none⟩=some (.int .i64 f1):=(blk_cell h 1).trans rfl
theorem IsS37.set_1 {w0 W:World} {g:Nat} {f0:Int} {f1:Int} {f2:Int} {f3:List Int} (h:IsS37 w0 W g f0 f1 f2 f3) (x:Int):IsS37 w0 (W.setCell ⟨g,1,none⟩ (.int .i64 x)) g f0 x f2 f3:=by
 obtain⟨A3,c3,hb,hg,hr3⟩:=h
 exact⟨A3,c3,by simpa using blk_set hb 1 (.int .i64 x),hg,hr3⟩
theorem cellS37_2 {W:World} {g:Nat} {A3:Option Addr} {c3:Nat} {f0:Int} {f1:Int} {f2:Int} {f3:List Int} (h:W.heap[g]?=some (.cells #[.int .i64 f0,.int .i64 f1,.int .i64 f2,.slice A3 f3.length c3] 37 (0,0))):W.cell? ⟨g,2,none⟩=some (.int .i64 f2):=(blk_cell h 2).trans rfl
theorem IsS37.set_2 {w0 W:World} {g:Nat} {f0:Int} {f1:Int} {f2:Int} {f3:List Int} (h:IsS37 w0 W g f0 f1 f2 f3) (x:Int):IsS37 w0 (W.setCell ⟨g,2,none⟩ (.int .i64 x)) g f0 f1 x f3:=by
 obtain⟨A3,c3,hb,hg,hr3⟩:=h
 exact⟨A3,c3,by simpa using blk_set hb 2 (.int .i64 x),hg,hr3⟩
theorem cellS37_3 {W:World} {g:Nat} {A3:Option Addr} {c3:Nat} {f0:Int} {f1:Int} {f2:Int} {f3:List Int} (h:W.heap[g]?=some (.cells #[.int .i64 f0,.int .i64 f1,.int .i64 f2,.slice A3 f3.length c3] 37 (0,0))):W.cell? ⟨g,3,none⟩=some (.slice A3 f3.length c3):=(blk_cell h 3).trans rfl
theorem IsS37.new (w0 W:World) (A3:Option Addr) (c3:Nat) (f0:Int) (f1:Int) (f2:Int) (f3:List Int) (hB:Below w0.heap.size w0 W) (hr3:Kd.C (Kd.int .u8) w0 A3 f3.length f3):IsS37 w0 (W.alloc (.cells #[.int .i64 f0,.int .i64 f1,.int .i64 f2,.slice A3 f3.length c3] 37)) W.heap.size f0 f1 f2 f3:=⟨A3,c3,by simpa using heap_alloc_new W _,hB.size,hr3⟩
def spec_l5Head.f (s0_0:Int) (s0_1:Int) (s0_2:Int) (s0_3:List Int):Option (Bool × Int × Int × Int):=(spec_l1In.f s0_0 1 255).bind fun t111=>(if t111=true then ((spec_l1In.f s0_1 0 15).bind fun t112=>(if t112=true then ((spec_l1In.f s0_2 0 1000000000).bind fun t113=>(some (t113,s0_0,s0_1,s0_2))) else (some (false,s0_0,s0_1,s0_2)))) else (some (false,s0_0,s0_1,s0_2)))
set_option maxHeartbeats 8000000 in
set_option maxRecDepth 100000 in
theorem spec_l5Head.calls (g:Nat) (s0_0:Int) (s0_1:Int) (s0_2:Int) (s0_3:List Int) (r1:Bool) (r2:Int) (r3:Int) (r4:Int) (w0 w:World) (hI:IsS37 w0 w g s0_0 s0_1 s0_2 s0_3) (hB:Below w0.heap.size w0 w) (h:spec_l5Head.f s0_0 s0_1 s0_2 s0_3=some (r1,r2,r3,r4)) :
  Calls Try.prog 40 #[.pointer (some ⟨g,0,none⟩)] w fun e w'=>e=.returned (.bool r1)∧IsS37 w0 w' g r2 r3 r4 s0_3∧Below w0.heap.size w0 w'∧KeepBut w w' g none:=by
 have HI0:=zM hI
 have HK:=zM (KeepBut.refl w g none)
 have HL:=zM hB.size
 clear hI
 have HW0:=zM hB.size
 have HB:=zM hB
 clear hB
 have H:((spec_l1In.f s0_0 1 255).bind fun t111=>(if t111=true then ((spec_l1In.f s0_1 0 15).bind fun t112=>(if t112=true then ((spec_l1In.f s0_2 0 1000000000).bind fun t113=>(some (t113,s0_0,s0_1,s0_2))) else (some (false,s0_0,s0_1,s0_2)))) else (some (false,s0_0,s0_1,s0_2))))=some (r1,r2,r3,r4):=h
 clear h
 replace H:=Option.bind_eq_some_iff.mp H
 obtain⟨t111,A20,H⟩:=H
 replace H:(if t111=true then ((spec_l1In.f s0_1 0 15).bind fun t112=>(if t112=true then ((spec_l1In.f s0_2 0 1000000000).bind fun t113=>(some (t113,s0_0,s0_1,s0_2))) else (some (false,s0_0,s0_1,s0_2)))) else (some (false,s0_0,s0_1,s0_2)))=some (r1,r2,r3,r4):=H
 have A2:=zM A20
 clear A20
 by_cases c3:t111=true
 ·subst c3
  have H1:((spec_l1In.f s0_1 0 15).bind fun t112=>(if t112=true then ((spec_l1In.f s0_2 0 1000000000).bind fun t113=>(some (t113,s0_0,s0_1,s0_2))) else (some (false,s0_0,s0_1,s0_2))))=some (r1,r2,r3,r4):=by rw[if_pos rfl] at H;exact H
  clear H
  have H:=H1
  clear H1
  replace H:=Option.bind_eq_some_iff.mp H
  obtain⟨t112,A40,H⟩:=H
  replace H:(if t112=true then ((spec_l1In.f s0_2 0 1000000000).bind fun t113=>(some (t113,s0_0,s0_1,s0_2))) else (some (false,s0_0,s0_1,s0_2)))=some (r1,r2,r3,r4):=H
  have A4:=zM A40
  clear A40
  by_cases c5:t112=true
  ·subst c5
   have H1:((spec_l1In.f s0_2 0 1000000000).bind fun t113=>(some (t113,s0_0,s0_1,s0_2)))=some (r1,r2,r3,r4):=by rw[if_pos rfl] at H;exact H
   clear H
   have H:=H1
   clear H1
   replace H:=Option.bind_eq_some_iff.mp H
   obtain⟨t113,A60,H⟩:=H
   replace H:(some (t113,s0_0,s0_1,s0_2))=some (r1,r2,r3,r4):=H
   have A6:=zM A60
   clear A60
   simp only[Option.some.injEq,Prod.mk.injEq] at H
   obtain⟨rfl,rfl,rfl,rfl⟩:=H
   obtain⟨ASz7_3,cSz7_3,HGz7,hgz7,HSz7_3⟩:=HI0.out
   have hcz7_0:=cellS37_0 HGz7
   have hcz7_1:=cellS37_1 HGz7
   have hcz7_2:=cellS37_2 HGz7
   have hcz7_3:=cellS37_3 HGz7
   have hfz7_0:=blk_frozen HGz7 0
   have hfz7_1:=blk_frozen HGz7 1
   have hfz7_2:=blk_frozen HGz7 2
   clear HGz7 hgz7
   go_enter Try.func40,Try.ntmps40
   go_wp2_with (first|((with_reducible refine gate_callee (f:=59) rfl ?_);refine goesL_ (some 7) rfl rfl Try.func59 (by kernel_rfl) rfl #[.int .i64 s0_0,.int .i64 1,.int .i64 255] rfl zq1 ?_;(with_reducible refine(spec_l1In.calls s0_0 1 255 true _ A2.out).mono ?_);rintro e w' ⟨rfl,⟨nd,rfl⟩⟩;refine⟨_,rfl,?_⟩)|(go_at_call 59;(with_reducible refine(spec_l1In.calls s0_1 0 15 true _ A4.out).mono ?_);rintro e w' ⟨rfl,⟨nd,rfl⟩⟩)|(go_at_call 59;(with_reducible refine(spec_l1In.calls s0_2 0 1000000000 t113 _ A6.out).mono ?_);rintro e w' ⟨rfl,⟨nd,rfl⟩⟩))
   go_ret
   exact⟨zq3,zq104,zq108,zq50⟩
  ·replace c5:=Bool.eq_false_iff.mpr c5
   subst c5
   have H1:(some (false,s0_0,s0_1,s0_2))=some (r1,r2,r3,r4):=by rw[if_neg (show ¬ (false=true) by decide)] at H;exact H
   clear H
   have H:=H1
   clear H1
   simp only[Option.some.injEq,Prod.mk.injEq] at H
   obtain⟨rfl,rfl,rfl,rfl⟩:=H
   obtain⟨ASz8_3,cSz8_3,HGz8,hgz8,HSz8_3⟩:=HI0.out
   have hcz8_0:=cellS37_0 HGz8
   have hcz8_1:=cellS37_1 HGz8
   have hcz8_2:=cellS37_2 HGz8
   have hcz8_3:=cellS37_3 HGz8
   have hfz8_0:=blk_frozen HGz8 0
   have hfz8_1:=blk_frozen HGz8 1
   have hfz8_2:=blk_frozen HGz8 2
   clear HGz8 hgz8
   go_enter Try.func40,Try.ntmps40
   go_wp2_with (first|((with_reducible refine gate_callee (f:=59) rfl ?_);refine goesL_ (some 7) rfl rfl Try.func59 (by kernel_rfl) rfl #[.int .i64 s0_0,.int .i64 1,.int .i64 255] rfl zq1 ?_;(with_reducible refine(spec_l1In.calls s0_0 1 255 true _ A2.out).mono ?_);rintro e w' ⟨rfl,⟨nd,rfl⟩⟩;refine⟨_,rfl,?_⟩)|(go_at_call 59;(with_reducible refine(spec_l1In.calls s0_1 0 15 false _ A4.out).mono ?_);rintro e w' ⟨rfl,⟨nd,rfl⟩⟩))
   go_ret
   exact⟨zq3,zq104,zq108,zq50⟩
 ·replace c3:=Bool.eq_false_iff.mpr c3
  subst c3
  have H1:(some (false,s0_0,s0_1,s0_2))=some (r1,r2,r3,r4):=by rw[if_neg (show ¬ (false=true) by decide)] at H;exact H
  clear H
  have H:=H1
  clear H1
  simp only[Option.some.injEq,Prod.mk.injEq] at H
  obtain⟨rfl,rfl,rfl,rfl⟩:=H
  obtain⟨ASz9_3,cSz9_3,HGz9,hgz9,HSz9_3⟩:=HI0.out
  have hcz9_0:=cellS37_0 HGz9
  have hcz9_1:=cellS37_1 HGz9
  have hcz9_2:=cellS37_2 HGz9
  have hcz9_3:=cellS37_3 HGz9
  have hfz9_0:=blk_frozen HGz9 0
  have hfz9_1:=blk_frozen HGz9 1
  have hfz9_2:=blk_frozen HGz9 2
  clear HGz9 hgz9
  go_enter Try.func40,Try.ntmps40
  go_wp2_with (first|((with_reducible refine gate_callee (f:=59) rfl ?_);refine goesL_ (some 7) rfl rfl Try.func59 (by kernel_rfl) rfl #[.int .i64 s0_0,.int .i64 1,.int .i64 255] rfl zq1 ?_;(with_reducible refine(spec_l1In.calls s0_0 1 255 false _ A2.out).mono ?_);rintro e w' ⟨rfl,⟨nd,rfl⟩⟩;refine⟨_,rfl,?_⟩))
  go_ret
  exact⟨zq3,zq104,zq108,zq50⟩
set_option maxHeartbeats 4000000 in
set_option maxRecDepth 100000 in
theorem l5Head_here3 (g:Nat) (a b c:Int) (x:Value) (r:Bool) (q1 q2 q3:Int) (w:World) (hb:w.heap[g]?=some (.cells #[.int .i64 a,.int .i64 b,.int .i64 c,x] 37 (0,0))) (h:spec_l5Head.f a b c ([]:List Int)=some (r,q1,q2,q3)) :
  Calls Try.prog 40 #[.pointer (some ⟨g,0,none⟩)] w fun e w'=>e=.returned (.bool r)∧Drawn0 w w':=by
 have hc0:w.cell? ⟨g,0,none⟩=some (.int .i64 a):=by rw[blk_cell hb];rfl
 have hc1:w.cell? ⟨g,1,none⟩=some (.int .i64 b):=by rw[blk_cell hb];rfl
 have hc2:w.cell? ⟨g,2,none⟩=some (.int .i64 c):=by rw[blk_cell hb];rfl
 clear hb
 unfold spec_l5Head.f at h
 obtain⟨t0,h0,H⟩:=Option.bind_eq_some_iff.mp h
 clear h
 have A0:=zM h0
 clear h0
 cases t0 with
 | false=>
  rw[if_neg zq36] at H
  simp only[Option.some.injEq,Prod.mk.injEq] at H
  obtain⟨rfl,rfl,rfl,rfl⟩:=H
  go_enter Try.func40,Try.ntmps40
  go_wp2_with (first
    | (go_at_call 59;(with_reducible refine(spec_l1In.calls a 1 255 false _ A0.out).mono ?_);rintro e w' ⟨rfl,⟨nd,rfl⟩⟩))
  go_ret
  exact⟨rfl,⟨_,rfl⟩⟩
 | true=>
  rw[if_pos rfl] at H
  obtain⟨t1,h1,H⟩:=Option.bind_eq_some_iff.mp H
  have A1:=zM h1
  clear h1
  cases t1 with
  | false=>
   rw[if_neg zq36] at H
   simp only[Option.some.injEq,Prod.mk.injEq] at H
   obtain⟨rfl,rfl,rfl,rfl⟩:=H
   go_enter Try.func40,Try.ntmps40
   go_wp2_with (first
     | (go_at_call 59;(with_reducible refine(spec_l1In.calls a 1 255 true _ A0.out).mono ?_);rintro e w' ⟨rfl,⟨nd,rfl⟩⟩)
     | (go_at_call 59;(with_reducible refine(spec_l1In.calls b 0 15 false _ A1.out).mono ?_);rintro e w' ⟨rfl,⟨nd,rfl⟩⟩))
   go_ret
   exact⟨rfl,⟨_,rfl⟩⟩
  | true=>
   rw[if_pos rfl] at H
   obtain⟨t2,h2,H⟩:=Option.bind_eq_some_iff.mp H
   have A2:=zM h2
   clear h2
   simp only[Option.some.injEq,Prod.mk.injEq] at H
   obtain⟨rfl,rfl,rfl,rfl⟩:=H
   go_enter Try.func40,Try.ntmps40
   go_wp2_with (first
     | (go_at_call 59;(with_reducible refine(spec_l1In.calls a 1 255 true _ A0.out).mono ?_);rintro e w' ⟨rfl,⟨nd,rfl⟩⟩)
     | (go_at_call 59;(with_reducible refine(spec_l1In.calls b 0 15 true _ A1.out).mono ?_);rintro e w' ⟨rfl,⟨nd,rfl⟩⟩)
     | (go_at_call 59;(with_reducible refine(spec_l1In.calls c 0 1000000000 t2 _ A2.out).mono ?_);rintro e w' ⟨rfl,⟨nd,rfl⟩⟩))
   go_ret
   exact⟨rfl,⟨_,rfl⟩⟩
def spec_LetterFault.f (a0_0 a0_1 a0_2:Int) (l0_3:List Int):Option Int:=(spec_l5Head.f a0_0 a0_1 a0_2 ([]:List Int)).bind fun b=>if b.1=true then (if l0_3.length > 300 then some 2 else some 0) else some 3
set_option maxHeartbeats 4000000 in
set_option maxRecDepth 100000 in
theorem spec_LetterFault.calls (a0_0 a0_1 a0_2:Int) (A0_3:Option Addr) (c0_3:Nat) (l0_3:List Int) (r:Int) (w:World) (hr0_3:Kd.C (Kd.int .u8) w A0_3 l0_3.length l0_3) (hc0_3:l0_3.length≤c0_3) (h:spec_LetterFault.f a0_0 a0_1 a0_2 l0_3=some r) :
  Calls Try.prog 20 #[.agg #[.int .i64 a0_0,.int .i64 a0_1,.int .i64 a0_2,.slice A0_3 l0_3.length c0_3]] w fun e w'=>e=.returned (.int .i64 r)∧Below w.heap.size w w':=by
 clear hr0_3 hc0_3
 unfold spec_LetterFault.f at h
 obtain⟨⟨b,q1,q2,q3⟩,hh,h⟩:=Option.bind_eq_some_iff.mp h
 have hH:=zM hh
 clear hh
 have HB:=zM (Below.refl w.heap.size w)
 cases b with
 | false=>
  replace h:some (3:Int)=some r:=h
  cases h
  go_enter Try.func20,Try.ntmps20
  go_wp2_with (first
    | ((with_reducible refine gate_dst (N:=1) rfl ?_);refine box_event ?hg (N:=1) ?hd (cs:=#[.int .i64 a0_0,.int .i64 a0_1,.int .i64 a0_2,.slice A0_3 l0_3.length c0_3]) (t:=37) ?hr ?_;(case hd=>rfl);(case hg=>rfl);(case hr=>first|(go_simp;done)|(go_simp;rfl));intro g1 hg w1 hbox hb;have n0_:=zM (below_step zq0 hb);have n1_:=zM hbox;have n2_:=zM (by rw[hg];exact below_size zq0:w.heap.size≤g1);clear HB;have HB:=n0_;have BK1:=n1_;have GE1:=n2_;clear n0_ n1_ n2_;clear hb hbox hg;have hx3:w1.cell? ⟨g1,3,none⟩=some (.slice A0_3 l0_3.length c0_3):=zq159)
    | (go_at_call 40;(refine(l5Head_here3 g1 a0_0 a0_1 a0_2 _ false q1 q2 q3 _ zq4 hH.out).mono ?_);rintro e w' ⟨rfl,⟨nd,rfl⟩⟩))
  go_ret
  exact⟨rfl,zq0⟩
 | true=>
  replace h:(if l0_3.length > 300 then some (2:Int) else some 0)=some r:=h
  by_cases hl:l0_3.length > 300
  ·rw[if_pos hl] at h
   cases h
   have hd:decide ((l0_3.length:Int) > 300)=true:=decide_eq_true zq8
   clear hl
   go_enter Try.func20,Try.ntmps20
   go_wp2_with (first
     | ((with_reducible refine gate_dst (N:=1) rfl ?_);refine box_event ?hg (N:=1) ?hd (cs:=#[.int .i64 a0_0,.int .i64 a0_1,.int .i64 a0_2,.slice A0_3 l0_3.length c0_3]) (t:=37) ?hr ?_;(case hd=>rfl);(case hg=>rfl);(case hr=>first|(go_simp;done)|(go_simp;rfl));intro g1 hg w1 hbox hb;have n0_:=zM (below_step zq0 hb);have n1_:=zM hbox;have n2_:=zM (by rw[hg];exact below_size zq0:w.heap.size≤g1);clear HB;have HB:=n0_;have BK1:=n1_;have GE1:=n2_;clear n0_ n1_ n2_;clear hb hbox hg;have hx3:w1.cell? ⟨g1,3,none⟩=some (.slice A0_3 l0_3.length c0_3):=zq159)
     | (go_at_call 40;(refine(l5Head_here3 g1 a0_0 a0_1 a0_2 _ true q1 q2 q3 _ zq4 hH.out).mono ?_);rintro e w' ⟨rfl,⟨nd,rfl⟩⟩))
   go_ret
   exact⟨rfl,zq0⟩
  ·rw[if_neg hl] at h
   cases h
   have hd:decide ((l0_3.length:Int) > 300)=false:=decide_eq_false zq8
   clear hl
   go_enter Try.func20,Try.ntmps20
   go_wp2_with (first
     | ((with_reducible refine gate_dst (N:=1) rfl ?_);refine box_event ?hg (N:=1) ?hd (cs:=#[.int .i64 a0_0,.int .i64 a0_1,.int .i64 a0_2,.slice A0_3 l0_3.length c0_3]) (t:=37) ?hr ?_;(case hd=>rfl);(case hg=>rfl);(case hr=>first|(go_simp;done)|(go_simp;rfl));intro g1 hg w1 hbox hb;have n0_:=zM (below_step zq0 hb);have n1_:=zM hbox;have n2_:=zM (by rw[hg];exact below_size zq0:w.heap.size≤g1);clear HB;have HB:=n0_;have BK1:=n1_;have GE1:=n2_;clear n0_ n1_ n2_;clear hb hbox hg;have hx3:w1.cell? ⟨g1,3,none⟩=some (.slice A0_3 l0_3.length c0_3):=zq159)
     | (go_at_call 40;(refine(l5Head_here3 g1 a0_0 a0_1 a0_2 _ true q1 q2 q3 _ zq4 hH.out).mono ?_);rintro e w' ⟨rfl,⟨nd,rfl⟩⟩))
   go_ret
   exact⟨rfl,zq0⟩
def spec_l1Pack.l0:Nat→Int→List Int→Int→Option (List Int)
 | 0,_,_,_=>none
 | k+1,x0,x5,x6=>if x6 ≥ 0 then (if 0≤x6 then (if x6 < (x5.length:Int) then (spec_l1Pack.l0 k (wrap64 (Int.tdiv x0 256)) (x5.set (x6:Int).toNat ((Int.tmod x0 256) % 256)) (wrap64 (x6 - 1))) else (none)) else (none)) else (some x5)
def spec_l1Pack.f (k:Nat) (a0:Int) (a1:Int):Option (List Int):=if 0≤a1 then (if (a1:Int).toNat≤281474976710656 then (spec_l1Pack.l0 k a0 (List.replicate (a1:Int).toNat 0) (wrap64 (a1 - 1))) else (none)) else (none)
theorem spec_l1Pack.mono_l:∀ k,(∀ y0 y1 y2,LeO (spec_l1Pack.l0 k y0 y1 y2) (spec_l1Pack.l0 (k+1) y0 y1 y2))
 | 0=>fun _ _ _ r h=>by simp[spec_l1Pack.l0] at h
 | k+1=>by
  have ih0:=spec_l1Pack.mono_l k
  ·intro y0 y1 y2
   unfold spec_l1Pack.l0
   repeat' first
   | (with_reducible exact ih0 _ _ _)
   | (with_reducible exact LeO.refl _)
   | (with_reducible exact LeO.none _)
   | (with_reducible refine LeO.ite ?_ ?_)
   | (with_reducible refine LeO.bind ?_ (fun _=>?_))
   | exact ih0 _ _ _
   | exact LeO.none _
   | refine LeO.ite ?_ ?_
   | refine LeO.bind ?_ (fun _=>?_)
theorem spec_l1Pack.mono:∀ a0 a1 k,LeO (spec_l1Pack.f k a0 a1) (spec_l1Pack.f (k+1) a0 a1):=by
 intro a0 a1 k
 have ih0:=spec_l1Pack.mono_l k
 unfold spec_l1Pack.f
 repeat' first
   | (with_reducible exact ih0 _ _ _)
   | (with_reducible exact LeO.refl _)
   | (with_reducible exact LeO.none _)
   | (with_reducible refine LeO.ite ?_ ?_)
   | (with_reducible refine LeO.bind ?_ (fun _=>?_))
   | exact ih0 _ _ _
   | exact LeO.none _
   | refine LeO.ite ?_ ?_
   | refine LeO.bind ?_ (fun _=>?_)
set_option maxHeartbeats 8000000 in
set_option maxRecDepth 100000 in
theorem spec_l1Pack.calls (k:Nat) (a0:Int) (a1:Int) (r:List Int) (w:World) (h:spec_l1Pack.f k a0 a1=some r) :
  Calls Try.prog 60 #[.int .i64 a0,.int .i64 a1] w fun e w'=>∃ v0_:Value,e=.returned (v0_)∧Kd.R (Kd.int .u8) 5 w' w.heap.size (fun _=>True) v0_ r∧Below w.heap.size w w':=by
 have HB:=zM (Below.refl w.heap.size w)
 have H:(if 0≤a1 then (if (a1:Int).toNat≤281474976710656 then (spec_l1Pack.l0 k a0 (List.replicate (a1:Int).toNat 0) (wrap64 (a1 - 1))) else (none)) else (none))=some r:=h
 clear h
 by_cases c3:0≤a1
 ·rw[if_pos c3] at H
  have c3b0:=eq_true c3
  have c3b1:decide (0≤a1)=true:=decide_eq_true c3
  clear c3
  by_cases c4:(a1:Int).toNat≤281474976710656
  ·rw[if_pos c4] at H
   have c4b0:=eq_true c4
   have c4b1:decide ((a1:Int).toNat≤281474976710656)=true:=decide_eq_true c4
   clear c4
   obtain⟨y114,hy114⟩:∃ y_:List Int,y_=(List.replicate (a1:Int).toNat 0):=⟨_,rfl⟩
   replace H:(spec_l1Pack.l0 k a0 y114 (wrap64 (a1 - 1)))=some r:=by first|(rw[hy114];with_reducible exact H)|(have H2_:=(Option.bind_some _ _).symm.trans H;rw[hy114];with_reducible exact H2_)|(have H2_:=(Option.bind_some _ _).symm.trans H;with_reducible exact H2_)|with_reducible exact H|(rw[hy114];exact H)|exact H
   have Ny114:=zM hy114
   clear hy114
   have H':=zM H
   clear H
   go_enter Try.func60,Try.ntmps60
   go_wp2_with (first|((with_reducible refine gate_dst (N:=8) rfl ?_);refine Kd.R_make (Kd.int .u8) _ 5 rfl (N:=8) rfl 25 _ _ rfl a1 rfl rfl Try.underlying25 (.int .u8 0) 1 info5 rfl zq36 zq8 0 (ok:=fun _=>True) (okp:=fun _=>True) rfl (fun _ hk=>hk) trivial (of_decide_eq_true zq6) (Nat.le_trans (Nat.mul_le_mul_right _ (of_decide_eq_true zq6:a1.toNat≤281474976710656)) zq8) (Below.refl _ _) (Nat.le_refl _) ?_;intro v115 w5 ho6 hb hg_ hnew_;clear hg_ hnew_;(first|rw[← Ny114.out] at ho6|(simp only[Int.reduceToNat] at ho6;rw[← Ny114.out] at ho6));have n0_:=zM (Kd.R_lower ho6 (below_size zq0));have n1_:=zM (below_step zq0 hb);clear HB;have HO116:=n0_;have HB:=n1_;clear n0_ n1_;clear hb ho6))
   go_loopg [0,6] k (fun kq v0 v6 w'=>∃ (x0_1:Int) (x5_1:List Int) (x6_1:Int),v0=.int .i64 x0_1∧v6=.int .i64 x6_1∧Aside0 (spec_l1Pack.l0 kq x0_1 x5_1 x6_1=some r)∧Aside0 (kq≤k)∧Aside0 (Kd.R (Kd.int .u8) 5 w' w.heap.size (fun _=>True) v115 x5_1)∧Aside0 (Below w.heap.size w w'))
   case atStart=>exact⟨(a0),(y114),(wrap64 (a1 - 1)),zq7,zq7,H',⟨Nat.le_refl _⟩,⟨by(with_reducible repeat (first|apply Kd.R_alloc|apply Kd.R_drewN|apply Kd.R_drew));exact HO116.out⟩,⟨zq0⟩⟩
   case round=>
    clear H'
    try clear p2
    try clear c3
    try clear c3b0
    try clear c3b1
    try clear c4
    try clear c4b0
    try clear c4b1
    try clear c6
    try clear p6
    obtain⟨x0_1,x5_1,x6_1,rfl,rfl,HA,HK1,HO_5,HB⟩:=hrel
    cases gk with
    | zero=>exact absurd HA.out (by simp[spec_l1Pack.l0])
    | succ k1=>
     have H:=HA.out
     clear HA
     simp only[spec_l1Pack.l0] at H
     by_cases c7:x6_1 ≥ 0
     ·rw[if_pos c7] at H
      have c7b0:decide (0≤x6_1)=true:=decide_eq_true c7
      clear c7
      by_cases c8:0≤x6_1
      ·rw[if_pos c8] at H
       have c8b0:decide (0≤x6_1)=true:=decide_eq_true c8
       clear c8
       by_cases c9:x6_1 < (x5_1.length:Int)
       ·rw[if_pos c9] at H
        have c9b0:decide (x6_1 < (x5_1.length:Int))=true:=decide_eq_true c9
        clear c9
        obtain⟨y117,hy117⟩:∃ y_:List Int,y_=(x5_1.set (x6_1:Int).toNat ((Int.tmod x0_1 256) % 256)):=⟨_,rfl⟩
        replace H:(spec_l1Pack.l0 k1 (wrap64 (Int.tdiv x0_1 256)) y117 (wrap64 (x6_1 - 1)))=some r:=by first|(rw[hy117];with_reducible exact H)|(have H2_:=(Option.bind_some _ _).symm.trans H;rw[hy117];with_reducible exact H2_)|(have H2_:=(Option.bind_some _ _).symm.trans H;with_reducible exact H2_)|with_reducible exact H|(rw[hy117];exact H)|exact H
        have Ny117:=zM hy117
        clear hy117
        have H':=zM H
        clear H
        have p10:0≤(x6_1:Int):=of_decide_eq_true zq6
        have q10:(x6_1:Int) < ((x5_1.length:Int):Int):=of_decide_eq_true zq6
        obtain⟨go10,co10,eo10,gb10,gl10,cl10,HG10⟩:=Kd.R_form HO_5.out zq8
        (first|cases eo10|(injection eo10 with ea_ en_ ec_;(first|subst ea_|(injection ea_ with ea_;subst ea_));subst ec_;clear en_))
        have GB10:=zM gb10
        have GG10:=zM HG10
        clear gb10 gl10 HG10
        obtain⟨hx10_0,hf10_0⟩:=Kd.R_celln 0 HO_5.out (x6_1:Int) p10 q10
        replace p10:=eq_true p10
        replace q10:=eq_true q10
        have HP11:=Kd.R_putg HO_5.out (x6_1:Int) ((Int.tmod x0_1 256) % 256)
        go_wp2_with (first|((with_reducible refine gate_store (t:=5) (p:=20) rfl ?_);refine store_event (t:=5) (p:=20) (v:=?vo_w12) (w1:=(wr.setCell ⟨go10,(x6_1:Int).toNat,none⟩ (.int .u8 ((Int.tmod x0_1 256) % 256)))) ?hg ?ho ?hn ?hr ?_;(case ho=>rfl);(case hg=>rfl);(case hn=>rfl);(case hr=>first|(go_simp;done)|(go_simp;rfl));intro w12 hw;have hg:wr.grownBy w12 (some go10):=(by rw[hw];exact HP11.2);have hp_:Kd.R (Kd.int .u8) 5 w12 w.heap.size (fun _=>True) (.slice (some ⟨go10,0,none⟩) x5_1.length co10) y117:=(by rw[hw,Ny117.out];exact HP11.1);clear HP11;have n0_:=zM (hp_);have n1_:=zM ((by rw[hw];exact below_set (HB.out) GB10.out:Below w.heap.size w w12));clear HO_5;clear HB;have HO_5:=n0_;have HB:=n1_;clear n0_ n1_;clear hg hw hp_))
        go_roundg k1
        case measure=>have:=HK1.out;omega
        case rel=>exact⟨(wrap64 (Int.tdiv x0_1 256)),(y117),(wrap64 (x6_1 - 1)),zq7,zq7,H',⟨zq79⟩,⟨zq61⟩,⟨zq0⟩⟩
       ·rw[if_neg c9] at H
        exact absurd H zq73
      ·rw[if_neg c8] at H
       exact absurd H zq73
     ·rw[if_neg c7] at H
      have c7b0:decide (0≤x6_1)=false:=decide_eq_false c7
      clear c7
      obtain rfl:=Option.some.inj H
      go_wp2
      go_ret
      exact⟨_,zq3,zq61,zq0⟩
  ·rw[if_neg c4] at H
   exact absurd H zq73
 ·rw[if_neg c3] at H
  exact absurd H zq73
theorem u8wS (x:Int):IntKind.u8.wrap x=x % 256:=by simp[IntKind.wrap,IntKind.bits,IntKind.signed]
theorem R_threeS {W:World} {g base:Nat} {bt:TypeId} {x y z:Int} (hg:W.heap[g]?=some (.cells #[.int .u8 x,.int .u8 y,.int .u8 z] bt (0,0))) (hb:base≤g) :
  Kd.R (Kd.int .u8) bt W base (fun _=>True) (.slice (some ⟨g,0,none⟩) 3 3) [x,y,z]:=by
 have e:encs (Value.int .u8) [x,y,z]=[.int .u8 x,.int .u8 y,.int .u8 z]:=rfl
 refine Kd.R_of_own (h1:=fun _=>rfl) ?_ (fun _ _=>trivial)
 refine⟨by rw[e];rfl,.inr ⟨g,3,#[.int .u8 x,.int .u8 y,.int .u8 z],rfl,hb,hg,Nat.le_refl _,by simp only[maxLen];omega,rfl,?_⟩⟩
 rw[e]
 rfl
set_option maxHeartbeats 4000000 in
set_option maxRecDepth 100000 in
theorem l5HeadOf_any (k g:Nat) (a b c:Int) (tv:Value) (t:List Int) (w:World) (hb:w.heap[g]?=some (.cells #[.int .i64 a,.int .i64 b,.int .i64 c,tv] 37 (0,0))) (h:spec_l1Pack.f k c 8=some t) (ht:t.length < 100) :
  Calls Try.prog 41 #[.pointer (some ⟨g,0,none⟩)] w fun e w'=>∃ v0_:Value,e=.returned v0_∧Kd.R (Kd.int .u8) 5 w' w.heap.size (fun _=>True) v0_ ([1,a % 256,b % 256] ++ t)∧Below w.heap.size w w':=by
 have hc0:w.cell? ⟨g,0,none⟩=some (.int .i64 a):=by rw[blk_cell hb];rfl
 have hc1:w.cell? ⟨g,1,none⟩=some (.int .i64 b):=by rw[blk_cell hb];rfl
 have hc2:w.cell? ⟨g,2,none⟩=some (.int .i64 c):=by rw[blk_cell hb];rfl
 have hP:=zM h
 clear h hb
 have ea:=World.new_ne w _ hc0
 have eb:=World.new_ne w _ hc1
 have ec:=World.new_ne w _ hc2
 go_enter Try.func41,Try.ntmps41
 go_wp2_with fail
 go_region_held3 (fun w'=>w'.cell? ⟨g,0,none⟩=some (.int .i64 a)∧w'.cell? ⟨g,1,none⟩=some (.int .i64 b)∧w'.cell? ⟨g,2,none⟩=some (.int .i64 c)) (first|exact⟨(hbl.cell (World.block_lt_of_cell? _ _ (show World.cell? _ ⟨g,0,none⟩=some (Value.int .i64 a) by first|assumption|simp[*]))).trans (by first|assumption|simp[*]),(hbl.cell (World.block_lt_of_cell? _ _ (show World.cell? _ ⟨g,1,none⟩=some (Value.int .i64 b) by first|assumption|simp[*]))).trans (by first|assumption|simp[*]),(hbl.cell (World.block_lt_of_cell? _ _ (show World.cell? _ ⟨g,2,none⟩=some (Value.int .i64 c) by first|assumption|simp[*]))).trans (by first|assumption|simp[*])⟩|exact⟨(hbF.cell (World.block_lt_of_cell? _ _ hc0)).trans hc0,(hbF.cell (World.block_lt_of_cell? _ _ hc1)).trans hc1,(hbF.cell (World.block_lt_of_cell? _ _ hc2)).trans hc2⟩|go_keep)
  (first|(go_at_call 60;refine(spec_l1Pack.calls k c 8 t _ hP.out).mono ?_;rintro e wk ⟨v1,rfl,ho,hbl⟩;obtain⟨Ao,co,eo⟩:=Kd.R_slice ho;subst eo)|(refine Kd.R_append_rows_step (Kd.int .u8) (w0:=w) w.heap.size (by simp[Region.wanted]) (.tmp 13) (.tmp 18) 25 5 (.int .u8 0) 1 rfl Try.underlying25 info5 rfl zq36 zq8 _ [1,a % 256,b % 256] t _ _ _ (fun _=>True) (fun _=>False) rfl rfl ?aO ?aR (fun _ _ h=>h) (fun _ h=>h.elim) ?aF ?aB ?aS ?aL ?_;(case aR=>first|exact(Kd.R_reads' ho).2.2|exact(Kd.R_reads' (Kd.R_alloc ho _)).2.2);(case aB=>first|exact below_step zq119 hbl|(apply below_alloc;exact below_step zq119 hbl));(case aF=>exact(fun _ _=>trivial));(case aO=>(rw[← u8wS a,← u8wS b];first|exact R_threeS ((hbl.block w.heap.size (by show w.heap.size < (w.alloc _).heap.size;simp)).trans (blk_drew (by simpa using heap_alloc_new w _))) (Nat.le_refl _)|exact R_threeS (by simpa using heap_alloc_new wk _) hbl.size));(case aS=>exact(below_size (by first|exact below_step zq119 hbl|(apply below_alloc;exact below_step zq119 hbl))));(case aL=>simp;omega);intro v2 w5 hoF hbF hgF hatF))
 all_goals go_wp2
 all_goals go_ret
 all_goals exact⟨_,rfl,hoF,hbF⟩
def spec_l5HeadOf.f (k:Nat) (a b c:Int):Option (List Int):=(spec_l1Pack.f k c 8).bind fun t=>if t.length < 100 then some ([1,a % 256,b % 256] ++ t) else none
theorem spec_l5HeadOf.mono:∀ a b c k,LeO (spec_l5HeadOf.f k a b c) (spec_l5HeadOf.f (k+1) a b c):=by
 intro a b c k
 unfold spec_l5HeadOf.f
 exact LeO.bind (spec_l1Pack.mono _ _ _) (fun _=>LeO.refl _)
theorem spec_l5HeadOf.calls (k g:Nat) (a b c:Int) (tv:Value) (r:List Int) (w:World) (hb:w.heap[g]?=some (.cells #[.int .i64 a,.int .i64 b,.int .i64 c,tv] 37 (0,0))) (h:spec_l5HeadOf.f k a b c=some r) :
  Calls Try.prog 41 #[.pointer (some ⟨g,0,none⟩)] w fun e w'=>∃ v0_:Value,e=.returned v0_∧Kd.R (Kd.int .u8) 5 w' w.heap.size (fun _=>True) v0_ r∧Below w.heap.size w w':=by
 unfold spec_l5HeadOf.f at h
 obtain⟨t,h1,h⟩:=Option.bind_eq_some_iff.mp h
 by_cases ht:t.length < 100
 ·rw[if_pos ht] at h
  obtain rfl:=Option.some.inj h
  exact l5HeadOf_any k g a b c tv t w hb h1 ht
 ·rw[if_neg ht] at h
  cases h
end Go.Proofs.Ytdbanjdnjhflcaa.All
