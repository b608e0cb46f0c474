-- Laid by wip/shake.py of this repo out of this claim's texts. Not trusted: Lean checks it.
import Derived.Test.YtmnhddedcbkpoaaAb0s
import Derived.Laws.BitsAllLaws
import Derived.Test.YtmnhddedcbkpoaaWs0
import Derived.Test.YtmnhddedcbkpoaaProg
import Derived.Below
import Derived.Deep.Draws
import Derived.Deep.AppendLies
import Derived.OwnWalk
import Derived.Laws.MakeOwn
import Derived.Laws.OwnMore
import Derived.Deep.OwnRows
import Derived.Tactics
import Derived.Laws.Slices
import Derived.WalkKit
import Derived.KernelRfl
import Derived.RowKit3
import Derived.WideLaws
import Derived.Laws.Rows
import Derived.Laws.CopyRow
import Derived.Laws.BitsLemmas
import Derived.StillTailTactics
import Derived.Deep.QuietTactic
import Derived.BigQuiet
import Derived.Deep.RegionHeld3
import Derived.Deep.RegionWith
import Derived.RowKit
import Derived.Maps.AppendAt
import Derived.Laws.BytesArg
import Derived.Lib.ConvBytes
import Derived.Deep.LoopGhost
import Derived.Deep.DeepCutAuto
import Derived.Deep.CutBlock
import Derived.Lib.AppendStr
import Derived.ArgAppend
import Derived.Laws.IdiomCopy
import Derived.OrdersHeld
import Derived.Laws.StructEq
section
namespace Go.Proofs.Ytmnhddedcbkpoaa
open Go.Proofs.YtmnhddedcbkpoaaW.PrintWords
def bI (b:BitVec 8):Int:=(b.toNat:Int)
def bL (l:List (BitVec 8)):List Int:=l.map bI
theorem bI_lo (b:BitVec 8):0≤bI b:=by unfold bI;omega
theorem bI_hi (b:BitVec 8):bI b < 256:=by have:=b.isLt;unfold bI;omega
theorem bI_ofNat (n:Nat) (h:n < 256):bI (BitVec.ofNat 8 n)=(n:Int):=by
 unfold bI
 rw[BitVec.toNat_ofNat,Nat.mod_eq_of_lt zq21]
theorem bI_of (x:Int) (h:(Lit.int .u8 x).wf=true):∃ b,x=bI b:=by
 have hx:0≤x∧x < 256:=by
  simp[Lit.wf,IntKind.min,IntKind.max,IntKind.bits,IntKind.signed] at h
  exact⟨zq21,zq21⟩
 refine⟨BitVec.ofNat 8 x.toNat,?_⟩
 rw[bI_ofNat _ zq21]
 omega
theorem bL_of:∀ l:List Int,(∀ x ∈ l,(Lit.int .u8 x).wf=true)→∃ m,l=bL m
 | [],_=>⟨[],rfl⟩
 | x :: l,h=>by
  obtain⟨b,rfl⟩:=bI_of x (h x zq58)
  obtain⟨m,rfl⟩:=bL_of l (fun y hy=>h y (by simp[hy]))
  exact⟨b :: m,rfl⟩
theorem bL_length (m:List (BitVec 8)):(bL m).length=m.length:=by simp[bL]
theorem bL_append (m n:List (BitVec 8)):bL (m ++ n)=bL m ++ bL n:=by simp[bL]
theorem bL_wf (m:List (BitVec 8)):∀ x ∈ bL m,0≤x∧x < 256:=by
 intro x hx
 obtain⟨b,_,rfl⟩:=List.mem_map.1 hx
 exact⟨bI_lo b,bI_hi b⟩
end Go.Proofs.Ytmnhddedcbkpoaa
end
section
set_option linter.unusedVariables false
namespace Go.Proofs.Ytmnhddedcbkpoaa
open Go.RowKit Go.Proofs.YtmnhddedcbkpoaaW.PrintWords
section
variable {P:Program} {ops:Array Oper} {rest:List Oper} {o:Oper} {a:Act} {Q:Exit→Act→World→Prop} {W:World}
theorem grown_set (W:World) (g i:Nat) (v:Value):W.grownBy (W.setCell ⟨g,i,none⟩ v) (some g):=
 ⟨rfl,rfl,rfl,by simp[World.setCell],fun k hk hne=>Below.heap_setCell W ⟨g,i,none⟩ v k (fun e=>hne (by rw[e]))⟩
theorem grown_setRow (W:World) (g:Nat) (cs:Array Value):W.grownBy (W.setRow g cs) (some g):=
 ⟨rfl,rfl,rfl,by simp,fun k hk hne=>setRow_other W g k cs (fun e=>hne (by rw[e]))⟩
theorem cell_event (hgd:o.guard=none) {t:TypeId} {p:Tmp} {v:Operand} (_ho:o.op=.store t (.tmp p) v) (hN:o.dst=none) {g:Nat} {cs:Array Value} {e:TypeId} {i:Nat} {x:Value}
  (hg:W.heap[g]?=some (.cells cs e (0,0))) (hrun:(execOp a.eval o).run P W=.ok .skip (W.setCell ⟨g,i,none⟩ x)) {cs':Array Value} (hcs:cs.setIfInBounds i x=cs')
  (h:∀ w1,w1.heap[g]?=some (.cells cs' e (0,0))→W.grownBy w1 (some g)→wpList P ops Q rest a w1):wpList P ops Q (o :: rest) a W:=
 store_event hgd _ho hN hrun fun w' hw=>by
  subst hw
  exact h _ (blk_put hg i x hcs) (grown_set W g i x)
theorem row_event (hgd:o.guard=none) {ty:TypeId} {p:Tmp} {y:Operand} (ho:o.op=.store ty (.tmp p) y) (hN:o.dst=none) {g:Nat} {old cells:Array Value} {e:TypeId}
  (hx:a.eval (.tmp p)=.pointer (some ⟨g,0,none⟩)) (hy:a.eval y=.agg cells) (hg:W.heap[g]?=some (.cells old e (0,0))) (hi:(P.info? ty).map (·.size)=some cells.size)
  (hold:old.size=cells.size) (h1:cells.all (·.oneCell')=true)
  (h:∀ w1,w1.heap[g]?=some (.cells cells e (0,0))→W.grownBy w1 (some g)→wpList P ops Q rest a w1):wpList P ops Q (o :: rest) a W:=by
 refine wpList_store_row hgd ty (.tmp p) y ho g cells hx hy e old hg hi hold h1 ?_
 rw[hN]
 exact h _ (setRow_heap W g old cells e (0,0) hg) (grown_setRow W g cells)
theorem below_grown1 {w:World} {g:Nat} {w1:World} (h:Below w.heap.size w W) (hg:W.grownBy w1 (some g)) (hge:w.heap.size≤g):Below w.heap.size w w1:=
 h.grown hg h.size (fun k hk=>by injection hk with hk;omega)
theorem blk_grown1 {g g':Nat} {ob:Obj} {w1:World} (h:W.heap[g']?=some ob) (hg:W.grownBy w1 (some g)) (hne:g'≠g):w1.heap[g']?=some ob:=
 blk_grown h hg (fun e=>hne (by injection e))
theorem R_grown_types {k:IntKind} {e bt g base:Nat} {cells:Array Value} {v:Value} {xs:List Int} {w1:World} (h:Kd.R (Kd.int k) e W base (fun _=>True) v xs) (hb:W.heap[g]?=some (.cells cells bt (0,0))) (ht:e≠bt)
  (hg:W.grownBy w1 (some g)):Kd.R (Kd.int k) e w1 base (fun _=>True) v xs:=
 Kd.R_mono (Kd.R_grown (Kd.R_types h hb (fun q hq=>by
  rcases List.mem_cons.1 hq with rfl|hq
  ·exact ht
  ·cases hq)) hg (fun j hj e1=>hj.2 (by injection e1))) (fun _ _=>trivial)
end
end Go.Proofs.Ytmnhddedcbkpoaa
end
section
namespace Go.Proofs.Ytmnhddedcbkpoaa.All
open Go.RowKit Go.Proofs.YtmnhddedcbkpoaaW.PrintWords Go.Proofs.YtmnhddedcbkpoaaW.PrintLast Go.Proofs.YtmnhddedcbkpoaaW.PrintMore
attribute [local go_sem] max2_int min2_int max_two min_two max_three min_three max_four min_four
set_option linter.unusedVariables false
set_option linter.unusedSimpArgs false
def errW:Option Int→Value
 | none=>.nilIface
 | some c=>.iface 0 (.int .i64 c)
theorem errW_none:errW none=.nilIface:=rfl
theorem errW_some (c:Int):errW (some c)=.iface 0 (.int .i64 c):=rfl
theorem info5:(Try.prog.info? 5).map (fun i=>(i.zero,i.size,i.bytes))=some (some (.int .u8 0),1,1):=by kernel_rfl
theorem info25:(Try.prog.info? 25).map (fun i=>(i.zero,i.size,i.bytes))=some (some (.agg #[(.int .i64 0),(.slice none 0 0)]),2,32):=by kernel_rfl
structure S25 where
 f0:Int
 f1:(List Int)
def z25:S25:=⟨(0:Int),([]:List Int)⟩
def k25:Kd S25:=Kd.iso (Kd.pair (Kd.int .i64) (Kd.slice 5 (Kd.int .u8))) (fun x:S25=>(x.f0,x.f1))
theorem k25_open {w:World} {x:S25} {cs:List Value} (h:k25.K w x cs):∃ A1 c1,cs=[.int .i64 x.f0,.slice A1 x.f1.length c1]∧x.f1.length≤c1∧(Kd.int .u8).C w A1 x.f1.length x.f1:=by
 obtain⟨_,_,rfl,rfl,⟨A1,c1,rfl,l1,g1⟩⟩:=h
 exact⟨A1,c1,rfl,l1,g1⟩
theorem k25_openM {w:World} {base:Nat} {ok:Nat→Prop} {x:S25} {cs:List Value} (h:k25.M w base ok x cs):∃ v1,cs=[.int .i64 x.f0,v1]∧(Kd.int .u8).R 5 w base ok v1 x.f1:=by
 obtain⟨_,_,rfl,rfl,⟨v1,rfl,g1⟩⟩:=h
 exact⟨v1,rfl,g1⟩
theorem k25_mkM (w:World) (base:Nat) (ok:Nat→Prop) (x:S25) {v1:Value} (g1:(Kd.int .u8).R 5 w base ok v1 x.f1):k25.M w base ok x [.int .i64 x.f0,v1]:=⟨[.int .i64 x.f0],[v1],rfl,rfl,⟨v1,rfl,g1⟩⟩
def rd_T25 (xs:List S25) (i:Int):S25:=xs.getD i.toNat z25
theorem at_T25 {w:World} {A:Option Addr} {n:Nat} {xs:List S25} (h:Kd.C k25 w A n xs) (i:Int) (h0:0≤i) (h1:i < n):∃ ad A1 c1,A=some ad∧w.cell? (ad.add (i.toNat*2))=some (.int .i64 (rd_T25 xs i).f0)∧w.cell? ⟨(ad.add (i.toNat*2)).block,(ad.add (i.toNat*2)).off+1,none⟩=some (.slice A1 (rd_T25 xs i).f1.length c1)∧(rd_T25 xs i).f1.length≤c1∧(Kd.int .u8).C w A1 (rd_T25 xs i).f1.length (rd_T25 xs i).f1:=by
 obtain⟨ad,c,e,_,hK,hc0⟩:=Kd.C_get h z25 i h0 h1
 have hc:∀ j u,c[j]?=some u→w.cell? (ad.add (i.toNat*2+j))=some u:=hc0
 obtain⟨A1,c1,rfl,l1,g1⟩:=k25_open hK
 exact⟨ad,A1,c1,e,hc 0 _ rfl,by rw[← add_field _ _ 1 zq21];exact hc 1 _ rfl,l1,g1⟩
structure S43 where
 f0:Int
 f1:(List Int)
end Go.Proofs.Ytmnhddedcbkpoaa.All
end
section
namespace Go.Proofs.Ytmnhddedcbkpoaa.All
open Go.RowKit Go.Proofs.YtmnhddedcbkpoaaW.PrintWords Go.Proofs.YtmnhddedcbkpoaaW.PrintLast Go.Proofs.YtmnhddedcbkpoaaW.PrintMore
attribute [local go_sem] max2_int min2_int max_two min_two max_three min_three max_four min_four
set_option linter.unusedVariables false
set_option linter.unusedSimpArgs false
def laws_lwBig.f (l0:List Int):Option (Bool):=some (decide ((l0.length:Int) > 1048576))
set_option maxHeartbeats 8000000 in
set_option maxRecDepth 100000 in
theorem laws_lwBig.calls (A0:Option Addr) (c0:Nat) (l0:List Int) (r:Bool) (w:World) (hr0:Kd.C (Kd.int .u8) w A0 l0.length l0) (hc0:l0.length≤c0) (h:laws_lwBig.f l0=some r) :
  Calls Try.prog 15 #[.slice A0 l0.length c0] w fun e w'=>e=.returned (.bool r)∧Drawn0 w w':=by
 have HR0:=Aside0.mk hr0
 have HC0:=Aside0.mk hc0
 clear hr0 hc0
 have H:(some (decide ((l0.length:Int) > 1048576)))=some r:=h
 clear h
 obtain rfl:=Option.some.inj H
 go_enter Try.func15,Try.ntmps15
 go_wp2
 go_ret
 exact⟨zq53,zq72⟩
end Go.Proofs.Ytmnhddedcbkpoaa.All
end
