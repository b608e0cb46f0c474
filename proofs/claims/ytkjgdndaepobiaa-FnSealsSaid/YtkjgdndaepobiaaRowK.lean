-- Laid by wip/shake.py of this repo out of this claim's texts. Not trusted: Lean checks it.
import Derived.Test.YtkjgdndaepobiaaAb0s
import Derived.Test.YtkjgdndaepobiaaHands
set_option linter.unusedVariables false
namespace Go.Proofs.Ytkjgdndaepobiaa
open Go.RowKit Go.Proofs.YtkjgdndaepobiaaW.PrintWords
section
variable {P:Program} {ops:Array Oper} {Q:Exit→Act→World→Prop} {W:World}
theorem rowput_event {o:Oper} {rest:List Oper} {a:Act} (hgd:o.guard=none) {t:TypeId} {p:Tmp} {v:Operand} (_ho:o.op=.store t (.tmp p) v) (hN:o.dst=none) {go cap n e base:Nat} {xs:List (BitVec 8)}
  (hR:Kd.R (Kd.int .u8) e W base (fun _=>True) (.slice (some ⟨go,0,none⟩) n cap) (bL xs)) {i:Nat} {x:Int} {b:BitVec 8} (hx:x=bI b) (hrun:(execOp a.eval o).run P W=.ok .skip (W.setCell ⟨go,i,none⟩ (.int .u8 x)))
  (h:∀ w1,Kd.R (Kd.int .u8) e w1 base (fun _=>True) (.slice (some ⟨go,0,none⟩) n cap) (bL (xs.set i b))→W.grownBy w1 (some go)→wpList P ops Q rest a w1):wpList P ops Q (o :: rest) a W:=
 store_event hgd _ho hN hrun fun w' hw=>by
  subst hw hx
  have hp:=Kd.R_putg hR (i:Int) (bI b)
  rw[Int.toNat_natCast,bL_set] at hp
  exact h _ hp.1 hp.2
theorem row_cell {e base n cap go:Nat} {xs:List (BitVec 8)} (h:Kd.R (Kd.int .u8) e W base (fun _=>True) (.slice (some ⟨go,0,none⟩) n cap) (bL xs)) (i:Nat) (hi:i < n) :
  W.cell? ⟨go,i,none⟩=some (.int .u8 (bI (by_ xs i)))∧W.frozen? ⟨go,i,none⟩=false:=by
 have h1:=Kd.R_celln (0:Int) h (i:Int) zq9 zq9
 rw[Int.toNat_natCast] at h1
 refine⟨h1.1.trans ?_,h1.2⟩
 have:rdOf (0:Int) (bL xs) (i:Int)=bI (by_ xs i):=by
  have:=rd_bL xs (i:Int)
  rw[Int.toNat_natCast] at this
  exact this
 rw[this]
theorem row_other {e base n cap go g bt:Nat} {xs:List Int} {cells:Array Value} {w1:World} (hR:Kd.R (Kd.int .u8) e W base (fun _=>True) (.slice (some ⟨go,0,none⟩) n cap) xs) (hb:W.heap[g]?=some (.cells cells bt (0,0))) (ht:e≠bt)
  (hgr:W.grownBy w1 (some go)):w1.heap[g]?=some (.cells cells bt (0,0)):=
 blk_grown1 hb hgr (fun e_=>Kd.R_ne hR hb ht (by rw[e_];rfl))
theorem row_out {e base:Nat} {v:Value} {xs:List (BitVec 8)} (h:Kd.R (Kd.int .u8) e W base (fun _=>True) v (bL xs)):∃ A c,v=.slice A xs.length c:=by
 obtain⟨A,c,e⟩:=Kd.R_slice h
 rw[bL_length] at e
 exact⟨A,c,e⟩
theorem row_open {e base n c:Nat} {A:Option Addr} {xs:List (BitVec 8)} (h:Kd.R (Kd.int .u8) e W base (fun _=>True) (.slice A n c) (bL xs)) (h0:0 < xs.length):∃ go,A=some ⟨go,0,none⟩∧base≤go:=by
 obtain⟨go,co,eo,gb,_⟩:=Kd.R_form h (by rw[bL_length];exact h0)
 injection eo with e1
 exact⟨go,e1,gb⟩
end
end Go.Proofs.Ytkjgdndaepobiaa
