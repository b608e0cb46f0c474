-- Laid by wip/shake.py of this repo out of this claim's texts. Not trusted: Lean checks it.
import Derived.Test.YtkjgdndaepobiaaAb0s
import Derived.Test.YtkjgdndaepobiaaAllx0s
import Derived.Test.YtkjgdndaepobiaaAllx196s
import Derived.Test.YtkjgdndaepobiaaAllx197s
import Derived.Test.YtkjgdndaepobiaaAllx20s
import Derived.Lib.Bytes
import Derived.Test.YtkjgdndaepobiaaAllx10s
section
namespace Go.Proofs.Ytkjgdndaepobiaa.All
open Go.RowKit Go.Proofs.YtkjgdndaepobiaaW.PrintWords Go.Proofs.YtkjgdndaepobiaaW.PrintLast Go.Proofs.YtkjgdndaepobiaaW.PrintMore
attribute [local go_sem] max2_int min2_int max_two min_two max_three min_three max_four min_four
set_option linter.unusedVariables false
set_option linter.unusedSimpArgs false
attribute [local go_sem] fldSeals42_0 fldSeals42_1
def laws_FnSeals.Pure:Prop:=∀ (l0:List Int),l0.length≤maxLen→l0.length*1≤140737488351232→(∀ x ∈ l0,(Lit.int .u8 x).wf=true)→∃ k,laws_FnSeals.f k l0=some true
theorem laws_FnSeals.walk (P:laws_FnSeals.Pure) (a0:Option Addr) (len0 cap0:Nat) (z0:List Int) (w:World) (w0:(a0=none∧len0=0∧cap0=0∧z0=[]) ∨ ∃ x,a0=some x∧len0≤cap0∧cap0≤maxLen∧z0.length=cap0∧(∀ i,i < z0.length→w.cell? (x.add i)=some (.int .u8 (z0.getD i 0)))∧∀ n ∈ z0,(Lit.int .u8 n).wf=true) (y0:len0*1≤140737488351232) :
  Calls Try.prog 5 #[.slice a0 len0 cap0] w fun e w'=>e=.returned (.bool true)∧Below w.heap.size w w':=by
 obtain⟨l0,rfl,hr0,hm0,hw0,hc0⟩:=ReadsInt.ofRowC w0
 obtain⟨k,h⟩:=P l0 hm0 y0 hw0
 refine(laws_FnSeals.calls k _ _ l0 true w (Kd.C_of_reads (d:=(0:Int)) (h1:=fun _=>rfl) hr0) hc0 h rfl).mono ?_
 rintro e w' ⟨rfl,hd⟩
 exact⟨rfl,hd⟩
end Go.Proofs.Ytkjgdndaepobiaa.All
end
section
set_option linter.unusedVariables false
set_option linter.unusedSimpArgs false
namespace Go.Proofs.Ytkjgdndaepobiaa.All
open Go.RowKit Go.Proofs.Ytkjgdndaepobiaa.All Go.Proofs.YtkjgdndaepobiaaW.PrintWords Go.Proofs.YtkjgdndaepobiaaW.PrintLast Go.Proofs.YtkjgdndaepobiaaW.PrintMore
theorem wr0 (x:Int) (h0:0≤x) (h1:x < 9223372036854775808):wrap64 x=x:=by unfold wrap64;omega
theorem rd_byte (l:List Int) (hb:∀ x ∈ l,0≤x∧x < 256) (i:Int):0≤rd l i∧rd l i < 256:=by
 unfold rd
 rw[List.getD_eq_getElem?_getD]
 rcases Nat.lt_or_ge i.toNat l.length with h|h
 ·rw[List.getElem?_eq_getElem h]
  exact hb _ (List.getElem_mem h)
 ·rw[List.getElem?_eq_none h]
  simp
theorem tm (x m:Int) (hx:0≤x) (hm:0 < m):0≤Int.tmod x m∧Int.tmod x m < m:=⟨Int.tmod_nonneg m hx,Int.tmod_lt_of_pos x hm⟩
end Go.Proofs.Ytkjgdndaepobiaa.All
end
section
set_option linter.unusedVariables false
set_option linter.unusedSimpArgs false
namespace Go.Proofs.Ytkjgdndaepobiaa.All
open Go.RowKit Go.Proofs.Ytkjgdndaepobiaa.All Go.Proofs.YtkjgdndaepobiaaW.PrintWords Go.Proofs.YtkjgdndaepobiaaW.PrintLast Go.Proofs.YtkjgdndaepobiaaW.PrintMore
theorem mod_bI2 (v:Int):∃ b:BitVec 8,v % 256=bI b:=⟨BitVec.ofNat 8 (v % 256).toNat,by rw[bI_ofNat _ zq21];omega⟩
end Go.Proofs.Ytkjgdndaepobiaa.All
end
section
set_option linter.unusedVariables false
set_option linter.unusedSimpArgs false
namespace Go.Proofs.Ytkjgdndaepobiaa.All
open Go.RowKit Go.Proofs.Ytkjgdndaepobiaa.All Go.Proofs.YtkjgdndaepobiaaW.PrintWords Go.Proofs.YtkjgdndaepobiaaW.PrintLast Go.Proofs.YtkjgdndaepobiaaW.PrintMore
theorem lwAt_at (l:List Int) (hb:∀ x ∈ l,0≤x∧x < 256) (hl:l.length≤1099511627776) (i n:Int) (h0:0≤i) (h1:i≤1000) (hn:1≤n):∃ v,laws_lwAt.f l i n=some v∧0≤v∧v < n:=by
 unfold laws_lwAt.f
 by_cases h:n≤1
 ·rw[if_pos h]
  exact⟨0,rfl,zq21,zq21⟩
 rw[if_neg h]
 have e7:wrap64 (i*7)=i*7:=wr0 _ zq21 zq21
 have e1:wrap64 (i+1)=i+1:=wr0 _ zq21 zq21
 rw[e7,e1]
 by_cases hz:(l.length:Int)=0
 ·rw[if_pos hz,if_neg zq21]
  exact⟨_,rfl,tm _ _ zq21 zq21⟩
 rw[if_neg hz]
 have t0:=tm i (l.length:Int) h0 zq21
 have t1:=tm (i+1) (l.length:Int) zq21 zq21
 have b0:=rd_byte l hb (Int.tmod i (l.length:Int))
 have b1:=rd_byte l hb (Int.tmod (i+1) (l.length:Int))
 have q0:0≤Int.tdiv i (l.length:Int)∧Int.tdiv i (l.length:Int)≤1000:=by
  refine⟨Int.tdiv_nonneg h0 zq21,?_⟩
  rw[Int.tdiv_eq_ediv_of_nonneg h0]
  have:=Int.ediv_le_self (l.length:Int) h0
  omega
 rw[if_pos t0.1,if_pos t0.2]
 generalize rd l (Int.tmod i (l.length:Int))=a at *
 generalize rd l (Int.tmod (i+1) (l.length:Int))=b at *
 generalize Int.tdiv i (l.length:Int)=q at *
 have w1:wrap64 a=a:=wr0 _ zq21 zq21
 have w2:wrap64 b=b:=wr0 _ zq21 zq21
 have w4:wrap64 q=q:=wr0 _ zq21 zq21
 have w5:wrap64 (q*3)=q*3:=wr0 _ zq21 zq21
 have w6:wrap64 (a+q*3)=a+q*3:=wr0 _ zq21 zq21
 have w7:wrap64 ((a+q*3)*251)=(a+q*3)*251:=wr0 _ zq21 zq21
 have w8:wrap64 ((a+q*3)*251+b)=(a+q*3)*251+b:=wr0 _ zq21 zq21
 simp only[w1,w2,w4,w5,w6,w7,w8]
 by_cases h2:n > 200
 ·rw[if_pos h2,if_pos t1.1,if_pos t1.2,if_neg zq21]
  exact⟨_,rfl,tm _ _ zq21 zq21⟩
 ·rw[if_neg h2,if_neg zq21]
  exact⟨_,rfl,tm _ _ zq21 zq21⟩
end Go.Proofs.Ytkjgdndaepobiaa.All
end
section
set_option linter.unusedVariables false
set_option linter.unusedSimpArgs false
namespace Go.Proofs.Ytkjgdndaepobiaa.All
open Go.RowKit Go.Proofs.Ytkjgdndaepobiaa.All Go.Proofs.YtkjgdndaepobiaaW.PrintWords Go.Proofs.YtkjgdndaepobiaaW.PrintLast Go.Proofs.YtkjgdndaepobiaaW.PrintMore
theorem sameB (x y:List (BitVec 8)):laws_lwSame.f (bL x) (bL y)=some (decide (x=y)):=by
 unfold laws_lwSame.f
 congr 1
 rw[Bool.eq_iff_iff,beq_iff_eq,decide_eq_true_iff]
 exact strB x y
end Go.Proofs.Ytkjgdndaepobiaa.All
end
