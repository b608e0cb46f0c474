-- Laid by wip/shake.py of this repo out of this claim's texts. Not trusted: Lean checks it.
import Derived.Test.YtdbanjdnjhflcaaAb0s
import Derived.Test.YtdbanjdnjhflcaaAlgs
set_option linter.unusedSimpArgs false
set_option linter.unusedVariables false
namespace Go.Proofs.Ytdbanjdnjhflcaa.All
open Go.Proofs.YtdbanjdnjhflcaaW.PrintWords.Aside0 renaming mk→zM
open Go.RowKit Go.Proofs.YtdbanjdnjhflcaaW.PrintWords Go.Proofs.YtdbanjdnjhflcaaW.PrintLast Go.Proofs.YtdbanjdnjhflcaaW.PrintMore
attribute [local go_sem] max2_int min2_int max_two min_two max_three min_three max_four min_four
def P176 (L:List (BitVec 8)):List (BitVec 8):=tab 176 (by_ L)
theorem P176_length (L:List (BitVec 8)):(P176 L).length=176:=tab_length _ _
theorem P176_get (L:List (BitVec 8)) (i:Nat) (h:i < 176):by_ (P176 L) i=by_ L i:=tab_get _ _ _ h
theorem P176_cp (m:List (BitVec 8)):cpL (tab 176 fun _=>0#8) m=P176 m:=by
 unfold cpL P176
 rw[tab_length]
 refine tab_congr fun i hi=>?_
 by_cases h:i < m.length
 ·rw[if_pos h]
 ·rw[if_neg h,by_out m i zq8,tab_get _ _ _ hi]
theorem by_app (xs ys:List (BitVec 8)) (j:Nat) (h:j < xs.length):by_ (xs ++ ys) j=by_ xs j:=by
 unfold by_
 rw[List.getD_eq_getElem?_getD,List.getD_eq_getElem?_getD,List.getElem?_append_left h]
theorem by_snoc (xs:List (BitVec 8)) (b:BitVec 8) (j:Nat):by_ (xs ++ [b]) j=if j=xs.length then b else by_ xs j:=by
 by_cases h:j < xs.length
 ·rw[by_app _ _ _ h,if_neg zq8]
 ·by_cases e:j=xs.length
  ·subst e
   rw[if_pos rfl]
   unfold by_
   rw[List.getD_eq_getElem?_getD,List.getElem?_append_right (Nat.le_refl _)]
   simp
  ·rw[if_neg e,by_out _ _ zq164,by_out _ _ zq8]
def newW (L:List (BitVec 8)) (i k:Nat):List (BitVec 8):=(List.range k).map fun j=>by_ L (i+j - 16) ^^^ keyT L i j
theorem newW_length (L:List (BitVec 8)) (i k:Nat):(newW L i k).length=k:=by simp[newW]
theorem newW_succ (L:List (BitVec 8)) (i k:Nat):newW L i (k+1)=newW L i k ++ [by_ L (i+k - 16) ^^^ keyT L i k]:=by simp[newW,List.range_succ]
theorem P176_set (L:List (BitVec 8)) (i k:Nat) (hL:L.length=i) (hk:k < 4) (hi:i+4≤176):(P176 (L ++ newW L i k)).set (i+k) (by_ L (i+k - 16) ^^^ keyT L i k)=P176 (L ++ newW L i (k+1)):=by
 unfold P176
 rw[tab_set _ _ _ _ zq8,newW_succ,← List.append_assoc]
 refine tab_congr fun j hj=>?_
 rw[by_snoc,List.length_append,newW_length,hL]
theorem keyT_at (L:List (BitVec 8)) (i k:Nat) (h:k < 4):by_ [keyT L i 0,keyT L i 1,keyT L i 2,keyT L i 3] k=keyT L i k:=by
 have:k=0 ∨ k=1 ∨ k=2 ∨ k=3:=by omega
 rcases this with rfl|rfl|rfl|rfl <;> rfl
theorem P176_sched (m:List (BitVec 8)) (hm:m.length=16):P176 (keyTo m 40)=schedL m:=by
 have h:=tab_self (keyTo m 40)
 rw[keyTo_length m hm 40] at h
 exact h
theorem keyTo_succ (key:List (BitVec 8)) (n:Nat):keyTo key (n+1)=keyTo key n ++ newW (keyTo key n) (16+4*n) 4:=rfl
theorem keyT_plain (L:List (BitVec 8)) (i:Nat) (h:¬ i % 16=0) (h4:4≤i):[keyT L i 0,keyT L i 1,keyT L i 2,keyT L i 3]=[by_ L (i - 4),by_ L (i - 3),by_ L (i - 2),by_ L (i - 1)]:=by
 unfold keyT
 rw[if_neg h,if_neg h,if_neg h,if_neg h,show i - 4+1=i - 3 by omega,show i - 4+2=i - 2 by omega,show i - 4+3=i - 1 by omega]
 rfl
theorem keyT_turn (L:List (BitVec 8)) (i:Nat) (h:i % 16=0) (h4:4≤i):[keyT L i 0,keyT L i 1,keyT L i 2,keyT L i 3]=[SB (by_ L (i - 3)) ^^^ rcon (i / 16 - 1),SB (by_ L (i - 2)),SB (by_ L (i - 1)),SB (by_ L (i - 4))]:=by
 unfold keyT
 rw[if_pos h,if_pos h,if_pos h,if_pos h,show i - 4+(0+1) % 4=i - 3 by omega,show i - 4+(1+1) % 4=i - 2 by omega,show i - 4+(2+1) % 4=i - 1 by omega,show i - 4+(3+1) % 4=i - 4 by omega]
 simp
theorem turn_cells (L:List (BitVec 8)) (i:Nat) (h:i % 16=0) (h4:16≤i):(#[.int .u8 (Go.bits .xor .u8 (bI (SB (by_ L (i - 3)))) (bI (rcon ((i - 1) / 16)))),.int .u8 (bI (SB (by_ L (i - 2)))),.int .u8 (bI (SB (by_ L (i - 1)))),.int .u8 (bI (SB (by_ L (i - 4))))]:Array Value)=cB [keyT L i 0,keyT L i 1,keyT L i 2,keyT L i 3]:=by
 rw[keyT_turn L i h zq8,bI_xor,show (i - 1) / 16=i / 16 - 1 by omega]
 rfl
set_option maxHeartbeats 4000000 in
set_option maxRecDepth 100000 in
theorem twice_key (a:BitVec 8) (w:World):Calls Try.prog 80 #[.int .u8 (bI a)] w fun e w'=>e=.returned (.int .u8 (bI (xt a)))∧w'=w:=by
 have hx:=bI_xt a
 have h0:=bI_lo a
 have h1:=bI_hi a
 by_cases h:bI a ≥ 128
 ·rw[if_pos h,Option.some.injEq] at hx
  have X:=zM hx
  clear hx
  go_enter Try.func80,Try.ntmps80
  go_wp2
  go_ret
  exact⟨by rw[X.out];rfl,rfl⟩
 ·rw[if_neg h,Option.some.injEq] at hx
  have X:=zM hx
  clear hx
  go_enter Try.func80,Try.ntmps80
  go_wp2
  go_ret
  exact⟨congrArg (fun z=>Ending.returned (.int .u8 z)) (show bI a*2=bI (xt a) by have:=X.out;omega),rfl⟩
set_option maxHeartbeats 4000000 in
set_option maxRecDepth 100000 in
theorem impl_schedule.calls (A:Option Addr) (c:Nat) (m:List (BitVec 8)) (hm0:m.length=16) (w:World) (hr0:Kd.C (Kd.int .u8) w A m.length (bL m)) :
  Calls Try.prog 69 #[.slice A m.length c] w fun e w'=>e=.returned (.agg (cB (schedL m)))∧Below w.heap.size w w':=by
 have hm:=zM hm0
 have HR:=zM hr0
 clear hm0 hr0
 have HB:=zM (Below.refl w.heap.size w)
 go_enter Try.func69,Try.ntmps69
 go_wp2_with (first
  | ((with_reducible refine gate_dst (N:=2) rfl ?_);refine box_event ?hg (N:=2) ?hd (cs:=#[.int .u8 0,.int .u8 0,.int .u8 0,.int .u8 0,.int .u8 0,.int .u8 0,.int .u8 0,.int .u8 0,.int .u8 0,.int .u8 0,.int .u8 0,.int .u8 0,.int .u8 0,.int .u8 0,.int .u8 0,.int .u8 0,.int .u8 0,.int .u8 0,.int .u8 0,.int .u8 0,.int .u8 0,.int .u8 0,.int .u8 0,.int .u8 0,.int .u8 0,.int .u8 0,.int .u8 0,.int .u8 0,.int .u8 0,.int .u8 0,.int .u8 0,.int .u8 0,.int .u8 0,.int .u8 0,.int .u8 0,.int .u8 0,.int .u8 0,.int .u8 0,.int .u8 0,.int .u8 0,.int .u8 0,.int .u8 0,.int .u8 0,.int .u8 0,.int .u8 0,.int .u8 0,.int .u8 0,.int .u8 0,.int .u8 0,.int .u8 0,.int .u8 0,.int .u8 0,.int .u8 0,.int .u8 0,.int .u8 0,.int .u8 0,.int .u8 0,.int .u8 0,.int .u8 0,.int .u8 0,.int .u8 0,.int .u8 0,.int .u8 0,.int .u8 0,.int .u8 0,.int .u8 0,.int .u8 0,.int .u8 0,.int .u8 0,.int .u8 0,.int .u8 0,.int .u8 0,.int .u8 0,.int .u8 0,.int .u8 0,.int .u8 0,.int .u8 0,.int .u8 0,.int .u8 0,.int .u8 0,.int .u8 0,.int .u8 0,.int .u8 0,.int .u8 0,.int .u8 0,.int .u8 0,.int .u8 0,.int .u8 0,.int .u8 0,.int .u8 0,.int .u8 0,.int .u8 0,.int .u8 0,.int .u8 0,.int .u8 0,.int .u8 0,.int .u8 0,.int .u8 0,.int .u8 0,.int .u8 0,.int .u8 0,.int .u8 0,.int .u8 0,.int .u8 0,.int .u8 0,.int .u8 0,.int .u8 0,.int .u8 0,.int .u8 0,.int .u8 0,.int .u8 0,.int .u8 0,.int .u8 0,.int .u8 0,.int .u8 0,.int .u8 0,.int .u8 0,.int .u8 0,.int .u8 0,.int .u8 0,.int .u8 0,.int .u8 0,.int .u8 0,.int .u8 0,.int .u8 0,.int .u8 0,.int .u8 0,.int .u8 0,.int .u8 0,.int .u8 0,.int .u8 0,.int .u8 0,.int .u8 0,.int .u8 0,.int .u8 0,.int .u8 0,.int .u8 0,.int .u8 0,.int .u8 0,.int .u8 0,.int .u8 0,.int .u8 0,.int .u8 0,.int .u8 0,.int .u8 0,.int .u8 0,.int .u8 0,.int .u8 0,.int .u8 0,.int .u8 0,.int .u8 0,.int .u8 0,.int .u8 0,.int .u8 0,.int .u8 0,.int .u8 0,.int .u8 0,.int .u8 0,.int .u8 0,.int .u8 0,.int .u8 0,.int .u8 0,.int .u8 0,.int .u8 0,.int .u8 0,.int .u8 0,.int .u8 0,.int .u8 0,.int .u8 0,.int .u8 0,.int .u8 0,.int .u8 0,.int .u8 0,.int .u8 0,.int .u8 0,.int .u8 0]) (t:=97) ?hr ?_;(case hd=>rfl);(case hg=>rfl);(case hr=>first|(go_simp;done)|(go_simp;rfl));intro g2 hg w2 hbox hb;have n0_:=zM (below_step zq0 hb);have n1_:=zM hbox;have n2_:=zM (by rw[hg];exact below_size zq0:w.heap.size≤g2);clear HB;have HB:=n0_;have BK2:=n1_;have GE2:=n2_;clear n0_ n1_ n2_;clear hb hbox hg)
  | ((with_reducible refine gate_dst (N:=3) rfl ?_);refine box_event ?hg (N:=3) ?hd (cs:=#[.int .u8 0,.int .u8 0,.int .u8 0,.int .u8 0,.int .u8 0,.int .u8 0,.int .u8 0,.int .u8 0,.int .u8 0,.int .u8 0,.int .u8 0,.int .u8 0,.int .u8 0,.int .u8 0,.int .u8 0,.int .u8 0,.int .u8 0,.int .u8 0,.int .u8 0,.int .u8 0,.int .u8 0,.int .u8 0,.int .u8 0,.int .u8 0,.int .u8 0,.int .u8 0,.int .u8 0,.int .u8 0,.int .u8 0,.int .u8 0,.int .u8 0,.int .u8 0,.int .u8 0,.int .u8 0,.int .u8 0,.int .u8 0,.int .u8 0,.int .u8 0,.int .u8 0,.int .u8 0,.int .u8 0,.int .u8 0,.int .u8 0,.int .u8 0,.int .u8 0,.int .u8 0,.int .u8 0,.int .u8 0,.int .u8 0,.int .u8 0,.int .u8 0,.int .u8 0,.int .u8 0,.int .u8 0,.int .u8 0,.int .u8 0,.int .u8 0,.int .u8 0,.int .u8 0,.int .u8 0,.int .u8 0,.int .u8 0,.int .u8 0,.int .u8 0,.int .u8 0,.int .u8 0,.int .u8 0,.int .u8 0,.int .u8 0,.int .u8 0,.int .u8 0,.int .u8 0,.int .u8 0,.int .u8 0,.int .u8 0,.int .u8 0,.int .u8 0,.int .u8 0,.int .u8 0,.int .u8 0,.int .u8 0,.int .u8 0,.int .u8 0,.int .u8 0,.int .u8 0,.int .u8 0,.int .u8 0,.int .u8 0,.int .u8 0,.int .u8 0,.int .u8 0,.int .u8 0,.int .u8 0,.int .u8 0,.int .u8 0,.int .u8 0,.int .u8 0,.int .u8 0,.int .u8 0,.int .u8 0,.int .u8 0,.int .u8 0,.int .u8 0,.int .u8 0,.int .u8 0,.int .u8 0,.int .u8 0,.int .u8 0,.int .u8 0,.int .u8 0,.int .u8 0,.int .u8 0,.int .u8 0,.int .u8 0,.int .u8 0,.int .u8 0,.int .u8 0,.int .u8 0,.int .u8 0,.int .u8 0,.int .u8 0,.int .u8 0,.int .u8 0,.int .u8 0,.int .u8 0,.int .u8 0,.int .u8 0,.int .u8 0,.int .u8 0,.int .u8 0,.int .u8 0,.int .u8 0,.int .u8 0,.int .u8 0,.int .u8 0,.int .u8 0,.int .u8 0,.int .u8 0,.int .u8 0,.int .u8 0,.int .u8 0,.int .u8 0,.int .u8 0,.int .u8 0,.int .u8 0,.int .u8 0,.int .u8 0,.int .u8 0,.int .u8 0,.int .u8 0,.int .u8 0,.int .u8 0,.int .u8 0,.int .u8 0,.int .u8 0,.int .u8 0,.int .u8 0,.int .u8 0,.int .u8 0,.int .u8 0,.int .u8 0,.int .u8 0,.int .u8 0,.int .u8 0,.int .u8 0,.int .u8 0,.int .u8 0,.int .u8 0,.int .u8 0,.int .u8 0,.int .u8 0,.int .u8 0,.int .u8 0,.int .u8 0,.int .u8 0,.int .u8 0]) (t:=97) ?hr ?_;(case hd=>rfl);(case hg=>rfl);(case hr=>first|(go_simp;done)|(go_simp;rfl));intro g3 hg w3 hbox hb;have n0_:=zM (below_step zq0 hb);have n1_:=zM (blk_below (g:=g2) (o:=.cells #[.int .u8 0,.int .u8 0,.int .u8 0,.int .u8 0,.int .u8 0,.int .u8 0,.int .u8 0,.int .u8 0,.int .u8 0,.int .u8 0,.int .u8 0,.int .u8 0,.int .u8 0,.int .u8 0,.int .u8 0,.int .u8 0,.int .u8 0,.int .u8 0,.int .u8 0,.int .u8 0,.int .u8 0,.int .u8 0,.int .u8 0,.int .u8 0,.int .u8 0,.int .u8 0,.int .u8 0,.int .u8 0,.int .u8 0,.int .u8 0,.int .u8 0,.int .u8 0,.int .u8 0,.int .u8 0,.int .u8 0,.int .u8 0,.int .u8 0,.int .u8 0,.int .u8 0,.int .u8 0,.int .u8 0,.int .u8 0,.int .u8 0,.int .u8 0,.int .u8 0,.int .u8 0,.int .u8 0,.int .u8 0,.int .u8 0,.int .u8 0,.int .u8 0,.int .u8 0,.int .u8 0,.int .u8 0,.int .u8 0,.int .u8 0,.int .u8 0,.int .u8 0,.int .u8 0,.int .u8 0,.int .u8 0,.int .u8 0,.int .u8 0,.int .u8 0,.int .u8 0,.int .u8 0,.int .u8 0,.int .u8 0,.int .u8 0,.int .u8 0,.int .u8 0,.int .u8 0,.int .u8 0,.int .u8 0,.int .u8 0,.int .u8 0,.int .u8 0,.int .u8 0,.int .u8 0,.int .u8 0,.int .u8 0,.int .u8 0,.int .u8 0,.int .u8 0,.int .u8 0,.int .u8 0,.int .u8 0,.int .u8 0,.int .u8 0,.int .u8 0,.int .u8 0,.int .u8 0,.int .u8 0,.int .u8 0,.int .u8 0,.int .u8 0,.int .u8 0,.int .u8 0,.int .u8 0,.int .u8 0,.int .u8 0,.int .u8 0,.int .u8 0,.int .u8 0,.int .u8 0,.int .u8 0,.int .u8 0,.int .u8 0,.int .u8 0,.int .u8 0,.int .u8 0,.int .u8 0,.int .u8 0,.int .u8 0,.int .u8 0,.int .u8 0,.int .u8 0,.int .u8 0,.int .u8 0,.int .u8 0,.int .u8 0,.int .u8 0,.int .u8 0,.int .u8 0,.int .u8 0,.int .u8 0,.int .u8 0,.int .u8 0,.int .u8 0,.int .u8 0,.int .u8 0,.int .u8 0,.int .u8 0,.int .u8 0,.int .u8 0,.int .u8 0,.int .u8 0,.int .u8 0,.int .u8 0,.int .u8 0,.int .u8 0,.int .u8 0,.int .u8 0,.int .u8 0,.int .u8 0,.int .u8 0,.int .u8 0,.int .u8 0,.int .u8 0,.int .u8 0,.int .u8 0,.int .u8 0,.int .u8 0,.int .u8 0,.int .u8 0,.int .u8 0,.int .u8 0,.int .u8 0,.int .u8 0,.int .u8 0,.int .u8 0,.int .u8 0,.int .u8 0,.int .u8 0,.int .u8 0,.int .u8 0,.int .u8 0,.int .u8 0,.int .u8 0,.int .u8 0,.int .u8 0,.int .u8 0,.int .u8 0,.int .u8 0,.int .u8 0,.int .u8 0] 97 (0,0)) zq2 hb);have n2_:=zM hbox;have n3_:=zM (by rw[hg];exact below_size zq0:w.heap.size≤g3);have n4_:=zM (by rw[hg];exact Nat.ne_of_lt (blk_lt (g:=g2) (o:=.cells #[.int .u8 0,.int .u8 0,.int .u8 0,.int .u8 0,.int .u8 0,.int .u8 0,.int .u8 0,.int .u8 0,.int .u8 0,.int .u8 0,.int .u8 0,.int .u8 0,.int .u8 0,.int .u8 0,.int .u8 0,.int .u8 0,.int .u8 0,.int .u8 0,.int .u8 0,.int .u8 0,.int .u8 0,.int .u8 0,.int .u8 0,.int .u8 0,.int .u8 0,.int .u8 0,.int .u8 0,.int .u8 0,.int .u8 0,.int .u8 0,.int .u8 0,.int .u8 0,.int .u8 0,.int .u8 0,.int .u8 0,.int .u8 0,.int .u8 0,.int .u8 0,.int .u8 0,.int .u8 0,.int .u8 0,.int .u8 0,.int .u8 0,.int .u8 0,.int .u8 0,.int .u8 0,.int .u8 0,.int .u8 0,.int .u8 0,.int .u8 0,.int .u8 0,.int .u8 0,.int .u8 0,.int .u8 0,.int .u8 0,.int .u8 0,.int .u8 0,.int .u8 0,.int .u8 0,.int .u8 0,.int .u8 0,.int .u8 0,.int .u8 0,.int .u8 0,.int .u8 0,.int .u8 0,.int .u8 0,.int .u8 0,.int .u8 0,.int .u8 0,.int .u8 0,.int .u8 0,.int .u8 0,.int .u8 0,.int .u8 0,.int .u8 0,.int .u8 0,.int .u8 0,.int .u8 0,.int .u8 0,.int .u8 0,.int .u8 0,.int .u8 0,.int .u8 0,.int .u8 0,.int .u8 0,.int .u8 0,.int .u8 0,.int .u8 0,.int .u8 0,.int .u8 0,.int .u8 0,.int .u8 0,.int .u8 0,.int .u8 0,.int .u8 0,.int .u8 0,.int .u8 0,.int .u8 0,.int .u8 0,.int .u8 0,.int .u8 0,.int .u8 0,.int .u8 0,.int .u8 0,.int .u8 0,.int .u8 0,.int .u8 0,.int .u8 0,.int .u8 0,.int .u8 0,.int .u8 0,.int .u8 0,.int .u8 0,.int .u8 0,.int .u8 0,.int .u8 0,.int .u8 0,.int .u8 0,.int .u8 0,.int .u8 0,.int .u8 0,.int .u8 0,.int .u8 0,.int .u8 0,.int .u8 0,.int .u8 0,.int .u8 0,.int .u8 0,.int .u8 0,.int .u8 0,.int .u8 0,.int .u8 0,.int .u8 0,.int .u8 0,.int .u8 0,.int .u8 0,.int .u8 0,.int .u8 0,.int .u8 0,.int .u8 0,.int .u8 0,.int .u8 0,.int .u8 0,.int .u8 0,.int .u8 0,.int .u8 0,.int .u8 0,.int .u8 0,.int .u8 0,.int .u8 0,.int .u8 0,.int .u8 0,.int .u8 0,.int .u8 0,.int .u8 0,.int .u8 0,.int .u8 0,.int .u8 0,.int .u8 0,.int .u8 0,.int .u8 0,.int .u8 0,.int .u8 0,.int .u8 0,.int .u8 0,.int .u8 0,.int .u8 0,.int .u8 0,.int .u8 0,.int .u8 0,.int .u8 0,.int .u8 0,.int .u8 0,.int .u8 0,.int .u8 0] 97 (0,0)) zq2):g2≠g3);have n5_:=zM (by rw[hg];exact Nat.ne_of_gt (blk_lt (g:=g2) (o:=.cells #[.int .u8 0,.int .u8 0,.int .u8 0,.int .u8 0,.int .u8 0,.int .u8 0,.int .u8 0,.int .u8 0,.int .u8 0,.int .u8 0,.int .u8 0,.int .u8 0,.int .u8 0,.int .u8 0,.int .u8 0,.int .u8 0,.int .u8 0,.int .u8 0,.int .u8 0,.int .u8 0,.int .u8 0,.int .u8 0,.int .u8 0,.int .u8 0,.int .u8 0,.int .u8 0,.int .u8 0,.int .u8 0,.int .u8 0,.int .u8 0,.int .u8 0,.int .u8 0,.int .u8 0,.int .u8 0,.int .u8 0,.int .u8 0,.int .u8 0,.int .u8 0,.int .u8 0,.int .u8 0,.int .u8 0,.int .u8 0,.int .u8 0,.int .u8 0,.int .u8 0,.int .u8 0,.int .u8 0,.int .u8 0,.int .u8 0,.int .u8 0,.int .u8 0,.int .u8 0,.int .u8 0,.int .u8 0,.int .u8 0,.int .u8 0,.int .u8 0,.int .u8 0,.int .u8 0,.int .u8 0,.int .u8 0,.int .u8 0,.int .u8 0,.int .u8 0,.int .u8 0,.int .u8 0,.int .u8 0,.int .u8 0,.int .u8 0,.int .u8 0,.int .u8 0,.int .u8 0,.int .u8 0,.int .u8 0,.int .u8 0,.int .u8 0,.int .u8 0,.int .u8 0,.int .u8 0,.int .u8 0,.int .u8 0,.int .u8 0,.int .u8 0,.int .u8 0,.int .u8 0,.int .u8 0,.int .u8 0,.int .u8 0,.int .u8 0,.int .u8 0,.int .u8 0,.int .u8 0,.int .u8 0,.int .u8 0,.int .u8 0,.int .u8 0,.int .u8 0,.int .u8 0,.int .u8 0,.int .u8 0,.int .u8 0,.int .u8 0,.int .u8 0,.int .u8 0,.int .u8 0,.int .u8 0,.int .u8 0,.int .u8 0,.int .u8 0,.int .u8 0,.int .u8 0,.int .u8 0,.int .u8 0,.int .u8 0,.int .u8 0,.int .u8 0,.int .u8 0,.int .u8 0,.int .u8 0,.int .u8 0,.int .u8 0,.int .u8 0,.int .u8 0,.int .u8 0,.int .u8 0,.int .u8 0,.int .u8 0,.int .u8 0,.int .u8 0,.int .u8 0,.int .u8 0,.int .u8 0,.int .u8 0,.int .u8 0,.int .u8 0,.int .u8 0,.int .u8 0,.int .u8 0,.int .u8 0,.int .u8 0,.int .u8 0,.int .u8 0,.int .u8 0,.int .u8 0,.int .u8 0,.int .u8 0,.int .u8 0,.int .u8 0,.int .u8 0,.int .u8 0,.int .u8 0,.int .u8 0,.int .u8 0,.int .u8 0,.int .u8 0,.int .u8 0,.int .u8 0,.int .u8 0,.int .u8 0,.int .u8 0,.int .u8 0,.int .u8 0,.int .u8 0,.int .u8 0,.int .u8 0,.int .u8 0,.int .u8 0,.int .u8 0,.int .u8 0,.int .u8 0,.int .u8 0,.int .u8 0,.int .u8 0,.int .u8 0,.int .u8 0,.int .u8 0] 97 (0,0)) zq2):g3≠g2);clear HB BK2;have HB:=n0_;have BK2:=n1_;have BK3:=n2_;have GE3:=n3_;have NE2_3:=n4_;have NE3_2:=n5_;clear n0_ n1_ n2_ n3_ n4_ n5_;clear hb hbox hg)
  | ((with_reducible refine gate_store (t:=97) (p:=3) rfl ?_);refine row_event ?hg (ty:=97) (p:=3) (y:=?yo_240) ?ho ?hn (g:=g3) (old:=#[.int .u8 0,.int .u8 0,.int .u8 0,.int .u8 0,.int .u8 0,.int .u8 0,.int .u8 0,.int .u8 0,.int .u8 0,.int .u8 0,.int .u8 0,.int .u8 0,.int .u8 0,.int .u8 0,.int .u8 0,.int .u8 0,.int .u8 0,.int .u8 0,.int .u8 0,.int .u8 0,.int .u8 0,.int .u8 0,.int .u8 0,.int .u8 0,.int .u8 0,.int .u8 0,.int .u8 0,.int .u8 0,.int .u8 0,.int .u8 0,.int .u8 0,.int .u8 0,.int .u8 0,.int .u8 0,.int .u8 0,.int .u8 0,.int .u8 0,.int .u8 0,.int .u8 0,.int .u8 0,.int .u8 0,.int .u8 0,.int .u8 0,.int .u8 0,.int .u8 0,.int .u8 0,.int .u8 0,.int .u8 0,.int .u8 0,.int .u8 0,.int .u8 0,.int .u8 0,.int .u8 0,.int .u8 0,.int .u8 0,.int .u8 0,.int .u8 0,.int .u8 0,.int .u8 0,.int .u8 0,.int .u8 0,.int .u8 0,.int .u8 0,.int .u8 0,.int .u8 0,.int .u8 0,.int .u8 0,.int .u8 0,.int .u8 0,.int .u8 0,.int .u8 0,.int .u8 0,.int .u8 0,.int .u8 0,.int .u8 0,.int .u8 0,.int .u8 0,.int .u8 0,.int .u8 0,.int .u8 0,.int .u8 0,.int .u8 0,.int .u8 0,.int .u8 0,.int .u8 0,.int .u8 0,.int .u8 0,.int .u8 0,.int .u8 0,.int .u8 0,.int .u8 0,.int .u8 0,.int .u8 0,.int .u8 0,.int .u8 0,.int .u8 0,.int .u8 0,.int .u8 0,.int .u8 0,.int .u8 0,.int .u8 0,.int .u8 0,.int .u8 0,.int .u8 0,.int .u8 0,.int .u8 0,.int .u8 0,.int .u8 0,.int .u8 0,.int .u8 0,.int .u8 0,.int .u8 0,.int .u8 0,.int .u8 0,.int .u8 0,.int .u8 0,.int .u8 0,.int .u8 0,.int .u8 0,.int .u8 0,.int .u8 0,.int .u8 0,.int .u8 0,.int .u8 0,.int .u8 0,.int .u8 0,.int .u8 0,.int .u8 0,.int .u8 0,.int .u8 0,.int .u8 0,.int .u8 0,.int .u8 0,.int .u8 0,.int .u8 0,.int .u8 0,.int .u8 0,.int .u8 0,.int .u8 0,.int .u8 0,.int .u8 0,.int .u8 0,.int .u8 0,.int .u8 0,.int .u8 0,.int .u8 0,.int .u8 0,.int .u8 0,.int .u8 0,.int .u8 0,.int .u8 0,.int .u8 0,.int .u8 0,.int .u8 0,.int .u8 0,.int .u8 0,.int .u8 0,.int .u8 0,.int .u8 0,.int .u8 0,.int .u8 0,.int .u8 0,.int .u8 0,.int .u8 0,.int .u8 0,.int .u8 0,.int .u8 0,.int .u8 0,.int .u8 0,.int .u8 0,.int .u8 0,.int .u8 0,.int .u8 0,.int .u8 0,.int .u8 0,.int .u8 0]) (e:=97) (cells:=(cB (tab 176 fun _=>0#8))) ?hx ?hy ?hk ?hi ?hd ?h1 ?_;(case ho=>rfl);(case hg=>rfl);(case hn=>rfl);(case hx=>rfl);(case hy=>rfl);(case hk=>exact zq9);(case hi=>rw[cB_size,tab_length];kernel_rfl);(case hd=>exact zq163);(case h1=>exact cB_one _);intro wr_ hbk hgr;have n0_:=zM (below_grown1 zq0 hgr GE3.out);have n1_:=zM (blk_grown1 (g':=g2) (ob:=.cells #[.int .u8 0,.int .u8 0,.int .u8 0,.int .u8 0,.int .u8 0,.int .u8 0,.int .u8 0,.int .u8 0,.int .u8 0,.int .u8 0,.int .u8 0,.int .u8 0,.int .u8 0,.int .u8 0,.int .u8 0,.int .u8 0,.int .u8 0,.int .u8 0,.int .u8 0,.int .u8 0,.int .u8 0,.int .u8 0,.int .u8 0,.int .u8 0,.int .u8 0,.int .u8 0,.int .u8 0,.int .u8 0,.int .u8 0,.int .u8 0,.int .u8 0,.int .u8 0,.int .u8 0,.int .u8 0,.int .u8 0,.int .u8 0,.int .u8 0,.int .u8 0,.int .u8 0,.int .u8 0,.int .u8 0,.int .u8 0,.int .u8 0,.int .u8 0,.int .u8 0,.int .u8 0,.int .u8 0,.int .u8 0,.int .u8 0,.int .u8 0,.int .u8 0,.int .u8 0,.int .u8 0,.int .u8 0,.int .u8 0,.int .u8 0,.int .u8 0,.int .u8 0,.int .u8 0,.int .u8 0,.int .u8 0,.int .u8 0,.int .u8 0,.int .u8 0,.int .u8 0,.int .u8 0,.int .u8 0,.int .u8 0,.int .u8 0,.int .u8 0,.int .u8 0,.int .u8 0,.int .u8 0,.int .u8 0,.int .u8 0,.int .u8 0,.int .u8 0,.int .u8 0,.int .u8 0,.int .u8 0,.int .u8 0,.int .u8 0,.int .u8 0,.int .u8 0,.int .u8 0,.int .u8 0,.int .u8 0,.int .u8 0,.int .u8 0,.int .u8 0,.int .u8 0,.int .u8 0,.int .u8 0,.int .u8 0,.int .u8 0,.int .u8 0,.int .u8 0,.int .u8 0,.int .u8 0,.int .u8 0,.int .u8 0,.int .u8 0,.int .u8 0,.int .u8 0,.int .u8 0,.int .u8 0,.int .u8 0,.int .u8 0,.int .u8 0,.int .u8 0,.int .u8 0,.int .u8 0,.int .u8 0,.int .u8 0,.int .u8 0,.int .u8 0,.int .u8 0,.int .u8 0,.int .u8 0,.int .u8 0,.int .u8 0,.int .u8 0,.int .u8 0,.int .u8 0,.int .u8 0,.int .u8 0,.int .u8 0,.int .u8 0,.int .u8 0,.int .u8 0,.int .u8 0,.int .u8 0,.int .u8 0,.int .u8 0,.int .u8 0,.int .u8 0,.int .u8 0,.int .u8 0,.int .u8 0,.int .u8 0,.int .u8 0,.int .u8 0,.int .u8 0,.int .u8 0,.int .u8 0,.int .u8 0,.int .u8 0,.int .u8 0,.int .u8 0,.int .u8 0,.int .u8 0,.int .u8 0,.int .u8 0,.int .u8 0,.int .u8 0,.int .u8 0,.int .u8 0,.int .u8 0,.int .u8 0,.int .u8 0,.int .u8 0,.int .u8 0,.int .u8 0,.int .u8 0,.int .u8 0,.int .u8 0,.int .u8 0,.int .u8 0,.int .u8 0,.int .u8 0,.int .u8 0,.int .u8 0,.int .u8 0,.int .u8 0,.int .u8 0,.int .u8 0] 97 (0,0)) zq2 hgr NE2_3.out);have n2_:=zM hbk;clear HB BK2 BK3;have HB:=n0_;have BK2:=n1_;have BK3:=n2_;clear n0_ n1_ n2_;clear hbk hgr)
  | ((with_reducible refine gate_dst (N:=12) rfl ?_);refine copy_event ?hg (.tmp 10) (.tmp 11) 25 5 ?ho Try.underlying25 (by kernel_rfl) (g:=g3) (old:=(tab 176 fun _=>0#8)) (new:=m) (bt:=97) (cap:=?cap_241) (A:=?Ad_241) (c:=?cc_241) ?hx ?hy ?hk ?hr ?_;(case hg=>rfl);(case ho=>rfl);(case hx=>rfl);(case hy=>rfl);(case hk=>exact zq9);(case hr=>exact zq146);intro wp_ vv hbk0 hgr;have hbk:wp_.heap[g3]?=some (.cells (cB (P176 m)) 97 (0,0)):=(by rw[← P176_cp];exact hbk0);clear hbk0;have n0_:=zM (below_grown1 zq0 hgr GE3.out);have n1_:=zM (blk_grown1 (g':=g2) (ob:=.cells #[.int .u8 0,.int .u8 0,.int .u8 0,.int .u8 0,.int .u8 0,.int .u8 0,.int .u8 0,.int .u8 0,.int .u8 0,.int .u8 0,.int .u8 0,.int .u8 0,.int .u8 0,.int .u8 0,.int .u8 0,.int .u8 0,.int .u8 0,.int .u8 0,.int .u8 0,.int .u8 0,.int .u8 0,.int .u8 0,.int .u8 0,.int .u8 0,.int .u8 0,.int .u8 0,.int .u8 0,.int .u8 0,.int .u8 0,.int .u8 0,.int .u8 0,.int .u8 0,.int .u8 0,.int .u8 0,.int .u8 0,.int .u8 0,.int .u8 0,.int .u8 0,.int .u8 0,.int .u8 0,.int .u8 0,.int .u8 0,.int .u8 0,.int .u8 0,.int .u8 0,.int .u8 0,.int .u8 0,.int .u8 0,.int .u8 0,.int .u8 0,.int .u8 0,.int .u8 0,.int .u8 0,.int .u8 0,.int .u8 0,.int .u8 0,.int .u8 0,.int .u8 0,.int .u8 0,.int .u8 0,.int .u8 0,.int .u8 0,.int .u8 0,.int .u8 0,.int .u8 0,.int .u8 0,.int .u8 0,.int .u8 0,.int .u8 0,.int .u8 0,.int .u8 0,.int .u8 0,.int .u8 0,.int .u8 0,.int .u8 0,.int .u8 0,.int .u8 0,.int .u8 0,.int .u8 0,.int .u8 0,.int .u8 0,.int .u8 0,.int .u8 0,.int .u8 0,.int .u8 0,.int .u8 0,.int .u8 0,.int .u8 0,.int .u8 0,.int .u8 0,.int .u8 0,.int .u8 0,.int .u8 0,.int .u8 0,.int .u8 0,.int .u8 0,.int .u8 0,.int .u8 0,.int .u8 0,.int .u8 0,.int .u8 0,.int .u8 0,.int .u8 0,.int .u8 0,.int .u8 0,.int .u8 0,.int .u8 0,.int .u8 0,.int .u8 0,.int .u8 0,.int .u8 0,.int .u8 0,.int .u8 0,.int .u8 0,.int .u8 0,.int .u8 0,.int .u8 0,.int .u8 0,.int .u8 0,.int .u8 0,.int .u8 0,.int .u8 0,.int .u8 0,.int .u8 0,.int .u8 0,.int .u8 0,.int .u8 0,.int .u8 0,.int .u8 0,.int .u8 0,.int .u8 0,.int .u8 0,.int .u8 0,.int .u8 0,.int .u8 0,.int .u8 0,.int .u8 0,.int .u8 0,.int .u8 0,.int .u8 0,.int .u8 0,.int .u8 0,.int .u8 0,.int .u8 0,.int .u8 0,.int .u8 0,.int .u8 0,.int .u8 0,.int .u8 0,.int .u8 0,.int .u8 0,.int .u8 0,.int .u8 0,.int .u8 0,.int .u8 0,.int .u8 0,.int .u8 0,.int .u8 0,.int .u8 0,.int .u8 0,.int .u8 0,.int .u8 0,.int .u8 0,.int .u8 0,.int .u8 0,.int .u8 0,.int .u8 0,.int .u8 0,.int .u8 0,.int .u8 0,.int .u8 0,.int .u8 0,.int .u8 0,.int .u8 0,.int .u8 0,.int .u8 0] 97 (0,0)) zq2 hgr NE2_3.out);have n2_:=zM hbk;clear HB BK2 BK3;have HB:=n0_;have BK2:=n1_;have BK3:=n2_;clear n0_ n1_ n2_;clear hbk hgr))
 go_loopw [4,5] (fun v4 v5 W=>∃ n i:Nat,Aside0 (i=16+4*n)∧n≤40∧v5=.int .i64 i∧v4=.int .u8 (bI (rcon ((i - 1) / 16)))∧Aside0 (W.heap[g2]?=some (.cells #[.int .u8 0,.int .u8 0,.int .u8 0,.int .u8 0,.int .u8 0,.int .u8 0,.int .u8 0,.int .u8 0,.int .u8 0,.int .u8 0,.int .u8 0,.int .u8 0,.int .u8 0,.int .u8 0,.int .u8 0,.int .u8 0,.int .u8 0,.int .u8 0,.int .u8 0,.int .u8 0,.int .u8 0,.int .u8 0,.int .u8 0,.int .u8 0,.int .u8 0,.int .u8 0,.int .u8 0,.int .u8 0,.int .u8 0,.int .u8 0,.int .u8 0,.int .u8 0,.int .u8 0,.int .u8 0,.int .u8 0,.int .u8 0,.int .u8 0,.int .u8 0,.int .u8 0,.int .u8 0,.int .u8 0,.int .u8 0,.int .u8 0,.int .u8 0,.int .u8 0,.int .u8 0,.int .u8 0,.int .u8 0,.int .u8 0,.int .u8 0,.int .u8 0,.int .u8 0,.int .u8 0,.int .u8 0,.int .u8 0,.int .u8 0,.int .u8 0,.int .u8 0,.int .u8 0,.int .u8 0,.int .u8 0,.int .u8 0,.int .u8 0,.int .u8 0,.int .u8 0,.int .u8 0,.int .u8 0,.int .u8 0,.int .u8 0,.int .u8 0,.int .u8 0,.int .u8 0,.int .u8 0,.int .u8 0,.int .u8 0,.int .u8 0,.int .u8 0,.int .u8 0,.int .u8 0,.int .u8 0,.int .u8 0,.int .u8 0,.int .u8 0,.int .u8 0,.int .u8 0,.int .u8 0,.int .u8 0,.int .u8 0,.int .u8 0,.int .u8 0,.int .u8 0,.int .u8 0,.int .u8 0,.int .u8 0,.int .u8 0,.int .u8 0,.int .u8 0,.int .u8 0,.int .u8 0,.int .u8 0,.int .u8 0,.int .u8 0,.int .u8 0,.int .u8 0,.int .u8 0,.int .u8 0,.int .u8 0,.int .u8 0,.int .u8 0,.int .u8 0,.int .u8 0,.int .u8 0,.int .u8 0,.int .u8 0,.int .u8 0,.int .u8 0,.int .u8 0,.int .u8 0,.int .u8 0,.int .u8 0,.int .u8 0,.int .u8 0,.int .u8 0,.int .u8 0,.int .u8 0,.int .u8 0,.int .u8 0,.int .u8 0,.int .u8 0,.int .u8 0,.int .u8 0,.int .u8 0,.int .u8 0,.int .u8 0,.int .u8 0,.int .u8 0,.int .u8 0,.int .u8 0,.int .u8 0,.int .u8 0,.int .u8 0,.int .u8 0,.int .u8 0,.int .u8 0,.int .u8 0,.int .u8 0,.int .u8 0,.int .u8 0,.int .u8 0,.int .u8 0,.int .u8 0,.int .u8 0,.int .u8 0,.int .u8 0,.int .u8 0,.int .u8 0,.int .u8 0,.int .u8 0,.int .u8 0,.int .u8 0,.int .u8 0,.int .u8 0,.int .u8 0,.int .u8 0,.int .u8 0,.int .u8 0,.int .u8 0,.int .u8 0,.int .u8 0,.int .u8 0,.int .u8 0,.int .u8 0,.int .u8 0,.int .u8 0,.int .u8 0,.int .u8 0] 97 (0,0)))∧Aside0 (W.heap[g3]?=some (.cells (cB (P176 (keyTo m n))) 97 (0,0)))∧Aside0 (Below w.heap.size w W)) (fun _ v5 _=>180 - (intOf v5).toNat)
 case atStart=>exact⟨0,16,⟨rfl⟩,zq8,rfl,rfl,BK2,BK3,HB⟩
 case round=>
  clear BK2 BK3 HB
  obtain⟨n,i,hin,hn0,rfl,rfl,BK2,BK3,HB⟩:=hrel
  by_cases hn4:n < 40
  ·have hn:=zM hn4
   have hi4:=zM (show i+4≤176 by have:=hin.out;omega)
   have hi0:16≤i:=by have:=hin.out;omega
   have hi9:i < 176:=by have:=hin.out;omega
   clear hn4 hn0
   obtain⟨L,hLe⟩:∃ L,keyTo m n=L:=⟨_,rfl⟩
   rw[hLe] at BK3
   have hL:=zM (show L.length=i by rw[← hLe,keyTo_length m hm.out n];exact hin.out.symm)
   have hLE:=zM hLe
   clear hLe
   have hlt:decide ((i:Int) < 176)=true:=decide_eq_true zq8
   by_cases h16a:i % 16=0
   ·have e16:Int.tmod (i:Int) 16=0:=by rw[Int.tmod_eq_emod_of_nonneg zq8];omega
    have h16:=zM h16a
    have hi16:=zM hi0
    clear h16a
    have hc4:wr.cell? ⟨g3,i - 4,none⟩=some (.int .u8 (bI (by_ L (i - 4)))):=by rw[blk_cell BK3.out,cB_get _ _ zq105,P176_get _ _ zq8]
    have hc3:wr.cell? ⟨g3,i - 3,none⟩=some (.int .u8 (bI (by_ L (i - 3)))):=by rw[blk_cell BK3.out,cB_get _ _ zq105,P176_get _ _ zq8]
    have hc2:wr.cell? ⟨g3,i - 2,none⟩=some (.int .u8 (bI (by_ L (i - 2)))):=by rw[blk_cell BK3.out,cB_get _ _ zq105,P176_get _ _ zq8]
    have hc1:wr.cell? ⟨g3,i - 1,none⟩=some (.int .u8 (bI (by_ L (i - 1)))):=by rw[blk_cell BK3.out,cB_get _ _ zq105,P176_get _ _ zq8]
    have p4:=eq_true (show (0:Int)≤(i:Int) - 4 by omega)
    have q4:=eq_true (show (i:Int) - 4 < 176 by omega)
    have r4:4≤i:=by omega
    have u4:=eq_true (show (4:Int)≤(i:Int) by omega)
    have s4:Value.int .i64 (IntKind.i64.wrap ((i:Int) - 4))=.int .i64 ((i:Int) - 4):=by rw[IntWalk.i64_in _ zq8]
    have n4:∀ g:Nat,(⟨g,((i:Int) - 4).toNat,none⟩:Addr)=⟨g,i - 4,none⟩:=fun g=>by rw[show ((i:Int) - 4).toNat=i - 4 by omega]
    have p3:=eq_true (show (0:Int)≤(i:Int) - 3 by omega)
    have q3:=eq_true (show (i:Int) - 3 < 176 by omega)
    have r3:3≤i:=by omega
    have u3:=eq_true (show (3:Int)≤(i:Int) by omega)
    have s3:Value.int .i64 (IntKind.i64.wrap ((i:Int) - 3))=.int .i64 ((i:Int) - 3):=by rw[IntWalk.i64_in _ zq8]
    have n3:∀ g:Nat,(⟨g,((i:Int) - 3).toNat,none⟩:Addr)=⟨g,i - 3,none⟩:=fun g=>by rw[show ((i:Int) - 3).toNat=i - 3 by omega]
    have p2:=eq_true (show (0:Int)≤(i:Int) - 2 by omega)
    have q2:=eq_true (show (i:Int) - 2 < 176 by omega)
    have r2:2≤i:=by omega
    have u2:=eq_true (show (2:Int)≤(i:Int) by omega)
    have s2:Value.int .i64 (IntKind.i64.wrap ((i:Int) - 2))=.int .i64 ((i:Int) - 2):=by rw[IntWalk.i64_in _ zq8]
    have n2:∀ g:Nat,(⟨g,((i:Int) - 2).toNat,none⟩:Addr)=⟨g,i - 2,none⟩:=fun g=>by rw[show ((i:Int) - 2).toNat=i - 2 by omega]
    have p1:=eq_true (show (0:Int)≤(i:Int) - 1 by omega)
    have q1:=eq_true (show (i:Int) - 1 < 176 by omega)
    have r1:1≤i:=by omega
    have u1:=eq_true (show (1:Int)≤(i:Int) by omega)
    have s1:Value.int .i64 (IntKind.i64.wrap ((i:Int) - 1))=.int .i64 ((i:Int) - 1):=by rw[IntWalk.i64_in _ zq8]
    have n1:∀ g:Nat,(⟨g,((i:Int) - 1).toNat,none⟩:Addr)=⟨g,i - 1,none⟩:=fun g=>by rw[show ((i:Int) - 1).toNat=i - 1 by omega]
    have hpos:0 < i:=by omega
    go_wp2_with fail
    have e4:=World.new_ne wr _ hc4
    have e3:=World.new_ne wr _ hc3
    have e2:=World.new_ne wr _ hc2
    have e1:=World.new_ne wr _ hc1
    go_region_held3 (fun w'=>w'.cell? ⟨g3,i - 4,none⟩=some (.int .u8 (bI (by_ L (i - 4))))∧w'.cell? ⟨g3,i - 3,none⟩=some (.int .u8 (bI (by_ L (i - 3))))∧w'.cell? ⟨g3,i - 2,none⟩=some (.int .u8 (bI (by_ L (i - 2))))∧w'.cell? ⟨g3,i - 1,none⟩=some (.int .u8 (bI (by_ L (i - 1))))) (go_keep) (fail)
    clear e4 e3 e2 e1
    have n0_:=zM (blk_drew (blk_alloc BK2.out (.cells #[.int .u8 (bI (by_ L (i - 4))),.int .u8 (bI (by_ L (i - 3))),.int .u8 (bI (by_ L (i - 2))),.int .u8 (bI (by_ L (i - 1)))] 103)))
    have m0_:=zM (blk_drew (blk_alloc BK3.out (.cells #[.int .u8 (bI (by_ L (i - 4))),.int .u8 (bI (by_ L (i - 3))),.int .u8 (bI (by_ L (i - 2))),.int .u8 (bI (by_ L (i - 1)))] 103)))
    have n1_:Aside0 ((wr.alloc (.cells #[.int .u8 (bI (by_ L (i - 4))),.int .u8 (bI (by_ L (i - 3))),.int .u8 (bI (by_ L (i - 2))),.int .u8 (bI (by_ L (i - 1)))] 103)).drew.heap[wr.heap.size]?=some (.cells #[.int .u8 (bI (by_ L (i - 4))),.int .u8 (bI (by_ L (i - 3))),.int .u8 (bI (by_ L (i - 2))),.int .u8 (bI (by_ L (i - 1)))] 103 (0,0))):=⟨blk_drew zq78⟩
    have n2_:=zM (below_drew1 (below_alloc HB.out (.cells #[.int .u8 (bI (by_ L (i - 4))),.int .u8 (bI (by_ L (i - 3))),.int .u8 (bI (by_ L (i - 2))),.int .u8 (bI (by_ L (i - 1)))] 103)))
    have GE6:=zM (below_size HB.out)
    clear r4 r3 r2 r1 u4 u3 u2 u1 hpos hc4 hc3 hc2 hc1 p4 p3 p2 p1 q4 q3 q2 q1 s4 s3 s2 s1 n4 n3 n2 n1
    clear BK2 BK3 HB
    generalize wr.heap.size=g6 at n1_ GE6 ⊢
    generalize (wr.alloc (.cells #[.int .u8 (bI (by_ L (i - 4))),.int .u8 (bI (by_ L (i - 3))),.int .u8 (bI (by_ L (i - 2))),.int .u8 (bI (by_ L (i - 1)))] 103)).drew=wr_ at n0_ m0_ n1_ n2_ ⊢
    have BK2:=n0_
    have BK3:=m0_
    have BK6:Aside0 (wr_.heap[g6]?=some (.cells (cB [by_ L (i - 4),by_ L (i - 3),by_ L (i - 2),by_ L (i - 1)]) 103 (0,0))):=n1_
    have HB:=n2_
    clear n0_ m0_ n1_ n2_
    have ht0:wr_.cell? ⟨g6,0,none⟩=some (.int .u8 (bI (by_ L (i - 4)))):=by rw[blk_cell BK6.out];rfl
    have ht1:wr_.cell? ⟨g6,1,none⟩=some (.int .u8 (bI (by_ L (i - 3)))):=by rw[blk_cell BK6.out];rfl
    have ht2:wr_.cell? ⟨g6,2,none⟩=some (.int .u8 (bI (by_ L (i - 2)))):=by rw[blk_cell BK6.out];rfl
    have ht3:wr_.cell? ⟨g6,3,none⟩=some (.int .u8 (bI (by_ L (i - 1)))):=by rw[blk_cell BK6.out];rfl
    go_wp2_with fail
    have hbox:∀ (b:BitVec 8) (W:World),(Instr.index 9 (.string (⟨#[99,124,119,123,242,107,111,197,48,1,103,43,254,215,171,118,202,130,201,125,250,89,71,240,173,212,162,175,156,164,114,192,183,253,147,38,54,63,247,204,52,165,229,241,113,216,49,21,4,199,35,195,24,150,5,154,7,18,128,226,235,39,178,117,9,131,44,26,27,110,90,160,82,59,214,179,41,227,47,132,83,209,0,237,32,252,177,91,106,203,190,57,74,76,88,207,208,239,170,251,67,77,51,133,69,249,2,127,80,60,159,168,81,163,64,143,146,157,56,245,188,182,218,33,16,255,243,210,205,12,19,236,95,151,68,23,196,167,126,61,100,93,25,115,96,129,79,220,34,42,144,136,70,238,184,20,222,94,11,219,224,50,58,10,73,6,36,92,194,211,172,98,145,149,228,121,231,200,55,109,141,213,78,169,108,86,244,234,101,122,174,8,186,120,37,46,28,166,180,198,232,221,116,31,75,189,139,138,112,62,181,102,72,3,246,14,97,53,87,185,134,193,29,158,225,248,152,17,105,217,142,148,155,30,135,233,206,85,40,223,140,161,137,13,191,230,66,104,65,153,45,15,176,84,187,22]⟩)) (.int .u8 (bI b))).run Try.prog W=.ok (.int .u8 (bI (SB b))) W:=fun b W=>run_index_box 9 Try.underlying9 _ rfl b
    refine wp_region_tail 15 (by kernel_rfl) (by kernel_rfl) ?_
    simp only[List.take_succ_cons,List.take_zero,List.drop_succ_cons,List.drop_zero]
    repeat still_step
    refine wpStill_nil ?_
    go_wp2_with (first
      | ((with_reducible refine gate_store (t:=103) (p:=6) rfl ?_);refine row_event ?hg (ty:=103) (p:=6) (y:=?yo_242) ?ho ?hn (g:=g6) (old:=(cB [by_ L (i - 4),by_ L (i - 3),by_ L (i - 2),by_ L (i - 1)])) (e:=103) (cells:=#[.int .u8 (Go.bits .xor .u8 (bI (SB (by_ L (i - 3)))) (bI (rcon ((i - 1) / 16)))),.int .u8 (bI (SB (by_ L (i - 2)))),.int .u8 (bI (SB (by_ L (i - 1)))),.int .u8 (bI (SB (by_ L (i - 4))))]) ?hx ?hy ?hk ?hi ?hd ?h1 ?_;(case ho=>rfl);(case hg=>rfl);(case hn=>rfl);(case hx=>rfl);(case hy=>rfl);(case hk=>exact zq12);(case hi=>kernel_rfl);(case hd=>rfl);(case h1=>exact zq135);intro ws_ hbk hgr;have n0_:=zM (below_grown1 zq0 hgr GE6.out);have n1_:=zM (blk_grown1 (g':=g2) (ob:=.cells #[.int .u8 0,.int .u8 0,.int .u8 0,.int .u8 0,.int .u8 0,.int .u8 0,.int .u8 0,.int .u8 0,.int .u8 0,.int .u8 0,.int .u8 0,.int .u8 0,.int .u8 0,.int .u8 0,.int .u8 0,.int .u8 0,.int .u8 0,.int .u8 0,.int .u8 0,.int .u8 0,.int .u8 0,.int .u8 0,.int .u8 0,.int .u8 0,.int .u8 0,.int .u8 0,.int .u8 0,.int .u8 0,.int .u8 0,.int .u8 0,.int .u8 0,.int .u8 0,.int .u8 0,.int .u8 0,.int .u8 0,.int .u8 0,.int .u8 0,.int .u8 0,.int .u8 0,.int .u8 0,.int .u8 0,.int .u8 0,.int .u8 0,.int .u8 0,.int .u8 0,.int .u8 0,.int .u8 0,.int .u8 0,.int .u8 0,.int .u8 0,.int .u8 0,.int .u8 0,.int .u8 0,.int .u8 0,.int .u8 0,.int .u8 0,.int .u8 0,.int .u8 0,.int .u8 0,.int .u8 0,.int .u8 0,.int .u8 0,.int .u8 0,.int .u8 0,.int .u8 0,.int .u8 0,.int .u8 0,.int .u8 0,.int .u8 0,.int .u8 0,.int .u8 0,.int .u8 0,.int .u8 0,.int .u8 0,.int .u8 0,.int .u8 0,.int .u8 0,.int .u8 0,.int .u8 0,.int .u8 0,.int .u8 0,.int .u8 0,.int .u8 0,.int .u8 0,.int .u8 0,.int .u8 0,.int .u8 0,.int .u8 0,.int .u8 0,.int .u8 0,.int .u8 0,.int .u8 0,.int .u8 0,.int .u8 0,.int .u8 0,.int .u8 0,.int .u8 0,.int .u8 0,.int .u8 0,.int .u8 0,.int .u8 0,.int .u8 0,.int .u8 0,.int .u8 0,.int .u8 0,.int .u8 0,.int .u8 0,.int .u8 0,.int .u8 0,.int .u8 0,.int .u8 0,.int .u8 0,.int .u8 0,.int .u8 0,.int .u8 0,.int .u8 0,.int .u8 0,.int .u8 0,.int .u8 0,.int .u8 0,.int .u8 0,.int .u8 0,.int .u8 0,.int .u8 0,.int .u8 0,.int .u8 0,.int .u8 0,.int .u8 0,.int .u8 0,.int .u8 0,.int .u8 0,.int .u8 0,.int .u8 0,.int .u8 0,.int .u8 0,.int .u8 0,.int .u8 0,.int .u8 0,.int .u8 0,.int .u8 0,.int .u8 0,.int .u8 0,.int .u8 0,.int .u8 0,.int .u8 0,.int .u8 0,.int .u8 0,.int .u8 0,.int .u8 0,.int .u8 0,.int .u8 0,.int .u8 0,.int .u8 0,.int .u8 0,.int .u8 0,.int .u8 0,.int .u8 0,.int .u8 0,.int .u8 0,.int .u8 0,.int .u8 0,.int .u8 0,.int .u8 0,.int .u8 0,.int .u8 0,.int .u8 0,.int .u8 0,.int .u8 0,.int .u8 0,.int .u8 0,.int .u8 0,.int .u8 0,.int .u8 0,.int .u8 0,.int .u8 0,.int .u8 0] 97 (0,0)) zq2 hgr (blk_ne zq2 zq12 zq36));have n2_:=zM (blk_grown1 (g':=g3) (ob:=.cells (cB (P176 L)) 97 (0,0)) zq9 hgr (blk_ne zq9 zq12 zq36));have n3_:=zM hbk;clear HB BK2 BK3 BK6;have HB:=n0_;have BK2:=n1_;have BK3:=n2_;have BK6:=n3_;clear n0_ n1_ n2_ n3_;clear hbk hgr;rw[turn_cells L i h16.out hi16.out] at BK6)
      | (go_at_call 80;refine(twice_key (rcon ((i - 1) / 16)) _).mono ?_;rintro e wk ⟨rfl,rfl⟩)
      | ((with_reducible refine gate_dst (N:=54) rfl ?_);refine wpList_load_row ?hg 103 (.tmp 6) ?ho g6 ?hx 103 (cB [keyT L i 0,keyT L i 1,keyT L i 2,keyT L i 3]) (0,0) _ ?hk Try.underlying103 rfl ?hi ?_;(case hg=>rfl);(case ho=>rfl);(case hx=>rfl);(case hk=>exact zq12);(case hi=>kernel_rfl)))
    go_loopw [55] (fun v55 W=>∃ k:Nat,k≤4∧v55=.int .i64 k∧Aside0 (W.heap[g2]?=some (.cells #[.int .u8 0,.int .u8 0,.int .u8 0,.int .u8 0,.int .u8 0,.int .u8 0,.int .u8 0,.int .u8 0,.int .u8 0,.int .u8 0,.int .u8 0,.int .u8 0,.int .u8 0,.int .u8 0,.int .u8 0,.int .u8 0,.int .u8 0,.int .u8 0,.int .u8 0,.int .u8 0,.int .u8 0,.int .u8 0,.int .u8 0,.int .u8 0,.int .u8 0,.int .u8 0,.int .u8 0,.int .u8 0,.int .u8 0,.int .u8 0,.int .u8 0,.int .u8 0,.int .u8 0,.int .u8 0,.int .u8 0,.int .u8 0,.int .u8 0,.int .u8 0,.int .u8 0,.int .u8 0,.int .u8 0,.int .u8 0,.int .u8 0,.int .u8 0,.int .u8 0,.int .u8 0,.int .u8 0,.int .u8 0,.int .u8 0,.int .u8 0,.int .u8 0,.int .u8 0,.int .u8 0,.int .u8 0,.int .u8 0,.int .u8 0,.int .u8 0,.int .u8 0,.int .u8 0,.int .u8 0,.int .u8 0,.int .u8 0,.int .u8 0,.int .u8 0,.int .u8 0,.int .u8 0,.int .u8 0,.int .u8 0,.int .u8 0,.int .u8 0,.int .u8 0,.int .u8 0,.int .u8 0,.int .u8 0,.int .u8 0,.int .u8 0,.int .u8 0,.int .u8 0,.int .u8 0,.int .u8 0,.int .u8 0,.int .u8 0,.int .u8 0,.int .u8 0,.int .u8 0,.int .u8 0,.int .u8 0,.int .u8 0,.int .u8 0,.int .u8 0,.int .u8 0,.int .u8 0,.int .u8 0,.int .u8 0,.int .u8 0,.int .u8 0,.int .u8 0,.int .u8 0,.int .u8 0,.int .u8 0,.int .u8 0,.int .u8 0,.int .u8 0,.int .u8 0,.int .u8 0,.int .u8 0,.int .u8 0,.int .u8 0,.int .u8 0,.int .u8 0,.int .u8 0,.int .u8 0,.int .u8 0,.int .u8 0,.int .u8 0,.int .u8 0,.int .u8 0,.int .u8 0,.int .u8 0,.int .u8 0,.int .u8 0,.int .u8 0,.int .u8 0,.int .u8 0,.int .u8 0,.int .u8 0,.int .u8 0,.int .u8 0,.int .u8 0,.int .u8 0,.int .u8 0,.int .u8 0,.int .u8 0,.int .u8 0,.int .u8 0,.int .u8 0,.int .u8 0,.int .u8 0,.int .u8 0,.int .u8 0,.int .u8 0,.int .u8 0,.int .u8 0,.int .u8 0,.int .u8 0,.int .u8 0,.int .u8 0,.int .u8 0,.int .u8 0,.int .u8 0,.int .u8 0,.int .u8 0,.int .u8 0,.int .u8 0,.int .u8 0,.int .u8 0,.int .u8 0,.int .u8 0,.int .u8 0,.int .u8 0,.int .u8 0,.int .u8 0,.int .u8 0,.int .u8 0,.int .u8 0,.int .u8 0,.int .u8 0,.int .u8 0,.int .u8 0,.int .u8 0,.int .u8 0,.int .u8 0,.int .u8 0,.int .u8 0,.int .u8 0,.int .u8 0] 97 (0,0)))∧Aside0 (W.heap[g3]?=some (.cells (cB (P176 (L ++ newW L i k))) 97 (0,0)))∧Aside0 (W.heap[g6]?=some (.cells (cB [keyT L i 0,keyT L i 1,keyT L i 2,keyT L i 3]) 103 (0,0)))∧Aside0 (Below w.heap.size w W)) (fun v55 _=>4 - (intOf v55).toNat)
    case atStart=>exact⟨0,zq8,rfl,BK2,⟨zq140⟩,BK6,HB⟩
    case round=>
     clear BK2 BK3 BK6 HB
     obtain⟨k,hk,rfl,BK2,BK3,BK6,HB⟩:=hrel
     by_cases hl:k < 4
     ·have hk4:=zM hl
      have hi16:=zM (show 16≤i by have:=hin.out;omega)
      have hc:=run_index_arr (P:=Try.prog) 103 5 4 Try.underlying103 (by kernel_rfl) Try.underlying5 [keyT L i 0,keyT L i 1,keyT L i 2,keyT L i 3] rfl k hl
      rw[show by_ [keyT L i 0,keyT L i 1,keyT L i 2,keyT L i 3] k=keyT L i k from keyT_at L i k hl] at hc
      have hx:wr.cell? ⟨g3,i+k - 16,none⟩=some (.int .u8 (bI (by_ L (i+k - 16)))):=by rw[blk_cell BK3.out,cB_get _ _ zq120,P176_get _ _ zq123,by_app _ _ _ (by rw[hL.out];omega)]
      have hq:(wr.cell? ⟨g3,i+k,none⟩).isSome=true:=by
       rw[blk_cell BK3.out,cB_get _ _ zq120]
       rfl
      obtain⟨old,hold⟩:=Option.isSome_iff_exists.1 hq
      clear hq
      have hf:=blk_frozen BK3.out (i+k)
      have p1:=eq_true (show (0:Int)≤(i:Int)+(k:Int) by omega)
      have p2:=eq_true (show (i:Int)+(k:Int) < 176 by have:=hi4.out;omega)
      have p3:=eq_true (show (0:Int)≤(i:Int)+(k:Int) - 16 by have:=hi16.out;omega)
      have p4:=eq_true (show (i:Int)+(k:Int) - 16 < 176 by have:=hi4.out;omega)
      have p5:=eq_true (show (16:Int)≤(i:Int)+(k:Int) by have:=hi16.out;omega)
      have s1:Value.int .i64 (IntKind.i64.wrap ((i:Int)+(k:Int)))=.int .i64 ((i:Int)+(k:Int)):=by rw[IntWalk.i64_in _ zq123]
      have s2:Value.int .i64 (IntKind.i64.wrap ((i:Int)+(k:Int) - 16))=.int .i64 ((i:Int)+(k:Int) - 16):=by rw[IntWalk.i64_in _ zq123]
      have n1:∀ g:Nat,(⟨g,((i:Int)+(k:Int)).toNat,none⟩:Addr)=⟨g,i+k,none⟩:=fun g=>by rw[show ((i:Int)+(k:Int)).toNat=i+k by omega]
      have n2:∀ g:Nat,(⟨g,((i:Int)+(k:Int) - 16).toNat,none⟩:Addr)=⟨g,i+k - 16,none⟩:=fun g=>by rw[show ((i:Int)+(k:Int) - 16).toNat=i+k - 16 by omega]
      clear hk
      go_wp2_with (first
        | ((with_reducible refine gate_store (t:=5) (p:=70) rfl ?_);refine cell_event ?hg (t:=5) (p:=70) (v:=?vo_245) ?ho ?hn (i:=i+k) (x:=(.int .u8 (Go.bits .xor .u8 (bI (by_ L (i+k - 16))) (bI (keyT L i k))))) (cs:=(cB (P176 (L ++ newW L i k)))) (g:=g3) (e:=97) ?hk ?hr (cs':=(cB (P176 (L ++ newW L i (k+1))))) ?hc ?_;(case ho=>rfl);(case hg=>rfl);(case hn=>rfl);(case hk=>exact zq9);(case hr=>first|(go_simp;done)|(go_simp;rfl));(case hc=>exact zq141);intro wc hbk hgr;have n0_:=zM (below_grown1 zq0 hgr GE3.out);have n1_:=zM (blk_grown1 (g':=g2) (ob:=.cells #[.int .u8 0,.int .u8 0,.int .u8 0,.int .u8 0,.int .u8 0,.int .u8 0,.int .u8 0,.int .u8 0,.int .u8 0,.int .u8 0,.int .u8 0,.int .u8 0,.int .u8 0,.int .u8 0,.int .u8 0,.int .u8 0,.int .u8 0,.int .u8 0,.int .u8 0,.int .u8 0,.int .u8 0,.int .u8 0,.int .u8 0,.int .u8 0,.int .u8 0,.int .u8 0,.int .u8 0,.int .u8 0,.int .u8 0,.int .u8 0,.int .u8 0,.int .u8 0,.int .u8 0,.int .u8 0,.int .u8 0,.int .u8 0,.int .u8 0,.int .u8 0,.int .u8 0,.int .u8 0,.int .u8 0,.int .u8 0,.int .u8 0,.int .u8 0,.int .u8 0,.int .u8 0,.int .u8 0,.int .u8 0,.int .u8 0,.int .u8 0,.int .u8 0,.int .u8 0,.int .u8 0,.int .u8 0,.int .u8 0,.int .u8 0,.int .u8 0,.int .u8 0,.int .u8 0,.int .u8 0,.int .u8 0,.int .u8 0,.int .u8 0,.int .u8 0,.int .u8 0,.int .u8 0,.int .u8 0,.int .u8 0,.int .u8 0,.int .u8 0,.int .u8 0,.int .u8 0,.int .u8 0,.int .u8 0,.int .u8 0,.int .u8 0,.int .u8 0,.int .u8 0,.int .u8 0,.int .u8 0,.int .u8 0,.int .u8 0,.int .u8 0,.int .u8 0,.int .u8 0,.int .u8 0,.int .u8 0,.int .u8 0,.int .u8 0,.int .u8 0,.int .u8 0,.int .u8 0,.int .u8 0,.int .u8 0,.int .u8 0,.int .u8 0,.int .u8 0,.int .u8 0,.int .u8 0,.int .u8 0,.int .u8 0,.int .u8 0,.int .u8 0,.int .u8 0,.int .u8 0,.int .u8 0,.int .u8 0,.int .u8 0,.int .u8 0,.int .u8 0,.int .u8 0,.int .u8 0,.int .u8 0,.int .u8 0,.int .u8 0,.int .u8 0,.int .u8 0,.int .u8 0,.int .u8 0,.int .u8 0,.int .u8 0,.int .u8 0,.int .u8 0,.int .u8 0,.int .u8 0,.int .u8 0,.int .u8 0,.int .u8 0,.int .u8 0,.int .u8 0,.int .u8 0,.int .u8 0,.int .u8 0,.int .u8 0,.int .u8 0,.int .u8 0,.int .u8 0,.int .u8 0,.int .u8 0,.int .u8 0,.int .u8 0,.int .u8 0,.int .u8 0,.int .u8 0,.int .u8 0,.int .u8 0,.int .u8 0,.int .u8 0,.int .u8 0,.int .u8 0,.int .u8 0,.int .u8 0,.int .u8 0,.int .u8 0,.int .u8 0,.int .u8 0,.int .u8 0,.int .u8 0,.int .u8 0,.int .u8 0,.int .u8 0,.int .u8 0,.int .u8 0,.int .u8 0,.int .u8 0,.int .u8 0,.int .u8 0,.int .u8 0,.int .u8 0,.int .u8 0,.int .u8 0,.int .u8 0,.int .u8 0,.int .u8 0,.int .u8 0,.int .u8 0] 97 (0,0)) zq2 hgr NE2_3.out);have n2_:=zM (blk_grown1 (g':=g6) (ob:=.cells (cB [keyT L i 0,keyT L i 1,keyT L i 2,keyT L i 3]) 103 (0,0)) zq12 hgr (blk_ne zq12 zq9 zq36));have n3_:=zM hbk;clear HB BK2 BK6 BK3;have HB:=n0_;have BK2:=n1_;have BK6:=n2_;have BK3:=n3_;clear n0_ n1_ n2_ n3_;clear hbk hgr))
      go_roundw
      case rel=>exact⟨k+1,by have:=hk4.out;omega,by go_num,BK2,BK3,BK6,HB⟩
      case measure=>simp[intOf];have:=hk4.out;omega
     ·obtain rfl:k=4:=by omega
      go_wp2
      go_roundw
      case rel=>exact⟨n+1,i+4,⟨zq190⟩,by have:=hn.out;omega,by go_num,zq186,BK2,⟨zq149⟩,HB⟩
      case measure=>simp[intOf];have:=hin.out;have:=hn.out;omega
   ·have e16:¬ Int.tmod (i:Int) 16=0:=by rw[Int.tmod_eq_emod_of_nonneg zq8];omega
    have hmz:(Int.tmod (i:Int) 16 == 0)=false:=beq_eq_false_iff_ne.mpr e16
    have hmz2:((i:Int) % 16 == 0)=false:=by rw[beq_eq_false_iff_ne];omega
    have hmz3:decide (Int.tmod (i:Int) 16=0)=false:=decide_eq_false e16
    have h16:=zM h16a
    have hi16:=zM hi0
    clear h16a
    have hc4:wr.cell? ⟨g3,i - 4,none⟩=some (.int .u8 (bI (by_ L (i - 4)))):=by rw[blk_cell BK3.out,cB_get _ _ zq105,P176_get _ _ zq8]
    have hc3:wr.cell? ⟨g3,i - 3,none⟩=some (.int .u8 (bI (by_ L (i - 3)))):=by rw[blk_cell BK3.out,cB_get _ _ zq105,P176_get _ _ zq8]
    have hc2:wr.cell? ⟨g3,i - 2,none⟩=some (.int .u8 (bI (by_ L (i - 2)))):=by rw[blk_cell BK3.out,cB_get _ _ zq105,P176_get _ _ zq8]
    have hc1:wr.cell? ⟨g3,i - 1,none⟩=some (.int .u8 (bI (by_ L (i - 1)))):=by rw[blk_cell BK3.out,cB_get _ _ zq105,P176_get _ _ zq8]
    have p4:=eq_true (show (0:Int)≤(i:Int) - 4 by omega)
    have q4:=eq_true (show (i:Int) - 4 < 176 by omega)
    have r4:4≤i:=by omega
    have u4:=eq_true (show (4:Int)≤(i:Int) by omega)
    have s4:Value.int .i64 (IntKind.i64.wrap ((i:Int) - 4))=.int .i64 ((i:Int) - 4):=by rw[IntWalk.i64_in _ zq8]
    have n4:∀ g:Nat,(⟨g,((i:Int) - 4).toNat,none⟩:Addr)=⟨g,i - 4,none⟩:=fun g=>by rw[show ((i:Int) - 4).toNat=i - 4 by omega]
    have p3:=eq_true (show (0:Int)≤(i:Int) - 3 by omega)
    have q3:=eq_true (show (i:Int) - 3 < 176 by omega)
    have r3:3≤i:=by omega
    have u3:=eq_true (show (3:Int)≤(i:Int) by omega)
    have s3:Value.int .i64 (IntKind.i64.wrap ((i:Int) - 3))=.int .i64 ((i:Int) - 3):=by rw[IntWalk.i64_in _ zq8]
    have n3:∀ g:Nat,(⟨g,((i:Int) - 3).toNat,none⟩:Addr)=⟨g,i - 3,none⟩:=fun g=>by rw[show ((i:Int) - 3).toNat=i - 3 by omega]
    have p2:=eq_true (show (0:Int)≤(i:Int) - 2 by omega)
    have q2:=eq_true (show (i:Int) - 2 < 176 by omega)
    have r2:2≤i:=by omega
    have u2:=eq_true (show (2:Int)≤(i:Int) by omega)
    have s2:Value.int .i64 (IntKind.i64.wrap ((i:Int) - 2))=.int .i64 ((i:Int) - 2):=by rw[IntWalk.i64_in _ zq8]
    have n2:∀ g:Nat,(⟨g,((i:Int) - 2).toNat,none⟩:Addr)=⟨g,i - 2,none⟩:=fun g=>by rw[show ((i:Int) - 2).toNat=i - 2 by omega]
    have p1:=eq_true (show (0:Int)≤(i:Int) - 1 by omega)
    have q1:=eq_true (show (i:Int) - 1 < 176 by omega)
    have r1:1≤i:=by omega
    have u1:=eq_true (show (1:Int)≤(i:Int) by omega)
    have s1:Value.int .i64 (IntKind.i64.wrap ((i:Int) - 1))=.int .i64 ((i:Int) - 1):=by rw[IntWalk.i64_in _ zq8]
    have n1:∀ g:Nat,(⟨g,((i:Int) - 1).toNat,none⟩:Addr)=⟨g,i - 1,none⟩:=fun g=>by rw[show ((i:Int) - 1).toNat=i - 1 by omega]
    have hpos:0 < i:=by omega
    go_wp2_with fail
    have e4:=World.new_ne wr _ hc4
    have e3:=World.new_ne wr _ hc3
    have e2:=World.new_ne wr _ hc2
    have e1:=World.new_ne wr _ hc1
    go_region_held3 (fun w'=>w'.cell? ⟨g3,i - 4,none⟩=some (.int .u8 (bI (by_ L (i - 4))))∧w'.cell? ⟨g3,i - 3,none⟩=some (.int .u8 (bI (by_ L (i - 3))))∧w'.cell? ⟨g3,i - 2,none⟩=some (.int .u8 (bI (by_ L (i - 2))))∧w'.cell? ⟨g3,i - 1,none⟩=some (.int .u8 (bI (by_ L (i - 1))))) (go_keep) (fail)
    clear e4 e3 e2 e1
    have n0_:=zM (blk_drew (blk_alloc BK2.out (.cells #[.int .u8 (bI (by_ L (i - 4))),.int .u8 (bI (by_ L (i - 3))),.int .u8 (bI (by_ L (i - 2))),.int .u8 (bI (by_ L (i - 1)))] 103)))
    have m0_:=zM (blk_drew (blk_alloc BK3.out (.cells #[.int .u8 (bI (by_ L (i - 4))),.int .u8 (bI (by_ L (i - 3))),.int .u8 (bI (by_ L (i - 2))),.int .u8 (bI (by_ L (i - 1)))] 103)))
    have n1_:Aside0 ((wr.alloc (.cells #[.int .u8 (bI (by_ L (i - 4))),.int .u8 (bI (by_ L (i - 3))),.int .u8 (bI (by_ L (i - 2))),.int .u8 (bI (by_ L (i - 1)))] 103)).drew.heap[wr.heap.size]?=some (.cells #[.int .u8 (bI (by_ L (i - 4))),.int .u8 (bI (by_ L (i - 3))),.int .u8 (bI (by_ L (i - 2))),.int .u8 (bI (by_ L (i - 1)))] 103 (0,0))):=⟨blk_drew zq78⟩
    have n2_:=zM (below_drew1 (below_alloc HB.out (.cells #[.int .u8 (bI (by_ L (i - 4))),.int .u8 (bI (by_ L (i - 3))),.int .u8 (bI (by_ L (i - 2))),.int .u8 (bI (by_ L (i - 1)))] 103)))
    have GE6:=zM (below_size HB.out)
    clear r4 r3 r2 r1 u4 u3 u2 u1 hpos hc4 hc3 hc2 hc1 p4 p3 p2 p1 q4 q3 q2 q1 s4 s3 s2 s1 n4 n3 n2 n1
    clear BK2 BK3 HB
    generalize wr.heap.size=g6 at n1_ GE6 ⊢
    generalize (wr.alloc (.cells #[.int .u8 (bI (by_ L (i - 4))),.int .u8 (bI (by_ L (i - 3))),.int .u8 (bI (by_ L (i - 2))),.int .u8 (bI (by_ L (i - 1)))] 103)).drew=wr_ at n0_ m0_ n1_ n2_ ⊢
    have BK2:=n0_
    have BK3:=m0_
    have BK6:Aside0 (wr_.heap[g6]?=some (.cells (cB [by_ L (i - 4),by_ L (i - 3),by_ L (i - 2),by_ L (i - 1)]) 103 (0,0))):=n1_
    have HB:=n2_
    clear n0_ m0_ n1_ n2_
    have ht0:wr_.cell? ⟨g6,0,none⟩=some (.int .u8 (bI (by_ L (i - 4)))):=by rw[blk_cell BK6.out];rfl
    have ht1:wr_.cell? ⟨g6,1,none⟩=some (.int .u8 (bI (by_ L (i - 3)))):=by rw[blk_cell BK6.out];rfl
    have ht2:wr_.cell? ⟨g6,2,none⟩=some (.int .u8 (bI (by_ L (i - 2)))):=by rw[blk_cell BK6.out];rfl
    have ht3:wr_.cell? ⟨g6,3,none⟩=some (.int .u8 (bI (by_ L (i - 1)))):=by rw[blk_cell BK6.out];rfl
    go_wp2_with (first
      | ((with_reducible refine gate_dst (N:=54) rfl ?_);refine wpList_load_row ?hg 103 (.tmp 6) ?ho g6 ?hx 103 (cB [by_ L (i - 4),by_ L (i - 3),by_ L (i - 2),by_ L (i - 1)]) (0,0) _ ?hk Try.underlying103 rfl ?hi ?_;(case hg=>rfl);(case ho=>rfl);(case hx=>rfl);(case hk=>exact zq12);(case hi=>kernel_rfl)))
    go_loopw [55] (fun v55 W=>∃ k:Nat,k≤4∧v55=.int .i64 k∧Aside0 (W.heap[g2]?=some (.cells #[.int .u8 0,.int .u8 0,.int .u8 0,.int .u8 0,.int .u8 0,.int .u8 0,.int .u8 0,.int .u8 0,.int .u8 0,.int .u8 0,.int .u8 0,.int .u8 0,.int .u8 0,.int .u8 0,.int .u8 0,.int .u8 0,.int .u8 0,.int .u8 0,.int .u8 0,.int .u8 0,.int .u8 0,.int .u8 0,.int .u8 0,.int .u8 0,.int .u8 0,.int .u8 0,.int .u8 0,.int .u8 0,.int .u8 0,.int .u8 0,.int .u8 0,.int .u8 0,.int .u8 0,.int .u8 0,.int .u8 0,.int .u8 0,.int .u8 0,.int .u8 0,.int .u8 0,.int .u8 0,.int .u8 0,.int .u8 0,.int .u8 0,.int .u8 0,.int .u8 0,.int .u8 0,.int .u8 0,.int .u8 0,.int .u8 0,.int .u8 0,.int .u8 0,.int .u8 0,.int .u8 0,.int .u8 0,.int .u8 0,.int .u8 0,.int .u8 0,.int .u8 0,.int .u8 0,.int .u8 0,.int .u8 0,.int .u8 0,.int .u8 0,.int .u8 0,.int .u8 0,.int .u8 0,.int .u8 0,.int .u8 0,.int .u8 0,.int .u8 0,.int .u8 0,.int .u8 0,.int .u8 0,.int .u8 0,.int .u8 0,.int .u8 0,.int .u8 0,.int .u8 0,.int .u8 0,.int .u8 0,.int .u8 0,.int .u8 0,.int .u8 0,.int .u8 0,.int .u8 0,.int .u8 0,.int .u8 0,.int .u8 0,.int .u8 0,.int .u8 0,.int .u8 0,.int .u8 0,.int .u8 0,.int .u8 0,.int .u8 0,.int .u8 0,.int .u8 0,.int .u8 0,.int .u8 0,.int .u8 0,.int .u8 0,.int .u8 0,.int .u8 0,.int .u8 0,.int .u8 0,.int .u8 0,.int .u8 0,.int .u8 0,.int .u8 0,.int .u8 0,.int .u8 0,.int .u8 0,.int .u8 0,.int .u8 0,.int .u8 0,.int .u8 0,.int .u8 0,.int .u8 0,.int .u8 0,.int .u8 0,.int .u8 0,.int .u8 0,.int .u8 0,.int .u8 0,.int .u8 0,.int .u8 0,.int .u8 0,.int .u8 0,.int .u8 0,.int .u8 0,.int .u8 0,.int .u8 0,.int .u8 0,.int .u8 0,.int .u8 0,.int .u8 0,.int .u8 0,.int .u8 0,.int .u8 0,.int .u8 0,.int .u8 0,.int .u8 0,.int .u8 0,.int .u8 0,.int .u8 0,.int .u8 0,.int .u8 0,.int .u8 0,.int .u8 0,.int .u8 0,.int .u8 0,.int .u8 0,.int .u8 0,.int .u8 0,.int .u8 0,.int .u8 0,.int .u8 0,.int .u8 0,.int .u8 0,.int .u8 0,.int .u8 0,.int .u8 0,.int .u8 0,.int .u8 0,.int .u8 0,.int .u8 0,.int .u8 0,.int .u8 0,.int .u8 0,.int .u8 0,.int .u8 0,.int .u8 0,.int .u8 0,.int .u8 0,.int .u8 0,.int .u8 0] 97 (0,0)))∧Aside0 (W.heap[g3]?=some (.cells (cB (P176 (L ++ newW L i k))) 97 (0,0)))∧Aside0 (W.heap[g6]?=some (.cells (cB [by_ L (i - 4),by_ L (i - 3),by_ L (i - 2),by_ L (i - 1)]) 103 (0,0)))∧Aside0 (Below w.heap.size w W)) (fun v55 _=>4 - (intOf v55).toNat)
    case atStart=>exact⟨0,zq8,rfl,BK2,⟨zq140⟩,BK6,HB⟩
    case round=>
     clear BK2 BK3 BK6 HB
     obtain⟨k,hk,rfl,BK2,BK3,BK6,HB⟩:=hrel
     by_cases hl:k < 4
     ·have hk4:=zM hl
      have hi16:=zM (show 16≤i by have:=hin.out;omega)
      have hc:=run_index_arr (P:=Try.prog) 103 5 4 Try.underlying103 (by kernel_rfl) Try.underlying5 [by_ L (i - 4),by_ L (i - 3),by_ L (i - 2),by_ L (i - 1)] rfl k hl
      rw[show by_ [by_ L (i - 4),by_ L (i - 3),by_ L (i - 2),by_ L (i - 1)] k=keyT L i k from zq189] at hc
      have hx:wr.cell? ⟨g3,i+k - 16,none⟩=some (.int .u8 (bI (by_ L (i+k - 16)))):=by rw[blk_cell BK3.out,cB_get _ _ zq120,P176_get _ _ zq123,by_app _ _ _ (by rw[hL.out];omega)]
      have hq:(wr.cell? ⟨g3,i+k,none⟩).isSome=true:=by
       rw[blk_cell BK3.out,cB_get _ _ zq120]
       rfl
      obtain⟨old,hold⟩:=Option.isSome_iff_exists.1 hq
      clear hq
      have hf:=blk_frozen BK3.out (i+k)
      have p1:=eq_true (show (0:Int)≤(i:Int)+(k:Int) by omega)
      have p2:=eq_true (show (i:Int)+(k:Int) < 176 by have:=hi4.out;omega)
      have p3:=eq_true (show (0:Int)≤(i:Int)+(k:Int) - 16 by have:=hi16.out;omega)
      have p4:=eq_true (show (i:Int)+(k:Int) - 16 < 176 by have:=hi4.out;omega)
      have p5:=eq_true (show (16:Int)≤(i:Int)+(k:Int) by have:=hi16.out;omega)
      have s1:Value.int .i64 (IntKind.i64.wrap ((i:Int)+(k:Int)))=.int .i64 ((i:Int)+(k:Int)):=by rw[IntWalk.i64_in _ zq123]
      have s2:Value.int .i64 (IntKind.i64.wrap ((i:Int)+(k:Int) - 16))=.int .i64 ((i:Int)+(k:Int) - 16):=by rw[IntWalk.i64_in _ zq123]
      have n1:∀ g:Nat,(⟨g,((i:Int)+(k:Int)).toNat,none⟩:Addr)=⟨g,i+k,none⟩:=fun g=>by rw[show ((i:Int)+(k:Int)).toNat=i+k by omega]
      have n2:∀ g:Nat,(⟨g,((i:Int)+(k:Int) - 16).toNat,none⟩:Addr)=⟨g,i+k - 16,none⟩:=fun g=>by rw[show ((i:Int)+(k:Int) - 16).toNat=i+k - 16 by omega]
      clear hk
      go_wp2_with (first
        | ((with_reducible refine gate_store (t:=5) (p:=70) rfl ?_);refine cell_event ?hg (t:=5) (p:=70) (v:=?vo_247) ?ho ?hn (i:=i+k) (x:=(.int .u8 (Go.bits .xor .u8 (bI (by_ L (i+k - 16))) (bI (keyT L i k))))) (cs:=(cB (P176 (L ++ newW L i k)))) (g:=g3) (e:=97) ?hk ?hr (cs':=(cB (P176 (L ++ newW L i (k+1))))) ?hc ?_;(case ho=>rfl);(case hg=>rfl);(case hn=>rfl);(case hk=>exact zq9);(case hr=>first|(go_simp;done)|(go_simp;rfl));(case hc=>exact zq141);intro wc hbk hgr;have n0_:=zM (below_grown1 zq0 hgr GE3.out);have n1_:=zM (blk_grown1 (g':=g2) (ob:=.cells #[.int .u8 0,.int .u8 0,.int .u8 0,.int .u8 0,.int .u8 0,.int .u8 0,.int .u8 0,.int .u8 0,.int .u8 0,.int .u8 0,.int .u8 0,.int .u8 0,.int .u8 0,.int .u8 0,.int .u8 0,.int .u8 0,.int .u8 0,.int .u8 0,.int .u8 0,.int .u8 0,.int .u8 0,.int .u8 0,.int .u8 0,.int .u8 0,.int .u8 0,.int .u8 0,.int .u8 0,.int .u8 0,.int .u8 0,.int .u8 0,.int .u8 0,.int .u8 0,.int .u8 0,.int .u8 0,.int .u8 0,.int .u8 0,.int .u8 0,.int .u8 0,.int .u8 0,.int .u8 0,.int .u8 0,.int .u8 0,.int .u8 0,.int .u8 0,.int .u8 0,.int .u8 0,.int .u8 0,.int .u8 0,.int .u8 0,.int .u8 0,.int .u8 0,.int .u8 0,.int .u8 0,.int .u8 0,.int .u8 0,.int .u8 0,.int .u8 0,.int .u8 0,.int .u8 0,.int .u8 0,.int .u8 0,.int .u8 0,.int .u8 0,.int .u8 0,.int .u8 0,.int .u8 0,.int .u8 0,.int .u8 0,.int .u8 0,.int .u8 0,.int .u8 0,.int .u8 0,.int .u8 0,.int .u8 0,.int .u8 0,.int .u8 0,.int .u8 0,.int .u8 0,.int .u8 0,.int .u8 0,.int .u8 0,.int .u8 0,.int .u8 0,.int .u8 0,.int .u8 0,.int .u8 0,.int .u8 0,.int .u8 0,.int .u8 0,.int .u8 0,.int .u8 0,.int .u8 0,.int .u8 0,.int .u8 0,.int .u8 0,.int .u8 0,.int .u8 0,.int .u8 0,.int .u8 0,.int .u8 0,.int .u8 0,.int .u8 0,.int .u8 0,.int .u8 0,.int .u8 0,.int .u8 0,.int .u8 0,.int .u8 0,.int .u8 0,.int .u8 0,.int .u8 0,.int .u8 0,.int .u8 0,.int .u8 0,.int .u8 0,.int .u8 0,.int .u8 0,.int .u8 0,.int .u8 0,.int .u8 0,.int .u8 0,.int .u8 0,.int .u8 0,.int .u8 0,.int .u8 0,.int .u8 0,.int .u8 0,.int .u8 0,.int .u8 0,.int .u8 0,.int .u8 0,.int .u8 0,.int .u8 0,.int .u8 0,.int .u8 0,.int .u8 0,.int .u8 0,.int .u8 0,.int .u8 0,.int .u8 0,.int .u8 0,.int .u8 0,.int .u8 0,.int .u8 0,.int .u8 0,.int .u8 0,.int .u8 0,.int .u8 0,.int .u8 0,.int .u8 0,.int .u8 0,.int .u8 0,.int .u8 0,.int .u8 0,.int .u8 0,.int .u8 0,.int .u8 0,.int .u8 0,.int .u8 0,.int .u8 0,.int .u8 0,.int .u8 0,.int .u8 0,.int .u8 0,.int .u8 0,.int .u8 0,.int .u8 0,.int .u8 0,.int .u8 0,.int .u8 0,.int .u8 0,.int .u8 0,.int .u8 0,.int .u8 0,.int .u8 0,.int .u8 0] 97 (0,0)) zq2 hgr NE2_3.out);have n2_:=zM (blk_grown1 (g':=g6) (ob:=.cells (cB [by_ L (i - 4),by_ L (i - 3),by_ L (i - 2),by_ L (i - 1)]) 103 (0,0)) zq12 hgr (blk_ne zq12 zq9 zq36));have n3_:=zM hbk;clear HB BK2 BK6 BK3;have HB:=n0_;have BK2:=n1_;have BK6:=n2_;have BK3:=n3_;clear n0_ n1_ n2_ n3_;clear hbk hgr))
      go_roundw
      case rel=>exact⟨k+1,by have:=hk4.out;omega,by go_num,BK2,BK3,BK6,HB⟩
      case measure=>simp[intOf];have:=hk4.out;omega
     ·obtain rfl:k=4:=by omega
      go_wp2
      go_roundw
      case rel=>exact⟨n+1,i+4,⟨zq190⟩,by have:=hn.out;omega,by go_num,zq191,BK2,⟨zq149⟩,HB⟩
      case measure=>simp[intOf];have:=hin.out;have:=hn.out;omega
  ·obtain rfl:n=40:=by omega
   have hge:decide ((i:Int) < 176)=false:=decide_eq_false zq190
   rw[P176_sched m hm.out] at BK3
   go_wp2_with (first
     | ((with_reducible refine gate_dst (N:=72) rfl ?_);refine wpList_load_row ?hg 97 (.tmp 3) ?ho g3 ?hx 97 (cB (schedL m)) (0,0) _ ?hk Try.underlying97 rfl ?hi ?_;(case hg=>rfl);(case ho=>rfl);(case hx=>rfl);(case hk=>exact zq9);(case hi=>rw[cB_size,schedL_length m hm.out];kernel_rfl))
     | ((with_reducible refine gate_store (t:=97) (p:=2) rfl ?_);refine row_event ?hg (ty:=97) (p:=2) (y:=?yo_249) ?ho ?hn (g:=g2) (old:=#[.int .u8 0,.int .u8 0,.int .u8 0,.int .u8 0,.int .u8 0,.int .u8 0,.int .u8 0,.int .u8 0,.int .u8 0,.int .u8 0,.int .u8 0,.int .u8 0,.int .u8 0,.int .u8 0,.int .u8 0,.int .u8 0,.int .u8 0,.int .u8 0,.int .u8 0,.int .u8 0,.int .u8 0,.int .u8 0,.int .u8 0,.int .u8 0,.int .u8 0,.int .u8 0,.int .u8 0,.int .u8 0,.int .u8 0,.int .u8 0,.int .u8 0,.int .u8 0,.int .u8 0,.int .u8 0,.int .u8 0,.int .u8 0,.int .u8 0,.int .u8 0,.int .u8 0,.int .u8 0,.int .u8 0,.int .u8 0,.int .u8 0,.int .u8 0,.int .u8 0,.int .u8 0,.int .u8 0,.int .u8 0,.int .u8 0,.int .u8 0,.int .u8 0,.int .u8 0,.int .u8 0,.int .u8 0,.int .u8 0,.int .u8 0,.int .u8 0,.int .u8 0,.int .u8 0,.int .u8 0,.int .u8 0,.int .u8 0,.int .u8 0,.int .u8 0,.int .u8 0,.int .u8 0,.int .u8 0,.int .u8 0,.int .u8 0,.int .u8 0,.int .u8 0,.int .u8 0,.int .u8 0,.int .u8 0,.int .u8 0,.int .u8 0,.int .u8 0,.int .u8 0,.int .u8 0,.int .u8 0,.int .u8 0,.int .u8 0,.int .u8 0,.int .u8 0,.int .u8 0,.int .u8 0,.int .u8 0,.int .u8 0,.int .u8 0,.int .u8 0,.int .u8 0,.int .u8 0,.int .u8 0,.int .u8 0,.int .u8 0,.int .u8 0,.int .u8 0,.int .u8 0,.int .u8 0,.int .u8 0,.int .u8 0,.int .u8 0,.int .u8 0,.int .u8 0,.int .u8 0,.int .u8 0,.int .u8 0,.int .u8 0,.int .u8 0,.int .u8 0,.int .u8 0,.int .u8 0,.int .u8 0,.int .u8 0,.int .u8 0,.int .u8 0,.int .u8 0,.int .u8 0,.int .u8 0,.int .u8 0,.int .u8 0,.int .u8 0,.int .u8 0,.int .u8 0,.int .u8 0,.int .u8 0,.int .u8 0,.int .u8 0,.int .u8 0,.int .u8 0,.int .u8 0,.int .u8 0,.int .u8 0,.int .u8 0,.int .u8 0,.int .u8 0,.int .u8 0,.int .u8 0,.int .u8 0,.int .u8 0,.int .u8 0,.int .u8 0,.int .u8 0,.int .u8 0,.int .u8 0,.int .u8 0,.int .u8 0,.int .u8 0,.int .u8 0,.int .u8 0,.int .u8 0,.int .u8 0,.int .u8 0,.int .u8 0,.int .u8 0,.int .u8 0,.int .u8 0,.int .u8 0,.int .u8 0,.int .u8 0,.int .u8 0,.int .u8 0,.int .u8 0,.int .u8 0,.int .u8 0,.int .u8 0,.int .u8 0,.int .u8 0,.int .u8 0,.int .u8 0,.int .u8 0,.int .u8 0,.int .u8 0,.int .u8 0,.int .u8 0,.int .u8 0]) (e:=97) (cells:=(cB (schedL m))) ?hx ?hy ?hk ?hi ?hd ?h1 ?_;(case ho=>rfl);(case hg=>rfl);(case hn=>rfl);(case hx=>rfl);(case hy=>rfl);(case hk=>exact zq2);(case hi=>rw[cB_size,schedL_length m hm.out];kernel_rfl);(case hd=>rw[cB_size,schedL_length m hm.out];rfl);(case h1=>exact cB_one _);intro wr_ hbk hgr;have n0_:=zM (below_grown1 zq0 hgr GE2.out);have n1_:=zM (blk_grown1 (g':=g3) (ob:=.cells (cB (schedL m)) 97 (0,0)) zq9 hgr NE3_2.out);have n2_:=zM hbk;clear HB BK3 BK2;have HB:=n0_;have BK3:=n1_;have BK2:=n2_;clear n0_ n1_ n2_;clear hbk hgr))
   refine bodyPost_ret (results_cell_row rfl _ _ g2 97 (cB (schedL m)) (0,0) _ rfl zq2 Try.underlying97 rfl (by rw[cB_size,schedL_length m hm.out];kernel_rfl)) rfl ?_
   exact⟨rfl,HB.out⟩
end Go.Proofs.Ytdbanjdnjhflcaa.All
