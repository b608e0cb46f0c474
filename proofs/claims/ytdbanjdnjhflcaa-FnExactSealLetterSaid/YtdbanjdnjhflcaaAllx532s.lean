-- Laid by wip/shake.py of this repo out of this claim's texts. Not trusted: Lean checks it.
import Derived.Test.YtdbanjdnjhflcaaAb0s
import Derived.Test.YtdbanjdnjhflcaaAlgs
import Derived.Lib.SliceRun
set_option linter.unusedSimpArgs false
set_option linter.unusedVariables false
namespace Go.Proofs.Ytdbanjdnjhflcaa.All
open Go.Proofs.YtdbanjdnjhflcaaW.PrintWords.Aside0 renaming mk→zM
open Go.RowKit Go.Proofs.YtdbanjdnjhflcaaW.PrintWords Go.Proofs.YtdbanjdnjhflcaaW.PrintLast Go.Proofs.YtdbanjdnjhflcaaW.PrintMore
attribute [local go_sem] max2_int min2_int max_two min_two max_three min_three max_four min_four
def encR (ks m:List (BitVec 8)) (R:Nat):List (BitVec 8):=if R≤10 then encTo ks m (R - 1) else encL ks m
theorem encR_length (ks m:List (BitVec 8)) (R:Nat):(encR ks m R).length=16:=by unfold encR;split;exact encTo_length _ _ _;exact encL_length _ _
theorem shift_ref (X:List (BitVec 8)):tab 16 (fun j=>SB (by_ X ((j+4*(j % 4)) % 16)))=shiftL (subL X):=by
 unfold shiftL
 refine tab_congr fun j hj=>?_
 unfold subL
 rw[tab_get _ _ _ zq8,show (j+4*(j % 4)) % 16=j % 4+4*((j / 4+j % 4) % 4) by omega]
theorem enc_last (ks m:List (BitVec 8)) (c i:Nat) (h:c+i < 16):by_ (encR ks m (10+1)) (c+i)=by_ (shiftL (subL (encR ks m 10))) (c+i) ^^^ by_ ks (16*10+c+i):=by
 unfold encR
 rw[if_neg zq8,if_pos zq8]
 show by_ (addL ks 10 (shiftL (subL (encTo ks m 9)))) (c+i)=_
 unfold addL
 rw[tab_get _ _ _ h,show 16*10+(c+i)=16*10+c+i by omega]
theorem mix_ref4 (a b c d x:BitVec 8) (hx:x=a ^^^ b ^^^ c ^^^ d):xt a ^^^ xt b ^^^ b ^^^ c ^^^ d=a ^^^ x ^^^ xt (a ^^^ b):=by
 subst hx
 rw[xt_add]
 apply BitVec.eq_of_getLsbD_eq
 intro i _
 simp only[BitVec.getLsbD_xor]
 generalize a.getLsbD i=p
 generalize b.getLsbD i=q
 generalize c.getLsbD i=r
 generalize d.getLsbD i=s
 generalize (xt a).getLsbD i=u
 generalize (xt b).getLsbD i=v
 revert p q r s u v
 decide
theorem xor_turn (a b c d:BitVec 8):a ^^^ b ^^^ c ^^^ d=b ^^^ c ^^^ d ^^^ a:=by
 rw[BitVec.xor_assoc (a ^^^ b),BitVec.xor_assoc a,BitVec.xor_comm a,← BitVec.xor_assoc b]
theorem mixAt_ref (Y:List (BitVec 8)) (c i:Nat) (hc:c % 4=0) (hi:i < 4):mixAt Y (c+i)=by_ Y (c+i) ^^^ (by_ Y c ^^^ by_ Y (c+1) ^^^ by_ Y (c+2) ^^^ by_ Y (c+3)) ^^^ xt (by_ Y (c+i) ^^^ by_ Y (c+(i+1) % 4)):=by
 rw[mixAt_eq Y c i hc hi]
 have:i=0 ∨ i=1 ∨ i=2 ∨ i=3:=by omega
 rcases this with rfl|rfl|rfl|rfl
 ·exact mix_ref4 _ _ _ _ _ rfl
 ·exact mix_ref4 _ _ _ _ _ (xor_turn _ _ _ _)
 ·exact mix_ref4 _ _ _ _ _ ((xor_turn _ _ _ _).trans (xor_turn _ _ _ _))
 ·exact mix_ref4 _ _ _ _ _ (((xor_turn _ _ _ _).trans (xor_turn _ _ _ _)).trans (xor_turn _ _ _ _))
theorem xor_move (a k x d:BitVec 8):a ^^^ k ^^^ x ^^^ d=a ^^^ x ^^^ d ^^^ k:=by
 rw[BitVec.xor_assoc (a ^^^ k),BitVec.xor_assoc a,BitVec.xor_comm k,← BitVec.xor_assoc a,← BitVec.xor_assoc a]
theorem enc_mid (ks m:List (BitVec 8)) (R c i:Nat) (h1:1≤R) (hR:R < 10) (hc:c % 4=0) (hi:i < 4) (h:c+i < 16) (Y:List (BitVec 8)) (hY:Y=shiftL (subL (encR ks m R))) :
  by_ (encR ks m (R+1)) (c+i)=by_ Y (c+i) ^^^ by_ ks (16*R+c+i) ^^^ (by_ Y c ^^^ by_ Y (c+1) ^^^ by_ Y (c+2) ^^^ by_ Y (c+3)) ^^^ xt (by_ Y (c+i) ^^^ by_ Y (c+(i+1) % 4)):=by
 subst hY
 have e:encR ks m (R+1)=addL ks R (mixL (shiftL (subL (encR ks m R)))):=by
  unfold encR
  rw[if_pos zq8,if_pos zq8]
  obtain⟨q,rfl⟩:∃ q,R=q+1:=⟨R - 1,zq8⟩
  rfl
 rw[e]
 generalize shiftL (subL (encR ks m R))=Y
 unfold addL mixL
 rw[tab_get _ _ _ h,tab_get _ _ _ h,mixAt_ref Y c i hc hi,show 16*R+(c+i)=16*R+c+i by omega]
 exact(xor_move _ _ _ _).symm
theorem at_slice {w:World} {A:Option Addr} {m:List (BitVec 8)} (h:Kd.C (Kd.int .u8) w A m.length (bL m)) (h0:0 < m.length):∃ ad,A=some ad∧∀ j,j < m.length→w.cell? (ad.add j)=some (.int .u8 (bI (by_ m j))):=by
 obtain⟨ad,e,_⟩:=Kd.at_int h 0 zq8 zq8
 refine⟨ad,e,fun j hj=>?_⟩
 subst e
 obtain⟨ad2,e2,hc⟩:=Kd.at_int h (j:Int) zq8 zq8
 injection e2 with e2
 subst e2
 rw[Int.toNat_natCast,rd_bL,Int.toNat_natCast] at hc
 exact hc
set_option maxHeartbeats 4000000 in
set_option maxRecDepth 100000 in
theorem subByte_enc (b:BitVec 8) (w:World):Calls Try.prog 73 #[.int .u8 (bI b)] w fun e w'=>e=.returned (.int .u8 (bI (SB b)))∧w'=w:=by
 go_enter Try.func73,Try.ntmps73
 go_wp2_with (first
  | ((with_reducible refine gate_dst (N:=4) rfl ?_);refine wp_index_box ?hg 9 ?s_281 (.tmp 3) ?ho Try.underlying9 ?hs b ?hi ?_;(case hg=>rfl);(case ho=>rfl);(case hs=>kernel_rfl);(case hi=>rfl)))
 go_ret
 exact⟨rfl,rfl⟩
set_option maxHeartbeats 4000000 in
set_option maxRecDepth 100000 in
theorem double_enc (b:BitVec 8) (w:World):Calls Try.prog 90 #[.int .u8 (bI b)] w fun e w'=>e=.returned (.int .u8 (bI (xt b)))∧w'=w:=by
 have h:=of_all8 (p:=fun a=>decide (Go.bits .xor .u8 ((bI a*2) % 256) (((bI a / 128)*27) % 256)=bI (xt a))) zq188 b
 have hd:=zM (of_decide_eq_true h)
 clear h
 have h0:=bI_lo b
 have h1:=bI_hi b
 generalize bI b=x at *
 go_enter Try.func90,Try.ntmps90
 go_wp2
 go_ret
 refine⟨?_,rfl⟩
 rw[← hd.out,show x / 128*27 % 256=x / 128*27 by omega]
 rfl
theorem double_pair (a b:BitVec 8) (w:World):Calls Try.prog 90 #[.int .u8 (Go.bits .xor .u8 (bI a) (bI b))] w fun e w'=>e=.returned (.int .u8 (bI (xt (a ^^^ b))))∧w'=w:=by
 rw[bI_xor]
 exact double_enc _ w
theorem enc_row {w:World} {g:Nat} {bt:TypeId} {m:List (BitVec 8)} (hn:m.length=16) (h:w.heap[g]?=some (.cells (cB m) bt (0,0))):Kd.C (Kd.int .u8) w (some ⟨g,0,none⟩) (bL m).length (bL m):=by
 exact(Kd.R_reads' (R_block (base:=0) h (Nat.zero_le _) hn zq8)).2.2
set_option maxHeartbeats 4000000 in
set_option maxRecDepth 100000 in
theorem l2Encrypt_here (ad0:Addr) (c0:Nat) (ks:List (BitVec 8)) (hk0:ks.length=176) (ad1:Addr) (c1:Nat) (m:List (BitVec 8)) (hm0:m.length=16) (w:World)
  (hr0:∀ j,j < 176→w.cell? (ad0.add j)=some (.int .u8 (bI (by_ ks j)))) (hr1:∀ j,j < 16→w.cell? (ad1.add j)=some (.int .u8 (bI (by_ m j)))) :
  Calls Try.prog 75 #[.slice (some ad0) 176 c0,.slice (some ad1) 16 c1] w fun e w'=>∃ v0_:Value,e=.returned v0_∧Kd.R (Kd.int .u8) 5 w' w.heap.size (fun _=>True) v0_ (bL (encL ks m))∧Below w.heap.size w w':=by
 have hk:=zM hk0
 have hm:=zM hm0
 have HR0:=zM hr0
 have HR1:=zM hr1
 clear hk0 hm0 hr0 hr1
 have HB:=zM (Below.refl w.heap.size w)
 go_enter Try.func75,Try.ntmps75
 go_wp2_with (first
  | ((with_reducible refine gate_dst (N:=5) rfl ?_);refine box_event ?hg (N:=5) ?hd (cs:=#[.int .u8 0,.int .u8 0,.int .u8 0,.int .u8 0,.int .u8 0,.int .u8 0,.int .u8 0,.int .u8 0,.int .u8 0,.int .u8 0,.int .u8 0,.int .u8 0,.int .u8 0,.int .u8 0,.int .u8 0,.int .u8 0]) (t:=87) ?hr ?_;(case hd=>rfl);(case hg=>rfl);(case hr=>first|(go_simp;done)|(go_simp;rfl));intro g5 hg w5 hbox hb;have n0_:=zM (below_step zq0 hb);have n1_:=zM hbox;have n2_:=zM (by rw[hg];exact below_size zq0:w.heap.size≤g5);clear HB;have HB:=n0_;have BK5:=n1_;have GE5:=n2_;clear n0_ n1_ n2_;clear hb hbox hg)
  | ((with_reducible refine gate_store (t:=87) (p:=5) rfl ?_);refine row_event ?hg (ty:=87) (p:=5) (y:=?yo_288) ?ho ?hn (g:=g5) (old:=#[.int .u8 0,.int .u8 0,.int .u8 0,.int .u8 0,.int .u8 0,.int .u8 0,.int .u8 0,.int .u8 0,.int .u8 0,.int .u8 0,.int .u8 0,.int .u8 0,.int .u8 0,.int .u8 0,.int .u8 0,.int .u8 0]) (e:=87) (cells:=(cB (tab 16 fun _=>0#8))) ?hx ?hy ?hk ?hi ?hd ?h1 ?_;(case ho=>rfl);(case hg=>rfl);(case hn=>rfl);(case hx=>rfl);(case hy=>rfl);(case hk=>exact zq14);(case hi=>rw[cB_size,tab_length];kernel_rfl);(case hd=>exact zq163);(case h1=>exact cB_one _);intro wr5_ hbk hgr;have n0_:=zM (below_grown1 zq0 hgr GE5.out);have n1_:=zM hbk;clear HB BK5;have HB:=n0_;have BK5:=n1_;clear n0_ n1_;clear hbk hgr)
  | ((with_reducible refine gate_dst (N:=6) rfl ?_);refine box_event ?hg (N:=6) ?hd (cs:=#[.int .u8 0,.int .u8 0,.int .u8 0,.int .u8 0,.int .u8 0,.int .u8 0,.int .u8 0,.int .u8 0,.int .u8 0,.int .u8 0,.int .u8 0,.int .u8 0,.int .u8 0,.int .u8 0,.int .u8 0,.int .u8 0]) (t:=87) ?hr ?_;(case hd=>rfl);(case hg=>rfl);(case hr=>first|(go_simp;done)|(go_simp;rfl));intro g6 hg w6 hbox hb;have n0_:=zM (below_step zq0 hb);have n1_:=zM (blk_below (g:=g5) (o:=.cells (cB (tab 16 fun _=>0#8)) 87 (0,0)) zq14 hb);have n2_:=zM hbox;have n3_:=zM (by rw[hg];exact below_size zq0:w.heap.size≤g6);have n4_:=zM (by rw[hg];exact Nat.ne_of_lt (blk_lt (g:=g5) (o:=.cells (cB (tab 16 fun _=>0#8)) 87 (0,0)) zq14):g5≠g6);have n5_:=zM (by rw[hg];exact Nat.ne_of_gt (blk_lt (g:=g5) (o:=.cells (cB (tab 16 fun _=>0#8)) 87 (0,0)) zq14):g6≠g5);clear HB BK5;have HB:=n0_;have BK5:=n1_;have BK6:=n2_;have GE6:=n3_;have NE5_6:=n4_;have NE6_5:=n5_;clear n0_ n1_ n2_ n3_ n4_ n5_;clear hb hbox hg)
  | ((with_reducible refine gate_store (t:=87) (p:=6) rfl ?_);refine row_event ?hg (ty:=87) (p:=6) (y:=?yo_290) ?ho ?hn (g:=g6) (old:=#[.int .u8 0,.int .u8 0,.int .u8 0,.int .u8 0,.int .u8 0,.int .u8 0,.int .u8 0,.int .u8 0,.int .u8 0,.int .u8 0,.int .u8 0,.int .u8 0,.int .u8 0,.int .u8 0,.int .u8 0,.int .u8 0]) (e:=87) (cells:=(cB (tab 16 fun _=>0#8))) ?hx ?hy ?hk ?hi ?hd ?h1 ?_;(case ho=>rfl);(case hg=>rfl);(case hn=>rfl);(case hx=>rfl);(case hy=>rfl);(case hk=>exact zq12);(case hi=>rw[cB_size,tab_length];kernel_rfl);(case hd=>exact zq163);(case h1=>exact cB_one _);intro wr6_ hbk hgr;have n0_:=zM (below_grown1 zq0 hgr GE6.out);have n1_:=zM (blk_grown1 (g':=g5) (ob:=.cells (cB (tab 16 fun _=>0#8)) 87 (0,0)) zq14 hgr NE5_6.out);have n2_:=zM hbk;clear HB BK5 BK6;have HB:=n0_;have BK5:=n1_;have BK6:=n2_;clear n0_ n1_ n2_;clear hbk hgr))
 go_loopw [7] (fun v7 W=>∃ i:Nat,i≤16∧v7=.int .i64 i∧Aside0 (W.heap[g5]?=some (.cells (cB (fillL 16 (fun j=>by_ m j ^^^ by_ ks (16*0+j)) (fun _=>0#8) i)) 87 (0,0)))∧Aside0 (W.heap[g6]?=some (.cells (cB (tab 16 fun _=>0#8)) 87 (0,0)))∧Aside0 (Below w.heap.size w W)) (fun v7 _=>16 - (intOf v7).toNat)
 case atStart=>exact⟨0,zq8,rfl,⟨by rw[fillL_zero];exact BK5.out⟩,BK6,HB⟩
 case round=>
  clear BK5 BK6 HB
  obtain⟨i,hi,rfl,BK5,BK6,HB⟩:=hrel
  by_cases hl:i < 16
  ·have hlt:=zM hl
   have hx1:wr.cell? (ad1.add i)=some (.int .u8 (bI (by_ m i))):=(HB.out.cell (World.block_lt_of_cell? w _ (HR1.out i hl))).trans (HR1.out i hl)
   have hx0:wr.cell? (ad0.add i)=some (.int .u8 (bI (by_ ks i))):=(HB.out.cell (World.block_lt_of_cell? w _ (HR0.out i zq8))).trans (HR0.out i zq8)
   have hq:(wr.cell? ⟨g5,i,none⟩).isSome=true:=by
    rw[blk_cell BK5.out,cB_get _ _ zq156]
    rfl
   obtain⟨old,hold⟩:=Option.isSome_iff_exists.1 hq
   clear hq
   have hf5:=blk_frozen BK5.out i
   have p1:=eq_true (show (0:Int)≤(i:Int) by omega)
   have q1:=eq_true (show (i:Int) < 16 by omega)
   have q2:=eq_true (show (i:Int) < 176 by omega)
   clear hl
   go_wp2_with fail
   refine wp_region_tail 11 (by kernel_rfl) (by kernel_rfl) ?_
   simp only[List.take_succ_cons,List.take_zero,List.drop_succ_cons,List.drop_zero]
   repeat (first|still_step)
   refine wpStill_nil ?_
   clear hx0 hx1 p1 q1 q2
   go_wp2_with (first
     | ((with_reducible refine gate_store (t:=5) (p:=29) rfl ?_);refine cell_event ?hg (t:=5) (p:=29) (v:=?vo_291) ?ho ?hn (i:=i) (x:=(.int .u8 (Go.bits .xor .u8 (bI (by_ m i)) (bI (by_ ks i))))) (cs:=(cB (fillL 16 (fun j=>by_ m j ^^^ by_ ks (16*0+j)) (fun _=>0#8) i))) (g:=g5) (e:=87) ?hk ?hr (cs':=(cB (fillL 16 (fun j=>by_ m j ^^^ by_ ks (16*0+j)) (fun _=>0#8) (i+1)))) ?hc ?_;(case ho=>rfl);(case hg=>rfl);(case hn=>rfl);(case hk=>exact zq14);(case hr=>first|(go_simp;done)|(go_simp;rfl));(case hc=>rw[bI_xor,cB_set];have e:=fillL_set 16 (fun j=>by_ m j ^^^ by_ ks (16*0+j)) (fun _=>0#8) i hlt.out;rw[Nat.mul_zero,Nat.zero_add] at e;exact congrArg cB e);intro wc hbk hgr;have n0_:=zM (below_grown1 zq0 hgr GE5.out);have n1_:=zM (blk_grown1 (g':=g6) (ob:=.cells (cB (tab 16 fun _=>0#8)) 87 (0,0)) zq12 hgr NE6_5.out);have n2_:=zM hbk;clear HB BK6 BK5;have HB:=n0_;have BK6:=n1_;have BK5:=n2_;clear n0_ n1_ n2_;clear hbk hgr))
   go_roundw
   case rel=>exact⟨i+1,by have:=hlt.out;omega,by go_num,BK5,BK6,HB⟩
   case measure=>simp[intOf];have:=hlt.out;omega
  ·obtain rfl:i=16:=by omega
   rw[fillL_all,show tab 16 (fun j=>by_ m j ^^^ by_ ks (16*0+j))=encR ks m 1 from rfl] at BK5
   clear hi hl
   rw[show ((16:Nat):Int)=16 from rfl]
   go_wp2
   go_loopw [8] (fun v8 W=>∃ R:Nat,∃ ys:List (BitVec 8),1≤R∧R≤11∧v8=.int .i64 R∧Aside0 (ys.length=16)∧Aside0 (W.heap[g5]?=some (.cells (cB (encR ks m R)) 87 (0,0)))∧Aside0 (W.heap[g6]?=some (.cells (cB ys) 87 (0,0)))∧Aside0 (Below w.heap.size w W)) (fun v8 _=>12 - (intOf v8).toNat)
   case atStart=>exact⟨1,tab 16 (fun _=>0#8),zq8,zq8,rfl,⟨tab_length _ _⟩,BK5,BK6,HB⟩
   case round=>
    clear BK5 BK6 HB
    obtain⟨R,ys,hR1',hR',rfl,hys,BK5,BK6,HB⟩:=hrel
    by_cases hl:R≤10
    ·have hR:=zM hl
     have hR1:=zM hR1'
     obtain⟨X,hX⟩:∃ X,encR ks m R=X:=⟨_,rfl⟩
     rw[hX] at BK5
     have hXl:=zM (show X.length=16 by rw[← hX];exact encR_length _ _ _)
     have hXe:=zM hX
     have hle:=decide_eq_true (show (R:Int)≤10 by omega)
     clear hX hR1' hR'
     go_wp2
     go_loopw [9] (fun v9 W=>∃ i:Nat,i≤16∧v9=.int .i64 i∧Aside0 (W.heap[g5]?=some (.cells (cB X) 87 (0,0)))∧Aside0 (W.heap[g6]?=some (.cells (cB (fillL 16 (fun j=>SB (by_ X ((j+4*(j % 4)) % 16))) (by_ ys) i)) 87 (0,0)))∧Aside0 (Below w.heap.size w W)) (fun v9 _=>16 - (intOf v9).toNat)
     case atStart=>exact⟨0,zq8,rfl,BK5,⟨by rw[fillL_zero,← hys.out,tab_self];exact BK6.out⟩,HB⟩
     case round=>
      clear BK5 BK6 HB
      obtain⟨i,hi,rfl,BK5,BK6,HB⟩:=hrel
      by_cases hl:i < 16
      ·have hlt:=zM hl
       have hb:=show (i+4*(i % 4)) % 16 < 16 by omega
       have hx9:wr.cell? ⟨g5,(i+4*(i % 4)) % 16,none⟩=some (.int .u8 (bI (by_ X ((i+4*(i % 4)) % 16)))):=by rw[blk_cell BK5.out,cB_get _ _ (by rw[hXl.out];omega)]
       have hq:(wr.cell? ⟨g6,i,none⟩).isSome=true:=by
        rw[blk_cell BK6.out,cB_get _ _ zq156]
        rfl
       obtain⟨old,hold⟩:=Option.isSome_iff_exists.1 hq
       clear hq
       have hf6:=blk_frozen BK6.out i
       go_wp2_with (first
         | (go_at_call 73;refine(subByte_enc (by_ X ((i+4*(i % 4)) % 16)) _).mono ?_;rintro e wk ⟨rfl,rfl⟩)
         | ((with_reducible refine gate_store (t:=5) (p:=48) rfl ?_);refine cell_event ?hg (t:=5) (p:=48) (v:=?vo_286) ?ho ?hn (i:=i) (x:=(.int .u8 (bI (SB (by_ X ((i+4*(i % 4)) % 16)))))) (cs:=(cB (fillL 16 (fun j=>SB (by_ X ((j+4*(j % 4)) % 16))) (by_ ys) i))) (g:=g6) (e:=87) ?hk ?hr (cs':=(cB (fillL 16 (fun j=>SB (by_ X ((j+4*(j % 4)) % 16))) (by_ ys) (i+1)))) ?hc ?_;(case ho=>rfl);(case hg=>rfl);(case hn=>rfl);(case hk=>exact zq12);(case hr=>first|(go_simp;done)|(go_simp;rfl));(case hc=>rw[cB_set];exact congrArg cB (fillL_set 16 (fun j=>SB (by_ X ((j+4*(j % 4)) % 16))) (by_ ys) i hlt.out));intro wc hbk hgr;have n0_:=zM (below_grown1 zq0 hgr GE6.out);have n1_:=zM (blk_grown1 (g':=g5) (ob:=.cells (cB X) 87 (0,0)) zq14 hgr NE5_6.out);have n2_:=zM hbk;clear HB BK5 BK6;have HB:=n0_;have BK5:=n1_;have BK6:=n2_;clear n0_ n1_ n2_;clear hbk hgr))
       go_roundw
       case rel=>exact⟨i+1,zq8,by go_num,BK5,BK6,HB⟩
       case measure=>simp[intOf];omega
      ·obtain rfl:i=16:=by omega
       rw[fillL_all,shift_ref] at BK6
       obtain⟨Y,hY⟩:∃ Y,Y=shiftL (subL X):=⟨_,rfl⟩
       obtain⟨N,hN⟩:∃ N,N=encR ks m (R+1):=⟨_,rfl⟩
       rw[← hY] at BK6
       rw[← hXe.out] at hY
       have hYl:=zM (show Y.length=16 by rw[hY];exact shiftL_length _)
       have hNl:=zM (show N.length=16 by rw[hN];exact encR_length _ _ _)
       have hYe:=zM hY
       have hNe:=zM hN
       clear hY hN hi hl
       rw[show ((16:Nat):Int)=16 from rfl]
       go_wp2
       go_loopw [10] (fun v10 W=>∃ c:Nat,c≤16∧c % 4=0∧v10=.int .i64 c∧Aside0 (W.heap[g5]?=some (.cells (cB (fillL 16 (by_ N) (by_ X) (c))) 87 (0,0)))∧Aside0 (W.heap[g6]?=some (.cells (cB Y) 87 (0,0)))∧Aside0 (Below w.heap.size w W)) (fun v10 _=>16 - (intOf v10).toNat)
       case atStart=>exact⟨0,zq8,zq8,rfl,⟨by rw[fillL_zero,← hXl.out,tab_self];exact BK5.out⟩,BK6,HB⟩
       case round=>
        clear BK5 BK6 HB
        obtain⟨c,hc,hc4',rfl,BK5,BK6,HB⟩:=hrel
        by_cases hl:c < 16
        ·have hcb:=zM (show c≤12 by omega)
         have hc4:=zM hc4'
         have hlc:=decide_eq_true (show (c:Int) < 16 by omega)
         have y0:wr.cell? ⟨g6,c,none⟩=some (.int .u8 (bI (by_ Y c))):=by rw[blk_cell BK6.out,cB_get _ _ (by rw[hYl.out];omega)]
         have y1:wr.cell? ⟨g6,c+1,none⟩=some (.int .u8 (bI (by_ Y (c+1)))):=by rw[blk_cell BK6.out,cB_get _ _ (by rw[hYl.out];omega)]
         have y2:wr.cell? ⟨g6,c+2,none⟩=some (.int .u8 (bI (by_ Y (c+2)))):=by rw[blk_cell BK6.out,cB_get _ _ (by rw[hYl.out];omega)]
         have y3:wr.cell? ⟨g6,c+3,none⟩=some (.int .u8 (bI (by_ Y (c+3)))):=by rw[blk_cell BK6.out,cB_get _ _ (by rw[hYl.out];omega)]
         have p1:=eq_true (show (0:Int)≤(c:Int)+1 by omega)
         have q1:=eq_true (show (c:Int)+1 < 16 by omega)
         have s1:Value.int .i64 (IntKind.i64.wrap ((c:Int)+1))=.int .i64 ((c:Int)+1):=by rw[IntWalk.i64_in _ zq8]
         have n1:∀ g:Nat,(⟨g,((c:Int)+1).toNat,none⟩:Addr)=⟨g,c+1,none⟩:=fun g=>by rw[show ((c:Int)+1).toNat=c+1 by omega]
         have p2:=eq_true (show (0:Int)≤(c:Int)+2 by omega)
         have q2:=eq_true (show (c:Int)+2 < 16 by omega)
         have s2:Value.int .i64 (IntKind.i64.wrap ((c:Int)+2))=.int .i64 ((c:Int)+2):=by rw[IntWalk.i64_in _ zq8]
         have n2:∀ g:Nat,(⟨g,((c:Int)+2).toNat,none⟩:Addr)=⟨g,c+2,none⟩:=fun g=>by rw[show ((c:Int)+2).toNat=c+2 by omega]
         have p3:=eq_true (show (0:Int)≤(c:Int)+3 by omega)
         have q3:=eq_true (show (c:Int)+3 < 16 by omega)
         have s3:Value.int .i64 (IntKind.i64.wrap ((c:Int)+3))=.int .i64 ((c:Int)+3):=by rw[IntWalk.i64_in _ zq8]
         have n3:∀ g:Nat,(⟨g,((c:Int)+3).toNat,none⟩:Addr)=⟨g,c+3,none⟩:=fun g=>by rw[show ((c:Int)+3).toNat=c+3 by omega]
         have p0:=eq_true (show (0:Int)≤(c:Int) by omega)
         have q0:=eq_true (show (c:Int) < 16 by omega)
         clear hl hc4'
         go_wp2_with fail
         go_quiet (fail)
         clear y0 y1 y2 y3 p0 p1 p2 p3 q0 q1 q2 q3 s1 s2 s3 n1 n2 n3
         go_wp2
         go_loopw [12] (fun v12 W=>∃ i:Nat,i≤4∧v12=.int .i64 i∧Aside0 (W.heap[g5]?=some (.cells (cB (fillL 16 (by_ N) (by_ X) (c+i))) 87 (0,0)))∧Aside0 (W.heap[g6]?=some (.cells (cB Y) 87 (0,0)))∧Aside0 (Below w.heap.size w W)) (fun v12 _=>4 - (intOf v12).toNat)
         case atStart=>exact⟨0,zq8,rfl,⟨by(with_reducible repeat (first|refine blk_drewN ?_ _|refine blk_drew ?_|refine blk_alloc ?_ _));exact BK5.out⟩,⟨by(with_reducible repeat (first|refine blk_drewN ?_ _|refine blk_drew ?_|refine blk_alloc ?_ _));exact BK6.out⟩,⟨zq0⟩⟩
         case round=>
          clear BK5 BK6 HB
          obtain⟨i,hi,rfl,BK5,BK6,HB⟩:=hrel
          by_cases hl:i < 4
          ·have hi4:=zM hl
           have hci:=zM (show c+i < 16 by have:=hcb.out;omega)
           have y1:wr.cell? ⟨g6,c+i,none⟩=some (.int .u8 (bI (by_ Y (c+i)))):=by rw[blk_cell BK6.out,cB_get _ _ (by rw[hYl.out];exact hci.out)]
           have k1:wr.cell? (ad0.add (16*R+c+i))=some (.int .u8 (bI (by_ ks (16*R+c+i)))):=(HB.out.cell (World.block_lt_of_cell? w _ (HR0.out _ zq87))).trans (HR0.out _ zq87)
           have hq:(wr.cell? ⟨g5,c+i,none⟩).isSome=true:=by
            rw[blk_cell BK5.out,cB_get _ _ (by rw[fillL_length];exact hci.out)]
            rfl
           obtain⟨old,hold⟩:=Option.isSome_iff_exists.1 hq
           clear hq
           have hf5:=blk_frozen BK5.out (c+i)
           have p1:=eq_true (show (0:Int)≤(c:Int)+(i:Int) by have:=hcb.out;have:=hR.out;have:=hi4.out;omega)
           have q1:=eq_true (show (c:Int)+(i:Int) < 16 by have:=hcb.out;have:=hR.out;have:=hi4.out;omega)
           have s1:Value.int .i64 (IntKind.i64.wrap ((c:Int)+(i:Int)))=.int .i64 ((c:Int)+(i:Int)):=by rw[IntWalk.i64_in _ zq87]
           have n1:∀ g:Nat,(⟨g,((c:Int)+(i:Int)).toNat,none⟩:Addr)=⟨g,c+i,none⟩:=fun g=>by rw[show ((c:Int)+(i:Int)).toNat=c+i by have:=hcb.out;have:=hR.out;have:=hi4.out;omega]
           have s2:Value.int .i64 (IntKind.i64.wrap (16*(R:Int)))=.int .i64 (16*(R:Int)):=by rw[IntWalk.i64_in _ zq87]
           have s3:Value.int .i64 (IntKind.i64.wrap (16*(R:Int)+(c:Int)))=.int .i64 (16*(R:Int)+(c:Int)):=by rw[IntWalk.i64_in _ zq87]
           have s4:Value.int .i64 (IntKind.i64.wrap (16*(R:Int)+(c:Int)+(i:Int)))=.int .i64 (16*(R:Int)+(c:Int)+(i:Int)):=by rw[IntWalk.i64_in _ zq87]
           have p4:=eq_true (show (0:Int)≤16*(R:Int)+(c:Int)+(i:Int) by have:=hcb.out;have:=hR.out;have:=hi4.out;omega)
           have q4:=eq_true (show 16*(R:Int)+(c:Int)+(i:Int) < 176 by have:=hcb.out;have:=hR.out;have:=hi4.out;omega)
           have n4:∀ ad:Addr,ad.add (16*(R:Int)+(c:Int)+(i:Int)).toNat=ad.add (16*R+c+i):=fun ad=>by rw[show (16*(R:Int)+(c:Int)+(i:Int)).toNat=16*R+c+i by have:=hcb.out;have:=hR.out;have:=hi4.out;omega]
           have hli:decide ((i:Int) < 4)=true:=decide_eq_true zq8
           clear hl
           by_cases h9:R < 10
           ·have hfin:=zM (enc_mid ks m R c i hR1.out h9 hc4.out hi4.out hci.out Y hYe.out)
            obtain⟨j,hj⟩:∃ j:Nat,j=(i+1) % 4:=⟨_,rfl⟩
            rw[← hNe.out,← hj] at hfin
            have hje:=zM hj
            have hj4:=zM (show j < 4 by omega)
            clear hj
            have hlt:decide ((R:Int) < 10)=true:=decide_eq_true zq8
            clear h9
            go_wp2_with fail
            refine wp_region_tail 19 (by kernel_rfl) (by kernel_rfl) ?_
            simp only[List.take_succ_cons,List.take_zero,List.drop_succ_cons,List.drop_zero]
            repeat (first|still_step)
            refine wpStill_nil ?_
            clear y1 k1 p1 q1 s1 n1 s2 s3 s4 p4 q4 n4
            go_wp2_with (first
              | ((with_reducible refine gate_store (t:=5) (p:=93) rfl ?_);refine cell_event ?hg (t:=5) (p:=93) (v:=?vo_282) ?ho ?hn (i:=c+i) (x:=(.int .u8 (Go.bits .xor .u8 (bI (by_ Y (c+i))) (bI (by_ ks (16*R+c+i)))))) (cs:=(cB (fillL 16 (by_ N) (by_ X) (c+i)))) (g:=g5) (e:=87) ?hk ?hr (cs':=(cB ((fillL 16 (by_ N) (by_ X) (c+i)).set (c+i) (by_ Y (c+i) ^^^ by_ ks (16*R+c+i))))) ?hc ?_;(case ho=>rfl);(case hg=>rfl);(case hn=>rfl);(case hk=>exact zq14);(case hr=>first|(go_simp;done)|(go_simp;rfl));(case hc=>rw[bI_xor,cB_set]);intro wc1 hbk hgr;have n0_:=zM (below_grown1 zq0 hgr GE5.out);have n1_:=zM (blk_grown1 (g':=g6) (ob:=.cells (cB Y) 87 (0,0)) zq12 hgr NE6_5.out);have n2_:=zM hbk;clear HB BK6 BK5;have HB:=n0_;have BK6:=n1_;have BK5:=n2_;clear n0_ n1_ n2_;clear hbk hgr))
            have x1:wc1.cell? ⟨g5,c+i,none⟩=some (.int .u8 (bI (by_ Y (c+i) ^^^ by_ ks (16*R+c+i)))):=by rw[blk_cell BK5.out,cB_get _ _ (by rw[List.length_set,fillL_length];exact hci.out),set_get _ _ _ _ (by rw[fillL_length];exact hci.out),if_pos rfl]
            have y1:wc1.cell? ⟨g6,c+i,none⟩=some (.int .u8 (bI (by_ Y (c+i)))):=by rw[blk_cell BK6.out,cB_get _ _ (by rw[hYl.out];exact hci.out)]
            have hjb:=hj4.out
            have y2:wc1.cell? ⟨g6,c+j,none⟩=some (.int .u8 (bI (by_ Y (c+j)))):=by rw[blk_cell BK6.out,cB_get _ _ (by rw[hYl.out];have:=hcb.out;omega)]
            have hf5:=blk_frozen BK5.out (c+i)
            have p1:=eq_true (show (0:Int)≤(c:Int)+(i:Int) by have:=hcb.out;have:=hR.out;have:=hi4.out;omega)
            have q1:=eq_true (show (c:Int)+(i:Int) < 16 by have:=hcb.out;have:=hR.out;have:=hi4.out;omega)
            have s1:Value.int .i64 (IntKind.i64.wrap ((c:Int)+(i:Int)))=.int .i64 ((c:Int)+(i:Int)):=by rw[IntWalk.i64_in _ zq87]
            have n1:∀ g:Nat,(⟨g,((c:Int)+(i:Int)).toNat,none⟩:Addr)=⟨g,c+i,none⟩:=fun g=>by rw[show ((c:Int)+(i:Int)).toNat=c+i by have:=hcb.out;have:=hR.out;have:=hi4.out;omega]
            have s2:Value.int .i64 (IntKind.i64.wrap ((i:Int)+1))=.int .i64 ((i:Int)+1):=by rw[IntWalk.i64_in _ zq87]
            have t1:Int.tmod ((i:Int)+1) 4=(j:Int):=by rw[Int.tmod_eq_emod_of_nonneg zq8];have:=hje.out;omega
            have t2:((i:Int)+1) % 4=(j:Int):=by have:=hje.out;omega
            have s3:Value.int .i64 (IntKind.i64.wrap ((c:Int)+(j:Int)))=.int .i64 ((c:Int)+(j:Int)):=by rw[IntWalk.i64_in _ zq87]
            have p3:=eq_true (show (0:Int)≤(c:Int)+(j:Int) by have:=hcb.out;have:=hR.out;have:=hi4.out;omega)
            have q3:=eq_true (show (c:Int)+(j:Int) < 16 by have:=hcb.out;have:=hR.out;have:=hi4.out;omega)
            have n3:∀ g:Nat,(⟨g,((c:Int)+(j:Int)).toNat,none⟩:Addr)=⟨g,c+j,none⟩:=fun g=>by rw[show ((c:Int)+(j:Int)).toNat=c+j by have:=hcb.out;have:=hR.out;have:=hi4.out;omega]
            have i0:=eq_true (show (0:Int)≤(i:Int)+1 by omega)
            go_wp2_with fail
            refine wp_region_tail 26 (by kernel_rfl) (by kernel_rfl) ?_
            simp only[List.take_succ_cons,List.take_zero,List.drop_succ_cons,List.drop_zero]
            repeat (first|still_call (double_pair _ _ _)|still_step)
            refine wpStill_nil ?_
            clear hjb y1 y2 p1 q1 s1 n1 s2 t1 t2 s3 p3 q3 n3 i0
            go_wp2_with (first
              | ((with_reducible refine gate_store (t:=5) (p:=121) rfl ?_);refine cell_event ?hg (t:=5) (p:=121) (v:=?vo_283) ?ho ?hn (i:=c+i) (x:=(.int .u8 (Go.bits .xor .u8 (Go.bits .xor .u8 (bI (by_ Y (c+i) ^^^ by_ ks (16*R+c+i))) (Go.bits .xor .u8 (Go.bits .xor .u8 (Go.bits .xor .u8 (bI (by_ Y c)) (bI (by_ Y (c+1)))) (bI (by_ Y (c+2)))) (bI (by_ Y (c+3))))) (bI (xt (by_ Y (c+i) ^^^ by_ Y (c+j))))))) (cs:=(cB ((fillL 16 (by_ N) (by_ X) (c+i)).set (c+i) (by_ Y (c+i) ^^^ by_ ks (16*R+c+i))))) (g:=g5) (e:=87) ?hk ?hr (cs':=(cB (fillL 16 (by_ N) (by_ X) (c+i+1)))) ?hc ?_;(case ho=>rfl);(case hg=>rfl);(case hn=>rfl);(case hk=>exact zq14);(case hr=>first|(go_simp;done)|(go_simp;rfl));(case hc=>rw[bI_xor,bI_xor,bI_xor,bI_xor,bI_xor,cB_set,List.set_set,← hfin.out];exact congrArg cB (fillL_set 16 (by_ N) (by_ X) (c+i) hci.out));intro wc2 hbk hgr;have n0_:=zM (below_grown1 zq0 hgr GE5.out);have n1_:=zM (blk_grown1 (g':=g6) (ob:=.cells (cB Y) 87 (0,0)) zq12 hgr NE6_5.out);have n2_:=zM hbk;clear HB BK6 BK5;have HB:=n0_;have BK6:=n1_;have BK5:=n2_;clear n0_ n1_ n2_;clear hbk hgr))
            go_roundw
            case rel=>exact⟨i+1,zq123,by go_num,BK5,BK6,HB⟩
            case measure=>simp[intOf];have:=hi4.out;omega
           ·have h10:R=10:=by have:=hR.out;omega
            have hfin:Aside0 (by_ N (c+i)=(by_ Y (c+i) ^^^ by_ ks (16*R+c+i))):=⟨by rw[hNe.out,hYe.out,h10];exact enc_last ks m c i hci.out⟩
            have hlt:decide ((R:Int) < 10)=false:=decide_eq_false zq8
            clear h9 h10
            go_wp2_with fail
            refine wp_region_tail 19 (by kernel_rfl) (by kernel_rfl) ?_
            simp only[List.take_succ_cons,List.take_zero,List.drop_succ_cons,List.drop_zero]
            repeat (first|still_step)
            refine wpStill_nil ?_
            clear y1 k1 p1 q1 s1 n1 s2 s3 s4 p4 q4 n4
            go_wp2_with (first
              | ((with_reducible refine gate_store (t:=5) (p:=93) rfl ?_);refine cell_event ?hg (t:=5) (p:=93) (v:=?vo_284) ?ho ?hn (i:=c+i) (x:=(.int .u8 (Go.bits .xor .u8 (bI (by_ Y (c+i))) (bI (by_ ks (16*R+c+i)))))) (cs:=(cB (fillL 16 (by_ N) (by_ X) (c+i)))) (g:=g5) (e:=87) ?hk ?hr (cs':=(cB (fillL 16 (by_ N) (by_ X) (c+i+1)))) ?hc ?_;(case ho=>rfl);(case hg=>rfl);(case hn=>rfl);(case hk=>exact zq14);(case hr=>first|(go_simp;done)|(go_simp;rfl));(case hc=>rw[bI_xor,cB_set,← hfin.out];exact congrArg cB (fillL_set 16 (by_ N) (by_ X) (c+i) hci.out));intro wc1 hbk hgr;have n0_:=zM (below_grown1 zq0 hgr GE5.out);have n1_:=zM (blk_grown1 (g':=g6) (ob:=.cells (cB Y) 87 (0,0)) zq12 hgr NE6_5.out);have n2_:=zM hbk;clear HB BK6 BK5;have HB:=n0_;have BK6:=n1_;have BK5:=n2_;clear n0_ n1_ n2_;clear hbk hgr))
            go_roundw
            case rel=>exact⟨i+1,zq123,by go_num,BK5,BK6,HB⟩
            case measure=>simp[intOf];have:=hi4.out;omega
          ·obtain rfl:i=4:=by omega
           go_wp2
           go_roundw
           case rel=>exact⟨c+4,by have:=hcb.out;omega,by have:=hc4.out;omega,by go_num,BK5,BK6,HB⟩
           case measure=>simp[intOf];have:=hcb.out;omega
        ·obtain rfl:c=16:=by omega
         rw[fillL_all,show tab 16 (by_ N)=N from by rw[← hNl.out,tab_self],hNe.out] at BK5
         go_wp2
         go_roundw
         case rel=>exact⟨R+1,Y,zq8,by have:=hR.out;omega,by go_num,hYl,BK5,BK6,HB⟩
         case measure=>simp[intOf];have:=hR.out;omega
    ·obtain rfl:R=11:=by omega
     rw[show encR ks m 11=encL ks m from rfl] at BK5
     clear hl hR1' hR'
     go_wp2_with (first
       | ((with_reducible refine gate_dst (N:=122) rfl ?_);refine Kd.R_lit (Kd.int .u8) _ 5 ?hgL (N:=122) ?hdL (xs:=([]:List Int)) (inner:=[]) (ok:=fun _=>True) (okp:=fun _=>True) ?hrL ?hpL (fun _ hk=>hk) trivial (Below.refl _ _) (Nat.le_refl _) zq73 ?_;(case hdL=>rfl);(case hgL=>rfl);(case hrL=>first|(go_simp;done)|(go_simp;rfl));(case hpL=>exact(Reps.none _ _));intro v1 w3 ho4 hb hg_ hnew_;clear hg_ hnew_;have n0_:=zM (Kd.R_lower ho4 (below_size zq0));have n1_:=zM (below_step zq0 hb);have n2_:=zM (blk_below (g:=g5) (o:=.cells (cB (encL ks m)) 87 (0,0)) zq14 hb);have n3_:=zM (blk_below (g:=g6) (o:=.cells (cB ys) 87 (0,0)) zq12 hb);clear HB BK5 BK6;have HO1_:=n0_;have HB:=n1_;have BK5:=n2_;have BK6:=n3_;clear n0_ n1_ n2_ n3_;have HO1:=HO1_;clear HO1_;clear hb ho4)
       | ((with_reducible refine gate_builtin (b:=.append) (xs:=#[.tmp 122,.tmp 123]) rfl ?_);at_builtin;refine Kd.R_append_rows (Kd.int .u8) (w0:=w) w.heap.size rfl (.tmp 122) (.tmp 123) 25 5 (.int .u8 0) 1 rfl Try.underlying25 info5 rfl zq36 zq8 v1 ([]:List Int) (bL (encL ks m)) _ _ _ (fun _=>True) (fun _=>False) rfl rfl ?aO ?aR (fun _ _ h=>h) (fun _ h=>h.elim) ?aF ?aB ?aS ?aL ?_;(case aR=>exact enc_row (encL_length _ _) zq14);(case aB=>exact zq0);(case aF=>exact(fun _ _=>trivial));(case aO=>exact zq182);(case aS=>exact(below_size zq0));(case aL=>simp);intro v2 w5 ho hb hg hat;have n0_:=zM (hb);have n1_:=zM (ho);clear HB;clear HO1;have HB:=n0_;have HO2:=n1_;clear n0_ n1_;clear ho hb hg hat))
     go_ret
     exact⟨_,rfl,zq185,zq0⟩
def spec_l2Encrypt.f (l0 l1:List Int):Option (List Int):=if isBs l0=true∧isBs l1=true∧l0.length=176∧l1.length=16 then some (bL (encL (unB l0) (unB l1))) else none
set_option maxHeartbeats 4000000 in
set_option maxRecDepth 100000 in
theorem spec_l2Encrypt.calls (A0:Option Addr) (c0:Nat) (l0:List Int) (A1:Option Addr) (c1:Nat) (l1:List Int) (r:List Int) (w:World) (hr0:Kd.C (Kd.int .u8) w A0 l0.length l0) (hc0:l0.length≤c0) (hr1:Kd.C (Kd.int .u8) w A1 l1.length l1) (hc1:l1.length≤c1) (h:spec_l2Encrypt.f l0 l1=some r) :
  Calls Try.prog 75 #[.slice A0 l0.length c0,.slice A1 l1.length c1] w fun e w'=>∃ v0_:Value,e=.returned v0_∧Kd.R (Kd.int .u8) 5 w' w.heap.size (fun _=>True) v0_ r∧Below w.heap.size w w':=by
 unfold spec_l2Encrypt.f at h
 by_cases hb:isBs l0=true∧isBs l1=true∧l0.length=176∧l1.length=16
 ·rw[if_pos hb,Option.some.injEq] at h
  obtain⟨m0,rfl⟩:∃ m,l0=bL m:=⟨_,isBs_bL hb.1⟩
  obtain⟨m1,rfl⟩:∃ m,l1=bL m:=⟨_,isBs_bL hb.2.1⟩
  rw[bL_length] at hr0 hr1
  have h0:=hb.2.2.1
  have h1:=hb.2.2.2
  rw[bL_length] at h0 h1
  rw[unB_bL,unB_bL] at h
  obtain⟨ad0,rfl,g0⟩:=at_slice hr0 zq8
  obtain⟨ad1,rfl,g1⟩:=at_slice hr1 zq8
  rw[bL_length,bL_length,h0,h1]
  subst h
  exact l2Encrypt_here ad0 c0 m0 h0 ad1 c1 m1 h1 w (fun j hj=>g0 j zq8) (fun j hj=>g1 j zq8)
 ·rw[if_neg hb] at h
  cases h
end Go.Proofs.Ytdbanjdnjhflcaa.All
