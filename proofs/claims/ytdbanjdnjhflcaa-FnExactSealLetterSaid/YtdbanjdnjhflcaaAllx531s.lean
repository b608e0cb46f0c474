-- Laid by wip/shake.py of this repo out of this claim's texts. Not trusted: Lean checks it.
import Derived.Test.YtdbanjdnjhflcaaAb0s
import Derived.Test.YtdbanjdnjhflcaaAlgs
import Derived.Test.YtdbanjdnjhflcaaAllx32s
import Derived.Test.YtdbanjdnjhflcaaAllx528s
import Derived.Test.YtdbanjdnjhflcaaLemFieldSpecs
import Derived.Lib.SliceRun
set_option linter.unusedSimpArgs false
set_option linter.unusedVariables false
namespace Go.Proofs.Ytdbanjdnjhflcaa.All
open Go.Proofs.YtdbanjdnjhflcaaW.PrintWords.Aside0 renaming mk→zM
open Go.RowKit Go.Proofs.YtdbanjdnjhflcaaW.PrintWords Go.Proofs.YtdbanjdnjhflcaaW.PrintLast Go.Proofs.YtdbanjdnjhflcaaW.PrintMore
attribute [local go_sem] max2_int min2_int max_two min_two max_three min_three max_four min_four
theorem made176:madeCells #[.int .u8 0] 176=cB (tab 176 fun _=>0#8):=by kernel_rfl
theorem ft_key (c:BitVec 8):spec_FieldTimes.f 20 (bI c) 2=some (bI (xt c)):=by rw[show (2:Int)=bI 2#8 from rfl,spec_ft 20 zq8,ft_two]
section
variable {P:Program} {ops:Array Oper} {rest:List Oper} {o:Oper} {a:Act} {Q:Exit→Act→World→Prop}
theorem make_event {W:World} (hgd:o.guard=none) {N:Tmp} (_hd:o.dst=some N) {cs:Array Value} {t:TypeId}
  (hrun:(execOp a.eval o).run P W=.ok (.value (.slice (some ⟨W.heap.size,0,none⟩) 176 176)) (W.alloc (.cells cs t (0,0))))
  (h:∀ g,g=W.heap.size→∀ w1,w1.heap[g]?=some (.cells cs t (0,0))→Below W.heap.size W w1→wpList P ops Q rest (a.put o.dst (.slice (some ⟨g,0,none⟩) 176 176)) w1):wpList P ops Q (o :: rest) a W:=
 Kd.event_run hgd hrun (h _ rfl _ (blk_new W _) (below_alloc (Below.refl _ _) _))
end
set_option maxHeartbeats 4000000 in
set_option maxRecDepth 100000 in
theorem subByte_still (b:BitVec 8) (w:World):Calls Try.prog 73 #[.int .u8 (bI b)] w fun e w'=>e=.returned (.int .u8 (bI (SB b)))∧w'=w:=by
 go_enter Try.func73,Try.ntmps73
 go_wp2_with (first
  | ((with_reducible refine gate_dst (N:=4) rfl ?_);refine wp_index_box ?hg 9 ?s_250 (.tmp 3) ?ho Try.underlying9 ?hs b ?hi ?_;(case hg=>rfl);(case ho=>rfl);(case hs=>kernel_rfl);(case hi=>rfl)))
 go_ret
 exact⟨rfl,rfl⟩
set_option maxHeartbeats 4000000 in
set_option maxRecDepth 100000 in
theorem l2Keys_here (A:Option Addr) (c:Nat) (m:List (BitVec 8)) (hm0:m.length=16) (w:World) (hr0:Kd.C (Kd.int .u8) w A m.length (bL m)) :
  Calls Try.prog 61 #[.slice A m.length c] w fun e w'=>∃ v0_:Value,e=.returned v0_∧Kd.R (Kd.int .u8) 5 w' w.heap.size (fun _=>True) v0_ (bL (schedL m))∧Below w.heap.size w w':=by
 have hm:=zM hm0
 have HR:=zM hr0
 clear hm0 hr0
 have HB:=zM (Below.refl w.heap.size w)
 have hmk:=print_make_of (P:=Try.prog) 25 5 (.int .u8 0) 1 Try.underlying25 info5 rfl zq36 176 zq36
 simp only[show ((176:Nat):Int)=176 from rfl] at hmk
 go_enter Try.func61,Try.ntmps61
 go_wp2_with (first
  | ((with_reducible refine gate_dst (N:=8) rfl ?_);refine make_event ?hg (N:=8) ?hd (cs:=(madeCells #[.int .u8 0] 176)) (t:=5) ?hr ?_;(case hd=>rfl);(case hg=>rfl);(case hr=>first|(go_simp;done)|(go_simp;rfl));intro g3 hg w8 hbox hb;have n0_:=zM (below_step zq0 hb);have n1_:=zM hbox;have n2_:=zM (by rw[hg];exact below_size zq0:w.heap.size≤g3);clear HB;have HB:=n0_;have BK3:=n1_;have GE3:=n2_;clear n0_ n1_ n2_;clear hb hbox hg;rw[made176] at BK3)
  | ((with_reducible refine gate_dst (N:=11) rfl ?_);refine copy_event ?hg (.tmp 9) (.tmp 10) 25 5 ?ho Try.underlying25 (by kernel_rfl) (g:=g3) (old:=(tab 176 fun _=>0#8)) (new:=m) (bt:=5) (cap:=?cap_252) (A:=?Ad_252) (c:=?cc_252) ?hx ?hy ?hk ?hr ?_;(case hg=>rfl);(case ho=>rfl);(case hx=>rfl);(case hy=>rfl);(case hk=>exact zq9);(case hr=>exact zq146);intro wp_ vv hbk0 hgr;have hbk:wp_.heap[g3]?=some (.cells (cB (P176 m)) 5 (0,0)):=(by rw[← P176_cp];exact hbk0);clear hbk0;have n0_:=zM (below_grown1 zq0 hgr GE3.out);have n1_:=zM hbk;clear HB BK3;have HB:=n0_;have BK3:=n1_;clear n0_ n1_;clear hbk hgr))
 go_loopw [4,5] (fun v4 v5 W=>∃ n i:Nat,Aside0 (i=16+4*n)∧n≤40∧v5=.int .i64 i∧v4=.int .u8 (bI (rcon ((i - 1) / 16)))∧Aside0 (W.heap[g3]?=some (.cells (cB (P176 (keyTo m n))) 5 (0,0)))∧Aside0 (Below w.heap.size w W)) (fun _ v5 _=>180 - (intOf v5).toNat)
 case atStart=>exact⟨0,16,⟨rfl⟩,zq8,rfl,rfl,BK3,HB⟩
 case round=>
  clear BK3 HB
  obtain⟨n,i,hin,hn0,rfl,rfl,BK3,HB⟩:=hrel
  by_cases hn4:n < 40
  ·have hn:=zM hn4
   have hi4:=zM (show i+4≤176 by have:=hin.out;omega)
   have hi0:16≤i:=by have:=hin.out;omega
   have hi9:i < 176:=by have:=hin.out;omega
   clear hn4 hn0
   obtain⟨L,hLe⟩:∃ L,keyTo m n=L:=⟨_,rfl⟩
   rw[hLe] at BK3
   have hL:=zM (show L.length=i by rw[← hLe,keyTo_length m hm.out n];exact hin.out.symm)
   have hLE:=zM hLe
   clear hLe
   have hlt:decide ((i:Int) < 176)=true:=decide_eq_true zq8
   by_cases h16a:i % 16=0
   ·have e16:Int.tmod (i:Int) 16=0:=by rw[Int.tmod_eq_emod_of_nonneg zq8];omega
    have h16:=zM h16a
    have hi16:=zM hi0
    clear h16a
    have hc4:wr.cell? ⟨g3,i - 4,none⟩=some (.int .u8 (bI (by_ L (i - 4)))):=by rw[blk_cell BK3.out,cB_get _ _ zq105,P176_get _ _ zq8]
    have hc3:wr.cell? ⟨g3,i - 3,none⟩=some (.int .u8 (bI (by_ L (i - 3)))):=by rw[blk_cell BK3.out,cB_get _ _ zq105,P176_get _ _ zq8]
    have hc2:wr.cell? ⟨g3,i - 2,none⟩=some (.int .u8 (bI (by_ L (i - 2)))):=by rw[blk_cell BK3.out,cB_get _ _ zq105,P176_get _ _ zq8]
    have hc1:wr.cell? ⟨g3,i - 1,none⟩=some (.int .u8 (bI (by_ L (i - 1)))):=by rw[blk_cell BK3.out,cB_get _ _ zq105,P176_get _ _ zq8]
    have p4:=eq_true (show (0:Int)≤(i:Int) - 4 by omega)
    have q4:=eq_true (show (i:Int) - 4 < 176 by omega)
    have r4:4≤i:=by omega
    have u4:=eq_true (show (4:Int)≤(i:Int) by omega)
    have s4:Value.int .i64 (IntKind.i64.wrap ((i:Int) - 4))=.int .i64 ((i:Int) - 4):=by rw[IntWalk.i64_in _ zq8]
    have n4:∀ g:Nat,(⟨g,((i:Int) - 4).toNat,none⟩:Addr)=⟨g,i - 4,none⟩:=fun g=>by rw[show ((i:Int) - 4).toNat=i - 4 by omega]
    have p3:=eq_true (show (0:Int)≤(i:Int) - 3 by omega)
    have q3:=eq_true (show (i:Int) - 3 < 176 by omega)
    have r3:3≤i:=by omega
    have u3:=eq_true (show (3:Int)≤(i:Int) by omega)
    have s3:Value.int .i64 (IntKind.i64.wrap ((i:Int) - 3))=.int .i64 ((i:Int) - 3):=by rw[IntWalk.i64_in _ zq8]
    have n3:∀ g:Nat,(⟨g,((i:Int) - 3).toNat,none⟩:Addr)=⟨g,i - 3,none⟩:=fun g=>by rw[show ((i:Int) - 3).toNat=i - 3 by omega]
    have p2:=eq_true (show (0:Int)≤(i:Int) - 2 by omega)
    have q2:=eq_true (show (i:Int) - 2 < 176 by omega)
    have r2:2≤i:=by omega
    have u2:=eq_true (show (2:Int)≤(i:Int) by omega)
    have s2:Value.int .i64 (IntKind.i64.wrap ((i:Int) - 2))=.int .i64 ((i:Int) - 2):=by rw[IntWalk.i64_in _ zq8]
    have n2:∀ g:Nat,(⟨g,((i:Int) - 2).toNat,none⟩:Addr)=⟨g,i - 2,none⟩:=fun g=>by rw[show ((i:Int) - 2).toNat=i - 2 by omega]
    have p1:=eq_true (show (0:Int)≤(i:Int) - 1 by omega)
    have q1:=eq_true (show (i:Int) - 1 < 176 by omega)
    have r1:1≤i:=by omega
    have u1:=eq_true (show (1:Int)≤(i:Int) by omega)
    have s1:Value.int .i64 (IntKind.i64.wrap ((i:Int) - 1))=.int .i64 ((i:Int) - 1):=by rw[IntWalk.i64_in _ zq8]
    have n1:∀ g:Nat,(⟨g,((i:Int) - 1).toNat,none⟩:Addr)=⟨g,i - 1,none⟩:=fun g=>by rw[show ((i:Int) - 1).toNat=i - 1 by omega]
    have hpos:0 < i:=by omega
    go_wp2_with fail
    have e4:=World.new_ne wr _ hc4
    have e3:=World.new_ne wr _ hc3
    have e2:=World.new_ne wr _ hc2
    have e1:=World.new_ne wr _ hc1
    go_region_held3 (fun w'=>w'.cell? ⟨g3,i - 4,none⟩=some (.int .u8 (bI (by_ L (i - 4))))∧w'.cell? ⟨g3,i - 3,none⟩=some (.int .u8 (bI (by_ L (i - 3))))∧w'.cell? ⟨g3,i - 2,none⟩=some (.int .u8 (bI (by_ L (i - 2))))∧w'.cell? ⟨g3,i - 1,none⟩=some (.int .u8 (bI (by_ L (i - 1))))) (go_keep) (fail)
    clear e4 e3 e2 e1
    have m0_:=zM (blk_drew (blk_alloc BK3.out (.cells #[.int .u8 (bI (by_ L (i - 4))),.int .u8 (bI (by_ L (i - 3))),.int .u8 (bI (by_ L (i - 2))),.int .u8 (bI (by_ L (i - 1)))] 103)))
    have n1_:Aside0 ((wr.alloc (.cells #[.int .u8 (bI (by_ L (i - 4))),.int .u8 (bI (by_ L (i - 3))),.int .u8 (bI (by_ L (i - 2))),.int .u8 (bI (by_ L (i - 1)))] 103)).drew.heap[wr.heap.size]?=some (.cells #[.int .u8 (bI (by_ L (i - 4))),.int .u8 (bI (by_ L (i - 3))),.int .u8 (bI (by_ L (i - 2))),.int .u8 (bI (by_ L (i - 1)))] 103 (0,0))):=⟨blk_drew zq78⟩
    have n2_:=zM (below_drew1 (below_alloc HB.out (.cells #[.int .u8 (bI (by_ L (i - 4))),.int .u8 (bI (by_ L (i - 3))),.int .u8 (bI (by_ L (i - 2))),.int .u8 (bI (by_ L (i - 1)))] 103)))
    have GE6:=zM (below_size HB.out)
    clear r4 r3 r2 r1 u4 u3 u2 u1 hpos hc4 hc3 hc2 hc1 p4 p3 p2 p1 q4 q3 q2 q1 s4 s3 s2 s1 n4 n3 n2 n1
    clear BK3 HB
    generalize wr.heap.size=g6 at n1_ GE6 ⊢
    generalize (wr.alloc (.cells #[.int .u8 (bI (by_ L (i - 4))),.int .u8 (bI (by_ L (i - 3))),.int .u8 (bI (by_ L (i - 2))),.int .u8 (bI (by_ L (i - 1)))] 103)).drew=wr_ at m0_ n1_ n2_ ⊢
    have BK3:=m0_
    have BK6:Aside0 (wr_.heap[g6]?=some (.cells (cB [by_ L (i - 4),by_ L (i - 3),by_ L (i - 2),by_ L (i - 1)]) 103 (0,0))):=n1_
    have HB:=n2_
    clear m0_ n1_ n2_
    have ht0:wr_.cell? ⟨g6,0,none⟩=some (.int .u8 (bI (by_ L (i - 4)))):=by rw[blk_cell BK6.out];rfl
    have ht1:wr_.cell? ⟨g6,1,none⟩=some (.int .u8 (bI (by_ L (i - 3)))):=by rw[blk_cell BK6.out];rfl
    have ht2:wr_.cell? ⟨g6,2,none⟩=some (.int .u8 (bI (by_ L (i - 2)))):=by rw[blk_cell BK6.out];rfl
    have ht3:wr_.cell? ⟨g6,3,none⟩=some (.int .u8 (bI (by_ L (i - 1)))):=by rw[blk_cell BK6.out];rfl
    go_wp2_with fail
    refine wp_region_tail 15 (by kernel_rfl) (by kernel_rfl) ?_
    simp only[List.take_succ_cons,List.take_zero,List.drop_succ_cons,List.drop_zero]
    repeat (first|still_call (subByte_still _ _)|still_step)
    refine wpStill_nil ?_
    go_wp2_with (first
      | ((with_reducible refine gate_store (t:=103) (p:=6) rfl ?_);refine row_event ?hg (ty:=103) (p:=6) (y:=?yo_253) ?ho ?hn (g:=g6) (old:=(cB [by_ L (i - 4),by_ L (i - 3),by_ L (i - 2),by_ L (i - 1)])) (e:=103) (cells:=#[.int .u8 (Go.bits .xor .u8 (bI (SB (by_ L (i - 3)))) (bI (rcon ((i - 1) / 16)))),.int .u8 (bI (SB (by_ L (i - 2)))),.int .u8 (bI (SB (by_ L (i - 1)))),.int .u8 (bI (SB (by_ L (i - 4))))]) ?hx ?hy ?hk ?hi ?hd ?h1 ?_;(case ho=>rfl);(case hg=>rfl);(case hn=>rfl);(case hx=>rfl);(case hy=>rfl);(case hk=>exact zq12);(case hi=>kernel_rfl);(case hd=>rfl);(case h1=>exact zq135);intro ws_ hbk hgr;have n0_:=zM (below_grown1 zq0 hgr GE6.out);have n1_:=zM (blk_grown1 (g':=g3) (ob:=.cells (cB (P176 L)) 5 (0,0)) zq9 hgr (blk_ne zq9 zq12 zq36));have n2_:=zM hbk;clear HB BK3 BK6;have HB:=n0_;have BK3:=n1_;have BK6:=n2_;clear n0_ n1_ n2_;clear hbk hgr;rw[turn_cells L i h16.out hi16.out] at BK6)
      | (go_at_call 74;refine(spec_FieldTimes.calls 20 (bI (rcon ((i - 1) / 16))) 2 _ _ (ft_key _)).mono ?_;rintro e w9 ⟨rfl,hd9⟩;have hb9:=hd9.below;have n0_:=zM (below_step zq0 hb9);have n1_:=zM (blk_below (g:=g3) (o:=.cells (cB (P176 L)) 5 (0,0)) zq9 hb9);have n2_:=zM (blk_below (g:=g6) (o:=.cells (cB [keyT L i 0,keyT L i 1,keyT L i 2,keyT L i 3]) 103 (0,0)) zq12 hb9);clear HB BK3 BK6;have HB:=n0_;have BK3:=n1_;have BK6:=n2_;clear n0_ n1_ n2_;clear hb9 hd9))
    go_loopw [7] (fun v7 W=>∃ k:Nat,k≤4∧v7=.int .i64 k∧Aside0 (W.heap[g3]?=some (.cells (cB (P176 (L ++ newW L i k))) 5 (0,0)))∧Aside0 (W.heap[g6]?=some (.cells (cB [keyT L i 0,keyT L i 1,keyT L i 2,keyT L i 3]) 103 (0,0)))∧Aside0 (Below w.heap.size w W)) (fun v7 _=>4 - (intOf v7).toNat)
    case atStart=>exact⟨0,zq8,rfl,⟨zq140⟩,BK6,HB⟩
    case round=>
     clear BK3 BK6 HB
     obtain⟨k,hk,rfl,BK3,BK6,HB⟩:=hrel
     by_cases hl:k < 4
     ·have hk4:=zM hl
      have hi16:=zM (show 16≤i by have:=hin.out;omega)
      have hc:wr.cell? ⟨g6,k,none⟩=some (.int .u8 (bI (keyT L i k))):=by rw[blk_cell BK6.out,cB_get _ _ hl,show by_ [keyT L i 0,keyT L i 1,keyT L i 2,keyT L i 3] k=keyT L i k from keyT_at L i k hl]
      have hx:wr.cell? ⟨g3,i+k - 16,none⟩=some (.int .u8 (bI (by_ L (i+k - 16)))):=by rw[blk_cell BK3.out,cB_get _ _ zq120,P176_get _ _ zq123,by_app _ _ _ (by rw[hL.out];omega)]
      have hq:(wr.cell? ⟨g3,i+k,none⟩).isSome=true:=by
       rw[blk_cell BK3.out,cB_get _ _ zq120]
       rfl
      obtain⟨old,hold⟩:=Option.isSome_iff_exists.1 hq
      clear hq
      have hf:=blk_frozen BK3.out (i+k)
      have p1:=eq_true (show (0:Int)≤(i:Int)+(k:Int) by omega)
      have p2:=eq_true (show (i:Int)+(k:Int) < 176 by have:=hi4.out;omega)
      have p3:=eq_true (show (0:Int)≤(i:Int)+(k:Int) - 16 by have:=hi16.out;omega)
      have p4:=eq_true (show (i:Int)+(k:Int) - 16 < 176 by have:=hi4.out;omega)
      have p5:=eq_true (show (16:Int)≤(i:Int)+(k:Int) by have:=hi16.out;omega)
      have s1:Value.int .i64 (IntKind.i64.wrap ((i:Int)+(k:Int)))=.int .i64 ((i:Int)+(k:Int)):=by rw[IntWalk.i64_in _ zq123]
      have s2:Value.int .i64 (IntKind.i64.wrap ((i:Int)+(k:Int) - 16))=.int .i64 ((i:Int)+(k:Int) - 16):=by rw[IntWalk.i64_in _ zq123]
      have n1:∀ g:Nat,(⟨g,((i:Int)+(k:Int)).toNat,none⟩:Addr)=⟨g,i+k,none⟩:=fun g=>by rw[show ((i:Int)+(k:Int)).toNat=i+k by omega]
      have n2:∀ g:Nat,(⟨g,((i:Int)+(k:Int) - 16).toNat,none⟩:Addr)=⟨g,i+k - 16,none⟩:=fun g=>by rw[show ((i:Int)+(k:Int) - 16).toNat=i+k - 16 by omega]
      have b1:=eq_true (show (0:Int)≤(k:Int) by omega)
      have b2:=eq_true (show (k:Int) < 4 by omega)
      clear hk
      go_wp2_with fail
      refine wp_region_tail 16 (by kernel_rfl) (by kernel_rfl) ?_
      simp only[List.take_succ_cons,List.take_zero,List.drop_succ_cons,List.drop_zero]
      repeat still_step
      refine wpStill_nil ?_
      clear s1 s2 n1 n2
      go_wp2_with (first
        | ((with_reducible refine gate_store (t:=5) (p:=76) rfl ?_);refine cell_event ?hg (t:=5) (p:=76) (v:=?vo_256) ?ho ?hn (i:=i+k) (x:=(.int .u8 (Go.bits .xor .u8 (bI (by_ L (i+k - 16))) (bI (keyT L i k))))) (cs:=(cB (P176 (L ++ newW L i k)))) (g:=g3) (e:=5) ?hk ?hr (cs':=(cB (P176 (L ++ newW L i (k+1))))) ?hc ?_;(case ho=>rfl);(case hg=>rfl);(case hn=>rfl);(case hk=>exact zq9);(case hr=>first|(go_simp;done)|(go_simp;rfl));(case hc=>exact zq141);intro wc hbk hgr;have n0_:=zM (below_grown1 zq0 hgr GE3.out);have n1_:=zM (blk_grown1 (g':=g6) (ob:=.cells (cB [keyT L i 0,keyT L i 1,keyT L i 2,keyT L i 3]) 103 (0,0)) zq12 hgr (blk_ne zq12 zq9 zq36));have n2_:=zM hbk;clear HB BK6 BK3;have HB:=n0_;have BK6:=n1_;have BK3:=n2_;clear n0_ n1_ n2_;clear hbk hgr))
      go_roundw
      case rel=>exact⟨k+1,by have:=hk4.out;omega,by go_num,BK3,BK6,HB⟩
      case measure=>simp[intOf];have:=hk4.out;omega
     ·obtain rfl:k=4:=by omega
      go_wp2
      go_roundw
      case rel=>exact⟨n+1,i+4,⟨zq190⟩,by have:=hn.out;omega,by go_num,zq186,⟨zq149⟩,HB⟩
      case measure=>simp[intOf];have:=hin.out;have:=hn.out;omega
   ·have e16:¬ Int.tmod (i:Int) 16=0:=by rw[Int.tmod_eq_emod_of_nonneg zq8];omega
    have hmz:(Int.tmod (i:Int) 16 == 0)=false:=beq_eq_false_iff_ne.mpr e16
    have hmz2:((i:Int) % 16 == 0)=false:=by rw[beq_eq_false_iff_ne];omega
    have hmz3:decide (Int.tmod (i:Int) 16=0)=false:=decide_eq_false e16
    have h16:=zM h16a
    have hi16:=zM hi0
    clear h16a
    have hc4:wr.cell? ⟨g3,i - 4,none⟩=some (.int .u8 (bI (by_ L (i - 4)))):=by rw[blk_cell BK3.out,cB_get _ _ zq105,P176_get _ _ zq8]
    have hc3:wr.cell? ⟨g3,i - 3,none⟩=some (.int .u8 (bI (by_ L (i - 3)))):=by rw[blk_cell BK3.out,cB_get _ _ zq105,P176_get _ _ zq8]
    have hc2:wr.cell? ⟨g3,i - 2,none⟩=some (.int .u8 (bI (by_ L (i - 2)))):=by rw[blk_cell BK3.out,cB_get _ _ zq105,P176_get _ _ zq8]
    have hc1:wr.cell? ⟨g3,i - 1,none⟩=some (.int .u8 (bI (by_ L (i - 1)))):=by rw[blk_cell BK3.out,cB_get _ _ zq105,P176_get _ _ zq8]
    have p4:=eq_true (show (0:Int)≤(i:Int) - 4 by omega)
    have q4:=eq_true (show (i:Int) - 4 < 176 by omega)
    have r4:4≤i:=by omega
    have u4:=eq_true (show (4:Int)≤(i:Int) by omega)
    have s4:Value.int .i64 (IntKind.i64.wrap ((i:Int) - 4))=.int .i64 ((i:Int) - 4):=by rw[IntWalk.i64_in _ zq8]
    have n4:∀ g:Nat,(⟨g,((i:Int) - 4).toNat,none⟩:Addr)=⟨g,i - 4,none⟩:=fun g=>by rw[show ((i:Int) - 4).toNat=i - 4 by omega]
    have p3:=eq_true (show (0:Int)≤(i:Int) - 3 by omega)
    have q3:=eq_true (show (i:Int) - 3 < 176 by omega)
    have r3:3≤i:=by omega
    have u3:=eq_true (show (3:Int)≤(i:Int) by omega)
    have s3:Value.int .i64 (IntKind.i64.wrap ((i:Int) - 3))=.int .i64 ((i:Int) - 3):=by rw[IntWalk.i64_in _ zq8]
    have n3:∀ g:Nat,(⟨g,((i:Int) - 3).toNat,none⟩:Addr)=⟨g,i - 3,none⟩:=fun g=>by rw[show ((i:Int) - 3).toNat=i - 3 by omega]
    have p2:=eq_true (show (0:Int)≤(i:Int) - 2 by omega)
    have q2:=eq_true (show (i:Int) - 2 < 176 by omega)
    have r2:2≤i:=by omega
    have u2:=eq_true (show (2:Int)≤(i:Int) by omega)
    have s2:Value.int .i64 (IntKind.i64.wrap ((i:Int) - 2))=.int .i64 ((i:Int) - 2):=by rw[IntWalk.i64_in _ zq8]
    have n2:∀ g:Nat,(⟨g,((i:Int) - 2).toNat,none⟩:Addr)=⟨g,i - 2,none⟩:=fun g=>by rw[show ((i:Int) - 2).toNat=i - 2 by omega]
    have p1:=eq_true (show (0:Int)≤(i:Int) - 1 by omega)
    have q1:=eq_true (show (i:Int) - 1 < 176 by omega)
    have r1:1≤i:=by omega
    have u1:=eq_true (show (1:Int)≤(i:Int) by omega)
    have s1:Value.int .i64 (IntKind.i64.wrap ((i:Int) - 1))=.int .i64 ((i:Int) - 1):=by rw[IntWalk.i64_in _ zq8]
    have n1:∀ g:Nat,(⟨g,((i:Int) - 1).toNat,none⟩:Addr)=⟨g,i - 1,none⟩:=fun g=>by rw[show ((i:Int) - 1).toNat=i - 1 by omega]
    have hpos:0 < i:=by omega
    go_wp2_with fail
    have e4:=World.new_ne wr _ hc4
    have e3:=World.new_ne wr _ hc3
    have e2:=World.new_ne wr _ hc2
    have e1:=World.new_ne wr _ hc1
    go_region_held3 (fun w'=>w'.cell? ⟨g3,i - 4,none⟩=some (.int .u8 (bI (by_ L (i - 4))))∧w'.cell? ⟨g3,i - 3,none⟩=some (.int .u8 (bI (by_ L (i - 3))))∧w'.cell? ⟨g3,i - 2,none⟩=some (.int .u8 (bI (by_ L (i - 2))))∧w'.cell? ⟨g3,i - 1,none⟩=some (.int .u8 (bI (by_ L (i - 1))))) (go_keep) (fail)
    clear e4 e3 e2 e1
    have m0_:=zM (blk_drew (blk_alloc BK3.out (.cells #[.int .u8 (bI (by_ L (i - 4))),.int .u8 (bI (by_ L (i - 3))),.int .u8 (bI (by_ L (i - 2))),.int .u8 (bI (by_ L (i - 1)))] 103)))
    have n1_:Aside0 ((wr.alloc (.cells #[.int .u8 (bI (by_ L (i - 4))),.int .u8 (bI (by_ L (i - 3))),.int .u8 (bI (by_ L (i - 2))),.int .u8 (bI (by_ L (i - 1)))] 103)).drew.heap[wr.heap.size]?=some (.cells #[.int .u8 (bI (by_ L (i - 4))),.int .u8 (bI (by_ L (i - 3))),.int .u8 (bI (by_ L (i - 2))),.int .u8 (bI (by_ L (i - 1)))] 103 (0,0))):=⟨blk_drew zq78⟩
    have n2_:=zM (below_drew1 (below_alloc HB.out (.cells #[.int .u8 (bI (by_ L (i - 4))),.int .u8 (bI (by_ L (i - 3))),.int .u8 (bI (by_ L (i - 2))),.int .u8 (bI (by_ L (i - 1)))] 103)))
    have GE6:=zM (below_size HB.out)
    clear r4 r3 r2 r1 u4 u3 u2 u1 hpos hc4 hc3 hc2 hc1 p4 p3 p2 p1 q4 q3 q2 q1 s4 s3 s2 s1 n4 n3 n2 n1
    clear BK3 HB
    generalize wr.heap.size=g6 at n1_ GE6 ⊢
    generalize (wr.alloc (.cells #[.int .u8 (bI (by_ L (i - 4))),.int .u8 (bI (by_ L (i - 3))),.int .u8 (bI (by_ L (i - 2))),.int .u8 (bI (by_ L (i - 1)))] 103)).drew=wr_ at m0_ n1_ n2_ ⊢
    have BK3:=m0_
    have BK6:Aside0 (wr_.heap[g6]?=some (.cells (cB [by_ L (i - 4),by_ L (i - 3),by_ L (i - 2),by_ L (i - 1)]) 103 (0,0))):=n1_
    have HB:=n2_
    clear m0_ n1_ n2_
    have ht0:wr_.cell? ⟨g6,0,none⟩=some (.int .u8 (bI (by_ L (i - 4)))):=by rw[blk_cell BK6.out];rfl
    have ht1:wr_.cell? ⟨g6,1,none⟩=some (.int .u8 (bI (by_ L (i - 3)))):=by rw[blk_cell BK6.out];rfl
    have ht2:wr_.cell? ⟨g6,2,none⟩=some (.int .u8 (bI (by_ L (i - 2)))):=by rw[blk_cell BK6.out];rfl
    have ht3:wr_.cell? ⟨g6,3,none⟩=some (.int .u8 (bI (by_ L (i - 1)))):=by rw[blk_cell BK6.out];rfl
    go_wp2_with fail
    go_loopw [7] (fun v7 W=>∃ k:Nat,k≤4∧v7=.int .i64 k∧Aside0 (W.heap[g3]?=some (.cells (cB (P176 (L ++ newW L i k))) 5 (0,0)))∧Aside0 (W.heap[g6]?=some (.cells (cB [by_ L (i - 4),by_ L (i - 3),by_ L (i - 2),by_ L (i - 1)]) 103 (0,0)))∧Aside0 (Below w.heap.size w W)) (fun v7 _=>4 - (intOf v7).toNat)
    case atStart=>exact⟨0,zq8,rfl,⟨zq140⟩,BK6,HB⟩
    case round=>
     clear BK3 BK6 HB
     obtain⟨k,hk,rfl,BK3,BK6,HB⟩:=hrel
     by_cases hl:k < 4
     ·have hk4:=zM hl
      have hi16:=zM (show 16≤i by have:=hin.out;omega)
      have hc:wr.cell? ⟨g6,k,none⟩=some (.int .u8 (bI (keyT L i k))):=by rw[blk_cell BK6.out,cB_get _ _ hl,show by_ [by_ L (i - 4),by_ L (i - 3),by_ L (i - 2),by_ L (i - 1)] k=keyT L i k from zq189]
      have hx:wr.cell? ⟨g3,i+k - 16,none⟩=some (.int .u8 (bI (by_ L (i+k - 16)))):=by rw[blk_cell BK3.out,cB_get _ _ zq120,P176_get _ _ zq123,by_app _ _ _ (by rw[hL.out];omega)]
      have hq:(wr.cell? ⟨g3,i+k,none⟩).isSome=true:=by
       rw[blk_cell BK3.out,cB_get _ _ zq120]
       rfl
      obtain⟨old,hold⟩:=Option.isSome_iff_exists.1 hq
      clear hq
      have hf:=blk_frozen BK3.out (i+k)
      have p1:=eq_true (show (0:Int)≤(i:Int)+(k:Int) by omega)
      have p2:=eq_true (show (i:Int)+(k:Int) < 176 by have:=hi4.out;omega)
      have p3:=eq_true (show (0:Int)≤(i:Int)+(k:Int) - 16 by have:=hi16.out;omega)
      have p4:=eq_true (show (i:Int)+(k:Int) - 16 < 176 by have:=hi4.out;omega)
      have p5:=eq_true (show (16:Int)≤(i:Int)+(k:Int) by have:=hi16.out;omega)
      have s1:Value.int .i64 (IntKind.i64.wrap ((i:Int)+(k:Int)))=.int .i64 ((i:Int)+(k:Int)):=by rw[IntWalk.i64_in _ zq123]
      have s2:Value.int .i64 (IntKind.i64.wrap ((i:Int)+(k:Int) - 16))=.int .i64 ((i:Int)+(k:Int) - 16):=by rw[IntWalk.i64_in _ zq123]
      have n1:∀ g:Nat,(⟨g,((i:Int)+(k:Int)).toNat,none⟩:Addr)=⟨g,i+k,none⟩:=fun g=>by rw[show ((i:Int)+(k:Int)).toNat=i+k by omega]
      have n2:∀ g:Nat,(⟨g,((i:Int)+(k:Int) - 16).toNat,none⟩:Addr)=⟨g,i+k - 16,none⟩:=fun g=>by rw[show ((i:Int)+(k:Int) - 16).toNat=i+k - 16 by omega]
      have b1:=eq_true (show (0:Int)≤(k:Int) by omega)
      have b2:=eq_true (show (k:Int) < 4 by omega)
      clear hk
      go_wp2_with fail
      refine wp_region_tail 16 (by kernel_rfl) (by kernel_rfl) ?_
      simp only[List.take_succ_cons,List.take_zero,List.drop_succ_cons,List.drop_zero]
      repeat still_step
      refine wpStill_nil ?_
      clear s1 s2 n1 n2
      go_wp2_with (first
        | ((with_reducible refine gate_store (t:=5) (p:=76) rfl ?_);refine cell_event ?hg (t:=5) (p:=76) (v:=?vo_258) ?ho ?hn (i:=i+k) (x:=(.int .u8 (Go.bits .xor .u8 (bI (by_ L (i+k - 16))) (bI (keyT L i k))))) (cs:=(cB (P176 (L ++ newW L i k)))) (g:=g3) (e:=5) ?hk ?hr (cs':=(cB (P176 (L ++ newW L i (k+1))))) ?hc ?_;(case ho=>rfl);(case hg=>rfl);(case hn=>rfl);(case hk=>exact zq9);(case hr=>first|(go_simp;done)|(go_simp;rfl));(case hc=>exact zq141);intro wc hbk hgr;have n0_:=zM (below_grown1 zq0 hgr GE3.out);have n1_:=zM (blk_grown1 (g':=g6) (ob:=.cells (cB [by_ L (i - 4),by_ L (i - 3),by_ L (i - 2),by_ L (i - 1)]) 103 (0,0)) zq12 hgr (blk_ne zq12 zq9 zq36));have n2_:=zM hbk;clear HB BK6 BK3;have HB:=n0_;have BK6:=n1_;have BK3:=n2_;clear n0_ n1_ n2_;clear hbk hgr))
      go_roundw
      case rel=>exact⟨k+1,by have:=hk4.out;omega,by go_num,BK3,BK6,HB⟩
      case measure=>simp[intOf];have:=hk4.out;omega
     ·obtain rfl:k=4:=by omega
      go_wp2
      go_roundw
      case rel=>exact⟨n+1,i+4,⟨zq190⟩,by have:=hn.out;omega,by go_num,zq191,⟨zq149⟩,HB⟩
      case measure=>simp[intOf];have:=hin.out;have:=hn.out;omega
  ·obtain rfl:n=40:=by omega
   have hge:decide ((i:Int) < 176)=false:=decide_eq_false zq190
   rw[P176_sched m hm.out] at BK3
   go_wp2
   go_ret
   exact⟨_,rfl,R_block BK3.out GE3.out (schedL_length m hm.out) zq8,HB.out⟩
def spec_l2Keys.f (l0:List Int):Option (List Int):=if isBs l0=true∧l0.length=16 then some (bL (schedL (unB l0))) else none
set_option maxHeartbeats 4000000 in
set_option maxRecDepth 100000 in
theorem spec_l2Keys.calls (A0:Option Addr) (c0:Nat) (l0:List Int) (r:List Int) (w:World) (hr0:Kd.C (Kd.int .u8) w A0 l0.length l0) (hc0:l0.length≤c0) (h:spec_l2Keys.f l0=some r) :
  Calls Try.prog 61 #[.slice A0 l0.length c0] w fun e w'=>∃ v0_:Value,e=.returned v0_∧Kd.R (Kd.int .u8) 5 w' w.heap.size (fun _=>True) v0_ r∧Below w.heap.size w w':=by
 unfold spec_l2Keys.f at h
 by_cases hb:isBs l0=true∧l0.length=16
 ·rw[if_pos hb,Option.some.injEq] at h
  obtain⟨m,rfl⟩:∃ m,l0=bL m:=⟨_,isBs_bL hb.1⟩
  rw[bL_length] at hr0
  have hl:=hb.2
  rw[bL_length] at hl
  rw[unB_bL] at h
  rw[bL_length]
  subst h
  exact l2Keys_here A0 c0 m hl w hr0
 ·rw[if_neg hb] at h
  cases h
end Go.Proofs.Ytdbanjdnjhflcaa.All
