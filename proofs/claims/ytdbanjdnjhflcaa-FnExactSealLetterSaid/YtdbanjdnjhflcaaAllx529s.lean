-- Laid by wip/shake.py of this repo out of this claim's texts. Not trusted: Lean checks it.
import Derived.Test.YtdbanjdnjhflcaaAb0s
import Derived.Test.YtdbanjdnjhflcaaAlgs
import Derived.Test.YtdbanjdnjhflcaaAllx528s
set_option linter.unusedSimpArgs false
set_option linter.unusedVariables false
namespace Go.Proofs.Ytdbanjdnjhflcaa.All
open Go.Proofs.YtdbanjdnjhflcaaW.PrintWords.Aside0 renaming mk→zM
open Go.RowKit Go.Proofs.YtdbanjdnjhflcaaW.PrintWords Go.Proofs.YtdbanjdnjhflcaaW.PrintLast Go.Proofs.YtdbanjdnjhflcaaW.PrintMore
attribute [local go_sem] max2_int min2_int max_two min_two max_three min_three max_four min_four
section
theorem fill_fold:∀ (l pre old:List Value),old.length=l.length→(l.zipIdx pre.length).foldl (fun (cs:Array Value) (x:Value × Nat)=>cs.setIfInBounds (0+x.2) x.1) (pre ++ old).toArray=(pre ++ l).toArray
 | [],pre,old,h=>by rw[List.eq_nil_of_length_eq_zero h];rfl
 | x :: l,pre,[],h=>by cases h
 | x :: l,pre,y :: old,h=>by
  have ih:=fill_fold l (pre ++ [x]) old (by simpa using h)
  rw[List.length_append,List.length_singleton] at ih
  rw[List.zipIdx_cons,List.foldl_cons]
  have e:(pre ++ y :: old).toArray.setIfInBounds (0+pre.length) x=(pre ++ [x] ++ old).toArray:=by
   apply Array.ext'
   rw[Nat.zero_add]
   simp
  rw[e,ih]
  simp
theorem built_cipher (ks:List (BitVec 8)) (hk:ks.length=176):Try.prog.built 100 [(0,.agg (cB ks))]=some (cB ks):=by
 have h1:(Try.prog.info? 100).map (fun i=>i.zero.map (·.cells.size))=some (some 176):=by kernel_rfl
 have h2:(Try.prog.info? 97).map (·.size)=some 176:=by kernel_rfl
 have h3:=Try.underlying100
 unfold Program.built
 cases hq:Try.prog.info? 100 with
 | none=>rw[hq] at h1;cases h1
 | some it=>
  rw[hq] at h1
  cases hz:it.zero with
  | none=>simp[hz] at h1
  | some z=>
   have hzs:z.cells.size=176:=by simpa [hz] using h1
   cases hr:Try.prog.info? 97 with
   | none=>rw[hr] at h2;cases h2
   | some ie=>
    have hie:ie.size=176:=by simpa [hr] using h2
    rw[h3]
    simp only[hz,hr,Option.map_some,List.mapM_cons,List.mapM_nil,hie,Option.pure_def,Option.bind_eq_bind,Option.bind_some]
    unfold Instr.fill
    have hc:(Value.agg (cB ks)).cells=cB ks:=rfl
    simp only[hc]
    rw[show ([(0,176)]:List (Nat × Nat)).toArray[0]?=some (0,176) from rfl]
    simp only[cB_size,hk,hzs]
    rw[if_neg (show ¬ ((decide ((176:Nat)≠176) || decide ((0:Nat)+176 > 176))=true) by decide)]
    unfold Instr.fill
    have hf:=fill_fold (cB ks).toList [] z.cells.toList (by simp[cB_size,hk,hzs])
    refine congrArg some ?_
    generalize hK:cB ks=K at hf ⊢
    rw[← Array.foldl_toList,Array.toList_zipIdx]
    simpa using hf
section
variable {P:Program} {ops:Array Oper} {rest:List Oper} {o:Oper} {a:Act} {W:World} {Q:Exit→Act→World→Prop}
theorem build_event (hg:o.guard=none) (t:TypeId) (parts:Array (Nat × Operand)) (ho:o.op=.build t parts) {cells:Array Value} (hf:P.built t (parts.map fun (i,x)=>(i,a.eval x)).toList=some cells)
  (h:wpList P ops Q rest (a.put o.dst (.agg cells)) W):wpList P ops Q (o :: rest) a W:=wpList_build hg t parts ho (by rw[hf];rfl) (by rw[hf];exact h)
end
set_option maxHeartbeats 4000000 in
set_option maxRecDepth 100000 in
theorem impl_newCipher.calls (A:Option Addr) (c:Nat) (m:List (BitVec 8)) (hm0:m.length=16) (w:World) (hr0:Kd.C (Kd.int .u8) w A m.length (bL m)) :
  Calls Try.prog 52 #[.slice A m.length c] w fun e w'=>∃ g:Nat,e=.returned (.pointer (some ⟨g,0,none⟩))∧w.heap.size≤g∧w'.heap[g]?=some (.cells (cB (schedL m)) 100 (0,0))∧Below w.heap.size w w':=by
 have hm:=zM hm0
 have HR:=zM hr0
 clear hm0 hr0
 have HB:=zM (Below.refl w.heap.size w)
 have hbt:=zM (built_cipher (schedL m) (schedL_length m hm.out))
 go_enter Try.func52,Try.ntmps52
 go_wp2_with (first
  | (go_at_call 69;refine(impl_schedule.calls A c m hm.out _ (by first|exact Kd.C_below HR.out zq0|exact(Kd.C_below HR.out HB.out))).mono ?_;rintro e wk ⟨rfl,hb⟩;have n0_:=zM (below_step zq0 hb);clear HB;have HB:=n0_;clear n0_;clear hb)
  | ((with_reducible refine gate_dst (N:=5) rfl ?_);refine build_event ?hg 100 #[(0,.tmp 4)] ?ho (cells:=(cB (schedL m))) ?hf ?_;(case hg=>rfl);(case ho=>rfl);(case hf=>(simp only[List.map_toArray,List.map_cons,List.map_nil];exact hbt.out)))
  | ((with_reducible refine gate_dst (N:=6) rfl ?_);refine box_event ?hg (N:=6) ?hd (cs:=(cB (schedL m))) (t:=100) ?hr ?_;(case hd=>rfl);(case hg=>rfl);(case hr=>first|(go_simp;done)|(go_simp;rfl));intro g6 hg w6 hbox hb;have n0_:=zM (below_step zq0 hb);have n1_:=zM hbox;have n2_:=zM (by rw[hg];exact below_size zq0:w.heap.size≤g6);clear HB;have HB:=n0_;have BK6:=n1_;have GE6:=n2_;clear n0_ n1_ n2_;clear hb hbox hg))
 go_ret
 exact⟨_,rfl,GE6.out,BK6.out,HB.out⟩
end
set_option maxHeartbeats 4000000 in
set_option maxRecDepth 100000 in
theorem impl_block_up.calls (m:List (BitVec 8)) (hm0:m.length=16) (w:World) :
  Calls Try.prog 55 #[.agg (cB m)] w fun e w'=>e=.returned (.agg (cB (upL m)))∧Below w.heap.size w w':=by
 have hm:=zM hm0
 clear hm0
 have HB:=zM (Below.refl w.heap.size w)
 go_enter Try.func55,Try.ntmps55
 go_wp2_with (first
  | ((with_reducible refine gate_dst (N:=1) rfl ?_);refine box_event ?hg (N:=1) ?hd (cs:=(cB m)) (t:=88) ?hr ?_;(case hd=>rfl);(case hg=>rfl);(case hr=>first|(go_simp;done)|(go_simp;rfl));intro g1 hg w1 hbox hb;have n0_:=zM (below_step zq0 hb);have n1_:=zM hbox;have n2_:=zM (by rw[hg];exact below_size zq0:w.heap.size≤g1);clear HB;have HB:=n0_;have BK1:=n1_;have GE1:=n2_;clear n0_ n1_ n2_;clear hb hbox hg)
  | ((with_reducible refine gate_dst (N:=2) rfl ?_);refine box_event ?hg (N:=2) ?hd (cs:=#[.int .u8 0,.int .u8 0,.int .u8 0,.int .u8 0,.int .u8 0,.int .u8 0,.int .u8 0,.int .u8 0,.int .u8 0,.int .u8 0,.int .u8 0,.int .u8 0,.int .u8 0,.int .u8 0,.int .u8 0,.int .u8 0]) (t:=88) ?hr ?_;(case hd=>rfl);(case hg=>rfl);(case hr=>first|(go_simp;done)|(go_simp;rfl));intro g2 hg w2 hbox hb;have n0_:=zM (below_step zq0 hb);have n1_:=zM (blk_below (g:=g1) (o:=.cells (cB m) 88 (0,0)) zq4 hb);have n2_:=zM hbox;have n3_:=zM (by rw[hg];exact below_size zq0:w.heap.size≤g2);have n4_:=zM (by rw[hg];exact Nat.ne_of_lt (blk_lt (g:=g1) (o:=.cells (cB m) 88 (0,0)) zq4):g1≠g2);have n5_:=zM (by rw[hg];exact Nat.ne_of_gt (blk_lt (g:=g1) (o:=.cells (cB m) 88 (0,0)) zq4):g2≠g1);clear HB BK1;have HB:=n0_;have BK1:=n1_;have BK2:=n2_;have GE2:=n3_;have NE1_2:=n4_;have NE2_1:=n5_;clear n0_ n1_ n2_ n3_ n4_ n5_;clear hb hbox hg))
 go_loopw [3] (fun v3 W=>∃ (n i:Nat) (xs:List (BitVec 8)),i=11+n∧n≤4∧v3=.int .i64 i∧Aside0 (xs.length=16)∧Aside0 (upTo xs n i=upL m)∧Aside0 (W.heap[g1]?=some (.cells (cB xs) 88 (0,0)))∧Aside0 (W.heap[g2]?=some (.cells #[.int .u8 0,.int .u8 0,.int .u8 0,.int .u8 0,.int .u8 0,.int .u8 0,.int .u8 0,.int .u8 0,.int .u8 0,.int .u8 0,.int .u8 0,.int .u8 0,.int .u8 0,.int .u8 0,.int .u8 0,.int .u8 0] 88 (0,0)))∧Aside0 (Below w.heap.size w W)) (fun v3 _=>(intOf v3).toNat)
 case atStart=>exact⟨4,15,m,zq8,zq8,rfl,hm,⟨rfl⟩,BK1,BK2,HB⟩
 case round=>
  clear BK1 BK2 HB
  obtain⟨n,i,xs,hin0,hn0,rfl,hx,hu,BK1,BK2,HB⟩:=hrel
  have hin:=zM hin0
  have hn4:=zM hn0
  clear hin0 hn0
  cases n with
  | zero=>
   obtain rfl:i=11:=by have:=hin.out;omega
   have e:xs=upL m:=hu.out
   subst e
   go_wp2_with (first
     | ((with_reducible refine gate_dst (N:=17) rfl ?_);refine wpList_load_row ?hg 88 (.tmp 1) ?ho g1 ?hx 88 (cB (upL m)) (0,0) _ ?hk Try.underlying88 rfl ?hi ?_;(case hg=>rfl);(case ho=>rfl);(case hx=>rfl);(case hk=>exact zq4);(case hi=>rw[cB_size,upL_length',hm.out];kernel_rfl))
     | ((with_reducible refine gate_store (t:=88) (p:=2) rfl ?_);refine row_event ?hg (ty:=88) (p:=2) (y:=?yo_51) ?ho ?hn (g:=g2) (old:=#[.int .u8 0,.int .u8 0,.int .u8 0,.int .u8 0,.int .u8 0,.int .u8 0,.int .u8 0,.int .u8 0,.int .u8 0,.int .u8 0,.int .u8 0,.int .u8 0,.int .u8 0,.int .u8 0,.int .u8 0,.int .u8 0]) (e:=88) (cells:=(cB (upL m))) ?hx ?hy ?hk ?hi ?hd ?h1 ?_;(case ho=>rfl);(case hg=>rfl);(case hn=>rfl);(case hx=>rfl);(case hy=>rfl);(case hk=>exact zq2);(case hi=>rw[cB_size,upL_length',hm.out];kernel_rfl);(case hd=>rw[cB_size,upL_length',hm.out];rfl);(case h1=>exact cB_one _);intro wr_ hbk hgr;have n0_:=zM (below_grown1 zq0 hgr GE2.out);have n1_:=zM (blk_grown1 (g':=g1) (ob:=.cells (cB (upL m)) 88 (0,0)) zq4 hgr NE1_2.out);have n2_:=zM hbk;clear HB BK1 BK2;have HB:=n0_;have BK1:=n1_;have BK2:=n2_;clear n0_ n1_ n2_;clear hbk hgr))
   refine bodyPost_ret (results_cell_row rfl _ _ g2 88 (cB (upL m)) (0,0) _ rfl zq2 Try.underlying88 rfl (by rw[cB_size,upL_length',hm.out];kernel_rfl)) rfl ?_
   exact⟨rfl,HB.out⟩
  | succ n=>
   have hi16:=zM (show i < 16 by have:=hin.out;have:=hn4.out;omega)
   have hb1:12≤i:=by have:=hin.out;omega
   have hb2:i≤15:=by have:=hin.out;have:=hn4.out;omega
   have hc:wr.cell? ⟨g1,i,none⟩=some (.int .u8 (bI (by_ xs i))):=by rw[blk_cell BK1.out,cB_get _ _ (by rw[hx.out];exact hi16.out)]
   have hf:=blk_frozen BK1.out i
   have hge:decide ((i:Int) ≥ 12)=true:=decide_eq_true zq8
   by_cases hz:by_ xs i+1#8=0#8
   ·have hq:((bI (by_ xs i)+1) % 256 != 0)=false:=by rw[bI_succ,hz];rfl
    have hz2:=zM hz
    clear hz
    go_wp2_with (first
      | ((with_reducible refine gate_store (t:=5) (p:=12) rfl ?_);refine cell_event ?hg (t:=5) (p:=12) (v:=?vo_52) ?ho ?hn (i:=i) (x:=(.int .u8 ((bI (by_ xs i)+1) % 256))) (cs:=(cB xs)) (g:=g1) (e:=88) ?hk ?hr (cs':=(cB (xs.set i (by_ xs i+1#8)))) ?hc ?_;(case ho=>rfl);(case hg=>rfl);(case hn=>rfl);(case hk=>exact zq4);(case hr=>first|(go_simp;done)|(go_simp;rfl));(case hc=>rw[bI_succ,cB_set]);intro wc hbk hgr;have n0_:=zM (below_grown1 zq0 hgr GE1.out);have n1_:=zM (blk_grown1 (g':=g2) (ob:=.cells #[.int .u8 0,.int .u8 0,.int .u8 0,.int .u8 0,.int .u8 0,.int .u8 0,.int .u8 0,.int .u8 0,.int .u8 0,.int .u8 0,.int .u8 0,.int .u8 0,.int .u8 0,.int .u8 0,.int .u8 0,.int .u8 0] 88 (0,0)) zq2 hgr NE2_1.out);have n2_:=zM hbk;clear HB BK2 BK1;have HB:=n0_;have BK2:=n1_;have BK1:=n2_;clear n0_ n1_ n2_;clear hbk hgr;have hcn:wc.cell? ⟨g1,i,none⟩=some (.int .u8 ((bI (by_ xs i)+1) % 256)):=zq148))
    go_roundw
    case rel=>exact⟨n,i - 1,xs.set i (by_ xs i+1#8),zq190,by have:=hn4.out;omega,by(have h9:((i - 1:Nat):Int)=(i:Int) - 1:=by omega);rw[h9],⟨by rw[List.length_set];exact hx.out⟩,⟨by have h9:=hu.out;unfold upTo at h9;rw[if_neg (fun h=>h hz2.out)] at h9;exact h9⟩,BK1,BK2,HB⟩
    case measure=>simp[intOf];omega
   ·have hq:((bI (by_ xs i)+1) % 256 != 0)=true:=by
     rw[bI_succ,bne_iff_ne]
     exact fun h=>hz (bI_inj h)
    have e:Aside0 (xs.set i (by_ xs i+1#8)=upL m):=⟨by have h9:=hu.out;unfold upTo at h9;rw[if_pos hz] at h9;exact h9⟩
    clear hz
    go_wp2_with (first
      | ((with_reducible refine gate_store (t:=5) (p:=12) rfl ?_);refine cell_event ?hg (t:=5) (p:=12) (v:=?vo_53) ?ho ?hn (i:=i) (x:=(.int .u8 ((bI (by_ xs i)+1) % 256))) (cs:=(cB xs)) (g:=g1) (e:=88) ?hk ?hr (cs':=(cB (xs.set i (by_ xs i+1#8)))) ?hc ?_;(case ho=>rfl);(case hg=>rfl);(case hn=>rfl);(case hk=>exact zq4);(case hr=>first|(go_simp;done)|(go_simp;rfl));(case hc=>rw[bI_succ,cB_set]);intro wc hbk hgr;have n0_:=zM (below_grown1 zq0 hgr GE1.out);have n1_:=zM (blk_grown1 (g':=g2) (ob:=.cells #[.int .u8 0,.int .u8 0,.int .u8 0,.int .u8 0,.int .u8 0,.int .u8 0,.int .u8 0,.int .u8 0,.int .u8 0,.int .u8 0,.int .u8 0,.int .u8 0,.int .u8 0,.int .u8 0,.int .u8 0,.int .u8 0] 88 (0,0)) zq2 hgr NE2_1.out);have n2_:=zM hbk;clear HB BK2 BK1;have HB:=n0_;have BK2:=n1_;have BK1:=n2_;clear n0_ n1_ n2_;clear hbk hgr;have hcn:wc.cell? ⟨g1,i,none⟩=some (.int .u8 ((bI (by_ xs i)+1) % 256)):=zq148)
      | ((with_reducible refine gate_dst (N:=17) rfl ?_);refine wpList_load_row ?hg 88 (.tmp 1) ?ho g1 ?hx 88 (cB (xs.set i (by_ xs i+1#8))) (0,0) _ ?hk Try.underlying88 rfl ?hi ?_;(case hg=>rfl);(case ho=>rfl);(case hx=>rfl);(case hk=>exact zq4);(case hi=>rw[cB_size,List.length_set,hx.out];kernel_rfl))
      | ((with_reducible refine gate_store (t:=88) (p:=2) rfl ?_);refine row_event ?hg (ty:=88) (p:=2) (y:=?yo_55) ?ho ?hn (g:=g2) (old:=#[.int .u8 0,.int .u8 0,.int .u8 0,.int .u8 0,.int .u8 0,.int .u8 0,.int .u8 0,.int .u8 0,.int .u8 0,.int .u8 0,.int .u8 0,.int .u8 0,.int .u8 0,.int .u8 0,.int .u8 0,.int .u8 0]) (e:=88) (cells:=(cB (xs.set i (by_ xs i+1#8)))) ?hx ?hy ?hk ?hi ?hd ?h1 ?_;(case ho=>rfl);(case hg=>rfl);(case hn=>rfl);(case hx=>rfl);(case hy=>rfl);(case hk=>exact zq2);(case hi=>rw[cB_size,List.length_set,hx.out];kernel_rfl);(case hd=>rw[cB_size,List.length_set,hx.out];rfl);(case h1=>exact cB_one _);intro wr_ hbk hgr;have n0_:=zM (below_grown1 zq0 hgr GE2.out);have n1_:=zM (blk_grown1 (g':=g1) (ob:=.cells (cB (xs.set i (by_ xs i+1#8))) 88 (0,0)) zq4 hgr NE1_2.out);have n2_:=zM hbk;clear HB BK1 BK2;have HB:=n0_;have BK1:=n1_;have BK2:=n2_;clear n0_ n1_ n2_;clear hbk hgr))
    rw[e.out] at BK2
    refine bodyPost_ret (results_cell_row rfl _ _ g2 88 (cB (upL m)) (0,0) _ rfl zq2 Try.underlying88 rfl (by rw[cB_size,upL_length',hm.out];kernel_rfl)) rfl ?_
    exact⟨rfl,HB.out⟩
end Go.Proofs.Ytdbanjdnjhflcaa.All
