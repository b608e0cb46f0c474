-- Laid by wip/shake.py of this repo out of this claim's texts. Not trusted: Lean checks it.
import Derived.Test.YtmnhddedcbkpoaaAb0s
import Derived.Test.YtmnhddedcbkpoaaBytes
import Derived.Test.YtmnhddedcbkpoaaAllx24s
import Derived.Test.YtmnhddedcbkpoaaAllx202s
import Derived.Test.YtmnhddedcbkpoaaAllx516s
import Derived.Test.YtmnhddedcbkpoaaAllx128s
import Derived.Test.YtmnhddedcbkpoaaAllx553s
import Derived.Test.YtmnhddedcbkpoaaAllx550s
import Derived.Lib.SliceRun
import Derived.Shelf.RegionOpenPlain
import Derived.Deep.RegionLaw
import Derived.Lib.Overlaps
import Derived.Lib.AppendZerosOnto
import Derived.Laws.NewBlocks
import Derived.Laws.Externs
import Derived.Laws.IdiomCopy
import Derived.Lib.JoinLaws
namespace Go.Proofs.Ytmnhddedcbkpoaa.All
open Go.Proofs.YtmnhddedcbkpoaaW.PrintWords.Aside0 renaming mk→zM
open Go.RowKit Go.Proofs.YtmnhddedcbkpoaaW.PrintWords Go.Proofs.YtmnhddedcbkpoaaW.PrintLast Go.Proofs.YtmnhddedcbkpoaaW.PrintMore
attribute [local go_sem] max2_int min2_int max_two min_two max_three min_three max_four min_four
set_option linter.unusedVariables false
set_option linter.unusedSimpArgs false
theorem ins_wp_copy (w:World) {o:Oper} {a:Act} {K:Act→World→Prop} {Q:Exit→Act→World→Prop} (d s:Operand) (t t':TypeId)
  (ho:o.op=.call { callee:=.builtin .copy,args:=#[d,s],argTypes:=#[t,t'] }) (v u:Value) (hd:a.eval d=v) (hs:a.eval s=u) {v':Value} {w':World}
  (hr:(Builtin.copy_ #[t,t'] o.type #[v,u]).run Try.prog w=.ok v' w') (h:K (a.put o.dst v') w'):o.wp Try.prog a w K Q:=by
 unfold Oper.wp execOp
 simp only[ho,resolve,invoke,builtin,Sem.run_bind,Sem.run_pure,Result.andThen_ok,List.map_toArray,List.map_cons,List.map_nil,hd,hs,hr]
 exact h
theorem ins_copy (w:World) {ops:Array Oper} {rest:List Oper} {o:Oper} {a:Act} {Q:Exit→Act→World→Prop} (hgd:o.guard=none) (d s:Operand) (t t':TypeId)
  (ho:o.op=.call { callee:=.builtin .copy,args:=#[d,s],argTypes:=#[t,t'] }) (v u:Value) (hd:a.eval d=v) (hs:a.eval s=u) {v':Value} {w':World}
  (hr:(Builtin.copy_ #[t,t'] o.type #[v,u]).run Try.prog w=.ok v' w') (h:wpList Try.prog ops Q rest (a.put o.dst v') w'):wpList Try.prog ops Q (o :: rest) a w:=
 wpList_plain hgd fun _ hK=>ins_wp_copy w d s t t' ho v u hd hs hr (hK _ _ h)
theorem ins_step {ops:Array Oper} {o:Oper} {a:Act} {w:World} {K:Act→World→Prop} {Q:Exit→Act→World→Prop} {E:Prop}
  (hg:o.guard=none) (d x:Operand) (dT sT:TypeId) (hop:o.op=Op.call { callee:=Callee.builtin Builtin.copy,args:=#[d,x],argTypes:=#[dT,sT] })
  (v u:Value) (hd:a.eval d=v) (hx:a.eval x=u) {v':Value} {w':World} (hr:(Builtin.copy_ #[dT,sT] o.type #[v,u]).run Try.prog w=.ok v' w') (hK:K (a.put o.dst v') w') :
  if Region.wanted o (yielded ops a.tmps)=true then Oper.wp Try.prog o a w K Q else E:=by
 have hw:Region.wanted o (yielded ops a.tmps)=true:=by simp[Region.wanted,hg]
 rw[if_pos hw]
 unfold Oper.wp
 simp[execOp,hop,resolve,invoke,builtin,hd,hx,hr,Result.andThen]
 exact hK
theorem ins_run_copy (w:World) (ty:TypeId) (b o dLen dCap:Nat) (a:Addr) (sLen sCap m:Nat) (cs cur:Array Value) (hb:w.heap[b]?=some (.cells cur 25 (0,0))) (hm:m=Nat.min sLen dLen) (hn:cs.size=m*2) (hfit:o+cs.size≤cur.size)
  (hsrc:∀ j v,cs.toList[j]?=some v→w.cell? (a.add j)=some v) (h1:∀ v ∈ cs.toList,v.oneCell'=true) :
  (Builtin.copy_ #[27,27] ty #[.slice (some ⟨b,o,none⟩) dLen dCap,.slice (some a) sLen sCap]).run Try.prog w=.ok (goInt m) (w.setCells b o cs.toList):=by
 have hl:=run_loadCells_list (P:=Try.prog) w a cs.toList hsrc
 have hst:=run_storeCells_cells (P:=Try.prog) b o cs.toList 0 w (fun j hj=>by rw[blk_cell hb,Array.getElem?_eq_getElem (by rw[Array.length_toList] at hj;omega)];rfl) (fun j hj=>blk_frozen hb _) h1
 have hi:=info25
 cases hq:Try.prog.info? 25 with
 | none=>rw[hq] at hi;cases hi
 | some i=>
  have hs:i.size=2:=by rw[hq] at hi;simp only[Option.map_some,Option.some.injEq,Prod.mk.injEq] at hi;exact hi.2.1
  rw[Array.length_toList,hn] at hl
  simp[Builtin.copy_,run_underlying Try.underlying27,Builtin.lenOf,Builtin.firstCells,sizeOf,typeInfo,hq,hs,← hm,hl,hst]
theorem ins_list (X M R cs:List Value) (i n:Nat) (hX:X.length=(i+1)*2) (hM:M.length=(n - i)*2) (hi:i≤n) (hc:cs.length=2):((X ++ M ++ R).take (i*2) ++ cs ++ (X ++ M ++ R).drop (i*2+2)).take ((n+1)*2)=X.take (i*2) ++ cs ++ M:=by
 have h1:(X ++ M ++ R).take (i*2)=X.take (i*2):=by
  rw[List.append_assoc,List.take_append_of_le_length zq21]
 have h2:(X ++ M ++ R).drop (i*2+2)=M ++ R:=by
  rw[List.append_assoc];exact List.drop_left' zq21
 rw[h1,h2,← List.append_assoc]
 exact List.take_left' (by simp only[List.length_append,List.length_take];omega)
theorem ins_list2 (X M cs:List Value) (i n:Nat) (hX:X.length=i*2) (hM:M.length=(n - i)*2) (hi:i≤n) (hc:cs.length=2) (row r1 r2:List Value) (hr:row.take (i*2)=X) (hr1:r1=row.take (i*2) ++ cs ++ row.drop (i*2+cs.length)) (hr2:r2=r1.take ((i+1)*2) ++ M ++ r1.drop ((i+1)*2+M.length)):r2.take ((n+1)*2)=X ++ cs ++ M:=by
 have h1:r1.take ((i+1)*2)=X ++ cs:=by
  rw[hr1,hr]
  exact List.take_left' (by simp only[List.length_append];omega)
 rw[hr2,h1]
 exact List.take_left' (by simp only[List.length_append];omega)
set_option maxHeartbeats 4000000 in
set_option maxRecDepth 100000 in
theorem ins_shift (g n c i:Nat) (a b:Value) (cur:Array Value) (w0 W:World) (hh:W.heap[g]?=some (.cells cur 25 (0,0))) (hcs:cur.size=c*2) (hcm:c≤9223372036854775807) (hnc:n≤c) (h1:∀ v ∈ cur.toList.take (n*2),v.oneCell'=true) (ha:a.oneCell'=true) (hb:b.oneCell'=true) (hi:i < n) (hroom:n+1≤c) :
  Calls Try.prog 89 #[.slice (some ⟨g,0,none⟩) n c,.int .i64 i,.slice (some ⟨W.heap.size,0,none⟩) 1 1] (W.alloc (.cells #[a,b] 25)) fun e w'=>
   e=.returned (.slice (some ⟨g,0,none⟩) (n+1) c)∧w'=((W.alloc (.cells #[a,b] 25)).drew.setCells g ((i+1)*2) ((cur.toList.take (n*2)).drop (i*2))).setCells g (i*2) [a,b]:=by
 have hgW:g < W.heap.size:=blk_lt hh
 obtain⟨w,hw⟩:∃ w,w=W.alloc (.cells #[a,b] 25):=⟨_,rfl⟩
 obtain⟨gv,hgv⟩:∃ gv,gv=W.heap.size:=⟨_,rfl⟩
 have hv:w.heap[gv]?=some (.cells #[a,b] 25 (0,0)):=by rw[hw,hgv];exact heap_alloc_new W _
 have hh2:w.heap[g]?=some (.cells cur 25 (0,0)):=by rw[hw];exact blk_alloc hh _
 have hvb:gv≠g:=by omega
 rw[← hw,← hgv]
 clear hw hgv hgW hh
 have hsz:∀ w,(Go.sizeOf 25).run Try.prog w=.ok 2 w:=fun w=>by
  have hi:=info25
  cases hq:Try.prog.info? 25 with
  | none=>rw[hq] at hi;cases hi
  | some i=>
   rw[hq] at hi
   simp only[Option.map_some,Option.some.injEq,Prod.mk.injEq] at hi
   simp[sizeOf,typeInfo,hq,hi.2.1]
 have hov:∀ lb cb,(callFunc 102 #[.slice (some ⟨gv,0,none⟩) 1 1,.slice (some ⟨g,(i+1)*2,none⟩) lb cb]).run Try.prog w=.ok (.value (.bool false)) w:=fun lb cb=>by
  rw[run_callFunc_extern Try.func102 (by kernel_rfl) (by kernel_rfl) (by kernel_rfl) (e:=Extern.SlicesOverlaps.overlaps #[27,27] #[4]) (by kernel_rfl),
   Lib.run_overlaps_apart w 27 4 25 Try.underlying27 2 hsz ⟨gv,0,none⟩ ⟨g,(i+1)*2,none⟩ 1 1 lb cb hvb 25 25 2 cur.size (by simp[World.shape?,hv]) (by simp[World.shape?,hh2]) zq21 (blk_frozen hv _) (blk_frozen hv _)]
  rfl
 have hll:cur.toList.length=c*2:=by rw[Array.length_toList,hcs]
 obtain⟨M,hM⟩:∃ M,M=((cur.toList.take (n*2)).drop (i*2)).toArray:=⟨_,rfl⟩
 have hML:M.toList=(cur.toList.take (n*2)).drop (i*2):=by rw[hM]
 have hMs:M.size=(n - i)*2:=by rw[← Array.length_toList,hML,List.length_drop,List.length_take,hll];omega
 have hcp1:∀ ty dc sc,(Builtin.copy_ #[27,27] ty #[.slice (some ⟨g,(i+1)*2,none⟩) (n - i) dc,.slice (some ⟨g,i*2,none⟩) (n+1 - i) sc]).run Try.prog w.drew=.ok (goInt ((n - i:Nat):Int)) (w.drew.setCells g ((i+1)*2) M.toList):=fun ty dc sc=>
  ins_run_copy w.drew ty g ((i+1)*2) (n - i) dc ⟨g,i*2,none⟩ (n+1 - i) sc (n - i) M cur hh2 zq104 hMs (by rw[hMs];omega)
   (fun j v hj=>by
    rw[Addr.add_lit]
    rw[hML,List.getElem?_drop,List.getElem?_take] at hj
    split at hj
    ·exact((blk_cell hh2 _).trans (by simpa using hj))
    ·cases hj)
   (fun v hv=>h1 v (List.mem_of_mem_drop (by rw[hML] at hv;exact hv)))
 obtain⟨cur1,hc1,hs1,_⟩:=setCells_row (e:=25) M.toList ((i+1)*2) w.drew cur hh2 (by rw[Array.length_toList,hMs];omega)
 have hv1:(w.drew.setCells g ((i+1)*2) M.toList).heap[gv]?=some (.cells #[a,b] 25 (0,0)):=(setCells_far _ _ gv hvb).trans hv
 obtain⟨W1,hW1⟩:∃ W1,W1=w.drew.setCells g ((i+1)*2) M.toList:=⟨_,rfl⟩
 rw[← hML]
 rw[← hW1] at hcp1 hc1 hv1 ⊢
 have hcp2:∀ ty dc,(Builtin.copy_ #[27,27] ty #[.slice (some ⟨g,i*2,none⟩) (n+1 - i) dc,.slice (some ⟨gv,0,none⟩) 1 1]).run Try.prog W1=.ok (goInt (1:Nat)) (W1.setCells g (i*2) [a,b]):=fun ty dc=>
  ins_run_copy W1 ty g (i*2) (n+1 - i) dc ⟨gv,0,none⟩ 1 1 1 #[a,b] cur1 hc1 zq104 rfl (by rw[hs1];simp;omega)
   (fun j v hj=>by rw[Addr.add_lit,Nat.zero_add];exact(blk_cell hv1 _).trans (by simpa using hj))
   (fun v hv=>by
    simp only[List.mem_cons,List.not_mem_nil,or_false] at hv
    rcases hv with rfl|rfl
    ·exact ha
    ·exact hb)
 clear hW1 hc1 hs1 hv1 hM hML hMs hh2 hv h1 ha hb hll hsz hcs
 have hz2:¬ ((i:Int)=(n:Int)):=by omega
 have hz2b:((i:Int) == (n:Int))=false:=beq_eq_false_iff_ne.mpr hz2
 have mixed:Try.prog.follows Departure.mixedOrders=true:=by kernel_rfl
 have hw1:IntKind.i64.wrap ((i:Int)+1)=(i:Int)+1:=by rw[IntKind.wrap_i64];omega
 have hw2:IntKind.i64.wrap ((n:Int)+1)=(n:Int)+1:=by rw[IntKind.wrap_i64];omega
 have hb1:(0:Int)≤(i:Int)+1:=by omega
 have hb1n:(0:Int)≤(n:Int)+1:=by omega
 have hin:i≤n:=by omega
 have htn:((i:Int)+1).toNat=i+1:=by omega
 have htn2:((n:Int)+1).toNat=n+1:=by omega
 have hb2:¬ (c=i+1):=by omega
 have hb3:(i:Int)≤(n:Int)+1:=by omega
 have hb4:¬ (c=i):=by omega
 have hcn:¬ ((c:Int) < (n:Int)+1):=by omega
 have hcn2:decide ((c:Int) < (n:Int)+1)=false:=decide_eq_false hcn
 have hcn3:((n:Int)+1)≤(c:Int):=by omega
 go_enter Try.func89,Try.ntmps89
 go_wp2_with (simp only[hov])
 go_region_law_o (refine ins_step rfl _ _ 27 27 rfl _ _ (by simp[Act.eval,Act.put]) (by simp[Act.eval,Act.put]) (hcp1 _ _ _) ?_)
 go_wp2_with (at_builtin;refine ins_copy _ rfl _ _ 27 27 rfl _ _ rfl rfl (hcp2 _ _) ?_)
 go_ret
 exact⟨rfl,rfl⟩
set_option maxHeartbeats 4000000 in
set_option maxRecDepth 100000 in
theorem ins_grow (g n c i:Nat) (a b:Value) (cur:Array Value) (w0 W:World) (hh:W.heap[g]?=some (.cells cur 25 (0,0))) (hcs:cur.size=c*2) (hcm:c≤9223372036854775807) (hnc:n≤c) (h1:∀ v ∈ cur.toList.take (n*2),v.oneCell'=true) (ha:a.oneCell'=true) (hb:b.oneCell'=true) (hi:i < n) (hroom:c < n+1) (hbig:(n+1)*32≤140737488355328) :
  Calls Try.prog 89 #[.slice (some ⟨g,0,none⟩) n c,.int .i64 i,.slice (some ⟨W.heap.size,0,none⟩) 1 1] (W.alloc (.cells #[a,b] 25)) fun e w'=>∃ (G:Nat) (ROW:Array Value),
   e=.returned (.slice (some ⟨W.heap.size+1,0,none⟩) (n+1) G)∧n+1≤G∧G≤9223372036854775807∧ROW.size=G*2∧ROW.toList.take (i*2)=(cur.toList.take (n*2)).take (i*2) ∧
   w'=((((W.alloc (.cells #[a,b] 25)).alloc (.cells ROW 25)).drew.setCells (W.heap.size+1) (i*2) [a,b]).drew).setCells (W.heap.size+1) ((i+1)*2) ((cur.toList.take (n*2)).drop (i*2)):=by
 have hgW:g < W.heap.size:=blk_lt hh
 obtain⟨w,hw⟩:∃ w,w=W.alloc (.cells #[a,b] 25):=⟨_,rfl⟩
 obtain⟨gv,hgv⟩:∃ gv,gv=W.heap.size:=⟨_,rfl⟩
 have hv:w.heap[gv]?=some (.cells #[a,b] 25 (0,0)):=by rw[hw,hgv];exact heap_alloc_new W _
 have hh2:w.heap[g]?=some (.cells cur 25 (0,0)):=by rw[hw];exact blk_alloc hh _
 obtain⟨N,hN⟩:∃ N,N=w.heap.size:=⟨_,rfl⟩
 have hN1:W.heap.size+1=N:=by rw[hN,hw];exact(Array.size_push _).symm
 have hvN:gv≠N:=by omega
 have hgN:g≠N:=by omega
 rw[← hw,hN1,← hgv]
 clear hw hgv hgW hh hN1
 have hll:cur.toList.length=c*2:=by rw[Array.length_toList,hcs]
 obtain⟨i0,hi0,hz0,hzs,hzb⟩:∃ i0,Try.prog.info? 25=some i0∧i0.zero=some (.agg #[(.int .i64 0),(.slice none 0 0)])∧i0.size=2∧i0.bytes=32:=by
  have hi:=info25
  cases hq:Try.prog.info? 25 with
  | none=>rw[hq] at hi;cases hi
  | some i=>
   rw[hq] at hi
   simp only[Option.map_some,Option.some.injEq,Prod.mk.injEq] at hi
   exact⟨i,rfl,hi.1,hi.2.1,hi.2.2⟩
 obtain⟨X,hX⟩:∃ X,X=(cur.toList.take (n*2)).take (i*2):=⟨_,rfl⟩
 have hXl:X.length=i*2:=by rw[hX,List.length_take,List.length_take,hll];omega
 have hold:(Builtin.firstCells i0.size i (.slice (some ⟨g,0,none⟩) i c)).run Try.prog w.drew=.ok X.toArray w.drew:=by
  rw[hzs]
  exact run_firstCells_some w.drew 2 i ⟨g,0,none⟩ i c X hXl (fun j v hj=>by
   rw[Addr.add_lit,Nat.zero_add]
   rw[hX,List.take_take,List.getElem?_take] at hj
   split at hj
   ·exact(blk_cell (w:=w.drew) hh2 _).trans (by simpa using hj)
   ·cases hj)
 obtain⟨G,hG⟩:∃ G,G=grownCap w (n+1) c 25:=⟨_,rfl⟩
 have hGn:n+1≤G:=by rw[hG];exact grownCap_ge w _ _ _
 have hG63:G≤9223372036854775807:=by
  have:=grownCap_le_maxLen w (n+1) c 25 (by unfold maxLen;omega)
  rw[← hG] at this
  unfold maxLen at this
  omega
 have hik:i+(n+1 - i)=n+1:=by omega
 obtain⟨ROW,hROW⟩:∃ ROW:Array Value,ROW=X.toArray ++ Builtin.zeroCells (Value.agg #[(.int .i64 0),(.slice none 0 0)]).cells (n+1 - i) ++ Builtin.zeroCells (Value.agg #[(.int .i64 0),(.slice none 0 0)]).cells (G - (n+1)):=⟨_,rfl⟩
 have hrz:∀ ty k,k=(n:Int)+1 - (i:Int)→(Builtin.append_ #[27,3] ty #[.slice (some ⟨g,0,none⟩) i c,.int .i64 k]).run Try.prog w=.ok (.slice (some ⟨N,0,none⟩) (n+1) G) (w.drew.alloc (.cells ROW 25)):=fun ty k hk=>by
  have h:=Lib.run_append_grow_zeros w 27 3 ty 25 i0 _ .i64 .i64 Try.underlying27 Try.underlying3 hi0 hz0 (some ⟨g,0,none⟩) i c X hold (n+1 - i) zq21 zq21 zq21 zq21 (by rw[hzb];omega) (by rw[hzb,hik];exact growslice_fits hroom hbig)
  rw[hik,← hG,← hN,← hROW] at h
  rw[hk,show (n:Int)+1 - (i:Int)=((n+1 - i:Nat):Int) by omega]
  exact h
 have hz2s:(Value.agg #[(.int .i64 0),(.slice none 0 0)]:Value).cells.size=2:=by kernel_rfl
 have hRs:ROW.size=G*2:=by
  rw[hROW,Array.size_append,Array.size_append,size_zeroCells,size_zeroCells,hz2s,List.size_toArray,hXl]
  omega
 have hRt:ROW.toList.take (i*2)=X:=by
  rw[hROW,Array.toList_append,Array.toList_append,List.append_assoc]
  exact List.take_left' hXl
 obtain⟨W1,hW1⟩:∃ W1,W1=w.drew.alloc (.cells ROW 25):=⟨_,rfl⟩
 have hbN:W1.heap[N]?=some (.cells ROW 25 (0,0)):=by rw[hW1,hN];exact heap_alloc_new w.drew _
 have hbv:W1.heap[gv]?=some (.cells #[a,b] 25 (0,0)):=by rw[hW1];exact blk_alloc (w:=w.drew) hv _
 have hbg:W1.heap[g]?=some (.cells cur 25 (0,0)):=by rw[hW1];exact blk_alloc (w:=w.drew) hh2 _
 obtain⟨M,hM⟩:∃ M,M=((cur.toList.take (n*2)).drop (i*2)).toArray:=⟨_,rfl⟩
 have hML:M.toList=(cur.toList.take (n*2)).drop (i*2):=by rw[hM]
 have hMs:M.size=(n - i)*2:=by rw[← Array.length_toList,hML,List.length_drop,List.length_take,hll];omega
 have hcpA:∀ (V:World),V.heap=W1.heap→∀ ty dc,(Builtin.copy_ #[27,27] ty #[.slice (some ⟨N,i*2,none⟩) (n+1 - i) dc,.slice (some ⟨gv,0,none⟩) 1 1]).run Try.prog V=.ok (goInt (1:Nat)) (V.setCells N (i*2) [a,b]):=fun V hV ty dc=>
  ins_run_copy V ty N (i*2) (n+1 - i) dc ⟨gv,0,none⟩ 1 1 1 #[a,b] ROW (by rw[hV];exact hbN) zq104 rfl (by rw[hRs];simp;omega)
   (fun j v hj=>by rw[Addr.add_lit,Nat.zero_add];exact(blk_cell (by rw[hV];exact hbv) _).trans (by simpa using hj))
   (fun v hv=>by
    simp only[List.mem_cons,List.not_mem_nil,or_false] at hv
    rcases hv with rfl|rfl
    ·exact ha
    ·exact hb)
 obtain⟨row1,hr1,hs1,_⟩:=setCells_row (e:=25) [a,b] (i*2) W1 ROW hbN (by rw[hRs];simp;omega)
 have hg1:(W1.setCells N (i*2) [a,b]).heap[g]?=some (.cells cur 25 (0,0)):=(setCells_far _ _ g hgN).trans hbg
 have hcpB:∀ (V:World),V.heap=(W1.setCells N (i*2) [a,b]).heap→∀ ty dc sc,(Builtin.copy_ #[27,27] ty #[.slice (some ⟨N,(i+1)*2,none⟩) (n - i) dc,.slice (some ⟨g,i*2,none⟩) (n - i) sc]).run Try.prog V=.ok (goInt ((n - i:Nat):Int)) (V.setCells N ((i+1)*2) M.toList):=fun V hV ty dc sc=>
  ins_run_copy V ty N ((i+1)*2) (n - i) dc ⟨g,i*2,none⟩ (n - i) sc (n - i) M row1 (by rw[hV];exact hr1) zq104 hMs (by rw[hs1,hMs,hRs];omega)
   (fun j v hj=>by
    rw[Addr.add_lit]
    rw[hML,List.getElem?_drop,List.getElem?_take] at hj
    split at hj
    ·exact(blk_cell (by rw[hV];exact hg1) _).trans (by simpa using hj)
    ·cases hj)
   (fun v hv=>h1 v (List.mem_of_mem_drop (by rw[hML] at hv;exact hv)))
 rw[← hX,← hML]
 subst hW1
 have hE1:((w.alloc (.cells ROW 25)).drew).heap=(w.drew.alloc (.cells ROW 25)).heap:=rfl
 have hF1:(((w.alloc (.cells ROW 25)).drew.setCells N (i*2) [a,b]).drew).heap=((w.drew.alloc (.cells ROW 25)).setCells N (i*2) [a,b]).heap:=rfl
 clear hr1 hs1 hg1 hbN hbv hbg hM hML hMs hh2 hv h1 ha hb hll hcs hROW hG hold hX hi0 hz0 hzs hzb hik hvN hgN hXl hN
 have hz2:¬ ((i:Int)=(n:Int)):=by omega
 have hz2b:((i:Int) == (n:Int))=false:=beq_eq_false_iff_ne.mpr hz2
 have mixed:Try.prog.follows Departure.mixedOrders=true:=by kernel_rfl
 have hw1:IntKind.i64.wrap ((i:Int)+1)=(i:Int)+1:=by rw[IntKind.wrap_i64];omega
 have hw2:IntKind.i64.wrap ((n:Int)+1)=(n:Int)+1:=by rw[IntKind.wrap_i64];omega
 have hw3:IntKind.i64.wrap ((n:Int)+1 - (i:Int))=(n:Int)+1 - (i:Int):=by rw[IntKind.wrap_i64];omega
 have hb1:(0:Int)≤(i:Int)+1:=by omega
 have hb1n:(0:Int)≤(n:Int)+1:=by omega
 have hin:i≤n:=by omega
 have hic:i≤c:=by omega
 have hiG:i≤n+1:=by omega
 have htn:((i:Int)+1).toNat=i+1:=by omega
 have hb2:¬ (G=i+1):=by omega
 have hb3:(i:Int)≤(n:Int)+1:=by omega
 have hb4:¬ (c=i):=by omega
 have hb5:¬ (G=i):=by omega
 have hcn:((c:Int) < (n:Int)+1):=by omega
 have hcn2:decide ((c:Int) < (n:Int)+1)=true:=decide_eq_true hcn
 go_enter Try.func89,Try.ntmps89
 go_wp2_with (first
  | (at_builtin;refine Lib.wpList_append_run _ rfl _ _ _ _ rfl _ _ rfl rfl _ _ (hrz _ _ zq64) ?_)
  | (at_builtin;refine ins_copy _ rfl _ _ 27 27 rfl _ _ rfl rfl (hcpA _ hE1 _ _) ?_)
  | (at_builtin;refine ins_copy _ rfl _ _ 27 27 rfl _ _ rfl rfl (hcpB _ rfl _ _ _) ?_))
 go_region_law_o (refine ins_step rfl _ _ 27 27 rfl (.slice (some ⟨N,(i+1)*2,none⟩) (n - i) (G - (i+1))) (.slice (some ⟨g,i*2,none⟩) (n - i) (c - i)) (by simp[Act.eval,Act.put]) (by simp[Act.eval,Act.put]) (hcpB _ hF1 3 (G - (i+1)) (c - i)) ?_)
 go_wp2
 go_ret
 exact⟨G,ROW,rfl,hGn,hG63,hRs,hRt,rfl⟩
set_option maxHeartbeats 4000000 in
set_option maxRecDepth 100000 in
theorem ins_end (base g n c:Nat) (a b:Value) (inner:List Value) (w0 W:World) (hnc:n≤c) (ha:a.oneCell'=true) (hb:b.oneCell'=true) (HO:W.ownsRow base 25 2 (.slice (some ⟨g,0,none⟩) n c) n inner) (HB:Below base w0 W) (hbase:base≤W.heap.size) (hbig:(n+1)*32≤140737488355328) :
  Calls Try.prog 89 #[.slice (some ⟨g,0,none⟩) n c,.int .i64 n,.slice (some ⟨W.heap.size,0,none⟩) 1 1] (W.alloc (.cells #[a,b] 25)) fun e w'=>∃ v1,
   e=.returned v1∧w'.ownsRow base 25 2 v1 (n+1) (inner ++ [a,b])∧Below base w0 w'∧W.grownBy w' (some g)∧(v1.ownBlock=some g ∨ ∃ b,v1.ownBlock=some b∧W.heap.size≤b):=by
 obtain⟨gv,hgv⟩:∃ gv,Aside0 (gv=W.heap.size):=⟨_,⟨rfl⟩⟩
 rw[← hgv.out]
 have H1:=zM HO
 have H2:=zM HB
 have H3:=zM hbase
 have H4:=zM hbig
 have H5:Aside0 (∀ u ∈ [a,b],u.oneCell'=true):=⟨by
  intro v hv
  simp only[List.mem_cons,List.not_mem_nil,or_false] at hv
  rcases hv with rfl|rfl
  ·exact ha
  ·exact hb⟩
 clear HO HB hbase hbig ha hb
 have mixed:Try.prog.follows Departure.mixedOrders=true:=by kernel_rfl
 have hnn:((n:Int) == (n:Int))=true:=beq_iff_eq.mpr rfl
 by_cases hcn:c=n
 ·subst hcn
  go_enter Try.func89,Try.ntmps89
  go_wp2_with (at_builtin;refine print_append_cells (w0:=w0) (W:=W) base rfl (.tmp 23) (.tmp 24) 27 25 (.agg #[(.int .i64 0),(.slice none 0 0)]) 2 32 rfl Try.underlying27 info25 rfl zq17 zq17 (.slice (some ⟨g,0,none⟩) c c) c inner [a,b] rfl (congrArg (fun k=>Value.slice (some ⟨k,0,none⟩) 1 1) hgv.out) rfl H5.out H1.out H2.out H3.out H4.out ?_;intro v1 w1 ho1 hb1 hg1 hat;replace ho1:=zM ho1;replace hb1:=zM hb1;replace hg1:=zM hg1;replace hat:=zM hat)
  go_ret
  exact⟨v1,rfl,ho1.out,hb1.out,hg1.out,hgv.out ▸ hat.out⟩
 ·go_enter Try.func89,Try.ntmps89
  go_wp2_with (at_builtin;refine print_append_cells (w0:=w0) (W:=W) base rfl (.tmp 23) (.tmp 24) 27 25 (.agg #[(.int .i64 0),(.slice none 0 0)]) 2 32 rfl Try.underlying27 info25 rfl zq17 zq17 (.slice (some ⟨g,0,none⟩) n c) n inner [a,b] rfl (congrArg (fun k=>Value.slice (some ⟨k,0,none⟩) 1 1) hgv.out) rfl H5.out H1.out H2.out H3.out H4.out ?_;intro v1 w1 ho1 hb1 hg1 hat;replace ho1:=zM ho1;replace hb1:=zM hb1;replace hg1:=zM hg1;replace hat:=zM hat)
  go_ret
  exact⟨v1,rfl,ho1.out,hb1.out,hg1.out,hgv.out ▸ hat.out⟩
theorem ins_grown (W:World) (g o:Nat) (vs:List Value):W.grownBy (W.setCells g o vs) (some g):=by
 obtain⟨h1,h2,h3,h4⟩:=setCells_same g vs o W
 exact⟨h1,h2,h3,zq21,fun k _ hk=>setCells_far vs o k (fun e=>hk (by rw[e]))⟩
theorem slices_Insert.calls (base g n c i:Nat) (a b:Value) (inner:List Value) (w0 W:World) (hi:i≤n) (h1:∀ v ∈ inner,v.oneCell'=true) (ha:a.oneCell'=true) (hb:b.oneCell'=true) (HO:W.ownsRow base 25 2 (.slice (some ⟨g,0,none⟩) n c) n inner) (HB:Below base w0 W) (hbase:base≤W.heap.size) (hbig:(n+1)*32≤140737488355328) :
  Calls Try.prog 89 #[.slice (some ⟨g,0,none⟩) n c,.int .i64 i,.slice (some ⟨W.heap.size,0,none⟩) 1 1] (W.alloc (.cells #[a,b] 25)) fun e w'=>∃ v1,
   e=.returned v1∧w'.ownsRow base 25 2 v1 (n+1) (inner.take (i*2) ++ [a,b] ++ inner.drop (i*2))∧Below base w0 w'∧W.grownBy w' (some g)∧(v1.ownBlock=some g ∨ ∃ b,v1.ownBlock=some b∧W.heap.size≤b):=by
 have HO9:=HO
 obtain⟨hl,hv|⟨g',c',cur,hv,hbg,hh,hnc,hcm,hcs,ht⟩⟩:=HO9
 ·cases hv.1
 injection hv with hv1 hv2 hv3
 injection hv1 with hv1
 injection hv1 with hv1
 subst hv1 hv3
 have hcm9:c≤9223372036854775807:=hcm
 have hllc:cur.toList.length=c*2:=by rw[Array.length_toList,hcs]
 by_cases hin:i=n
 ·subst hin
  refine(ins_end base g i c a b inner w0 W hnc ha hb HO HB hbase hbig).mono ?_
  rintro e w' ⟨v1,rfl,ho,hb',hg',hat⟩
  refine⟨v1,rfl,?_,hb',hg',hat⟩
  rw[← hl,List.take_length,List.drop_length,List.append_nil]
  exact ho
 have hlt:i < n:=by omega
 rw[← ht] at h1
 by_cases hroom:n+1≤c
 ·refine(ins_shift g n c i a b cur w0 W hh hcs hcm9 hnc h1 ha hb hlt hroom).mono ?_
  rintro e w' ⟨rfl,rfl⟩
  have hg0:(W.alloc (.cells #[a,b] 25)).drew.heap[g]?=some (.cells cur 25 (0,0)):=blk_drew (blk_alloc hh _)
  have hMl:((cur.toList.take (n*2)).drop (i*2)).length=(n - i)*2:=by rw[List.length_drop,List.length_take,hllc];omega
  obtain⟨c1,hc1,hs1,hl1⟩:=setCells_row (e:=25) ((cur.toList.take (n*2)).drop (i*2)) ((i+1)*2) _ cur hg0 (by rw[hMl];omega)
  obtain⟨c2,hc2,hs2,hl2⟩:=setCells_row (e:=25) [a,b] (i*2) _ c1 hc1 (by rw[hs1];simp;omega)
  have hgr:W.grownBy (((W.alloc (.cells #[a,b] 25)).drew.setCells g ((i+1)*2) ((cur.toList.take (n*2)).drop (i*2))).setCells g (i*2) [a,b]) (some g):=
   (World.grownBy.trans (World.grownBy_alloc W _ _) (⟨rfl,rfl,rfl,Nat.le_refl _,fun _ _ _=>rfl⟩:(W.alloc (.cells #[a,b] 25)).grownBy (W.alloc (.cells #[a,b] 25)).drew (some g))).trans ((ins_grown _ g _ _).trans (ins_grown _ g _ _))
  refine⟨_,rfl,⟨?_,.inr ⟨g,c,c2,rfl,hbg,hc2,hroom,hcm,by rw[hs2,hs1,hcs],?_⟩⟩,HB.grown hgr hbase (fun k hk=>by injection hk with hk;omega),hgr,.inl rfl⟩
  ·simp only[List.length_append,List.length_take,List.length_drop,List.length_cons,List.length_nil];omega
  ·rw[hl2,hl1,← ht]
   have:=ins_list (cur.toList.take ((i+1)*2)) ((cur.toList.take (n*2)).drop (i*2)) (cur.toList.drop ((i+1)*2+((cur.toList.take (n*2)).drop (i*2)).length)) [a,b] i n (by rw[List.length_take];omega) hMl hi rfl
   rw[List.take_take,Nat.min_eq_left zq21] at this
   rw[List.take_take,Nat.min_eq_left zq21]
   exact this
 ·refine(ins_grow g n c i a b cur w0 W hh hcs hcm9 hnc h1 ha hb hlt zq21 hbig).mono ?_
  rintro e w' ⟨G,ROW,rfl,hG1,hG2,hG3,hG4,rfl⟩
  have hA:(W.alloc (.cells #[a,b] 25)).heap.size=W.heap.size+1:=Array.size_push _
  have hN0:((W.alloc (.cells #[a,b] 25)).alloc (.cells ROW 25)).drew.heap[W.heap.size+1]?=some (.cells ROW 25 (0,0)):=by
   have:=heap_alloc_new (W.alloc (.cells #[a,b] 25)) (.cells ROW 25)
   rw[hA] at this
   exact this
  have hMl:((cur.toList.take (n*2)).drop (i*2)).length=(n - i)*2:=by rw[List.length_drop,List.length_take,hllc];omega
  obtain⟨c1,hc1,hs1,hl1⟩:=setCells_row (e:=25) [a,b] (i*2) _ ROW hN0 (by rw[hG3];simp;omega)
  obtain⟨c2,hc2,hs2,hl2⟩:=setCells_row (e:=25) ((cur.toList.take (n*2)).drop (i*2)) ((i+1)*2) _ c1 (blk_drew hc1) (by rw[hs1,hMl];omega)
  have hgN:∀ (V:World) (o:Nat) (vs:List Value) (j:Nat),j < W.heap.size→(V.setCells (W.heap.size+1) o vs).heap[j]?=V.heap[j]?:=fun V o vs j hj=>setCells_far vs o j zq21
  have hsz:∀ (V:World) (o:Nat) (vs:List Value),(V.setCells (W.heap.size+1) o vs).heap.size=V.heap.size:=fun V o vs=>(setCells_same _ vs o V).2.2.2
  have hgr:W.grownBy ((((W.alloc (.cells #[a,b] 25)).alloc (.cells ROW 25)).drew.setCells (W.heap.size+1) (i*2) [a,b]).drew.setCells (W.heap.size+1) ((i+1)*2) ((cur.toList.take (n*2)).drop (i*2))) (some g):=by
   obtain⟨V0,hV0⟩:∃ V0,V0=((W.alloc (.cells #[a,b] 25)).alloc (.cells ROW 25)).drew:=⟨_,rfl⟩
   have hg0:W.grownBy V0 (some g):=by
    rw[hV0]
    exact World.grownBy.trans (World.grownBy_alloc W (.cells #[a,b] 25) _) (World.grownBy.trans (World.grownBy_alloc _ (.cells ROW 25) _) ⟨rfl,rfl,rfl,Nat.le_refl _,fun _ _ _=>rfl⟩)
   rw[← hV0]
   obtain⟨q1,q2,q3,q4⟩:=setCells_same (W.heap.size+1) [a,b] (i*2) V0
   obtain⟨p1,p2,p3,p4⟩:=setCells_same (W.heap.size+1) ((cur.toList.take (n*2)).drop (i*2)) ((i+1)*2) (V0.setCells (W.heap.size+1) (i*2) [a,b]).drew
   refine⟨p1.trans (q1.trans hg0.os),p2.trans (q2.trans hg0.tape),p3.trans (q3.trans hg0.output),by rw[p4];exact Nat.le_trans hg0.size (Nat.le_of_eq q4.symm),fun k hk hk2=>?_⟩
   exact(setCells_far _ _ k zq21).trans ((setCells_far _ _ k zq21).trans (hg0.block k hk hk2))
  refine⟨_,rfl,⟨?_,.inr ⟨W.heap.size+1,G,c2,rfl,zq21,hc2,hG1,hG2,by rw[hs2,hs1,hG3],?_⟩⟩,HB.grown hgr hbase (fun k hk=>by injection hk with hk;omega),hgr,.inr ⟨W.heap.size+1,rfl,zq21⟩⟩
  ·simp only[List.length_append,List.length_take,List.length_drop,List.length_cons,List.length_nil];omega
  ·rw[← ht]
   exact ins_list2 ((cur.toList.take (n*2)).take (i*2)) _ [a,b] i n (by rw[List.length_take,List.length_take,hllc];omega) hMl hi rfl ROW.toList c1.toList c2.toList hG4 hl1 hl2
theorem ins_seg (l cs:List Value) (i j m:Nat) (hl:l.length=m*2) (hc:cs.length=2) (hi:i≤m):((l.take (i*2) ++ cs ++ l.drop (i*2)).drop (j*2)).take 2=if j < i then (l.drop (j*2)).take 2 else if j=i then cs else (l.drop ((j - 1)*2)).take 2:=by
 have hX:(l.take (i*2)).length=i*2:=by rw[List.length_take];omega
 by_cases h1:j < i
 ·rw[if_pos h1,List.append_assoc,List.drop_append_of_le_length zq21,List.take_append_of_le_length (by rw[List.length_drop];omega),List.drop_take,List.take_take,Nat.min_eq_left zq21]
 ·rw[if_neg h1]
  by_cases h2:j=i
  ·subst h2
   rw[if_pos rfl,List.append_assoc,List.drop_left' hX]
   exact List.take_left' hc
  ·rw[if_neg h2]
   have h3:(l.take (i*2) ++ cs).length=(i+1)*2:=by rw[List.length_append];omega
   rw[List.drop_append,h3,List.drop_eq_nil_of_le zq21,List.nil_append,List.drop_drop]
   congr 2
   omega
open Classical in
theorem insert_at (g n c i:Nat) (p:S25) (a b:Value) (xs:List S25) (w0 W:World) (okp:Nat→Prop) (hi:i≤n) (hbig:(n+1)*32≤140737488355328) (HB:Below w0.heap.size w0 W) (hbase:w0.heap.size≤W.heap.size) (HO:Kd.S k25 25 W w0.heap.size (fun k=>¬ okp k) (.slice (some ⟨g,0,none⟩) n c) xs) (hp:k25.M W w0.heap.size okp p [a,b]) :
  Calls Try.prog 89 #[.slice (some ⟨g,0,none⟩) n c,.int .i64 i,.slice (some ⟨W.heap.size,0,none⟩) 1 1] (W.alloc (.cells #[a,b] 25)) fun e w'=>∃ v1,e=.returned v1∧Kd.S k25 25 w' w0.heap.size (fun _=>True) v1 (xs.insertIdx i p)∧Below w0.heap.size w0 w'∧W.grownBy w' (some g):=by
 have hS:=HO
 obtain⟨f,h0,inner,hown,hr⟩:=HO
 rw[List.length_zipIdx] at hown
 have hnx:n=xs.length:=(Kd.S_reads' hS).1
 have hlen:inner.length=xs.length*2:=hown.1
 have hone:∀ v ∈ inner,v.oneCell'=true:=Kd.reps_one hr (show 0 < 2 by omega) (fun q c hq=>(Kd.tag f k25).K_one ((Kd.tag f k25).K_of_M hq))
 have hone2:=k25.K_one (k25.K_of_M hp)
 rw[← hnx] at hown
 refine(slices_Insert.calls w0.heap.size g n c i a b inner w0 W hi hone (hone2 a zq58) (hone2 b zq58) hown HB hbase hbig).mono ?_
 rintro e w1 ⟨v1,rfl,ho,hb,hg,hat⟩
 refine⟨v1,rfl,?_,hb,hg⟩
 have hgne:¬ okp g:=h0 g rfl
 have hne:∀ k,k≠g→k < W.heap.size→some k≠v1.ownBlock:=by
  intro k hk hlt
  rcases hat with hat|⟨b,hb,hle⟩
  ·rw[hat];intro he;exact hk (Option.some.inj he)
  ·rw[hb]
   intro he
   injection he with he
   omega
 have step:∀ {q:S25} {c:List Value} {o:Nat→Prop},k25.M W w0.heap.size o q c→(∀ k,o k→k≠g)→k25.M w1 w0.heap.size (fun k=>o k∧some k≠v1.ownBlock) q c:=by
  intro q c o hq hk
  have h1:=k25.M_move (w1:=w1) (fun k hk2=>hg.block k hk2.2.2.1 (fun he=>hk k hk2.1 (Option.some.inj he))) (k25.M_bound hq)
  exact k25.M_mono (fun k hk2=>⟨hk2.1,hne k (hk k hk2.1) hk2.2.2.1⟩) h1
 have hlx:(xs.insertIdx i p).length=xs.length+1:=by rw[List.length_insertIdx,if_pos zq21]
 refine⟨fun b=>if okp b then i else if f b < i then f b else f b+1,fun _ _=>trivial,inner.take (i*2) ++ [a,b] ++ inner.drop (i*2),by rw[List.length_zipIdx,hlx,← hnx];exact ho,?_,fun j q hj=>?_⟩
 ·rw[List.length_zipIdx,hlx]
  have hx:=ho.1
  rw[hx,hnx]
  rfl
 ·rw[List.getElem?_zipIdx,Nat.zero_add] at hj
  obtain⟨x,hx,rfl⟩:=Option.map_eq_some_iff.1 hj
  rw[List.getElem?_insertIdx] at hx
  have hsz:(Kd.tag (fun b=>if okp b then i else if f b < i then f b else f b+1) k25).sz=2:=rfl
  rw[hsz,ins_seg inner [a,b] i j xs.length hlen rfl zq21]
  by_cases h1:j < i
  ·rw[if_pos h1] at hx ⊢
   have hq:=hr.2 j (x,j) (Kd.zip_at hx)
   have hq2:k25.M W w0.heap.size (fun k=>((¬ okp k)∧some k≠(Value.slice (some ⟨g,0,none⟩) n c).ownBlock)∧f k=j) x ((inner.drop (j*2)).take 2):=hq
   refine k25.M_mono (fun k hk=>⟨⟨trivial,hk.2⟩,?_⟩) (step hq2 (fun k hk he=>hk.1.2 (by rw[he];rfl)))
   have e1:=hk.1.1.1
   have e2:=hk.1.2
   show (if okp k then i else if f k < i then f k else f k+1)=j
   rw[if_neg e1,if_pos zq21];exact e2
  ·rw[if_neg h1] at hx ⊢
   by_cases h2:j=i
   ·rw[if_pos h2] at hx ⊢
    have hpx:p=x:=by
     split at hx
     ·injection hx
     ·cases hx
    subst hpx
    refine k25.M_mono (fun k hk=>⟨⟨trivial,hk.2⟩,?_⟩) (step hp (fun k hk he=>hgne (he ▸ hk)))
    show (if okp k then i else if f k < i then f k else f k+1)=j
    rw[if_pos hk.1];exact h2.symm
   ·rw[if_neg h2] at hx ⊢
    have hq:=hr.2 (j - 1) (x,j - 1) (Kd.zip_at hx)
    have hq2:k25.M W w0.heap.size (fun k=>((¬ okp k)∧some k≠(Value.slice (some ⟨g,0,none⟩) n c).ownBlock)∧f k=j - 1) x ((inner.drop ((j - 1)*2)).take 2):=hq
    refine k25.M_mono (fun k hk=>⟨⟨trivial,hk.2⟩,?_⟩) (step hq2 (fun k hk he=>hk.1.2 (by rw[he];rfl)))
    have e1:=hk.1.1.1
    have e2:=hk.1.2
    show (if okp k then i else if f k < i then f k else f k+1)=j
    rw[if_neg e1,if_neg zq21];omega
theorem ins_box (g:Nat) (p:Int) (A:Option Addr) (n c:Nat) (W:World) (h:W.heap[g]?=some (.cells #[.int .i64 p,.slice A n c] 25 (0,0))):W.cell? ⟨g,0,none⟩=some (.int .i64 p)∧W.cell? ⟨g,1,none⟩=some (.slice A n c):=⟨(blk_cell h 0).trans rfl,(blk_cell h 1).trans rfl⟩
theorem S_consN {w:World} {base:Nat} {ok:Nat→Prop} {v:Value} {xs:List S25} {N:Nat} (h:Kd.S k25 25 w base ok v xs) (hn:xs.length=N) (h0:0 < N):∃ g c,v=.slice (some ⟨g,0,none⟩) N c:=by
 subst hn
 obtain⟨g,c,hv,_⟩:=Kd.S_form h h0
 exact⟨g,c,hv⟩
def atL (id:Int):List S25→Nat
 | []=>0
 | x :: xs=>if x.f0 < id then atL id xs+1 else 0
theorem atL_drop (id:Int) (l:List S25) (k:Nat) (h:k < l.length):atL id (l.drop k)=if (rd_T25 l (k:Int)).f0 < id then atL id (l.drop (k+1))+1 else 0:=by
 rw[List.drop_eq_getElem_cons h,rd_get l k h]
 rfl
theorem own_key {W:World} {base go n c:Nat} {ok:Nat→Prop} {xs:List S25} (h:Kd.S k25 25 W base ok (.slice (some ⟨go,0,none⟩) n c) xs) (i:Nat) (hi:i < xs.length):W.cell? ⟨go,i*2,none⟩=some (.int .i64 (rd_T25 xs (i:Int)).f0):=by
 obtain⟨hn,_,hC⟩:=Kd.S_reads' h
 obtain⟨ad,A1,c1,ea,hx0,_⟩:=at_T25 hC (i:Int) zq21 zq21
 cases ea
 rw[Int.toNat_natCast] at hx0
 have ha:∀ j,Addr.add ⟨go,0,none⟩ j=⟨go,j,none⟩:=fun j=>by unfold Addr.add;split <;> simp_all
 rw[ha] at hx0
 exact hx0
def impl_InstallKey.T14:Bool × List (List Nat × List Nat):=(true,[([],[]),([0],[0]),([],[]),([],[]),([3],[3]),([4],[4]),([1,2,5,4],[1,2,5]),([0,1,2,3,4,5,6],[]),([7,6,6,0,1,2,3,4,5,6],[6,7])])
def impl_InstallKey.B14:List Nat:=[0,1,0,0,8,24,63,127,255]
theorem impl_InstallKey.tab14:rtab .any (opsOf Try.f48 14)=impl_InstallKey.T14:=by kernel_rfl
theorem impl_InstallKey.bits14:waitsOk impl_InstallKey.T14.2 impl_InstallKey.B14=true:=by kernel_rfl
def impl_InstallKey.f (k:Nat) (a0_0:Int) (l0_1:List S25) (a1_0:Int) (l1_1:List Int):Option (Int × Int × List S25):=(impl_RingFault.f k a0_0 l0_1).bind fun t=>if t=0 then (impl_Key_fault.f a1_0 l1_1).bind fun u=>if u=0 then (impl_Ring_place.f a0_0 l0_1 a1_0).bind fun q=>if 0≤q then some (6,0,[]) else if l0_1.length=3 then some (7,0,[]) else (impl_ownRing.f k a0_0 l0_1).bind fun r=>(impl_ownKey.f a1_0 l1_1).bind fun y=>if 0 < r.2.length∧r.2.length < 1000 then some (0,r.1,r.2.insertIdx (atL a1_0 r.2) ⟨y.1,y.2⟩) else none else some (u,0,[]) else some (t,0,[])
theorem impl_InstallKey.mono:∀ a0 a1 a2 a3 k,LeO (impl_InstallKey.f k a0 a1 a2 a3) (impl_InstallKey.f (k+1) a0 a1 a2 a3):=by
 intro a0 a1 a2 a3 k
 unfold impl_InstallKey.f
 repeat' first
  | (with_reducible exact LeO.refl _)
  | (with_reducible exact LeO.none _)
  | (with_reducible exact impl_RingFault.mono _ _ _ )
  | (with_reducible exact impl_ownRing.mono _ _ _ )
  | (with_reducible refine LeO.ite ?_ ?_)
  | (with_reducible refine LeO.bind ?_ (fun _=>?_))
set_option maxHeartbeats 4000000 in
set_option maxRecDepth 100000 in
theorem impl_InstallKey.w6 (k:Nat) (a0_0:Int) (A0_1:Option Addr) (c0_1:Nat) (l0_1:List S25) (a1_0:Int) (A1_1:Option Addr) (c1_1:Nat) (l1_1:List Int) (w:World) (HR:Aside0 (Kd.C k25 w A0_1 l0_1.length l0_1)) (HC:Aside0 (l0_1.length≤c0_1)) (HRK:Aside0 (Kd.C (Kd.int .u8) w A1_1 l1_1.length l1_1)) (HCK:Aside0 (l1_1.length≤c1_1)) (HB:Aside0 (Below w.heap.size w w)) (q:Int) (HF:Aside0 (impl_RingFault.f k a0_0 l0_1=some 0)) (HU:Aside0 (impl_Key_fault.f a1_0 l1_1=some 0)) (HQ:Aside0 (impl_Ring_place.f a0_0 l0_1 a1_0=some q)) (hd:decide (0≤q)=true) :
  Calls Try.prog 48 #[.agg #[.int .i64 a0_0,.slice A0_1 l0_1.length c0_1],.agg #[.int .i64 a1_0,.slice A1_1 l1_1.length c1_1]] w fun e w'=>∃ v2_:Value,e=.returned (.agg #[.int .i64 6,.int .i64 0,v2_])∧Kd.S k25 25 w' w.heap.size (fun _=>True) v2_ ([]:List S25)∧Below w.heap.size w w':=by
 go_enter Try.func48,Try.ntmps48
 go_wp2_with (first
   | ((with_reducible refine gate_dst (N:=2) rfl ?_);refine box_event ?hg (N:=2) ?hd (cs:=#[.int .i64 a0_0,.slice A0_1 l0_1.length c0_1]) (t:=29) ?hr ?_;(case hd=>rfl);(case hg=>rfl);(case hr=>first|(go_simp;done)|(go_simp;rfl));intro g2 hg w2 hbox hb;have n0_:=zM (below_step zq0 hb);have n1_:=zM hbox;have n2_:=zM (by rw[hg];exact below_size zq0:w.heap.size≤g2);clear HB;have HB:=n0_;have BK2:=n1_;have GE2:=n2_;clear n0_ n1_ n2_;clear hb hbox hg;(try clear hr0 hr1);have hr9:=ringFault_box _ _ _ _ _ _ BK2.out;obtain⟨hr0,hr1⟩:=hr9)
   | ((with_reducible refine gate_dst (N:=3) rfl ?_);refine box_event ?hg (N:=3) ?hd (cs:=#[.int .i64 a1_0,.slice A1_1 l1_1.length c1_1]) (t:=25) ?hr ?_;(case hd=>rfl);(case hg=>rfl);(case hr=>first|(go_simp;done)|(go_simp;rfl));intro g3 hg w3 hbox hb;have n0_:=zM (below_step zq0 hb);have n1_:=zM (blk_below (g:=g2) (o:=.cells #[.int .i64 a0_0,.slice A0_1 l0_1.length c0_1] 29 (0,0)) zq1 hb);have n2_:=zM hbox;have n3_:=zM (by rw[hg];exact below_size zq0:w.heap.size≤g3);clear HB BK2;have HB:=n0_;have BK2:=n1_;have BK3:=n2_;have GE3:=n3_;clear n0_ n1_ n2_ n3_;clear hb hbox hg;(try clear hr0 hr1);have hr9:=ringFault_box _ _ _ _ _ _ BK2.out;obtain⟨hr0,hr1⟩:=hr9;(try clear hk0 hk1);have hk9:=ins_box _ _ _ _ _ _ BK3.out;obtain⟨hk0,hk1⟩:=hk9)
   | ((with_reducible refine gate_dst (N:=4) rfl ?_);refine box_event ?hg (N:=4) ?hd (cs:=#[.int .i64 0,.int .i64 0,.slice none 0 0]) (t:=31) ?hr ?_;(case hd=>rfl);(case hg=>rfl);(case hr=>first|(go_simp;done)|(go_simp;rfl));intro g4 hg w4 hbox hb;have n0_:=zM (below_step zq0 hb);have n1_:=zM (blk_below (g:=g2) (o:=.cells #[.int .i64 a0_0,.slice A0_1 l0_1.length c0_1] 29 (0,0)) zq1 hb);have n2_:=zM (blk_below (g:=g3) (o:=.cells #[.int .i64 a1_0,.slice A1_1 l1_1.length c1_1] 25 (0,0)) zq3 hb);have n3_:=zM hbox;have n4_:=zM (by rw[hg];exact below_size zq0:w.heap.size≤g4);clear HB BK2 BK3;have HB:=n0_;have BK2:=n1_;have BK3:=n2_;have BK4:=n3_;have GE4:=n4_;clear n0_ n1_ n2_ n3_ n4_;clear hb hbox hg;(try clear hr0 hr1);have hr9:=ringFault_box _ _ _ _ _ _ BK2.out;obtain⟨hr0,hr1⟩:=hr9;(try clear hk0 hk1);have hk9:=ins_box _ _ _ _ _ _ BK3.out;obtain⟨hk0,hk1⟩:=hk9)
   | (go_at_call 25;refine(impl_RingFault.calls k a0_0 A0_1 c0_1 l0_1 0 _ (Kd.C_below HR.out zq0) HC.out HF.out).mono ?_;rintro e wk ⟨rfl,hb⟩;have n0_:=zM (below_step zq0 hb);have n1_:=zM (blk_below (g:=g2) (o:=.cells #[.int .i64 a0_0,.slice A0_1 l0_1.length c0_1] 29 (0,0)) zq1 hb);have n2_:=zM (blk_below (g:=g3) (o:=.cells #[.int .i64 a1_0,.slice A1_1 l1_1.length c1_1] 25 (0,0)) zq3 hb);have n3_:=zM (blk_below (g:=g4) (o:=.cells #[.int .i64 0,.int .i64 0,.slice none 0 0] 31 (0,0)) zq2 hb);clear HB BK2 BK3 BK4;have HB:=n0_;have BK2:=n1_;have BK3:=n2_;have BK4:=n3_;clear n0_ n1_ n2_ n3_;clear hb;(try clear hr0 hr1);have hr9:=ringFault_box _ _ _ _ _ _ BK2.out;obtain⟨hr0,hr1⟩:=hr9;(try clear hk0 hk1);have hk9:=ins_box _ _ _ _ _ _ BK3.out;obtain⟨hk0,hk1⟩:=hk9)
   | (go_at_call 72;refine(impl_Key_fault.calls a1_0 A1_1 c1_1 l1_1 0 _ (Kd.C_below HRK.out zq0) HCK.out HU.out).mono ?_;rintro e wk ⟨rfl,hb⟩;have n0_:=zM (below_step zq0 hb);have n1_:=zM (blk_below (g:=g2) (o:=.cells #[.int .i64 a0_0,.slice A0_1 l0_1.length c0_1] 29 (0,0)) zq1 hb);have n2_:=zM (blk_below (g:=g3) (o:=.cells #[.int .i64 a1_0,.slice A1_1 l1_1.length c1_1] 25 (0,0)) zq3 hb);have n3_:=zM (blk_below (g:=g4) (o:=.cells #[.int .i64 0,.int .i64 0,.slice none 0 0] 31 (0,0)) zq2 hb);clear HB BK2 BK3 BK4;have HB:=n0_;have BK2:=n1_;have BK3:=n2_;have BK4:=n3_;clear n0_ n1_ n2_ n3_;clear hb;(try clear hr0 hr1);have hr9:=ringFault_box _ _ _ _ _ _ BK2.out;obtain⟨hr0,hr1⟩:=hr9;(try clear hk0 hk1);have hk9:=ins_box _ _ _ _ _ _ BK3.out;obtain⟨hk0,hk1⟩:=hk9)
   | (go_at_call 73;refine(impl_Ring_place.calls a0_0 A0_1 c0_1 l0_1 a1_0 q _ (Kd.C_below HR.out zq0) HC.out HQ.out).mono ?_;rintro e wk ⟨rfl,hb⟩;have n0_:=zM (below_step zq0 hb);have n1_:=zM (blk_below (g:=g2) (o:=.cells #[.int .i64 a0_0,.slice A0_1 l0_1.length c0_1] 29 (0,0)) zq1 hb);have n2_:=zM (blk_below (g:=g3) (o:=.cells #[.int .i64 a1_0,.slice A1_1 l1_1.length c1_1] 25 (0,0)) zq3 hb);have n3_:=zM (blk_below (g:=g4) (o:=.cells #[.int .i64 0,.int .i64 0,.slice none 0 0] 31 (0,0)) zq2 hb);clear HB BK2 BK3 BK4;have HB:=n0_;have BK2:=n1_;have BK3:=n2_;have BK4:=n3_;clear n0_ n1_ n2_ n3_;clear hb;(try clear hr0 hr1);have hr9:=ringFault_box _ _ _ _ _ _ BK2.out;obtain⟨hr0,hr1⟩:=hr9;(try clear hk0 hk1);have hk9:=ins_box _ _ _ _ _ _ BK3.out;obtain⟨hk0,hk1⟩:=hk9)
   | ((with_reducible refine gate_store (t:=31) (p:=4) rfl ?_);refine row_event ?hg (ty:=31) (p:=4) (y:=?yo_116) ?ho ?hn (g:=g4) (old:=#[.int .i64 0,.int .i64 0,.slice none 0 0]) (e:=31) (cells:=#[.int .i64 6,.int .i64 0,.slice none 0 0]) ?hx ?hy ?hk ?hi ?hd ?h1 ?_;(case ho=>rfl);(case hg=>rfl);(case hn=>rfl);(case hx=>rfl);(case hy=>rfl);(case hk=>exact zq2);(case hi=>kernel_rfl);(case hd=>rfl);(case h1=>exact zq63);intro wr_ hbk hgr;have n0_:=zM (below_grown1 zq0 hgr GE4.out);have n1_:=zM (blk_grown1 (g':=g2) (ob:=.cells #[.int .i64 a0_0,.slice A0_1 l0_1.length c0_1] 29 (0,0)) zq1 hgr (blk_ne zq1 zq2 zq17));have n2_:=zM (blk_grown1 (g':=g3) (ob:=.cells #[.int .i64 a1_0,.slice A1_1 l1_1.length c1_1] 25 (0,0)) zq3 hgr (blk_ne zq3 zq2 zq17));have n3_:=zM hbk;clear HB BK2 BK3 BK4;have HB:=n0_;have BK2:=n1_;have BK3:=n2_;have BK4:=n3_;clear n0_ n1_ n2_ n3_;clear hbk hgr))
 refine bodyPost_ret (results_cell_row rfl _ _ g4 31 #[.int .i64 6,.int .i64 0,.slice none 0 0] (0,0) _ rfl zq2 Try.underlying31 rfl (by kernel_rfl)) rfl ?_
 exact⟨_,rfl,Kd.S_nil _ _ _ _ _,HB.out⟩
set_option maxHeartbeats 4000000 in
set_option maxRecDepth 100000 in
theorem impl_InstallKey.w7 (k:Nat) (a0_0:Int) (A0_1:Option Addr) (c0_1:Nat) (l0_1:List S25) (a1_0:Int) (A1_1:Option Addr) (c1_1:Nat) (l1_1:List Int) (w:World) (HR:Aside0 (Kd.C k25 w A0_1 l0_1.length l0_1)) (HC:Aside0 (l0_1.length≤c0_1)) (HRK:Aside0 (Kd.C (Kd.int .u8) w A1_1 l1_1.length l1_1)) (HCK:Aside0 (l1_1.length≤c1_1)) (HB:Aside0 (Below w.heap.size w w)) (q:Int) (HF:Aside0 (impl_RingFault.f k a0_0 l0_1=some 0)) (HU:Aside0 (impl_Key_fault.f a1_0 l1_1=some 0)) (HQ:Aside0 (impl_Ring_place.f a0_0 l0_1 a1_0=some q)) (hd:decide (0≤q)=false) (hd3:((l0_1.length:Int) == 3)=true) :
  Calls Try.prog 48 #[.agg #[.int .i64 a0_0,.slice A0_1 l0_1.length c0_1],.agg #[.int .i64 a1_0,.slice A1_1 l1_1.length c1_1]] w fun e w'=>∃ v2_:Value,e=.returned (.agg #[.int .i64 7,.int .i64 0,v2_])∧Kd.S k25 25 w' w.heap.size (fun _=>True) v2_ ([]:List S25)∧Below w.heap.size w w':=by
 go_enter Try.func48,Try.ntmps48
 go_wp2_with (first
   | ((with_reducible refine gate_dst (N:=2) rfl ?_);refine box_event ?hg (N:=2) ?hd (cs:=#[.int .i64 a0_0,.slice A0_1 l0_1.length c0_1]) (t:=29) ?hr ?_;(case hd=>rfl);(case hg=>rfl);(case hr=>first|(go_simp;done)|(go_simp;rfl));intro g2 hg w2 hbox hb;have n0_:=zM (below_step zq0 hb);have n1_:=zM hbox;have n2_:=zM (by rw[hg];exact below_size zq0:w.heap.size≤g2);clear HB;have HB:=n0_;have BK2:=n1_;have GE2:=n2_;clear n0_ n1_ n2_;clear hb hbox hg;(try clear hr0 hr1);have hr9:=ringFault_box _ _ _ _ _ _ BK2.out;obtain⟨hr0,hr1⟩:=hr9)
   | ((with_reducible refine gate_dst (N:=3) rfl ?_);refine box_event ?hg (N:=3) ?hd (cs:=#[.int .i64 a1_0,.slice A1_1 l1_1.length c1_1]) (t:=25) ?hr ?_;(case hd=>rfl);(case hg=>rfl);(case hr=>first|(go_simp;done)|(go_simp;rfl));intro g3 hg w3 hbox hb;have n0_:=zM (below_step zq0 hb);have n1_:=zM (blk_below (g:=g2) (o:=.cells #[.int .i64 a0_0,.slice A0_1 l0_1.length c0_1] 29 (0,0)) zq1 hb);have n2_:=zM hbox;have n3_:=zM (by rw[hg];exact below_size zq0:w.heap.size≤g3);clear HB BK2;have HB:=n0_;have BK2:=n1_;have BK3:=n2_;have GE3:=n3_;clear n0_ n1_ n2_ n3_;clear hb hbox hg;(try clear hr0 hr1);have hr9:=ringFault_box _ _ _ _ _ _ BK2.out;obtain⟨hr0,hr1⟩:=hr9;(try clear hk0 hk1);have hk9:=ins_box _ _ _ _ _ _ BK3.out;obtain⟨hk0,hk1⟩:=hk9)
   | ((with_reducible refine gate_dst (N:=4) rfl ?_);refine box_event ?hg (N:=4) ?hd (cs:=#[.int .i64 0,.int .i64 0,.slice none 0 0]) (t:=31) ?hr ?_;(case hd=>rfl);(case hg=>rfl);(case hr=>first|(go_simp;done)|(go_simp;rfl));intro g4 hg w4 hbox hb;have n0_:=zM (below_step zq0 hb);have n1_:=zM (blk_below (g:=g2) (o:=.cells #[.int .i64 a0_0,.slice A0_1 l0_1.length c0_1] 29 (0,0)) zq1 hb);have n2_:=zM (blk_below (g:=g3) (o:=.cells #[.int .i64 a1_0,.slice A1_1 l1_1.length c1_1] 25 (0,0)) zq3 hb);have n3_:=zM hbox;have n4_:=zM (by rw[hg];exact below_size zq0:w.heap.size≤g4);clear HB BK2 BK3;have HB:=n0_;have BK2:=n1_;have BK3:=n2_;have BK4:=n3_;have GE4:=n4_;clear n0_ n1_ n2_ n3_ n4_;clear hb hbox hg;(try clear hr0 hr1);have hr9:=ringFault_box _ _ _ _ _ _ BK2.out;obtain⟨hr0,hr1⟩:=hr9;(try clear hk0 hk1);have hk9:=ins_box _ _ _ _ _ _ BK3.out;obtain⟨hk0,hk1⟩:=hk9)
   | (go_at_call 25;refine(impl_RingFault.calls k a0_0 A0_1 c0_1 l0_1 0 _ (Kd.C_below HR.out zq0) HC.out HF.out).mono ?_;rintro e wk ⟨rfl,hb⟩;have n0_:=zM (below_step zq0 hb);have n1_:=zM (blk_below (g:=g2) (o:=.cells #[.int .i64 a0_0,.slice A0_1 l0_1.length c0_1] 29 (0,0)) zq1 hb);have n2_:=zM (blk_below (g:=g3) (o:=.cells #[.int .i64 a1_0,.slice A1_1 l1_1.length c1_1] 25 (0,0)) zq3 hb);have n3_:=zM (blk_below (g:=g4) (o:=.cells #[.int .i64 0,.int .i64 0,.slice none 0 0] 31 (0,0)) zq2 hb);clear HB BK2 BK3 BK4;have HB:=n0_;have BK2:=n1_;have BK3:=n2_;have BK4:=n3_;clear n0_ n1_ n2_ n3_;clear hb;(try clear hr0 hr1);have hr9:=ringFault_box _ _ _ _ _ _ BK2.out;obtain⟨hr0,hr1⟩:=hr9;(try clear hk0 hk1);have hk9:=ins_box _ _ _ _ _ _ BK3.out;obtain⟨hk0,hk1⟩:=hk9)
   | (go_at_call 72;refine(impl_Key_fault.calls a1_0 A1_1 c1_1 l1_1 0 _ (Kd.C_below HRK.out zq0) HCK.out HU.out).mono ?_;rintro e wk ⟨rfl,hb⟩;have n0_:=zM (below_step zq0 hb);have n1_:=zM (blk_below (g:=g2) (o:=.cells #[.int .i64 a0_0,.slice A0_1 l0_1.length c0_1] 29 (0,0)) zq1 hb);have n2_:=zM (blk_below (g:=g3) (o:=.cells #[.int .i64 a1_0,.slice A1_1 l1_1.length c1_1] 25 (0,0)) zq3 hb);have n3_:=zM (blk_below (g:=g4) (o:=.cells #[.int .i64 0,.int .i64 0,.slice none 0 0] 31 (0,0)) zq2 hb);clear HB BK2 BK3 BK4;have HB:=n0_;have BK2:=n1_;have BK3:=n2_;have BK4:=n3_;clear n0_ n1_ n2_ n3_;clear hb;(try clear hr0 hr1);have hr9:=ringFault_box _ _ _ _ _ _ BK2.out;obtain⟨hr0,hr1⟩:=hr9;(try clear hk0 hk1);have hk9:=ins_box _ _ _ _ _ _ BK3.out;obtain⟨hk0,hk1⟩:=hk9)
   | (go_at_call 73;refine(impl_Ring_place.calls a0_0 A0_1 c0_1 l0_1 a1_0 q _ (Kd.C_below HR.out zq0) HC.out HQ.out).mono ?_;rintro e wk ⟨rfl,hb⟩;have n0_:=zM (below_step zq0 hb);have n1_:=zM (blk_below (g:=g2) (o:=.cells #[.int .i64 a0_0,.slice A0_1 l0_1.length c0_1] 29 (0,0)) zq1 hb);have n2_:=zM (blk_below (g:=g3) (o:=.cells #[.int .i64 a1_0,.slice A1_1 l1_1.length c1_1] 25 (0,0)) zq3 hb);have n3_:=zM (blk_below (g:=g4) (o:=.cells #[.int .i64 0,.int .i64 0,.slice none 0 0] 31 (0,0)) zq2 hb);clear HB BK2 BK3 BK4;have HB:=n0_;have BK2:=n1_;have BK3:=n2_;have BK4:=n3_;clear n0_ n1_ n2_ n3_;clear hb;(try clear hr0 hr1);have hr9:=ringFault_box _ _ _ _ _ _ BK2.out;obtain⟨hr0,hr1⟩:=hr9;(try clear hk0 hk1);have hk9:=ins_box _ _ _ _ _ _ BK3.out;obtain⟨hk0,hk1⟩:=hk9)
   | ((with_reducible refine gate_store (t:=31) (p:=4) rfl ?_);refine row_event ?hg (ty:=31) (p:=4) (y:=?yo_123) ?ho ?hn (g:=g4) (old:=#[.int .i64 0,.int .i64 0,.slice none 0 0]) (e:=31) (cells:=#[.int .i64 7,.int .i64 0,.slice none 0 0]) ?hx ?hy ?hk ?hi ?hd ?h1 ?_;(case ho=>rfl);(case hg=>rfl);(case hn=>rfl);(case hx=>rfl);(case hy=>rfl);(case hk=>exact zq2);(case hi=>kernel_rfl);(case hd=>rfl);(case h1=>exact zq63);intro wr_ hbk hgr;have n0_:=zM (below_grown1 zq0 hgr GE4.out);have n1_:=zM (blk_grown1 (g':=g2) (ob:=.cells #[.int .i64 a0_0,.slice A0_1 l0_1.length c0_1] 29 (0,0)) zq1 hgr (blk_ne zq1 zq2 zq17));have n2_:=zM (blk_grown1 (g':=g3) (ob:=.cells #[.int .i64 a1_0,.slice A1_1 l1_1.length c1_1] 25 (0,0)) zq3 hgr (blk_ne zq3 zq2 zq17));have n3_:=zM hbk;clear HB BK2 BK3 BK4;have HB:=n0_;have BK2:=n1_;have BK3:=n2_;have BK4:=n3_;clear n0_ n1_ n2_ n3_;clear hbk hgr))
 refine bodyPost_ret (results_cell_row rfl _ _ g4 31 #[.int .i64 7,.int .i64 0,.slice none 0 0] (0,0) _ rfl zq2 Try.underlying31 rfl (by kernel_rfl)) rfl ?_
 exact⟨_,rfl,Kd.S_nil _ _ _ _ _,HB.out⟩
set_option maxHeartbeats 4000000 in
set_option maxRecDepth 100000 in
theorem impl_InstallKey.wu (k:Nat) (a0_0:Int) (A0_1:Option Addr) (c0_1:Nat) (l0_1:List S25) (a1_0:Int) (A1_1:Option Addr) (c1_1:Nat) (l1_1:List Int) (w:World) (HR:Aside0 (Kd.C k25 w A0_1 l0_1.length l0_1)) (HC:Aside0 (l0_1.length≤c0_1)) (HRK:Aside0 (Kd.C (Kd.int .u8) w A1_1 l1_1.length l1_1)) (HCK:Aside0 (l1_1.length≤c1_1)) (HB:Aside0 (Below w.heap.size w w)) (u:Int) (HF:Aside0 (impl_RingFault.f k a0_0 l0_1=some 0)) (HU:Aside0 (impl_Key_fault.f a1_0 l1_1=some u)) (hu1:(u == 0)=false) (hu2:(u != 0)=true) :
  Calls Try.prog 48 #[.agg #[.int .i64 a0_0,.slice A0_1 l0_1.length c0_1],.agg #[.int .i64 a1_0,.slice A1_1 l1_1.length c1_1]] w fun e w'=>∃ v2_:Value,e=.returned (.agg #[.int .i64 u,.int .i64 0,v2_])∧Kd.S k25 25 w' w.heap.size (fun _=>True) v2_ ([]:List S25)∧Below w.heap.size w w':=by
 go_enter Try.func48,Try.ntmps48
 go_wp2_with (first
   | ((with_reducible refine gate_dst (N:=2) rfl ?_);refine box_event ?hg (N:=2) ?hd (cs:=#[.int .i64 a0_0,.slice A0_1 l0_1.length c0_1]) (t:=29) ?hr ?_;(case hd=>rfl);(case hg=>rfl);(case hr=>first|(go_simp;done)|(go_simp;rfl));intro g2 hg w2 hbox hb;have n0_:=zM (below_step zq0 hb);have n1_:=zM hbox;have n2_:=zM (by rw[hg];exact below_size zq0:w.heap.size≤g2);clear HB;have HB:=n0_;have BK2:=n1_;have GE2:=n2_;clear n0_ n1_ n2_;clear hb hbox hg;(try clear hr0 hr1);have hr9:=ringFault_box _ _ _ _ _ _ BK2.out;obtain⟨hr0,hr1⟩:=hr9)
   | ((with_reducible refine gate_dst (N:=3) rfl ?_);refine box_event ?hg (N:=3) ?hd (cs:=#[.int .i64 a1_0,.slice A1_1 l1_1.length c1_1]) (t:=25) ?hr ?_;(case hd=>rfl);(case hg=>rfl);(case hr=>first|(go_simp;done)|(go_simp;rfl));intro g3 hg w3 hbox hb;have n0_:=zM (below_step zq0 hb);have n1_:=zM (blk_below (g:=g2) (o:=.cells #[.int .i64 a0_0,.slice A0_1 l0_1.length c0_1] 29 (0,0)) zq1 hb);have n2_:=zM hbox;have n3_:=zM (by rw[hg];exact below_size zq0:w.heap.size≤g3);clear HB BK2;have HB:=n0_;have BK2:=n1_;have BK3:=n2_;have GE3:=n3_;clear n0_ n1_ n2_ n3_;clear hb hbox hg;(try clear hr0 hr1);have hr9:=ringFault_box _ _ _ _ _ _ BK2.out;obtain⟨hr0,hr1⟩:=hr9;(try clear hk0 hk1);have hk9:=ins_box _ _ _ _ _ _ BK3.out;obtain⟨hk0,hk1⟩:=hk9)
   | ((with_reducible refine gate_dst (N:=4) rfl ?_);refine box_event ?hg (N:=4) ?hd (cs:=#[.int .i64 0,.int .i64 0,.slice none 0 0]) (t:=31) ?hr ?_;(case hd=>rfl);(case hg=>rfl);(case hr=>first|(go_simp;done)|(go_simp;rfl));intro g4 hg w4 hbox hb;have n0_:=zM (below_step zq0 hb);have n1_:=zM (blk_below (g:=g2) (o:=.cells #[.int .i64 a0_0,.slice A0_1 l0_1.length c0_1] 29 (0,0)) zq1 hb);have n2_:=zM (blk_below (g:=g3) (o:=.cells #[.int .i64 a1_0,.slice A1_1 l1_1.length c1_1] 25 (0,0)) zq3 hb);have n3_:=zM hbox;have n4_:=zM (by rw[hg];exact below_size zq0:w.heap.size≤g4);clear HB BK2 BK3;have HB:=n0_;have BK2:=n1_;have BK3:=n2_;have BK4:=n3_;have GE4:=n4_;clear n0_ n1_ n2_ n3_ n4_;clear hb hbox hg;(try clear hr0 hr1);have hr9:=ringFault_box _ _ _ _ _ _ BK2.out;obtain⟨hr0,hr1⟩:=hr9;(try clear hk0 hk1);have hk9:=ins_box _ _ _ _ _ _ BK3.out;obtain⟨hk0,hk1⟩:=hk9)
   | (go_at_call 25;refine(impl_RingFault.calls k a0_0 A0_1 c0_1 l0_1 0 _ (Kd.C_below HR.out zq0) HC.out HF.out).mono ?_;rintro e wk ⟨rfl,hb⟩;have n0_:=zM (below_step zq0 hb);have n1_:=zM (blk_below (g:=g2) (o:=.cells #[.int .i64 a0_0,.slice A0_1 l0_1.length c0_1] 29 (0,0)) zq1 hb);have n2_:=zM (blk_below (g:=g3) (o:=.cells #[.int .i64 a1_0,.slice A1_1 l1_1.length c1_1] 25 (0,0)) zq3 hb);have n3_:=zM (blk_below (g:=g4) (o:=.cells #[.int .i64 0,.int .i64 0,.slice none 0 0] 31 (0,0)) zq2 hb);clear HB BK2 BK3 BK4;have HB:=n0_;have BK2:=n1_;have BK3:=n2_;have BK4:=n3_;clear n0_ n1_ n2_ n3_;clear hb;(try clear hr0 hr1);have hr9:=ringFault_box _ _ _ _ _ _ BK2.out;obtain⟨hr0,hr1⟩:=hr9;(try clear hk0 hk1);have hk9:=ins_box _ _ _ _ _ _ BK3.out;obtain⟨hk0,hk1⟩:=hk9)
   | (go_at_call 72;refine(impl_Key_fault.calls a1_0 A1_1 c1_1 l1_1 u _ (Kd.C_below HRK.out zq0) HCK.out HU.out).mono ?_;rintro e wk ⟨rfl,hb⟩;have n0_:=zM (below_step zq0 hb);have n1_:=zM (blk_below (g:=g2) (o:=.cells #[.int .i64 a0_0,.slice A0_1 l0_1.length c0_1] 29 (0,0)) zq1 hb);have n2_:=zM (blk_below (g:=g3) (o:=.cells #[.int .i64 a1_0,.slice A1_1 l1_1.length c1_1] 25 (0,0)) zq3 hb);have n3_:=zM (blk_below (g:=g4) (o:=.cells #[.int .i64 0,.int .i64 0,.slice none 0 0] 31 (0,0)) zq2 hb);clear HB BK2 BK3 BK4;have HB:=n0_;have BK2:=n1_;have BK3:=n2_;have BK4:=n3_;clear n0_ n1_ n2_ n3_;clear hb;(try clear hr0 hr1);have hr9:=ringFault_box _ _ _ _ _ _ BK2.out;obtain⟨hr0,hr1⟩:=hr9;(try clear hk0 hk1);have hk9:=ins_box _ _ _ _ _ _ BK3.out;obtain⟨hk0,hk1⟩:=hk9)
   | ((with_reducible refine gate_store (t:=31) (p:=4) rfl ?_);refine row_event ?hg (ty:=31) (p:=4) (y:=?yo_129) ?ho ?hn (g:=g4) (old:=#[.int .i64 0,.int .i64 0,.slice none 0 0]) (e:=31) (cells:=#[.int .i64 u,.int .i64 0,.slice none 0 0]) ?hx ?hy ?hk ?hi ?hd ?h1 ?_;(case ho=>rfl);(case hg=>rfl);(case hn=>rfl);(case hx=>rfl);(case hy=>rfl);(case hk=>exact zq2);(case hi=>kernel_rfl);(case hd=>rfl);(case h1=>exact zq63);intro wr_ hbk hgr;have n0_:=zM (below_grown1 zq0 hgr GE4.out);have n1_:=zM (blk_grown1 (g':=g2) (ob:=.cells #[.int .i64 a0_0,.slice A0_1 l0_1.length c0_1] 29 (0,0)) zq1 hgr (blk_ne zq1 zq2 zq17));have n2_:=zM (blk_grown1 (g':=g3) (ob:=.cells #[.int .i64 a1_0,.slice A1_1 l1_1.length c1_1] 25 (0,0)) zq3 hgr (blk_ne zq3 zq2 zq17));have n3_:=zM hbk;clear HB BK2 BK3 BK4;have HB:=n0_;have BK2:=n1_;have BK3:=n2_;have BK4:=n3_;clear n0_ n1_ n2_ n3_;clear hbk hgr))
 refine bodyPost_ret (results_cell_row rfl _ _ g4 31 #[.int .i64 u,.int .i64 0,.slice none 0 0] (0,0) _ rfl zq2 Try.underlying31 rfl (by kernel_rfl)) rfl ?_
 exact⟨_,rfl,Kd.S_nil _ _ _ _ _,HB.out⟩
set_option maxHeartbeats 4000000 in
set_option maxRecDepth 100000 in
theorem impl_InstallKey.wt (k:Nat) (a0_0:Int) (A0_1:Option Addr) (c0_1:Nat) (l0_1:List S25) (a1_0:Int) (A1_1:Option Addr) (c1_1:Nat) (l1_1:List Int) (w:World) (HR:Aside0 (Kd.C k25 w A0_1 l0_1.length l0_1)) (HC:Aside0 (l0_1.length≤c0_1)) (HRK:Aside0 (Kd.C (Kd.int .u8) w A1_1 l1_1.length l1_1)) (HCK:Aside0 (l1_1.length≤c1_1)) (HB:Aside0 (Below w.heap.size w w)) (t:Int) (HF:Aside0 (impl_RingFault.f k a0_0 l0_1=some t)) (ht1:(t == 0)=false) (ht2:(t != 0)=true) :
  Calls Try.prog 48 #[.agg #[.int .i64 a0_0,.slice A0_1 l0_1.length c0_1],.agg #[.int .i64 a1_0,.slice A1_1 l1_1.length c1_1]] w fun e w'=>∃ v2_:Value,e=.returned (.agg #[.int .i64 t,.int .i64 0,v2_])∧Kd.S k25 25 w' w.heap.size (fun _=>True) v2_ ([]:List S25)∧Below w.heap.size w w':=by
 go_enter Try.func48,Try.ntmps48
 go_wp2_with (first
   | ((with_reducible refine gate_dst (N:=2) rfl ?_);refine box_event ?hg (N:=2) ?hd (cs:=#[.int .i64 a0_0,.slice A0_1 l0_1.length c0_1]) (t:=29) ?hr ?_;(case hd=>rfl);(case hg=>rfl);(case hr=>first|(go_simp;done)|(go_simp;rfl));intro g2 hg w2 hbox hb;have n0_:=zM (below_step zq0 hb);have n1_:=zM hbox;have n2_:=zM (by rw[hg];exact below_size zq0:w.heap.size≤g2);clear HB;have HB:=n0_;have BK2:=n1_;have GE2:=n2_;clear n0_ n1_ n2_;clear hb hbox hg;(try clear hr0 hr1);have hr9:=ringFault_box _ _ _ _ _ _ BK2.out;obtain⟨hr0,hr1⟩:=hr9)
   | ((with_reducible refine gate_dst (N:=3) rfl ?_);refine box_event ?hg (N:=3) ?hd (cs:=#[.int .i64 a1_0,.slice A1_1 l1_1.length c1_1]) (t:=25) ?hr ?_;(case hd=>rfl);(case hg=>rfl);(case hr=>first|(go_simp;done)|(go_simp;rfl));intro g3 hg w3 hbox hb;have n0_:=zM (below_step zq0 hb);have n1_:=zM (blk_below (g:=g2) (o:=.cells #[.int .i64 a0_0,.slice A0_1 l0_1.length c0_1] 29 (0,0)) zq1 hb);have n2_:=zM hbox;have n3_:=zM (by rw[hg];exact below_size zq0:w.heap.size≤g3);clear HB BK2;have HB:=n0_;have BK2:=n1_;have BK3:=n2_;have GE3:=n3_;clear n0_ n1_ n2_ n3_;clear hb hbox hg;(try clear hr0 hr1);have hr9:=ringFault_box _ _ _ _ _ _ BK2.out;obtain⟨hr0,hr1⟩:=hr9;(try clear hk0 hk1);have hk9:=ins_box _ _ _ _ _ _ BK3.out;obtain⟨hk0,hk1⟩:=hk9)
   | ((with_reducible refine gate_dst (N:=4) rfl ?_);refine box_event ?hg (N:=4) ?hd (cs:=#[.int .i64 0,.int .i64 0,.slice none 0 0]) (t:=31) ?hr ?_;(case hd=>rfl);(case hg=>rfl);(case hr=>first|(go_simp;done)|(go_simp;rfl));intro g4 hg w4 hbox hb;have n0_:=zM (below_step zq0 hb);have n1_:=zM (blk_below (g:=g2) (o:=.cells #[.int .i64 a0_0,.slice A0_1 l0_1.length c0_1] 29 (0,0)) zq1 hb);have n2_:=zM (blk_below (g:=g3) (o:=.cells #[.int .i64 a1_0,.slice A1_1 l1_1.length c1_1] 25 (0,0)) zq3 hb);have n3_:=zM hbox;have n4_:=zM (by rw[hg];exact below_size zq0:w.heap.size≤g4);clear HB BK2 BK3;have HB:=n0_;have BK2:=n1_;have BK3:=n2_;have BK4:=n3_;have GE4:=n4_;clear n0_ n1_ n2_ n3_ n4_;clear hb hbox hg;(try clear hr0 hr1);have hr9:=ringFault_box _ _ _ _ _ _ BK2.out;obtain⟨hr0,hr1⟩:=hr9;(try clear hk0 hk1);have hk9:=ins_box _ _ _ _ _ _ BK3.out;obtain⟨hk0,hk1⟩:=hk9)
   | (go_at_call 25;refine(impl_RingFault.calls k a0_0 A0_1 c0_1 l0_1 t _ (Kd.C_below HR.out zq0) HC.out HF.out).mono ?_;rintro e wk ⟨rfl,hb⟩;have n0_:=zM (below_step zq0 hb);have n1_:=zM (blk_below (g:=g2) (o:=.cells #[.int .i64 a0_0,.slice A0_1 l0_1.length c0_1] 29 (0,0)) zq1 hb);have n2_:=zM (blk_below (g:=g3) (o:=.cells #[.int .i64 a1_0,.slice A1_1 l1_1.length c1_1] 25 (0,0)) zq3 hb);have n3_:=zM (blk_below (g:=g4) (o:=.cells #[.int .i64 0,.int .i64 0,.slice none 0 0] 31 (0,0)) zq2 hb);clear HB BK2 BK3 BK4;have HB:=n0_;have BK2:=n1_;have BK3:=n2_;have BK4:=n3_;clear n0_ n1_ n2_ n3_;clear hb;(try clear hr0 hr1);have hr9:=ringFault_box _ _ _ _ _ _ BK2.out;obtain⟨hr0,hr1⟩:=hr9;(try clear hk0 hk1);have hk9:=ins_box _ _ _ _ _ _ BK3.out;obtain⟨hk0,hk1⟩:=hk9)
   | ((with_reducible refine gate_store (t:=31) (p:=4) rfl ?_);refine row_event ?hg (ty:=31) (p:=4) (y:=?yo_134) ?ho ?hn (g:=g4) (old:=#[.int .i64 0,.int .i64 0,.slice none 0 0]) (e:=31) (cells:=#[.int .i64 t,.int .i64 0,.slice none 0 0]) ?hx ?hy ?hk ?hi ?hd ?h1 ?_;(case ho=>rfl);(case hg=>rfl);(case hn=>rfl);(case hx=>rfl);(case hy=>rfl);(case hk=>exact zq2);(case hi=>kernel_rfl);(case hd=>rfl);(case h1=>exact zq63);intro wr_ hbk hgr;have n0_:=zM (below_grown1 zq0 hgr GE4.out);have n1_:=zM (blk_grown1 (g':=g2) (ob:=.cells #[.int .i64 a0_0,.slice A0_1 l0_1.length c0_1] 29 (0,0)) zq1 hgr (blk_ne zq1 zq2 zq17));have n2_:=zM (blk_grown1 (g':=g3) (ob:=.cells #[.int .i64 a1_0,.slice A1_1 l1_1.length c1_1] 25 (0,0)) zq3 hgr (blk_ne zq3 zq2 zq17));have n3_:=zM hbk;clear HB BK2 BK3 BK4;have HB:=n0_;have BK2:=n1_;have BK3:=n2_;have BK4:=n3_;clear n0_ n1_ n2_ n3_;clear hbk hgr))
 refine bodyPost_ret (results_cell_row rfl _ _ g4 31 #[.int .i64 t,.int .i64 0,.slice none 0 0] (0,0) _ rfl zq2 Try.underlying31 rfl (by kernel_rfl)) rfl ?_
 exact⟨_,rfl,Kd.S_nil _ _ _ _ _,HB.out⟩
set_option maxHeartbeats 4000000 in
set_option maxRecDepth 100000 in
theorem impl_InstallKey.main (k:Nat) (a0_0:Int) (A0_1:Option Addr) (c0_1:Nat) (l0_1:List S25) (a1_0:Int) (A1_1:Option Addr) (c1_1:Nat) (l1_1:List Int) (w:World) (HR:Aside0 (Kd.C k25 w A0_1 l0_1.length l0_1)) (HC:Aside0 (l0_1.length≤c0_1)) (HRK:Aside0 (Kd.C (Kd.int .u8) w A1_1 l1_1.length l1_1)) (HCK:Aside0 (l1_1.length≤c1_1)) (HB:Aside0 (Below w.heap.size w w)) (q:Int) (HF:Aside0 (impl_RingFault.f k a0_0 l0_1=some 0)) (HU:Aside0 (impl_Key_fault.f a1_0 l1_1=some 0)) (HQ:Aside0 (impl_Ring_place.f a0_0 l0_1 a1_0=some q)) (hd:decide (0≤q)=false) (hd3:((l0_1.length:Int) == 3)=false) (p:Int) (m:List S25) (y1:Int) (y2:List Int) (N:Nat) (z:List S25) (HW:Aside0 (impl_ownRing.f k a0_0 l0_1=some (p,m))) (HY:Aside0 (impl_ownKey.f a1_0 l1_1=some (y1,y2))) (HN:Aside0 (m.length=N)) (HN0:Aside0 (0 < N)) (HNB:Aside0 ((N+1)*32≤140737488355328)) (HNC:Aside0 (N < 140737488355328)) (HZ:Aside0 (m.insertIdx (atL a1_0 m) (⟨y1,y2⟩:S25)=z)) :
  Calls Try.prog 48 #[.agg #[.int .i64 a0_0,.slice A0_1 l0_1.length c0_1],.agg #[.int .i64 a1_0,.slice A1_1 l1_1.length c1_1]] w fun e w'=>∃ v2_:Value,e=.returned (.agg #[.int .i64 0,.int .i64 p,v2_])∧Kd.S k25 25 w' w.heap.size (fun _=>True) v2_ z∧Below w.heap.size w w':=by
 go_enter Try.func48,Try.ntmps48
 go_wp2_with (first
   | ((with_reducible refine gate_dst (N:=2) rfl ?_);refine box_event ?hg (N:=2) ?hd (cs:=#[.int .i64 a0_0,.slice A0_1 l0_1.length c0_1]) (t:=29) ?hr ?_;(case hd=>rfl);(case hg=>rfl);(case hr=>first|(go_simp;done)|(go_simp;rfl));intro g2 hg w2 hbox hb;have n0_:=zM (below_step zq0 hb);have n1_:=zM hbox;have n2_:=zM (by rw[hg];exact below_size zq0:w.heap.size≤g2);clear HB;have HB:=n0_;have BK2:=n1_;have GE2:=n2_;clear n0_ n1_ n2_;clear hb hbox hg;(try clear hr0 hr1);have hr9:=ringFault_box _ _ _ _ _ _ BK2.out;obtain⟨hr0,hr1⟩:=hr9)
   | ((with_reducible refine gate_dst (N:=3) rfl ?_);refine box_event ?hg (N:=3) ?hd (cs:=#[.int .i64 a1_0,.slice A1_1 l1_1.length c1_1]) (t:=25) ?hr ?_;(case hd=>rfl);(case hg=>rfl);(case hr=>first|(go_simp;done)|(go_simp;rfl));intro g3 hg w3 hbox hb;have n0_:=zM (below_step zq0 hb);have n1_:=zM (blk_below (g:=g2) (o:=.cells #[.int .i64 a0_0,.slice A0_1 l0_1.length c0_1] 29 (0,0)) zq1 hb);have n2_:=zM hbox;have n3_:=zM (by rw[hg];exact below_size zq0:w.heap.size≤g3);clear HB BK2;have HB:=n0_;have BK2:=n1_;have BK3:=n2_;have GE3:=n3_;clear n0_ n1_ n2_ n3_;clear hb hbox hg;(try clear hr0 hr1);have hr9:=ringFault_box _ _ _ _ _ _ BK2.out;obtain⟨hr0,hr1⟩:=hr9;(try clear hk0 hk1);have hk9:=ins_box _ _ _ _ _ _ BK3.out;obtain⟨hk0,hk1⟩:=hk9)
   | ((with_reducible refine gate_dst (N:=4) rfl ?_);refine box_event ?hg (N:=4) ?hd (cs:=#[.int .i64 0,.int .i64 0,.slice none 0 0]) (t:=31) ?hr ?_;(case hd=>rfl);(case hg=>rfl);(case hr=>first|(go_simp;done)|(go_simp;rfl));intro g4 hg w4 hbox hb;have n0_:=zM (below_step zq0 hb);have n1_:=zM (blk_below (g:=g2) (o:=.cells #[.int .i64 a0_0,.slice A0_1 l0_1.length c0_1] 29 (0,0)) zq1 hb);have n2_:=zM (blk_below (g:=g3) (o:=.cells #[.int .i64 a1_0,.slice A1_1 l1_1.length c1_1] 25 (0,0)) zq3 hb);have n3_:=zM hbox;have n4_:=zM (by rw[hg];exact below_size zq0:w.heap.size≤g4);clear HB BK2 BK3;have HB:=n0_;have BK2:=n1_;have BK3:=n2_;have BK4:=n3_;have GE4:=n4_;clear n0_ n1_ n2_ n3_ n4_;clear hb hbox hg;(try clear hr0 hr1);have hr9:=ringFault_box _ _ _ _ _ _ BK2.out;obtain⟨hr0,hr1⟩:=hr9;(try clear hk0 hk1);have hk9:=ins_box _ _ _ _ _ _ BK3.out;obtain⟨hk0,hk1⟩:=hk9)
   | (go_at_call 25;refine(impl_RingFault.calls k a0_0 A0_1 c0_1 l0_1 0 _ (Kd.C_below HR.out zq0) HC.out HF.out).mono ?_;rintro e wk ⟨rfl,hb⟩;have n0_:=zM (below_step zq0 hb);have n1_:=zM (blk_below (g:=g2) (o:=.cells #[.int .i64 a0_0,.slice A0_1 l0_1.length c0_1] 29 (0,0)) zq1 hb);have n2_:=zM (blk_below (g:=g3) (o:=.cells #[.int .i64 a1_0,.slice A1_1 l1_1.length c1_1] 25 (0,0)) zq3 hb);have n3_:=zM (blk_below (g:=g4) (o:=.cells #[.int .i64 0,.int .i64 0,.slice none 0 0] 31 (0,0)) zq2 hb);clear HB BK2 BK3 BK4;have HB:=n0_;have BK2:=n1_;have BK3:=n2_;have BK4:=n3_;clear n0_ n1_ n2_ n3_;clear hb;(try clear hr0 hr1);have hr9:=ringFault_box _ _ _ _ _ _ BK2.out;obtain⟨hr0,hr1⟩:=hr9;(try clear hk0 hk1);have hk9:=ins_box _ _ _ _ _ _ BK3.out;obtain⟨hk0,hk1⟩:=hk9)
   | (go_at_call 72;refine(impl_Key_fault.calls a1_0 A1_1 c1_1 l1_1 0 _ (Kd.C_below HRK.out zq0) HCK.out HU.out).mono ?_;rintro e wk ⟨rfl,hb⟩;have n0_:=zM (below_step zq0 hb);have n1_:=zM (blk_below (g:=g2) (o:=.cells #[.int .i64 a0_0,.slice A0_1 l0_1.length c0_1] 29 (0,0)) zq1 hb);have n2_:=zM (blk_below (g:=g3) (o:=.cells #[.int .i64 a1_0,.slice A1_1 l1_1.length c1_1] 25 (0,0)) zq3 hb);have n3_:=zM (blk_below (g:=g4) (o:=.cells #[.int .i64 0,.int .i64 0,.slice none 0 0] 31 (0,0)) zq2 hb);clear HB BK2 BK3 BK4;have HB:=n0_;have BK2:=n1_;have BK3:=n2_;have BK4:=n3_;clear n0_ n1_ n2_ n3_;clear hb;(try clear hr0 hr1);have hr9:=ringFault_box _ _ _ _ _ _ BK2.out;obtain⟨hr0,hr1⟩:=hr9;(try clear hk0 hk1);have hk9:=ins_box _ _ _ _ _ _ BK3.out;obtain⟨hk0,hk1⟩:=hk9)
   | (go_at_call 73;refine(impl_Ring_place.calls a0_0 A0_1 c0_1 l0_1 a1_0 q _ (Kd.C_below HR.out zq0) HC.out HQ.out).mono ?_;rintro e wk ⟨rfl,hb⟩;have n0_:=zM (below_step zq0 hb);have n1_:=zM (blk_below (g:=g2) (o:=.cells #[.int .i64 a0_0,.slice A0_1 l0_1.length c0_1] 29 (0,0)) zq1 hb);have n2_:=zM (blk_below (g:=g3) (o:=.cells #[.int .i64 a1_0,.slice A1_1 l1_1.length c1_1] 25 (0,0)) zq3 hb);have n3_:=zM (blk_below (g:=g4) (o:=.cells #[.int .i64 0,.int .i64 0,.slice none 0 0] 31 (0,0)) zq2 hb);clear HB BK2 BK3 BK4;have HB:=n0_;have BK2:=n1_;have BK3:=n2_;have BK4:=n3_;clear n0_ n1_ n2_ n3_;clear hb;(try clear hr0 hr1);have hr9:=ringFault_box _ _ _ _ _ _ BK2.out;obtain⟨hr0,hr1⟩:=hr9;(try clear hk0 hk1);have hk9:=ins_box _ _ _ _ _ _ BK3.out;obtain⟨hk0,hk1⟩:=hk9)
   | (go_at_call 61;refine(impl_ownRing.calls k a0_0 A0_1 c0_1 l0_1 p m _ (Kd.C_below HR.out zq0) HC.out HW.out).mono ?_;rintro e wk ⟨vc,rfl,ho,hb⟩;have hlt_:∀ k_,vc.ownBlock=some k_→g3 < k_:=(fun k_ hk_=>Nat.lt_of_lt_of_le (blk_lt (g:=g3) (o:=.cells #[.int .i64 a1_0,.slice A1_1 l1_1.length c1_1] 25 (0,0)) zq3) (Kd.S_base ho k_ hk_));have hown:=Kd.S_lower ho (below_size zq0);clear ho;have n0_:=zM (below_step zq0 hb);have n1_:=zM (blk_below (g:=g2) (o:=.cells #[.int .i64 a0_0,.slice A0_1 l0_1.length c0_1] 29 (0,0)) zq1 hb);have n2_:=zM (blk_below (g:=g3) (o:=.cells #[.int .i64 a1_0,.slice A1_1 l1_1.length c1_1] 25 (0,0)) zq3 hb);have n3_:=zM (blk_below (g:=g4) (o:=.cells #[.int .i64 0,.int .i64 0,.slice none 0 0] 31 (0,0)) zq2 hb);clear HB BK2 BK3 BK4;have HB:=n0_;have BK2:=n1_;have BK3:=n2_;have BK4:=n3_;clear n0_ n1_ n2_ n3_;clear hb;obtain⟨go,cc,ec⟩:=S_consN hown HN.out HN0.out;subst ec;have NE3o:=zM (Nat.ne_of_lt (hlt_ go rfl));clear hlt_;have HOo:=zM hown;clear hown;(try clear hk0 hk1);have hk9:=ins_box _ _ _ _ _ _ BK3.out;obtain⟨hk0,hk1⟩:=hk9)
   | ((with_reducible refine gate_dst (N:=6) rfl ?_);refine box_event ?hg (N:=6) ?hd (cs:=#[.int .i64 0,.slice none 0 0]) (t:=29) ?hr ?_;(case hd=>rfl);(case hg=>rfl);(case hr=>first|(go_simp;done)|(go_simp;rfl));intro g6 hg w6 hbox hb;have n0_:=zM (below_step zq0 hb);have n1_:=zM (blk_below (g:=g2) (o:=.cells #[.int .i64 a0_0,.slice A0_1 l0_1.length c0_1] 29 (0,0)) zq1 hb);have n2_:=zM (blk_below (g:=g3) (o:=.cells #[.int .i64 a1_0,.slice A1_1 l1_1.length c1_1] 25 (0,0)) zq3 hb);have n3_:=zM (blk_below (g:=g4) (o:=.cells #[.int .i64 0,.int .i64 0,.slice none 0 0] 31 (0,0)) zq2 hb);have n4_:=zM (Kd.S_below zq29 hb);have n5_:=zM hbox;have n6_:=zM (by rw[hg];exact below_size zq0:w.heap.size≤g6);have n7_:=zM (by rw[hg];exact Nat.ne_of_lt (blk_lt (g:=g2) (o:=.cells #[.int .i64 a0_0,.slice A0_1 l0_1.length c0_1] 29 (0,0)) zq1):g2≠g6);have n8_:=zM (by rw[hg];exact Nat.ne_of_gt (blk_lt (g:=g2) (o:=.cells #[.int .i64 a0_0,.slice A0_1 l0_1.length c0_1] 29 (0,0)) zq1):g6≠g2);clear HB BK2 BK3 BK4 HOo;have HB:=n0_;have BK2:=n1_;have BK3:=n2_;have BK4:=n3_;have HOo:=n4_;have BK6:=n5_;have GE6:=n6_;have NE2_6:=n7_;have NE6_2:=n8_;clear n0_ n1_ n2_ n3_ n4_ n5_ n6_ n7_ n8_;clear hb hbox hg;(try clear hk0 hk1);have hk9:=ins_box _ _ _ _ _ _ BK3.out;obtain⟨hk0,hk1⟩:=hk9)
   | ((with_reducible refine gate_store (t:=29) (p:=6) rfl ?_);refine row_event ?hg (ty:=29) (p:=6) (y:=?yo_143) ?ho ?hn (g:=g6) (old:=#[.int .i64 0,.slice none 0 0]) (e:=29) (cells:=#[.int .i64 p,.slice (some ⟨go,0,none⟩) N cc]) ?hx ?hy ?hk ?hi ?hd ?h1 ?_;(case ho=>rfl);(case hg=>rfl);(case hn=>rfl);(case hx=>rfl);(case hy=>rfl);(case hk=>exact zq9);(case hi=>kernel_rfl);(case hd=>rfl);(case h1=>exact zq63);intro wr_ hbk hgr;have n0_:=zM (below_grown1 zq0 hgr GE6.out);have n1_:=zM (blk_grown1 (g':=g2) (ob:=.cells #[.int .i64 a0_0,.slice A0_1 l0_1.length c0_1] 29 (0,0)) zq1 hgr NE2_6.out);have n2_:=zM (blk_grown1 (g':=g3) (ob:=.cells #[.int .i64 a1_0,.slice A1_1 l1_1.length c1_1] 25 (0,0)) zq3 hgr (blk_ne zq3 zq9 zq17));have n3_:=zM (blk_grown1 (g':=g4) (ob:=.cells #[.int .i64 0,.int .i64 0,.slice none 0 0] 31 (0,0)) zq2 hgr (blk_ne zq2 zq9 zq17));have n4_:=zM (S_grown_types zq29 zq9 zq17 hgr);have n5_:=zM hbk;clear HB BK2 BK3 BK4 HOo BK6;have HB:=n0_;have BK2:=n1_;have BK3:=n2_;have BK4:=n3_;have HOo:=n4_;have BK6:=n5_;clear n0_ n1_ n2_ n3_ n4_ n5_;clear hbk hgr;(try clear hk0 hk1);have hk9:=ins_box _ _ _ _ _ _ BK3.out;obtain⟨hk0,hk1⟩:=hk9))
 go_loopw [7] (fun v7 W=>∃ kk:Nat,kk≤N∧v7=.int .i64 kk∧Aside0 (atL a1_0 m=kk+atL a1_0 (m.drop kk))∧Aside0 (W.heap[g3]?=some (Obj.cells #[.int .i64 a1_0,.slice A1_1 l1_1.length c1_1] 25 (0,0)))∧Aside0 (W.heap[g4]?=some (Obj.cells #[.int .i64 0,.int .i64 0,.slice none 0 0] 31 (0,0)))∧Aside0 (W.heap[g6]?=some (Obj.cells #[.int .i64 p,.slice (some ⟨go,0,none⟩) N cc] 29 (0,0)))∧Aside0 (Kd.S k25 25 W w.heap.size (fun _=>True) (.slice (some ⟨go,0,none⟩) N cc) m)∧Aside0 (Below w.heap.size w W)) (fun v7 _=>N - (intOf v7).toNat)
 case atStart=>exact⟨0,Nat.zero_le _,rfl,⟨by rw[List.drop_zero,Nat.zero_add]⟩,BK3,BK4,BK6,HOo,HB⟩
 case round=>
  clear BK2 BK3 BK4 BK6 HOo HB hk0 hk1
  obtain⟨kk,hk,rfl,HP,BK3,BK4,BK6,HOo,HB⟩:=hrel
  have hk9:=ins_box _ _ _ _ _ _ BK3.out
  obtain⟨hk0,hk1⟩:=hk9
  have hs9:=ringFault_box _ _ _ _ _ _ BK6.out
  obtain⟨hs0,hs1⟩:=hs9
  have HK:=zM hk
  by_cases hl:kk < N
  ·have hd0:decide (kk < N)=true:=decide_eq_true hl
   have hlt:=zM hl
   have HD:=zM (atL_drop a1_0 m kk (by rw[HN.out];exact hl))
   have hx0:=own_key HOo.out kk (by rw[HN.out];exact hl)
   generalize (rd_T25 m (kk:Int)).f0=x at HD hx0
   by_cases hx:x < a1_0
   ·have hdx:decide (x < a1_0)=true:=decide_eq_true hx
    have HP2:Aside0 (atL a1_0 m=(kk+1)+atL a1_0 (m.drop (kk+1))):=⟨by rw[HP.out,HD.out,if_pos hx];omega⟩
    clear HP HD hx
    go_wp2_with fail
    go_quiet (fail)
    have n0_:=zM (pw_below_drewN HB.out nq)
    have n1_:=zM (blk_drewN BK3.out nq)
    have n2_:=zM (blk_drewN BK4.out nq)
    have n3_:=zM (blk_drewN BK6.out nq)
    have n4_:=zM (Kd.S_drewN HOo.out nq)
    clear HB BK3 BK4 BK6 HOo hs0 hs1 hk0 hk1
    have HB:=n0_
    have BK3:=n1_
    have BK4:=n2_
    have BK6:=n3_
    have HOo:=n4_
    clear n0_ n1_ n2_ n3_ n4_
    have hk9:=ins_box _ _ _ _ _ _ BK3.out
    obtain⟨hk0,hk1⟩:=hk9
    generalize wr.drewN nq=wq at HB BK3 BK4 BK6 HOo hk0 hk1 ⊢
    have hs9:=ringFault_box _ _ _ _ _ _ BK6.out
    obtain⟨hs0,hs1⟩:=hs9
    clear hk0 hk1 hs0 hs1
    go_wp2
    go_roundw
    case rel=>exact⟨kk+1,hlt.out,congrArg _ (wrap_next kk _ hlt.out HNC.out),HP2,BK3,BK4,BK6,HOo,HB⟩
    case measure=>exact next_less kk _ hlt.out HNC.out
   ·have hdx:decide (x < a1_0)=false:=decide_eq_false hx
    have HI:Aside0 (m.insertIdx kk (⟨y1,y2⟩:S25)=z):=⟨by rw[← HZ.out,HP.out,HD.out,if_neg hx];rfl⟩
    clear HP HD hx
    go_wp2_with fail
    go_quiet (fail)
    have n0_:=zM (pw_below_drewN HB.out nq)
    have n1_:=zM (blk_drewN BK3.out nq)
    have n2_:=zM (blk_drewN BK4.out nq)
    have n3_:=zM (blk_drewN BK6.out nq)
    have n4_:=zM (Kd.S_drewN HOo.out nq)
    clear HB BK3 BK4 BK6 HOo hs0 hs1 hk0 hk1
    have HB:=n0_
    have BK3:=n1_
    have BK4:=n2_
    have BK6:=n3_
    have HOo:=n4_
    clear n0_ n1_ n2_ n3_ n4_
    have hk9:=ins_box _ _ _ _ _ _ BK3.out
    obtain⟨hk0,hk1⟩:=hk9
    generalize wr.drewN nq=wq at HB BK3 BK4 BK6 HOo hk0 hk1 ⊢
    have hs9:=ringFault_box _ _ _ _ _ _ BK6.out
    obtain⟨hs0,hs1⟩:=hs9
    go_wp2_with fail
    have n0_:=zM (below_drew1 HB.out)
    have n1_:=zM (blk_drew BK3.out)
    have n2_:=zM (blk_drew BK4.out)
    have n3_:=zM (blk_drew BK6.out)
    have n4_:=zM (Kd.S_drew HOo.out)
    clear HB BK3 BK4 BK6 HOo hk0 hk1 hs0 hs1
    have HB:=n0_
    have BK3:=n1_
    have BK4:=n2_
    have BK6:=n3_
    have HOo:=n4_
    clear n0_ n1_ n2_ n3_ n4_
    refine start_ (n:=9) (S:=fun w'=>w'.cell? ⟨g6,1,none⟩=some (.slice (some ⟨go,0,none⟩) N cc)∧w'.cell? ⟨g3,0,none⟩=some (.int .i64 a1_0)∧w'.cell? ⟨g3,1,none⟩=some (.slice A1_1 l1_1.length c1_1)) (ds:=[8]) #[false,false,false,false,false,false,false,false,false] (by kernel_rfl) rfl rfl ⟨(blk_cell BK6.out 1).trans rfl,(blk_cell BK3.out 0).trans rfl,(blk_cell BK3.out 1).trans rfl⟩ (fun hHeld=>?_);refine with_tabW impl_InstallKey.tab14 impl_InstallKey.bits14 (fun HT_ HW_=>?_)
    generalize wq.drew=w9 at HB BK3 BK4 BK6 HOo hHeld ⊢
    refine pure_ (i:=0) (N:=some 52) (v:=?_) (a':=?_) #[true,false,false,false,false,false,false,false,false] rfl rfl (any_of HT_.out (by kernel_rfl)) (fun _ _ _ h=>h) (Or.inl ⟨zq64,?_⟩) ?_ ?_
    rotate_left
    ·intro w'
     go_simp
     with_reducible rfl
    rotate_left
    ·simp only[Act.put,List.setIfInBounds_toArray,List.set_cons_zero,List.set_cons_succ,i64_w,i32_w]
     rfl
    refine take_ (i:=1) (N:=some 53) (v:=?_) (a':=?_) #[true,true,false,false,false,false,false,false,false] rfl rfl (take_ofW HT_.out HW_.out (by kernel_rfl)) (fun _ _ _ h=>h) (Or.inl ⟨zq64,?_⟩) hHeld ?_ ?_
    rotate_left
    ·rintro w' ⟨s0,s1,s2⟩
     go_simp
     with_reducible rfl
    rotate_left
    ·simp only[Act.put,List.setIfInBounds_toArray,List.set_cons_zero,List.set_cons_succ,i64_w,i32_w]
     rfl
    refine pure_ (i:=2) (N:=some 54) (v:=?_) (a':=?_) #[true,true,true,false,false,false,false,false,false] rfl rfl (any_of HT_.out (by kernel_rfl)) (fun _ _ _ h=>h) (Or.inl ⟨zq64,?_⟩) ?_ ?_
    rotate_left
    ·intro w'
     go_simp
     with_reducible rfl
    rotate_left
    ·simp only[Act.put,List.setIfInBounds_toArray,List.set_cons_zero,List.set_cons_succ,i64_w,i32_w]
     rfl
    refine take_ (i:=3) (N:=some 55) (v:=?_) (a':=?_) #[true,true,true,true,false,false,false,false,false] rfl rfl (take_ofW HT_.out HW_.out (by kernel_rfl)) (fun _ _ _ h=>h) (Or.inl ⟨zq64,?_⟩) hHeld ?_ ?_
    rotate_left
    ·rintro w' ⟨s0,s1,s2⟩
     go_simp
     with_reducible rfl
    rotate_left
    ·simp only[Act.put,List.setIfInBounds_toArray,List.set_cons_zero,List.set_cons_succ,i64_w,i32_w]
     rfl
    refine one_ (i:=4) (N:=some 56) #[true,true,true,true,true,false,false,false,false] rfl rfl (one_of HT_.out (by kernel_rfl)) zq17 (fun K hK=>?_)
    refine goes_ Try.func85 (by kernel_rfl) rfl #[.agg #[.int .i64 a1_0,.slice A1_1 l1_1.length c1_1]] zq64 rfl rfl zq11 ?_
    with_reducible refine(impl_ownKey.calls a1_0 A1_1 c1_1 l1_1 y1 y2 _ ?side1 HCK.out HY.out).mono ?_
    (case side1=>exact Kd.C_below HRK.out HB.out)
    rintro e w10 ⟨vy,rfl,hoy,hb⟩
    refine⟨_,rfl,?_⟩
    have n0_:=zM (below_step HB.out hb)
    have n1_:=zM (blk_below (g:=g3) BK3.out hb)
    have n2_:=zM (blk_below (g:=g4) BK4.out hb)
    have n3_:=zM (blk_below (g:=g6) BK6.out hb)
    have n4_:=zM (Kd.S_elder' HOo.out (Kd.R_base hoy) hb)
    have n5_:=zM (Kd.R_lower hoy (below_size HB.out))
    clear HB BK3 BK4 BK6 HOo
    have HB:=n0_
    have BK3:=n1_
    have BK4:=n2_
    have BK6:=n3_
    have HOo:=n4_
    have HOy:=n5_
    clear n0_ n1_ n2_ n3_ n4_ n5_
    clear hb hoy
    obtain⟨Ay,cy,ey⟩:=Kd.R_slice HOy.out
    subst ey
    refine hK.out _ _ ⟨(blk_cell BK6.out 1).trans rfl,(blk_cell BK3.out 0).trans rfl,(blk_cell BK3.out 1).trans rfl⟩ (fun hHeld=>?_)
    clear hK K
    refine norm_ (a':=?_) ?_ ?_
    rotate_left
    ·show Act.put _ (some 56) _=_
     simp only[Act.put,List.setIfInBounds_toArray,List.set_cons_zero,List.set_cons_succ,i64_w,i32_w]
     rfl
    refine one_ (i:=5) (N:=some 57) #[true,true,true,true,true,true,false,false,false] rfl rfl (one_of HT_.out (by kernel_rfl)) zq17 (fun K hK=>?_)
    refine value_ (w1:=?_) (v:=?_) zq64 rfl ?_ ?_
    rotate_left 2
    ·go_simp
     constructor
     ·rfl
     ·rfl
    refine hK.out _ _ ⟨(blk_cell (blk_alloc BK6.out _) 1).trans rfl,(blk_cell (blk_alloc BK3.out _) 0).trans rfl,(blk_cell (blk_alloc BK3.out _) 1).trans rfl⟩ (fun hHeld=>?_)
    clear hK K
    refine norm_ (a':=?_) ?_ ?_
    rotate_left
    ·show Act.put _ (some 57) _=_
     simp only[Act.put,List.setIfInBounds_toArray,List.set_cons_zero,List.set_cons_succ,i64_w,i32_w]
     rfl
    refine one_ (i:=6) (N:=some 58) #[true,true,true,true,true,true,true,false,false] rfl rfl (one_of HT_.out (by kernel_rfl)) zq17 (fun K hK=>?_)
    refine goes_ Try.func89 (by kernel_rfl) rfl #[.slice (some ⟨go,0,none⟩) N cc,.int .i64 kk,.slice (some ⟨w10.heap.size,0,none⟩) 1 1] zq64 rfl rfl zq11 ?_
    with_reducible refine(insert_at go N cc kk ⟨y1,y2⟩ (.int .i64 y1) (.slice Ay y2.length cy) m w w10 (fun k_=>some k_=(Value.slice Ay y2.length cy).ownBlock) HK.out HNB.out HB.out (below_size HB.out) (Kd.S_mono HOo.out (fun k_ hk_ he_=>absurd he_ hk_.2)) (k25_mkM _ _ _ (⟨y1,y2⟩:S25) (Kd.R_tight rfl HOy.out))).mono ?_
    rintro e w11 ⟨vi,rfl,hS,hb,hgr⟩
    refine⟨_,rfl,?_⟩
    rw[HI.out] at hS
    have n0_:=zM hb
    have n1_:=zM (blk_grown BK3.out hgr (fun he_=>NE3o.out (Option.some.inj he_)))
    have n2_:=zM (blk_grown BK4.out hgr (Kd.S_ne HOo.out BK4.out zq17))
    have n3_:=zM (blk_grown BK6.out hgr (Kd.S_ne HOo.out BK6.out zq17))
    have n4_:=zM hS
    clear HB BK3 BK4 BK6
    have HB:=n0_
    have BK3:=n1_
    have BK4:=n2_
    have BK6:=n3_
    have HOi:=n4_
    clear n0_ n1_ n2_ n3_ n4_
    clear HOo HOy hb hS hgr
    obtain⟨Ai,ci,ei⟩:=Kd.S_slice HOi.out
    subst ei
    refine hK.out _ _ ⟨(blk_cell BK6.out 1).trans rfl,(blk_cell BK3.out 0).trans rfl,(blk_cell BK3.out 1).trans rfl⟩ (fun hHeld=>?_)
    clear hK K
    refine norm_ (a':=?_) ?_ ?_
    rotate_left
    ·show Act.put _ (some 58) _=_
     simp only[Act.put,List.setIfInBounds_toArray,List.set_cons_zero,List.set_cons_succ,i64_w,i32_w]
     rfl
    refine pure_ (i:=7) (N:=some 59) (v:=?_) (a':=?_) #[true,true,true,true,true,true,true,true,false] rfl rfl (any_of HT_.out (by kernel_rfl)) (fun _ _ _ h=>h) (Or.inl ⟨zq64,?_⟩) ?_ ?_
    rotate_left
    ·intro w'
     go_simp
     with_reducible rfl
    rotate_left
    ·simp only[Act.put,List.setIfInBounds_toArray,List.set_cons_zero,List.set_cons_succ,i64_w,i32_w]
     rfl
    refine last_ (i:=8) (N:=none) #[true,true,true,true,true,true,true,true,true] rfl rfl (one_of HT_.out (by kernel_rfl)) zq17 (fun K hK=>?_)
    have hs1:=(blk_cell BK6.out 1).trans rfl
    have hs2:=blk_frozen BK6.out 1
    refine skip_ (w1:=?_) zq64 rfl ?_ ?_
    rotate_left
    ·go_simp
     rfl
    refine hK.out _ _ ?_
    clear hK K
    refine done_ (done_of HT_.out (by kernel_rfl)) ?_
    have n0_:Aside0 ((w11.setCell ⟨g6,1,none⟩ (.slice Ai z.length ci)).heap[g6]?=some (Obj.cells #[.int .i64 p,.slice Ai z.length ci] 29 (0,0))):=⟨blk_put (cs:=#[.int .i64 p,.slice (some ⟨go,0,none⟩) N cc]) BK6.out 1 _ rfl⟩
    have n1_:Aside0 ((w11.setCell ⟨g6,1,none⟩ (.slice Ai z.length ci)).heap[g4]?=some (Obj.cells #[.int .i64 0,.int .i64 0,.slice none 0 0] 31 (0,0))):=⟨blk_far BK4.out (blk_ne BK4.out BK6.out zq17) _⟩
    have n2_:Aside0 (Below w.heap.size w (w11.setCell ⟨g6,1,none⟩ (.slice Ai z.length ci))):=⟨below_set HB.out GE6.out⟩
    have n3_:Aside0 (Kd.S k25 25 (w11.setCell ⟨g6,1,none⟩ (.slice Ai z.length ci)) w.heap.size (fun _=>True) (.slice Ai z.length ci) z):=⟨Kd.S_mono (Kd.S_far (p:=⟨g6,1,none⟩) (Kd.S_types HOi.out BK6.out zq17) (fun _ hk=>hk.2) _) (fun _ hk=>hk.1)⟩
    clear HB BK3 BK4 BK6 HOi hs1 hs2
    generalize w11.setCell ⟨g6,1,none⟩ (.slice Ai z.length ci)=w12 at n0_ n1_ n2_ n3_ ⊢
    have BK6:=n0_
    have BK4:=n1_
    have HB:=n2_
    have HOi:=n3_
    clear n0_ n1_ n2_ n3_
    have hs9:=ringFault_box _ _ _ _ _ _ BK6.out
    obtain⟨hs0,hs1⟩:=hs9
    go_wp2_with (first
      | ((with_reducible refine gate_store (t:=31) (p:=4) rfl ?_);refine row_event ?hg (ty:=31) (p:=4) (y:=?yo_144) ?ho ?hn (g:=g4) (old:=#[.int .i64 0,.int .i64 0,.slice none 0 0]) (e:=31) (cells:=#[.int .i64 0,.int .i64 p,.slice Ai z.length ci]) ?hx ?hy ?hk ?hi ?hd ?h1 ?_;(case ho=>rfl);(case hg=>rfl);(case hn=>rfl);(case hx=>rfl);(case hy=>rfl);(case hk=>exact zq2);(case hi=>kernel_rfl);(case hd=>rfl);(case h1=>exact zq63);intro wr_ hbk hgr;have n0_:=zM (below_grown1 zq0 hgr GE4.out);have n1_:=zM (blk_grown1 (g':=g6) (ob:=.cells #[.int .i64 p,.slice Ai z.length ci] 29 (0,0)) zq9 hgr (blk_ne zq9 zq2 zq17));have n2_:=zM (S_grown_types (by(with_reducible repeat (first|apply Kd.S_alloc|apply Kd.S_drewN|apply Kd.S_drew));exact HOi.out) zq2 zq17 hgr);have n3_:=zM hbk;clear HB BK6 HOi BK4;have HB:=n0_;have BK6:=n1_;have HOi:=n2_;have BK4:=n3_;clear n0_ n1_ n2_ n3_;clear hbk hgr))
    refine bodyPost_ret (results_cell_row rfl _ _ g4 31 #[.int .i64 0,.int .i64 p,.slice Ai z.length ci] (0,0) _ rfl zq2 Try.underlying31 rfl (by kernel_rfl)) rfl ?_
    exact⟨_,rfl,HOi.out,HB.out⟩
  ·obtain rfl:N=kk:=by omega
   have hd0:decide (N < N)=false:=decide_eq_false hl
   have HI:Aside0 (m.insertIdx N (⟨y1,y2⟩:S25)=z):=⟨by rw[← HZ.out,HP.out,← HN.out,List.drop_length];rfl⟩
   clear HP
   go_wp2_with fail
   go_quiet (fail)
   have n0_:=zM (pw_below_drewN HB.out nq)
   have n1_:=zM (blk_drewN BK3.out nq)
   have n2_:=zM (blk_drewN BK4.out nq)
   have n3_:=zM (blk_drewN BK6.out nq)
   have n4_:=zM (Kd.S_drewN HOo.out nq)
   clear HB BK3 BK4 BK6 HOo hs0 hs1 hk0 hk1
   have HB:=n0_
   have BK3:=n1_
   have BK4:=n2_
   have BK6:=n3_
   have HOo:=n4_
   clear n0_ n1_ n2_ n3_ n4_
   have hk9:=ins_box _ _ _ _ _ _ BK3.out
   obtain⟨hk0,hk1⟩:=hk9
   generalize wr.drewN nq=wq at HB BK3 BK4 BK6 HOo hk0 hk1 ⊢
   have hs9:=ringFault_box _ _ _ _ _ _ BK6.out
   obtain⟨hs0,hs1⟩:=hs9
   go_wp2_with fail
   have n0_:=zM (below_drew1 HB.out)
   have n1_:=zM (blk_drew BK3.out)
   have n2_:=zM (blk_drew BK4.out)
   have n3_:=zM (blk_drew BK6.out)
   have n4_:=zM (Kd.S_drew HOo.out)
   clear HB BK3 BK4 BK6 HOo hk0 hk1 hs0 hs1
   have HB:=n0_
   have BK3:=n1_
   have BK4:=n2_
   have BK6:=n3_
   have HOo:=n4_
   clear n0_ n1_ n2_ n3_ n4_
   refine start_ (n:=9) (S:=fun w'=>w'.cell? ⟨g6,1,none⟩=some (.slice (some ⟨go,0,none⟩) N cc)∧w'.cell? ⟨g3,0,none⟩=some (.int .i64 a1_0)∧w'.cell? ⟨g3,1,none⟩=some (.slice A1_1 l1_1.length c1_1)) (ds:=[8]) #[false,false,false,false,false,false,false,false,false] (by kernel_rfl) rfl rfl ⟨(blk_cell BK6.out 1).trans rfl,(blk_cell BK3.out 0).trans rfl,(blk_cell BK3.out 1).trans rfl⟩ (fun hHeld=>?_);refine with_tabW impl_InstallKey.tab14 impl_InstallKey.bits14 (fun HT_ HW_=>?_)
   generalize wq.drew=w9 at HB BK3 BK4 BK6 HOo hHeld ⊢
   refine pure_ (i:=0) (N:=some 52) (v:=?_) (a':=?_) #[true,false,false,false,false,false,false,false,false] rfl rfl (any_of HT_.out (by kernel_rfl)) (fun _ _ _ h=>h) (Or.inl ⟨zq64,?_⟩) ?_ ?_
   rotate_left
   ·intro w'
    go_simp
    with_reducible rfl
   rotate_left
   ·simp only[Act.put,List.setIfInBounds_toArray,List.set_cons_zero,List.set_cons_succ,i64_w,i32_w]
    rfl
   refine take_ (i:=1) (N:=some 53) (v:=?_) (a':=?_) #[true,true,false,false,false,false,false,false,false] rfl rfl (take_ofW HT_.out HW_.out (by kernel_rfl)) (fun _ _ _ h=>h) (Or.inl ⟨zq64,?_⟩) hHeld ?_ ?_
   rotate_left
   ·rintro w' ⟨s0,s1,s2⟩
    go_simp
    with_reducible rfl
   rotate_left
   ·simp only[Act.put,List.setIfInBounds_toArray,List.set_cons_zero,List.set_cons_succ,i64_w,i32_w]
    rfl
   refine pure_ (i:=2) (N:=some 54) (v:=?_) (a':=?_) #[true,true,true,false,false,false,false,false,false] rfl rfl (any_of HT_.out (by kernel_rfl)) (fun _ _ _ h=>h) (Or.inl ⟨zq64,?_⟩) ?_ ?_
   rotate_left
   ·intro w'
    go_simp
    with_reducible rfl
   rotate_left
   ·simp only[Act.put,List.setIfInBounds_toArray,List.set_cons_zero,List.set_cons_succ,i64_w,i32_w]
    rfl
   refine take_ (i:=3) (N:=some 55) (v:=?_) (a':=?_) #[true,true,true,true,false,false,false,false,false] rfl rfl (take_ofW HT_.out HW_.out (by kernel_rfl)) (fun _ _ _ h=>h) (Or.inl ⟨zq64,?_⟩) hHeld ?_ ?_
   rotate_left
   ·rintro w' ⟨s0,s1,s2⟩
    go_simp
    with_reducible rfl
   rotate_left
   ·simp only[Act.put,List.setIfInBounds_toArray,List.set_cons_zero,List.set_cons_succ,i64_w,i32_w]
    rfl
   refine one_ (i:=4) (N:=some 56) #[true,true,true,true,true,false,false,false,false] rfl rfl (one_of HT_.out (by kernel_rfl)) zq17 (fun K hK=>?_)
   refine goes_ Try.func85 (by kernel_rfl) rfl #[.agg #[.int .i64 a1_0,.slice A1_1 l1_1.length c1_1]] zq64 rfl rfl zq11 ?_
   with_reducible refine(impl_ownKey.calls a1_0 A1_1 c1_1 l1_1 y1 y2 _ ?side1 HCK.out HY.out).mono ?_
   (case side1=>exact Kd.C_below HRK.out HB.out)
   rintro e w10 ⟨vy,rfl,hoy,hb⟩
   refine⟨_,rfl,?_⟩
   have n0_:=zM (below_step HB.out hb)
   have n1_:=zM (blk_below (g:=g3) BK3.out hb)
   have n2_:=zM (blk_below (g:=g4) BK4.out hb)
   have n3_:=zM (blk_below (g:=g6) BK6.out hb)
   have n4_:=zM (Kd.S_elder' HOo.out (Kd.R_base hoy) hb)
   have n5_:=zM (Kd.R_lower hoy (below_size HB.out))
   clear HB BK3 BK4 BK6 HOo
   have HB:=n0_
   have BK3:=n1_
   have BK4:=n2_
   have BK6:=n3_
   have HOo:=n4_
   have HOy:=n5_
   clear n0_ n1_ n2_ n3_ n4_ n5_
   clear hb hoy
   obtain⟨Ay,cy,ey⟩:=Kd.R_slice HOy.out
   subst ey
   refine hK.out _ _ ⟨(blk_cell BK6.out 1).trans rfl,(blk_cell BK3.out 0).trans rfl,(blk_cell BK3.out 1).trans rfl⟩ (fun hHeld=>?_)
   clear hK K
   refine norm_ (a':=?_) ?_ ?_
   rotate_left
   ·show Act.put _ (some 56) _=_
    simp only[Act.put,List.setIfInBounds_toArray,List.set_cons_zero,List.set_cons_succ,i64_w,i32_w]
    rfl
   refine one_ (i:=5) (N:=some 57) #[true,true,true,true,true,true,false,false,false] rfl rfl (one_of HT_.out (by kernel_rfl)) zq17 (fun K hK=>?_)
   refine value_ (w1:=?_) (v:=?_) zq64 rfl ?_ ?_
   rotate_left 2
   ·go_simp
    constructor
    ·rfl
    ·rfl
   refine hK.out _ _ ⟨(blk_cell (blk_alloc BK6.out _) 1).trans rfl,(blk_cell (blk_alloc BK3.out _) 0).trans rfl,(blk_cell (blk_alloc BK3.out _) 1).trans rfl⟩ (fun hHeld=>?_)
   clear hK K
   refine norm_ (a':=?_) ?_ ?_
   rotate_left
   ·show Act.put _ (some 57) _=_
    simp only[Act.put,List.setIfInBounds_toArray,List.set_cons_zero,List.set_cons_succ,i64_w,i32_w]
    rfl
   refine one_ (i:=6) (N:=some 58) #[true,true,true,true,true,true,true,false,false] rfl rfl (one_of HT_.out (by kernel_rfl)) zq17 (fun K hK=>?_)
   refine goes_ Try.func89 (by kernel_rfl) rfl #[.slice (some ⟨go,0,none⟩) N cc,.int .i64 N,.slice (some ⟨w10.heap.size,0,none⟩) 1 1] zq64 rfl rfl zq11 ?_
   with_reducible refine(insert_at go N cc N ⟨y1,y2⟩ (.int .i64 y1) (.slice Ay y2.length cy) m w w10 (fun k_=>some k_=(Value.slice Ay y2.length cy).ownBlock) HK.out HNB.out HB.out (below_size HB.out) (Kd.S_mono HOo.out (fun k_ hk_ he_=>absurd he_ hk_.2)) (k25_mkM _ _ _ (⟨y1,y2⟩:S25) (Kd.R_tight rfl HOy.out))).mono ?_
   rintro e w11 ⟨vi,rfl,hS,hb,hgr⟩
   refine⟨_,rfl,?_⟩
   rw[HI.out] at hS
   have n0_:=zM hb
   have n1_:=zM (blk_grown BK3.out hgr (fun he_=>NE3o.out (Option.some.inj he_)))
   have n2_:=zM (blk_grown BK4.out hgr (Kd.S_ne HOo.out BK4.out zq17))
   have n3_:=zM (blk_grown BK6.out hgr (Kd.S_ne HOo.out BK6.out zq17))
   have n4_:=zM hS
   clear HB BK3 BK4 BK6
   have HB:=n0_
   have BK3:=n1_
   have BK4:=n2_
   have BK6:=n3_
   have HOi:=n4_
   clear n0_ n1_ n2_ n3_ n4_
   clear HOo HOy hb hS hgr
   obtain⟨Ai,ci,ei⟩:=Kd.S_slice HOi.out
   subst ei
   refine hK.out _ _ ⟨(blk_cell BK6.out 1).trans rfl,(blk_cell BK3.out 0).trans rfl,(blk_cell BK3.out 1).trans rfl⟩ (fun hHeld=>?_)
   clear hK K
   refine norm_ (a':=?_) ?_ ?_
   rotate_left
   ·show Act.put _ (some 58) _=_
    simp only[Act.put,List.setIfInBounds_toArray,List.set_cons_zero,List.set_cons_succ,i64_w,i32_w]
    rfl
   refine pure_ (i:=7) (N:=some 59) (v:=?_) (a':=?_) #[true,true,true,true,true,true,true,true,false] rfl rfl (any_of HT_.out (by kernel_rfl)) (fun _ _ _ h=>h) (Or.inl ⟨zq64,?_⟩) ?_ ?_
   rotate_left
   ·intro w'
    go_simp
    with_reducible rfl
   rotate_left
   ·simp only[Act.put,List.setIfInBounds_toArray,List.set_cons_zero,List.set_cons_succ,i64_w,i32_w]
    rfl
   refine last_ (i:=8) (N:=none) #[true,true,true,true,true,true,true,true,true] rfl rfl (one_of HT_.out (by kernel_rfl)) zq17 (fun K hK=>?_)
   have hs1:=(blk_cell BK6.out 1).trans rfl
   have hs2:=blk_frozen BK6.out 1
   refine skip_ (w1:=?_) zq64 rfl ?_ ?_
   rotate_left
   ·go_simp
    rfl
   refine hK.out _ _ ?_
   clear hK K
   refine done_ (done_of HT_.out (by kernel_rfl)) ?_
   have n0_:Aside0 ((w11.setCell ⟨g6,1,none⟩ (.slice Ai z.length ci)).heap[g6]?=some (Obj.cells #[.int .i64 p,.slice Ai z.length ci] 29 (0,0))):=⟨blk_put (cs:=#[.int .i64 p,.slice (some ⟨go,0,none⟩) N cc]) BK6.out 1 _ rfl⟩
   have n1_:Aside0 ((w11.setCell ⟨g6,1,none⟩ (.slice Ai z.length ci)).heap[g4]?=some (Obj.cells #[.int .i64 0,.int .i64 0,.slice none 0 0] 31 (0,0))):=⟨blk_far BK4.out (blk_ne BK4.out BK6.out zq17) _⟩
   have n2_:Aside0 (Below w.heap.size w (w11.setCell ⟨g6,1,none⟩ (.slice Ai z.length ci))):=⟨below_set HB.out GE6.out⟩
   have n3_:Aside0 (Kd.S k25 25 (w11.setCell ⟨g6,1,none⟩ (.slice Ai z.length ci)) w.heap.size (fun _=>True) (.slice Ai z.length ci) z):=⟨Kd.S_mono (Kd.S_far (p:=⟨g6,1,none⟩) (Kd.S_types HOi.out BK6.out zq17) (fun _ hk=>hk.2) _) (fun _ hk=>hk.1)⟩
   clear HB BK3 BK4 BK6 HOi hs1 hs2
   generalize w11.setCell ⟨g6,1,none⟩ (.slice Ai z.length ci)=w12 at n0_ n1_ n2_ n3_ ⊢
   have BK6:=n0_
   have BK4:=n1_
   have HB:=n2_
   have HOi:=n3_
   clear n0_ n1_ n2_ n3_
   have hs9:=ringFault_box _ _ _ _ _ _ BK6.out
   obtain⟨hs0,hs1⟩:=hs9
   go_wp2_with (first
     | ((with_reducible refine gate_store (t:=31) (p:=4) rfl ?_);refine row_event ?hg (ty:=31) (p:=4) (y:=?yo_145) ?ho ?hn (g:=g4) (old:=#[.int .i64 0,.int .i64 0,.slice none 0 0]) (e:=31) (cells:=#[.int .i64 0,.int .i64 p,.slice Ai z.length ci]) ?hx ?hy ?hk ?hi ?hd ?h1 ?_;(case ho=>rfl);(case hg=>rfl);(case hn=>rfl);(case hx=>rfl);(case hy=>rfl);(case hk=>exact zq2);(case hi=>kernel_rfl);(case hd=>rfl);(case h1=>exact zq63);intro wr_ hbk hgr;have n0_:=zM (below_grown1 zq0 hgr GE4.out);have n1_:=zM (blk_grown1 (g':=g6) (ob:=.cells #[.int .i64 p,.slice Ai z.length ci] 29 (0,0)) zq9 hgr (blk_ne zq9 zq2 zq17));have n2_:=zM (S_grown_types (by(with_reducible repeat (first|apply Kd.S_alloc|apply Kd.S_drewN|apply Kd.S_drew));exact HOi.out) zq2 zq17 hgr);have n3_:=zM hbk;clear HB BK6 HOi BK4;have HB:=n0_;have BK6:=n1_;have HOi:=n2_;have BK4:=n3_;clear n0_ n1_ n2_ n3_;clear hbk hgr))
   refine bodyPost_ret (results_cell_row rfl _ _ g4 31 #[.int .i64 0,.int .i64 p,.slice Ai z.length ci] (0,0) _ rfl zq2 Try.underlying31 rfl (by kernel_rfl)) rfl ?_
   exact⟨_,rfl,HOi.out,HB.out⟩
theorem impl_InstallKey.calls (k:Nat) (a0_0:Int) (A0_1:Option Addr) (c0_1:Nat) (l0_1:List S25) (a1_0:Int) (A1_1:Option Addr) (c1_1:Nat) (l1_1:List Int) (r1:Int) (r2:Int) (r3:List S25) (w:World) (hr0_1:Kd.C k25 w A0_1 l0_1.length l0_1) (hc0_1:l0_1.length≤c0_1) (hr1_1:Kd.C (Kd.int .u8) w A1_1 l1_1.length l1_1) (hc1_1:l1_1.length≤c1_1) (h:impl_InstallKey.f k a0_0 l0_1 a1_0 l1_1=some (r1,r2,r3)) :
  Calls Try.prog 48 #[.agg #[.int .i64 a0_0,.slice A0_1 l0_1.length c0_1],.agg #[.int .i64 a1_0,.slice A1_1 l1_1.length c1_1]] w fun e w'=>∃ v2_:Value,e=.returned (.agg #[.int .i64 r1,.int .i64 r2,v2_])∧Kd.S k25 25 w' w.heap.size (fun _=>True) v2_ r3∧Below w.heap.size w w':=by
 unfold impl_InstallKey.f at h
 have HR:=zM hr0_1
 have HC:=zM hc0_1
 have HRK:=zM hr1_1
 have HCK:=zM hc1_1
 clear hr0_1 hc0_1 hr1_1 hc1_1
 have HB:=zM (Below.refl w.heap.size w)
 cases hf:impl_RingFault.f k a0_0 l0_1 with
 | none=>rw[hf] at h;cases h
 | some t=>
  rw[hf] at h
  have HF:=zM hf
  clear hf
  simp only[Option.bind_some] at h
  by_cases ht:t=0
  ·subst ht
   rw[if_pos rfl] at h
   cases hu:impl_Key_fault.f a1_0 l1_1 with
   | none=>rw[hu] at h;cases h
   | some u=>
   rw[hu] at h
   have HU:=zM hu
   clear hu
   simp only[Option.bind_some] at h
   by_cases hu:u=0
   ·subst hu
    rw[if_pos rfl] at h
    cases hq:impl_Ring_place.f a0_0 l0_1 a1_0 with
    | none=>rw[hq] at h;cases h
    | some q=>
    rw[hq] at h
    have HQ:=zM hq
    clear hq
    simp only[Option.bind_some] at h
    by_cases hq0:0≤q
    ·rw[if_pos hq0] at h
     simp only[Option.some.injEq,Prod.mk.injEq] at h
     obtain⟨rfl,rfl,rfl⟩:=h
     have hd:=decide_eq_true hq0
     clear hq0
     exact impl_InstallKey.w6 k a0_0 A0_1 c0_1 l0_1 a1_0 A1_1 c1_1 l1_1 w HR HC HRK HCK HB q HF HU HQ hd
    ·rw[if_neg hq0] at h
     have hd:=decide_eq_false hq0
     clear hq0
     by_cases h3:l0_1.length=3
     ·rw[if_pos h3] at h
      simp only[Option.some.injEq,Prod.mk.injEq] at h
      obtain⟨rfl,rfl,rfl⟩:=h
      have hd3:((l0_1.length:Int) == 3)=true:=beq_iff_eq.mpr zq21
      clear h3
      exact impl_InstallKey.w7 k a0_0 A0_1 c0_1 l0_1 a1_0 A1_1 c1_1 l1_1 w HR HC HRK HCK HB q HF HU HQ hd hd3
     ·rw[if_neg h3] at h
      have hd3:((l0_1.length:Int) == 3)=false:=beq_eq_false_iff_ne.mpr zq21
      clear h3
      cases hw:impl_ownRing.f k a0_0 l0_1 with
      | none=>rw[hw] at h;cases h
      | some r=>
      obtain⟨p,m⟩:=r
      have HW:=zM hw
      rw[hw] at h
      clear hw
      simp only[Option.bind_some] at h
      cases hy:impl_ownKey.f a1_0 l1_1 with
      | none=>rw[hy] at h;cases h
      | some y=>
      obtain⟨y1,y2⟩:=y
      have HY:=zM hy
      rw[hy] at h
      clear hy
      simp only[Option.bind_some] at h
      by_cases hm:0 < m.length∧m.length < 1000
      ·rw[if_pos hm] at h
       simp only[Option.some.injEq,Prod.mk.injEq] at h
       obtain⟨rfl,rfl,rfl⟩:=h
       obtain⟨N,hN⟩:∃ N,m.length=N:=⟨_,rfl⟩
       have HN:=zM hN
       have HN0:Aside0 (0 < N):=⟨zq21⟩
       have HNB:Aside0 ((N+1)*32≤140737488355328):=⟨zq21⟩
       have HNC:Aside0 (N < 140737488355328):=⟨zq21⟩
       obtain⟨z,HZ⟩:∃ z,Aside0 (m.insertIdx (atL a1_0 m) (⟨y1,y2⟩:S25)=z):=⟨_,⟨rfl⟩⟩
       rw[HZ.out]
       clear hN hm
       exact impl_InstallKey.main k a0_0 A0_1 c0_1 l0_1 a1_0 A1_1 c1_1 l1_1 w HR HC HRK HCK HB q HF HU HQ hd hd3 p m y1 y2 N z HW HY HN HN0 HNB HNC HZ
      ·rw[if_neg hm] at h
       cases h
   ·rw[if_neg hu] at h
    simp only[Option.some.injEq,Prod.mk.injEq] at h
    obtain⟨rfl,rfl,rfl⟩:=h
    have hu1:(u == 0)=false:=beq_eq_false_iff_ne.mpr hu
    have hu2:(u != 0)=true:=bne_iff_ne.mpr hu
    clear hu
    exact impl_InstallKey.wu k a0_0 A0_1 c0_1 l0_1 a1_0 A1_1 c1_1 l1_1 w HR HC HRK HCK HB u HF HU hu1 hu2
  ·rw[if_neg ht] at h
   simp only[Option.some.injEq,Prod.mk.injEq] at h
   obtain⟨rfl,rfl,rfl⟩:=h
   have ht1:(t == 0)=false:=beq_eq_false_iff_ne.mpr ht
   have ht2:(t != 0)=true:=bne_iff_ne.mpr ht
   clear ht
   exact impl_InstallKey.wt k a0_0 A0_1 c0_1 l0_1 a1_0 A1_1 c1_1 l1_1 w HR HC HRK HCK HB t HF ht1 ht2
end Go.Proofs.Ytmnhddedcbkpoaa.All
