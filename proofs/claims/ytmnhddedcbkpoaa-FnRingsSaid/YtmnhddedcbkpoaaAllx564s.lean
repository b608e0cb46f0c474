-- Laid by wip/shake.py of this repo out of this claim's texts. Not trusted: Lean checks it.
import Derived.Test.YtmnhddedcbkpoaaAb0s
import Derived.Test.YtmnhddedcbkpoaaBytes
import Derived.Test.YtmnhddedcbkpoaaAllx24s
import Derived.Test.YtmnhddedcbkpoaaAllx128s
import Derived.Test.YtmnhddedcbkpoaaAllx204s
import Derived.Test.YtmnhddedcbkpoaaAllx553s
import Derived.Test.YtmnhddedcbkpoaaAllx550s
import Derived.Lib.SliceRun
import Derived.Shelf.RegionOpenPlain
import Derived.Deep.RegionLaw
namespace Go.Proofs.Ytmnhddedcbkpoaa.All
open Go.Proofs.YtmnhddedcbkpoaaW.PrintWords.Aside0 renaming mk→zM
open Go.RowKit Go.Proofs.YtmnhddedcbkpoaaW.PrintWords Go.Proofs.YtmnhddedcbkpoaaW.PrintLast Go.Proofs.YtmnhddedcbkpoaaW.PrintMore
attribute [local go_sem] max2_int min2_int max_two min_two max_three min_three max_four min_four
set_option linter.unusedVariables false
set_option linter.unusedSimpArgs false
theorem S_block {W:World} {base:Nat} {ok:Nat→Prop} {g n c:Nat} {xs:List S25} (h:Kd.S k25 25 W base ok (.slice (some ⟨g,0,none⟩) n c) xs):∃ cur,W.heap[g]?=some (.cells cur 25 (0,0))∧cur.size=c*2∧c≤9223372036854775807:=by
 obtain⟨f,h0,inner,⟨hl,hv|⟨g',c',cur,hv,hb,hh,hnc,hcm,hcs,ht⟩⟩,hr⟩:=h
 ·cases hv.1
 injection hv with ha hn hc
 injection ha with ha
 injection ha with hg
 subst hg;subst hc
 exact⟨cur,hh,hcs,hcm⟩
theorem S_past {W:World} {base:Nat} {ok:Nat→Prop} {g n c:Nat} {xs:List S25} (h:Kd.S k25 25 W base ok (.slice (some ⟨g,0,none⟩) n c) xs) (o:Nat) (vs:List Value) (ho:n*2≤o) (hs:o+vs.length≤c*2):Kd.S k25 25 (W.setCells g o vs) base ok (.slice (some ⟨g,0,none⟩) n c) xs:=by
 obtain⟨f,h0,inner,⟨hl,hv|⟨g',c',cur,hv,hb,hh,hnc,hcm,hcs,ht⟩⟩,hr⟩:=h
 ·cases hv.1
 have hv9:=hv
 injection hv with ha hn hc
 injection ha with ha
 injection ha with hg
 subst hg;subst hc
 have hcs2:cur.size=c*2:=hcs
 obtain⟨cur',h3,h4,h5⟩:=setCells_row (e:=25) vs o W cur hh zq21
 refine⟨f,h0,inner,⟨hl,.inr ⟨g,c,cur',hv9,hb,h3,hnc,hcm,h4.trans hcs,?_⟩⟩,hr.imp_ (fun p cs hM=>(Kd.tag f k25).M_move (fun k hk=>setCells_far vs o k (fun e=>hk.2 (by rw[e];rfl))) hM)⟩
 have hn2:(xs.zipIdx.length)*(Kd.tag f k25).sz=n*2:=by rw[← hn];rfl
 rw[hn2] at ht ⊢
 rw[h5,List.append_assoc,List.take_append_of_le_length (by rw[List.length_take,Array.length_toList];omega),List.take_take,Nat.min_eq_left zq21]
 exact ht
theorem clear_key (W:World) (ty:TypeId) (c g o:Nat) (cur:Array Value) (hh:W.heap[g]?=some (.cells cur 25 (0,0))) (ho:o+2≤cur.size):(Builtin.clear_ #[27] ty #[.slice (some ⟨g,o,none⟩) 1 c]).run Try.prog W=.ok (.tuple #[]) (W.setCells g o [.int .i64 0,.slice none 0 0]):=by
 have hst:=run_storeCells_cells (P:=Try.prog) g o [.int .i64 0,.slice none 0 0] 0 W (by
  intro j hj
  simp only[List.length_cons,List.length_nil] at hj
  rw[blk_cell hh,Array.getElem?_eq_getElem zq21]
  rfl) (fun j hj=>blk_frozen hh _) (by
  intro v hv
  simp only[List.mem_cons,List.not_mem_nil,or_false] at hv
  rcases hv with rfl|rfl <;> rfl)
 simp only[Nat.add_zero] at hst
 have hz:∀ w,(zeroValue 25).run Try.prog w=.ok (.agg #[.int .i64 0,.slice none 0 0]) w:=fun w=>by
  have h1:=Try.underlying25
  have h2:=Try.underlying5
  go_simp
  all_goals rfl
 have hzc:(Builtin.zeroCells (Value.agg #[.int .i64 0,.slice none 0 0]).cells 1).toList=[.int .i64 0,.slice none 0 0]:=by kernel_rfl
 simp[Builtin.clear_,run_underlying Try.underlying27,hz,hzc,hst]
set_option maxHeartbeats 4000000 in
set_option maxRecDepth 100000 in
theorem slices_Delete.calls (g n c k:Nat) (ok:Nat→Prop) (xs:List S25) (w0 w:World) (HB0:Below w0.heap.size w0 w) (hbase:w0.heap.size≤w.heap.size) (hk:k < n+1) (hn:n < 140737488355328) (ho:Kd.S k25 25 w w0.heap.size ok (.slice (some ⟨g,0,none⟩) (n+1) c) xs) :
  Calls Try.prog 87 #[.slice (some ⟨g,0,none⟩) (n+1) c,.int .i64 k,.int .i64 ((k+1:Nat):Int)] w fun e w'=>e=.returned (.slice (some ⟨g,0,none⟩) n c)∧Kd.S k25 25 w' w0.heap.size ok (.slice (some ⟨g,0,none⟩) n c) (xs.eraseIdx k)∧Below w0.heap.size w0 w'∧∀ (j:Nat) (cells:Array Value) (t:Nat),w.heap[j]?=some (Obj.cells cells t (0,0))→t≠25→w'.heap[j]?=some (Obj.cells cells t (0,0)):=by
 obtain⟨hn1,hc1,hC⟩:=Kd.S_reads' ho
 obtain⟨curw,hhw,_,hcm⟩:=S_block ho
 have HW:=zM hhw
 clear hhw
 have HO:=zM ho
 have HB:=zM HB0
 have hbd:w0.heap.size≤w.drew.heap.size:=hbase
 have hgb:w0.heap.size≤g:=Kd.S_base ho _ rfl
 clear ho HB0 hC hn1
 have hkk:k≤k+1:=by omega
 have hk1:k+1≤n+1:=by omega
 have hk2:k≤n+1:=by omega
 have hkc:k+1≤c:=by omega
 have hkc2:k≤c:=by omega
 have hkn:k≤n:=by omega
 have hk0:(0:Int)≤(k:Int)+1:=by omega
 have mixed:Try.prog.follows Departure.mixedOrders=true:=by kernel_rfl
 have hne:((k:Int) == ((k+1:Nat):Int))=false:=beq_eq_false_iff_ne.mpr zq21
 go_enter Try.func87,Try.ntmps87
 go_wp2_with fail
 go_region_law_o (refine Kd.S_delete_step k25 (w0:=w0) w0.heap.size zq64 (.tmp 22) (.tmp 25) 27 25 rfl Try.underlying27 (by kernel_rfl) (n:=n+1) (c:=c) (k:=k) (g:=g) rfl rfl (by split <;> simp[Addr.add,show k25.sz=2 from rfl]) zq21 (Kd.S_drew HO.out) hk (below_drew1 HB.out) hbd ?_;intro w1 ho1 hb1 hg1)
 obtain⟨cur,hh,hcs,_⟩:=S_block ho1
 have hcl:∀ ty,(Builtin.clear_ #[27] ty #[.slice (some ⟨g,n*2,none⟩) 1 (c - n)]).run Try.prog w1=.ok (.tuple #[]) (w1.setCells g (n*2) [.int .i64 0,.slice none 0 0]):=fun ty=>clear_key w1 ty (c - n) g (n*2) cur hh zq21
 have HO1:=zM (S_past ho1 (n*2) [.int .i64 0,.slice none 0 0] (Nat.le_refl _) (by simp only[List.length_cons,List.length_nil];omega))
 have HB1:Aside0 (Below w0.heap.size w0 (w1.setCells g (n*2) [.int .i64 0,.slice none 0 0])):=⟨below_set (below_set hb1 hgb) hgb⟩
 have hcn:¬ c=n:=by omega
 have hcn2:n≤c:=by omega
 have hnn:n≤n+1:=by omega
 have HF:Aside0 (∀ (j:Nat) (cells:Array Value) (t:Nat),w.heap[j]?=some (Obj.cells cells t (0,0))→t≠25→(w1.setCells g (n*2) [.int .i64 0,.slice none 0 0]).heap[j]?=some (Obj.cells cells t (0,0))):=⟨fun j cells t hj ht=>by
  have hjg:=blk_ne hj HW.out ht
  exact(setCells_far _ _ j hjg).trans (blk_grown (o:=Obj.cells cells t (0,0)) (blk_drew hj) hg1 (fun e=>hjg (Option.some.inj e)))⟩
 clear ho1 hb1 hg1 hh hcs
 generalize w1.setCells g (n*2) [.int .i64 0,.slice none 0 0]=w2 at HO1 HB1 HF hcl
 generalize (if c=k+1 then some (⟨g,0,none⟩:Addr) else some ⟨g,(k+1)*2,none⟩)=A9
 go_wp2
 go_ret
 exact⟨rfl,HO1.out,HB1.out,HF.out⟩
theorem delete_at (A:Option Addr) (g n c k:Nat) (j:Int) (hj:j=((k+1:Nat):Int)) (xs:List S25) (w0 w:World) (HB0:Below w0.heap.size w0 w) (hbase:w0.heap.size≤w.heap.size) (hk:k < n+1) (hn:n < 140737488355328) (ho:Kd.S k25 25 w w0.heap.size (fun _=>True) (.slice (some ⟨g,0,none⟩) (n+1) c) xs) :
  Calls Try.prog 87 #[.slice (some ⟨g,0,none⟩) (n+1) c,.int .i64 k,.int .i64 j] w fun e w'=>e=.returned (.slice (some ⟨g,0,none⟩) n c)∧Kd.S k25 25 w' w0.heap.size (fun _=>True) (.slice (some ⟨g,0,none⟩) n c) (xs.eraseIdx k)∧Below w0.heap.size w0 w'∧∀ (j:Nat) (cells:Array Value) (t:Nat),w.heap[j]?=some (Obj.cells cells t (0,0))→t≠25→w'.heap[j]?=some (Obj.cells cells t (0,0)):=by
 subst hj
 exact slices_Delete.calls g n c k _ xs w0 w HB0 hbase hk hn ho
theorem S_cons {w:World} {base:Nat} {ok:Nat→Prop} {v:Value} {xs:List S25} {n:Nat} (h:Kd.S k25 25 w base ok v xs) (hn:xs.length=n+1):∃ g c,v=.slice (some ⟨g,0,none⟩) (n+1) c:=by
 obtain⟨g,c,hv,_⟩:=Kd.S_form h zq21
 exact⟨g,c,by rw[hv,hn]⟩
theorem rk_cell0 {w:World} {g t:Nat} {a b c:Value} (h:w.heap[g]?=some (.cells #[a,b,c] t (0,0))):w.cell? ⟨g,0,none⟩=some a:=(blk_cell h 0).trans rfl
theorem place_at (p:Int) (A:Option Addr) (c:Nat) (m:List S25) (id q:Int) (n:Nat) (w:World) (hn:m.length=n) (hr:Kd.C k25 w A m.length m) (hc:n≤c) (h:impl_Ring_place.f p m id=some q) :
  Calls Try.prog 73 #[.agg #[.int .i64 p,.slice A n c],.int .i64 id] w fun e w'=>e=.returned (.int .i64 q)∧Below w.heap.size w w':=by
 subst hn
 exact impl_Ring_place.calls p A c m id q w hr hc h
def impl_RemoveKey.f (k:Nat) (a0_0:Int) (l0_1:List S25) (a1:Int):Option (Int × Int × List S25):=(impl_FindKey.f k a0_0 l0_1 a1).bind fun t=>if t.1=0 then (if a0_0=a1 then some (8,0,[]) else (impl_ownRing.f k a0_0 l0_1).bind fun r=>(impl_Ring_place.f r.1 r.2 a1).bind fun q=>if 0≤q∧q < (r.2.length:Int)∧r.2.length < 140737488355328 then some (0,r.1,r.2.eraseIdx q.toNat) else none) else some (t.1,0,[])
theorem impl_RemoveKey.mono:∀ a0 a1 a2 k,LeO (impl_RemoveKey.f k a0 a1 a2) (impl_RemoveKey.f (k+1) a0 a1 a2):=by
 intro a0 a1 a2 k
 unfold impl_RemoveKey.f
 repeat' first
  | (with_reducible exact LeO.refl _)
  | (with_reducible exact LeO.none _)
  | (with_reducible exact impl_FindKey.mono _ _ _ _ )
  | (with_reducible exact impl_ownRing.mono _ _ _ )
  | (with_reducible refine LeO.ite ?_ ?_)
  | (with_reducible refine LeO.bind ?_ (fun _=>?_))
set_option maxHeartbeats 4000000 in
set_option maxRecDepth 100000 in
theorem impl_RemoveKey.calls (k:Nat) (a0_0:Int) (A0_1:Option Addr) (c0_1:Nat) (l0_1:List S25) (a1:Int) (r1:Int) (r2:Int) (r3:List S25) (w:World) (hr0_1:Kd.C k25 w A0_1 l0_1.length l0_1) (hc0_1:l0_1.length≤c0_1) (h:impl_RemoveKey.f k a0_0 l0_1 a1=some (r1,r2,r3)) :
  Calls Try.prog 46 #[.agg #[.int .i64 a0_0,.slice A0_1 l0_1.length c0_1],.int .i64 a1] w fun e w'=>∃ v2_:Value,e=.returned (.agg #[.int .i64 r1,.int .i64 r2,v2_])∧Kd.S k25 25 w' w.heap.size (fun _=>True) v2_ r3∧Below w.heap.size w w':=by
 unfold impl_RemoveKey.f at h
 have HR:=zM hr0_1
 have HC:=zM hc0_1
 clear hr0_1 hc0_1
 have HB:=zM (Below.refl w.heap.size w)
 cases hf:impl_FindKey.f k a0_0 l0_1 a1 with
 | none=>rw[hf] at h;cases h
 | some t=>
  obtain⟨f1,f2,f3⟩:=t
  have HF:=zM hf
  rw[hf] at h
  clear hf
  simp only[Option.bind_some] at h
  by_cases ht:f1=0
  ·rw[if_pos ht] at h
   have ht1:(f1 == 0)=true:=beq_iff_eq.mpr ht
   have ht2:(f1 != 0)=false:=bne_eq_false_iff_eq.mpr ht
   clear ht
   by_cases he:a0_0=a1
   ·rw[if_pos he] at h
    simp only[Option.some.injEq,Prod.mk.injEq] at h
    obtain⟨rfl,rfl,rfl⟩:=h
    have he1:(a0_0 == a1)=true:=beq_iff_eq.mpr he
    clear he
    go_enter Try.func46,Try.ntmps46
    go_wp2_with (first
      | ((with_reducible refine gate_dst (N:=2) rfl ?_);refine box_event ?hg (N:=2) ?hd (cs:=#[.int .i64 a0_0,.slice A0_1 l0_1.length c0_1]) (t:=29) ?hr ?_;(case hd=>rfl);(case hg=>rfl);(case hr=>first|(go_simp;done)|(go_simp;rfl));intro g2 hg w2 hbox hb;have n0_:=zM (below_step zq0 hb);have n1_:=zM hbox;have n2_:=zM (by rw[hg];exact below_size zq0:w.heap.size≤g2);clear HB;have HB:=n0_;have BK2:=n1_;have GE2:=n2_;clear n0_ n1_ n2_;clear hb hbox hg;(try clear hr0 hr1);have hr9:=ringFault_box _ _ _ _ _ _ BK2.out;obtain⟨hr0,hr1⟩:=hr9)
      | ((with_reducible refine gate_dst (N:=4) rfl ?_);refine box_event ?hg (N:=4) ?hd (cs:=#[.int .i64 0,.int .i64 0,.slice none 0 0]) (t:=31) ?hr ?_;(case hd=>rfl);(case hg=>rfl);(case hr=>first|(go_simp;done)|(go_simp;rfl));intro g4 hg w4 hbox hb;have n0_:=zM (below_step zq0 hb);have n1_:=zM (blk_below (g:=g2) (o:=.cells #[.int .i64 a0_0,.slice A0_1 l0_1.length c0_1] 29 (0,0)) zq1 hb);have n2_:=zM hbox;have n3_:=zM (by rw[hg];exact below_size zq0:w.heap.size≤g4);clear HB BK2;have HB:=n0_;have BK2:=n1_;have BK4:=n2_;have GE4:=n3_;clear n0_ n1_ n2_ n3_;clear hb hbox hg;(try clear hr0 hr1);have hr9:=ringFault_box _ _ _ _ _ _ BK2.out;obtain⟨hr0,hr1⟩:=hr9)
      | (go_at_call 39;refine(impl_FindKey.calls k a0_0 A0_1 c0_1 l0_1 a1 f1 f2 f3 _ (Kd.C_below HR.out zq0) HC.out HF.out).mono ?_;rintro e wf ⟨vf,rfl,hof,hb⟩;obtain⟨Af,cf,ef⟩:=Kd.R_slice hof;subst ef;clear hof;have n0_:=zM (below_step zq0 hb);have n1_:=zM (blk_below (g:=g2) (o:=.cells #[.int .i64 a0_0,.slice A0_1 l0_1.length c0_1] 29 (0,0)) zq1 hb);have n2_:=zM (blk_below (g:=g4) (o:=.cells #[.int .i64 0,.int .i64 0,.slice none 0 0] 31 (0,0)) zq2 hb);clear HB BK2 BK4;have HB:=n0_;have BK2:=n1_;have BK4:=n2_;clear n0_ n1_ n2_;clear hb;(try clear hr0 hr1);have hr9:=ringFault_box _ _ _ _ _ _ BK2.out;obtain⟨hr0,hr1⟩:=hr9)
      | ((with_reducible refine gate_dst (N:=5) rfl ?_);refine box_event ?hg (N:=5) ?hd (cs:=#[.int .i64 0,.int .i64 0,.slice none 0 0]) (t:=58) ?hr ?_;(case hd=>rfl);(case hg=>rfl);(case hr=>first|(go_simp;done)|(go_simp;rfl));intro g5 hg w5 hbox hb;have n0_:=zM (below_step zq0 hb);have n1_:=zM (blk_below (g:=g2) (o:=.cells #[.int .i64 a0_0,.slice A0_1 l0_1.length c0_1] 29 (0,0)) zq1 hb);have n2_:=zM (blk_below (g:=g4) (o:=.cells #[.int .i64 0,.int .i64 0,.slice none 0 0] 31 (0,0)) zq2 hb);have n3_:=zM hbox;have n4_:=zM (by rw[hg];exact below_size zq0:w.heap.size≤g5);clear HB BK2 BK4;have HB:=n0_;have BK2:=n1_;have BK4:=n2_;have BK5:=n3_;have GE5:=n4_;clear n0_ n1_ n2_ n3_ n4_;clear hb hbox hg;(try clear hr0 hr1);have hr9:=ringFault_box _ _ _ _ _ _ BK2.out;obtain⟨hr0,hr1⟩:=hr9)
      | ((with_reducible refine gate_store (t:=58) (p:=5) rfl ?_);refine row_event ?hg (ty:=58) (p:=5) (y:=?yo_66) ?ho ?hn (g:=g5) (old:=#[.int .i64 0,.int .i64 0,.slice none 0 0]) (e:=58) (cells:=#[.int .i64 f1,.int .i64 f2,.slice Af f3.length cf]) ?hx ?hy ?hk ?hi ?hd ?h1 ?_;(case ho=>rfl);(case hg=>rfl);(case hn=>rfl);(case hx=>rfl);(case hy=>rfl);(case hk=>exact zq20);(case hi=>kernel_rfl);(case hd=>rfl);(case h1=>exact zq63);intro wr_ hbk hgr;have n0_:=zM (below_grown1 zq0 hgr GE5.out);have n1_:=zM (blk_grown1 (g':=g2) (ob:=.cells #[.int .i64 a0_0,.slice A0_1 l0_1.length c0_1] 29 (0,0)) zq1 hgr (blk_ne zq1 zq20 zq17));have n2_:=zM (blk_grown1 (g':=g4) (ob:=.cells #[.int .i64 0,.int .i64 0,.slice none 0 0] 31 (0,0)) zq2 hgr (blk_ne zq2 zq20 zq17));have n3_:=zM hbk;clear HB BK2 BK4 BK5;have HB:=n0_;have BK2:=n1_;have BK4:=n2_;have BK5:=n3_;clear n0_ n1_ n2_ n3_;clear hbk hgr;(try clear hr0 hr1);have hr9:=ringFault_box _ _ _ _ _ _ BK2.out;obtain⟨hr0,hr1⟩:=hr9;have hf0:=rk_cell0 BK5.out)
      | ((with_reducible refine gate_store (t:=31) (p:=4) rfl ?_);refine row_event ?hg (ty:=31) (p:=4) (y:=?yo_67) ?ho ?hn (g:=g4) (old:=#[.int .i64 0,.int .i64 0,.slice none 0 0]) (e:=31) (cells:=#[.int .i64 8,.int .i64 0,.slice none 0 0]) ?hx ?hy ?hk ?hi ?hd ?h1 ?_;(case ho=>rfl);(case hg=>rfl);(case hn=>rfl);(case hx=>rfl);(case hy=>rfl);(case hk=>exact zq2);(case hi=>kernel_rfl);(case hd=>rfl);(case h1=>exact zq63);intro wr_ hbk hgr;have n0_:=zM (below_grown1 zq0 hgr GE4.out);have n1_:=zM (blk_grown1 (g':=g2) (ob:=.cells #[.int .i64 a0_0,.slice A0_1 l0_1.length c0_1] 29 (0,0)) zq1 hgr (blk_ne zq1 zq2 zq17));have n2_:=zM (blk_grown1 (g':=g5) (ob:=.cells #[.int .i64 f1,.int .i64 f2,.slice Af f3.length cf] 58 (0,0)) zq20 hgr (blk_ne zq20 zq2 zq17));have n3_:=zM hbk;clear HB BK2 BK5 BK4;have HB:=n0_;have BK2:=n1_;have BK5:=n2_;have BK4:=n3_;clear n0_ n1_ n2_ n3_;clear hbk hgr))
    refine bodyPost_ret (results_cell_row rfl _ _ g4 31 #[.int .i64 8,.int .i64 0,.slice none 0 0] (0,0) _ rfl zq2 Try.underlying31 rfl (by kernel_rfl)) rfl ?_
    exact⟨_,rfl,Kd.S_nil _ _ _ _ _,HB.out⟩
   ·rw[if_neg he] at h
    have he1:(a0_0 == a1)=false:=beq_eq_false_iff_ne.mpr he
    clear he
    cases hw:impl_ownRing.f k a0_0 l0_1 with
    | none=>rw[hw] at h;cases h
    | some r=>
     obtain⟨p,m⟩:=r
     have HW:=zM hw
     rw[hw] at h
     clear hw
     simp only[Option.bind_some] at h
     cases hp:impl_Ring_place.f p m a1 with
     | none=>rw[hp] at h;cases h
     | some q=>
      rw[hp] at h
      simp only[Option.bind_some] at h
      by_cases hq:0≤q∧q < (m.length:Int)∧m.length < 140737488355328
      ·rw[if_pos hq] at h
       simp only[Option.some.injEq,Prod.mk.injEq] at h
       obtain⟨rfl,rfl,rfl⟩:=h
       obtain⟨kq,rfl⟩:∃ j:Nat,q=(j:Int):=⟨q.toNat,zq21⟩
       obtain⟨n,hn⟩:∃ j,m.length=j+1:=⟨m.length - 1,zq21⟩
       have HP:=zM hp
       have HN:=zM hn
       have HK:Aside0 (kq < n+1):=⟨zq21⟩
       have HNB:Aside0 (n < 140737488355328):=⟨zq21⟩
       have HNC:Aside0 (n+1 < 140737488355328):=⟨zq21⟩
       rw[Int.toNat_natCast]
       clear hp hn hq
       go_enter Try.func46,Try.ntmps46
       go_wp2_with (first
         | ((with_reducible refine gate_dst (N:=2) rfl ?_);refine box_event ?hg (N:=2) ?hd (cs:=#[.int .i64 a0_0,.slice A0_1 l0_1.length c0_1]) (t:=29) ?hr ?_;(case hd=>rfl);(case hg=>rfl);(case hr=>first|(go_simp;done)|(go_simp;rfl));intro g2 hg w2 hbox hb;have n0_:=zM (below_step zq0 hb);have n1_:=zM hbox;have n2_:=zM (by rw[hg];exact below_size zq0:w.heap.size≤g2);clear HB;have HB:=n0_;have BK2:=n1_;have GE2:=n2_;clear n0_ n1_ n2_;clear hb hbox hg;(try clear hr0 hr1);have hr9:=ringFault_box _ _ _ _ _ _ BK2.out;obtain⟨hr0,hr1⟩:=hr9)
         | ((with_reducible refine gate_dst (N:=4) rfl ?_);refine box_event ?hg (N:=4) ?hd (cs:=#[.int .i64 0,.int .i64 0,.slice none 0 0]) (t:=31) ?hr ?_;(case hd=>rfl);(case hg=>rfl);(case hr=>first|(go_simp;done)|(go_simp;rfl));intro g4 hg w4 hbox hb;have n0_:=zM (below_step zq0 hb);have n1_:=zM (blk_below (g:=g2) (o:=.cells #[.int .i64 a0_0,.slice A0_1 l0_1.length c0_1] 29 (0,0)) zq1 hb);have n2_:=zM hbox;have n3_:=zM (by rw[hg];exact below_size zq0:w.heap.size≤g4);clear HB BK2;have HB:=n0_;have BK2:=n1_;have BK4:=n2_;have GE4:=n3_;clear n0_ n1_ n2_ n3_;clear hb hbox hg;(try clear hr0 hr1);have hr9:=ringFault_box _ _ _ _ _ _ BK2.out;obtain⟨hr0,hr1⟩:=hr9)
         | (go_at_call 39;refine(impl_FindKey.calls k a0_0 A0_1 c0_1 l0_1 a1 f1 f2 f3 _ (Kd.C_below HR.out zq0) HC.out HF.out).mono ?_;rintro e wf ⟨vf,rfl,hof,hb⟩;obtain⟨Af,cf,ef⟩:=Kd.R_slice hof;subst ef;clear hof;have n0_:=zM (below_step zq0 hb);have n1_:=zM (blk_below (g:=g2) (o:=.cells #[.int .i64 a0_0,.slice A0_1 l0_1.length c0_1] 29 (0,0)) zq1 hb);have n2_:=zM (blk_below (g:=g4) (o:=.cells #[.int .i64 0,.int .i64 0,.slice none 0 0] 31 (0,0)) zq2 hb);clear HB BK2 BK4;have HB:=n0_;have BK2:=n1_;have BK4:=n2_;clear n0_ n1_ n2_;clear hb;(try clear hr0 hr1);have hr9:=ringFault_box _ _ _ _ _ _ BK2.out;obtain⟨hr0,hr1⟩:=hr9)
         | ((with_reducible refine gate_dst (N:=5) rfl ?_);refine box_event ?hg (N:=5) ?hd (cs:=#[.int .i64 0,.int .i64 0,.slice none 0 0]) (t:=58) ?hr ?_;(case hd=>rfl);(case hg=>rfl);(case hr=>first|(go_simp;done)|(go_simp;rfl));intro g5 hg w5 hbox hb;have n0_:=zM (below_step zq0 hb);have n1_:=zM (blk_below (g:=g2) (o:=.cells #[.int .i64 a0_0,.slice A0_1 l0_1.length c0_1] 29 (0,0)) zq1 hb);have n2_:=zM (blk_below (g:=g4) (o:=.cells #[.int .i64 0,.int .i64 0,.slice none 0 0] 31 (0,0)) zq2 hb);have n3_:=zM hbox;have n4_:=zM (by rw[hg];exact below_size zq0:w.heap.size≤g5);clear HB BK2 BK4;have HB:=n0_;have BK2:=n1_;have BK4:=n2_;have BK5:=n3_;have GE5:=n4_;clear n0_ n1_ n2_ n3_ n4_;clear hb hbox hg;(try clear hr0 hr1);have hr9:=ringFault_box _ _ _ _ _ _ BK2.out;obtain⟨hr0,hr1⟩:=hr9)
         | ((with_reducible refine gate_store (t:=58) (p:=5) rfl ?_);refine row_event ?hg (ty:=58) (p:=5) (y:=?yo_72) ?ho ?hn (g:=g5) (old:=#[.int .i64 0,.int .i64 0,.slice none 0 0]) (e:=58) (cells:=#[.int .i64 f1,.int .i64 f2,.slice Af f3.length cf]) ?hx ?hy ?hk ?hi ?hd ?h1 ?_;(case ho=>rfl);(case hg=>rfl);(case hn=>rfl);(case hx=>rfl);(case hy=>rfl);(case hk=>exact zq20);(case hi=>kernel_rfl);(case hd=>rfl);(case h1=>exact zq63);intro wr_ hbk hgr;have n0_:=zM (below_grown1 zq0 hgr GE5.out);have n1_:=zM (blk_grown1 (g':=g2) (ob:=.cells #[.int .i64 a0_0,.slice A0_1 l0_1.length c0_1] 29 (0,0)) zq1 hgr (blk_ne zq1 zq20 zq17));have n2_:=zM (blk_grown1 (g':=g4) (ob:=.cells #[.int .i64 0,.int .i64 0,.slice none 0 0] 31 (0,0)) zq2 hgr (blk_ne zq2 zq20 zq17));have n3_:=zM hbk;clear HB BK2 BK4 BK5;have HB:=n0_;have BK2:=n1_;have BK4:=n2_;have BK5:=n3_;clear n0_ n1_ n2_ n3_;clear hbk hgr;(try clear hr0 hr1);have hr9:=ringFault_box _ _ _ _ _ _ BK2.out;obtain⟨hr0,hr1⟩:=hr9;have hf0:=rk_cell0 BK5.out)
         | (go_at_call 61;refine(impl_ownRing.calls k a0_0 A0_1 c0_1 l0_1 p m _ (Kd.C_below HR.out zq0) HC.out HW.out).mono ?_;rintro e wk ⟨vc,rfl,ho,hb⟩;have hown:=Kd.S_lower ho (below_size zq0);clear ho hf0;have n0_:=zM (below_step zq0 hb);have n1_:=zM (blk_below (g:=g2) (o:=.cells #[.int .i64 a0_0,.slice A0_1 l0_1.length c0_1] 29 (0,0)) zq1 hb);have n2_:=zM (blk_below (g:=g4) (o:=.cells #[.int .i64 0,.int .i64 0,.slice none 0 0] 31 (0,0)) zq2 hb);have n3_:=zM (blk_below (g:=g5) (o:=.cells #[.int .i64 f1,.int .i64 f2,.slice Af f3.length cf] 58 (0,0)) zq20 hb);clear HB BK2 BK4 BK5;have HB:=n0_;have BK2:=n1_;have BK4:=n2_;have BK5:=n3_;clear n0_ n1_ n2_ n3_;clear hb;obtain⟨go,cc,ec⟩:=S_cons hown HN.out;subst ec;have HOo:=zM hown;clear hown)
         | ((with_reducible refine gate_dst (N:=6) rfl ?_);refine box_event ?hg (N:=6) ?hd (cs:=#[.int .i64 0,.slice none 0 0]) (t:=29) ?hr ?_;(case hd=>rfl);(case hg=>rfl);(case hr=>first|(go_simp;done)|(go_simp;rfl));intro g6 hg w6 hbox hb;have n0_:=zM (below_step zq0 hb);have n1_:=zM (blk_below (g:=g2) (o:=.cells #[.int .i64 a0_0,.slice A0_1 l0_1.length c0_1] 29 (0,0)) zq1 hb);have n2_:=zM (blk_below (g:=g4) (o:=.cells #[.int .i64 0,.int .i64 0,.slice none 0 0] 31 (0,0)) zq2 hb);have n3_:=zM (blk_below (g:=g5) (o:=.cells #[.int .i64 f1,.int .i64 f2,.slice Af f3.length cf] 58 (0,0)) zq20 hb);have n4_:=zM (Kd.S_below zq29 hb);have n5_:=zM hbox;have n6_:=zM (by rw[hg];exact below_size zq0:w.heap.size≤g6);have n7_:=zM (by rw[hg];exact Nat.ne_of_lt (blk_lt (g:=g2) (o:=.cells #[.int .i64 a0_0,.slice A0_1 l0_1.length c0_1] 29 (0,0)) zq1):g2≠g6);have n8_:=zM (by rw[hg];exact Nat.ne_of_gt (blk_lt (g:=g2) (o:=.cells #[.int .i64 a0_0,.slice A0_1 l0_1.length c0_1] 29 (0,0)) zq1):g6≠g2);clear HB BK2 BK4 BK5 HOo;have HB:=n0_;have BK2:=n1_;have BK4:=n2_;have BK5:=n3_;have HOo:=n4_;have BK6:=n5_;have GE6:=n6_;have NE2_6:=n7_;have NE6_2:=n8_;clear n0_ n1_ n2_ n3_ n4_ n5_ n6_ n7_ n8_;clear hb hbox hg)
         | ((with_reducible refine gate_store (t:=29) (p:=6) rfl ?_);refine row_event ?hg (ty:=29) (p:=6) (y:=?yo_75) ?ho ?hn (g:=g6) (old:=#[.int .i64 0,.slice none 0 0]) (e:=29) (cells:=#[.int .i64 p,.slice (some ⟨go,0,none⟩) (n+1) cc]) ?hx ?hy ?hk ?hi ?hd ?h1 ?_;(case ho=>rfl);(case hg=>rfl);(case hn=>rfl);(case hx=>rfl);(case hy=>rfl);(case hk=>exact zq9);(case hi=>kernel_rfl);(case hd=>rfl);(case h1=>exact zq63);intro wr_ hbk hgr;have n0_:=zM (below_grown1 zq0 hgr GE6.out);have n1_:=zM (blk_grown1 (g':=g2) (ob:=.cells #[.int .i64 a0_0,.slice A0_1 l0_1.length c0_1] 29 (0,0)) zq1 hgr NE2_6.out);have n2_:=zM (blk_grown1 (g':=g4) (ob:=.cells #[.int .i64 0,.int .i64 0,.slice none 0 0] 31 (0,0)) zq2 hgr (blk_ne zq2 zq9 zq17));have n3_:=zM (blk_grown1 (g':=g5) (ob:=.cells #[.int .i64 f1,.int .i64 f2,.slice Af f3.length cf] 58 (0,0)) zq20 hgr (blk_ne zq20 zq9 zq17));have n4_:=zM (S_grown_types zq29 zq9 zq17 hgr);have n5_:=zM hbk;clear HB BK2 BK4 BK5 HOo BK6;have HB:=n0_;have BK2:=n1_;have BK4:=n2_;have BK5:=n3_;have HOo:=n4_;have BK6:=n5_;clear n0_ n1_ n2_ n3_ n4_ n5_;clear hbk hgr;(try clear hr0 hr1);(try clear hs0 hs1);have hs9:=ringFault_box _ _ _ _ _ _ BK6.out;obtain⟨hs0,hs1⟩:=hs9;have hfz:=blk_frozen BK6.out 1)
         | (go_at_call 73;refine(place_at p (some ⟨go,0,none⟩) cc m a1 (kq:Int) (n+1) _ HN.out (Kd.S_reads' HOo.out).2.2 (Kd.S_reads' HOo.out).2.1 HP.out).mono ?_;rintro e wk ⟨rfl,hb⟩;have n0_:=zM (below_step zq0 hb);have n1_:=zM (blk_below (g:=g2) (o:=.cells #[.int .i64 a0_0,.slice A0_1 l0_1.length c0_1] 29 (0,0)) zq1 hb);have n2_:=zM (blk_below (g:=g4) (o:=.cells #[.int .i64 0,.int .i64 0,.slice none 0 0] 31 (0,0)) zq2 hb);have n3_:=zM (blk_below (g:=g5) (o:=.cells #[.int .i64 f1,.int .i64 f2,.slice Af f3.length cf] 58 (0,0)) zq20 hb);have n4_:=zM (blk_below (g:=g6) (o:=.cells #[.int .i64 p,.slice (some ⟨go,0,none⟩) (n+1) cc] 29 (0,0)) zq9 hb);have n5_:=zM (Kd.S_below zq29 hb);clear HB BK2 BK4 BK5 BK6 HOo;have HB:=n0_;have BK2:=n1_;have BK4:=n2_;have BK5:=n3_;have BK6:=n4_;have HOo:=n5_;clear n0_ n1_ n2_ n3_ n4_ n5_;clear hb;clear hfz;(try clear hr0 hr1);(try clear hs0 hs1);have hs9:=ringFault_box _ _ _ _ _ _ BK6.out;obtain⟨hs0,hs1⟩:=hs9;have hfz:=blk_frozen BK6.out 1)
         | (go_at_call 87;refine(delete_at none go n cc kq _ ?hjj m w _ zq0 (below_size zq0) HK.out HNB.out HOo.out).mono ?_;(case hjj=>first|exact wrap_next kq (n+1) HK.out HNC.out|rfl|(simp;done));rintro e wd ⟨rfl,hS,hb,hfar⟩;have n0_:=zM hb;have n1_:=zM hS;have n2_:=zM (hfar _ _ _ BK2.out zq17);have n3_:=zM (hfar _ _ _ BK4.out zq17);have n4_:=zM (hfar _ _ _ BK5.out zq17);have n5_:=zM (hfar _ _ _ BK6.out zq17);clear HB HOo BK2 BK4 BK5 BK6;have HB:=n0_;have HOo:=n1_;have BK2:=n2_;have BK4:=n3_;have BK5:=n4_;have BK6:=n5_;clear n0_ n1_ n2_ n3_ n4_ n5_;clear hb hS hfar hfz;(try clear hr0 hr1);(try clear hs0 hs1);have hs9:=ringFault_box _ _ _ _ _ _ BK6.out;obtain⟨hs0,hs1⟩:=hs9;have hfz:=blk_frozen BK6.out 1)
         | ((with_reducible refine gate_store (t:=27) (p:=33) rfl ?_);refine cell_event ?hg (t:=27) (p:=33) (v:=?vo_78) ?ho ?hn (i:=1) (x:=(.slice (some ⟨go,0,none⟩) n cc)) (cs:=#[.int .i64 p,.slice (some ⟨go,0,none⟩) (n+1) cc]) (g:=g6) (e:=29) ?hk ?hr (cs':=#[.int .i64 p,.slice (some ⟨go,0,none⟩) n cc]) ?hc ?_;(case ho=>rfl);(case hg=>rfl);(case hn=>rfl);(case hk=>exact zq9);(case hr=>first|(go_simp;done)|(go_simp;rfl));(case hc=>rfl);intro wc hbk hgr;have n0_:=zM (below_grown1 zq0 hgr GE6.out);have n1_:=zM (blk_grown1 (g':=g2) (ob:=.cells #[.int .i64 a0_0,.slice A0_1 l0_1.length c0_1] 29 (0,0)) zq1 hgr NE2_6.out);have n2_:=zM (blk_grown1 (g':=g4) (ob:=.cells #[.int .i64 0,.int .i64 0,.slice none 0 0] 31 (0,0)) zq2 hgr (blk_ne zq2 zq9 zq17));have n3_:=zM (blk_grown1 (g':=g5) (ob:=.cells #[.int .i64 f1,.int .i64 f2,.slice Af f3.length cf] 58 (0,0)) zq20 hgr (blk_ne zq20 zq9 zq17));have n4_:=zM (S_grown_types zq29 zq9 zq17 hgr);have n5_:=zM hbk;clear HB BK2 BK4 BK5 HOo BK6;have HB:=n0_;have BK2:=n1_;have BK4:=n2_;have BK5:=n3_;have HOo:=n4_;have BK6:=n5_;clear n0_ n1_ n2_ n3_ n4_ n5_;clear hbk hgr;clear hfz;(try clear hr0 hr1);(try clear hs0 hs1);have hs9:=ringFault_box _ _ _ _ _ _ BK6.out;obtain⟨hs0,hs1⟩:=hs9;have hfz:=blk_frozen BK6.out 1)
         | ((with_reducible refine gate_store (t:=31) (p:=4) rfl ?_);refine row_event ?hg (ty:=31) (p:=4) (y:=?yo_79) ?ho ?hn (g:=g4) (old:=#[.int .i64 0,.int .i64 0,.slice none 0 0]) (e:=31) (cells:=#[.int .i64 0,.int .i64 p,.slice (some ⟨go,0,none⟩) n cc]) ?hx ?hy ?hk ?hi ?hd ?h1 ?_;(case ho=>rfl);(case hg=>rfl);(case hn=>rfl);(case hx=>rfl);(case hy=>rfl);(case hk=>exact zq2);(case hi=>kernel_rfl);(case hd=>rfl);(case h1=>exact zq63);intro wr_ hbk hgr;have n0_:=zM (below_grown1 zq0 hgr GE4.out);have n1_:=zM (blk_grown1 (g':=g2) (ob:=.cells #[.int .i64 a0_0,.slice A0_1 l0_1.length c0_1] 29 (0,0)) zq1 hgr (blk_ne zq1 zq2 zq17));have n2_:=zM (blk_grown1 (g':=g5) (ob:=.cells #[.int .i64 f1,.int .i64 f2,.slice Af f3.length cf] 58 (0,0)) zq20 hgr (blk_ne zq20 zq2 zq17));have n3_:=zM (blk_grown1 (g':=g6) (ob:=.cells #[.int .i64 p,.slice (some ⟨go,0,none⟩) n cc] 29 (0,0)) zq9 hgr (blk_ne zq9 zq2 zq17));have n4_:=zM (S_grown_types zq29 zq2 zq17 hgr);have n5_:=zM hbk;clear HB BK2 BK5 BK6 HOo BK4;have HB:=n0_;have BK2:=n1_;have BK5:=n2_;have BK6:=n3_;have HOo:=n4_;have BK4:=n5_;clear n0_ n1_ n2_ n3_ n4_ n5_;clear hbk hgr))
       refine bodyPost_ret (results_cell_row rfl _ _ g4 31 #[.int .i64 0,.int .i64 p,.slice (some ⟨go,0,none⟩) n cc] (0,0) _ rfl zq2 Try.underlying31 rfl (by kernel_rfl)) rfl ?_
       exact⟨_,rfl,HOo.out,HB.out⟩
      ·rw[if_neg hq] at h
       cases h
  ·rw[if_neg ht] at h
   simp only[Option.some.injEq,Prod.mk.injEq] at h
   obtain⟨rfl,rfl,rfl⟩:=h
   have ht1:(f1 == 0)=false:=beq_eq_false_iff_ne.mpr ht
   have ht2:(f1 != 0)=true:=bne_iff_ne.mpr ht
   clear ht
   go_enter Try.func46,Try.ntmps46
   go_wp2_with (first
     | ((with_reducible refine gate_dst (N:=2) rfl ?_);refine box_event ?hg (N:=2) ?hd (cs:=#[.int .i64 a0_0,.slice A0_1 l0_1.length c0_1]) (t:=29) ?hr ?_;(case hd=>rfl);(case hg=>rfl);(case hr=>first|(go_simp;done)|(go_simp;rfl));intro g2 hg w2 hbox hb;have n0_:=zM (below_step zq0 hb);have n1_:=zM hbox;have n2_:=zM (by rw[hg];exact below_size zq0:w.heap.size≤g2);clear HB;have HB:=n0_;have BK2:=n1_;have GE2:=n2_;clear n0_ n1_ n2_;clear hb hbox hg;(try clear hr0 hr1);have hr9:=ringFault_box _ _ _ _ _ _ BK2.out;obtain⟨hr0,hr1⟩:=hr9)
     | ((with_reducible refine gate_dst (N:=4) rfl ?_);refine box_event ?hg (N:=4) ?hd (cs:=#[.int .i64 0,.int .i64 0,.slice none 0 0]) (t:=31) ?hr ?_;(case hd=>rfl);(case hg=>rfl);(case hr=>first|(go_simp;done)|(go_simp;rfl));intro g4 hg w4 hbox hb;have n0_:=zM (below_step zq0 hb);have n1_:=zM (blk_below (g:=g2) (o:=.cells #[.int .i64 a0_0,.slice A0_1 l0_1.length c0_1] 29 (0,0)) zq1 hb);have n2_:=zM hbox;have n3_:=zM (by rw[hg];exact below_size zq0:w.heap.size≤g4);clear HB BK2;have HB:=n0_;have BK2:=n1_;have BK4:=n2_;have GE4:=n3_;clear n0_ n1_ n2_ n3_;clear hb hbox hg;(try clear hr0 hr1);have hr9:=ringFault_box _ _ _ _ _ _ BK2.out;obtain⟨hr0,hr1⟩:=hr9)
     | (go_at_call 39;refine(impl_FindKey.calls k a0_0 A0_1 c0_1 l0_1 a1 f1 f2 f3 _ (Kd.C_below HR.out zq0) HC.out HF.out).mono ?_;rintro e wf ⟨vf,rfl,hof,hb⟩;obtain⟨Af,cf,ef⟩:=Kd.R_slice hof;subst ef;clear hof;have n0_:=zM (below_step zq0 hb);have n1_:=zM (blk_below (g:=g2) (o:=.cells #[.int .i64 a0_0,.slice A0_1 l0_1.length c0_1] 29 (0,0)) zq1 hb);have n2_:=zM (blk_below (g:=g4) (o:=.cells #[.int .i64 0,.int .i64 0,.slice none 0 0] 31 (0,0)) zq2 hb);clear HB BK2 BK4;have HB:=n0_;have BK2:=n1_;have BK4:=n2_;clear n0_ n1_ n2_;clear hb;(try clear hr0 hr1);have hr9:=ringFault_box _ _ _ _ _ _ BK2.out;obtain⟨hr0,hr1⟩:=hr9)
     | ((with_reducible refine gate_dst (N:=5) rfl ?_);refine box_event ?hg (N:=5) ?hd (cs:=#[.int .i64 0,.int .i64 0,.slice none 0 0]) (t:=58) ?hr ?_;(case hd=>rfl);(case hg=>rfl);(case hr=>first|(go_simp;done)|(go_simp;rfl));intro g5 hg w5 hbox hb;have n0_:=zM (below_step zq0 hb);have n1_:=zM (blk_below (g:=g2) (o:=.cells #[.int .i64 a0_0,.slice A0_1 l0_1.length c0_1] 29 (0,0)) zq1 hb);have n2_:=zM (blk_below (g:=g4) (o:=.cells #[.int .i64 0,.int .i64 0,.slice none 0 0] 31 (0,0)) zq2 hb);have n3_:=zM hbox;have n4_:=zM (by rw[hg];exact below_size zq0:w.heap.size≤g5);clear HB BK2 BK4;have HB:=n0_;have BK2:=n1_;have BK4:=n2_;have BK5:=n3_;have GE5:=n4_;clear n0_ n1_ n2_ n3_ n4_;clear hb hbox hg;(try clear hr0 hr1);have hr9:=ringFault_box _ _ _ _ _ _ BK2.out;obtain⟨hr0,hr1⟩:=hr9)
     | ((with_reducible refine gate_store (t:=58) (p:=5) rfl ?_);refine row_event ?hg (ty:=58) (p:=5) (y:=?yo_84) ?ho ?hn (g:=g5) (old:=#[.int .i64 0,.int .i64 0,.slice none 0 0]) (e:=58) (cells:=#[.int .i64 f1,.int .i64 f2,.slice Af f3.length cf]) ?hx ?hy ?hk ?hi ?hd ?h1 ?_;(case ho=>rfl);(case hg=>rfl);(case hn=>rfl);(case hx=>rfl);(case hy=>rfl);(case hk=>exact zq20);(case hi=>kernel_rfl);(case hd=>rfl);(case h1=>exact zq63);intro wr_ hbk hgr;have n0_:=zM (below_grown1 zq0 hgr GE5.out);have n1_:=zM (blk_grown1 (g':=g2) (ob:=.cells #[.int .i64 a0_0,.slice A0_1 l0_1.length c0_1] 29 (0,0)) zq1 hgr (blk_ne zq1 zq20 zq17));have n2_:=zM (blk_grown1 (g':=g4) (ob:=.cells #[.int .i64 0,.int .i64 0,.slice none 0 0] 31 (0,0)) zq2 hgr (blk_ne zq2 zq20 zq17));have n3_:=zM hbk;clear HB BK2 BK4 BK5;have HB:=n0_;have BK2:=n1_;have BK4:=n2_;have BK5:=n3_;clear n0_ n1_ n2_ n3_;clear hbk hgr;(try clear hr0 hr1);have hr9:=ringFault_box _ _ _ _ _ _ BK2.out;obtain⟨hr0,hr1⟩:=hr9;have hf0:=rk_cell0 BK5.out)
     | ((with_reducible refine gate_store (t:=31) (p:=4) rfl ?_);refine row_event ?hg (ty:=31) (p:=4) (y:=?yo_85) ?ho ?hn (g:=g4) (old:=#[.int .i64 0,.int .i64 0,.slice none 0 0]) (e:=31) (cells:=#[.int .i64 f1,.int .i64 0,.slice none 0 0]) ?hx ?hy ?hk ?hi ?hd ?h1 ?_;(case ho=>rfl);(case hg=>rfl);(case hn=>rfl);(case hx=>rfl);(case hy=>rfl);(case hk=>exact zq2);(case hi=>kernel_rfl);(case hd=>rfl);(case h1=>exact zq63);intro wr_ hbk hgr;have n0_:=zM (below_grown1 zq0 hgr GE4.out);have n1_:=zM (blk_grown1 (g':=g2) (ob:=.cells #[.int .i64 a0_0,.slice A0_1 l0_1.length c0_1] 29 (0,0)) zq1 hgr (blk_ne zq1 zq2 zq17));have n2_:=zM (blk_grown1 (g':=g5) (ob:=.cells #[.int .i64 f1,.int .i64 f2,.slice Af f3.length cf] 58 (0,0)) zq20 hgr (blk_ne zq20 zq2 zq17));have n3_:=zM hbk;clear HB BK2 BK5 BK4;have HB:=n0_;have BK2:=n1_;have BK5:=n2_;have BK4:=n3_;clear n0_ n1_ n2_ n3_;clear hbk hgr))
   refine bodyPost_ret (results_cell_row rfl _ _ g4 31 #[.int .i64 f1,.int .i64 0,.slice none 0 0] (0,0) _ rfl zq2 Try.underlying31 rfl (by kernel_rfl)) rfl ?_
   exact⟨_,rfl,Kd.S_nil _ _ _ _ _,HB.out⟩
end Go.Proofs.Ytmnhddedcbkpoaa.All
