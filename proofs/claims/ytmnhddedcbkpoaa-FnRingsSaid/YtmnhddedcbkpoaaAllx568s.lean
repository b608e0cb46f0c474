-- Laid by wip/shake.py of this repo out of this claim's texts. Not trusted: Lean checks it.
import Derived.Test.YtmnhddedcbkpoaaAb0s
import Derived.Test.YtmnhddedcbkpoaaBytes
import Derived.Test.YtmnhddedcbkpoaaAllx24s
import Derived.Test.YtmnhddedcbkpoaaAllx32s
import Derived.Test.YtmnhddedcbkpoaaAllx553s
import Derived.Test.YtmnhddedcbkpoaaAllx550s
import Derived.Test.YtmnhddedcbkpoaaAllx565s
import Derived.Lib.SliceRun
namespace Go.Proofs.Ytmnhddedcbkpoaa.All
open Go.Proofs.YtmnhddedcbkpoaaW.PrintWords.Aside0 renaming mk→zM
open Go.RowKit Go.Proofs.YtmnhddedcbkpoaaW.PrintWords Go.Proofs.YtmnhddedcbkpoaaW.PrintLast Go.Proofs.YtmnhddedcbkpoaaW.PrintMore
attribute [local go_sem] max2_int min2_int max_two min_two max_three min_three max_four min_four
set_option linter.unusedVariables false
set_option linter.unusedSimpArgs false
theorem ins_eq {α:Type} (a:α):∀ (i:Nat) (l:List α),i≤l.length→l.insertIdx i a=l.take i ++ a :: l.drop i
 | 0,l,_=>by simp
 | i+1,[],h=>by simp at h
 | i+1,x :: xs,h=>by
  rw[List.insertIdx_succ_cons,ins_eq a i xs (by simpa using h)]
  rfl
def preL (key:S25) (J:Nat) (l:List S25) (k:Nat):List S25:=if J < k then (l.take k).insertIdx J key else l.take k
theorem pre_len (key:S25) (J:Nat) (l:List S25) (k:Nat):(preL key J l k).length≤k+1:=by
 have h1:(l.take k).length≤k:=by rw[List.length_take];omega
 unfold preL
 split
 ·have:((l.take k).insertIdx J key).length≤(l.take k).length+1:=List.length_insertIdx_le_succ
  omega
 ·omega
theorem pre_late (key:S25) (J:Nat) (l:List S25) (k:Nat) (h:k < l.length) (hJ:J < k):preL key J l (k+1)=preL key J l k ++ [rd_T25 l (k:Int)]:=by
 rw[rd_get l k h]
 unfold preL
 have h1:(l.take k).length=k:=by rw[List.length_take];omega
 have h2:(l.take (k+1)).length=k+1:=by rw[List.length_take];omega
 rw[if_pos zq21,if_pos hJ,ins_eq key J _ zq21,ins_eq key J _ zq21,List.take_succ_eq_append_getElem h,List.take_append_of_le_length zq21,List.drop_append_of_le_length zq21]
 simp
theorem pre_early (key:S25) (J:Nat) (l:List S25) (k:Nat) (h:k < l.length) (hJ:k < J):preL key J l (k+1)=preL key J l k ++ [rd_T25 l (k:Int)]:=by
 rw[rd_get l k h]
 unfold preL
 rw[if_neg zq21,if_neg zq21,List.take_succ_eq_append_getElem h]
theorem pre_here (key:S25) (J:Nat) (l:List S25) (k:Nat) (h:k < l.length) (hJ:J=k):preL key J l (k+1)=(preL key J l k ++ [key]) ++ [rd_T25 l (k:Int)]:=by
 subst hJ
 rw[rd_get l J h]
 unfold preL
 have h1:(l.take J).length=J:=by rw[List.length_take];omega
 have h2:(l.take (J+1)).length=J+1:=by rw[List.length_take];omega
 rw[if_pos zq21,if_neg zq21,ins_eq key J _ zq21,List.take_succ_eq_append_getElem h,List.take_left' h1,List.drop_left' h1]
 simp
theorem pre_end_late (key:S25) (J:Nat) (l:List S25) (hJ:J < l.length):preL key J l l.length=l.insertIdx J key:=by
 unfold preL
 rw[if_pos hJ,List.take_length]
theorem pre_end_here (key:S25) (J:Nat) (l:List S25) (hJ:J=l.length):preL key J l l.length ++ [key]=l.insertIdx J key:=by
 subst hJ
 unfold preL
 rw[if_neg zq21,List.take_length,ins_eq key _ l (Nat.le_refl _),List.take_length,List.drop_length]
def gtL (id:Int):List S25→Nat
 | []=>0
 | x :: xs=>if id < x.f0 then 0 else gtL id xs+1
theorem gtL_le (id:Int):∀ l:List S25,gtL id l≤l.length
 | []=>Nat.le_refl 0
 | x :: xs=>by
  have:=gtL_le id xs
  simp only[gtL,List.length_cons]
  split <;> omega
theorem gtL_at (id:Int):∀ (l:List S25) (k:Nat) (h:k < l.length),k≤gtL id l→(id < (l[k]).f0 ↔ k=gtL id l)
 | [],k,h,_=>by simp at h
 | x :: xs,0,_,_=>by
  simp only[gtL,List.getElem_cons_zero]
  split
  ·rename_i h;exact⟨fun _=>rfl,fun _=>h⟩
  ·rename_i h;exact⟨fun h2=>absurd h2 h,fun h2=>by omega⟩
 | x :: xs,k+1,h,hk=>by
  simp only[gtL,List.getElem_cons_succ] at hk ⊢
  by_cases h1:id < x.f0
  ·rw[if_pos h1] at hk;omega
  ·rw[if_neg h1] at hk ⊢
   have:=gtL_at id xs k (by simpa using h) zq21
   rw[this];omega
theorem gtL_rd (id:Int) (l:List S25) (k:Nat) (h:k < l.length) (hk:k≤gtL id l):(id < (rd_T25 l (k:Int)).f0 ↔ k=gtL id l):=by
 rw[rd_get l k h]
 exact gtL_at id l k h hk
theorem S_split2 {W:World} {base:Nat} {go n c:Nat} {xs:List S25} (h:Kd.S k25 25 W base (fun _=>True) (.slice (some ⟨go,0,none⟩) n c) xs):∃ (f:Nat→Nat) (B0:Nat) (cur:Array Value),B0=W.heap.size∧go < B0∧W.heap[go]?=some (Obj.cells cur 25 (0,0))∧(Kd.tag f k25).R 25 W base (fun k=>k < B0) (.slice (some ⟨go,0,none⟩) n c) xs.zipIdx:=by
 obtain⟨f,h⟩:=h
 have h1:=Kd.R_mono (Kd.R_bound h) (ok':=fun k=>k < W.heap.size) (fun k hk=>hk.2.2.1)
 obtain⟨cur,hcur⟩:=Kd.R_typed h go rfl
 exact⟨f,W.heap.size,cur,rfl,h1.1 go rfl,hcur,h1⟩
theorem ins_box2 (g:Nat) (p:Int) (A:Option Addr) (n c:Nat) (W:World) (h:W.heap[g]?=some (.cells #[.int .i64 p,.slice A n c] 25 (0,0))):W.cell? ⟨g,0,none⟩=some (.int .i64 p)∧W.cell? ⟨g,1,none⟩=some (.slice A n c):=⟨(blk_cell h 0).trans rfl,(blk_cell h 1).trans rfl⟩
def spec_InstallKey.T18:Bool × List (List Nat × List Nat):=(true,[([],[]),([0],[0]),([],[]),([2],[2]),([],[]),([4],[4]),([5],[5]),([3,6],[3,6]),([7],[7]),([1,8,6],[1,8]),([0,1,2,3,4,5,6,7,8,9],[]),([10,9,9,0,1,2,3,4,5,6,7,8,9],[9,10])])
def spec_InstallKey.B18:List Nat:=[0,1,0,4,0,16,48,124,252,511,1023,2047]
theorem spec_InstallKey.tab18:rtab .any (opsOf Try.f47 18)=spec_InstallKey.T18:=by kernel_rfl
theorem spec_InstallKey.bits18:waitsOk spec_InstallKey.T18.2 spec_InstallKey.B18=true:=by kernel_rfl
def spec_InstallKey.T20:Bool × List (List Nat × List Nat):=(true,[([],[]),([0],[0]),([],[]),([2],[2]),([],[]),([3,4],[3,4]),([5],[5]),([6],[6]),([1,7],[1,7]),([0,1,2,3,4,5,6,7,8],[]),([9,8,8,0,1,2,3,4,5,6,7,8],[8,9])])
def spec_InstallKey.B20:List Nat:=[0,1,0,4,0,28,60,124,255,511,1023]
theorem spec_InstallKey.tab20:rtab .any (opsOf Try.f47 20)=spec_InstallKey.T20:=by kernel_rfl
theorem spec_InstallKey.bits20:waitsOk spec_InstallKey.T20.2 spec_InstallKey.B20=true:=by kernel_rfl
def spec_InstallKey.T22:Bool × List (List Nat × List Nat):=(true,[([],[]),([0],[0]),([],[]),([2],[2]),([],[]),([4],[4]),([5],[5]),([3,6],[3,6]),([7],[7]),([1,8,6],[1,8]),([0,1,2,3,4,5,6,7,8,9],[]),([10,9,9,0,1,2,3,4,5,6,7,8,9],[9,10])])
def spec_InstallKey.B22:List Nat:=[0,1,0,4,0,16,48,124,252,511,1023,2047]
theorem spec_InstallKey.tab22:rtab .any (opsOf Try.f47 22)=spec_InstallKey.T22:=by kernel_rfl
theorem spec_InstallKey.bits22:waitsOk spec_InstallKey.T22.2 spec_InstallKey.B22=true:=by kernel_rfl
def spec_InstallKey.f (a0_0:Int) (l0_1:List S25) (a1_0:Int) (l1_1:List Int):Option (Int × Int × List S25):=if okL l0_1∧l1_1.length < 1000000000000 then (if ringFaultL a0_0 l0_1=0 then (if keyC a1_0 l1_1.length=0 then (if 0≤placeL a1_0 l0_1 0 then some (6,0,[]) else if 3≤l0_1.length then some (7,0,[]) else if 0 < l0_1.length then some (0,a0_0,l0_1.insertIdx (gtL a1_0 l0_1) ⟨a1_0,l1_1⟩) else none) else some (keyC a1_0 l1_1.length,0,[])) else some (ringFaultL a0_0 l0_1,0,[])) else none
set_option maxHeartbeats 4000000 in
set_option maxRecDepth 100000 in
theorem spec_InstallKey.w6 (a0_0:Int) (A0_1:Option Addr) (c0_1:Nat) (l0_1:List S25) (a1_0:Int) (A1_1:Option Addr) (c1_1:Nat) (l1_1:List Int) (w:World) (HR:Aside0 (Kd.C k25 w A0_1 l0_1.length l0_1)) (HC:Aside0 (l0_1.length≤c0_1)) (HRK:Aside0 (Kd.C (Kd.int .u8) w A1_1 l1_1.length l1_1)) (HCK:Aside0 (l1_1.length≤c1_1)) (HB:Aside0 (Below w.heap.size w w)) (HSC:Aside0 (spec_l1Copy.f l1_1=some l1_1)) (HM:Aside0 (okL l0_1)) (HLM:Aside0 (l0_1.length < 1000000000000)) (HLB:Aside0 (l0_1.length < 140737488355328)) (q:Int) (HF:Aside0 (spec_RingFault.f a0_0 l0_1=some 0)) (HU:Aside0 (keyC a1_0 l1_1.length=0)) (HQ:Aside0 (placeL a1_0 l0_1 0=q)) (hd:decide (0≤q)=true) :
  Calls Try.prog 47 #[.agg #[.int .i64 a0_0,.slice A0_1 l0_1.length c0_1],.agg #[.int .i64 a1_0,.slice A1_1 l1_1.length c1_1]] w fun e w'=>∃ v2_:Value,e=.returned (.agg #[.int .i64 6,.int .i64 0,v2_])∧Kd.S k25 25 w' w.heap.size (fun _=>True) v2_ ([]:List S25)∧Below w.heap.size w w':=by
 go_enter Try.func47,Try.ntmps47
 go_wp2_with (first
   | ((with_reducible refine gate_dst (N:=2) rfl ?_);refine box_event ?hg (N:=2) ?hd (cs:=#[.int .i64 a0_0,.slice A0_1 l0_1.length c0_1]) (t:=29) ?hr ?_;(case hd=>rfl);(case hg=>rfl);(case hr=>first|(go_simp;done)|(go_simp;rfl));intro g2 hg w2 hbox hb;have n0_:=zM (below_step zq0 hb);have n1_:=zM hbox;have n2_:=zM (by rw[hg];exact below_size zq0:w.heap.size≤g2);clear HB;have HB:=n0_;have BK2:=n1_;have GE2:=n2_;clear n0_ n1_ n2_;clear hb hbox hg;(try clear hr0 hr1);have hr9:=ringFault_box _ _ _ _ _ _ BK2.out;obtain⟨hr0,hr1⟩:=hr9)
   | ((with_reducible refine gate_dst (N:=3) rfl ?_);refine box_event ?hg (N:=3) ?hd (cs:=#[.int .i64 a1_0,.slice A1_1 l1_1.length c1_1]) (t:=25) ?hr ?_;(case hd=>rfl);(case hg=>rfl);(case hr=>first|(go_simp;done)|(go_simp;rfl));intro g3 hg w3 hbox hb;have n0_:=zM (below_step zq0 hb);have n1_:=zM (blk_below (g:=g2) (o:=.cells #[.int .i64 a0_0,.slice A0_1 l0_1.length c0_1] 29 (0,0)) zq1 hb);have n2_:=zM hbox;have n3_:=zM (by rw[hg];exact below_size zq0:w.heap.size≤g3);clear HB BK2;have HB:=n0_;have BK2:=n1_;have BK3:=n2_;have GE3:=n3_;clear n0_ n1_ n2_ n3_;clear hb hbox hg;(try clear hr0 hr1);have hr9:=ringFault_box _ _ _ _ _ _ BK2.out;obtain⟨hr0,hr1⟩:=hr9;(try clear hk0 hk1);have hk9:=ins_box2 _ _ _ _ _ _ BK3.out;obtain⟨hk0,hk1⟩:=hk9)
   | ((with_reducible refine gate_dst (N:=4) rfl ?_);refine box_event ?hg (N:=4) ?hd (cs:=#[.int .i64 0,.int .i64 0,.slice none 0 0]) (t:=31) ?hr ?_;(case hd=>rfl);(case hg=>rfl);(case hr=>first|(go_simp;done)|(go_simp;rfl));intro g4 hg w4 hbox hb;have n0_:=zM (below_step zq0 hb);have n1_:=zM (blk_below (g:=g2) (o:=.cells #[.int .i64 a0_0,.slice A0_1 l0_1.length c0_1] 29 (0,0)) zq1 hb);have n2_:=zM (blk_below (g:=g3) (o:=.cells #[.int .i64 a1_0,.slice A1_1 l1_1.length c1_1] 25 (0,0)) zq3 hb);have n3_:=zM hbox;have n4_:=zM (by rw[hg];exact below_size zq0:w.heap.size≤g4);clear HB BK2 BK3;have HB:=n0_;have BK2:=n1_;have BK3:=n2_;have BK4:=n3_;have GE4:=n4_;clear n0_ n1_ n2_ n3_ n4_;clear hb hbox hg;(try clear hr0 hr1);have hr9:=ringFault_box _ _ _ _ _ _ BK2.out;obtain⟨hr0,hr1⟩:=hr9;(try clear hk0 hk1);have hk9:=ins_box2 _ _ _ _ _ _ BK3.out;obtain⟨hk0,hk1⟩:=hk9)
   | (go_at_call 37;refine(spec_RingFault.calls a0_0 A0_1 c0_1 l0_1 0 _ (Kd.C_below HR.out zq0) HC.out HF.out).mono ?_;rintro e wk ⟨rfl,hb⟩;have n0_:=zM (below_step zq0 hb);have n1_:=zM (blk_below (g:=g2) (o:=.cells #[.int .i64 a0_0,.slice A0_1 l0_1.length c0_1] 29 (0,0)) zq1 hb);have n2_:=zM (blk_below (g:=g3) (o:=.cells #[.int .i64 a1_0,.slice A1_1 l1_1.length c1_1] 25 (0,0)) zq3 hb);have n3_:=zM (blk_below (g:=g4) (o:=.cells #[.int .i64 0,.int .i64 0,.slice none 0 0] 31 (0,0)) zq2 hb);clear HB BK2 BK3 BK4;have HB:=n0_;have BK2:=n1_;have BK3:=n2_;have BK4:=n3_;clear n0_ n1_ n2_ n3_;clear hb;(try clear hr0 hr1);have hr9:=ringFault_box _ _ _ _ _ _ BK2.out;obtain⟨hr0,hr1⟩:=hr9;(try clear hk0 hk1);have hk9:=ins_box2 _ _ _ _ _ _ BK3.out;obtain⟨hk0,hk1⟩:=hk9)
   | (go_at_call 83;refine(l4Key_as ⟨g3,0,none⟩ a1_0 A1_1 l1_1.length c1_1 0 HU.out _ (by exact hk0) (by exact hk1)).mono ?_;rintro e wk ⟨rfl,hb⟩;have n0_:=zM (below_step zq0 hb);have n1_:=zM (blk_below (g:=g2) (o:=.cells #[.int .i64 a0_0,.slice A0_1 l0_1.length c0_1] 29 (0,0)) zq1 hb);have n2_:=zM (blk_below (g:=g3) (o:=.cells #[.int .i64 a1_0,.slice A1_1 l1_1.length c1_1] 25 (0,0)) zq3 hb);have n3_:=zM (blk_below (g:=g4) (o:=.cells #[.int .i64 0,.int .i64 0,.slice none 0 0] 31 (0,0)) zq2 hb);clear HB BK2 BK3 BK4;have HB:=n0_;have BK2:=n1_;have BK3:=n2_;have BK4:=n3_;clear n0_ n1_ n2_ n3_;clear hb;(try clear hr0 hr1);have hr9:=ringFault_box _ _ _ _ _ _ BK2.out;obtain⟨hr0,hr1⟩:=hr9;(try clear hk0 hk1);have hk9:=ins_box2 _ _ _ _ _ _ BK3.out;obtain⟨hk0,hk1⟩:=hk9)
   | (go_at_call 84;refine(l4Find_as a1_0 a0_0 A0_1 c0_1 g2 l0_1 q HQ.out _ zq1 (Kd.C_below HR.out zq0) HLB.out).mono ?_;rintro e wk ⟨rfl,hb⟩;have n0_:=zM (below_step zq0 hb);have n1_:=zM (blk_below (g:=g2) (o:=.cells #[.int .i64 a0_0,.slice A0_1 l0_1.length c0_1] 29 (0,0)) zq1 hb);have n2_:=zM (blk_below (g:=g3) (o:=.cells #[.int .i64 a1_0,.slice A1_1 l1_1.length c1_1] 25 (0,0)) zq3 hb);have n3_:=zM (blk_below (g:=g4) (o:=.cells #[.int .i64 0,.int .i64 0,.slice none 0 0] 31 (0,0)) zq2 hb);clear HB BK2 BK3 BK4;have HB:=n0_;have BK2:=n1_;have BK3:=n2_;have BK4:=n3_;clear n0_ n1_ n2_ n3_;clear hb;(try clear hr0 hr1);have hr9:=ringFault_box _ _ _ _ _ _ BK2.out;obtain⟨hr0,hr1⟩:=hr9;(try clear hk0 hk1);have hk9:=ins_box2 _ _ _ _ _ _ BK3.out;obtain⟨hk0,hk1⟩:=hk9)
   | ((with_reducible refine gate_store (t:=31) (p:=4) rfl ?_);refine row_event ?hg (ty:=31) (p:=4) (y:=?yo_152) ?ho ?hn (g:=g4) (old:=#[.int .i64 0,.int .i64 0,.slice none 0 0]) (e:=31) (cells:=#[.int .i64 6,.int .i64 0,.slice none 0 0]) ?hx ?hy ?hk ?hi ?hd ?h1 ?_;(case ho=>rfl);(case hg=>rfl);(case hn=>rfl);(case hx=>rfl);(case hy=>rfl);(case hk=>exact zq2);(case hi=>kernel_rfl);(case hd=>rfl);(case h1=>exact zq63);intro wr_ hbk hgr;have n0_:=zM (below_grown1 zq0 hgr GE4.out);have n1_:=zM (blk_grown1 (g':=g2) (ob:=.cells #[.int .i64 a0_0,.slice A0_1 l0_1.length c0_1] 29 (0,0)) zq1 hgr (blk_ne zq1 zq2 zq17));have n2_:=zM (blk_grown1 (g':=g3) (ob:=.cells #[.int .i64 a1_0,.slice A1_1 l1_1.length c1_1] 25 (0,0)) zq3 hgr (blk_ne zq3 zq2 zq17));have n3_:=zM hbk;clear HB BK2 BK3 BK4;have HB:=n0_;have BK2:=n1_;have BK3:=n2_;have BK4:=n3_;clear n0_ n1_ n2_ n3_;clear hbk hgr))
 refine bodyPost_ret (results_cell_row rfl _ _ g4 31 #[.int .i64 6,.int .i64 0,.slice none 0 0] (0,0) _ rfl zq2 Try.underlying31 rfl (by kernel_rfl)) rfl ?_
 exact⟨_,rfl,Kd.S_nil _ _ _ _ _,HB.out⟩
set_option maxHeartbeats 4000000 in
set_option maxRecDepth 100000 in
theorem spec_InstallKey.w7 (a0_0:Int) (A0_1:Option Addr) (c0_1:Nat) (l0_1:List S25) (a1_0:Int) (A1_1:Option Addr) (c1_1:Nat) (l1_1:List Int) (w:World) (HR:Aside0 (Kd.C k25 w A0_1 l0_1.length l0_1)) (HC:Aside0 (l0_1.length≤c0_1)) (HRK:Aside0 (Kd.C (Kd.int .u8) w A1_1 l1_1.length l1_1)) (HCK:Aside0 (l1_1.length≤c1_1)) (HB:Aside0 (Below w.heap.size w w)) (HSC:Aside0 (spec_l1Copy.f l1_1=some l1_1)) (HM:Aside0 (okL l0_1)) (HLM:Aside0 (l0_1.length < 1000000000000)) (HLB:Aside0 (l0_1.length < 140737488355328)) (q:Int) (HF:Aside0 (spec_RingFault.f a0_0 l0_1=some 0)) (HU:Aside0 (keyC a1_0 l1_1.length=0)) (HQ:Aside0 (placeL a1_0 l0_1 0=q)) (hd:decide (0≤q)=false) (hd3:decide (3≤l0_1.length)=true) (hd4:decide ((3:Int)≤(l0_1.length:Int))=true) :
  Calls Try.prog 47 #[.agg #[.int .i64 a0_0,.slice A0_1 l0_1.length c0_1],.agg #[.int .i64 a1_0,.slice A1_1 l1_1.length c1_1]] w fun e w'=>∃ v2_:Value,e=.returned (.agg #[.int .i64 7,.int .i64 0,v2_])∧Kd.S k25 25 w' w.heap.size (fun _=>True) v2_ ([]:List S25)∧Below w.heap.size w w':=by
 go_enter Try.func47,Try.ntmps47
 go_wp2_with (first
   | ((with_reducible refine gate_dst (N:=2) rfl ?_);refine box_event ?hg (N:=2) ?hd (cs:=#[.int .i64 a0_0,.slice A0_1 l0_1.length c0_1]) (t:=29) ?hr ?_;(case hd=>rfl);(case hg=>rfl);(case hr=>first|(go_simp;done)|(go_simp;rfl));intro g2 hg w2 hbox hb;have n0_:=zM (below_step zq0 hb);have n1_:=zM hbox;have n2_:=zM (by rw[hg];exact below_size zq0:w.heap.size≤g2);clear HB;have HB:=n0_;have BK2:=n1_;have GE2:=n2_;clear n0_ n1_ n2_;clear hb hbox hg;(try clear hr0 hr1);have hr9:=ringFault_box _ _ _ _ _ _ BK2.out;obtain⟨hr0,hr1⟩:=hr9)
   | ((with_reducible refine gate_dst (N:=3) rfl ?_);refine box_event ?hg (N:=3) ?hd (cs:=#[.int .i64 a1_0,.slice A1_1 l1_1.length c1_1]) (t:=25) ?hr ?_;(case hd=>rfl);(case hg=>rfl);(case hr=>first|(go_simp;done)|(go_simp;rfl));intro g3 hg w3 hbox hb;have n0_:=zM (below_step zq0 hb);have n1_:=zM (blk_below (g:=g2) (o:=.cells #[.int .i64 a0_0,.slice A0_1 l0_1.length c0_1] 29 (0,0)) zq1 hb);have n2_:=zM hbox;have n3_:=zM (by rw[hg];exact below_size zq0:w.heap.size≤g3);clear HB BK2;have HB:=n0_;have BK2:=n1_;have BK3:=n2_;have GE3:=n3_;clear n0_ n1_ n2_ n3_;clear hb hbox hg;(try clear hr0 hr1);have hr9:=ringFault_box _ _ _ _ _ _ BK2.out;obtain⟨hr0,hr1⟩:=hr9;(try clear hk0 hk1);have hk9:=ins_box2 _ _ _ _ _ _ BK3.out;obtain⟨hk0,hk1⟩:=hk9)
   | ((with_reducible refine gate_dst (N:=4) rfl ?_);refine box_event ?hg (N:=4) ?hd (cs:=#[.int .i64 0,.int .i64 0,.slice none 0 0]) (t:=31) ?hr ?_;(case hd=>rfl);(case hg=>rfl);(case hr=>first|(go_simp;done)|(go_simp;rfl));intro g4 hg w4 hbox hb;have n0_:=zM (below_step zq0 hb);have n1_:=zM (blk_below (g:=g2) (o:=.cells #[.int .i64 a0_0,.slice A0_1 l0_1.length c0_1] 29 (0,0)) zq1 hb);have n2_:=zM (blk_below (g:=g3) (o:=.cells #[.int .i64 a1_0,.slice A1_1 l1_1.length c1_1] 25 (0,0)) zq3 hb);have n3_:=zM hbox;have n4_:=zM (by rw[hg];exact below_size zq0:w.heap.size≤g4);clear HB BK2 BK3;have HB:=n0_;have BK2:=n1_;have BK3:=n2_;have BK4:=n3_;have GE4:=n4_;clear n0_ n1_ n2_ n3_ n4_;clear hb hbox hg;(try clear hr0 hr1);have hr9:=ringFault_box _ _ _ _ _ _ BK2.out;obtain⟨hr0,hr1⟩:=hr9;(try clear hk0 hk1);have hk9:=ins_box2 _ _ _ _ _ _ BK3.out;obtain⟨hk0,hk1⟩:=hk9)
   | (go_at_call 37;refine(spec_RingFault.calls a0_0 A0_1 c0_1 l0_1 0 _ (Kd.C_below HR.out zq0) HC.out HF.out).mono ?_;rintro e wk ⟨rfl,hb⟩;have n0_:=zM (below_step zq0 hb);have n1_:=zM (blk_below (g:=g2) (o:=.cells #[.int .i64 a0_0,.slice A0_1 l0_1.length c0_1] 29 (0,0)) zq1 hb);have n2_:=zM (blk_below (g:=g3) (o:=.cells #[.int .i64 a1_0,.slice A1_1 l1_1.length c1_1] 25 (0,0)) zq3 hb);have n3_:=zM (blk_below (g:=g4) (o:=.cells #[.int .i64 0,.int .i64 0,.slice none 0 0] 31 (0,0)) zq2 hb);clear HB BK2 BK3 BK4;have HB:=n0_;have BK2:=n1_;have BK3:=n2_;have BK4:=n3_;clear n0_ n1_ n2_ n3_;clear hb;(try clear hr0 hr1);have hr9:=ringFault_box _ _ _ _ _ _ BK2.out;obtain⟨hr0,hr1⟩:=hr9;(try clear hk0 hk1);have hk9:=ins_box2 _ _ _ _ _ _ BK3.out;obtain⟨hk0,hk1⟩:=hk9)
   | (go_at_call 83;refine(l4Key_as ⟨g3,0,none⟩ a1_0 A1_1 l1_1.length c1_1 0 HU.out _ (by exact hk0) (by exact hk1)).mono ?_;rintro e wk ⟨rfl,hb⟩;have n0_:=zM (below_step zq0 hb);have n1_:=zM (blk_below (g:=g2) (o:=.cells #[.int .i64 a0_0,.slice A0_1 l0_1.length c0_1] 29 (0,0)) zq1 hb);have n2_:=zM (blk_below (g:=g3) (o:=.cells #[.int .i64 a1_0,.slice A1_1 l1_1.length c1_1] 25 (0,0)) zq3 hb);have n3_:=zM (blk_below (g:=g4) (o:=.cells #[.int .i64 0,.int .i64 0,.slice none 0 0] 31 (0,0)) zq2 hb);clear HB BK2 BK3 BK4;have HB:=n0_;have BK2:=n1_;have BK3:=n2_;have BK4:=n3_;clear n0_ n1_ n2_ n3_;clear hb;(try clear hr0 hr1);have hr9:=ringFault_box _ _ _ _ _ _ BK2.out;obtain⟨hr0,hr1⟩:=hr9;(try clear hk0 hk1);have hk9:=ins_box2 _ _ _ _ _ _ BK3.out;obtain⟨hk0,hk1⟩:=hk9)
   | (go_at_call 84;refine(l4Find_as a1_0 a0_0 A0_1 c0_1 g2 l0_1 q HQ.out _ zq1 (Kd.C_below HR.out zq0) HLB.out).mono ?_;rintro e wk ⟨rfl,hb⟩;have n0_:=zM (below_step zq0 hb);have n1_:=zM (blk_below (g:=g2) (o:=.cells #[.int .i64 a0_0,.slice A0_1 l0_1.length c0_1] 29 (0,0)) zq1 hb);have n2_:=zM (blk_below (g:=g3) (o:=.cells #[.int .i64 a1_0,.slice A1_1 l1_1.length c1_1] 25 (0,0)) zq3 hb);have n3_:=zM (blk_below (g:=g4) (o:=.cells #[.int .i64 0,.int .i64 0,.slice none 0 0] 31 (0,0)) zq2 hb);clear HB BK2 BK3 BK4;have HB:=n0_;have BK2:=n1_;have BK3:=n2_;have BK4:=n3_;clear n0_ n1_ n2_ n3_;clear hb;(try clear hr0 hr1);have hr9:=ringFault_box _ _ _ _ _ _ BK2.out;obtain⟨hr0,hr1⟩:=hr9;(try clear hk0 hk1);have hk9:=ins_box2 _ _ _ _ _ _ BK3.out;obtain⟨hk0,hk1⟩:=hk9)
   | ((with_reducible refine gate_store (t:=31) (p:=4) rfl ?_);refine row_event ?hg (ty:=31) (p:=4) (y:=?yo_159) ?ho ?hn (g:=g4) (old:=#[.int .i64 0,.int .i64 0,.slice none 0 0]) (e:=31) (cells:=#[.int .i64 7,.int .i64 0,.slice none 0 0]) ?hx ?hy ?hk ?hi ?hd ?h1 ?_;(case ho=>rfl);(case hg=>rfl);(case hn=>rfl);(case hx=>rfl);(case hy=>rfl);(case hk=>exact zq2);(case hi=>kernel_rfl);(case hd=>rfl);(case h1=>exact zq63);intro wr_ hbk hgr;have n0_:=zM (below_grown1 zq0 hgr GE4.out);have n1_:=zM (blk_grown1 (g':=g2) (ob:=.cells #[.int .i64 a0_0,.slice A0_1 l0_1.length c0_1] 29 (0,0)) zq1 hgr (blk_ne zq1 zq2 zq17));have n2_:=zM (blk_grown1 (g':=g3) (ob:=.cells #[.int .i64 a1_0,.slice A1_1 l1_1.length c1_1] 25 (0,0)) zq3 hgr (blk_ne zq3 zq2 zq17));have n3_:=zM hbk;clear HB BK2 BK3 BK4;have HB:=n0_;have BK2:=n1_;have BK3:=n2_;have BK4:=n3_;clear n0_ n1_ n2_ n3_;clear hbk hgr))
 refine bodyPost_ret (results_cell_row rfl _ _ g4 31 #[.int .i64 7,.int .i64 0,.slice none 0 0] (0,0) _ rfl zq2 Try.underlying31 rfl (by kernel_rfl)) rfl ?_
 exact⟨_,rfl,Kd.S_nil _ _ _ _ _,HB.out⟩
set_option maxHeartbeats 4000000 in
set_option maxRecDepth 100000 in
theorem spec_InstallKey.wu (a0_0:Int) (A0_1:Option Addr) (c0_1:Nat) (l0_1:List S25) (a1_0:Int) (A1_1:Option Addr) (c1_1:Nat) (l1_1:List Int) (w:World) (HR:Aside0 (Kd.C k25 w A0_1 l0_1.length l0_1)) (HC:Aside0 (l0_1.length≤c0_1)) (HRK:Aside0 (Kd.C (Kd.int .u8) w A1_1 l1_1.length l1_1)) (HCK:Aside0 (l1_1.length≤c1_1)) (HB:Aside0 (Below w.heap.size w w)) (HSC:Aside0 (spec_l1Copy.f l1_1=some l1_1)) (HM:Aside0 (okL l0_1)) (HLM:Aside0 (l0_1.length < 1000000000000)) (HLB:Aside0 (l0_1.length < 140737488355328)) (u:Int) (HF:Aside0 (spec_RingFault.f a0_0 l0_1=some 0)) (HU:Aside0 (keyC a1_0 l1_1.length=u)) (hu1:(u == 0)=false) (hu2:(u != 0)=true) :
  Calls Try.prog 47 #[.agg #[.int .i64 a0_0,.slice A0_1 l0_1.length c0_1],.agg #[.int .i64 a1_0,.slice A1_1 l1_1.length c1_1]] w fun e w'=>∃ v2_:Value,e=.returned (.agg #[.int .i64 u,.int .i64 0,v2_])∧Kd.S k25 25 w' w.heap.size (fun _=>True) v2_ ([]:List S25)∧Below w.heap.size w w':=by
 go_enter Try.func47,Try.ntmps47
 go_wp2_with (first
   | ((with_reducible refine gate_dst (N:=2) rfl ?_);refine box_event ?hg (N:=2) ?hd (cs:=#[.int .i64 a0_0,.slice A0_1 l0_1.length c0_1]) (t:=29) ?hr ?_;(case hd=>rfl);(case hg=>rfl);(case hr=>first|(go_simp;done)|(go_simp;rfl));intro g2 hg w2 hbox hb;have n0_:=zM (below_step zq0 hb);have n1_:=zM hbox;have n2_:=zM (by rw[hg];exact below_size zq0:w.heap.size≤g2);clear HB;have HB:=n0_;have BK2:=n1_;have GE2:=n2_;clear n0_ n1_ n2_;clear hb hbox hg;(try clear hr0 hr1);have hr9:=ringFault_box _ _ _ _ _ _ BK2.out;obtain⟨hr0,hr1⟩:=hr9)
   | ((with_reducible refine gate_dst (N:=3) rfl ?_);refine box_event ?hg (N:=3) ?hd (cs:=#[.int .i64 a1_0,.slice A1_1 l1_1.length c1_1]) (t:=25) ?hr ?_;(case hd=>rfl);(case hg=>rfl);(case hr=>first|(go_simp;done)|(go_simp;rfl));intro g3 hg w3 hbox hb;have n0_:=zM (below_step zq0 hb);have n1_:=zM (blk_below (g:=g2) (o:=.cells #[.int .i64 a0_0,.slice A0_1 l0_1.length c0_1] 29 (0,0)) zq1 hb);have n2_:=zM hbox;have n3_:=zM (by rw[hg];exact below_size zq0:w.heap.size≤g3);clear HB BK2;have HB:=n0_;have BK2:=n1_;have BK3:=n2_;have GE3:=n3_;clear n0_ n1_ n2_ n3_;clear hb hbox hg;(try clear hr0 hr1);have hr9:=ringFault_box _ _ _ _ _ _ BK2.out;obtain⟨hr0,hr1⟩:=hr9;(try clear hk0 hk1);have hk9:=ins_box2 _ _ _ _ _ _ BK3.out;obtain⟨hk0,hk1⟩:=hk9)
   | ((with_reducible refine gate_dst (N:=4) rfl ?_);refine box_event ?hg (N:=4) ?hd (cs:=#[.int .i64 0,.int .i64 0,.slice none 0 0]) (t:=31) ?hr ?_;(case hd=>rfl);(case hg=>rfl);(case hr=>first|(go_simp;done)|(go_simp;rfl));intro g4 hg w4 hbox hb;have n0_:=zM (below_step zq0 hb);have n1_:=zM (blk_below (g:=g2) (o:=.cells #[.int .i64 a0_0,.slice A0_1 l0_1.length c0_1] 29 (0,0)) zq1 hb);have n2_:=zM (blk_below (g:=g3) (o:=.cells #[.int .i64 a1_0,.slice A1_1 l1_1.length c1_1] 25 (0,0)) zq3 hb);have n3_:=zM hbox;have n4_:=zM (by rw[hg];exact below_size zq0:w.heap.size≤g4);clear HB BK2 BK3;have HB:=n0_;have BK2:=n1_;have BK3:=n2_;have BK4:=n3_;have GE4:=n4_;clear n0_ n1_ n2_ n3_ n4_;clear hb hbox hg;(try clear hr0 hr1);have hr9:=ringFault_box _ _ _ _ _ _ BK2.out;obtain⟨hr0,hr1⟩:=hr9;(try clear hk0 hk1);have hk9:=ins_box2 _ _ _ _ _ _ BK3.out;obtain⟨hk0,hk1⟩:=hk9)
   | (go_at_call 37;refine(spec_RingFault.calls a0_0 A0_1 c0_1 l0_1 0 _ (Kd.C_below HR.out zq0) HC.out HF.out).mono ?_;rintro e wk ⟨rfl,hb⟩;have n0_:=zM (below_step zq0 hb);have n1_:=zM (blk_below (g:=g2) (o:=.cells #[.int .i64 a0_0,.slice A0_1 l0_1.length c0_1] 29 (0,0)) zq1 hb);have n2_:=zM (blk_below (g:=g3) (o:=.cells #[.int .i64 a1_0,.slice A1_1 l1_1.length c1_1] 25 (0,0)) zq3 hb);have n3_:=zM (blk_below (g:=g4) (o:=.cells #[.int .i64 0,.int .i64 0,.slice none 0 0] 31 (0,0)) zq2 hb);clear HB BK2 BK3 BK4;have HB:=n0_;have BK2:=n1_;have BK3:=n2_;have BK4:=n3_;clear n0_ n1_ n2_ n3_;clear hb;(try clear hr0 hr1);have hr9:=ringFault_box _ _ _ _ _ _ BK2.out;obtain⟨hr0,hr1⟩:=hr9;(try clear hk0 hk1);have hk9:=ins_box2 _ _ _ _ _ _ BK3.out;obtain⟨hk0,hk1⟩:=hk9)
   | (go_at_call 83;refine(l4Key_as ⟨g3,0,none⟩ a1_0 A1_1 l1_1.length c1_1 u HU.out _ (by exact hk0) (by exact hk1)).mono ?_;rintro e wk ⟨rfl,hb⟩;have n0_:=zM (below_step zq0 hb);have n1_:=zM (blk_below (g:=g2) (o:=.cells #[.int .i64 a0_0,.slice A0_1 l0_1.length c0_1] 29 (0,0)) zq1 hb);have n2_:=zM (blk_below (g:=g3) (o:=.cells #[.int .i64 a1_0,.slice A1_1 l1_1.length c1_1] 25 (0,0)) zq3 hb);have n3_:=zM (blk_below (g:=g4) (o:=.cells #[.int .i64 0,.int .i64 0,.slice none 0 0] 31 (0,0)) zq2 hb);clear HB BK2 BK3 BK4;have HB:=n0_;have BK2:=n1_;have BK3:=n2_;have BK4:=n3_;clear n0_ n1_ n2_ n3_;clear hb;(try clear hr0 hr1);have hr9:=ringFault_box _ _ _ _ _ _ BK2.out;obtain⟨hr0,hr1⟩:=hr9;(try clear hk0 hk1);have hk9:=ins_box2 _ _ _ _ _ _ BK3.out;obtain⟨hk0,hk1⟩:=hk9)
   | ((with_reducible refine gate_store (t:=31) (p:=4) rfl ?_);refine row_event ?hg (ty:=31) (p:=4) (y:=?yo_165) ?ho ?hn (g:=g4) (old:=#[.int .i64 0,.int .i64 0,.slice none 0 0]) (e:=31) (cells:=#[.int .i64 u,.int .i64 0,.slice none 0 0]) ?hx ?hy ?hk ?hi ?hd ?h1 ?_;(case ho=>rfl);(case hg=>rfl);(case hn=>rfl);(case hx=>rfl);(case hy=>rfl);(case hk=>exact zq2);(case hi=>kernel_rfl);(case hd=>rfl);(case h1=>exact zq63);intro wr_ hbk hgr;have n0_:=zM (below_grown1 zq0 hgr GE4.out);have n1_:=zM (blk_grown1 (g':=g2) (ob:=.cells #[.int .i64 a0_0,.slice A0_1 l0_1.length c0_1] 29 (0,0)) zq1 hgr (blk_ne zq1 zq2 zq17));have n2_:=zM (blk_grown1 (g':=g3) (ob:=.cells #[.int .i64 a1_0,.slice A1_1 l1_1.length c1_1] 25 (0,0)) zq3 hgr (blk_ne zq3 zq2 zq17));have n3_:=zM hbk;clear HB BK2 BK3 BK4;have HB:=n0_;have BK2:=n1_;have BK3:=n2_;have BK4:=n3_;clear n0_ n1_ n2_ n3_;clear hbk hgr))
 refine bodyPost_ret (results_cell_row rfl _ _ g4 31 #[.int .i64 u,.int .i64 0,.slice none 0 0] (0,0) _ rfl zq2 Try.underlying31 rfl (by kernel_rfl)) rfl ?_
 exact⟨_,rfl,Kd.S_nil _ _ _ _ _,HB.out⟩
set_option maxHeartbeats 4000000 in
set_option maxRecDepth 100000 in
theorem spec_InstallKey.wt (a0_0:Int) (A0_1:Option Addr) (c0_1:Nat) (l0_1:List S25) (a1_0:Int) (A1_1:Option Addr) (c1_1:Nat) (l1_1:List Int) (w:World) (HR:Aside0 (Kd.C k25 w A0_1 l0_1.length l0_1)) (HC:Aside0 (l0_1.length≤c0_1)) (HRK:Aside0 (Kd.C (Kd.int .u8) w A1_1 l1_1.length l1_1)) (HCK:Aside0 (l1_1.length≤c1_1)) (HB:Aside0 (Below w.heap.size w w)) (HSC:Aside0 (spec_l1Copy.f l1_1=some l1_1)) (HM:Aside0 (okL l0_1)) (HLM:Aside0 (l0_1.length < 1000000000000)) (HLB:Aside0 (l0_1.length < 140737488355328)) (t:Int) (HF:Aside0 (spec_RingFault.f a0_0 l0_1=some t)) (ht1:(t == 0)=false) (ht2:(t != 0)=true) :
  Calls Try.prog 47 #[.agg #[.int .i64 a0_0,.slice A0_1 l0_1.length c0_1],.agg #[.int .i64 a1_0,.slice A1_1 l1_1.length c1_1]] w fun e w'=>∃ v2_:Value,e=.returned (.agg #[.int .i64 t,.int .i64 0,v2_])∧Kd.S k25 25 w' w.heap.size (fun _=>True) v2_ ([]:List S25)∧Below w.heap.size w w':=by
 go_enter Try.func47,Try.ntmps47
 go_wp2_with (first
   | ((with_reducible refine gate_dst (N:=2) rfl ?_);refine box_event ?hg (N:=2) ?hd (cs:=#[.int .i64 a0_0,.slice A0_1 l0_1.length c0_1]) (t:=29) ?hr ?_;(case hd=>rfl);(case hg=>rfl);(case hr=>first|(go_simp;done)|(go_simp;rfl));intro g2 hg w2 hbox hb;have n0_:=zM (below_step zq0 hb);have n1_:=zM hbox;have n2_:=zM (by rw[hg];exact below_size zq0:w.heap.size≤g2);clear HB;have HB:=n0_;have BK2:=n1_;have GE2:=n2_;clear n0_ n1_ n2_;clear hb hbox hg;(try clear hr0 hr1);have hr9:=ringFault_box _ _ _ _ _ _ BK2.out;obtain⟨hr0,hr1⟩:=hr9)
   | ((with_reducible refine gate_dst (N:=3) rfl ?_);refine box_event ?hg (N:=3) ?hd (cs:=#[.int .i64 a1_0,.slice A1_1 l1_1.length c1_1]) (t:=25) ?hr ?_;(case hd=>rfl);(case hg=>rfl);(case hr=>first|(go_simp;done)|(go_simp;rfl));intro g3 hg w3 hbox hb;have n0_:=zM (below_step zq0 hb);have n1_:=zM (blk_below (g:=g2) (o:=.cells #[.int .i64 a0_0,.slice A0_1 l0_1.length c0_1] 29 (0,0)) zq1 hb);have n2_:=zM hbox;have n3_:=zM (by rw[hg];exact below_size zq0:w.heap.size≤g3);clear HB BK2;have HB:=n0_;have BK2:=n1_;have BK3:=n2_;have GE3:=n3_;clear n0_ n1_ n2_ n3_;clear hb hbox hg;(try clear hr0 hr1);have hr9:=ringFault_box _ _ _ _ _ _ BK2.out;obtain⟨hr0,hr1⟩:=hr9;(try clear hk0 hk1);have hk9:=ins_box2 _ _ _ _ _ _ BK3.out;obtain⟨hk0,hk1⟩:=hk9)
   | ((with_reducible refine gate_dst (N:=4) rfl ?_);refine box_event ?hg (N:=4) ?hd (cs:=#[.int .i64 0,.int .i64 0,.slice none 0 0]) (t:=31) ?hr ?_;(case hd=>rfl);(case hg=>rfl);(case hr=>first|(go_simp;done)|(go_simp;rfl));intro g4 hg w4 hbox hb;have n0_:=zM (below_step zq0 hb);have n1_:=zM (blk_below (g:=g2) (o:=.cells #[.int .i64 a0_0,.slice A0_1 l0_1.length c0_1] 29 (0,0)) zq1 hb);have n2_:=zM (blk_below (g:=g3) (o:=.cells #[.int .i64 a1_0,.slice A1_1 l1_1.length c1_1] 25 (0,0)) zq3 hb);have n3_:=zM hbox;have n4_:=zM (by rw[hg];exact below_size zq0:w.heap.size≤g4);clear HB BK2 BK3;have HB:=n0_;have BK2:=n1_;have BK3:=n2_;have BK4:=n3_;have GE4:=n4_;clear n0_ n1_ n2_ n3_ n4_;clear hb hbox hg;(try clear hr0 hr1);have hr9:=ringFault_box _ _ _ _ _ _ BK2.out;obtain⟨hr0,hr1⟩:=hr9;(try clear hk0 hk1);have hk9:=ins_box2 _ _ _ _ _ _ BK3.out;obtain⟨hk0,hk1⟩:=hk9)
   | (go_at_call 37;refine(spec_RingFault.calls a0_0 A0_1 c0_1 l0_1 t _ (Kd.C_below HR.out zq0) HC.out HF.out).mono ?_;rintro e wk ⟨rfl,hb⟩;have n0_:=zM (below_step zq0 hb);have n1_:=zM (blk_below (g:=g2) (o:=.cells #[.int .i64 a0_0,.slice A0_1 l0_1.length c0_1] 29 (0,0)) zq1 hb);have n2_:=zM (blk_below (g:=g3) (o:=.cells #[.int .i64 a1_0,.slice A1_1 l1_1.length c1_1] 25 (0,0)) zq3 hb);have n3_:=zM (blk_below (g:=g4) (o:=.cells #[.int .i64 0,.int .i64 0,.slice none 0 0] 31 (0,0)) zq2 hb);clear HB BK2 BK3 BK4;have HB:=n0_;have BK2:=n1_;have BK3:=n2_;have BK4:=n3_;clear n0_ n1_ n2_ n3_;clear hb;(try clear hr0 hr1);have hr9:=ringFault_box _ _ _ _ _ _ BK2.out;obtain⟨hr0,hr1⟩:=hr9;(try clear hk0 hk1);have hk9:=ins_box2 _ _ _ _ _ _ BK3.out;obtain⟨hk0,hk1⟩:=hk9)
   | ((with_reducible refine gate_store (t:=31) (p:=4) rfl ?_);refine row_event ?hg (ty:=31) (p:=4) (y:=?yo_170) ?ho ?hn (g:=g4) (old:=#[.int .i64 0,.int .i64 0,.slice none 0 0]) (e:=31) (cells:=#[.int .i64 t,.int .i64 0,.slice none 0 0]) ?hx ?hy ?hk ?hi ?hd ?h1 ?_;(case ho=>rfl);(case hg=>rfl);(case hn=>rfl);(case hx=>rfl);(case hy=>rfl);(case hk=>exact zq2);(case hi=>kernel_rfl);(case hd=>rfl);(case h1=>exact zq63);intro wr_ hbk hgr;have n0_:=zM (below_grown1 zq0 hgr GE4.out);have n1_:=zM (blk_grown1 (g':=g2) (ob:=.cells #[.int .i64 a0_0,.slice A0_1 l0_1.length c0_1] 29 (0,0)) zq1 hgr (blk_ne zq1 zq2 zq17));have n2_:=zM (blk_grown1 (g':=g3) (ob:=.cells #[.int .i64 a1_0,.slice A1_1 l1_1.length c1_1] 25 (0,0)) zq3 hgr (blk_ne zq3 zq2 zq17));have n3_:=zM hbk;clear HB BK2 BK3 BK4;have HB:=n0_;have BK2:=n1_;have BK3:=n2_;have BK4:=n3_;clear n0_ n1_ n2_ n3_;clear hbk hgr))
 refine bodyPost_ret (results_cell_row rfl _ _ g4 31 #[.int .i64 t,.int .i64 0,.slice none 0 0] (0,0) _ rfl zq2 Try.underlying31 rfl (by kernel_rfl)) rfl ?_
 exact⟨_,rfl,Kd.S_nil _ _ _ _ _,HB.out⟩
set_option maxHeartbeats 4000000 in
set_option maxRecDepth 100000 in
theorem spec_InstallKey.main (a0_0:Int) (A0_1:Option Addr) (c0_1:Nat) (l0_1:List S25) (a1_0:Int) (A1_1:Option Addr) (c1_1:Nat) (l1_1:List Int) (w:World) (HR:Aside0 (Kd.C k25 w A0_1 l0_1.length l0_1)) (HC:Aside0 (l0_1.length≤c0_1)) (HRK:Aside0 (Kd.C (Kd.int .u8) w A1_1 l1_1.length l1_1)) (HCK:Aside0 (l1_1.length≤c1_1)) (HB:Aside0 (Below w.heap.size w w)) (HSC:Aside0 (spec_l1Copy.f l1_1=some l1_1)) (HM:Aside0 (okL l0_1)) (HLM:Aside0 (l0_1.length < 1000000000000)) (HLB:Aside0 (l0_1.length < 140737488355328)) (q:Int) (HF:Aside0 (spec_RingFault.f a0_0 l0_1=some 0)) (HU:Aside0 (keyC a1_0 l1_1.length=0)) (HQ:Aside0 (placeL a1_0 l0_1 0=q)) (hd:decide (0≤q)=false) (hd3:decide (3≤l0_1.length)=false) (hd4:decide ((3:Int)≤(l0_1.length:Int))=false) (HL1:Aside0 (0 < l0_1.length)) (J:Nat) (HJ:Aside0 (gtL a1_0 l0_1=J)) (Y:List S25) (HYZ:Aside0 (l0_1.insertIdx J (⟨a1_0,l1_1⟩:S25)=Y)) :
  Calls Try.prog 47 #[.agg #[.int .i64 a0_0,.slice A0_1 l0_1.length c0_1],.agg #[.int .i64 a1_0,.slice A1_1 l1_1.length c1_1]] w fun e w'=>∃ v2_:Value,e=.returned (.agg #[.int .i64 0,.int .i64 a0_0,v2_])∧Kd.S k25 25 w' w.heap.size (fun _=>True) v2_ Y∧Below w.heap.size w w':=by
 go_enter Try.func47,Try.ntmps47
 go_wp2_with (first
   | ((with_reducible refine gate_dst (N:=2) rfl ?_);refine box_event ?hg (N:=2) ?hd (cs:=#[.int .i64 a0_0,.slice A0_1 l0_1.length c0_1]) (t:=29) ?hr ?_;(case hd=>rfl);(case hg=>rfl);(case hr=>first|(go_simp;done)|(go_simp;rfl));intro g2 hg w2 hbox hb;have n0_:=zM (below_step zq0 hb);have n1_:=zM hbox;have n2_:=zM (by rw[hg];exact below_size zq0:w.heap.size≤g2);clear HB;have HB:=n0_;have BK2:=n1_;have GE2:=n2_;clear n0_ n1_ n2_;clear hb hbox hg;(try clear hr0 hr1);have hr9:=ringFault_box _ _ _ _ _ _ BK2.out;obtain⟨hr0,hr1⟩:=hr9)
   | ((with_reducible refine gate_dst (N:=3) rfl ?_);refine box_event ?hg (N:=3) ?hd (cs:=#[.int .i64 a1_0,.slice A1_1 l1_1.length c1_1]) (t:=25) ?hr ?_;(case hd=>rfl);(case hg=>rfl);(case hr=>first|(go_simp;done)|(go_simp;rfl));intro g3 hg w3 hbox hb;have n0_:=zM (below_step zq0 hb);have n1_:=zM (blk_below (g:=g2) (o:=.cells #[.int .i64 a0_0,.slice A0_1 l0_1.length c0_1] 29 (0,0)) zq1 hb);have n2_:=zM hbox;have n3_:=zM (by rw[hg];exact below_size zq0:w.heap.size≤g3);clear HB BK2;have HB:=n0_;have BK2:=n1_;have BK3:=n2_;have GE3:=n3_;clear n0_ n1_ n2_ n3_;clear hb hbox hg;(try clear hr0 hr1);have hr9:=ringFault_box _ _ _ _ _ _ BK2.out;obtain⟨hr0,hr1⟩:=hr9;(try clear hk0 hk1);have hk9:=ins_box2 _ _ _ _ _ _ BK3.out;obtain⟨hk0,hk1⟩:=hk9)
   | ((with_reducible refine gate_dst (N:=4) rfl ?_);refine box_event ?hg (N:=4) ?hd (cs:=#[.int .i64 0,.int .i64 0,.slice none 0 0]) (t:=31) ?hr ?_;(case hd=>rfl);(case hg=>rfl);(case hr=>first|(go_simp;done)|(go_simp;rfl));intro g4 hg w4 hbox hb;have n0_:=zM (below_step zq0 hb);have n1_:=zM (blk_below (g:=g2) (o:=.cells #[.int .i64 a0_0,.slice A0_1 l0_1.length c0_1] 29 (0,0)) zq1 hb);have n2_:=zM (blk_below (g:=g3) (o:=.cells #[.int .i64 a1_0,.slice A1_1 l1_1.length c1_1] 25 (0,0)) zq3 hb);have n3_:=zM hbox;have n4_:=zM (by rw[hg];exact below_size zq0:w.heap.size≤g4);clear HB BK2 BK3;have HB:=n0_;have BK2:=n1_;have BK3:=n2_;have BK4:=n3_;have GE4:=n4_;clear n0_ n1_ n2_ n3_ n4_;clear hb hbox hg;(try clear hr0 hr1);have hr9:=ringFault_box _ _ _ _ _ _ BK2.out;obtain⟨hr0,hr1⟩:=hr9;(try clear hk0 hk1);have hk9:=ins_box2 _ _ _ _ _ _ BK3.out;obtain⟨hk0,hk1⟩:=hk9)
   | (go_at_call 37;refine(spec_RingFault.calls a0_0 A0_1 c0_1 l0_1 0 _ (Kd.C_below HR.out zq0) HC.out HF.out).mono ?_;rintro e wk ⟨rfl,hb⟩;have n0_:=zM (below_step zq0 hb);have n1_:=zM (blk_below (g:=g2) (o:=.cells #[.int .i64 a0_0,.slice A0_1 l0_1.length c0_1] 29 (0,0)) zq1 hb);have n2_:=zM (blk_below (g:=g3) (o:=.cells #[.int .i64 a1_0,.slice A1_1 l1_1.length c1_1] 25 (0,0)) zq3 hb);have n3_:=zM (blk_below (g:=g4) (o:=.cells #[.int .i64 0,.int .i64 0,.slice none 0 0] 31 (0,0)) zq2 hb);clear HB BK2 BK3 BK4;have HB:=n0_;have BK2:=n1_;have BK3:=n2_;have BK4:=n3_;clear n0_ n1_ n2_ n3_;clear hb;(try clear hr0 hr1);have hr9:=ringFault_box _ _ _ _ _ _ BK2.out;obtain⟨hr0,hr1⟩:=hr9;(try clear hk0 hk1);have hk9:=ins_box2 _ _ _ _ _ _ BK3.out;obtain⟨hk0,hk1⟩:=hk9)
   | (go_at_call 83;refine(l4Key_as ⟨g3,0,none⟩ a1_0 A1_1 l1_1.length c1_1 0 HU.out _ (by exact hk0) (by exact hk1)).mono ?_;rintro e wk ⟨rfl,hb⟩;have n0_:=zM (below_step zq0 hb);have n1_:=zM (blk_below (g:=g2) (o:=.cells #[.int .i64 a0_0,.slice A0_1 l0_1.length c0_1] 29 (0,0)) zq1 hb);have n2_:=zM (blk_below (g:=g3) (o:=.cells #[.int .i64 a1_0,.slice A1_1 l1_1.length c1_1] 25 (0,0)) zq3 hb);have n3_:=zM (blk_below (g:=g4) (o:=.cells #[.int .i64 0,.int .i64 0,.slice none 0 0] 31 (0,0)) zq2 hb);clear HB BK2 BK3 BK4;have HB:=n0_;have BK2:=n1_;have BK3:=n2_;have BK4:=n3_;clear n0_ n1_ n2_ n3_;clear hb;(try clear hr0 hr1);have hr9:=ringFault_box _ _ _ _ _ _ BK2.out;obtain⟨hr0,hr1⟩:=hr9;(try clear hk0 hk1);have hk9:=ins_box2 _ _ _ _ _ _ BK3.out;obtain⟨hk0,hk1⟩:=hk9)
   | (go_at_call 84;refine(l4Find_as a1_0 a0_0 A0_1 c0_1 g2 l0_1 q HQ.out _ zq1 (Kd.C_below HR.out zq0) HLB.out).mono ?_;rintro e wk ⟨rfl,hb⟩;have n0_:=zM (below_step zq0 hb);have n1_:=zM (blk_below (g:=g2) (o:=.cells #[.int .i64 a0_0,.slice A0_1 l0_1.length c0_1] 29 (0,0)) zq1 hb);have n2_:=zM (blk_below (g:=g3) (o:=.cells #[.int .i64 a1_0,.slice A1_1 l1_1.length c1_1] 25 (0,0)) zq3 hb);have n3_:=zM (blk_below (g:=g4) (o:=.cells #[.int .i64 0,.int .i64 0,.slice none 0 0] 31 (0,0)) zq2 hb);clear HB BK2 BK3 BK4;have HB:=n0_;have BK2:=n1_;have BK3:=n2_;have BK4:=n3_;clear n0_ n1_ n2_ n3_;clear hb;(try clear hr0 hr1);have hr9:=ringFault_box _ _ _ _ _ _ BK2.out;obtain⟨hr0,hr1⟩:=hr9;(try clear hk0 hk1);have hk9:=ins_box2 _ _ _ _ _ _ BK3.out;obtain⟨hk0,hk1⟩:=hk9)
   | (go_at_call 67;refine(l4Copy_at g2 a0_0 l0_1 A0_1 c0_1 _ zq1 (Kd.C_below HR.out zq0) HM.out).mono ?_;rintro e wk ⟨vc,rfl,ho,hb⟩;have hown:=Kd.S_lower ho (below_size zq0);clear ho;have n0_:=zM (below_step zq0 hb);have n1_:=zM (blk_below (g:=g2) (o:=.cells #[.int .i64 a0_0,.slice A0_1 l0_1.length c0_1] 29 (0,0)) zq1 hb);have n2_:=zM (blk_below (g:=g3) (o:=.cells #[.int .i64 a1_0,.slice A1_1 l1_1.length c1_1] 25 (0,0)) zq3 hb);have n3_:=zM (blk_below (g:=g4) (o:=.cells #[.int .i64 0,.int .i64 0,.slice none 0 0] 31 (0,0)) zq2 hb);clear HB BK2 BK3 BK4;have HB:=n0_;have BK2:=n1_;have BK3:=n2_;have BK4:=n3_;clear n0_ n1_ n2_ n3_;clear hb;obtain⟨Ac,cc,ec⟩:=Kd.S_slice hown;subst ec;obtain⟨go,co,eo⟩:=S_cons2 hown HL1.out;injection eo with eo1 eo2 eo3;subst eo1;have HOo:=zM hown;clear hown eo2 eo3;(try clear hr0 hr1);have hr9:=ringFault_box _ _ _ _ _ _ BK2.out;obtain⟨hr0,hr1⟩:=hr9;(try clear hk0 hk1);have hk9:=ins_box2 _ _ _ _ _ _ BK3.out;obtain⟨hk0,hk1⟩:=hk9)
   | ((with_reducible refine gate_dst (N:=7) rfl ?_);refine box_event ?hg (N:=7) ?hd (cs:=#[.int .i64 0,.slice none 0 0]) (t:=29) ?hr ?_;(case hd=>rfl);(case hg=>rfl);(case hr=>first|(go_simp;done)|(go_simp;rfl));intro g7 hg w7 hbox hb;have n0_:=zM (below_step zq0 hb);have n1_:=zM (blk_below (g:=g2) (o:=.cells #[.int .i64 a0_0,.slice A0_1 l0_1.length c0_1] 29 (0,0)) zq1 hb);have n2_:=zM (blk_below (g:=g3) (o:=.cells #[.int .i64 a1_0,.slice A1_1 l1_1.length c1_1] 25 (0,0)) zq3 hb);have n3_:=zM (blk_below (g:=g4) (o:=.cells #[.int .i64 0,.int .i64 0,.slice none 0 0] 31 (0,0)) zq2 hb);have n4_:=zM (Kd.S_below zq29 hb);have n5_:=zM hbox;have n6_:=zM (by rw[hg];exact below_size zq0:w.heap.size≤g7);have n7_:=zM (by rw[hg];exact Nat.ne_of_lt (blk_lt (g:=g2) (o:=.cells #[.int .i64 a0_0,.slice A0_1 l0_1.length c0_1] 29 (0,0)) zq1):g2≠g7);have n8_:=zM (by rw[hg];exact Nat.ne_of_gt (blk_lt (g:=g2) (o:=.cells #[.int .i64 a0_0,.slice A0_1 l0_1.length c0_1] 29 (0,0)) zq1):g7≠g2);clear HB BK2 BK3 BK4 HOo;have HB:=n0_;have BK2:=n1_;have BK3:=n2_;have BK4:=n3_;have HOo:=n4_;have BK7:=n5_;have GE7:=n6_;have NE2_7:=n7_;have NE7_2:=n8_;clear n0_ n1_ n2_ n3_ n4_ n5_ n6_ n7_ n8_;clear hb hbox hg;(try clear hr0 hr1);have hr9:=ringFault_box _ _ _ _ _ _ BK2.out;obtain⟨hr0,hr1⟩:=hr9;(try clear hk0 hk1);have hk9:=ins_box2 _ _ _ _ _ _ BK3.out;obtain⟨hk0,hk1⟩:=hk9)
   | ((with_reducible refine gate_store (t:=29) (p:=7) rfl ?_);refine row_event ?hg (ty:=29) (p:=7) (y:=?yo_179) ?ho ?hn (g:=g7) (old:=#[.int .i64 0,.slice none 0 0]) (e:=29) (cells:=#[.int .i64 a0_0,.slice (some ⟨go,0,none⟩) l0_1.length cc]) ?hx ?hy ?hk ?hi ?hd ?h1 ?_;(case ho=>rfl);(case hg=>rfl);(case hn=>rfl);(case hx=>rfl);(case hy=>rfl);(case hk=>exact zq42);(case hi=>kernel_rfl);(case hd=>rfl);(case h1=>exact zq63);intro wr_ hbk hgr;have n0_:=zM (below_grown1 zq0 hgr GE7.out);have n1_:=zM (blk_grown1 (g':=g2) (ob:=.cells #[.int .i64 a0_0,.slice A0_1 l0_1.length c0_1] 29 (0,0)) zq1 hgr NE2_7.out);have n2_:=zM (blk_grown1 (g':=g3) (ob:=.cells #[.int .i64 a1_0,.slice A1_1 l1_1.length c1_1] 25 (0,0)) zq3 hgr (blk_ne zq3 zq42 zq17));have n3_:=zM (blk_grown1 (g':=g4) (ob:=.cells #[.int .i64 0,.int .i64 0,.slice none 0 0] 31 (0,0)) zq2 hgr (blk_ne zq2 zq42 zq17));have n4_:=zM (S_grown_types zq29 zq42 zq17 hgr);have n5_:=zM hbk;clear HB BK2 BK3 BK4 HOo BK7;have HB:=n0_;have BK2:=n1_;have BK3:=n2_;have BK4:=n3_;have HOo:=n4_;have BK7:=n5_;clear n0_ n1_ n2_ n3_ n4_ n5_;clear hbk hgr;(try clear hr0 hr1);have hr9:=ringFault_box _ _ _ _ _ _ BK2.out;obtain⟨hr0,hr1⟩:=hr9;(try clear hk0 hk1);have hk9:=ins_box2 _ _ _ _ _ _ BK3.out;obtain⟨hk0,hk1⟩:=hk9)
   | ((with_reducible refine gate_dst (N:=8) rfl ?_);refine box_event ?hg (N:=8) ?hd (cs:=#[.int .i64 0,.slice none 0 0]) (t:=29) ?hr ?_;(case hd=>rfl);(case hg=>rfl);(case hr=>first|(go_simp;done)|(go_simp;rfl));intro g8 hg w8 hbox hb;have n0_:=zM (below_step zq0 hb);have n1_:=zM (blk_below (g:=g2) (o:=.cells #[.int .i64 a0_0,.slice A0_1 l0_1.length c0_1] 29 (0,0)) zq1 hb);have n2_:=zM (blk_below (g:=g3) (o:=.cells #[.int .i64 a1_0,.slice A1_1 l1_1.length c1_1] 25 (0,0)) zq3 hb);have n3_:=zM (blk_below (g:=g4) (o:=.cells #[.int .i64 0,.int .i64 0,.slice none 0 0] 31 (0,0)) zq2 hb);have n4_:=zM (blk_below (g:=g7) (o:=.cells #[.int .i64 a0_0,.slice (some ⟨go,0,none⟩) l0_1.length cc] 29 (0,0)) zq42 hb);have n5_:=zM (Kd.S_below zq29 hb);have n6_:=zM hbox;have n7_:=zM (by rw[hg];exact below_size zq0:w.heap.size≤g8);have n8_:=zM (by rw[hg];exact Nat.ne_of_lt (blk_lt (g:=g2) (o:=.cells #[.int .i64 a0_0,.slice A0_1 l0_1.length c0_1] 29 (0,0)) zq1):g2≠g8);have n9_:=zM (by rw[hg];exact Nat.ne_of_gt (blk_lt (g:=g2) (o:=.cells #[.int .i64 a0_0,.slice A0_1 l0_1.length c0_1] 29 (0,0)) zq1):g8≠g2);have n10_:=zM (by rw[hg];exact Nat.ne_of_lt (blk_lt (g:=g7) (o:=.cells #[.int .i64 a0_0,.slice (some ⟨go,0,none⟩) l0_1.length cc] 29 (0,0)) zq42):g7≠g8);have n11_:=zM (by rw[hg];exact Nat.ne_of_gt (blk_lt (g:=g7) (o:=.cells #[.int .i64 a0_0,.slice (some ⟨go,0,none⟩) l0_1.length cc] 29 (0,0)) zq42):g8≠g7);clear HB BK2 BK3 BK4 BK7 HOo;have HB:=n0_;have BK2:=n1_;have BK3:=n2_;have BK4:=n3_;have BK7:=n4_;have HOo:=n5_;have BK8:=n6_;have GE8:=n7_;have NE2_8:=n8_;have NE8_2:=n9_;have NE7_8:=n10_;have NE8_7:=n11_;clear n0_ n1_ n2_ n3_ n4_ n5_ n6_ n7_ n8_ n9_ n10_ n11_;clear hb hbox hg;(try clear hr0 hr1);have hr9:=ringFault_box _ _ _ _ _ _ BK2.out;obtain⟨hr0,hr1⟩:=hr9;(try clear hk0 hk1);have hk9:=ins_box2 _ _ _ _ _ _ BK3.out;obtain⟨hk0,hk1⟩:=hk9)
   | ((with_reducible refine gate_store (t:=29) (p:=8) rfl ?_);refine row_event ?hg (ty:=29) (p:=8) (y:=?yo_181) ?ho ?hn (g:=g8) (old:=#[.int .i64 0,.slice none 0 0]) (e:=29) (cells:=#[.int .i64 a0_0,.slice none 0 0]) ?hx ?hy ?hk ?hi ?hd ?h1 ?_;(case ho=>rfl);(case hg=>rfl);(case hn=>rfl);(case hx=>rfl);(case hy=>rfl);(case hk=>(with_reducible repeat (first|refine blk_drewN ?_ _|refine blk_drew ?_|refine blk_alloc ?_ _));exact BK8.out);(case hi=>kernel_rfl);(case hd=>rfl);(case h1=>exact zq63);intro wr_ hbk hgr;have n0_:=zM (below_grown1 zq0 hgr GE8.out);have n1_:=zM (blk_grown1 (g':=g2) (ob:=.cells #[.int .i64 a0_0,.slice A0_1 l0_1.length c0_1] 29 (0,0)) zq1 hgr NE2_8.out);have n2_:=zM (blk_grown1 (g':=g3) (ob:=.cells #[.int .i64 a1_0,.slice A1_1 l1_1.length c1_1] 25 (0,0)) zq3 hgr (blk_ne zq3 zq91 zq17));have n3_:=zM (blk_grown1 (g':=g4) (ob:=.cells #[.int .i64 0,.int .i64 0,.slice none 0 0] 31 (0,0)) zq2 hgr (blk_ne zq2 zq91 zq17));have n4_:=zM (blk_grown1 (g':=g7) (ob:=.cells #[.int .i64 a0_0,.slice (some ⟨go,0,none⟩) l0_1.length cc] 29 (0,0)) zq42 hgr NE7_8.out);have n5_:=zM (S_grown_types zq29 zq91 zq17 hgr);have n6_:=zM hbk;clear HB BK2 BK3 BK4 BK7 HOo BK8;have HB:=n0_;have BK2:=n1_;have BK3:=n2_;have BK4:=n3_;have BK7:=n4_;have HOo:=n5_;have BK8:=n6_;clear n0_ n1_ n2_ n3_ n4_ n5_ n6_;clear hbk hgr;(try clear hr0 hr1);have hr9:=ringFault_box _ _ _ _ _ _ BK2.out;obtain⟨hr0,hr1⟩:=hr9;(try clear hk0 hk1);have hk9:=ins_box2 _ _ _ _ _ _ BK3.out;obtain⟨hk0,hk1⟩:=hk9))
 obtain⟨f,B0,cur,hB0,hgo,hcur,hown⟩:=S_split2 HOo.out
 have HBS:=zM (Nat.le_of_eq hB0)
 have H3B:Aside0 (g3 < B0):=⟨by rw[hB0];exact blk_lt BK3.out⟩
 have HGO:=zM hgo
 have BKo:=zM hcur
 have HOwn:=zM hown
 clear hB0 hgo hcur hown HOo hr0 hr1 hk0 hk1
 go_loopw [9,10] (fun v9 v10 W=>∃ (kk:Nat) (d:Bool) (u:Value),kk≤l0_1.length∧v10=.int .i64 kk∧v9=.bool d∧Aside0 (d=decide (J < kk))∧Aside0 (W.heap[g3]?=some (Obj.cells #[.int .i64 a1_0,.slice A1_1 l1_1.length c1_1] 25 (0,0)))∧Aside0 (W.heap[g4]?=some (Obj.cells #[.int .i64 0,.int .i64 0,.slice none 0 0] 31 (0,0)))∧Aside0 (W.heap[g7]?=some (Obj.cells #[.int .i64 a0_0,.slice (some ⟨go,0,none⟩) l0_1.length cc] 29 (0,0)))∧Aside0 (W.heap[g8]?=some (Obj.cells #[.int .i64 a0_0,u] 29 (0,0)))∧Aside0 (W.heap[go]?=some (Obj.cells cur 25 (0,0)))∧Aside0 ((Kd.tag f k25).R 25 W w.heap.size (fun k=>k < B0) (.slice (some ⟨go,0,none⟩) l0_1.length cc) l0_1.zipIdx)∧Aside0 (Kd.S k25 25 W w.heap.size (fun k_=>(k_ < B0∧f k_ < kk) ∨ B0≤k_) u (preL (⟨a1_0,l1_1⟩:S25) J l0_1 kk))∧Aside0 (∀ k_,u.ownBlock=some k_→B0≤k_)∧Aside0 (B0≤W.heap.size)∧Aside0 (Below w.heap.size w W)) (fun _ v10 _=>l0_1.length - (intOf v10).toNat)
 case atStart=>exact⟨0,false,.slice none 0 0,Nat.zero_le _,rfl,rfl,⟨by rw[decide_eq_false (Nat.not_lt_zero _)]⟩,BK3,BK4,BK7,BK8,BKo,HOwn,⟨Kd.S_nil _ _ _ _ _⟩,⟨fun _ h=>by cases h⟩,HBS,HB⟩
 case round=>
  clear BK2 BK3 BK4 BK7 BK8 BKo HOwn HBS HB
  obtain⟨kk,d,u,hk,rfl,rfl,HD,BK3,BK4,BK7,BK8,BKo,HOwn,HO,HU,HBS,HB⟩:=hrel
  have h71:wr.cell? ⟨g7,1,none⟩=some (.slice (some ⟨go,0,none⟩) l0_1.length cc):=(blk_cell BK7.out 1).trans rfl
  have HKL:Aside0 (kk≤l0_1.length):=⟨hk⟩
  by_cases hl:kk < l0_1.length
  ·have hd0:decide (kk < l0_1.length)=true:=decide_eq_true hl
   have hlt:=zM hl
   obtain⟨Ae,ce,hc0,hc1,hle,hE⟩:=own_elem HOwn.out BKo.out kk hl
   have hJk:kk≤J→(a1_0 < (rd_T25 l0_1 (kk:Int)).f0 ↔ kk=J):=by
    have h9:=gtL_rd a1_0 l0_1 kk hl
    rw[HJ.out] at h9
    exact h9
   have hA:=pre_late (⟨a1_0,l1_1⟩:S25) J l0_1 kk hl
   have hBe:=pre_early (⟨a1_0,l1_1⟩:S25) J l0_1 kk hl
   have hCe:=pre_here (⟨a1_0,l1_1⟩:S25) J l0_1 kk hl
   generalize rd_T25 l0_1 (kk:Int)=x at hc0 hc1 hle hE hJk hA hBe hCe
   have HC0:=zM hc0
   have HC1:=zM hc1
   have HE:=zM hE
   clear hc0 hc1 hle hE
   have hx0:wr.cell? ⟨go,kk*2,none⟩=some (.int .i64 x.f0):=(blk_cell BKo.out (kk*2)).trans HC0.out
   have hk9:=ins_box2 _ _ _ _ _ _ BK3.out
   obtain⟨hk0,hk1⟩:=hk9
   cases d with
   | true=>
    have hJ:J < kk:=of_decide_eq_true HD.out.symm
    have HKN:=zM (hA hJ)
    have HD2:Aside0 (true=decide (J < kk+1)):=⟨by rw[decide_eq_true (show J < kk+1 by omega)]⟩
    clear hA hBe hCe hJk hJ HD
    have HYL:Aside0 ((preL (⟨a1_0,l1_1⟩:S25) J l0_1 kk).length≤kk+2):=⟨by have:=pre_len (⟨a1_0,l1_1⟩:S25) J l0_1 kk;omega⟩
    go_wp2_with fail
    go_quiet (fail)
    have n0_:=zM (pw_below_drewN HB.out nq)
    have n1_:=zM (blk_drewN BK3.out nq)
    have n2_:=zM (blk_drewN BK4.out nq)
    have n3_:=zM (blk_drewN BK7.out nq)
    have n4_:=zM (blk_drewN BK8.out nq)
    have n5_:=zM (blk_drewN BKo.out nq)
    have n6_:=zM (Kd.R_drewN HOwn.out nq)
    have n7_:=zM (Kd.S_drewN HO.out nq)
    have n8_:=zM (show B0≤(wr.drewN nq).heap.size from HBS.out)
    have n9_:=zM (Kd.R_drewN HE.out nq)
    clear HB BK3 BK4 BK7 BK8 BKo HOwn HO HBS HE hk0 hk1 h71 hx0
    have HB:=n0_
    have BK3:=n1_
    have BK4:=n2_
    have BK7:=n3_
    have BK8:=n4_
    have BKo:=n5_
    have HOwn:=n6_
    have HO:=n7_
    have HBS:=n8_
    have HE:=n9_
    clear n0_ n1_ n2_ n3_ n4_ n5_ n6_ n7_ n8_ n9_
    generalize wr.drewN nq=wq at HB BK3 BK4 BK7 BK8 BKo HE HOwn HO HBS ⊢
    go_wp2_with fail
    have n0_:=zM (below_drew1 HB.out)
    have n1_:=zM (blk_drew BK3.out)
    have n2_:=zM (blk_drew BK4.out)
    have n3_:=zM (blk_drew BK7.out)
    have n4_:=zM (blk_drew BK8.out)
    have n5_:=zM (blk_drew BKo.out)
    have n6_:=zM (Kd.R_drew HOwn.out)
    have n7_:=zM (Kd.S_drew HO.out)
    have n8_:=zM (show B0≤wq.drew.heap.size from HBS.out)
    have n9_:=zM (Kd.R_drew HE.out)
    clear HB BK3 BK4 BK7 BK8 BKo HOwn HO HBS HE
    have HB:=n0_
    have BK3:=n1_
    have BK4:=n2_
    have BK7:=n3_
    have BK8:=n4_
    have BKo:=n5_
    have HOwn:=n6_
    have HO:=n7_
    have HBS:=n8_
    have HE:=n9_
    clear n0_ n1_ n2_ n3_ n4_ n5_ n6_ n7_ n8_ n9_
    refine start_ (n:=11) (S:=fun w'=>w'.cell? ⟨g8,1,none⟩=some u∧w'.cell? ⟨g7,1,none⟩=some (.slice (some ⟨go,0,none⟩) l0_1.length cc)∧w'.cell? ⟨go,kk*2,none⟩=some (.int .i64 x.f0)∧w'.cell? ⟨go,kk*2+1,none⟩=some (.slice Ae x.f1.length ce)) (ds:=[10]) #[false,false,false,false,false,false,false,false,false,false,false] (by kernel_rfl) rfl rfl ⟨(blk_cell BK8.out 1).trans rfl,(blk_cell BK7.out 1).trans rfl,(blk_cell BKo.out (kk*2)).trans HC0.out,(blk_cell BKo.out (kk*2+1)).trans HC1.out⟩ (fun hHeld=>?_);refine with_tabW spec_InstallKey.tab20 spec_InstallKey.bits20 (fun HT_ HW_=>?_)
    generalize wq.drew=w9 at HB BK3 BK4 BK7 BK8 BKo HE HOwn HO HBS hHeld ⊢
    refine pure_ (i:=0) (N:=some 67) (v:=?_) (a':=?_) #[true,false,false,false,false,false,false,false,false,false,false] rfl rfl (any_of HT_.out (by kernel_rfl)) (fun _ _ _ h=>h) (Or.inl ⟨zq64,?_⟩) ?_ ?_
    rotate_left
    ·intro w'
     go_simp
     with_reducible rfl
    rotate_left
    ·simp only[Act.put,List.setIfInBounds_toArray,List.set_cons_zero,List.set_cons_succ,i64_w,i32_w]
     rfl
    refine take_ (i:=1) (N:=some 68) (v:=?_) (a':=?_) #[true,true,false,false,false,false,false,false,false,false,false] rfl rfl (take_ofW HT_.out HW_.out (by kernel_rfl)) (fun _ _ _ h=>h) (Or.inl ⟨zq64,?_⟩) hHeld ?_ ?_
    rotate_left
    ·rintro w' ⟨s0,s1,s2,s3⟩
     go_simp
     with_reducible rfl
    rotate_left
    ·simp only[Act.put,List.setIfInBounds_toArray,List.set_cons_zero,List.set_cons_succ,i64_w,i32_w]
     rfl
    refine pure_ (i:=2) (N:=some 69) (v:=?_) (a':=?_) #[true,true,true,false,false,false,false,false,false,false,false] rfl rfl (any_of HT_.out (by kernel_rfl)) (fun _ _ _ h=>h) (Or.inl ⟨zq64,?_⟩) ?_ ?_
    rotate_left
    ·intro w'
     go_simp
     with_reducible rfl
    rotate_left
    ·simp only[Act.put,List.setIfInBounds_toArray,List.set_cons_zero,List.set_cons_succ,i64_w,i32_w]
     rfl
    refine take_ (i:=3) (N:=some 70) (v:=?_) (a':=?_) #[true,true,true,true,false,false,false,false,false,false,false] rfl rfl (take_ofW HT_.out HW_.out (by kernel_rfl)) (fun _ _ _ h=>h) (Or.inl ⟨zq64,?_⟩) hHeld ?_ ?_
    rotate_left
    ·rintro w' ⟨s0,s1,s2,s3⟩
     go_simp
     with_reducible rfl
    rotate_left
    ·simp only[Act.put,List.setIfInBounds_toArray,List.set_cons_zero,List.set_cons_succ,i64_w,i32_w]
     rfl
    refine pure_ (i:=4) (N:=some 71) (v:=?_) (a':=?_) #[true,true,true,true,true,false,false,false,false,false,false] rfl rfl (any_of HT_.out (by kernel_rfl)) (fun _ _ _ h=>h) (Or.inl ⟨zq64,?_⟩) ?_ ?_
    rotate_left
    ·intro w'
     go_simp
     with_reducible rfl
    rotate_left
    ·simp only[Act.put,List.setIfInBounds_toArray,List.set_cons_zero,List.set_cons_succ,i64_w,i32_w]
     rfl
    refine pure_ (i:=5) (N:=some 72) (v:=?_) (a':=?_) #[true,true,true,true,true,true,false,false,false,false,false] rfl rfl (any_of HT_.out (by kernel_rfl)) (fun _ _ _ h=>h) (Or.inl ⟨zq64,?_⟩) ?_ ?_
    rotate_left
    ·intro w'
     go_simp
     with_reducible rfl
    rotate_left
    ·simp only[Act.put,List.setIfInBounds_toArray,List.set_cons_zero,List.set_cons_succ,i64_w,i32_w]
     rfl
    refine take_ (i:=6) (N:=some 73) (v:=?_) (a':=?_) #[true,true,true,true,true,true,true,false,false,false,false] rfl rfl (take_ofW HT_.out HW_.out (by kernel_rfl)) (fun _ _ _ h=>h) (Or.inl ⟨zq64,?_⟩) hHeld ?_ ?_
    rotate_left
    ·rintro w' ⟨s0,s1,s2,s3⟩
     go_simp
     with_reducible rfl
    rotate_left
    ·simp only[Act.put,List.setIfInBounds_toArray,List.set_cons_zero,List.set_cons_succ,i64_w,i32_w]
     rfl
    refine one_ (i:=7) (N:=some 74) #[true,true,true,true,true,true,true,true,false,false,false] rfl rfl (one_of HT_.out (by kernel_rfl)) zq17 (fun K hK=>?_)
    refine value_ (w1:=?_) (v:=?_) zq64 rfl ?_ ?_
    rotate_left 2
    ·go_simp
     constructor
     ·rfl
     ·rfl
    refine hK.out _ _ ⟨(blk_cell (blk_alloc BK8.out _) 1).trans rfl,(blk_cell (blk_alloc BK7.out _) 1).trans rfl,(blk_cell (blk_alloc BKo.out _) (kk*2)).trans HC0.out,(blk_cell (blk_alloc BKo.out _) (kk*2+1)).trans HC1.out⟩ (fun hHeld=>?_)
    clear hK K
    refine norm_ (a':=?_) ?_ ?_
    rotate_left
    ·show Act.put _ (some 74) _=_
     simp only[Act.put,List.setIfInBounds_toArray,List.set_cons_zero,List.set_cons_succ,i64_w,i32_w]
     rfl
    refine one_ (i:=8) (N:=some 75) #[true,true,true,true,true,true,true,true,true,false,false] rfl rfl (one_of HT_.out (by kernel_rfl)) zq17 (fun K hK=>?_)
    refine Kd.S_append_step k25 (w0:=w) w.heap.size zq64 (.tmp 68) (.tmp 74) 27 25 (.agg #[(.int .i64 0),(.slice none 0 0)]) 32 rfl Try.underlying27 info25 rfl zq17 zq21 u (preL (⟨a1_0,l1_1⟩:S25) J l0_1 kk) x [.int .i64 x.f0,.slice Ae x.f1.length ce] (fun k_=>(k_ < B0∧f k_ < kk+1) ∨ B0≤k_) (fun k_=>k_ < B0∧f k_=kk) rfl rfl (k25_mkM _ _ _ x HE.out) (fun k_ hk_=>⟨.inl ⟨hk_.1,by have:=hk_.2;omega⟩,out_ne HO.out k_ hk_⟩) (fun k_ hk_=>.inr (Nat.le_trans HBS.out hk_)) (out_open HO.out) HB.out (below_size HB.out) ?aL ?_
    (case aL=>have h9:=HLM.out;have h8:=HYL.out;have h7:=hlt.out;omega)
    intro v1 w11 ho hb hg hat
    clear HE
    rw[← HKN.out] at ho
    have n0_:=zM (blk_grown (g:=g4) BK4.out hg (Kd.S_ne HO.out BK4.out zq17))
    have n1_:=zM (blk_grown (g:=g7) BK7.out hg (Kd.S_ne HO.out BK7.out zq17))
    have n2_:=zM (blk_grown (g:=g8) BK8.out hg (Kd.S_ne HO.out BK8.out zq17))
    have n3_:=zM (blk_grown (g:=g3) BK3.out hg (fun he_=>by have:=HU.out _ he_.symm;have:=H3B.out;omega))
    have n4_:=zM (blk_grown (g:=go) BKo.out hg (fun he_=>by have:=HU.out _ he_.symm;have:=HGO.out;omega))
    have n5_:=zM (Kd.R_grown HOwn.out hg (fun q_ hq_ he_=>by have:=HU.out _ he_.symm;omega))
    have n6_:=zM hb
    have n7_:=zM ho
    have n8_:=zM (out_fresh HU.out hat HBS.out)
    have n9_:=zM (Nat.le_trans HBS.out hg.size)
    clear BK4 BK7 BK8 BK3 BKo HOwn HB HO HU HBS
    have BK4:=n0_
    have BK7:=n1_
    have BK8:=n2_
    have BK3:=n3_
    have BKo:=n4_
    have HOwn:=n5_
    have HB:=n6_
    have HO:=n7_
    have HU:=n8_
    have HBS:=n9_
    clear n0_ n1_ n2_ n3_ n4_ n5_ n6_ n7_ n8_ n9_
    clear hat hg ho hb
    obtain⟨Aq,cq,eq_⟩:=Kd.S_slice HO.out
    subst eq_
    refine hK.out _ _ ⟨(blk_cell BK8.out 1).trans rfl,(blk_cell BK7.out 1).trans rfl,(blk_cell BKo.out (kk*2)).trans HC0.out,(blk_cell BKo.out (kk*2+1)).trans HC1.out⟩ (fun hHeld=>?_)
    clear hK K
    refine norm_ (a':=?_) ?_ ?_
    rotate_left
    ·show Act.put _ (some 75) _=_
     simp only[Act.put,List.setIfInBounds_toArray,List.set_cons_zero,List.set_cons_succ,i64_w,i32_w]
     rfl
    refine pure_ (i:=9) (N:=some 76) (v:=?_) (a':=?_) #[true,true,true,true,true,true,true,true,true,true,false] rfl rfl (any_of HT_.out (by kernel_rfl)) (fun _ _ _ h=>h) (Or.inl ⟨zq64,?_⟩) ?_ ?_
    rotate_left
    ·intro w'
     go_simp
     with_reducible rfl
    rotate_left
    ·simp only[Act.put,List.setIfInBounds_toArray,List.set_cons_zero,List.set_cons_succ,i64_w,i32_w]
     rfl
    refine last_ (i:=10) (N:=none) #[true,true,true,true,true,true,true,true,true,true,true] rfl rfl (one_of HT_.out (by kernel_rfl)) zq17 (fun K hK=>?_)
    have hs1:=(blk_cell BK8.out 1).trans rfl
    have hs2:=blk_frozen BK8.out 1
    refine skip_ (w1:=?_) zq64 rfl ?_ ?_
    rotate_left
    ·go_simp
     rfl
    refine hK.out _ _ ?_
    clear hK K
    refine done_ (done_of HT_.out (by kernel_rfl)) ?_
    try go_wp2
    go_roundw
    case rel=>exact⟨kk+1,true,_,hlt.out,congrArg _ (wrap_next kk _ hlt.out HLB.out),rfl,⟨HD2.out⟩,⟨(blk_far BK3.out (blk_ne BK3.out BK8.out zq17) _)⟩,⟨(blk_far BK4.out (blk_ne BK4.out BK8.out zq17) _)⟩,⟨(blk_far BK7.out NE7_8.out _)⟩,⟨(blk_put (cs:=#[.int .i64 a0_0,u]) BK8.out 1 _ rfl)⟩,⟨(blk_far BKo.out (blk_ne BKo.out BK8.out zq17) _)⟩,⟨(Kd.R_mono (Kd.R_far (p:=⟨g8,1,none⟩) (Kd.R_types HOwn.out BK8.out (show ∀ q,q ∈ 25 :: k25.E→q≠29 by decide)) (fun _ hk=>hk.2) _) (fun _ hk=>hk.1))⟩,⟨(Kd.S_mono (Kd.S_far (p:=⟨g8,1,none⟩) (Kd.S_types HO.out BK8.out zq17) (fun _ hk=>hk.2) _) (fun _ hk=>hk.1))⟩,⟨HU.out⟩,⟨zq101⟩,⟨(below_set HB.out GE8.out)⟩⟩
    case measure=>exact next_less kk _ hlt.out HLB.out
   | false=>
    have hJ:¬ J < kk:=of_decide_eq_false HD.out.symm
    have hJk2:=hJk zq21
    by_cases hx:a1_0 < x.f0
    ·have hJe:J=kk:=(hJk2.mp hx).symm
     have hKN:=hCe hJe
     obtain⟨Y,hY⟩:∃ Y,(preL (⟨a1_0,l1_1⟩:S25) J l0_1 kk) ++ [(⟨a1_0,l1_1⟩:S25)]=Y:=⟨_,rfl⟩
     rw[hY] at hKN
     have HYL:Aside0 (Y.length≤kk+2):=⟨by have:=pre_len (⟨a1_0,l1_1⟩:S25) J l0_1 kk;rw[← hY,List.length_append,List.length_singleton];omega⟩
     have HKN:=zM hKN
     have HY:=zM hY
     have hdx:decide (a1_0 < x.f0)=true:=decide_eq_true hx
     have HD2:Aside0 (true=decide (J < kk+1)):=⟨by rw[decide_eq_true (show J < kk+1 by omega)]⟩
     clear hA hBe hCe hJk hJ HD hJk2 hx hJe hKN hY
     go_wp2_with fail
     go_quiet (fail)
     have n0_:=zM (pw_below_drewN HB.out nq)
     have n1_:=zM (blk_drewN BK3.out nq)
     have n2_:=zM (blk_drewN BK4.out nq)
     have n3_:=zM (blk_drewN BK7.out nq)
     have n4_:=zM (blk_drewN BK8.out nq)
     have n5_:=zM (blk_drewN BKo.out nq)
     have n6_:=zM (Kd.R_drewN HOwn.out nq)
     have n7_:=zM (Kd.S_drewN HO.out nq)
     have n8_:=zM (show B0≤(wr.drewN nq).heap.size from HBS.out)
     have n9_:=zM (Kd.R_drewN HE.out nq)
     clear HB BK3 BK4 BK7 BK8 BKo HOwn HO HBS HE hk0 hk1 h71 hx0
     have HB:=n0_
     have BK3:=n1_
     have BK4:=n2_
     have BK7:=n3_
     have BK8:=n4_
     have BKo:=n5_
     have HOwn:=n6_
     have HO:=n7_
     have HBS:=n8_
     have HE:=n9_
     clear n0_ n1_ n2_ n3_ n4_ n5_ n6_ n7_ n8_ n9_
     generalize wr.drewN nq=wq at HB BK3 BK4 BK7 BK8 BKo HE HOwn HO HBS ⊢
     go_wp2_with fail
     have n0_:=zM (below_drew1 HB.out)
     have n1_:=zM (blk_drew BK3.out)
     have n2_:=zM (blk_drew BK4.out)
     have n3_:=zM (blk_drew BK7.out)
     have n4_:=zM (blk_drew BK8.out)
     have n5_:=zM (blk_drew BKo.out)
     have n6_:=zM (Kd.R_drew HOwn.out)
     have n7_:=zM (Kd.S_drew HO.out)
     have n8_:=zM (show B0≤wq.drew.heap.size from HBS.out)
     have n9_:=zM (Kd.R_drew HE.out)
     clear HB BK3 BK4 BK7 BK8 BKo HOwn HO HBS HE
     have HB:=n0_
     have BK3:=n1_
     have BK4:=n2_
     have BK7:=n3_
     have BK8:=n4_
     have BKo:=n5_
     have HOwn:=n6_
     have HO:=n7_
     have HBS:=n8_
     have HE:=n9_
     clear n0_ n1_ n2_ n3_ n4_ n5_ n6_ n7_ n8_ n9_
     refine start_ (n:=12) (S:=fun w'=>w'.cell? ⟨g8,1,none⟩=some u∧w'.cell? ⟨g3,0,none⟩=some (.int .i64 a1_0)∧w'.cell? ⟨g3,1,none⟩=some (.slice A1_1 l1_1.length c1_1)) (ds:=[11]) #[false,false,false,false,false,false,false,false,false,false,false,false] (by kernel_rfl) rfl rfl ⟨(blk_cell BK8.out 1).trans rfl,(blk_cell BK3.out 0).trans rfl,(blk_cell BK3.out 1).trans rfl⟩ (fun hHeld=>?_);refine with_tabW spec_InstallKey.tab18 spec_InstallKey.bits18 (fun HT_ HW_=>?_)
     generalize wq.drew=w9 at HB BK3 BK4 BK7 BK8 BKo HE HOwn HO HBS hHeld ⊢
     refine pure_ (i:=0) (N:=some 56) (v:=?_) (a':=?_) #[true,false,false,false,false,false,false,false,false,false,false,false] rfl rfl (any_of HT_.out (by kernel_rfl)) (fun _ _ _ h=>h) (Or.inl ⟨zq64,?_⟩) ?_ ?_
     rotate_left
     ·intro w'
      go_simp
      with_reducible rfl
     rotate_left
     ·simp only[Act.put,List.setIfInBounds_toArray,List.set_cons_zero,List.set_cons_succ,i64_w,i32_w]
      rfl
     refine take_ (i:=1) (N:=some 57) (v:=?_) (a':=?_) #[true,true,false,false,false,false,false,false,false,false,false,false] rfl rfl (take_ofW HT_.out HW_.out (by kernel_rfl)) (fun _ _ _ h=>h) (Or.inl ⟨zq64,?_⟩) hHeld ?_ ?_
     rotate_left
     ·rintro w' ⟨s0,s1,s2⟩
      go_simp
      with_reducible rfl
     rotate_left
     ·simp only[Act.put,List.setIfInBounds_toArray,List.set_cons_zero,List.set_cons_succ,i64_w,i32_w]
      rfl
     refine pure_ (i:=2) (N:=some 58) (v:=?_) (a':=?_) #[true,true,true,false,false,false,false,false,false,false,false,false] rfl rfl (any_of HT_.out (by kernel_rfl)) (fun _ _ _ h=>h) (Or.inl ⟨zq64,?_⟩) ?_ ?_
     rotate_left
     ·intro w'
      go_simp
      with_reducible rfl
     rotate_left
     ·simp only[Act.put,List.setIfInBounds_toArray,List.set_cons_zero,List.set_cons_succ,i64_w,i32_w]
      rfl
     refine take_ (i:=3) (N:=some 59) (v:=?_) (a':=?_) #[true,true,true,true,false,false,false,false,false,false,false,false] rfl rfl (take_ofW HT_.out HW_.out (by kernel_rfl)) (fun _ _ _ h=>h) (Or.inl ⟨zq64,?_⟩) hHeld ?_ ?_
     rotate_left
     ·rintro w' ⟨s0,s1,s2⟩
      go_simp
      with_reducible rfl
     rotate_left
     ·simp only[Act.put,List.setIfInBounds_toArray,List.set_cons_zero,List.set_cons_succ,i64_w,i32_w]
      rfl
     refine pure_ (i:=4) (N:=some 60) (v:=?_) (a':=?_) #[true,true,true,true,true,false,false,false,false,false,false,false] rfl rfl (any_of HT_.out (by kernel_rfl)) (fun _ _ _ h=>h) (Or.inl ⟨zq64,?_⟩) ?_ ?_
     rotate_left
     ·intro w'
      go_simp
      with_reducible rfl
     rotate_left
     ·simp only[Act.put,List.setIfInBounds_toArray,List.set_cons_zero,List.set_cons_succ,i64_w,i32_w]
      rfl
     refine take_ (i:=5) (N:=some 61) (v:=?_) (a':=?_) #[true,true,true,true,true,true,false,false,false,false,false,false] rfl rfl (take_ofW HT_.out HW_.out (by kernel_rfl)) (fun _ _ _ h=>h) (Or.inl ⟨zq64,?_⟩) hHeld ?_ ?_
     rotate_left
     ·rintro w' ⟨s0,s1,s2⟩
      go_simp
      with_reducible rfl
     rotate_left
     ·simp only[Act.put,List.setIfInBounds_toArray,List.set_cons_zero,List.set_cons_succ,i64_w,i32_w]
      rfl
     refine one_ (i:=6) (N:=some 62) #[true,true,true,true,true,true,true,false,false,false,false,false] rfl rfl (one_of HT_.out (by kernel_rfl)) zq17 (fun K hK=>?_)
     refine goes_ Try.func88 (by kernel_rfl) rfl #[.slice A1_1 l1_1.length c1_1] zq64 rfl rfl zq11 ?_
     with_reducible refine(spec_l1Copy.calls A1_1 c1_1 l1_1 l1_1 _ ?side1 HCK.out HSC.out).mono ?_
     (case side1=>exact Kd.C_below HRK.out HB.out)
     rintro e w10 ⟨vc,rfl,ho0,hb⟩
     refine⟨_,rfl,?_⟩
     have n0_:=zM (below_step HB.out hb)
     have n1_:=zM (blk_below (g:=g3) BK3.out hb)
     have n2_:=zM (blk_below (g:=g4) BK4.out hb)
     have n3_:=zM (blk_below (g:=g7) BK7.out hb)
     have n4_:=zM (blk_below (g:=g8) BK8.out hb)
     have n5_:=zM (blk_below (g:=go) BKo.out hb)
     have n6_:=zM (Kd.R_below HOwn.out hb)
     have n7_:=zM (Kd.R_below HE.out hb)
     have n8_:=zM (Kd.S_elder' HO.out (Kd.R_base ho0) hb)
     have n9_:=zM (show ∀ k_,vc.ownBlock=some k_→B0≤k_ from fun k_ hk_=>Nat.le_trans HBS.out (Kd.R_base ho0 k_ hk_))
     have n10_:=zM (Kd.R_lower ho0 (below_size HB.out))
     have n11_:=zM (Nat.le_trans HBS.out hb.size)
     clear HB BK3 BK4 BK7 BK8 BKo HOwn HE HO HBS
     have HB:=n0_
     have BK3:=n1_
     have BK4:=n2_
     have BK7:=n3_
     have BK8:=n4_
     have BKo:=n5_
     have HOwn:=n6_
     have HE:=n7_
     have HO:=n8_
     have HCB:=n9_
     have HOc:=n10_
     have HBS:=n11_
     clear n0_ n1_ n2_ n3_ n4_ n5_ n6_ n7_ n8_ n9_ n10_ n11_
     clear hb ho0
     obtain⟨Ac,cx,ec⟩:=Kd.R_slice HOc.out
     subst ec
     refine hK.out _ _ ⟨(blk_cell BK8.out 1).trans rfl,(blk_cell BK3.out 0).trans rfl,(blk_cell BK3.out 1).trans rfl⟩ (fun hHeld=>?_)
     clear hK K
     refine norm_ (a':=?_) ?_ ?_
     rotate_left
     ·show Act.put _ (some 62) _=_
      simp only[Act.put,List.setIfInBounds_toArray,List.set_cons_zero,List.set_cons_succ,i64_w,i32_w]
      rfl
     refine pure_ (i:=7) (N:=some 63) (v:=?_) (a':=?_) #[true,true,true,true,true,true,true,true,false,false,false,false] rfl rfl (any_of HT_.out (by kernel_rfl)) (fun _ _ _ h=>h) (Or.inl ⟨zq64,?_⟩) ?_ ?_
     rotate_left
     ·intro w'
      go_simp
      with_reducible rfl
     rotate_left
     ·simp only[Act.put,List.setIfInBounds_toArray,List.set_cons_zero,List.set_cons_succ,i64_w,i32_w]
      rfl
     refine one_ (i:=8) (N:=some 64) #[true,true,true,true,true,true,true,true,true,false,false,false] rfl rfl (one_of HT_.out (by kernel_rfl)) zq17 (fun K hK=>?_)
     refine value_ (w1:=?_) (v:=?_) zq64 rfl ?_ ?_
     rotate_left 2
     ·go_simp
      constructor
      ·rfl
      ·rfl
     refine hK.out _ _ ⟨(blk_cell (blk_alloc BK8.out _) 1).trans rfl,(blk_cell (blk_alloc BK3.out _) 0).trans rfl,(blk_cell (blk_alloc BK3.out _) 1).trans rfl⟩ (fun hHeld=>?_)
     clear hK K
     refine norm_ (a':=?_) ?_ ?_
     rotate_left
     ·show Act.put _ (some 64) _=_
      simp only[Act.put,List.setIfInBounds_toArray,List.set_cons_zero,List.set_cons_succ,i64_w,i32_w]
      rfl
     refine one_ (i:=9) (N:=some 65) #[true,true,true,true,true,true,true,true,true,true,false,false] rfl rfl (one_of HT_.out (by kernel_rfl)) zq17 (fun K hK=>?_)
     refine Kd.S_append_step k25 (w0:=w) w.heap.size zq64 (.tmp 57) (.tmp 64) 27 25 (.agg #[(.int .i64 0),(.slice none 0 0)]) 32 rfl Try.underlying27 info25 rfl zq17 zq21 u (preL (⟨a1_0,l1_1⟩:S25) J l0_1 kk) (⟨a1_0,l1_1⟩:S25) [.int .i64 a1_0,(.slice Ac l1_1.length cx:Value)] (fun k_=>(k_ < B0∧f k_ < kk) ∨ B0≤k_) (fun k_=>some k_=(.slice Ac l1_1.length cx:Value).ownBlock) rfl rfl (k25_mkM _ _ _ (⟨a1_0,l1_1⟩:S25) (Kd.R_tight rfl HOc.out)) (fun k_ hk_=>⟨.inr (HCB.out k_ hk_.symm),fun he_=>((Kd.S_R HO.out).1 k_ he_.symm).2 hk_⟩) (fun k_ hk_=>.inr (Nat.le_trans HBS.out hk_)) HO.out HB.out (below_size HB.out) ?aK ?_
     (case aK=>have h9:=HLM.out;have h8:=pre_len (⟨a1_0,l1_1⟩:S25) J l0_1 kk;have h7:=HKL.out;omega)
     intro v1 w11 ho hb hg hat
     rw[HY.out] at ho
     have n0_:=zM (blk_grown (g:=g4) BK4.out hg (Kd.S_ne HO.out BK4.out zq17))
     have n1_:=zM (blk_grown (g:=g7) BK7.out hg (Kd.S_ne HO.out BK7.out zq17))
     have n2_:=zM (blk_grown (g:=g8) BK8.out hg (Kd.S_ne HO.out BK8.out zq17))
     have n3_:=zM (blk_grown (g:=g3) BK3.out hg (fun he_=>by have:=HU.out _ he_.symm;have:=H3B.out;omega))
     have n4_:=zM (blk_grown (g:=go) BKo.out hg (fun he_=>by have:=HU.out _ he_.symm;have:=HGO.out;omega))
     have n5_:=zM (Kd.R_grown HOwn.out hg (fun q_ hq_ he_=>by have:=HU.out _ he_.symm;omega))
     have n6_:=zM hb
     have n7_:=zM ho
     have n8_:=zM (out_fresh HU.out hat HBS.out)
     have n9_:=zM (Nat.le_trans HBS.out hg.size)
     have n10_:=zM (Kd.R_grown HE.out hg (fun q_ hq_ he_=>by have:=HU.out _ he_.symm;have:=hq_.1;omega))
     clear BK4 BK7 BK8 BK3 BKo HOwn HB HO HU HBS HE
     have BK4:=n0_
     have BK7:=n1_
     have BK8:=n2_
     have BK3:=n3_
     have BKo:=n4_
     have HOwn:=n5_
     have HB:=n6_
     have HO:=n7_
     have HU:=n8_
     have HBS:=n9_
     have HE:=n10_
     clear n0_ n1_ n2_ n3_ n4_ n5_ n6_ n7_ n8_ n9_ n10_
     clear hat hg ho hb HOc HCB
     obtain⟨Aq,cq,eq_⟩:=Kd.S_slice HO.out
     subst eq_
     refine hK.out _ _ ⟨(blk_cell BK8.out 1).trans rfl,(blk_cell BK3.out 0).trans rfl,(blk_cell BK3.out 1).trans rfl⟩ (fun hHeld=>?_)
     clear hK K
     refine norm_ (a':=?_) ?_ ?_
     rotate_left
     ·show Act.put _ (some 65) _=_
      simp only[Act.put,List.setIfInBounds_toArray,List.set_cons_zero,List.set_cons_succ,i64_w,i32_w]
      rfl
     refine pure_ (i:=10) (N:=some 66) (v:=?_) (a':=?_) #[true,true,true,true,true,true,true,true,true,true,true,false] rfl rfl (any_of HT_.out (by kernel_rfl)) (fun _ _ _ h=>h) (Or.inl ⟨zq64,?_⟩) ?_ ?_
     rotate_left
     ·intro w'
      go_simp
      with_reducible rfl
     rotate_left
     ·simp only[Act.put,List.setIfInBounds_toArray,List.set_cons_zero,List.set_cons_succ,i64_w,i32_w]
      rfl
     refine last_ (i:=11) (N:=none) #[true,true,true,true,true,true,true,true,true,true,true,true] rfl rfl (one_of HT_.out (by kernel_rfl)) zq17 (fun K hK=>?_)
     have hs1:=(blk_cell BK8.out 1).trans rfl
     have hs2:=blk_frozen BK8.out 1
     refine skip_ (w1:=?_) zq64 rfl ?_ ?_
     rotate_left
     ·go_simp
      rfl
     refine hK.out _ _ ?_
     clear hK K
     refine done_ (done_of HT_.out (by kernel_rfl)) ?_
     have n0_:Aside0 ((w11.setCell ⟨g8,1,none⟩ (.slice Aq Y.length cq)).heap[g3]?=some (Obj.cells #[.int .i64 a1_0,.slice A1_1 l1_1.length c1_1] 25 (0,0))):=⟨(blk_far BK3.out (blk_ne BK3.out BK8.out zq17) _)⟩
     have n1_:Aside0 ((w11.setCell ⟨g8,1,none⟩ (.slice Aq Y.length cq)).heap[g4]?=some (Obj.cells #[.int .i64 0,.int .i64 0,.slice none 0 0] 31 (0,0))):=⟨(blk_far BK4.out (blk_ne BK4.out BK8.out zq17) _)⟩
     have n2_:Aside0 ((w11.setCell ⟨g8,1,none⟩ (.slice Aq Y.length cq)).heap[g7]?=some (Obj.cells #[.int .i64 a0_0,.slice (some ⟨go,0,none⟩) l0_1.length cc] 29 (0,0))):=⟨(blk_far BK7.out NE7_8.out _)⟩
     have n3_:Aside0 ((w11.setCell ⟨g8,1,none⟩ (.slice Aq Y.length cq)).heap[g8]?=some (Obj.cells #[.int .i64 a0_0,(.slice Aq Y.length cq)] 29 (0,0))):=⟨(blk_put (cs:=#[.int .i64 a0_0,u]) BK8.out 1 _ rfl)⟩
     have n4_:Aside0 ((w11.setCell ⟨g8,1,none⟩ (.slice Aq Y.length cq)).heap[go]?=some (Obj.cells cur 25 (0,0))):=⟨(blk_far BKo.out (blk_ne BKo.out BK8.out zq17) _)⟩
     have n5_:Aside0 ((Kd.tag f k25).R 25 (w11.setCell ⟨g8,1,none⟩ (.slice Aq Y.length cq)) w.heap.size (fun k=>k < B0) (.slice (some ⟨go,0,none⟩) l0_1.length cc) l0_1.zipIdx):=⟨(Kd.R_mono (Kd.R_far (p:=⟨g8,1,none⟩) (Kd.R_types HOwn.out BK8.out (show ∀ q,q ∈ 25 :: k25.E→q≠29 by decide)) (fun _ hk=>hk.2) _) (fun _ hk=>hk.1))⟩
     have n6_:Aside0 (Kd.S k25 25 (w11.setCell ⟨g8,1,none⟩ (.slice Aq Y.length cq)) w.heap.size (fun k_=>(k_ < B0∧f k_ < kk) ∨ B0≤k_) (.slice Aq Y.length cq) Y):=⟨(Kd.S_mono (Kd.S_far (p:=⟨g8,1,none⟩) (Kd.S_types HO.out BK8.out zq17) (fun _ hk=>hk.2) _) (fun _ hk=>hk.1))⟩
     have n7_:Aside0 (∀ k_,((.slice Aq Y.length cq):Value).ownBlock=some k_→B0≤k_):=⟨HU.out⟩
     have n8_:Aside0 (B0≤(w11.setCell ⟨g8,1,none⟩ (.slice Aq Y.length cq)).heap.size):=⟨zq101⟩
     have n9_:Aside0 (Below w.heap.size w (w11.setCell ⟨g8,1,none⟩ (.slice Aq Y.length cq))):=⟨(below_set HB.out GE8.out)⟩
     have n10_:Aside0 (Kd.R (Kd.int .u8) 5 (w11.setCell ⟨g8,1,none⟩ (.slice Aq Y.length cq)) w.heap.size (fun k=>k < B0∧f k=kk) (.slice Ae x.f1.length ce) x.f1):=⟨(Kd.R_mono (Kd.R_far (p:=⟨g8,1,none⟩) (Kd.R_types HE.out BK8.out (show ∀ q,q ∈ 5 :: (Kd.int .u8).E→q≠29 by decide)) (fun _ hk=>hk.2) _) (fun _ hk=>hk.1))⟩
     clear hs1 hs2 hHeld BK3 BK4 BK7 BK8 BKo HOwn HO HU HBS HB HE
     generalize w11.setCell ⟨g8,1,none⟩ (.slice Aq Y.length cq)=w12 at n0_ n1_ n2_ n3_ n4_ n5_ n6_ n7_ n8_ n9_ n10_ ⊢
     have BK3:=n0_
     have BK4:=n1_
     have BK7:=n2_
     have BK8:=n3_
     have BKo:=n4_
     have HOwn:=n5_
     have HO:=n6_
     have HU:=n7_
     have HBS:=n8_
     have HB:=n9_
     have HE:=n10_
     clear n0_ n1_ n2_ n3_ n4_ n5_ n6_ n7_ n8_ n9_ n10_
     obtain⟨u2,hu2⟩:∃ u2,Aside0 (u2=Value.slice Aq Y.length cq):=⟨_,⟨rfl⟩⟩
     rw[← hu2.out] at BK8 HO HU
     go_wp2_with fail
     have n0_:=zM (below_drew1 HB.out)
     have n1_:=zM (blk_drew BK3.out)
     have n2_:=zM (blk_drew BK4.out)
     have n3_:=zM (blk_drew BK7.out)
     have n4_:=zM (blk_drew BK8.out)
     have n5_:=zM (blk_drew BKo.out)
     have n6_:=zM (Kd.R_drew HOwn.out)
     have n7_:=zM (Kd.S_drew HO.out)
     have n8_:=zM (show B0≤w12.drew.heap.size from HBS.out)
     have n9_:=zM (Kd.R_drew HE.out)
     clear HB BK3 BK4 BK7 BK8 BKo HOwn HO HBS HE
     have HB:=n0_
     have BK3:=n1_
     have BK4:=n2_
     have BK7:=n3_
     have BK8:=n4_
     have BKo:=n5_
     have HOwn:=n6_
     have HO:=n7_
     have HBS:=n8_
     have HE:=n9_
     clear n0_ n1_ n2_ n3_ n4_ n5_ n6_ n7_ n8_ n9_
     refine start_ (n:=11) (S:=fun w'=>w'.cell? ⟨g8,1,none⟩=some u2∧w'.cell? ⟨g7,1,none⟩=some (.slice (some ⟨go,0,none⟩) l0_1.length cc)∧w'.cell? ⟨go,kk*2,none⟩=some (.int .i64 x.f0)∧w'.cell? ⟨go,kk*2+1,none⟩=some (.slice Ae x.f1.length ce)) (ds:=[10]) #[false,false,false,false,false,false,false,false,false,false,false] (by kernel_rfl) rfl rfl ⟨(blk_cell BK8.out 1).trans rfl,(blk_cell BK7.out 1).trans rfl,(blk_cell BKo.out (kk*2)).trans HC0.out,(blk_cell BKo.out (kk*2+1)).trans HC1.out⟩ (fun hHeld=>?_);refine with_tabW spec_InstallKey.tab20 spec_InstallKey.bits20 (fun HT_ HW_=>?_)
     generalize w12.drew=w9 at HB BK3 BK4 BK7 BK8 BKo HE HOwn HO HBS hHeld ⊢
     refine pure_ (i:=0) (N:=some 67) (v:=?_) (a':=?_) #[true,false,false,false,false,false,false,false,false,false,false] rfl rfl (any_of HT_.out (by kernel_rfl)) (fun _ _ _ h=>h) (Or.inl ⟨zq64,?_⟩) ?_ ?_
     rotate_left
     ·intro w'
      go_simp
      with_reducible rfl
     rotate_left
     ·simp only[Act.put,List.setIfInBounds_toArray,List.set_cons_zero,List.set_cons_succ,i64_w,i32_w]
      rfl
     refine take_ (i:=1) (N:=some 68) (v:=?_) (a':=?_) #[true,true,false,false,false,false,false,false,false,false,false] rfl rfl (take_ofW HT_.out HW_.out (by kernel_rfl)) (fun _ _ _ h=>h) (Or.inl ⟨zq64,?_⟩) hHeld ?_ ?_
     rotate_left
     ·rintro w' ⟨s0,s1,s2,s3⟩
      go_simp
      with_reducible rfl
     rotate_left
     ·simp only[Act.put,List.setIfInBounds_toArray,List.set_cons_zero,List.set_cons_succ,i64_w,i32_w]
      rfl
     refine pure_ (i:=2) (N:=some 69) (v:=?_) (a':=?_) #[true,true,true,false,false,false,false,false,false,false,false] rfl rfl (any_of HT_.out (by kernel_rfl)) (fun _ _ _ h=>h) (Or.inl ⟨zq64,?_⟩) ?_ ?_
     rotate_left
     ·intro w'
      go_simp
      with_reducible rfl
     rotate_left
     ·simp only[Act.put,List.setIfInBounds_toArray,List.set_cons_zero,List.set_cons_succ,i64_w,i32_w]
      rfl
     refine take_ (i:=3) (N:=some 70) (v:=?_) (a':=?_) #[true,true,true,true,false,false,false,false,false,false,false] rfl rfl (take_ofW HT_.out HW_.out (by kernel_rfl)) (fun _ _ _ h=>h) (Or.inl ⟨zq64,?_⟩) hHeld ?_ ?_
     rotate_left
     ·rintro w' ⟨s0,s1,s2,s3⟩
      go_simp
      with_reducible rfl
     rotate_left
     ·simp only[Act.put,List.setIfInBounds_toArray,List.set_cons_zero,List.set_cons_succ,i64_w,i32_w]
      rfl
     refine pure_ (i:=4) (N:=some 71) (v:=?_) (a':=?_) #[true,true,true,true,true,false,false,false,false,false,false] rfl rfl (any_of HT_.out (by kernel_rfl)) (fun _ _ _ h=>h) (Or.inl ⟨zq64,?_⟩) ?_ ?_
     rotate_left
     ·intro w'
      go_simp
      with_reducible rfl
     rotate_left
     ·simp only[Act.put,List.setIfInBounds_toArray,List.set_cons_zero,List.set_cons_succ,i64_w,i32_w]
      rfl
     refine pure_ (i:=5) (N:=some 72) (v:=?_) (a':=?_) #[true,true,true,true,true,true,false,false,false,false,false] rfl rfl (any_of HT_.out (by kernel_rfl)) (fun _ _ _ h=>h) (Or.inl ⟨zq64,?_⟩) ?_ ?_
     rotate_left
     ·intro w'
      go_simp
      with_reducible rfl
     rotate_left
     ·simp only[Act.put,List.setIfInBounds_toArray,List.set_cons_zero,List.set_cons_succ,i64_w,i32_w]
      rfl
     refine take_ (i:=6) (N:=some 73) (v:=?_) (a':=?_) #[true,true,true,true,true,true,true,false,false,false,false] rfl rfl (take_ofW HT_.out HW_.out (by kernel_rfl)) (fun _ _ _ h=>h) (Or.inl ⟨zq64,?_⟩) hHeld ?_ ?_
     rotate_left
     ·rintro w' ⟨s0,s1,s2,s3⟩
      go_simp
      with_reducible rfl
     rotate_left
     ·simp only[Act.put,List.setIfInBounds_toArray,List.set_cons_zero,List.set_cons_succ,i64_w,i32_w]
      rfl
     refine one_ (i:=7) (N:=some 74) #[true,true,true,true,true,true,true,true,false,false,false] rfl rfl (one_of HT_.out (by kernel_rfl)) zq17 (fun K hK=>?_)
     refine value_ (w1:=?_) (v:=?_) zq64 rfl ?_ ?_
     rotate_left 2
     ·go_simp
      constructor
      ·rfl
      ·rfl
     refine hK.out _ _ ⟨(blk_cell (blk_alloc BK8.out _) 1).trans rfl,(blk_cell (blk_alloc BK7.out _) 1).trans rfl,(blk_cell (blk_alloc BKo.out _) (kk*2)).trans HC0.out,(blk_cell (blk_alloc BKo.out _) (kk*2+1)).trans HC1.out⟩ (fun hHeld=>?_)
     clear hK K
     refine norm_ (a':=?_) ?_ ?_
     rotate_left
     ·show Act.put _ (some 74) _=_
      simp only[Act.put,List.setIfInBounds_toArray,List.set_cons_zero,List.set_cons_succ,i64_w,i32_w]
      rfl
     refine one_ (i:=8) (N:=some 75) #[true,true,true,true,true,true,true,true,true,false,false] rfl rfl (one_of HT_.out (by kernel_rfl)) zq17 (fun K hK=>?_)
     refine Kd.S_append_step k25 (w0:=w) w.heap.size zq64 (.tmp 68) (.tmp 74) 27 25 (.agg #[(.int .i64 0),(.slice none 0 0)]) 32 rfl Try.underlying27 info25 rfl zq17 zq21 u2 Y x [.int .i64 x.f0,.slice Ae x.f1.length ce] (fun k_=>(k_ < B0∧f k_ < kk+1) ∨ B0≤k_) (fun k_=>k_ < B0∧f k_=kk) rfl rfl (k25_mkM _ _ _ x HE.out) (fun k_ hk_=>⟨.inl ⟨hk_.1,by have:=hk_.2;omega⟩,out_ne HO.out k_ hk_⟩) (fun k_ hk_=>.inr (Nat.le_trans HBS.out hk_)) (out_open HO.out) HB.out (below_size HB.out) ?aL ?_
     (case aL=>have h9:=HLM.out;have h8:=HYL.out;have h7:=hlt.out;omega)
     intro v1 w11 ho hb hg hat
     clear HE
     rw[← HKN.out] at ho
     have n0_:=zM (blk_grown (g:=g4) BK4.out hg (Kd.S_ne HO.out BK4.out zq17))
     have n1_:=zM (blk_grown (g:=g7) BK7.out hg (Kd.S_ne HO.out BK7.out zq17))
     have n2_:=zM (blk_grown (g:=g8) BK8.out hg (Kd.S_ne HO.out BK8.out zq17))
     have n3_:=zM (blk_grown (g:=g3) BK3.out hg (fun he_=>by have:=HU.out _ he_.symm;have:=H3B.out;omega))
     have n4_:=zM (blk_grown (g:=go) BKo.out hg (fun he_=>by have:=HU.out _ he_.symm;have:=HGO.out;omega))
     have n5_:=zM (Kd.R_grown HOwn.out hg (fun q_ hq_ he_=>by have:=HU.out _ he_.symm;omega))
     have n6_:=zM hb
     have n7_:=zM ho
     have n8_:=zM (out_fresh HU.out hat HBS.out)
     have n9_:=zM (Nat.le_trans HBS.out hg.size)
     clear BK4 BK7 BK8 BK3 BKo HOwn HB HO HU HBS
     have BK4:=n0_
     have BK7:=n1_
     have BK8:=n2_
     have BK3:=n3_
     have BKo:=n4_
     have HOwn:=n5_
     have HB:=n6_
     have HO:=n7_
     have HU:=n8_
     have HBS:=n9_
     clear n0_ n1_ n2_ n3_ n4_ n5_ n6_ n7_ n8_ n9_
     clear hat hg ho hb
     obtain⟨Aq,cq,eq_⟩:=Kd.S_slice HO.out
     subst eq_
     refine hK.out _ _ ⟨(blk_cell BK8.out 1).trans rfl,(blk_cell BK7.out 1).trans rfl,(blk_cell BKo.out (kk*2)).trans HC0.out,(blk_cell BKo.out (kk*2+1)).trans HC1.out⟩ (fun hHeld=>?_)
     clear hK K
     refine norm_ (a':=?_) ?_ ?_
     rotate_left
     ·show Act.put _ (some 75) _=_
      simp only[Act.put,List.setIfInBounds_toArray,List.set_cons_zero,List.set_cons_succ,i64_w,i32_w]
      rfl
     refine pure_ (i:=9) (N:=some 76) (v:=?_) (a':=?_) #[true,true,true,true,true,true,true,true,true,true,false] rfl rfl (any_of HT_.out (by kernel_rfl)) (fun _ _ _ h=>h) (Or.inl ⟨zq64,?_⟩) ?_ ?_
     rotate_left
     ·intro w'
      go_simp
      with_reducible rfl
     rotate_left
     ·simp only[Act.put,List.setIfInBounds_toArray,List.set_cons_zero,List.set_cons_succ,i64_w,i32_w]
      rfl
     refine last_ (i:=10) (N:=none) #[true,true,true,true,true,true,true,true,true,true,true] rfl rfl (one_of HT_.out (by kernel_rfl)) zq17 (fun K hK=>?_)
     have hs1:=(blk_cell BK8.out 1).trans rfl
     have hs2:=blk_frozen BK8.out 1
     refine skip_ (w1:=?_) zq64 rfl ?_ ?_
     rotate_left
     ·go_simp
      rfl
     refine hK.out _ _ ?_
     clear hK K
     refine done_ (done_of HT_.out (by kernel_rfl)) ?_
     try go_wp2
     go_roundw
     case rel=>exact⟨kk+1,true,_,hlt.out,congrArg _ (wrap_next kk _ hlt.out HLB.out),rfl,⟨HD2.out⟩,⟨(blk_far BK3.out (blk_ne BK3.out BK8.out zq17) _)⟩,⟨(blk_far BK4.out (blk_ne BK4.out BK8.out zq17) _)⟩,⟨(blk_far BK7.out NE7_8.out _)⟩,⟨(blk_put (cs:=#[.int .i64 a0_0,u2]) BK8.out 1 _ rfl)⟩,⟨(blk_far BKo.out (blk_ne BKo.out BK8.out zq17) _)⟩,⟨(Kd.R_mono (Kd.R_far (p:=⟨g8,1,none⟩) (Kd.R_types HOwn.out BK8.out (show ∀ q,q ∈ 25 :: k25.E→q≠29 by decide)) (fun _ hk=>hk.2) _) (fun _ hk=>hk.1))⟩,⟨(Kd.S_mono (Kd.S_far (p:=⟨g8,1,none⟩) (Kd.S_types HO.out BK8.out zq17) (fun _ hk=>hk.2) _) (fun _ hk=>hk.1))⟩,⟨HU.out⟩,⟨zq101⟩,⟨(below_set HB.out GE8.out)⟩⟩
     case measure=>exact next_less kk _ hlt.out HLB.out
    ·have hJe:¬ kk=J:=fun e=>hx (hJk2.mpr e)
     have HKN:=zM (hBe zq21)
     have hdx:decide (a1_0 < x.f0)=false:=decide_eq_false hx
     have HD2:Aside0 (false=decide (J < kk+1)):=⟨by rw[decide_eq_false (show ¬ J < kk+1 by omega)]⟩
     clear hA hBe hCe hJk hJ HD hJk2 hx hJe
     have HYL:Aside0 ((preL (⟨a1_0,l1_1⟩:S25) J l0_1 kk).length≤kk+2):=⟨by have:=pre_len (⟨a1_0,l1_1⟩:S25) J l0_1 kk;omega⟩
     go_wp2_with fail
     go_quiet (fail)
     have n0_:=zM (pw_below_drewN HB.out nq)
     have n1_:=zM (blk_drewN BK3.out nq)
     have n2_:=zM (blk_drewN BK4.out nq)
     have n3_:=zM (blk_drewN BK7.out nq)
     have n4_:=zM (blk_drewN BK8.out nq)
     have n5_:=zM (blk_drewN BKo.out nq)
     have n6_:=zM (Kd.R_drewN HOwn.out nq)
     have n7_:=zM (Kd.S_drewN HO.out nq)
     have n8_:=zM (show B0≤(wr.drewN nq).heap.size from HBS.out)
     have n9_:=zM (Kd.R_drewN HE.out nq)
     clear HB BK3 BK4 BK7 BK8 BKo HOwn HO HBS HE hk0 hk1 h71 hx0
     have HB:=n0_
     have BK3:=n1_
     have BK4:=n2_
     have BK7:=n3_
     have BK8:=n4_
     have BKo:=n5_
     have HOwn:=n6_
     have HO:=n7_
     have HBS:=n8_
     have HE:=n9_
     clear n0_ n1_ n2_ n3_ n4_ n5_ n6_ n7_ n8_ n9_
     generalize wr.drewN nq=wq at HB BK3 BK4 BK7 BK8 BKo HE HOwn HO HBS ⊢
     go_wp2_with fail
     have n0_:=zM (below_drew1 HB.out)
     have n1_:=zM (blk_drew BK3.out)
     have n2_:=zM (blk_drew BK4.out)
     have n3_:=zM (blk_drew BK7.out)
     have n4_:=zM (blk_drew BK8.out)
     have n5_:=zM (blk_drew BKo.out)
     have n6_:=zM (Kd.R_drew HOwn.out)
     have n7_:=zM (Kd.S_drew HO.out)
     have n8_:=zM (show B0≤wq.drew.heap.size from HBS.out)
     have n9_:=zM (Kd.R_drew HE.out)
     clear HB BK3 BK4 BK7 BK8 BKo HOwn HO HBS HE
     have HB:=n0_
     have BK3:=n1_
     have BK4:=n2_
     have BK7:=n3_
     have BK8:=n4_
     have BKo:=n5_
     have HOwn:=n6_
     have HO:=n7_
     have HBS:=n8_
     have HE:=n9_
     clear n0_ n1_ n2_ n3_ n4_ n5_ n6_ n7_ n8_ n9_
     refine start_ (n:=11) (S:=fun w'=>w'.cell? ⟨g8,1,none⟩=some u∧w'.cell? ⟨g7,1,none⟩=some (.slice (some ⟨go,0,none⟩) l0_1.length cc)∧w'.cell? ⟨go,kk*2,none⟩=some (.int .i64 x.f0)∧w'.cell? ⟨go,kk*2+1,none⟩=some (.slice Ae x.f1.length ce)) (ds:=[10]) #[false,false,false,false,false,false,false,false,false,false,false] (by kernel_rfl) rfl rfl ⟨(blk_cell BK8.out 1).trans rfl,(blk_cell BK7.out 1).trans rfl,(blk_cell BKo.out (kk*2)).trans HC0.out,(blk_cell BKo.out (kk*2+1)).trans HC1.out⟩ (fun hHeld=>?_);refine with_tabW spec_InstallKey.tab20 spec_InstallKey.bits20 (fun HT_ HW_=>?_)
     generalize wq.drew=w9 at HB BK3 BK4 BK7 BK8 BKo HE HOwn HO HBS hHeld ⊢
     refine pure_ (i:=0) (N:=some 67) (v:=?_) (a':=?_) #[true,false,false,false,false,false,false,false,false,false,false] rfl rfl (any_of HT_.out (by kernel_rfl)) (fun _ _ _ h=>h) (Or.inl ⟨zq64,?_⟩) ?_ ?_
     rotate_left
     ·intro w'
      go_simp
      with_reducible rfl
     rotate_left
     ·simp only[Act.put,List.setIfInBounds_toArray,List.set_cons_zero,List.set_cons_succ,i64_w,i32_w]
      rfl
     refine take_ (i:=1) (N:=some 68) (v:=?_) (a':=?_) #[true,true,false,false,false,false,false,false,false,false,false] rfl rfl (take_ofW HT_.out HW_.out (by kernel_rfl)) (fun _ _ _ h=>h) (Or.inl ⟨zq64,?_⟩) hHeld ?_ ?_
     rotate_left
     ·rintro w' ⟨s0,s1,s2,s3⟩
      go_simp
      with_reducible rfl
     rotate_left
     ·simp only[Act.put,List.setIfInBounds_toArray,List.set_cons_zero,List.set_cons_succ,i64_w,i32_w]
      rfl
     refine pure_ (i:=2) (N:=some 69) (v:=?_) (a':=?_) #[true,true,true,false,false,false,false,false,false,false,false] rfl rfl (any_of HT_.out (by kernel_rfl)) (fun _ _ _ h=>h) (Or.inl ⟨zq64,?_⟩) ?_ ?_
     rotate_left
     ·intro w'
      go_simp
      with_reducible rfl
     rotate_left
     ·simp only[Act.put,List.setIfInBounds_toArray,List.set_cons_zero,List.set_cons_succ,i64_w,i32_w]
      rfl
     refine take_ (i:=3) (N:=some 70) (v:=?_) (a':=?_) #[true,true,true,true,false,false,false,false,false,false,false] rfl rfl (take_ofW HT_.out HW_.out (by kernel_rfl)) (fun _ _ _ h=>h) (Or.inl ⟨zq64,?_⟩) hHeld ?_ ?_
     rotate_left
     ·rintro w' ⟨s0,s1,s2,s3⟩
      go_simp
      with_reducible rfl
     rotate_left
     ·simp only[Act.put,List.setIfInBounds_toArray,List.set_cons_zero,List.set_cons_succ,i64_w,i32_w]
      rfl
     refine pure_ (i:=4) (N:=some 71) (v:=?_) (a':=?_) #[true,true,true,true,true,false,false,false,false,false,false] rfl rfl (any_of HT_.out (by kernel_rfl)) (fun _ _ _ h=>h) (Or.inl ⟨zq64,?_⟩) ?_ ?_
     rotate_left
     ·intro w'
      go_simp
      with_reducible rfl
     rotate_left
     ·simp only[Act.put,List.setIfInBounds_toArray,List.set_cons_zero,List.set_cons_succ,i64_w,i32_w]
      rfl
     refine pure_ (i:=5) (N:=some 72) (v:=?_) (a':=?_) #[true,true,true,true,true,true,false,false,false,false,false] rfl rfl (any_of HT_.out (by kernel_rfl)) (fun _ _ _ h=>h) (Or.inl ⟨zq64,?_⟩) ?_ ?_
     rotate_left
     ·intro w'
      go_simp
      with_reducible rfl
     rotate_left
     ·simp only[Act.put,List.setIfInBounds_toArray,List.set_cons_zero,List.set_cons_succ,i64_w,i32_w]
      rfl
     refine take_ (i:=6) (N:=some 73) (v:=?_) (a':=?_) #[true,true,true,true,true,true,true,false,false,false,false] rfl rfl (take_ofW HT_.out HW_.out (by kernel_rfl)) (fun _ _ _ h=>h) (Or.inl ⟨zq64,?_⟩) hHeld ?_ ?_
     rotate_left
     ·rintro w' ⟨s0,s1,s2,s3⟩
      go_simp
      with_reducible rfl
     rotate_left
     ·simp only[Act.put,List.setIfInBounds_toArray,List.set_cons_zero,List.set_cons_succ,i64_w,i32_w]
      rfl
     refine one_ (i:=7) (N:=some 74) #[true,true,true,true,true,true,true,true,false,false,false] rfl rfl (one_of HT_.out (by kernel_rfl)) zq17 (fun K hK=>?_)
     refine value_ (w1:=?_) (v:=?_) zq64 rfl ?_ ?_
     rotate_left 2
     ·go_simp
      constructor
      ·rfl
      ·rfl
     refine hK.out _ _ ⟨(blk_cell (blk_alloc BK8.out _) 1).trans rfl,(blk_cell (blk_alloc BK7.out _) 1).trans rfl,(blk_cell (blk_alloc BKo.out _) (kk*2)).trans HC0.out,(blk_cell (blk_alloc BKo.out _) (kk*2+1)).trans HC1.out⟩ (fun hHeld=>?_)
     clear hK K
     refine norm_ (a':=?_) ?_ ?_
     rotate_left
     ·show Act.put _ (some 74) _=_
      simp only[Act.put,List.setIfInBounds_toArray,List.set_cons_zero,List.set_cons_succ,i64_w,i32_w]
      rfl
     refine one_ (i:=8) (N:=some 75) #[true,true,true,true,true,true,true,true,true,false,false] rfl rfl (one_of HT_.out (by kernel_rfl)) zq17 (fun K hK=>?_)
     refine Kd.S_append_step k25 (w0:=w) w.heap.size zq64 (.tmp 68) (.tmp 74) 27 25 (.agg #[(.int .i64 0),(.slice none 0 0)]) 32 rfl Try.underlying27 info25 rfl zq17 zq21 u (preL (⟨a1_0,l1_1⟩:S25) J l0_1 kk) x [.int .i64 x.f0,.slice Ae x.f1.length ce] (fun k_=>(k_ < B0∧f k_ < kk+1) ∨ B0≤k_) (fun k_=>k_ < B0∧f k_=kk) rfl rfl (k25_mkM _ _ _ x HE.out) (fun k_ hk_=>⟨.inl ⟨hk_.1,by have:=hk_.2;omega⟩,out_ne HO.out k_ hk_⟩) (fun k_ hk_=>.inr (Nat.le_trans HBS.out hk_)) (out_open HO.out) HB.out (below_size HB.out) ?aL ?_
     (case aL=>have h9:=HLM.out;have h8:=HYL.out;have h7:=hlt.out;omega)
     intro v1 w11 ho hb hg hat
     clear HE
     rw[← HKN.out] at ho
     have n0_:=zM (blk_grown (g:=g4) BK4.out hg (Kd.S_ne HO.out BK4.out zq17))
     have n1_:=zM (blk_grown (g:=g7) BK7.out hg (Kd.S_ne HO.out BK7.out zq17))
     have n2_:=zM (blk_grown (g:=g8) BK8.out hg (Kd.S_ne HO.out BK8.out zq17))
     have n3_:=zM (blk_grown (g:=g3) BK3.out hg (fun he_=>by have:=HU.out _ he_.symm;have:=H3B.out;omega))
     have n4_:=zM (blk_grown (g:=go) BKo.out hg (fun he_=>by have:=HU.out _ he_.symm;have:=HGO.out;omega))
     have n5_:=zM (Kd.R_grown HOwn.out hg (fun q_ hq_ he_=>by have:=HU.out _ he_.symm;omega))
     have n6_:=zM hb
     have n7_:=zM ho
     have n8_:=zM (out_fresh HU.out hat HBS.out)
     have n9_:=zM (Nat.le_trans HBS.out hg.size)
     clear BK4 BK7 BK8 BK3 BKo HOwn HB HO HU HBS
     have BK4:=n0_
     have BK7:=n1_
     have BK8:=n2_
     have BK3:=n3_
     have BKo:=n4_
     have HOwn:=n5_
     have HB:=n6_
     have HO:=n7_
     have HU:=n8_
     have HBS:=n9_
     clear n0_ n1_ n2_ n3_ n4_ n5_ n6_ n7_ n8_ n9_
     clear hat hg ho hb
     obtain⟨Aq,cq,eq_⟩:=Kd.S_slice HO.out
     subst eq_
     refine hK.out _ _ ⟨(blk_cell BK8.out 1).trans rfl,(blk_cell BK7.out 1).trans rfl,(blk_cell BKo.out (kk*2)).trans HC0.out,(blk_cell BKo.out (kk*2+1)).trans HC1.out⟩ (fun hHeld=>?_)
     clear hK K
     refine norm_ (a':=?_) ?_ ?_
     rotate_left
     ·show Act.put _ (some 75) _=_
      simp only[Act.put,List.setIfInBounds_toArray,List.set_cons_zero,List.set_cons_succ,i64_w,i32_w]
      rfl
     refine pure_ (i:=9) (N:=some 76) (v:=?_) (a':=?_) #[true,true,true,true,true,true,true,true,true,true,false] rfl rfl (any_of HT_.out (by kernel_rfl)) (fun _ _ _ h=>h) (Or.inl ⟨zq64,?_⟩) ?_ ?_
     rotate_left
     ·intro w'
      go_simp
      with_reducible rfl
     rotate_left
     ·simp only[Act.put,List.setIfInBounds_toArray,List.set_cons_zero,List.set_cons_succ,i64_w,i32_w]
      rfl
     refine last_ (i:=10) (N:=none) #[true,true,true,true,true,true,true,true,true,true,true] rfl rfl (one_of HT_.out (by kernel_rfl)) zq17 (fun K hK=>?_)
     have hs1:=(blk_cell BK8.out 1).trans rfl
     have hs2:=blk_frozen BK8.out 1
     refine skip_ (w1:=?_) zq64 rfl ?_ ?_
     rotate_left
     ·go_simp
      rfl
     refine hK.out _ _ ?_
     clear hK K
     refine done_ (done_of HT_.out (by kernel_rfl)) ?_
     try go_wp2
     go_roundw
     case rel=>exact⟨kk+1,false,_,hlt.out,congrArg _ (wrap_next kk _ hlt.out HLB.out),rfl,⟨HD2.out⟩,⟨(blk_far BK3.out (blk_ne BK3.out BK8.out zq17) _)⟩,⟨(blk_far BK4.out (blk_ne BK4.out BK8.out zq17) _)⟩,⟨(blk_far BK7.out NE7_8.out _)⟩,⟨(blk_put (cs:=#[.int .i64 a0_0,u]) BK8.out 1 _ rfl)⟩,⟨(blk_far BKo.out (blk_ne BKo.out BK8.out zq17) _)⟩,⟨(Kd.R_mono (Kd.R_far (p:=⟨g8,1,none⟩) (Kd.R_types HOwn.out BK8.out (show ∀ q,q ∈ 25 :: k25.E→q≠29 by decide)) (fun _ hk=>hk.2) _) (fun _ hk=>hk.1))⟩,⟨(Kd.S_mono (Kd.S_far (p:=⟨g8,1,none⟩) (Kd.S_types HO.out BK8.out zq17) (fun _ hk=>hk.2) _) (fun _ hk=>hk.1))⟩,⟨HU.out⟩,⟨zq101⟩,⟨(below_set HB.out GE8.out)⟩⟩
     case measure=>exact next_less kk _ hlt.out HLB.out
  ·have hke:kk=l0_1.length:=by omega
   have hd0:decide (kk < l0_1.length)=false:=decide_eq_false hl
   cases d with
   | true=>
    have hJ:J < kk:=of_decide_eq_true HD.out.symm
    have HO2:Aside0 (Kd.S k25 25 wr w.heap.size (fun k_=>(k_ < B0∧f k_ < kk) ∨ B0≤k_) u Y):=⟨by
     have h9:=HO.out
     rw[hke,pre_end_late _ _ _ zq21,← hke,HYZ.out] at h9
     exact h9⟩
    clear HO hJ HD hke hl hk
    have HO:=HO2
    clear HO2
    obtain⟨Aq,cq,eq_⟩:=Kd.S_slice HO.out
    subst eq_
    have h80:wr.cell? ⟨g8,0,none⟩=some (.int .i64 a0_0):=(blk_cell BK8.out 0).trans rfl
    have h81:wr.cell? ⟨g8,1,none⟩=some (.slice Aq Y.length cq):=(blk_cell BK8.out 1).trans rfl
    go_wp2_with (first
      | ((with_reducible refine gate_store (t:=31) (p:=4) rfl ?_);refine row_event ?hg (ty:=31) (p:=4) (y:=?yo_182) ?ho ?hn (g:=g4) (old:=#[.int .i64 0,.int .i64 0,.slice none 0 0]) (e:=31) (cells:=#[.int .i64 0,.int .i64 a0_0,.slice Aq Y.length cq]) ?hx ?hy ?hk ?hi ?hd ?h1 ?_;(case ho=>rfl);(case hg=>rfl);(case hn=>rfl);(case hx=>rfl);(case hy=>rfl);(case hk=>exact zq2);(case hi=>kernel_rfl);(case hd=>rfl);(case h1=>exact zq63);intro wr_ hbk hgr;have BK4o:=BK4;have hgr9:=zM hgr;have n0_:=zM (below_grown1 zq0 hgr GE4.out);have n1_:=zM hbk;clear HB BK4;have HB:=n0_;have BK4:=n1_;clear n0_ n1_;clear hbk hgr;have n9_:=zM (Kd.S_mono (Kd.S_grown (Kd.S_types HO.out BK4o.out zq17) hgr9.out (fun k hk he=>hk.2 (Option.some.inj he))) (fun _ hk=>hk.1));clear HO;have HO:=n9_;clear n9_))
    refine bodyPost_ret (results_cell_row rfl _ _ g4 31 #[.int .i64 0,.int .i64 a0_0,.slice Aq Y.length cq] (0,0) _ rfl zq2 Try.underlying31 rfl (by kernel_rfl)) rfl ?_
    exact⟨_,rfl,Kd.S_mono HO.out (fun _ _=>trivial),HB.out⟩
   | false=>
    have hJ:¬ J < kk:=of_decide_eq_false HD.out.symm
    have HY:Aside0 ((preL (⟨a1_0,l1_1⟩:S25) J l0_1 kk) ++ [(⟨a1_0,l1_1⟩:S25)]=Y):=⟨by
     have h8:=gtL_le a1_0 l0_1
     rw[HJ.out] at h8
     rw[← HYZ.out,hke]
     exact pre_end_here _ _ _ zq21⟩
    clear HD hJ hl hk
    go_wp2_with fail
    have n0_:=zM (below_drew1 HB.out)
    have n1_:=zM (blk_drew BK3.out)
    have n2_:=zM (blk_drew BK4.out)
    have n3_:=zM (blk_drew BK7.out)
    have n4_:=zM (blk_drew BK8.out)
    have n5_:=zM (blk_drew BKo.out)
    have n6_:=zM (Kd.R_drew HOwn.out)
    have n7_:=zM (Kd.S_drew HO.out)
    have n8_:=zM (show B0≤wr.drew.heap.size from HBS.out)
    clear HB BK3 BK4 BK7 BK8 BKo HOwn HO HBS h71
    have HB:=n0_
    have BK3:=n1_
    have BK4:=n2_
    have BK7:=n3_
    have BK8:=n4_
    have BKo:=n5_
    have HOwn:=n6_
    have HO:=n7_
    have HBS:=n8_
    clear n0_ n1_ n2_ n3_ n4_ n5_ n6_ n7_ n8_
    refine start_ (n:=12) (S:=fun w'=>w'.cell? ⟨g8,1,none⟩=some u∧w'.cell? ⟨g3,0,none⟩=some (.int .i64 a1_0)∧w'.cell? ⟨g3,1,none⟩=some (.slice A1_1 l1_1.length c1_1)) (ds:=[11]) #[false,false,false,false,false,false,false,false,false,false,false,false] (by kernel_rfl) rfl rfl ⟨(blk_cell BK8.out 1).trans rfl,(blk_cell BK3.out 0).trans rfl,(blk_cell BK3.out 1).trans rfl⟩ (fun hHeld=>?_);refine with_tabW spec_InstallKey.tab22 spec_InstallKey.bits22 (fun HT_ HW_=>?_)
    generalize wr.drew=w9 at HB BK3 BK4 BK7 BK8 BKo HOwn HO HBS hHeld ⊢
    refine pure_ (i:=0) (N:=some 79) (v:=?_) (a':=?_) #[true,false,false,false,false,false,false,false,false,false,false,false] rfl rfl (any_of HT_.out (by kernel_rfl)) (fun _ _ _ h=>h) (Or.inl ⟨zq64,?_⟩) ?_ ?_
    rotate_left
    ·intro w'
     go_simp
     with_reducible rfl
    rotate_left
    ·simp only[Act.put,List.setIfInBounds_toArray,List.set_cons_zero,List.set_cons_succ,i64_w,i32_w]
     rfl
    refine take_ (i:=1) (N:=some 80) (v:=?_) (a':=?_) #[true,true,false,false,false,false,false,false,false,false,false,false] rfl rfl (take_ofW HT_.out HW_.out (by kernel_rfl)) (fun _ _ _ h=>h) (Or.inl ⟨zq64,?_⟩) hHeld ?_ ?_
    rotate_left
    ·rintro w' ⟨s0,s1,s2⟩
     go_simp
     with_reducible rfl
    rotate_left
    ·simp only[Act.put,List.setIfInBounds_toArray,List.set_cons_zero,List.set_cons_succ,i64_w,i32_w]
     rfl
    refine pure_ (i:=2) (N:=some 81) (v:=?_) (a':=?_) #[true,true,true,false,false,false,false,false,false,false,false,false] rfl rfl (any_of HT_.out (by kernel_rfl)) (fun _ _ _ h=>h) (Or.inl ⟨zq64,?_⟩) ?_ ?_
    rotate_left
    ·intro w'
     go_simp
     with_reducible rfl
    rotate_left
    ·simp only[Act.put,List.setIfInBounds_toArray,List.set_cons_zero,List.set_cons_succ,i64_w,i32_w]
     rfl
    refine take_ (i:=3) (N:=some 82) (v:=?_) (a':=?_) #[true,true,true,true,false,false,false,false,false,false,false,false] rfl rfl (take_ofW HT_.out HW_.out (by kernel_rfl)) (fun _ _ _ h=>h) (Or.inl ⟨zq64,?_⟩) hHeld ?_ ?_
    rotate_left
    ·rintro w' ⟨s0,s1,s2⟩
     go_simp
     with_reducible rfl
    rotate_left
    ·simp only[Act.put,List.setIfInBounds_toArray,List.set_cons_zero,List.set_cons_succ,i64_w,i32_w]
     rfl
    refine pure_ (i:=4) (N:=some 83) (v:=?_) (a':=?_) #[true,true,true,true,true,false,false,false,false,false,false,false] rfl rfl (any_of HT_.out (by kernel_rfl)) (fun _ _ _ h=>h) (Or.inl ⟨zq64,?_⟩) ?_ ?_
    rotate_left
    ·intro w'
     go_simp
     with_reducible rfl
    rotate_left
    ·simp only[Act.put,List.setIfInBounds_toArray,List.set_cons_zero,List.set_cons_succ,i64_w,i32_w]
     rfl
    refine take_ (i:=5) (N:=some 84) (v:=?_) (a':=?_) #[true,true,true,true,true,true,false,false,false,false,false,false] rfl rfl (take_ofW HT_.out HW_.out (by kernel_rfl)) (fun _ _ _ h=>h) (Or.inl ⟨zq64,?_⟩) hHeld ?_ ?_
    rotate_left
    ·rintro w' ⟨s0,s1,s2⟩
     go_simp
     with_reducible rfl
    rotate_left
    ·simp only[Act.put,List.setIfInBounds_toArray,List.set_cons_zero,List.set_cons_succ,i64_w,i32_w]
     rfl
    refine one_ (i:=6) (N:=some 85) #[true,true,true,true,true,true,true,false,false,false,false,false] rfl rfl (one_of HT_.out (by kernel_rfl)) zq17 (fun K hK=>?_)
    refine goes_ Try.func88 (by kernel_rfl) rfl #[.slice A1_1 l1_1.length c1_1] zq64 rfl rfl zq11 ?_
    with_reducible refine(spec_l1Copy.calls A1_1 c1_1 l1_1 l1_1 _ ?side1 HCK.out HSC.out).mono ?_
    (case side1=>exact Kd.C_below HRK.out HB.out)
    rintro e w10 ⟨vc,rfl,ho0,hb⟩
    refine⟨_,rfl,?_⟩
    have n0_:=zM (below_step HB.out hb)
    have n1_:=zM (blk_below (g:=g3) BK3.out hb)
    have n2_:=zM (blk_below (g:=g4) BK4.out hb)
    have n3_:=zM (blk_below (g:=g7) BK7.out hb)
    have n4_:=zM (blk_below (g:=g8) BK8.out hb)
    have n5_:=zM (blk_below (g:=go) BKo.out hb)
    have n6_:=zM (Kd.R_below HOwn.out hb)
    have n7_:=zM (Kd.S_elder' HO.out (Kd.R_base ho0) hb)
    have n8_:=zM (show ∀ k_,vc.ownBlock=some k_→B0≤k_ from fun k_ hk_=>Nat.le_trans HBS.out (Kd.R_base ho0 k_ hk_))
    have n9_:=zM (Kd.R_lower ho0 (below_size HB.out))
    have n10_:=zM (Nat.le_trans HBS.out hb.size)
    clear HB BK3 BK4 BK7 BK8 BKo HOwn HO HBS
    have HB:=n0_
    have BK3:=n1_
    have BK4:=n2_
    have BK7:=n3_
    have BK8:=n4_
    have BKo:=n5_
    have HOwn:=n6_
    have HO:=n7_
    have HCB:=n8_
    have HOc:=n9_
    have HBS:=n10_
    clear n0_ n1_ n2_ n3_ n4_ n5_ n6_ n7_ n8_ n9_ n10_
    clear hb ho0
    obtain⟨Ac,cx,ec⟩:=Kd.R_slice HOc.out
    subst ec
    refine hK.out _ _ ⟨(blk_cell BK8.out 1).trans rfl,(blk_cell BK3.out 0).trans rfl,(blk_cell BK3.out 1).trans rfl⟩ (fun hHeld=>?_)
    clear hK K
    refine norm_ (a':=?_) ?_ ?_
    rotate_left
    ·show Act.put _ (some 85) _=_
     simp only[Act.put,List.setIfInBounds_toArray,List.set_cons_zero,List.set_cons_succ,i64_w,i32_w]
     rfl
    refine pure_ (i:=7) (N:=some 86) (v:=?_) (a':=?_) #[true,true,true,true,true,true,true,true,false,false,false,false] rfl rfl (any_of HT_.out (by kernel_rfl)) (fun _ _ _ h=>h) (Or.inl ⟨zq64,?_⟩) ?_ ?_
    rotate_left
    ·intro w'
     go_simp
     with_reducible rfl
    rotate_left
    ·simp only[Act.put,List.setIfInBounds_toArray,List.set_cons_zero,List.set_cons_succ,i64_w,i32_w]
     rfl
    refine one_ (i:=8) (N:=some 87) #[true,true,true,true,true,true,true,true,true,false,false,false] rfl rfl (one_of HT_.out (by kernel_rfl)) zq17 (fun K hK=>?_)
    refine value_ (w1:=?_) (v:=?_) zq64 rfl ?_ ?_
    rotate_left 2
    ·go_simp
     constructor
     ·rfl
     ·rfl
    refine hK.out _ _ ⟨(blk_cell (blk_alloc BK8.out _) 1).trans rfl,(blk_cell (blk_alloc BK3.out _) 0).trans rfl,(blk_cell (blk_alloc BK3.out _) 1).trans rfl⟩ (fun hHeld=>?_)
    clear hK K
    refine norm_ (a':=?_) ?_ ?_
    rotate_left
    ·show Act.put _ (some 87) _=_
     simp only[Act.put,List.setIfInBounds_toArray,List.set_cons_zero,List.set_cons_succ,i64_w,i32_w]
     rfl
    refine one_ (i:=9) (N:=some 88) #[true,true,true,true,true,true,true,true,true,true,false,false] rfl rfl (one_of HT_.out (by kernel_rfl)) zq17 (fun K hK=>?_)
    refine Kd.S_append_step k25 (w0:=w) w.heap.size zq64 (.tmp 80) (.tmp 87) 27 25 (.agg #[(.int .i64 0),(.slice none 0 0)]) 32 rfl Try.underlying27 info25 rfl zq17 zq21 u (preL (⟨a1_0,l1_1⟩:S25) J l0_1 kk) (⟨a1_0,l1_1⟩:S25) [.int .i64 a1_0,(.slice Ac l1_1.length cx:Value)] (fun k_=>(k_ < B0∧f k_ < kk) ∨ B0≤k_) (fun k_=>some k_=(.slice Ac l1_1.length cx:Value).ownBlock) rfl rfl (k25_mkM _ _ _ (⟨a1_0,l1_1⟩:S25) (Kd.R_tight rfl HOc.out)) (fun k_ hk_=>⟨.inr (HCB.out k_ hk_.symm),fun he_=>((Kd.S_R HO.out).1 k_ he_.symm).2 hk_⟩) (fun k_ hk_=>.inr (Nat.le_trans HBS.out hk_)) HO.out HB.out (below_size HB.out) ?aK ?_
    (case aK=>have h9:=HLM.out;have h8:=pre_len (⟨a1_0,l1_1⟩:S25) J l0_1 kk;have h7:=HKL.out;omega)
    intro v1 w11 ho hb hg hat
    rw[HY.out] at ho
    have n0_:=zM (blk_grown (g:=g4) BK4.out hg (Kd.S_ne HO.out BK4.out zq17))
    have n1_:=zM (blk_grown (g:=g7) BK7.out hg (Kd.S_ne HO.out BK7.out zq17))
    have n2_:=zM (blk_grown (g:=g8) BK8.out hg (Kd.S_ne HO.out BK8.out zq17))
    have n3_:=zM (blk_grown (g:=g3) BK3.out hg (fun he_=>by have:=HU.out _ he_.symm;have:=H3B.out;omega))
    have n4_:=zM (blk_grown (g:=go) BKo.out hg (fun he_=>by have:=HU.out _ he_.symm;have:=HGO.out;omega))
    have n5_:=zM (Kd.R_grown HOwn.out hg (fun q_ hq_ he_=>by have:=HU.out _ he_.symm;omega))
    have n6_:=zM hb
    have n7_:=zM ho
    have n8_:=zM (out_fresh HU.out hat HBS.out)
    have n9_:=zM (Nat.le_trans HBS.out hg.size)
    clear BK4 BK7 BK8 BK3 BKo HOwn HB HO HU HBS
    have BK4:=n0_
    have BK7:=n1_
    have BK8:=n2_
    have BK3:=n3_
    have BKo:=n4_
    have HOwn:=n5_
    have HB:=n6_
    have HO:=n7_
    have HU:=n8_
    have HBS:=n9_
    clear n0_ n1_ n2_ n3_ n4_ n5_ n6_ n7_ n8_ n9_
    clear hat hg ho hb HOc HCB
    obtain⟨Aq,cq,eq_⟩:=Kd.S_slice HO.out
    subst eq_
    refine hK.out _ _ ⟨(blk_cell BK8.out 1).trans rfl,(blk_cell BK3.out 0).trans rfl,(blk_cell BK3.out 1).trans rfl⟩ (fun hHeld=>?_)
    clear hK K
    refine norm_ (a':=?_) ?_ ?_
    rotate_left
    ·show Act.put _ (some 88) _=_
     simp only[Act.put,List.setIfInBounds_toArray,List.set_cons_zero,List.set_cons_succ,i64_w,i32_w]
     rfl
    refine pure_ (i:=10) (N:=some 89) (v:=?_) (a':=?_) #[true,true,true,true,true,true,true,true,true,true,true,false] rfl rfl (any_of HT_.out (by kernel_rfl)) (fun _ _ _ h=>h) (Or.inl ⟨zq64,?_⟩) ?_ ?_
    rotate_left
    ·intro w'
     go_simp
     with_reducible rfl
    rotate_left
    ·simp only[Act.put,List.setIfInBounds_toArray,List.set_cons_zero,List.set_cons_succ,i64_w,i32_w]
     rfl
    refine last_ (i:=11) (N:=none) #[true,true,true,true,true,true,true,true,true,true,true,true] rfl rfl (one_of HT_.out (by kernel_rfl)) zq17 (fun K hK=>?_)
    have hs1:=(blk_cell BK8.out 1).trans rfl
    have hs2:=blk_frozen BK8.out 1
    refine skip_ (w1:=?_) zq64 rfl ?_ ?_
    rotate_left
    ·go_simp
     rfl
    refine hK.out _ _ ?_
    clear hK K
    refine done_ (done_of HT_.out (by kernel_rfl)) ?_
    have n0_:Aside0 ((w11.setCell ⟨g8,1,none⟩ (.slice Aq Y.length cq)).heap[g3]?=some (Obj.cells #[.int .i64 a1_0,.slice A1_1 l1_1.length c1_1] 25 (0,0))):=⟨(blk_far BK3.out (blk_ne BK3.out BK8.out zq17) _)⟩
    have n1_:Aside0 ((w11.setCell ⟨g8,1,none⟩ (.slice Aq Y.length cq)).heap[g4]?=some (Obj.cells #[.int .i64 0,.int .i64 0,.slice none 0 0] 31 (0,0))):=⟨(blk_far BK4.out (blk_ne BK4.out BK8.out zq17) _)⟩
    have n2_:Aside0 ((w11.setCell ⟨g8,1,none⟩ (.slice Aq Y.length cq)).heap[g7]?=some (Obj.cells #[.int .i64 a0_0,.slice (some ⟨go,0,none⟩) l0_1.length cc] 29 (0,0))):=⟨(blk_far BK7.out NE7_8.out _)⟩
    have n3_:Aside0 ((w11.setCell ⟨g8,1,none⟩ (.slice Aq Y.length cq)).heap[g8]?=some (Obj.cells #[.int .i64 a0_0,(.slice Aq Y.length cq)] 29 (0,0))):=⟨(blk_put (cs:=#[.int .i64 a0_0,u]) BK8.out 1 _ rfl)⟩
    have n4_:Aside0 ((w11.setCell ⟨g8,1,none⟩ (.slice Aq Y.length cq)).heap[go]?=some (Obj.cells cur 25 (0,0))):=⟨(blk_far BKo.out (blk_ne BKo.out BK8.out zq17) _)⟩
    have n5_:Aside0 ((Kd.tag f k25).R 25 (w11.setCell ⟨g8,1,none⟩ (.slice Aq Y.length cq)) w.heap.size (fun k=>k < B0) (.slice (some ⟨go,0,none⟩) l0_1.length cc) l0_1.zipIdx):=⟨(Kd.R_mono (Kd.R_far (p:=⟨g8,1,none⟩) (Kd.R_types HOwn.out BK8.out (show ∀ q,q ∈ 25 :: k25.E→q≠29 by decide)) (fun _ hk=>hk.2) _) (fun _ hk=>hk.1))⟩
    have n6_:Aside0 (Kd.S k25 25 (w11.setCell ⟨g8,1,none⟩ (.slice Aq Y.length cq)) w.heap.size (fun k_=>(k_ < B0∧f k_ < kk) ∨ B0≤k_) (.slice Aq Y.length cq) Y):=⟨(Kd.S_mono (Kd.S_far (p:=⟨g8,1,none⟩) (Kd.S_types HO.out BK8.out zq17) (fun _ hk=>hk.2) _) (fun _ hk=>hk.1))⟩
    have n7_:Aside0 (∀ k_,((.slice Aq Y.length cq):Value).ownBlock=some k_→B0≤k_):=⟨HU.out⟩
    have n8_:Aside0 (B0≤(w11.setCell ⟨g8,1,none⟩ (.slice Aq Y.length cq)).heap.size):=⟨zq101⟩
    have n9_:Aside0 (Below w.heap.size w (w11.setCell ⟨g8,1,none⟩ (.slice Aq Y.length cq))):=⟨(below_set HB.out GE8.out)⟩
    clear hs1 hs2 hHeld BK3 BK4 BK7 BK8 BKo HOwn HO HU HBS HB
    generalize w11.setCell ⟨g8,1,none⟩ (.slice Aq Y.length cq)=w12 at n0_ n1_ n2_ n3_ n4_ n5_ n6_ n7_ n8_ n9_ ⊢
    have BK3:=n0_
    have BK4:=n1_
    have BK7:=n2_
    have BK8:=n3_
    have BKo:=n4_
    have HOwn:=n5_
    have HO:=n6_
    have HU:=n7_
    have HBS:=n8_
    have HB:=n9_
    clear n0_ n1_ n2_ n3_ n4_ n5_ n6_ n7_ n8_ n9_
    have h80:w12.cell? ⟨g8,0,none⟩=some (.int .i64 a0_0):=(blk_cell BK8.out 0).trans rfl
    have h81:w12.cell? ⟨g8,1,none⟩=some (.slice Aq Y.length cq):=(blk_cell BK8.out 1).trans rfl
    go_wp2_with (first
      | ((with_reducible refine gate_store (t:=31) (p:=4) rfl ?_);refine row_event ?hg (ty:=31) (p:=4) (y:=?yo_183) ?ho ?hn (g:=g4) (old:=#[.int .i64 0,.int .i64 0,.slice none 0 0]) (e:=31) (cells:=#[.int .i64 0,.int .i64 a0_0,.slice Aq Y.length cq]) ?hx ?hy ?hk ?hi ?hd ?h1 ?_;(case ho=>rfl);(case hg=>rfl);(case hn=>rfl);(case hx=>rfl);(case hy=>rfl);(case hk=>exact zq2);(case hi=>kernel_rfl);(case hd=>rfl);(case h1=>exact zq63);intro wr_ hbk hgr;have BK4o:=BK4;have hgr9:=zM hgr;have n0_:=zM (below_grown1 zq0 hgr GE4.out);have n1_:=zM hbk;clear HB BK4;have HB:=n0_;have BK4:=n1_;clear n0_ n1_;clear hbk hgr;have n9_:=zM (Kd.S_mono (Kd.S_grown (Kd.S_types HO.out BK4o.out zq17) hgr9.out (fun k hk he=>hk.2 (Option.some.inj he))) (fun _ hk=>hk.1));clear HO;have HO:=n9_;clear n9_))
    refine bodyPost_ret (results_cell_row rfl _ _ g4 31 #[.int .i64 0,.int .i64 a0_0,.slice Aq Y.length cq] (0,0) _ rfl zq2 Try.underlying31 rfl (by kernel_rfl)) rfl ?_
    exact⟨_,rfl,Kd.S_mono HO.out (fun _ _=>trivial),HB.out⟩
theorem spec_InstallKey.calls (a0_0:Int) (A0_1:Option Addr) (c0_1:Nat) (l0_1:List S25) (a1_0:Int) (A1_1:Option Addr) (c1_1:Nat) (l1_1:List Int) (r1:Int) (r2:Int) (r3:List S25) (w:World) (hr0_1:Kd.C k25 w A0_1 l0_1.length l0_1) (hc0_1:l0_1.length≤c0_1) (hr1_1:Kd.C (Kd.int .u8) w A1_1 l1_1.length l1_1) (hc1_1:l1_1.length≤c1_1) (h:spec_InstallKey.f a0_0 l0_1 a1_0 l1_1=some (r1,r2,r3)) :
  Calls Try.prog 47 #[.agg #[.int .i64 a0_0,.slice A0_1 l0_1.length c0_1],.agg #[.int .i64 a1_0,.slice A1_1 l1_1.length c1_1]] w fun e w'=>∃ v2_:Value,e=.returned (.agg #[.int .i64 r1,.int .i64 r2,v2_])∧Kd.S k25 25 w' w.heap.size (fun _=>True) v2_ r3∧Below w.heap.size w w':=by
 unfold spec_InstallKey.f at h
 by_cases hm:okL l0_1∧l1_1.length < 1000000000000
 case neg=>rw[if_neg hm] at h;cases h
 rw[if_pos hm] at h
 have HSC:=zM (l1Copy_some l1_1 hm.2)
 have HM:=zM hm.1
 have HLM:=zM hm.1.1
 have HLB:Aside0 (l0_1.length < 140737488355328):=⟨by have:=hm.1.1;omega⟩
 clear hm
 have HR:=zM hr0_1
 have HC:=zM hc0_1
 have HRK:=zM hr1_1
 have HCK:=zM hc1_1
 clear hr0_1 hc0_1 hr1_1 hc1_1
 have HB:=zM (Below.refl w.heap.size w)
 by_cases hf:ringFaultL a0_0 l0_1=0
 ·have HF:Aside0 (spec_RingFault.f a0_0 l0_1=some 0):=⟨by unfold spec_RingFault.f;rw[hf]⟩
  rw[if_pos hf] at h
  clear hf
  by_cases hu:keyC a1_0 l1_1.length=0
  ·rw[if_pos hu] at h
   have HU:=zM hu
   clear hu
   obtain⟨q,HQ⟩:∃ q,Aside0 (placeL a1_0 l0_1 0=q):=⟨_,⟨rfl⟩⟩
   rw[HQ.out] at h
   by_cases hq:0≤q
   ·rw[if_pos hq] at h
    simp only[Option.some.injEq,Prod.mk.injEq] at h
    obtain⟨rfl,rfl,rfl⟩:=h
    have hd:=decide_eq_true hq
    clear hq
    exact spec_InstallKey.w6 a0_0 A0_1 c0_1 l0_1 a1_0 A1_1 c1_1 l1_1 w HR HC HRK HCK HB HSC HM HLM HLB q HF HU HQ hd
   ·rw[if_neg hq] at h
    have hd:=decide_eq_false hq
    clear hq
    by_cases h3:3≤l0_1.length
    ·rw[if_pos h3] at h
     simp only[Option.some.injEq,Prod.mk.injEq] at h
     obtain⟨rfl,rfl,rfl⟩:=h
     have hd3:decide (3≤l0_1.length)=true:=decide_eq_true h3
     have hd4:decide ((3:Int)≤(l0_1.length:Int))=true:=decide_eq_true zq21
     clear h3
     exact spec_InstallKey.w7 a0_0 A0_1 c0_1 l0_1 a1_0 A1_1 c1_1 l1_1 w HR HC HRK HCK HB HSC HM HLM HLB q HF HU HQ hd hd3 hd4
    ·rw[if_neg h3] at h
     have hd3:decide (3≤l0_1.length)=false:=decide_eq_false h3
     have hd4:decide ((3:Int)≤(l0_1.length:Int))=false:=decide_eq_false zq21
     clear h3
     by_cases h1:0 < l0_1.length
     case neg=>rw[if_neg h1] at h;cases h
     rw[if_pos h1] at h
     simp only[Option.some.injEq,Prod.mk.injEq] at h
     obtain⟨rfl,rfl,rfl⟩:=h
     have HL1:=zM h1
     obtain⟨J,HJ⟩:∃ J,Aside0 (gtL a1_0 l0_1=J):=⟨_,⟨rfl⟩⟩
     rw[HJ.out]
     obtain⟨Y,HYZ⟩:∃ Y,Aside0 (l0_1.insertIdx J (⟨a1_0,l1_1⟩:S25)=Y):=⟨_,⟨rfl⟩⟩
     rw[HYZ.out]
     clear h1
     exact spec_InstallKey.main a0_0 A0_1 c0_1 l0_1 a1_0 A1_1 c1_1 l1_1 w HR HC HRK HCK HB HSC HM HLM HLB q HF HU HQ hd hd3 hd4 HL1 J HJ Y HYZ
  ·rw[if_neg hu] at h
   obtain⟨u,hu9⟩:∃ u,u=keyC a1_0 l1_1.length:=⟨_,rfl⟩
   rw[← hu9] at h hu
   have HU:=zM hu9.symm
   simp only[Option.some.injEq,Prod.mk.injEq] at h
   obtain⟨rfl,rfl,rfl⟩:=h
   have hu1:(u == 0)=false:=beq_eq_false_iff_ne.mpr hu
   have hu2:(u != 0)=true:=bne_iff_ne.mpr hu
   clear hu hu9
   exact spec_InstallKey.wu a0_0 A0_1 c0_1 l0_1 a1_0 A1_1 c1_1 l1_1 w HR HC HRK HCK HB HSC HM HLM HLB u HF HU hu1 hu2
 ·obtain⟨t,ht⟩:∃ t,t=ringFaultL a0_0 l0_1:=⟨_,rfl⟩
  rw[if_neg hf] at h
  rw[← ht] at h hf
  simp only[Option.some.injEq,Prod.mk.injEq] at h
  obtain⟨rfl,rfl,rfl⟩:=h
  have HF:Aside0 (spec_RingFault.f a0_0 l0_1=some t):=⟨by unfold spec_RingFault.f;rw[ht]⟩
  have ht1:(t == 0)=false:=beq_eq_false_iff_ne.mpr hf
  have ht2:(t != 0)=true:=bne_iff_ne.mpr hf
  clear hf ht
  exact spec_InstallKey.wt a0_0 A0_1 c0_1 l0_1 a1_0 A1_1 c1_1 l1_1 w HR HC HRK HCK HB HSC HM HLM HLB t HF ht1 ht2
end Go.Proofs.Ytmnhddedcbkpoaa.All
