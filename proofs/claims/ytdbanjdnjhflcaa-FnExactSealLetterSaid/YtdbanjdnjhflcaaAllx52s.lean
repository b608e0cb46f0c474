-- Laid by wip/shake.py of this repo out of this claim's texts. Not trusted: Lean checks it.
import Derived.Test.YtdbanjdnjhflcaaAb0s
import Derived.Test.YtdbanjdnjhflcaaAlgs
import Derived.Test.YtdbanjdnjhflcaaAllx26s
import Derived.Lib.SliceRun
set_option linter.unusedSimpArgs false
set_option linter.unusedVariables false
namespace Go.Proofs.Ytdbanjdnjhflcaa.All
open Go.Proofs.YtdbanjdnjhflcaaW.PrintWords.Aside0 renaming mk→zM
open Go.RowKit Go.Proofs.YtdbanjdnjhflcaaW.PrintWords Go.Proofs.YtdbanjdnjhflcaaW.PrintLast Go.Proofs.YtdbanjdnjhflcaaW.PrintMore
attribute [local go_sem] max2_int min2_int max_two min_two max_three min_three max_four min_four
def impl_LetterFault.j0:Nat→Bool→Int→Int→Int→List Int→Option (Int)
 | 0,_,_,_,_,_=>none
 | k+1,x3,x309000,x309001,x309002,x309003=>if x3=true then (some 3) else (if (x309003.length:Int) > 300 then (some 2) else (some 0))
def impl_LetterFault.f (k:Nat) (a0_0:Int) (a0_1:Int) (a0_2:Int) (l0_3:List Int):Option (Int):=(impl_isKeyId.f a0_0).bind fun t309=>(if t309=true then ((impl_in.f a0_1 0 15).bind fun t310=>(if t310=true then ((impl_in.f a0_2 0 1000000000).bind fun t311=>(impl_LetterFault.j0 k (!t311) a0_0 a0_1 a0_2 l0_3)) else (impl_LetterFault.j0 k true a0_0 a0_1 a0_2 l0_3))) else (impl_LetterFault.j0 k true a0_0 a0_1 a0_2 l0_3))
theorem impl_LetterFault.mono_l:∀ k,(∀ y0 y1 y2 y3 y4,LeO (impl_LetterFault.j0 k y0 y1 y2 y3 y4) (impl_LetterFault.j0 (k+1) y0 y1 y2 y3 y4))
 | 0=>fun _ _ _ _ _ r h=>by simp[impl_LetterFault.j0] at h
 | k+1=>by
  have ih0:=impl_LetterFault.mono_l k
  ·intro y0 y1 y2 y3 y4
   unfold impl_LetterFault.j0
   repeat' first
   | (with_reducible exact ih0 _ _ _ _ _)
   | (with_reducible exact LeO.refl _)
   | (with_reducible exact LeO.none _)
   | (with_reducible refine LeO.ite ?_ ?_)
   | (with_reducible refine LeO.bind ?_ (fun _=>?_))
   | exact ih0 _ _ _ _ _
   | exact LeO.none _
   | refine LeO.ite ?_ ?_
   | refine LeO.bind ?_ (fun _=>?_)
theorem impl_LetterFault.mono:∀ a0 a1 a2 a3 k,LeO (impl_LetterFault.f k a0 a1 a2 a3) (impl_LetterFault.f (k+1) a0 a1 a2 a3):=by
 intro a0 a1 a2 a3 k
 have ih0:=impl_LetterFault.mono_l k
 unfold impl_LetterFault.f
 repeat' first
   | (with_reducible exact ih0 _ _ _ _ _)
   | (with_reducible exact LeO.refl _)
   | (with_reducible exact LeO.none _)
   | (with_reducible refine LeO.ite ?_ ?_)
   | (with_reducible refine LeO.bind ?_ (fun _=>?_))
   | exact ih0 _ _ _ _ _
   | exact LeO.none _
   | refine LeO.ite ?_ ?_
   | refine LeO.bind ?_ (fun _=>?_)
set_option maxHeartbeats 8000000 in
set_option maxRecDepth 100000 in
theorem impl_LetterFault.calls (k:Nat) (a0_0:Int) (a0_1:Int) (a0_2:Int) (A0_3:Option Addr) (c0_3:Nat) (l0_3:List Int) (r:Int) (w:World) (hr0_3:Kd.C (Kd.int .u8) w A0_3 l0_3.length l0_3) (hc0_3:l0_3.length≤c0_3) (h:impl_LetterFault.f k a0_0 a0_1 a0_2 l0_3=some r) :
  Calls Try.prog 26 #[.agg #[.int .i64 a0_0,.int .i64 a0_1,.int .i64 a0_2,.slice A0_3 l0_3.length c0_3]] w fun e w'=>e=.returned (.int .i64 r)∧Below w.heap.size w w':=by
 have hu37:=Try.underlying37
 have HR0_3:=zM hr0_3
 have HC0_3:=zM hc0_3
 clear hr0_3 hc0_3
 have HB:=zM (Below.refl w.heap.size w)
 have H:((impl_isKeyId.f a0_0).bind fun t309=>(if t309=true then ((impl_in.f a0_1 0 15).bind fun t310=>(if t310=true then ((impl_in.f a0_2 0 1000000000).bind fun t311=>(impl_LetterFault.j0 k (!t311) a0_0 a0_1 a0_2 l0_3)) else (impl_LetterFault.j0 k true a0_0 a0_1 a0_2 l0_3))) else (impl_LetterFault.j0 k true a0_0 a0_1 a0_2 l0_3)))=some r:=h
 clear h
 have HC2:=zM H
 clear H
 go_enter Try.func26,Try.ntmps26
 go_upto_region 1 with (first|((with_reducible refine gate_dst (N:=1) rfl ?_);refine box_event ?hg (N:=1) ?hd (cs:=#[.int .i64 a0_0,.int .i64 a0_1,.int .i64 a0_2,.slice A0_3 l0_3.length c0_3]) (t:=37) ?hr ?_;(case hd=>rfl);(case hg=>rfl);(case hr=>first|(go_simp;done)|(go_simp;rfl));intro gb308 hg w3 hbox hb;have n0_:=zM (below_step zq0 hb);have n1_:=zM (hbox);have n2_:=zM ((by rw[hg];exact(below_size zq0):w.heap.size≤gb308));have n3_:=zM ((by rw[hg];exact(below_size zq0):w.heap.size≤gb308));clear HB;have HB:=n0_;have BK308:=n1_;have GW308:=n2_;have GE308:=n3_;clear n0_ n1_ n2_ n3_;clear hb hbox hg))
 (try simp only[Act.put,List.setIfInBounds_toArray,List.set_cons_zero,List.set_cons_succ])
 go_cut [3] (fun v3 wc=>∃ (kq:Nat) (x3_1:Bool),v3=.bool x3_1∧Aside0 (impl_LetterFault.j0 kq x3_1 a0_0 a0_1 a0_2 l0_3=some r)∧Aside0 (kq≤k)∧Aside0 (wc.heap[gb308]?=some (.cells #[.int .i64 a0_0,.int .i64 a0_1,.int .i64 a0_2,(.slice A0_3 l0_3.length c0_3)] 37 (0,0)))∧Aside0 (Below w.heap.size w wc))
 case first=>
  have H:=HC2.out
  clear HC2
  replace H:=Option.bind_eq_some_iff.mp H
  obtain⟨t309,A40,H⟩:=H
  replace H:(if t309=true then ((impl_in.f a0_1 0 15).bind fun t310=>(if t310=true then ((impl_in.f a0_2 0 1000000000).bind fun t311=>(impl_LetterFault.j0 k (!t311) a0_0 a0_1 a0_2 l0_3)) else (impl_LetterFault.j0 k true a0_0 a0_1 a0_2 l0_3))) else (impl_LetterFault.j0 k true a0_0 a0_1 a0_2 l0_3))=some r:=H
  have A4:=zM A40
  clear A40
  by_cases c5:t309=true
  ·subst c5
   have H1:((impl_in.f a0_1 0 15).bind fun t310=>(if t310=true then ((impl_in.f a0_2 0 1000000000).bind fun t311=>(impl_LetterFault.j0 k (!t311) a0_0 a0_1 a0_2 l0_3)) else (impl_LetterFault.j0 k true a0_0 a0_1 a0_2 l0_3)))=some r:=by rw[if_pos rfl] at H;exact H
   clear H
   have H:=H1
   clear H1
   replace H:=Option.bind_eq_some_iff.mp H
   obtain⟨t310,A60,H⟩:=H
   replace H:(if t310=true then ((impl_in.f a0_2 0 1000000000).bind fun t311=>(impl_LetterFault.j0 k (!t311) a0_0 a0_1 a0_2 l0_3)) else (impl_LetterFault.j0 k true a0_0 a0_1 a0_2 l0_3))=some r:=H
   have A6:=zM A60
   clear A60
   by_cases c7:t310=true
   ·subst c7
    have H1:((impl_in.f a0_2 0 1000000000).bind fun t311=>(impl_LetterFault.j0 k (!t311) a0_0 a0_1 a0_2 l0_3))=some r:=by rw[if_pos rfl] at H;exact H
    clear H
    have H:=H1
    clear H1
    replace H:=Option.bind_eq_some_iff.mp H
    obtain⟨t311,A80,H⟩:=H
    replace H:(impl_LetterFault.j0 k (!t311) a0_0 a0_1 a0_2 l0_3)=some r:=H
    have A8:=zM A80
    clear A80
    have H':=zM H
    clear H
    have hcz9_0:w3.cell? ⟨gb308,0,none⟩=some (.int .i64 a0_0):=(blk_cell BK308.out 0).trans rfl
    have hcz9_1:w3.cell? ⟨gb308,1,none⟩=some (.int .i64 a0_1):=(blk_cell BK308.out 1).trans rfl
    have hcz9_2:w3.cell? ⟨gb308,2,none⟩=some (.int .i64 a0_2):=(blk_cell BK308.out 2).trans rfl
    have hcz9_3:w3.cell? ⟨gb308,3,none⟩=some (.slice A0_3 l0_3.length c0_3):=(blk_cell BK308.out 3).trans rfl
    have hfz9_0:=blk_frozen BK308.out 0
    have hfz9_1:=blk_frozen BK308.out 1
    have hfz9_2:=blk_frozen BK308.out 2
    have hfz9_3:=blk_frozen BK308.out 3
    go_wp2_with (first|((with_reducible refine gate_callee (f:=49) rfl ?_);refine goesL_ (some 6) rfl rfl Try.func49 (by kernel_rfl) rfl #[.int .i64 a0_0] rfl zq1 ?_;(with_reducible refine(impl_isKeyId.calls a0_0 true _ A4.out).mono ?_);rintro e w' ⟨rfl,⟨nd,rfl⟩⟩;refine⟨_,rfl,?_⟩)|(go_at_call 46;(with_reducible refine(impl_in.calls a0_1 0 15 true _ A6.out).mono ?_);rintro e w' ⟨rfl,⟨nd,rfl⟩⟩)|(go_at_call 46;(with_reducible refine(impl_in.calls a0_2 0 1000000000 t311 _ A8.out).mono ?_);rintro e w' ⟨rfl,⟨nd,rfl⟩⟩))
    go_meet
    case rel=>exact⟨_,(!t311),zq7,H',⟨zq158⟩,⟨zq130⟩,⟨zq56⟩⟩
   ·replace c7:=Bool.eq_false_iff.mpr c7
    subst c7
    have H1:(impl_LetterFault.j0 k true a0_0 a0_1 a0_2 l0_3)=some r:=by rw[if_neg (show ¬ (false=true) by decide)] at H;exact H
    clear H
    have H:=H1
    clear H1
    have H':=zM H
    clear H
    have hcz10_0:w3.cell? ⟨gb308,0,none⟩=some (.int .i64 a0_0):=(blk_cell BK308.out 0).trans rfl
    have hcz10_1:w3.cell? ⟨gb308,1,none⟩=some (.int .i64 a0_1):=(blk_cell BK308.out 1).trans rfl
    have hcz10_2:w3.cell? ⟨gb308,2,none⟩=some (.int .i64 a0_2):=(blk_cell BK308.out 2).trans rfl
    have hcz10_3:w3.cell? ⟨gb308,3,none⟩=some (.slice A0_3 l0_3.length c0_3):=(blk_cell BK308.out 3).trans rfl
    have hfz10_0:=blk_frozen BK308.out 0
    have hfz10_1:=blk_frozen BK308.out 1
    have hfz10_2:=blk_frozen BK308.out 2
    have hfz10_3:=blk_frozen BK308.out 3
    go_wp2_with (first|((with_reducible refine gate_callee (f:=49) rfl ?_);refine goesL_ (some 6) rfl rfl Try.func49 (by kernel_rfl) rfl #[.int .i64 a0_0] rfl zq1 ?_;(with_reducible refine(impl_isKeyId.calls a0_0 true _ A4.out).mono ?_);rintro e w' ⟨rfl,⟨nd,rfl⟩⟩;refine⟨_,rfl,?_⟩)|(go_at_call 46;(with_reducible refine(impl_in.calls a0_1 0 15 false _ A6.out).mono ?_);rintro e w' ⟨rfl,⟨nd,rfl⟩⟩))
    go_meet
    case rel=>exact⟨_,(true),zq7,H',⟨zq158⟩,⟨zq130⟩,⟨zq56⟩⟩
  ·replace c5:=Bool.eq_false_iff.mpr c5
   subst c5
   have H1:(impl_LetterFault.j0 k true a0_0 a0_1 a0_2 l0_3)=some r:=by rw[if_neg (show ¬ (false=true) by decide)] at H;exact H
   clear H
   have H:=H1
   clear H1
   have H':=zM H
   clear H
   have hcz11_0:w3.cell? ⟨gb308,0,none⟩=some (.int .i64 a0_0):=(blk_cell BK308.out 0).trans rfl
   have hcz11_1:w3.cell? ⟨gb308,1,none⟩=some (.int .i64 a0_1):=(blk_cell BK308.out 1).trans rfl
   have hcz11_2:w3.cell? ⟨gb308,2,none⟩=some (.int .i64 a0_2):=(blk_cell BK308.out 2).trans rfl
   have hcz11_3:w3.cell? ⟨gb308,3,none⟩=some (.slice A0_3 l0_3.length c0_3):=(blk_cell BK308.out 3).trans rfl
   have hfz11_0:=blk_frozen BK308.out 0
   have hfz11_1:=blk_frozen BK308.out 1
   have hfz11_2:=blk_frozen BK308.out 2
   have hfz11_3:=blk_frozen BK308.out 3
   go_wp2_with (first|((with_reducible refine gate_callee (f:=49) rfl ?_);refine goesL_ (some 6) rfl rfl Try.func49 (by kernel_rfl) rfl #[.int .i64 a0_0] rfl zq1 ?_;(with_reducible refine(impl_isKeyId.calls a0_0 false _ A4.out).mono ?_);rintro e w' ⟨rfl,⟨nd,rfl⟩⟩;refine⟨_,rfl,?_⟩))
   go_meet
   case rel=>exact⟨_,(true),zq7,H',⟨zq158⟩,⟨zq130⟩,⟨zq56⟩⟩
 case rest=>
  clear HC2
  try clear c2
  try clear p2
  try clear c4
  try clear c5
  try clear c7
  try clear hcz10_0
  try clear hcz10_1
  try clear hcz10_2
  try clear hcz10_3
  try clear hcz11_0
  try clear hcz11_1
  try clear hcz11_2
  try clear hcz11_3
  try clear hcz9_0
  try clear hcz9_1
  try clear hcz9_2
  try clear hcz9_3
  try clear hfz10_0
  try clear hfz10_1
  try clear hfz10_2
  try clear hfz10_3
  try clear hfz11_0
  try clear hfz11_1
  try clear hfz11_2
  try clear hfz11_3
  try clear hfz9_0
  try clear hfz9_1
  try clear hfz9_2
  try clear hfz9_3
  obtain⟨kq,x3_1,rfl,HA,HJ1,BK308,HB⟩:=hcut
  cases kq with
  | zero=>exact absurd HA.out (by simp[impl_LetterFault.j0])
  | succ kj1=>
   have H:=HA.out
   clear HA
   simp only[impl_LetterFault.j0] at H
   by_cases c12:x3_1=true
   ·subst c12
    have H1:(some 3)=some r:=by rw[if_pos rfl] at H;exact H
    clear H
    have H:=H1
    clear H1
    obtain rfl:=Option.some.inj H
    go_wp2
    go_ret
    exact⟨zq3,zq56⟩
   ·replace c12:=Bool.eq_false_iff.mpr c12
    subst c12
    have H1:(if (l0_3.length:Int) > 300 then (some 2) else (some 0))=some r:=by rw[if_neg (show ¬ (false=true) by decide)] at H;exact H
    clear H
    have H:=H1
    clear H1
    by_cases c13:(l0_3.length:Int) > 300
    ·rw[if_pos c13] at H
     have c13b0:decide (300 < (l0_3.length:Int))=true:=decide_eq_true c13
     have c13b1:decide (300 < l0_3.length)=true:=decide_eq_true zq8
     clear c13
     obtain rfl:=Option.some.inj H
     have hcz14_0:wc.cell? ⟨gb308,0,none⟩=some (.int .i64 a0_0):=(blk_cell BK308.out 0).trans rfl
     have hcz14_1:wc.cell? ⟨gb308,1,none⟩=some (.int .i64 a0_1):=(blk_cell BK308.out 1).trans rfl
     have hcz14_2:wc.cell? ⟨gb308,2,none⟩=some (.int .i64 a0_2):=(blk_cell BK308.out 2).trans rfl
     have hcz14_3:wc.cell? ⟨gb308,3,none⟩=some (.slice A0_3 l0_3.length c0_3):=(blk_cell BK308.out 3).trans rfl
     have hfz14_0:=blk_frozen BK308.out 0
     have hfz14_1:=blk_frozen BK308.out 1
     have hfz14_2:=blk_frozen BK308.out 2
     have hfz14_3:=blk_frozen BK308.out 3
     go_wp2
     go_ret
     exact⟨zq3,zq56⟩
    ·rw[if_neg c13] at H
     have c13b0:decide (300 < (l0_3.length:Int))=false:=decide_eq_false c13
     have c13b1:decide (300 < l0_3.length)=false:=decide_eq_false zq8
     clear c13
     obtain rfl:=Option.some.inj H
     have hcz15_0:wc.cell? ⟨gb308,0,none⟩=some (.int .i64 a0_0):=(blk_cell BK308.out 0).trans rfl
     have hcz15_1:wc.cell? ⟨gb308,1,none⟩=some (.int .i64 a0_1):=(blk_cell BK308.out 1).trans rfl
     have hcz15_2:wc.cell? ⟨gb308,2,none⟩=some (.int .i64 a0_2):=(blk_cell BK308.out 2).trans rfl
     have hcz15_3:wc.cell? ⟨gb308,3,none⟩=some (.slice A0_3 l0_3.length c0_3):=(blk_cell BK308.out 3).trans rfl
     have hfz15_0:=blk_frozen BK308.out 0
     have hfz15_1:=blk_frozen BK308.out 1
     have hfz15_2:=blk_frozen BK308.out 2
     have hfz15_3:=blk_frozen BK308.out 3
     go_wp2
     go_ret
     exact⟨zq3,zq56⟩
section
theorem nil_yes (w:World) (n c:Nat):(binOp .eql 25 (.slice none n c) (.slice none 0 0)).run Try.prog w=.ok (.bool true) w:=Go.Lib.run_eql_slice_nil w _ 5 none n c 0 0 Try.underlying25
theorem nil_no (w:World) (a:Addr) (n c:Nat):(binOp .eql 25 (.slice (some a) n c) (.slice none 0 0)).run Try.prog w=.ok (.bool false) w:=Go.Lib.run_eql_slice_nil w _ 5 (some a) n c 0 0 Try.underlying25
attribute [local go_sem] nil_yes nil_no
def bytes_Clone.f (l0:List Int):Option (List Int):=if l0.length < 140737488355328 then some l0 else none
set_option maxHeartbeats 4000000 in
set_option maxRecDepth 100000 in
theorem bytes_Clone.calls (A0:Option Addr) (c0:Nat) (l0:List Int) (r:List Int) (w:World) (hr0:Kd.C (Kd.int .u8) w A0 l0.length l0) (hc0:l0.length≤c0) (h:bytes_Clone.f l0=some r) :
  Calls Try.prog 68 #[.slice A0 l0.length c0] w fun e w'=>∃ v0_:Value,e=.returned (v0_)∧Kd.R (Kd.int .u8) 5 w' w.heap.size (fun _=>True) v0_ r∧Below w.heap.size w w':=by
 unfold bytes_Clone.f at h
 by_cases c2:l0.length < 140737488355328
 ·rw[if_pos c2,Option.some.injEq] at h
  subst h
  have LM:=zM c2
  clear c2
  have HB:=zM (Below.refl w.heap.size w)
  cases A0 with
  | none=>
   have e:l0=[]:=by
    have h3:=hr0.2.2
    cases l0 with
    | nil=>rfl
    | cons x l=>
     obtain⟨a,ha,_⟩:=h3 zq73
     cases ha
   subst e
   clear hr0 hc0
   go_enter Try.func68,Try.ntmps68
   go_wp2
   go_ret
   exact⟨_,rfl,Kd.R_nil _ _ _ _ _,HB.out⟩
  | some a0=>
   have HR0:=zM hr0
   clear hr0 hc0
   go_enter Try.func68,Try.ntmps68
   go_wp2_with (first
     | ((with_reducible refine gate_dst (N:=5) rfl ?_);refine Kd.R_lit (Kd.int .u8) _ 5 ?hg (N:=5) ?hd (xs:=([]:List Int)) (inner:=[]) (ok:=fun _=>True) (okp:=fun _=>True) ?hr ?hp (fun _ hk=>hk) trivial (Below.refl _ _) (Nat.le_refl _) zq73 ?_;(case hd=>rfl);(case hg=>rfl);(case hr=>first|(go_simp;done)|(go_simp;rfl));(case hp=>exact(Reps.none _ _));intro v1 w3 ho4 hb hg_ hnew_;clear hg_ hnew_;have n0_:=zM (Kd.R_lower ho4 (below_size zq0));have n1_:=zM (below_step zq0 hb);clear HB;have HO1:=n0_;have HB:=n1_;clear n0_ n1_;clear hb ho4)
     | ((with_reducible refine gate_builtin (b:=.append) (xs:=#[.tmp 5,.tmp 6]) rfl ?_);at_builtin;refine Kd.R_append_rows (Kd.int .u8) (w0:=w) w.heap.size rfl (.tmp 5) (.tmp 6) 25 5 (.int .u8 0) 1 rfl Try.underlying25 info5 rfl zq36 zq8 v1 ([]:List Int) l0 _ _ _ (fun _=>True) (fun _=>False) rfl rfl ?aO ?aR (fun _ _ h=>h) (fun _ h=>h.elim) ?aF ?aB ?aS ?aL ?_;(case aR=>exact zq118);(case aB=>exact zq0);(case aF=>exact(fun _ _=>trivial));(case aO=>exact zq182);(case aS=>exact(below_size zq0));(case aL=>have:=LM.out;simp;omega);intro v2 w5 ho hb hg hat;have n0_:=zM (hb);have n1_:=zM (ho);clear HB;clear HO1;have HB:=n0_;have HO2:=n1_;clear n0_ n1_;clear ho hb hg hat))
   go_ret
   exact⟨_,rfl,zq185,zq0⟩
 ·rw[if_neg c2] at h
  cases h
end
def impl_ownKey.f (a0_0:Int) (l0_1:List Int):Option (Int × List Int):=(bytes_Clone.f l0_1).bind fun t315=>(some (a0_0,t315))
set_option maxHeartbeats 8000000 in
set_option maxRecDepth 100000 in
theorem impl_ownKey.calls (a0_0:Int) (A0_1:Option Addr) (c0_1:Nat) (l0_1:List Int) (r1:Int) (r2:List Int) (w:World) (hr0_1:Kd.C (Kd.int .u8) w A0_1 l0_1.length l0_1) (hc0_1:l0_1.length≤c0_1) (h:impl_ownKey.f a0_0 l0_1=some (r1,r2)) :
  Calls Try.prog 50 #[.agg #[.int .i64 a0_0,.slice A0_1 l0_1.length c0_1]] w fun e w'=>∃ v1_:Value,e=.returned (.agg #[.int .i64 r1,v1_])∧Kd.R (Kd.int .u8) 5 w' w.heap.size (fun _=>True) v1_ r2∧Below w.heap.size w w':=by
 have hu54:=Try.underlying54
 have HR0_1:=zM hr0_1
 have HC0_1:=zM hc0_1
 clear hr0_1 hc0_1
 have HB:=zM (Below.refl w.heap.size w)
 have H:((bytes_Clone.f l0_1).bind fun t315=>(some (a0_0,t315)))=some (r1,r2):=h
 clear h
 replace H:=Option.bind_eq_some_iff.mp H
 obtain⟨t315,A20,H⟩:=H
 replace H:(some (a0_0,t315))=some (r1,r2):=H
 have A2:=zM A20
 clear A20
 simp only[Option.some.injEq,Prod.mk.injEq] at H
 obtain⟨rfl,rfl⟩:=H
 go_enter Try.func50,Try.ntmps50
 try go_wp2_with (first|((with_reducible refine gate_dst (N:=1) rfl ?_);refine box_event ?hg (N:=1) ?hd (cs:=#[.int .i64 a0_0,.slice A0_1 l0_1.length c0_1]) (t:=54) ?hr ?_;(case hd=>rfl);(case hg=>rfl);(case hr=>first|(go_simp;done)|(go_simp;rfl));intro gb313 hg w3 hbox hb;have n0_:=zM (below_step zq0 hb);have n1_:=zM (hbox);have n2_:=zM ((by rw[hg];exact(below_size zq0):w.heap.size≤gb313));have n3_:=zM ((by rw[hg];exact(below_size zq0):w.heap.size≤gb313));clear HB;have HB:=n0_;have BK313:=n1_;have GW313:=n2_;have GE313:=n3_;clear n0_ n1_ n2_ n3_;clear hb hbox hg)|((with_reducible refine gate_dst (N:=2) rfl ?_);refine box_event ?hg (N:=2) ?hd (cs:=#[.int .i64 0,.slice none 0 0]) (t:=54) ?hr ?_;(case hd=>rfl);(case hg=>rfl);(case hr=>first|(go_simp;done)|(go_simp;rfl));intro gb314 hg w4 hbox hb;have n0_:=zM (blk_below (g:=gb313) (o:=.cells #[.int .i64 a0_0,.slice A0_1 l0_1.length c0_1] 54 (0,0)) zq107 hb);have n1_:=zM (below_step zq109 hb);have n2_:=zM (hbox);have n3_:=zM ((by rw[hg];exact(below_size zq109):w.heap.size≤gb314));have n4_:=zM ((by rw[hg];exact(below_size zq109):w.heap.size≤gb314));have n5_:=zM ((by rw[hg];exact Nat.ne_of_lt (blk_lt (g:=gb313) (o:=.cells #[.int .i64 a0_0,.slice A0_1 l0_1.length c0_1] 54 (0,0)) zq107):gb313≠gb314));have n6_:=zM ((by rw[hg];exact Nat.ne_of_gt (blk_lt (g:=gb313) (o:=.cells #[.int .i64 a0_0,.slice A0_1 l0_1.length c0_1] 54 (0,0)) zq107):gb314≠gb313));clear BK313;clear HB;have BK313:=n0_;have HB:=n1_;have BK314:=n2_;have GW314:=n3_;have GE314:=n4_;have NB313_314:=n5_;have NB314_313:=n6_;clear n0_ n1_ n2_ n3_ n4_ n5_ n6_;clear hb hbox hg))
 have n0_:=zM (blk_drew BK313.out)
 have n1_:=zM (blk_drew BK314.out)
 have n2_:=zM (below_drew1 HB.out)
 clear BK313
 clear BK314
 clear HB
 have BK313:=n0_
 have BK314:=n1_
 have HB:=n2_
 clear n0_ n1_ n2_
 refine start_ (n:=7) (S:=fun w'=>w'.cell? ⟨gb313,0,none⟩=some (.int .i64 a0_0)∧w'.cell? ⟨gb313,1,none⟩=some (.slice A0_1 l0_1.length c0_1)) (ds:=[]) #[false,false,false,false,false,false,false] (by kernel_rfl) rfl rfl ⟨(blk_cell BK313.out 0).trans rfl,(blk_cell BK313.out 1).trans rfl⟩ (fun hHeld=>?_)
 generalize w4.drew=w5 at BK313 BK314 HB hHeld ⊢
 refine pure_ (i:=0) (N:=some 3) (v:=?_) (a':=?_) #[true,false,false,false,false,false,false] rfl rfl (by kernel_rfl) (fun _ _ _ h=>h) (Or.inl ⟨zq125,?_⟩) ?_ ?_
 rotate_left
 ·intro w'
  go_simp
  with_reducible rfl
 rotate_left
 ·simp only[Act.put,List.setIfInBounds_toArray,List.set_cons_zero,List.set_cons_succ,i64_w,i32_w]
  rfl
 refine pure_ (i:=2) (N:=some 5) (v:=?_) (a':=?_) #[true,false,true,false,false,false,false] rfl rfl (by kernel_rfl) (fun _ _ _ h=>h) (Or.inl ⟨zq125,?_⟩) ?_ ?_
 rotate_left
 ·intro w'
  go_simp
  with_reducible rfl
 rotate_left
 ·simp only[Act.put,List.setIfInBounds_toArray,List.set_cons_zero,List.set_cons_succ,i64_w,i32_w]
  rfl
 refine take_ (i:=1) (N:=some 4) (v:=?_) (a':=?_) #[true,true,true,false,false,false,false] rfl rfl (by kernel_rfl) (fun _ _ _ h=>h) (Or.inl ⟨zq125,?_⟩) hHeld ?_ ?_
 rotate_left
 ·rintro w' ⟨s0,s1⟩
  go_simp
  with_reducible rfl
 rotate_left
 ·simp only[Act.put,List.setIfInBounds_toArray,List.set_cons_zero,List.set_cons_succ,i64_w,i32_w]
  rfl
 refine take_ (i:=3) (N:=some 6) (v:=?_) (a':=?_) #[true,true,true,true,false,false,false] rfl rfl (by kernel_rfl) (fun _ _ _ h=>h) (Or.inl ⟨zq125,?_⟩) hHeld ?_ ?_
 rotate_left
 ·rintro w' ⟨s0,s1⟩
  go_simp
  with_reducible rfl
 rotate_left
 ·simp only[Act.put,List.setIfInBounds_toArray,List.set_cons_zero,List.set_cons_succ,i64_w,i32_w]
  rfl
 refine one_ (i:=4) (N:=some 7) #[true,true,true,true,true,false,false] rfl rfl (by kernel_rfl) zq36 (fun K hK=>?_)
 refine goes_ Try.func68 (by kernel_rfl) rfl #[.slice A0_1 l0_1.length c0_1] zq125 rfl rfl zq1 ?_
 with_reducible refine(bytes_Clone.calls _ _ l0_1 t315 _ ?side1 ?side2 A2.out).mono ?_
 (case side1=>exact zq11)
 (case side2=>exact HC0_1.out)
 rintro e w6 ⟨v316,rfl,ho0,hb⟩
 refine⟨_,rfl,?_⟩
 have n0_:=zM (Kd.R_lower ho0 (below_size zq139))
 have n1_:=zM (blk_below (g:=gb313) (o:=.cells #[.int .i64 a0_0,.slice A0_1 l0_1.length c0_1] 54 (0,0)) zq107 hb)
 have n2_:=zM (blk_below (g:=gb314) (o:=.cells #[.int .i64 0,.slice none 0 0] 54 (0,0)) (by(with_reducible repeat (first|refine blk_drewN ?_ _|refine blk_drew ?_|refine blk_alloc ?_ _));exact BK314.out) hb)
 have n3_:=zM (below_step zq139 hb)
 clear BK313
 clear BK314
 clear HB
 have HO317:=n0_
 have BK313:=n1_
 have BK314:=n2_
 have HB:=n3_
 clear n0_ n1_ n2_ n3_
 (try clear hb)
 (try clear hb2)
 (try clear hk)
 (try clear hi)
 (try clear ho0)
 obtain⟨Ao7,co7,eo7⟩:=Kd.R_slice HO317.out
 (first|subst eo7|(injection eo7 with f1_ f2_ f3_;have f4_:=f1_.symm;have f5_:=f3_.symm;clear f1_ f2_ f3_;subst f4_;subst f5_))
 refine hK.out _ _ ⟨(blk_cell BK313.out 0).trans rfl,(blk_cell BK313.out 1).trans rfl⟩ (fun hHeld=>?_)
 clear hK K
 refine norm_ (a':=?_) ?_ ?_
 rotate_left
 ·show Act.put _ (some 7) _=_
  simp only[Act.put,List.setIfInBounds_toArray,List.set_cons_zero,List.set_cons_succ,i64_w,i32_w]
  rfl
 refine pure_ (i:=5) (N:=some 8) (v:=?_) (a':=?_) #[true,true,true,true,true,true,false] rfl rfl (by kernel_rfl) (fun _ _ _ h=>h) (Or.inl ⟨zq125,?_⟩) ?_ ?_
 rotate_left
 ·intro w'
  go_simp
  with_reducible rfl
 rotate_left
 ·simp only[Act.put,List.setIfInBounds_toArray,List.set_cons_zero,List.set_cons_succ,i64_w,i32_w]
  rfl
 refine one_ (i:=6) (N:=none) #[true,true,true,true,true,true,true] rfl rfl (by kernel_rfl) zq36 (fun K hK=>?_)
 have hs8:w6.cell? ⟨gb314,0,none⟩=some (.int .i64 0):=(blk_cell BK314.out 0).trans rfl
 have hfs8:=blk_frozen BK314.out 0
 have hns8_0:=NB313_314.out
 have hms8_0:=NB314_313.out
 have hs9:w6.cell? ⟨gb314,1,none⟩=some (.slice none 0 0):=(blk_cell BK314.out 1).trans rfl
 have hfs9:=blk_frozen BK314.out 1
 have hns9_0:=NB313_314.out
 have hms9_0:=NB314_313.out
 refine skip_ (w1:=?_) zq125 rfl ?_ ?_
 rotate_left
 ·go_simp
  rfl
 refine hK.out _ _ ⟨((cell_far (p:=⟨gb314,_,none⟩) NB313_314.out _).trans (((cell_far (p:=⟨gb314,_,none⟩) NB313_314.out _).trans (hHeld.1)))),((cell_far (p:=⟨gb314,_,none⟩) NB313_314.out _).trans (((cell_far (p:=⟨gb314,_,none⟩) NB313_314.out _).trans (hHeld.2))))⟩ (fun hHeld=>?_)
 clear hK K
 refine done_ (by kernel_rfl) ?_
 try go_wp2
 refine bodyPost_ret (results_cell_row rfl _ _ gb314 54 #[.int .i64 a0_0,.slice Ao7 t315.length co7] (0,0) _ rfl (by(with_reducible repeat (first|refine blk_drewN ?_ _|refine blk_drew ?_|refine blk_alloc ?_ _));refine blk_put (cs:=#[.int .i64 a0_0,.slice none 0 0]) ?_ 1 _ rfl;(with_reducible repeat (first|refine blk_drewN ?_ _|refine blk_drew ?_|refine blk_alloc ?_ _));refine blk_put (cs:=#[.int .i64 0,.slice none 0 0]) ?_ 0 _ rfl;(with_reducible repeat (first|refine blk_drewN ?_ _|refine blk_drew ?_|refine blk_alloc ?_ _));exact BK314.out) Try.underlying54 rfl (by kernel_rfl)) rfl ?_
 exact⟨_,zq3,by(with_reducible repeat (first|apply Kd.R_alloc|apply Kd.R_drewN|apply Kd.R_drew));exact Kd.R_mono (Kd.R_far (p:=⟨gb314,1,none⟩) (Kd.R_far (p:=⟨gb314,0,none⟩) (Kd.R_types HO317.out BK314.out zq36) (fun _ hk=>hk.2) (.int .i64 a0_0)) (fun _ hk=>hk.2) (.slice Ao7 t315.length co7)) (fun _ hk=>trivial),by repeat (first|(with_reducible first|exact HB.out|apply below_alloc|apply pw_below_drewN|apply below_drew1|refine below_set ?_ GE313.out|refine below_set ?_ GE314.out)|exact HB.out)⟩
end Go.Proofs.Ytdbanjdnjhflcaa.All
