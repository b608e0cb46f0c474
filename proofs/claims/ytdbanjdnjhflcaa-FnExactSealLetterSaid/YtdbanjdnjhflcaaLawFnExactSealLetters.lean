-- Laid by wip/shake.py of this repo out of this claim's texts. Not trusted: Lean checks it.
import Derived.Test.YtdbanjdnjhflcaaAb0s
import Derived.Test.YtdbanjdnjhflcaaRows
import Derived.Test.YtdbanjdnjhflcaaAllx584s
import Derived.Test.YtdbanjdnjhflcaaLemKeyss
import Derived.Test.YtdbanjdnjhflcaaPureFnExactSealLetters
import Derived.WalkKit
import Derived.ProofKit
import Derived.OpenShut
import Derived.ShutString
import Derived.ChangeOld
import Derived.Below
import Derived.SizedLaws
import Derived.Lib.SmallJoins
set_option linter.unusedVariables false
namespace Go.Proofs.Ytdbanjdnjhflcaa.fnExactSealLetter
open Go.Joins Go.ChangeShapes Go.WideShapes Go.ChangeAt Go.RowKit Go.Deep Go.Proofs.YtdbanjdnjhflcaaW.PrintWords
open Go.ChangeMaps (open_string shut_string)
theorem own:ownKnob Try.prog.godebug=none:=by kernel_rfl
theorem laidOut:laidOutB Try.prog=true:=by kernel_rfl
def IsRow (k:IntKind) (w:World) (a:Option Addr) (len cap:Nat) (zs:List Int):Prop:=
 (a=none∧len=0∧cap=0∧zs=[]) ∨
 ∃ x,a=some x∧len≤cap∧cap≤maxLen∧zs.length=cap∧(∀ i,i < zs.length→w.cell? (x.add i)=some (.int k (zs.getD i 0)))∧∀ n ∈ zs,(Lit.int k n).wf=true
set_option maxRecDepth 100000 in
theorem lifted (os:Os) (started:os.Started) (H:Type) (enc:TypeId × Value→H) :
  ReturnsInHanded {} Try.checked os 3 .any (Rows.fnExactSealLetterSpec.pre6 enc Try.prog Try.f3 Rows.fnExactSealLetterRow.domain false) (Rows.fnExactSealLetterSpec.post enc Try.prog Try.f3 false true false false):=by
 refine returnsInHanded_of_change_sized (C:=Try.checked) own started (by kernel_rfl) Try.func3
  (ChangeSpec.witness6 (enc:=enc) (C:=Try.checked) false ⟨#[],#[.agg #[.int .i64 0,.slice none 0 0],.agg #[.int .i64 0,.int .i64 0,.int .i64 0,.slice none 0 0]],[]⟩ 8 (by kernel_rfl) (by kernel_rfl) (by kernel_rfl) (by kernel_rfl)) ?_
 intro W base args ds gs before hval0 hW hcnd hsz0 _
 have hval:∀ (j:Nat) t v,Try.f3.params[j]?=some t→args[j]?=some v→Value.okWide Try.prog W .any base t v:=hval0
 have hW':=hW
 obtain⟨p,q,hA0,hV,rfl,hfz,hnd⟩:=hW
 have hA:DataW.TrodAll enc Try.prog W 0 (fun _=>true) true Try.f3.params.toList args.toList ds p:=hA0
 rw[Try.params3] at hA hval
 obtain⟨v0,vs0,d0,ds0,p0,q0,hargs,rfl,rfl,h0,r0⟩:=trodAll_cons hA
 obtain⟨v1,vs1,d1,ds1,p1,q1,rfl,rfl,rfl,h1,r1⟩:=trodAll_cons r0
 obtain⟨rfl,rfl,rfl⟩:=trodAll_nil r1
 obtain rfl:args=#[v0,v1]:=by cases args;simp_all
 obtain⟨rfl,rfl⟩:=trodVars_none hV
 have k0:=h0
 have lt0:∀ x ∈ p0,x.block < W.heap.size:=by obtain⟨m,hm⟩:=k0;exact DataW.trod_lt m _ _ _ hm
 obtain⟨v0_0,v0_1,y0_0,y0_1,n0,rfl,rfl,rfl,t0_0,t0_1⟩:=open_agg2 Try.underlying24 (by kernel_rfl) (by kernel_rfl) (hval 0 24 v0 rfl rfl) h0
 obtain⟨a0_0,e0_0,_,w0_0⟩:=DataW.trod_int (k:=.i64) Try.underlying2 t0_0
 obtain rfl:v0_0=.int .i64 a0_0:=by simpa using e0_0
 obtain⟨A0_1,c0_1,l0_1,e0_1,hr0_1,hc0_1,hm0_1,hw0_1⟩:=All.open_keys Try.underlying22 Try.underlying70 (by kernel_rfl) rfl rfl (by kernel_rfl) (by kernel_rfl) Try.underlying2 Try.underlying25 Try.underlying5 (by kernel_rfl) t0_1
 obtain rfl:v0_1=.slice A0_1 l0_1.length c0_1:=by simpa using e0_1
 have k1:=h1
 have lt1:∀ x ∈ p1,x.block < W.heap.size:=by obtain⟨m,hm⟩:=k1;exact DataW.trod_lt m _ _ _ hm
 obtain⟨v1_0,v1_1,v1_2,v1_3,y1_0,y1_1,y1_2,y1_3,n1,rfl,rfl,rfl,t1_0,t1_1,t1_2,t1_3⟩:=open_agg4 Try.underlying27 (by kernel_rfl) (by kernel_rfl) (hval 1 27 v1 rfl rfl) h1
 obtain⟨a1_0,e1_0,_,w1_0⟩:=DataW.trod_int (k:=.i64) Try.underlying2 t1_0
 obtain rfl:v1_0=.int .i64 a1_0:=by simpa using e1_0
 obtain⟨a1_1,e1_1,_,w1_1⟩:=DataW.trod_int (k:=.i64) Try.underlying2 t1_1
 obtain rfl:v1_1=.int .i64 a1_1:=by simpa using e1_1
 obtain⟨a1_2,e1_2,_,w1_2⟩:=DataW.trod_int (k:=.i64) Try.underlying2 t1_2
 obtain rfl:v1_2=.int .i64 a1_2:=by simpa using e1_2
 obtain⟨A1_3,len1_3,c1_3,z1_3,e1_3,w1_3⟩:∃ A len cap zs,v1_3=.slice A len cap∧IsRow .u8 W A len cap zs:=by
  rcases open_ints Try.underlying25 Try.underlying5 (by kernel_rfl) t1_3 with ⟨hcs,_⟩|⟨x,l,c,zs,hcs,_,hl,hm,hz,_,hcell,hwz⟩
  ·exact⟨none,0,0,[],by simpa using hcs,.inl ⟨rfl,rfl,rfl,rfl⟩⟩
  ·exact⟨some x,l,c,zs,by simpa using hcs,.inr ⟨_,rfl,hl,hm,by simpa using hz,hcell,hwz⟩⟩
 subst e1_3
 obtain⟨l1_3,rfl,hr1_3,hm1_3,hw1_3,hc1_3⟩:=ReadsInt.ofRowC w1_3
 obtain⟨k,hk⟩:=Pure.FnExactSealLetter a0_0 l0_1 a1_0 a1_1 a1_2 l1_3 w0_0 hm0_1 hw0_1 w1_0 w1_1 w1_2 hm1_3 hw1_3
 refine(All.laws_FnExactSealLetter.calls k a0_0 _ _ l0_1 a1_0 a1_1 a1_2 _ _ l1_3 true W hr0_1 hc0_1 (Kd.C_of_reads (d:=(0:Int)) (h1:=fun _=>rfl) hr1_3) hc1_3 hk).mono fun e W' ⟨he,bel0⟩=>?_
 have bel:=bel0
 subst he
 exact⟨_,rfl,_,_,_,[],_,[],hW',trodAll_mk1 (shut_bool Try.underlying4 _),(trodAll_cons_mk (Below.trod laidOut (by kernel_rfl) (of_decide_eq_true (by kernel_rfl)) k0 bel lt0) (trodAll_cons_mk (Below.trod laidOut (by kernel_rfl) (of_decide_eq_true (by kernel_rfl)) k1 bel lt1) trodAll_mk0)),rfl,bel.frame _,fun h=>by cases h⟩
set_option maxHeartbeats 8000000 in
set_option maxRecDepth 100000 in
theorem over_joined:joinedFacts Try.pinned.checked.prog 3 Try.f3 Rows.fnExactSealLetterSpec Rows.fnExactSealLetterRow=true:=by
 unfold joinedFacts
 simp only[Bool.and_eq_true]
 repeat' apply And.intro
 all_goals decide +kernel
theorem over_named:Try.pinned.checked.prog.funcNamed Rows.fnExactSealLetterRow.func=some 3:=by kernel_rfl
theorem over_inst:Try.f3.isInstance Try.pinned.checked.prog Rows.fnExactSealLetterRow.origin Rows.fnExactSealLetterRow.targs:=of_decide_eq_true (by kernel_rfl)
theorem over_wrap:Try.f3.isWrapper Try.pinned.checked.prog Rows.fnExactSealLetterRow.wrapper Rows.fnExactSealLetterRow.mainSum:=by unfold Func.isWrapper;first|(rw[if_pos zq188];kernel_rfl)|(rw[if_neg zq188];exact⟨rfl,rfl⟩)
theorem over:Rows.fnExactSealLetterRow.holds Try.pinned (OpenSpec.ofChange Rows.fnExactSealLetterSpec):=
 OpenClaim.holds_of_wide 3 Try.f3 rfl rfl rfl rfl rfl rfl rfl ⟨rfl,rfl,rfl,rfl,rfl⟩ rfl rfl rfl rfl rfl over_named Try.func3 over_joined over_inst over_wrap
  (fun os started H enc _=>lifted os started H enc)
theorem proved:Rows.FnExactSealLetterSaid:=over
#print axioms proved
end Go.Proofs.Ytdbanjdnjhflcaa.fnExactSealLetter
namespace Go.Proofs.Ytdbanjdnjhflcaa
theorem fnExactSealLetter_holds:Rows.FnExactSealLetterSaid:=fnExactSealLetter.proved
end Go.Proofs.Ytdbanjdnjhflcaa
