-- Laid by wip/shake.py of this repo out of this claim's texts. Not trusted: Lean checks it.
import Derived.Test.YtmnhddedcbkpoaaAb0s
import Derived.Test.YtmnhddedcbkpoaaBytes
namespace Go.Proofs.Ytmnhddedcbkpoaa.All
open Go.Proofs.YtmnhddedcbkpoaaW.PrintWords.Aside0 renaming mk→zM
open Go.RowKit Go.Proofs.YtmnhddedcbkpoaaW.PrintWords Go.Proofs.YtmnhddedcbkpoaaW.PrintLast Go.Proofs.YtmnhddedcbkpoaaW.PrintMore
attribute [local go_sem] max2_int min2_int max_two min_two max_three min_three max_four min_four
set_option linter.unusedVariables false
set_option linter.unusedSimpArgs false
def spec_l1Copy.f (l0:List Int):Option (List Int):=(some (([]:List Int):List Int)).bind fun y286=>(if y286.length+l0.length < 140737488355328 then (some (y286 ++ l0)) else (none))
set_option maxHeartbeats 8000000 in
set_option maxRecDepth 100000 in
theorem spec_l1Copy.calls (A0:Option Addr) (c0:Nat) (l0:List Int) (r:List Int) (w:World) (hr0:Kd.C (Kd.int .u8) w A0 l0.length l0) (hc0:l0.length≤c0) (h:spec_l1Copy.f l0=some r) :
  Calls Try.prog 88 #[.slice A0 l0.length c0] w fun e w'=>∃ v0_:Value,e=.returned (v0_)∧Kd.R (Kd.int .u8) 5 w' w.heap.size (fun _=>True) v0_ r∧Below w.heap.size w w':=by
 have HR0:=zM hr0
 have HC0:=zM hc0
 clear hr0 hc0
 have HB:=zM (Below.refl w.heap.size w)
 have H:((some (([]:List Int):List Int)).bind fun y286=>(if y286.length+l0.length < 140737488355328 then (some (y286 ++ l0)) else (none)))=some r:=h
 clear h
 obtain⟨y286,hy286⟩:∃ y_:List Int,y_=(([]:List Int)):=⟨_,rfl⟩
 replace H:(if y286.length+l0.length < 140737488355328 then (some (y286 ++ l0)) else (none))=some r:=by first|(rw[hy286];with_reducible exact H)|(have H2_:=(Option.bind_some _ _).symm.trans H;rw[hy286];with_reducible exact H2_)|(have H2_:=(Option.bind_some _ _).symm.trans H;with_reducible exact H2_)|with_reducible exact H|(rw[hy286];exact H)|exact H
 have Ny286:=zM hy286
 clear hy286
 by_cases c2:y286.length+l0.length < 140737488355328
 ·rw[if_pos c2] at H
  have LMc2:=zM c2
  clear c2
  obtain⟨y289,hy289⟩:∃ y_:List Int,y_=(y286 ++ l0):=⟨_,rfl⟩
  replace H:(some y289)=some r:=by first|(rw[hy289];with_reducible exact H)|(have H2_:=(Option.bind_some _ _).symm.trans H;rw[hy289];with_reducible exact H2_)|(have H2_:=(Option.bind_some _ _).symm.trans H;with_reducible exact H2_)|with_reducible exact H|(rw[hy289];exact H)|exact H
  have Ny289:=zM hy289
  clear hy289
  obtain rfl:=Option.some.inj H
  go_enter Try.func88,Try.ntmps88
  go_wp2_with (first|((with_reducible refine gate_dst (N:=3) rfl ?_);refine Kd.R_lit (Kd.int .u8) _ 5 ?hg (N:=3) ?hd (xs:=([]:List Int)) (inner:=[]) (ok:=fun _=>True) (okp:=fun _=>True) ?hr ?hp (fun _ hk=>hk) trivial (Below.refl _ _) (Nat.le_refl _) zq58 ?_;(case hd=>rfl);(case hg=>rfl);(case hr=>first|(go_simp;done)|(go_simp;rfl));(case hp=>exact(Reps.none _ _));intro v287 w3 ho4 hb hg_ hnew_;clear hg_ hnew_;(first|rw[← Ny286.out] at ho4|(simp only[Int.reduceToNat] at ho4;rw[← Ny286.out] at ho4));have n0_:=zM (Kd.R_lower ho4 (below_size zq0));have n1_:=zM (below_step zq0 hb);clear HB;have HO288:=n0_;have HB:=n1_;clear n0_ n1_;clear hb ho4)|((with_reducible refine gate_builtin (b:=.append) (xs:=#[.tmp 3,.tmp 4]) rfl ?_);at_builtin;refine Kd.R_append_rows (Kd.int .u8) (w0:=w) w.heap.size rfl (.tmp 3) (.tmp 4) 22 5 (.int .u8 0) 1 rfl Try.underlying22 info5 rfl zq17 zq21 v287 y286 l0 _ _ _ (fun _=>True) (fun _=>False) rfl rfl ?aO ?aR (fun _ _ h=>h) (fun _ h=>h.elim) ?aF ?aB ?aS ?aL ?_;(case aR=>exact zq100);(case aB=>exact zq0);(case aF=>exact(fun _ _=>trivial));(case aO=>exact(by(with_reducible repeat (first|apply Kd.R_alloc|apply Kd.R_drewN|apply Kd.R_drew));exact HO288.out));(case aS=>exact(below_size zq0));(case aL=>have:=LMc2.out;omega);intro v290 w5 ho hb hg hat;rw[← Ny289.out] at ho;have n0_:=zM (hb);have n1_:=zM (ho);clear HB;clear HO288;have HB:=n0_;have HO291:=n1_;clear n0_ n1_;clear ho hb hg hat))
  go_ret
  exact⟨_,zq10,by(with_reducible repeat (first|apply Kd.R_alloc|apply Kd.R_drewN|apply Kd.R_drew));exact HO291.out,zq0⟩
 ·rw[if_neg c2] at H
  exact absurd H zq58
end Go.Proofs.Ytmnhddedcbkpoaa.All
