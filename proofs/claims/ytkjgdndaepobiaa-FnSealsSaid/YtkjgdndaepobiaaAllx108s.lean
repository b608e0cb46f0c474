-- Laid by wip/shake.py of this repo out of this claim's texts. Not trusted: Lean checks it.
import Derived.Test.YtkjgdndaepobiaaAb0s
import Derived.Test.YtkjgdndaepobiaaAllx0s
import Derived.Test.YtkjgdndaepobiaaAllx32s
section
namespace Go.Proofs.Ytkjgdndaepobiaa.All
open Go.Proofs.YtkjgdndaepobiaaW.PrintWords.Aside0 renaming mk→zM
open Go.RowKit Go.Proofs.YtkjgdndaepobiaaW.PrintWords Go.Proofs.YtkjgdndaepobiaaW.PrintLast Go.Proofs.YtkjgdndaepobiaaW.PrintMore
attribute [local go_sem] max2_int min2_int max_two min_two max_three min_three max_four min_four
set_option linter.unusedVariables false
set_option linter.unusedSimpArgs false
def spec_l3First.f (l0:List Int):Option (List Int):=(spec_l1Copy.f l0).bind fun t372=>((some (([0,0,0,1]:List Int):List Int)).bind fun y375=>(if t372.length+y375.length < 140737488355328 then (some (t372 ++ y375)) else (none)))
set_option maxHeartbeats 8000000 in
set_option maxRecDepth 100000 in
theorem spec_l3First.calls (A0:Option Addr) (c0:Nat) (l0:List Int) (r:List Int) (w:World) (hr0:Kd.C (Kd.int .u8) w A0 l0.length l0) (hc0:l0.length≤c0) (h:spec_l3First.f l0=some r) :
  Calls Try.prog 67 #[.slice A0 l0.length c0] w fun e w'=>∃ v0_:Value,e=.returned (v0_)∧Kd.R (Kd.int .u8) 5 w' w.heap.size (fun _=>True) v0_ r∧Below w.heap.size w w':=by
 have HR0:=zM hr0
 have HC0:=zM hc0
 clear hr0 hc0
 have HB:=zM (Below.refl w.heap.size w)
 have H:((spec_l1Copy.f l0).bind fun t372=>((some (([0,0,0,1]:List Int):List Int)).bind fun y375=>(if t372.length+y375.length < 140737488355328 then (some (t372 ++ y375)) else (none))))=some r:=h
 clear h
 replace H:=Option.bind_eq_some_iff.mp H
 obtain⟨t372,A20,H⟩:=H
 replace H:((some (([0,0,0,1]:List Int):List Int)).bind fun y375=>(if t372.length+y375.length < 140737488355328 then (some (t372 ++ y375)) else (none)))=some r:=H
 have A2:=zM A20
 clear A20
 obtain⟨y375,hy375⟩:∃ y_:List Int,y_=(([0,0,0,1]:List Int)):=⟨_,rfl⟩
 replace H:(if t372.length+y375.length < 140737488355328 then (some (t372 ++ y375)) else (none))=some r:=by first|(rw[hy375];with_reducible exact H)|(have H2_:=(Option.bind_some _ _).symm.trans H;rw[hy375];with_reducible exact H2_)|(have H2_:=(Option.bind_some _ _).symm.trans H;with_reducible exact H2_)|with_reducible exact H|(rw[hy375];exact H)|exact H
 have Ny375:=zM hy375
 clear hy375
 by_cases c3:t372.length+y375.length < 140737488355328
 ·rw[if_pos c3] at H
  have LMc3:=zM c3
  clear c3
  obtain⟨y378,hy378⟩:∃ y_:List Int,y_=(t372 ++ y375):=⟨_,rfl⟩
  replace H:(some y378)=some r:=by first|(rw[hy378];with_reducible exact H)|(have H2_:=(Option.bind_some _ _).symm.trans H;rw[hy378];with_reducible exact H2_)|(have H2_:=(Option.bind_some _ _).symm.trans H;with_reducible exact H2_)|with_reducible exact H|(rw[hy378];exact H)|exact H
  have Ny378:=zM hy378
  clear hy378
  obtain rfl:=Option.some.inj H
  go_enter Try.func67,Try.ntmps67
  go_wp2_with (first|((with_reducible refine gate_callee (f:=35) rfl ?_);refine goesL_ (some 4) rfl rfl Try.func35 (by kernel_rfl) rfl #[.slice A0 l0.length c0] rfl zq1 ?_;(with_reducible refine(spec_l1Copy.calls _ _ l0 t372 _ ?side1 ?side2 A2.out).mono ?_);(case side1=>exact zq89);(case side2=>exact HC0.out);rintro e w4 ⟨v373,rfl,ho0,hb⟩;refine⟨_,rfl,?_⟩;have n0_:=zM (Kd.R_lower ho0 (below_size zq0));have n1_:=zM (below_step zq0 hb);clear HB;have HO374:=n0_;have HB:=n1_;clear n0_ n1_;(try clear hb);(try clear hb2);(try clear hk);(try clear hi);(try clear ho0))|((with_reducible refine gate_dst (N:=5) rfl ?_);refine Kd.R_lit (Kd.int .u8) _ 5 ?hg (N:=5) ?hd (xs:=([0,0,0,1]:List Int)) (inner:=[.int .u8 0,.int .u8 0,.int .u8 0,.int .u8 1]) (ok:=fun _=>True) (okp:=fun _=>True) ?hr ?hp (fun _ hk=>hk) trivial (Below.refl _ _) (Nat.le_refl _) zq101 ?_;(case hd=>rfl);(case hg=>rfl);(case hr=>first|(go_simp;done)|(go_simp;rfl));(case hp=>exact(Reps.one (show Kd.M (Kd.int .u8) _ _ _ 0 [.int .u8 0] from rfl) (Reps.one (show Kd.M (Kd.int .u8) _ _ _ 0 [.int .u8 0] from rfl) (Reps.one (show Kd.M (Kd.int .u8) _ _ _ 0 [.int .u8 0] from rfl) (Reps.one (show Kd.M (Kd.int .u8) _ _ _ 1 [.int .u8 1] from rfl) (Reps.none _ _))))));intro v376 w5 ho6 hb hg_ hnew_;clear hg_ hnew_;(first|rw[← Ny375.out] at ho6|(simp only[Int.reduceToNat] at ho6;rw[← Ny375.out] at ho6));have n0_:=zM (Kd.R_elder' (by(with_reducible repeat (first|apply Kd.R_alloc|apply Kd.R_drewN|apply Kd.R_drew));exact HO374.out) (Kd.R_base ho6) hb);have n1_:=zM (Kd.R_lower (Kd.R_new' ho6 (Kd.R_lt (by(with_reducible repeat (first|apply Kd.R_alloc|apply Kd.R_drewN|apply Kd.R_drew));exact HO374.out))) (below_size zq0));have n2_:=zM (below_step zq0 hb);clear HO374;clear HB;have HO374:=n0_;have HO377:=n1_;have HB:=n2_;clear n0_ n1_ n2_;clear hb ho6;obtain⟨Ao8,co8,eo8⟩:=Kd.R_slice HO377.out;subst eo8)|((with_reducible refine gate_builtin (b:=.append) (xs:=#[.tmp 4,.tmp 5]) rfl ?_);at_builtin;refine Kd.R_append_rows (Kd.int .u8) (w0:=w) w.heap.size rfl (.tmp 4) (.tmp 5) 22 5 (.int .u8 0) 1 rfl Try.underlying22 info5 rfl zq22 zq9 v373 t372 y375 _ _ _ (fun k_=>some k_≠(.slice Ao8 y375.length co8:Value).ownBlock) (fun _=>False) rfl rfl ?aO ?aR (fun _ _ h=>h) (fun _ h=>h.elim) ?aF ?aB ?aS ?aL ?_;(case aR=>repeat (first|exact(Kd.R_reads' HO377.out).2.2|(with_reducible refine Kd.C_alloc ?_ _)|(with_reducible refine Kd.C_drewN ?_ _)|(with_reducible refine Kd.C_drew ?_)));(case aB=>exact zq0);(case aF=>exact(fun k_ hk=>Kd.fresh' (Kd.R_lt (by(with_reducible repeat (first|apply Kd.R_alloc|apply Kd.R_drewN|apply Kd.R_drew));exact HO377.out)) k_ hk));(case aO=>exact(by(with_reducible repeat (first|apply Kd.R_alloc|apply Kd.R_drewN|apply Kd.R_drew));exact Kd.R_mono HO374.out (fun _ hk=>hk.2)));(case aS=>exact(below_size zq0));(case aL=>have:=LMc3.out;omega);intro v379 w7 ho hb hg hat;rw[← Ny378.out] at ho;have n0_:=zM (Kd.R_after (ok:=(fun _=>True)) (by(with_reducible repeat (first|apply Kd.R_alloc|apply Kd.R_drewN|apply Kd.R_drew));exact HO377.out) hg hat);have n1_:=zM (hb);have n2_:=zM (ho);clear HO377;clear HB;clear HO374;have HO377:=n0_;have HB:=n1_;have HO380:=n2_;clear n0_ n1_ n2_;clear ho hb hg hat))
  go_ret
  exact⟨_,zq14,by(with_reducible repeat (first|apply Kd.R_alloc|apply Kd.R_drewN|apply Kd.R_drew));exact Kd.R_mono HO380.out (fun _ hk=>trivial),zq0⟩
 ·rw[if_neg c3] at H
  exact absurd H zq101
end Go.Proofs.Ytkjgdndaepobiaa.All
end
section
namespace Go.Proofs.Ytkjgdndaepobiaa.All
open Go.Proofs.YtkjgdndaepobiaaW.PrintWords.Aside0 renaming mk→zM
open Go.RowKit Go.Proofs.YtkjgdndaepobiaaW.PrintWords Go.Proofs.YtkjgdndaepobiaaW.PrintLast Go.Proofs.YtkjgdndaepobiaaW.PrintMore
attribute [local go_sem] max2_int min2_int max_two min_two max_three min_three max_four min_four
set_option linter.unusedVariables false
set_option linter.unusedSimpArgs false
def spec_l3Whole.l0:Nat→List Int→Option (List Int)
 | 0,_=>none
 | k+1,x3=>if ((x3.length:Int) % 16)=0 then (some x3) else (if x3.length < 140737488355328 then (spec_l3Whole.l0 k (x3 ++ [0])) else (none))
def spec_l3Whole.f (k:Nat) (l0:List Int):Option (List Int):=(spec_l1Copy.f l0).bind fun t381=>(spec_l3Whole.l0 k t381)
theorem spec_l3Whole.mono_l:∀ k,(∀ y0,LeO (spec_l3Whole.l0 k y0) (spec_l3Whole.l0 (k+1) y0))
 | 0=>fun _ r h=>by simp[spec_l3Whole.l0] at h
 | k+1=>by
  have ih0:=spec_l3Whole.mono_l k
  ·intro y0
   unfold spec_l3Whole.l0
   repeat' first
   | (with_reducible exact ih0 _)
   | (with_reducible exact LeO.refl _)
   | (with_reducible exact LeO.none _)
   | (with_reducible refine LeO.ite ?_ ?_)
   | (with_reducible refine LeO.bind ?_ (fun _=>?_))
   | exact ih0 _
   | exact LeO.none _
   | refine LeO.ite ?_ ?_
   | refine LeO.bind ?_ (fun _=>?_)
theorem spec_l3Whole.mono:∀ a0 k,LeO (spec_l3Whole.f k a0) (spec_l3Whole.f (k+1) a0):=by
 intro a0 k
 have ih0:=spec_l3Whole.mono_l k
 unfold spec_l3Whole.f
 repeat' first
   | (with_reducible exact ih0 _)
   | (with_reducible exact LeO.refl _)
   | (with_reducible exact LeO.none _)
   | (with_reducible refine LeO.ite ?_ ?_)
   | (with_reducible refine LeO.bind ?_ (fun _=>?_))
   | exact ih0 _
   | exact LeO.none _
   | refine LeO.ite ?_ ?_
   | refine LeO.bind ?_ (fun _=>?_)
set_option maxHeartbeats 8000000 in
set_option maxRecDepth 100000 in
theorem spec_l3Whole.calls (k:Nat) (A0:Option Addr) (c0:Nat) (l0:List Int) (r:List Int) (w:World) (hr0:Kd.C (Kd.int .u8) w A0 l0.length l0) (hc0:l0.length≤c0) (h:spec_l3Whole.f k l0=some r) :
  Calls Try.prog 81 #[.slice A0 l0.length c0] w fun e w'=>∃ v0_:Value,e=.returned (v0_)∧Kd.R (Kd.int .u8) 5 w' w.heap.size (fun _=>True) v0_ r∧Below w.heap.size w w':=by
 have HR0:=zM hr0
 have HC0:=zM hc0
 clear hr0 hc0
 have HB:=zM (Below.refl w.heap.size w)
 have H:((spec_l1Copy.f l0).bind fun t381=>(spec_l3Whole.l0 k t381))=some r:=h
 clear h
 replace H:=Option.bind_eq_some_iff.mp H
 obtain⟨t381,A20,H⟩:=H
 replace H:(spec_l3Whole.l0 k t381)=some r:=H
 have A2:=zM A20
 clear A20
 have H':=zM H
 clear H
 go_enter Try.func81,Try.ntmps81
 go_wp2_with (first|((with_reducible refine gate_callee (f:=35) rfl ?_);refine goesL_ (some 5) rfl rfl Try.func35 (by kernel_rfl) rfl #[.slice A0 l0.length c0] rfl zq1 ?_;(with_reducible refine(spec_l1Copy.calls _ _ l0 t381 _ ?side1 ?side2 A2.out).mono ?_);(case side1=>exact zq89);(case side2=>exact HC0.out);rintro e w3 ⟨v382,rfl,ho0,hb⟩;refine⟨_,rfl,?_⟩;have n0_:=zM (Kd.R_lower ho0 (below_size zq0));have n1_:=zM (below_step zq0 hb);clear HB;have HO383:=n0_;have HB:=n1_;clear n0_ n1_;(try clear hb);(try clear hb2);(try clear hk);(try clear hi);(try clear ho0)))
 go_loopg [3] k (fun kq v3 w'=>∃ (x3_1:List Int),Aside0 (spec_l3Whole.l0 kq x3_1=some r)∧Aside0 (kq≤k)∧Aside0 (Kd.R (Kd.int .u8) 5 w' w.heap.size (fun _=>True) v3 x3_1)∧Aside0 (Below w.heap.size w w'))
 case atStart=>exact⟨(t381),H',⟨Nat.le_refl _⟩,⟨by(with_reducible repeat (first|apply Kd.R_alloc|apply Kd.R_drewN|apply Kd.R_drew));exact HO383.out⟩,⟨zq0⟩⟩
 case round=>
  clear H'
  try clear p2
  try clear c3
  obtain⟨x3_1,HA,HK1,HO_3,HB⟩:=hrel
  cases gk with
  | zero=>exact absurd HA.out (by simp[spec_l3Whole.l0])
  | succ k1=>
   have H:=HA.out
   clear HA
   simp only[spec_l3Whole.l0] at H
   by_cases c4:((x3_1.length:Int) % 16)=0
   ·rw[if_pos c4] at H
    have c4b0:(((x3_1.length:Int) % 16) == 0)=true:=beq_iff_eq.mpr c4
    have c4b1:(((x3_1.length:Int) % 16) != 0)=false:=bne_eq_false_iff_eq.mpr c4
    clear c4
    obtain rfl:=Option.some.inj H
    obtain⟨Ao5,co5,eo5⟩:=Kd.R_slice HO_3.out
    subst eo5
    go_wp2
    go_ret
    exact⟨_,zq14,by(with_reducible repeat (first|apply Kd.R_alloc|apply Kd.R_drewN|apply Kd.R_drew));exact HO_3.out,zq0⟩
   ·rw[if_neg c4] at H
    have c4b0:(((x3_1.length:Int) % 16) == 0)=false:=beq_eq_false_iff_ne.mpr c4
    have c4b1:(((x3_1.length:Int) % 16) != 0)=true:=bne_iff_ne.mpr c4
    by_cases c6:x3_1.length < 140737488355328
    ·rw[if_pos c6] at H
     have LMc6:=zM c6
     clear c6
     obtain⟨y384,hy384⟩:∃ y_:List Int,y_=(x3_1 ++ [0]):=⟨_,rfl⟩
     replace H:(spec_l3Whole.l0 k1 y384)=some r:=by first|(rw[hy384];with_reducible exact H)|(have H2_:=(Option.bind_some _ _).symm.trans H;rw[hy384];with_reducible exact H2_)|(have H2_:=(Option.bind_some _ _).symm.trans H;with_reducible exact H2_)|with_reducible exact H|(rw[hy384];exact H)|exact H
     have Ny384:=zM hy384
     clear hy384
     have H':=zM H
     clear H
     obtain⟨Ao7,co7,eo7⟩:=Kd.R_slice HO_3.out
     subst eo7
     go_wp2_with (first|((with_reducible refine gate_builtin (b:=.append) (xs:=#[.tmp 10,.tmp 11]) rfl ?_);at_builtin;refine Kd.R_append (Kd.int .u8) (w0:=w) w.heap.size rfl (.tmp 10) (.tmp 11) 22 5 (.int .u8 0) 1 rfl Try.underlying22 info5 rfl zq22 zq9 (.slice Ao7 x3_1.length co7) x3_1 0 [.int .u8 0] (fun _=>True) (fun _=>False) rfl rfl ?aP (fun _ hk=>hk.elim) ?aF ?aO ?aB ?aS ?aL ?_;(case aP=>exact rfl);(case aB=>exact zq0);(case aF=>exact(fun _ _=>trivial));(case aO=>exact(by(with_reducible repeat (first|apply Kd.R_alloc|apply Kd.R_drewN|apply Kd.R_drew));exact HO_3.out));(case aS=>exact(below_size zq0));(case aL=>have:=LMc6.out;omega);intro v385 w8 ho hb hg hat;rw[← Ny384.out] at ho;have n0_:=zM (hb);have n1_:=zM (ho);clear HB;clear HO_3;have HB:=n0_;have HO386:=n1_;clear n0_ n1_;clear ho hb hg hat))
     go_roundg k1
     case measure=>have:=HK1.out;omega
     case rel=>exact⟨(y384),H',⟨zq153⟩,⟨by(with_reducible repeat (first|apply Kd.R_alloc|apply Kd.R_drewN|apply Kd.R_drew));exact HO386.out⟩,⟨zq0⟩⟩
    ·rw[if_neg c6] at H
     exact absurd H zq101
end Go.Proofs.Ytkjgdndaepobiaa.All
end
