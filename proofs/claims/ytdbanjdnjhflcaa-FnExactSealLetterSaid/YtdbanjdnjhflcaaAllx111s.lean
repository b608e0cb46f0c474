-- Laid by wip/shake.py of this repo out of this claim's texts. Not trusted: Lean checks it.
import Derived.Test.YtdbanjdnjhflcaaAb0s
import Derived.Test.YtdbanjdnjhflcaaAlgs
import Derived.Test.YtdbanjdnjhflcaaAllx26s
import Derived.Test.YtdbanjdnjhflcaaAllx119s
set_option linter.unusedSimpArgs false
set_option linter.unusedVariables false
namespace Go.Proofs.Ytdbanjdnjhflcaa.All
open Go.Proofs.YtdbanjdnjhflcaaW.PrintWords.Aside0 renaming mk→zM
open Go.RowKit Go.Proofs.YtdbanjdnjhflcaaW.PrintWords Go.Proofs.YtdbanjdnjhflcaaW.PrintLast Go.Proofs.YtdbanjdnjhflcaaW.PrintMore
attribute [local go_sem] max2_int min2_int max_two min_two max_three min_three max_four min_four
def impl_NonceOf.j0:Nat→Int→Int→Bool→Option (Int × List Int)
 | 0,_,_,_=>none
 | k+1,x0,x1,x12=>if x12=true then ((impl_noBytes.f 3).bind fun bt375=>(some (bt375.1,bt375.2))) else ((impl_word.f k x0 4).bind fun t379=>((impl_word.f k x1 8).bind fun t382=>(if t379.length+t382.length < 140737488355328 then (some (0,(t379 ++ t382))) else (none))))
def impl_NonceOf.f (k:Nat) (a0:Int) (a1:Int):Option (Int × List Int):=(impl_in.f a0 0 15).bind fun t373=>(if t373=true then ((impl_in.f a1 0 1000000000).bind fun t374=>(impl_NonceOf.j0 k a0 a1 (!t374))) else (impl_NonceOf.j0 k a0 a1 true))
theorem impl_NonceOf.mono_l:∀ k,(∀ y0 y1 y2,LeO (impl_NonceOf.j0 k y0 y1 y2) (impl_NonceOf.j0 (k+1) y0 y1 y2))
 | 0=>fun _ _ _ r h=>by simp[impl_NonceOf.j0] at h
 | k+1=>by
  have ih0:=impl_NonceOf.mono_l k
  ·intro y0 y1 y2
   unfold impl_NonceOf.j0
   repeat' first
   | (with_reducible exact ih0 _ _ _)
   | (with_reducible exact impl_word.mono _ _ _)
   | (with_reducible exact LeO.refl _)
   | (with_reducible exact LeO.none _)
   | (with_reducible refine LeO.ite ?_ ?_)
   | (with_reducible refine LeO.bind ?_ (fun _=>?_))
   | exact ih0 _ _ _
   | exact impl_word.mono _ _ _
   | exact LeO.none _
   | refine LeO.ite ?_ ?_
   | refine LeO.bind ?_ (fun _=>?_)
theorem impl_NonceOf.mono:∀ a0 a1 k,LeO (impl_NonceOf.f k a0 a1) (impl_NonceOf.f (k+1) a0 a1):=by
 intro a0 a1 k
 have ih0:=impl_NonceOf.mono_l k
 unfold impl_NonceOf.f
 repeat' first
   | (with_reducible exact ih0 _ _ _)
   | (with_reducible exact impl_word.mono _ _ _)
   | (with_reducible exact LeO.refl _)
   | (with_reducible exact LeO.none _)
   | (with_reducible refine LeO.ite ?_ ?_)
   | (with_reducible refine LeO.bind ?_ (fun _=>?_))
   | exact ih0 _ _ _
   | exact impl_word.mono _ _ _
   | exact LeO.none _
   | refine LeO.ite ?_ ?_
   | refine LeO.bind ?_ (fun _=>?_)
set_option maxHeartbeats 8000000 in
set_option maxRecDepth 100000 in
theorem impl_NonceOf.calls (k:Nat) (a0:Int) (a1:Int) (r1:Int) (r2:List Int) (w:World) (h:impl_NonceOf.f k a0 a1=some (r1,r2)) :
  Calls Try.prog 31 #[.int .i64 a0,.int .i64 a1] w fun e w'=>∃ v1_:Value,e=.returned (.agg #[.int .i64 r1,v1_])∧Kd.R (Kd.int .u8) 5 w' w.heap.size (fun _=>True) v1_ r2∧Below w.heap.size w w':=by
 have hu31:=Try.underlying31
 have HB:=zM (Below.refl w.heap.size w)
 have H:((impl_in.f a0 0 15).bind fun t373=>(if t373=true then ((impl_in.f a1 0 1000000000).bind fun t374=>(impl_NonceOf.j0 k a0 a1 (!t374))) else (impl_NonceOf.j0 k a0 a1 true)))=some (r1,r2):=h
 clear h
 have HC3:=zM H
 clear H
 go_enter Try.func31,Try.ntmps31
 go_upto_region 1 with (first|((with_reducible refine gate_dst (N:=4) rfl ?_);refine box_event ?hg (N:=4) ?hd (cs:=#[.int .i64 0,.slice none 0 0]) (t:=31) ?hr ?_;(case hd=>rfl);(case hg=>rfl);(case hr=>first|(go_simp;done)|(go_simp;rfl));intro gb372 hg w4 hbox hb;have n0_:=zM (below_step zq0 hb);have n1_:=zM (hbox);have n2_:=zM ((by rw[hg];exact(below_size zq0):w.heap.size≤gb372));have n3_:=zM ((by rw[hg];exact(below_size zq0):w.heap.size≤gb372));clear HB;have HB:=n0_;have BK372:=n1_;have GW372:=n2_;have GE372:=n3_;clear n0_ n1_ n2_ n3_;clear hb hbox hg))
 (try simp only[Act.put,List.setIfInBounds_toArray,List.set_cons_zero,List.set_cons_succ])
 go_cut [12] (fun v12 wc=>∃ (kq:Nat) (x12_2:Bool),v12=.bool x12_2∧Aside0 (impl_NonceOf.j0 kq a0 a1 x12_2=some (r1,r2))∧Aside0 (kq≤k)∧Aside0 (wc.heap[gb372]?=some (.cells #[.int .i64 0,(.slice none 0 0)] 31 (0,0)))∧Aside0 (Below w.heap.size w wc))
 case first=>
  have H:=HC3.out
  clear HC3
  replace H:=Option.bind_eq_some_iff.mp H
  obtain⟨t373,A50,H⟩:=H
  replace H:(if t373=true then ((impl_in.f a1 0 1000000000).bind fun t374=>(impl_NonceOf.j0 k a0 a1 (!t374))) else (impl_NonceOf.j0 k a0 a1 true))=some (r1,r2):=H
  have A5:=zM A50
  clear A50
  by_cases c6:t373=true
  ·subst c6
   have H1:((impl_in.f a1 0 1000000000).bind fun t374=>(impl_NonceOf.j0 k a0 a1 (!t374)))=some (r1,r2):=by rw[if_pos rfl] at H;exact H
   clear H
   have H:=H1
   clear H1
   replace H:=Option.bind_eq_some_iff.mp H
   obtain⟨t374,A70,H⟩:=H
   replace H:(impl_NonceOf.j0 k a0 a1 (!t374))=some (r1,r2):=H
   have A7:=zM A70
   clear A70
   have H':=zM H
   clear H
   go_wp2_with (first|((with_reducible refine gate_callee (f:=46) rfl ?_);refine goesL_ (some 6) rfl rfl Try.func46 (by kernel_rfl) rfl #[.int .i64 a0,.int .i64 0,.int .i64 15] rfl zq1 ?_;(with_reducible refine(impl_in.calls a0 0 15 true _ A5.out).mono ?_);rintro e w' ⟨rfl,⟨nd,rfl⟩⟩;refine⟨_,rfl,?_⟩)|(go_at_call 46;(with_reducible refine(impl_in.calls a1 0 1000000000 t374 _ A7.out).mono ?_);rintro e w' ⟨rfl,⟨nd,rfl⟩⟩))
   go_meet
   case rel=>exact⟨_,(!t374),zq7,H',⟨zq158⟩,⟨zq106⟩,⟨zq40⟩⟩
  ·replace c6:=Bool.eq_false_iff.mpr c6
   subst c6
   have H1:(impl_NonceOf.j0 k a0 a1 true)=some (r1,r2):=by rw[if_neg (show ¬ (false=true) by decide)] at H;exact H
   clear H
   have H:=H1
   clear H1
   have H':=zM H
   clear H
   go_wp2_with (first|((with_reducible refine gate_callee (f:=46) rfl ?_);refine goesL_ (some 6) rfl rfl Try.func46 (by kernel_rfl) rfl #[.int .i64 a0,.int .i64 0,.int .i64 15] rfl zq1 ?_;(with_reducible refine(impl_in.calls a0 0 15 false _ A5.out).mono ?_);rintro e w' ⟨rfl,⟨nd,rfl⟩⟩;refine⟨_,rfl,?_⟩))
   go_meet
   case rel=>exact⟨_,(true),zq7,H',⟨zq158⟩,⟨zq106⟩,⟨zq40⟩⟩
 case rest=>
  clear HC3
  try clear p2
  try clear c3
  try clear c4
  try clear c6
  obtain⟨kq,x12_2,rfl,HA,HJ2,BK372,HB⟩:=hcut
  cases kq with
  | zero=>exact absurd HA.out (by simp[impl_NonceOf.j0])
  | succ kj2=>
   have H:=HA.out
   clear HA
   simp only[impl_NonceOf.j0] at H
   by_cases c8:x12_2=true
   ·subst c8
    have H1:((impl_noBytes.f 3).bind fun bt375=>(some (bt375.1,bt375.2)))=some (r1,r2):=by rw[if_pos rfl] at H;exact H
    clear H
    have H:=H1
    clear H1
    replace H:=Option.bind_eq_some_iff.mp H
    obtain⟨⟨t375,t376⟩,A90,H⟩:=H
    replace H:(some (t375,t376))=some (r1,r2):=H
    have A9:=zM A90
    clear A90
    simp only[Option.some.injEq,Prod.mk.injEq] at H
    obtain⟨rfl,rfl⟩:=H
    go_wp2_with (first|((with_reducible refine gate_callee (f:=27) rfl ?_);refine goesL_ (some 13) rfl rfl Try.func27 (by kernel_rfl) rfl #[.int .i64 3] rfl zq1 ?_;(with_reducible refine(impl_noBytes.calls 3 t375 t376 _ A9.out).mono ?_);rintro e w10 ⟨v377,rfl,ho0,hb⟩;refine⟨_,rfl,?_⟩;have n0_:=zM (Kd.R_lower ho0 (below_size zq40));have n1_:=zM (blk_below (g:=gb372) (o:=.cells #[.int .i64 0,.slice none 0 0] 31 (0,0)) zq106 hb);have n2_:=zM (below_step zq40 hb);clear BK372;clear HB;have HO378:=n0_;have BK372:=n1_;have HB:=n2_;clear n0_ n1_ n2_;(try clear hb);(try clear hb2);(try clear hk);(try clear hi);(try clear ho0);have hcz11_0:w10.cell? ⟨gb372,0,none⟩=some (.int .i64 0):=(blk_cell BK372.out 0).trans rfl;have hcz11_1:w10.cell? ⟨gb372,1,none⟩=some (.slice none 0 0):=(blk_cell BK372.out 1).trans rfl;have hfz11_0:=blk_frozen BK372.out 0;have hfz11_1:=blk_frozen BK372.out 1;obtain⟨Ao12,co12,eo12⟩:=Kd.R_slice HO378.out;subst eo12))
    refine bodyPost_ret (results_cell_row rfl _ _ gb372 31 #[.int .i64 t375,.slice Ao12 t376.length co12] (0,0) _ rfl (by(with_reducible repeat (first|refine blk_drewN ?_ _|refine blk_drew ?_|refine blk_alloc ?_ _));refine blk_put (cs:=#[.int .i64 t375,.slice none 0 0]) ?_ 1 _ rfl;(with_reducible repeat (first|refine blk_drewN ?_ _|refine blk_drew ?_|refine blk_alloc ?_ _));refine blk_put (cs:=#[.int .i64 0,.slice none 0 0]) ?_ 0 _ rfl;(with_reducible repeat (first|refine blk_drewN ?_ _|refine blk_drew ?_|refine blk_alloc ?_ _));exact BK372.out) Try.underlying31 rfl (by kernel_rfl)) rfl ?_
    exact⟨_,zq3,by(with_reducible repeat (first|apply Kd.R_alloc|apply Kd.R_drewN|apply Kd.R_drew));exact Kd.R_mono (Kd.R_far (p:=⟨gb372,1,none⟩) (Kd.R_far (p:=⟨gb372,0,none⟩) (Kd.R_types HO378.out BK372.out zq36) (fun _ hk=>hk.2) (.int .i64 t375)) (fun _ hk=>hk.2) (.slice Ao12 t376.length co12)) (fun _ hk=>trivial),zq40⟩
   ·replace c8:=Bool.eq_false_iff.mpr c8
    subst c8
    have H1:((impl_word.f kj2 a0 4).bind fun t379=>((impl_word.f kj2 a1 8).bind fun t382=>(if t379.length+t382.length < 140737488355328 then (some (0,(t379 ++ t382))) else (none))))=some (r1,r2):=by rw[if_neg (show ¬ (false=true) by decide)] at H;exact H
    clear H
    have H:=H1
    clear H1
    replace H:=Option.bind_eq_some_iff.mp H
    obtain⟨t379,A130,H⟩:=H
    replace H:((impl_word.f kj2 a1 8).bind fun t382=>(if t379.length+t382.length < 140737488355328 then (some (0,(t379 ++ t382))) else (none)))=some (r1,r2):=H
    have A13:=zM A130
    clear A130
    replace H:=Option.bind_eq_some_iff.mp H
    obtain⟨t382,A140,H⟩:=H
    replace H:(if t379.length+t382.length < 140737488355328 then (some (0,(t379 ++ t382))) else (none))=some (r1,r2):=H
    have A14:=zM A140
    clear A140
    by_cases c15:t379.length+t382.length < 140737488355328
    ·rw[if_pos c15] at H
     have LMc15:=zM c15
     clear c15
     obtain⟨y385,hy385⟩:∃ y_:List Int,y_=(t379 ++ t382):=⟨_,rfl⟩
     replace H:(some (0,y385))=some (r1,r2):=by first|(rw[hy385];with_reducible exact H)|(have H2_:=(Option.bind_some _ _).symm.trans H;rw[hy385];with_reducible exact H2_)|(have H2_:=(Option.bind_some _ _).symm.trans H;with_reducible exact H2_)|with_reducible exact H|(rw[hy385];exact H)|exact H
     have Ny385:=zM hy385
     clear hy385
     simp only[Option.some.injEq,Prod.mk.injEq] at H
     obtain⟨rfl,rfl⟩:=H
     go_wp2_with (first|((with_reducible refine gate_callee (f:=51) rfl ?_);refine goesL_ (some 15) rfl rfl Try.func51 (by kernel_rfl) rfl #[.int .i64 a0,.int .i64 4] rfl zq1 ?_;(with_reducible refine(impl_word.calls kj2 a0 4 t379 _ A13.out).mono ?_);rintro e w16 ⟨v380,rfl,ho0,hb⟩;refine⟨_,rfl,?_⟩;have n0_:=zM (Kd.R_lower ho0 (below_size zq40));have n1_:=zM (blk_below (g:=gb372) (o:=.cells #[.int .i64 0,.slice none 0 0] 31 (0,0)) zq106 hb);have n2_:=zM (below_step zq40 hb);clear BK372;clear HB;have HO381:=n0_;have BK372:=n1_;have HB:=n2_;clear n0_ n1_ n2_;(try clear hb);(try clear hb2);(try clear hk);(try clear hi);(try clear ho0))|((with_reducible refine gate_callee (f:=51) rfl ?_);refine goesL_ (some 17) rfl rfl Try.func51 (by kernel_rfl) rfl #[.int .i64 a1,.int .i64 8] rfl zq1 ?_;(with_reducible refine(impl_word.calls kj2 a1 8 t382 _ A14.out).mono ?_);rintro e w17 ⟨v383,rfl,ho0,hb⟩;refine⟨_,rfl,?_⟩;have n0_:=zM (Kd.R_elder' zq168 (Kd.R_base ho0) hb);have n1_:=zM (Kd.R_lower (Kd.R_new' ho0 (Kd.R_lt zq168)) (below_size zq40));have n2_:=zM (blk_below (g:=gb372) (o:=.cells #[.int .i64 0,.slice none 0 0] 31 (0,0)) zq106 hb);have n3_:=zM (below_step zq40 hb);clear HO381;clear BK372;clear HB;have HO381:=n0_;have HO384:=n1_;have BK372:=n2_;have HB:=n3_;clear n0_ n1_ n2_ n3_;(try clear hb);(try clear hb2);(try clear hk);(try clear hi);(try clear ho0);obtain⟨Ao19,co19,eo19⟩:=Kd.R_slice HO384.out;subst eo19)|((with_reducible refine gate_builtin (b:=.append) (xs:=#[.tmp 15,.tmp 17]) rfl ?_);at_builtin;refine Kd.R_append_rows (Kd.int .u8) (w0:=w) w.heap.size rfl (.tmp 15) (.tmp 17) 25 5 (.int .u8 0) 1 rfl Try.underlying25 info5 rfl zq36 zq8 v380 t379 t382 _ _ _ (fun k_=>some k_≠(.slice Ao19 t382.length co19:Value).ownBlock) (fun _=>False) rfl rfl ?aO ?aR (fun _ _ h=>h) (fun _ h=>h.elim) ?aF ?aB ?aS ?aL ?_;(case aR=>repeat (first|exact(Kd.R_reads' HO384.out).2.2|(with_reducible refine Kd.C_alloc ?_ _)|(with_reducible refine Kd.C_drewN ?_ _)|(with_reducible refine Kd.C_drew ?_)));(case aB=>exact zq40);(case aF=>exact(fun k_ hk=>Kd.fresh' (Kd.R_lt zq169) k_ hk));(case aO=>exact(by(with_reducible repeat (first|apply Kd.R_alloc|apply Kd.R_drewN|apply Kd.R_drew));exact Kd.R_mono HO381.out (fun _ hk=>hk.2)));(case aS=>exact(below_size zq40));(case aL=>have:=LMc15.out;omega);intro v386 w18 ho hb hg hat;rw[← Ny385.out] at ho;have n0_:=zM (blk_grown (g:=gb372) (o:=.cells #[.int .i64 0,.slice none 0 0] 31 (0,0)) zq106 hg (Kd.R_ne HO381.out BK372.out zq36));have n1_:=zM (Kd.R_after (ok:=(fun _=>True)) zq169 hg hat);have n2_:=zM (hb);have n3_:=zM (ho);clear BK372;clear HO384;clear HB;clear HO381;have BK372:=n0_;have HO384:=n1_;have HB:=n2_;have HO387:=n3_;clear n0_ n1_ n2_ n3_;clear ho hb hg hat;obtain⟨Ao20,co20,eo20⟩:=Kd.R_slice HO387.out;subst eo20;have hcz21_0:w18.cell? ⟨gb372,0,none⟩=some (.int .i64 0):=(blk_cell BK372.out 0).trans rfl;have hcz21_1:w18.cell? ⟨gb372,1,none⟩=some (.slice none 0 0):=(blk_cell BK372.out 1).trans rfl;have hfz21_0:=blk_frozen BK372.out 0;have hfz21_1:=blk_frozen BK372.out 1))
     refine bodyPost_ret (results_cell_row rfl _ _ gb372 31 #[.int .i64 0,.slice Ao20 y385.length co20] (0,0) _ rfl (by(with_reducible repeat (first|refine blk_drewN ?_ _|refine blk_drew ?_|refine blk_alloc ?_ _));refine blk_put (cs:=#[.int .i64 0,.slice none 0 0]) ?_ 1 _ rfl;(with_reducible repeat (first|refine blk_drewN ?_ _|refine blk_drew ?_|refine blk_alloc ?_ _));refine blk_put (cs:=#[.int .i64 0,.slice none 0 0]) ?_ 0 _ rfl;(with_reducible repeat (first|refine blk_drewN ?_ _|refine blk_drew ?_|refine blk_alloc ?_ _));exact BK372.out) Try.underlying31 rfl (by kernel_rfl)) rfl ?_
     exact⟨_,zq3,by(with_reducible repeat (first|apply Kd.R_alloc|apply Kd.R_drewN|apply Kd.R_drew));exact Kd.R_mono (Kd.R_far (p:=⟨gb372,1,none⟩) (Kd.R_far (p:=⟨gb372,0,none⟩) (Kd.R_types HO387.out BK372.out zq36) (fun _ hk=>hk.2) (.int .i64 0)) (fun _ hk=>hk.2) (.slice Ao20 y385.length co20)) (fun _ hk=>trivial),zq40⟩
    ·rw[if_neg c15] at H
     exact absurd H zq73
end Go.Proofs.Ytdbanjdnjhflcaa.All
