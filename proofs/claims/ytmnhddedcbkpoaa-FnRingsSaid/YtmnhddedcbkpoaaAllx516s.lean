-- Laid by wip/shake.py of this repo out of this claim's texts. Not trusted: Lean checks it.
import Derived.Test.YtmnhddedcbkpoaaAb0s
import Derived.Test.YtmnhddedcbkpoaaBytes
import Derived.Lib.SliceRun
section
namespace Go.Proofs.Ytmnhddedcbkpoaa.All
open Go.Proofs.YtmnhddedcbkpoaaW.PrintWords.Aside0 renaming mk→zM
open Go.RowKit Go.Proofs.YtmnhddedcbkpoaaW.PrintWords Go.Proofs.YtmnhddedcbkpoaaW.PrintLast Go.Proofs.YtmnhddedcbkpoaaW.PrintMore
attribute [local go_sem] max2_int min2_int max_two min_two max_three min_three max_four min_four
set_option linter.unusedVariables false
set_option linter.unusedSimpArgs false
theorem nil_yes (w:World) (n c:Nat):(binOp .eql 22 (.slice none n c) (.slice none 0 0)).run Try.prog w=.ok (.bool true) w:=Go.Lib.run_eql_slice_nil w _ 5 none n c 0 0 Try.underlying22
theorem nil_no (w:World) (a:Addr) (n c:Nat):(binOp .eql 22 (.slice (some a) n c) (.slice none 0 0)).run Try.prog w=.ok (.bool false) w:=Go.Lib.run_eql_slice_nil w _ 5 (some a) n c 0 0 Try.underlying22
attribute [local go_sem] nil_yes nil_no
def bytes_Clone.f (l0:List Int):Option (List Int):=if l0.length < 140737488355328 then some l0 else none
set_option maxHeartbeats 4000000 in
set_option maxRecDepth 100000 in
theorem bytes_Clone.calls (A0:Option Addr) (c0:Nat) (l0:List Int) (r:List Int) (w:World) (hr0:Kd.C (Kd.int .u8) w A0 l0.length l0) (hc0:l0.length≤c0) (h:bytes_Clone.f l0=some r) :
  Calls Try.prog 100 #[.slice A0 l0.length c0] w fun e w'=>∃ v0_:Value,e=.returned (v0_)∧Kd.R (Kd.int .u8) 5 w' w.heap.size (fun _=>True) v0_ r∧Below w.heap.size w w':=by
 unfold bytes_Clone.f at h
 by_cases c2:l0.length < 140737488355328
 ·rw[if_pos c2,Option.some.injEq] at h
  subst h
  have LM:=zM c2
  clear c2
  have HB:=zM (Below.refl w.heap.size w)
  cases A0 with
  | none=>
   have e:l0=[]:=by
    have h3:=hr0.2.2
    cases l0 with
    | nil=>rfl
    | cons x l=>
     obtain⟨a,ha,_⟩:=h3 zq58
     cases ha
   subst e
   clear hr0 hc0
   go_enter Try.func100,Try.ntmps100
   go_wp2
   go_ret
   exact⟨_,rfl,Kd.R_nil _ _ _ _ _,HB.out⟩
  | some a0=>
   have HR0:=zM hr0
   clear hr0 hc0
   go_enter Try.func100,Try.ntmps100
   go_wp2_with (first
     | ((with_reducible refine gate_dst (N:=5) rfl ?_);refine Kd.R_lit (Kd.int .u8) _ 5 ?hg (N:=5) ?hd (xs:=([]:List Int)) (inner:=[]) (ok:=fun _=>True) (okp:=fun _=>True) ?hr ?hp (fun _ hk=>hk) trivial (Below.refl _ _) (Nat.le_refl _) zq58 ?_;(case hd=>rfl);(case hg=>rfl);(case hr=>first|(go_simp;done)|(go_simp;rfl));(case hp=>exact(Reps.none _ _));intro v1 w3 ho4 hb hg_ hnew_;clear hg_ hnew_;have n0_:=zM (Kd.R_lower ho4 (below_size zq0));have n1_:=zM (below_step zq0 hb);clear HB;have HO1:=n0_;have HB:=n1_;clear n0_ n1_;clear hb ho4)
     | ((with_reducible refine gate_builtin (b:=.append) (xs:=#[.tmp 5,.tmp 6]) rfl ?_);at_builtin;refine Kd.R_append_rows (Kd.int .u8) (w0:=w) w.heap.size rfl (.tmp 5) (.tmp 6) 22 5 (.int .u8 0) 1 rfl Try.underlying22 info5 rfl zq17 zq21 v1 ([]:List Int) l0 _ _ _ (fun _=>True) (fun _=>False) rfl rfl ?aO ?aR (fun _ _ h=>h) (fun _ h=>h.elim) ?aF ?aB ?aS ?aL ?_;(case aR=>exact zq100);(case aB=>exact zq0);(case aF=>exact(fun _ _=>trivial));(case aO=>exact(by(with_reducible repeat (first|apply Kd.R_alloc|apply Kd.R_drewN|apply Kd.R_drew));exact HO1.out));(case aS=>exact(below_size zq0));(case aL=>have:=LM.out;simp;omega);intro v2 w5 ho hb hg hat;have n0_:=zM (hb);have n1_:=zM (ho);clear HB;clear HO1;have HB:=n0_;have HO2:=n1_;clear n0_ n1_;clear ho hb hg hat))
   go_ret
   exact⟨_,rfl,by(with_reducible repeat (first|apply Kd.R_alloc|apply Kd.R_drewN|apply Kd.R_drew));exact HO2.out,zq0⟩
 ·rw[if_neg c2] at h
  cases h
end Go.Proofs.Ytmnhddedcbkpoaa.All
end
section
namespace Go.Proofs.Ytmnhddedcbkpoaa.All
open Go.Proofs.YtmnhddedcbkpoaaW.PrintWords.Aside0 renaming mk→zM
open Go.RowKit Go.Proofs.YtmnhddedcbkpoaaW.PrintWords Go.Proofs.YtmnhddedcbkpoaaW.PrintLast Go.Proofs.YtmnhddedcbkpoaaW.PrintMore
attribute [local go_sem] max2_int min2_int max_two min_two max_three min_three max_four min_four
set_option linter.unusedVariables false
set_option linter.unusedSimpArgs false
def impl_ownKey.f (a0_0:Int) (l0_1:List Int):Option (Int × List Int):=(bytes_Clone.f l0_1).bind fun t157=>(some (a0_0,t157))
set_option maxHeartbeats 8000000 in
set_option maxRecDepth 100000 in
theorem impl_ownKey.calls (a0_0:Int) (A0_1:Option Addr) (c0_1:Nat) (l0_1:List Int) (r1:Int) (r2:List Int) (w:World) (hr0_1:Kd.C (Kd.int .u8) w A0_1 l0_1.length l0_1) (hc0_1:l0_1.length≤c0_1) (h:impl_ownKey.f a0_0 l0_1=some (r1,r2)) :
  Calls Try.prog 85 #[.agg #[.int .i64 a0_0,.slice A0_1 l0_1.length c0_1]] w fun e w'=>∃ v1_:Value,e=.returned (.agg #[.int .i64 r1,v1_])∧Kd.R (Kd.int .u8) 5 w' w.heap.size (fun _=>True) v1_ r2∧Below w.heap.size w w':=by
 have hu25:=Try.underlying25
 have HR0_1:=zM hr0_1
 have HC0_1:=zM hc0_1
 clear hr0_1 hc0_1
 have HB:=zM (Below.refl w.heap.size w)
 have H:((bytes_Clone.f l0_1).bind fun t157=>(some (a0_0,t157)))=some (r1,r2):=h
 clear h
 replace H:=Option.bind_eq_some_iff.mp H
 obtain⟨t157,A20,H⟩:=H
 replace H:(some (a0_0,t157))=some (r1,r2):=H
 have A2:=zM A20
 clear A20
 simp only[Option.some.injEq,Prod.mk.injEq] at H
 obtain⟨rfl,rfl⟩:=H
 go_enter Try.func85,Try.ntmps85
 try go_wp2_with (first|((with_reducible refine gate_dst (N:=1) rfl ?_);refine box_event ?hg (N:=1) ?hd (cs:=#[.int .i64 a0_0,.slice A0_1 l0_1.length c0_1]) (t:=25) ?hr ?_;(case hd=>rfl);(case hg=>rfl);(case hr=>first|(go_simp;done)|(go_simp;rfl));intro gb155 hg w3 hbox hb;have n0_:=zM (below_step zq0 hb);have n1_:=zM (hbox);have n2_:=zM ((by rw[hg];exact(below_size zq0):w.heap.size≤gb155));have n3_:=zM ((by rw[hg];exact(below_size zq0):w.heap.size≤gb155));clear HB;have HB:=n0_;have BK155:=n1_;have GW155:=n2_;have GE155:=n3_;clear n0_ n1_ n2_ n3_;clear hb hbox hg)|((with_reducible refine gate_dst (N:=2) rfl ?_);refine box_event ?hg (N:=2) ?hd (cs:=#[.int .i64 0,.slice none 0 0]) (t:=25) ?hr ?_;(case hd=>rfl);(case hg=>rfl);(case hr=>first|(go_simp;done)|(go_simp;rfl));intro gb156 hg w4 hbox hb;have n0_:=zM (blk_below (g:=gb155) (o:=.cells #[.int .i64 a0_0,.slice A0_1 l0_1.length c0_1] 25 (0,0)) zq77 hb);have n1_:=zM (below_step zq82 hb);have n2_:=zM (hbox);have n3_:=zM ((by rw[hg];exact(below_size zq82):w.heap.size≤gb156));have n4_:=zM ((by rw[hg];exact(below_size zq82):w.heap.size≤gb156));have n5_:=zM ((by rw[hg];exact Nat.ne_of_lt (blk_lt (g:=gb155) (o:=.cells #[.int .i64 a0_0,.slice A0_1 l0_1.length c0_1] 25 (0,0)) zq77):gb155≠gb156));have n6_:=zM ((by rw[hg];exact Nat.ne_of_gt (blk_lt (g:=gb155) (o:=.cells #[.int .i64 a0_0,.slice A0_1 l0_1.length c0_1] 25 (0,0)) zq77):gb156≠gb155));clear BK155;clear HB;have BK155:=n0_;have HB:=n1_;have BK156:=n2_;have GW156:=n3_;have GE156:=n4_;have NB155_156:=n5_;have NB156_155:=n6_;clear n0_ n1_ n2_ n3_ n4_ n5_ n6_;clear hb hbox hg))
 have n0_:=zM (blk_drew BK155.out)
 have n1_:=zM (blk_drew BK156.out)
 have n2_:=zM (below_drew1 HB.out)
 clear BK155
 clear BK156
 clear HB
 have BK155:=n0_
 have BK156:=n1_
 have HB:=n2_
 clear n0_ n1_ n2_
 refine start_ (n:=7) (S:=fun w'=>w'.cell? ⟨gb155,0,none⟩=some (.int .i64 a0_0)∧w'.cell? ⟨gb155,1,none⟩=some (.slice A0_1 l0_1.length c0_1)) (ds:=[]) #[false,false,false,false,false,false,false] (by kernel_rfl) rfl rfl ⟨(blk_cell BK155.out 0).trans rfl,(blk_cell BK155.out 1).trans rfl⟩ (fun hHeld=>?_)
 generalize w4.drew=w5 at BK155 BK156 HB hHeld ⊢
 refine pure_ (i:=0) (N:=some 3) (v:=?_) (a':=?_) #[true,false,false,false,false,false,false] rfl rfl (by kernel_rfl) (fun _ _ _ h=>h) (Or.inl ⟨zq64,?_⟩) ?_ ?_
 rotate_left
 ·intro w'
  go_simp
  with_reducible rfl
 rotate_left
 ·simp only[Act.put,List.setIfInBounds_toArray,List.set_cons_zero,List.set_cons_succ,i64_w,i32_w]
  rfl
 refine pure_ (i:=2) (N:=some 5) (v:=?_) (a':=?_) #[true,false,true,false,false,false,false] rfl rfl (by kernel_rfl) (fun _ _ _ h=>h) (Or.inl ⟨zq64,?_⟩) ?_ ?_
 rotate_left
 ·intro w'
  go_simp
  with_reducible rfl
 rotate_left
 ·simp only[Act.put,List.setIfInBounds_toArray,List.set_cons_zero,List.set_cons_succ,i64_w,i32_w]
  rfl
 refine take_ (i:=1) (N:=some 4) (v:=?_) (a':=?_) #[true,true,true,false,false,false,false] rfl rfl (by kernel_rfl) (fun _ _ _ h=>h) (Or.inl ⟨zq64,?_⟩) hHeld ?_ ?_
 rotate_left
 ·rintro w' ⟨s0,s1⟩
  go_simp
  with_reducible rfl
 rotate_left
 ·simp only[Act.put,List.setIfInBounds_toArray,List.set_cons_zero,List.set_cons_succ,i64_w,i32_w]
  rfl
 refine take_ (i:=3) (N:=some 6) (v:=?_) (a':=?_) #[true,true,true,true,false,false,false] rfl rfl (by kernel_rfl) (fun _ _ _ h=>h) (Or.inl ⟨zq64,?_⟩) hHeld ?_ ?_
 rotate_left
 ·rintro w' ⟨s0,s1⟩
  go_simp
  with_reducible rfl
 rotate_left
 ·simp only[Act.put,List.setIfInBounds_toArray,List.set_cons_zero,List.set_cons_succ,i64_w,i32_w]
  rfl
 refine one_ (i:=4) (N:=some 7) #[true,true,true,true,true,false,false] rfl rfl (by kernel_rfl) zq17 (fun K hK=>?_)
 refine goes_ Try.func100 (by kernel_rfl) rfl #[.slice A0_1 l0_1.length c0_1] zq64 rfl rfl zq5 ?_
 with_reducible refine(bytes_Clone.calls _ _ l0_1 t157 _ ?side1 ?side2 A2.out).mono ?_
 (case side1=>exact zq16)
 (case side2=>exact HC0_1.out)
 rintro e w6 ⟨v158,rfl,ho0,hb⟩
 refine⟨_,rfl,?_⟩
 have n0_:=zM (Kd.R_lower ho0 (below_size zq96))
 have n1_:=zM (blk_below (g:=gb155) (o:=.cells #[.int .i64 a0_0,.slice A0_1 l0_1.length c0_1] 25 (0,0)) zq77 hb)
 have n2_:=zM (blk_below (g:=gb156) (o:=.cells #[.int .i64 0,.slice none 0 0] 25 (0,0)) (by(with_reducible repeat (first|refine blk_drewN ?_ _|refine blk_drew ?_|refine blk_alloc ?_ _));exact BK156.out) hb)
 have n3_:=zM (below_step zq96 hb)
 clear BK155
 clear BK156
 clear HB
 have HO159:=n0_
 have BK155:=n1_
 have BK156:=n2_
 have HB:=n3_
 clear n0_ n1_ n2_ n3_
 (try clear hb)
 (try clear hb2)
 (try clear hk)
 (try clear hi)
 (try clear ho0)
 obtain⟨Ao7,co7,eo7⟩:=Kd.R_slice HO159.out
 (first|subst eo7|(injection eo7 with f1_ f2_ f3_;have f4_:=f1_.symm;have f5_:=f3_.symm;clear f1_ f2_ f3_;subst f4_;subst f5_))
 refine hK.out _ _ ⟨(blk_cell BK155.out 0).trans rfl,(blk_cell BK155.out 1).trans rfl⟩ (fun hHeld=>?_)
 clear hK K
 refine norm_ (a':=?_) ?_ ?_
 rotate_left
 ·show Act.put _ (some 7) _=_
  simp only[Act.put,List.setIfInBounds_toArray,List.set_cons_zero,List.set_cons_succ,i64_w,i32_w]
  rfl
 refine pure_ (i:=5) (N:=some 8) (v:=?_) (a':=?_) #[true,true,true,true,true,true,false] rfl rfl (by kernel_rfl) (fun _ _ _ h=>h) (Or.inl ⟨zq64,?_⟩) ?_ ?_
 rotate_left
 ·intro w'
  go_simp
  with_reducible rfl
 rotate_left
 ·simp only[Act.put,List.setIfInBounds_toArray,List.set_cons_zero,List.set_cons_succ,i64_w,i32_w]
  rfl
 refine one_ (i:=6) (N:=none) #[true,true,true,true,true,true,true] rfl rfl (by kernel_rfl) zq17 (fun K hK=>?_)
 have hs8:w6.cell? ⟨gb156,0,none⟩=some (.int .i64 0):=(blk_cell BK156.out 0).trans rfl
 have hfs8:=blk_frozen BK156.out 0
 have hns8_0:=NB155_156.out
 have hms8_0:=NB156_155.out
 have hs9:w6.cell? ⟨gb156,1,none⟩=some (.slice none 0 0):=(blk_cell BK156.out 1).trans rfl
 have hfs9:=blk_frozen BK156.out 1
 have hns9_0:=NB155_156.out
 have hms9_0:=NB156_155.out
 refine skip_ (w1:=?_) zq64 rfl ?_ ?_
 rotate_left
 ·go_simp
  rfl
 refine hK.out _ _ ⟨((cell_far (p:=⟨gb156,_,none⟩) NB155_156.out _).trans (((cell_far (p:=⟨gb156,_,none⟩) NB155_156.out _).trans (hHeld.1)))),((cell_far (p:=⟨gb156,_,none⟩) NB155_156.out _).trans (((cell_far (p:=⟨gb156,_,none⟩) NB155_156.out _).trans (hHeld.2))))⟩ (fun hHeld=>?_)
 clear hK K
 refine done_ (by kernel_rfl) ?_
 try go_wp2
 refine bodyPost_ret (results_cell_row rfl _ _ gb156 25 #[.int .i64 a0_0,.slice Ao7 t157.length co7] (0,0) _ rfl (by(with_reducible repeat (first|refine blk_drewN ?_ _|refine blk_drew ?_|refine blk_alloc ?_ _));refine blk_put (cs:=#[.int .i64 a0_0,.slice none 0 0]) ?_ 1 _ rfl;(with_reducible repeat (first|refine blk_drewN ?_ _|refine blk_drew ?_|refine blk_alloc ?_ _));refine blk_put (cs:=#[.int .i64 0,.slice none 0 0]) ?_ 0 _ rfl;(with_reducible repeat (first|refine blk_drewN ?_ _|refine blk_drew ?_|refine blk_alloc ?_ _));exact BK156.out) Try.underlying25 rfl (by kernel_rfl)) rfl ?_
 exact⟨_,zq10,by(with_reducible repeat (first|apply Kd.R_alloc|apply Kd.R_drewN|apply Kd.R_drew));exact Kd.R_mono (Kd.R_far (p:=⟨gb156,1,none⟩) (Kd.R_far (p:=⟨gb156,0,none⟩) (Kd.R_types HO159.out BK156.out zq17) (fun _ hk=>hk.2) (.int .i64 a0_0)) (fun _ hk=>hk.2) (.slice Ao7 t157.length co7)) (fun _ hk=>trivial),by repeat (first|(with_reducible first|exact HB.out|apply below_alloc|apply pw_below_drewN|apply below_drew1|refine below_set ?_ GE155.out|refine below_set ?_ GE156.out)|exact HB.out)⟩
end Go.Proofs.Ytmnhddedcbkpoaa.All
end
