-- Laid by wip/shake.py of this repo out of this claim's texts. Not trusted: Lean checks it.
import Derived.Test.YtdbanjdnjhflcaaAb0s
import Derived.Test.YtdbanjdnjhflcaaAlgs
import Derived.Test.YtdbanjdnjhflcaaAllx52s
set_option linter.unusedSimpArgs false
set_option linter.unusedVariables false
namespace Go.Proofs.Ytdbanjdnjhflcaa.All
open Go.Proofs.YtdbanjdnjhflcaaW.PrintWords.Aside0 renaming mk→zM
open Go.RowKit Go.Proofs.YtdbanjdnjhflcaaW.PrintWords Go.Proofs.YtdbanjdnjhflcaaW.PrintLast Go.Proofs.YtdbanjdnjhflcaaW.PrintMore
attribute [local go_sem] max2_int min2_int max_two min_two max_three min_three max_four min_four
def impl_noBytes.f (a0:Int):Option (Int × List Int):=some (a0,([]:List Int))
set_option maxHeartbeats 8000000 in
set_option maxRecDepth 100000 in
theorem impl_noBytes.calls (a0:Int) (r1:Int) (r2:List Int) (w:World) (h:impl_noBytes.f a0=some (r1,r2)) :
  Calls Try.prog 27 #[.int .i64 a0] w fun e w'=>∃ v1_:Value,e=.returned (.agg #[.int .i64 r1,v1_])∧Kd.R (Kd.int .u8) 5 w' w.heap.size (fun _=>True) v1_ r2∧Below w.heap.size w w':=by
 have hu31:=Try.underlying31
 have HB:=zM (Below.refl w.heap.size w)
 have H:(some (a0,([]:List Int)))=some (r1,r2):=h
 clear h
 simp only[Option.some.injEq,Prod.mk.injEq] at H
 obtain⟨rfl,rfl⟩:=H
 go_enter Try.func27,Try.ntmps27
 go_wp2_with (first|((with_reducible refine gate_dst (N:=2) rfl ?_);refine box_event ?hg (N:=2) ?hd (cs:=#[.int .i64 0,.slice none 0 0]) (t:=31) ?hr ?_;(case hd=>rfl);(case hg=>rfl);(case hr=>first|(go_simp;done)|(go_simp;rfl));intro gb312 hg w2 hbox hb;have n0_:=zM (below_step zq0 hb);have n1_:=zM (hbox);have n2_:=zM ((by rw[hg];exact(below_size zq0):w.heap.size≤gb312));have n3_:=zM ((by rw[hg];exact(below_size zq0):w.heap.size≤gb312));clear HB;have HB:=n0_;have BK312:=n1_;have GW312:=n2_;have GE312:=n3_;clear n0_ n1_ n2_ n3_;clear hb hbox hg;have hcz3_0:w2.cell? ⟨gb312,0,none⟩=some (.int .i64 0):=(blk_cell BK312.out 0).trans rfl;have hcz3_1:w2.cell? ⟨gb312,1,none⟩=some (.slice none 0 0):=(blk_cell BK312.out 1).trans rfl;have hfz3_0:=blk_frozen BK312.out 0;have hfz3_1:=blk_frozen BK312.out 1))
 refine bodyPost_ret (results_cell_row rfl _ _ gb312 31 #[.int .i64 a0,.slice none 0 0] (0,0) _ rfl (by(with_reducible repeat (first|refine blk_drewN ?_ _|refine blk_drew ?_|refine blk_alloc ?_ _));refine blk_put (cs:=#[.int .i64 a0,.slice none 0 0]) ?_ 1 _ rfl;(with_reducible repeat (first|refine blk_drewN ?_ _|refine blk_drew ?_|refine blk_alloc ?_ _));refine blk_put (cs:=#[.int .i64 0,.slice none 0 0]) ?_ 0 _ rfl;(with_reducible repeat (first|refine blk_drewN ?_ _|refine blk_drew ?_|refine blk_alloc ?_ _));exact BK312.out) Try.underlying31 rfl (by kernel_rfl)) rfl ?_
 exact⟨_,zq3,zq122,by repeat (first|(with_reducible first|exact HB.out|apply below_alloc|apply pw_below_drewN|apply below_drew1|refine below_set ?_ GE312.out)|exact HB.out)⟩
def impl_word.l0:Nat→Int→List Int→Int→Option (List Int)
 | 0,_,_,_=>none
 | k+1,x0,x5,x6=>if x6 ≥ 0 then (if 0≤x6 then (if x6 < (x5.length:Int) then (impl_word.l0 k (wrap64 (Int.tdiv x0 256)) (x5.set (x6:Int).toNat ((Int.tmod x0 256) % 256)) (wrap64 (x6 - 1))) else (none)) else (none)) else (some x5)
def impl_word.f (k:Nat) (a0:Int) (a1:Int):Option (List Int):=if 0≤a1 then (if (a1:Int).toNat≤281474976710656 then (impl_word.l0 k a0 (List.replicate (a1:Int).toNat 0) (wrap64 (a1 - 1))) else (none)) else (none)
theorem impl_word.mono_l:∀ k,(∀ y0 y1 y2,LeO (impl_word.l0 k y0 y1 y2) (impl_word.l0 (k+1) y0 y1 y2))
 | 0=>fun _ _ _ r h=>by simp[impl_word.l0] at h
 | k+1=>by
  have ih0:=impl_word.mono_l k
  ·intro y0 y1 y2
   unfold impl_word.l0
   repeat' first
   | (with_reducible exact ih0 _ _ _)
   | (with_reducible exact LeO.refl _)
   | (with_reducible exact LeO.none _)
   | (with_reducible refine LeO.ite ?_ ?_)
   | (with_reducible refine LeO.bind ?_ (fun _=>?_))
   | exact ih0 _ _ _
   | exact LeO.none _
   | refine LeO.ite ?_ ?_
   | refine LeO.bind ?_ (fun _=>?_)
theorem impl_word.mono:∀ a0 a1 k,LeO (impl_word.f k a0 a1) (impl_word.f (k+1) a0 a1):=by
 intro a0 a1 k
 have ih0:=impl_word.mono_l k
 unfold impl_word.f
 repeat' first
   | (with_reducible exact ih0 _ _ _)
   | (with_reducible exact LeO.refl _)
   | (with_reducible exact LeO.none _)
   | (with_reducible refine LeO.ite ?_ ?_)
   | (with_reducible refine LeO.bind ?_ (fun _=>?_))
   | exact ih0 _ _ _
   | exact LeO.none _
   | refine LeO.ite ?_ ?_
   | refine LeO.bind ?_ (fun _=>?_)
set_option maxHeartbeats 8000000 in
set_option maxRecDepth 100000 in
theorem impl_word.calls (k:Nat) (a0:Int) (a1:Int) (r:List Int) (w:World) (h:impl_word.f k a0 a1=some r) :
  Calls Try.prog 51 #[.int .i64 a0,.int .i64 a1] w fun e w'=>∃ v0_:Value,e=.returned (v0_)∧Kd.R (Kd.int .u8) 5 w' w.heap.size (fun _=>True) v0_ r∧Below w.heap.size w w':=by
 have HB:=zM (Below.refl w.heap.size w)
 have H:(if 0≤a1 then (if (a1:Int).toNat≤281474976710656 then (impl_word.l0 k a0 (List.replicate (a1:Int).toNat 0) (wrap64 (a1 - 1))) else (none)) else (none))=some r:=h
 clear h
 by_cases c3:0≤a1
 ·rw[if_pos c3] at H
  have c3b0:=eq_true c3
  have c3b1:decide (0≤a1)=true:=decide_eq_true c3
  clear c3
  by_cases c4:(a1:Int).toNat≤281474976710656
  ·rw[if_pos c4] at H
   have c4b0:=eq_true c4
   have c4b1:decide ((a1:Int).toNat≤281474976710656)=true:=decide_eq_true c4
   clear c4
   obtain⟨y327,hy327⟩:∃ y_:List Int,y_=(List.replicate (a1:Int).toNat 0):=⟨_,rfl⟩
   replace H:(impl_word.l0 k a0 y327 (wrap64 (a1 - 1)))=some r:=by first|(rw[hy327];with_reducible exact H)|(have H2_:=(Option.bind_some _ _).symm.trans H;rw[hy327];with_reducible exact H2_)|(have H2_:=(Option.bind_some _ _).symm.trans H;with_reducible exact H2_)|with_reducible exact H|(rw[hy327];exact H)|exact H
   have Ny327:=zM hy327
   clear hy327
   have H':=zM H
   clear H
   go_enter Try.func51,Try.ntmps51
   go_wp2_with (first|((with_reducible refine gate_dst (N:=8) rfl ?_);refine Kd.R_make (Kd.int .u8) _ 5 rfl (N:=8) rfl 25 _ _ rfl a1 rfl rfl Try.underlying25 (.int .u8 0) 1 info5 rfl zq36 zq8 0 (ok:=fun _=>True) (okp:=fun _=>True) rfl (fun _ hk=>hk) trivial (of_decide_eq_true zq6) (Nat.le_trans (Nat.mul_le_mul_right _ (of_decide_eq_true zq6:a1.toNat≤281474976710656)) zq8) (Below.refl _ _) (Nat.le_refl _) ?_;intro v328 w5 ho6 hb hg_ hnew_;clear hg_ hnew_;(first|rw[← Ny327.out] at ho6|(simp only[Int.reduceToNat] at ho6;rw[← Ny327.out] at ho6));have n0_:=zM (Kd.R_lower ho6 (below_size zq0));have n1_:=zM (below_step zq0 hb);clear HB;have HO329:=n0_;have HB:=n1_;clear n0_ n1_;clear hb ho6))
   go_loopg [0,6] k (fun kq v0 v6 w'=>∃ (x0_1:Int) (x5_1:List Int) (x6_1:Int),v0=.int .i64 x0_1∧v6=.int .i64 x6_1∧Aside0 (impl_word.l0 kq x0_1 x5_1 x6_1=some r)∧Aside0 (kq≤k)∧Aside0 (Kd.R (Kd.int .u8) 5 w' w.heap.size (fun _=>True) v328 x5_1)∧Aside0 (Below w.heap.size w w'))
   case atStart=>exact⟨(a0),(y327),(wrap64 (a1 - 1)),zq7,zq7,H',⟨Nat.le_refl _⟩,⟨by(with_reducible repeat (first|apply Kd.R_alloc|apply Kd.R_drewN|apply Kd.R_drew));exact HO329.out⟩,⟨zq0⟩⟩
   case round=>
    clear H'
    try clear p2
    try clear c3
    try clear c3b0
    try clear c3b1
    try clear c4
    try clear c4b0
    try clear c4b1
    try clear c5
    try clear p6
    obtain⟨x0_1,x5_1,x6_1,rfl,rfl,HA,HK1,HO_5,HB⟩:=hrel
    cases gk with
    | zero=>exact absurd HA.out (by simp[impl_word.l0])
    | succ k1=>
     have H:=HA.out
     clear HA
     simp only[impl_word.l0] at H
     by_cases c7:x6_1 ≥ 0
     ·rw[if_pos c7] at H
      have c7b0:decide (0≤x6_1)=true:=decide_eq_true c7
      clear c7
      by_cases c8:0≤x6_1
      ·rw[if_pos c8] at H
       have c8b0:decide (0≤x6_1)=true:=decide_eq_true c8
       clear c8
       by_cases c9:x6_1 < (x5_1.length:Int)
       ·rw[if_pos c9] at H
        have c9b0:decide (x6_1 < (x5_1.length:Int))=true:=decide_eq_true c9
        clear c9
        obtain⟨y330,hy330⟩:∃ y_:List Int,y_=(x5_1.set (x6_1:Int).toNat ((Int.tmod x0_1 256) % 256)):=⟨_,rfl⟩
        replace H:(impl_word.l0 k1 (wrap64 (Int.tdiv x0_1 256)) y330 (wrap64 (x6_1 - 1)))=some r:=by first|(rw[hy330];with_reducible exact H)|(have H2_:=(Option.bind_some _ _).symm.trans H;rw[hy330];with_reducible exact H2_)|(have H2_:=(Option.bind_some _ _).symm.trans H;with_reducible exact H2_)|with_reducible exact H|(rw[hy330];exact H)|exact H
        have Ny330:=zM hy330
        clear hy330
        have H':=zM H
        clear H
        have p10:0≤(x6_1:Int):=of_decide_eq_true zq6
        have q10:(x6_1:Int) < ((x5_1.length:Int):Int):=of_decide_eq_true zq6
        obtain⟨go10,co10,eo10,gb10,gl10,cl10,HG10⟩:=Kd.R_form HO_5.out zq8
        (first|cases eo10|(injection eo10 with ea_ en_ ec_;(first|subst ea_|(injection ea_ with ea_;subst ea_));subst ec_;clear en_))
        have GB10:=zM gb10
        have GG10:=zM HG10
        clear gb10 gl10 HG10
        obtain⟨hx10_0,hf10_0⟩:=Kd.R_celln 0 HO_5.out (x6_1:Int) p10 q10
        replace p10:=eq_true p10
        replace q10:=eq_true q10
        have HP11:=Kd.R_putg HO_5.out (x6_1:Int) ((Int.tmod x0_1 256) % 256)
        go_wp2_with (first|((with_reducible refine gate_store (t:=5) (p:=20) rfl ?_);refine store_event (t:=5) (p:=20) (v:=?vo_w12) (w1:=(wr.setCell ⟨go10,(x6_1:Int).toNat,none⟩ (.int .u8 ((Int.tmod x0_1 256) % 256)))) ?hg ?ho ?hn ?hr ?_;(case ho=>rfl);(case hg=>rfl);(case hn=>rfl);(case hr=>first|(go_simp;done)|(go_simp;rfl));intro w12 hw;have hg:wr.grownBy w12 (some go10):=(by rw[hw];exact HP11.2);have hp_:Kd.R (Kd.int .u8) 5 w12 w.heap.size (fun _=>True) (.slice (some ⟨go10,0,none⟩) x5_1.length co10) y330:=(by rw[hw,Ny330.out];exact HP11.1);clear HP11;have n0_:=zM (hp_);have n1_:=zM ((by rw[hw];exact below_set (HB.out) GB10.out:Below w.heap.size w w12));clear HO_5;clear HB;have HO_5:=n0_;have HB:=n1_;clear n0_ n1_;clear hg hw hp_))
        go_roundg k1
        case measure=>have:=HK1.out;omega
        case rel=>exact⟨(wrap64 (Int.tdiv x0_1 256)),(y330),(wrap64 (x6_1 - 1)),zq7,zq7,H',⟨zq79⟩,⟨zq61⟩,⟨zq0⟩⟩
       ·rw[if_neg c9] at H
        exact absurd H zq73
      ·rw[if_neg c8] at H
       exact absurd H zq73
     ·rw[if_neg c7] at H
      have c7b0:decide (0≤x6_1)=false:=decide_eq_false c7
      clear c7
      obtain rfl:=Option.some.inj H
      go_wp2
      go_ret
      exact⟨_,zq3,zq61,zq0⟩
  ·rw[if_neg c4] at H
   exact absurd H zq73
 ·rw[if_neg c3] at H
  exact absurd H zq73
def impl_HeadOf.f (k:Nat) (a0:Int) (a1:Int) (a2:Int):Option (Int × List Int):=(impl_LetterFault.f k a0 a1 a2 ([]:List Int)).bind fun t332=>(if t332=0 then ((some (([1,(a0) % 256,(a1) % 256]:List Int):List Int)).bind fun y333=>((impl_word.f k a2 8).bind fun t336=>(if y333.length+t336.length < 140737488355328 then (some (0,(y333 ++ t336))) else (none)))) else ((impl_noBytes.f t332).bind fun bt342=>(some (bt342.1,bt342.2))))
theorem impl_HeadOf.mono:∀ a0 a1 a2 k,LeO (impl_HeadOf.f k a0 a1 a2) (impl_HeadOf.f (k+1) a0 a1 a2):=by
 intro a0 a1 a2 k
 unfold impl_HeadOf.f
 repeat' first
   | (with_reducible exact impl_LetterFault.mono _ _ _ _ _)
   | (with_reducible exact impl_word.mono _ _ _)
   | (with_reducible exact LeO.refl _)
   | (with_reducible exact LeO.none _)
   | (with_reducible refine LeO.ite ?_ ?_)
   | (with_reducible refine LeO.bind ?_ (fun _=>?_))
   | exact impl_LetterFault.mono _ _ _ _ _
   | exact impl_word.mono _ _ _
   | exact LeO.none _
   | refine LeO.ite ?_ ?_
   | refine LeO.bind ?_ (fun _=>?_)
set_option maxHeartbeats 8000000 in
set_option maxRecDepth 100000 in
theorem impl_HeadOf.calls (k:Nat) (a0:Int) (a1:Int) (a2:Int) (r1:Int) (r2:List Int) (w:World) (h:impl_HeadOf.f k a0 a1 a2=some (r1,r2)) :
  Calls Try.prog 29 #[.int .i64 a0,.int .i64 a1,.int .i64 a2] w fun e w'=>∃ v1_:Value,e=.returned (.agg #[.int .i64 r1,v1_])∧Kd.R (Kd.int .u8) 5 w' w.heap.size (fun _=>True) v1_ r2∧Below w.heap.size w w':=by
 have hu31:=Try.underlying31
 have hu37:=Try.underlying37
 have HB:=zM (Below.refl w.heap.size w)
 have H:((impl_LetterFault.f k a0 a1 a2 ([]:List Int)).bind fun t332=>(if t332=0 then ((some (([1,(a0) % 256,(a1) % 256]:List Int):List Int)).bind fun y333=>((impl_word.f k a2 8).bind fun t336=>(if y333.length+t336.length < 140737488355328 then (some (0,(y333 ++ t336))) else (none)))) else ((impl_noBytes.f t332).bind fun bt342=>(some (bt342.1,bt342.2)))))=some (r1,r2):=h
 clear h
 replace H:=Option.bind_eq_some_iff.mp H
 obtain⟨t332,A40,H⟩:=H
 replace H:(if t332=0 then ((some (([1,(a0) % 256,(a1) % 256]:List Int):List Int)).bind fun y333=>((impl_word.f k a2 8).bind fun t336=>(if y333.length+t336.length < 140737488355328 then (some (0,(y333 ++ t336))) else (none)))) else ((impl_noBytes.f t332).bind fun bt342=>(some (bt342.1,bt342.2))))=some (r1,r2):=H
 have A4:=zM A40
 clear A40
 by_cases c5:t332=0
 ·rw[if_pos c5] at H
  have c5b0:(t332 == 0)=true:=beq_iff_eq.mpr c5
  have c5b1:(t332 != 0)=false:=bne_eq_false_iff_eq.mpr c5
  clear c5
  obtain⟨y333,hy333⟩:∃ y_:List Int,y_=(([1,(a0) % 256,(a1) % 256]:List Int)):=⟨_,rfl⟩
  replace H:((impl_word.f k a2 8).bind fun t336=>(if y333.length+t336.length < 140737488355328 then (some (0,(y333 ++ t336))) else (none)))=some (r1,r2):=by first|(rw[hy333];with_reducible exact H)|(have H2_:=(Option.bind_some _ _).symm.trans H;rw[hy333];with_reducible exact H2_)|(have H2_:=(Option.bind_some _ _).symm.trans H;with_reducible exact H2_)|with_reducible exact H|(rw[hy333];exact H)|exact H
  have Ny333:=zM hy333
  clear hy333
  replace H:=Option.bind_eq_some_iff.mp H
  obtain⟨t336,A60,H⟩:=H
  replace H:(if y333.length+t336.length < 140737488355328 then (some (0,(y333 ++ t336))) else (none))=some (r1,r2):=H
  have A6:=zM A60
  clear A60
  by_cases c7:y333.length+t336.length < 140737488355328
  ·rw[if_pos c7] at H
   have LMc7:=zM c7
   clear c7
   obtain⟨y339,hy339⟩:∃ y_:List Int,y_=(y333 ++ t336):=⟨_,rfl⟩
   replace H:(some (0,y339))=some (r1,r2):=by first|(rw[hy339];with_reducible exact H)|(have H2_:=(Option.bind_some _ _).symm.trans H;rw[hy339];with_reducible exact H2_)|(have H2_:=(Option.bind_some _ _).symm.trans H;with_reducible exact H2_)|with_reducible exact H|(rw[hy339];exact H)|exact H
   have Ny339:=zM hy339
   clear hy339
   simp only[Option.some.injEq,Prod.mk.injEq] at H
   obtain⟨rfl,rfl⟩:=H
   go_enter Try.func29,Try.ntmps29
   go_wp2_with (first|((with_reducible refine gate_dst (N:=6) rfl ?_);refine box_event ?hg (N:=6) ?hd (cs:=#[.int .i64 0,.slice none 0 0]) (t:=31) ?hr ?_;(case hd=>rfl);(case hg=>rfl);(case hr=>first|(go_simp;done)|(go_simp;rfl));intro gb331 hg w8 hbox hb;have n0_:=zM (below_step zq0 hb);have n1_:=zM (hbox);have n2_:=zM ((by rw[hg];exact(below_size zq0):w.heap.size≤gb331));have n3_:=zM ((by rw[hg];exact(below_size zq0):w.heap.size≤gb331));clear HB;have HB:=n0_;have BK331:=n1_;have GW331:=n2_;have GE331:=n3_;clear n0_ n1_ n2_ n3_;clear hb hbox hg)|((with_reducible refine gate_callee (f:=26) rfl ?_);refine goesL_ (some 12) rfl rfl Try.func26 (by kernel_rfl) rfl #[.agg #[.int .i64 a0,.int .i64 a1,.int .i64 a2,.slice none 0 0]] rfl zq1 ?_;(refine(impl_LetterFault.calls k a0 a1 a2 _ _ ([]:List Int) t332 _ ?side1 ?side2 A4.out).mono ?_);(case side1=>exact Kd.C_nil _ _);(case side2=>exact Nat.le_refl _);rintro e w9 ⟨rfl,hb⟩;refine⟨_,rfl,?_⟩;have n0_:=zM (blk_below (g:=gb331) (o:=.cells #[.int .i64 0,.slice none 0 0] 31 (0,0)) zq65 hb);have n1_:=zM (below_step zq26 hb);clear BK331;clear HB;have BK331:=n0_;have HB:=n1_;clear n0_ n1_;(try clear hb);(try clear hb2);(try clear hk);(try clear hi))|((with_reducible refine gate_dst (N:=21) rfl ?_);refine Kd.R_lit (Kd.int .u8) _ 5 ?hg (N:=21) ?hd (xs:=([1,(a0) % 256,(a1) % 256]:List Int)) (inner:=[.int .u8 1,.int .u8 ((a0) % 256),.int .u8 ((a1) % 256)]) (ok:=fun _=>True) (okp:=fun _=>True) ?hr ?hp (fun _ hk=>hk) trivial (Below.refl _ _) (Nat.le_refl _) zq73 ?_;(case hd=>rfl);(case hg=>rfl);(case hr=>first|(go_simp;done)|(go_simp;rfl));(case hp=>exact(Reps.one (show Kd.M (Kd.int .u8) _ _ _ 1 [.int .u8 1] from rfl) (Reps.one (show Kd.M (Kd.int .u8) _ _ _ ((a0) % 256) [.int .u8 ((a0) % 256)] from rfl) (Reps.one (show Kd.M (Kd.int .u8) _ _ _ ((a1) % 256) [.int .u8 ((a1) % 256)] from rfl) (Reps.none _ _)))));intro v334 w10 ho11 hb hg_ hnew_;clear hg_ hnew_;(first|rw[← Ny333.out] at ho11|(simp only[Int.reduceToNat] at ho11;rw[← Ny333.out] at ho11));have n0_:=zM (Kd.R_lower ho11 (below_size zq26));have n1_:=zM (blk_below (g:=gb331) (o:=.cells #[.int .i64 0,.slice none 0 0] 31 (0,0)) zq65 hb);have n2_:=zM (below_step zq26 hb);clear BK331;clear HB;have HO335:=n0_;have BK331:=n1_;have HB:=n2_;clear n0_ n1_ n2_;clear hb ho11)|((with_reducible refine gate_callee (f:=51) rfl ?_);refine goesL_ (some 23) rfl rfl Try.func51 (by kernel_rfl) rfl #[.int .i64 a2,.int .i64 8] rfl zq1 ?_;(with_reducible refine(impl_word.calls k a2 8 t336 _ A6.out).mono ?_);rintro e w12 ⟨v337,rfl,ho0,hb⟩;refine⟨_,rfl,?_⟩;have n0_:=zM (Kd.R_elder' zq170 (Kd.R_base ho0) hb);have n1_:=zM (Kd.R_lower (Kd.R_new' ho0 (Kd.R_lt zq170)) (below_size zq26));have n2_:=zM (blk_below (g:=gb331) (o:=.cells #[.int .i64 0,.slice none 0 0] 31 (0,0)) zq65 hb);have n3_:=zM (below_step zq26 hb);clear HO335;clear BK331;clear HB;have HO335:=n0_;have HO338:=n1_;have BK331:=n2_;have HB:=n3_;clear n0_ n1_ n2_ n3_;(try clear hb);(try clear hb2);(try clear hk);(try clear hi);(try clear ho0);obtain⟨Ao14,co14,eo14⟩:=Kd.R_slice HO338.out;subst eo14)|((with_reducible refine gate_builtin (b:=.append) (xs:=#[.tmp 21,.tmp 23]) rfl ?_);at_builtin;refine Kd.R_append_rows (Kd.int .u8) (w0:=w) w.heap.size rfl (.tmp 21) (.tmp 23) 25 5 (.int .u8 0) 1 rfl Try.underlying25 info5 rfl zq36 zq8 v334 y333 t336 _ _ _ (fun k_=>some k_≠(.slice Ao14 t336.length co14:Value).ownBlock) (fun _=>False) rfl rfl ?aO ?aR (fun _ _ h=>h) (fun _ h=>h.elim) ?aF ?aB ?aS ?aL ?_;(case aR=>repeat (first|exact(Kd.R_reads' HO338.out).2.2|(with_reducible refine Kd.C_alloc ?_ _)|(with_reducible refine Kd.C_drewN ?_ _)|(with_reducible refine Kd.C_drew ?_)));(case aB=>exact zq26);(case aF=>exact(fun k_ hk=>Kd.fresh' (Kd.R_lt zq171) k_ hk));(case aO=>exact(by(with_reducible repeat (first|apply Kd.R_alloc|apply Kd.R_drewN|apply Kd.R_drew));exact Kd.R_mono HO335.out (fun _ hk=>hk.2)));(case aS=>exact(below_size zq26));(case aL=>have:=LMc7.out;omega);intro v340 w13 ho hb hg hat;rw[← Ny339.out] at ho;have n0_:=zM (blk_grown (g:=gb331) (o:=.cells #[.int .i64 0,.slice none 0 0] 31 (0,0)) zq65 hg (Kd.R_ne HO335.out BK331.out zq36));have n1_:=zM (Kd.R_after (ok:=(fun _=>True)) zq171 hg hat);have n2_:=zM (hb);have n3_:=zM (ho);clear BK331;clear HO338;clear HB;clear HO335;have BK331:=n0_;have HO338:=n1_;have HB:=n2_;have HO341:=n3_;clear n0_ n1_ n2_ n3_;clear ho hb hg hat;obtain⟨Ao15,co15,eo15⟩:=Kd.R_slice HO341.out;subst eo15;have hcz16_0:w13.cell? ⟨gb331,0,none⟩=some (.int .i64 0):=(blk_cell BK331.out 0).trans rfl;have hcz16_1:w13.cell? ⟨gb331,1,none⟩=some (.slice none 0 0):=(blk_cell BK331.out 1).trans rfl;have hfz16_0:=blk_frozen BK331.out 0;have hfz16_1:=blk_frozen BK331.out 1))
   refine bodyPost_ret (results_cell_row rfl _ _ gb331 31 #[.int .i64 0,.slice Ao15 y339.length co15] (0,0) _ rfl (by(with_reducible repeat (first|refine blk_drewN ?_ _|refine blk_drew ?_|refine blk_alloc ?_ _));refine blk_put (cs:=#[.int .i64 0,.slice none 0 0]) ?_ 1 _ rfl;(with_reducible repeat (first|refine blk_drewN ?_ _|refine blk_drew ?_|refine blk_alloc ?_ _));refine blk_put (cs:=#[.int .i64 0,.slice none 0 0]) ?_ 0 _ rfl;(with_reducible repeat (first|refine blk_drewN ?_ _|refine blk_drew ?_|refine blk_alloc ?_ _));exact BK331.out) Try.underlying31 rfl (by kernel_rfl)) rfl ?_
   exact⟨_,zq3,by(with_reducible repeat (first|apply Kd.R_alloc|apply Kd.R_drewN|apply Kd.R_drew));exact Kd.R_mono (Kd.R_far (p:=⟨gb331,1,none⟩) (Kd.R_far (p:=⟨gb331,0,none⟩) (Kd.R_types HO341.out BK331.out zq36) (fun _ hk=>hk.2) (.int .i64 0)) (fun _ hk=>hk.2) (.slice Ao15 y339.length co15)) (fun _ hk=>trivial),zq26⟩
  ·rw[if_neg c7] at H
   exact absurd H zq73
 ·rw[if_neg c5] at H
  have c5b0:(t332 == 0)=false:=beq_eq_false_iff_ne.mpr c5
  have c5b1:(t332 != 0)=true:=bne_iff_ne.mpr c5
  replace H:=Option.bind_eq_some_iff.mp H
  obtain⟨⟨t342,t343⟩,A170,H⟩:=H
  replace H:(some (t342,t343))=some (r1,r2):=H
  have A17:=zM A170
  clear A170
  simp only[Option.some.injEq,Prod.mk.injEq] at H
  obtain⟨rfl,rfl⟩:=H
  go_enter Try.func29,Try.ntmps29
  go_wp2_with (first|((with_reducible refine gate_dst (N:=6) rfl ?_);refine box_event ?hg (N:=6) ?hd (cs:=#[.int .i64 0,.slice none 0 0]) (t:=31) ?hr ?_;(case hd=>rfl);(case hg=>rfl);(case hr=>first|(go_simp;done)|(go_simp;rfl));intro gb331 hg w18 hbox hb;have n0_:=zM (below_step zq0 hb);have n1_:=zM (hbox);have n2_:=zM ((by rw[hg];exact(below_size zq0):w.heap.size≤gb331));have n3_:=zM ((by rw[hg];exact(below_size zq0):w.heap.size≤gb331));clear HB;have HB:=n0_;have BK331:=n1_;have GW331:=n2_;have GE331:=n3_;clear n0_ n1_ n2_ n3_;clear hb hbox hg)|((with_reducible refine gate_callee (f:=26) rfl ?_);refine goesL_ (some 12) rfl rfl Try.func26 (by kernel_rfl) rfl #[.agg #[.int .i64 a0,.int .i64 a1,.int .i64 a2,.slice none 0 0]] rfl zq1 ?_;(refine(impl_LetterFault.calls k a0 a1 a2 _ _ ([]:List Int) t332 _ ?side1 ?side2 A4.out).mono ?_);(case side1=>exact Kd.C_nil _ _);(case side2=>exact Nat.le_refl _);rintro e w19 ⟨rfl,hb⟩;refine⟨_,rfl,?_⟩;have n0_:=zM (blk_below (g:=gb331) (o:=.cells #[.int .i64 0,.slice none 0 0] 31 (0,0)) zq65 hb);have n1_:=zM (below_step zq26 hb);clear BK331;clear HB;have BK331:=n0_;have HB:=n1_;clear n0_ n1_;(try clear hb);(try clear hb2);(try clear hk);(try clear hi))|((with_reducible refine gate_callee (f:=27) rfl ?_);refine goesL_ (some 16) rfl rfl Try.func27 (by kernel_rfl) rfl #[.int .i64 t332] rfl zq1 ?_;(with_reducible refine(impl_noBytes.calls t332 t342 t343 _ A17.out).mono ?_);rintro e w20 ⟨v344,rfl,ho0,hb⟩;refine⟨_,rfl,?_⟩;have n0_:=zM (Kd.R_lower ho0 (below_size zq26));have n1_:=zM (blk_below (g:=gb331) (o:=.cells #[.int .i64 0,.slice none 0 0] 31 (0,0)) zq65 hb);have n2_:=zM (below_step zq26 hb);clear BK331;clear HB;have HO345:=n0_;have BK331:=n1_;have HB:=n2_;clear n0_ n1_ n2_;(try clear hb);(try clear hb2);(try clear hk);(try clear hi);(try clear ho0);have hcz21_0:w20.cell? ⟨gb331,0,none⟩=some (.int .i64 0):=(blk_cell BK331.out 0).trans rfl;have hcz21_1:w20.cell? ⟨gb331,1,none⟩=some (.slice none 0 0):=(blk_cell BK331.out 1).trans rfl;have hfz21_0:=blk_frozen BK331.out 0;have hfz21_1:=blk_frozen BK331.out 1;obtain⟨Ao22,co22,eo22⟩:=Kd.R_slice HO345.out;subst eo22))
  refine bodyPost_ret (results_cell_row rfl _ _ gb331 31 #[.int .i64 t342,.slice Ao22 t343.length co22] (0,0) _ rfl (by(with_reducible repeat (first|refine blk_drewN ?_ _|refine blk_drew ?_|refine blk_alloc ?_ _));refine blk_put (cs:=#[.int .i64 t342,.slice none 0 0]) ?_ 1 _ rfl;(with_reducible repeat (first|refine blk_drewN ?_ _|refine blk_drew ?_|refine blk_alloc ?_ _));refine blk_put (cs:=#[.int .i64 0,.slice none 0 0]) ?_ 0 _ rfl;(with_reducible repeat (first|refine blk_drewN ?_ _|refine blk_drew ?_|refine blk_alloc ?_ _));exact BK331.out) Try.underlying31 rfl (by kernel_rfl)) rfl ?_
  exact⟨_,zq3,by(with_reducible repeat (first|apply Kd.R_alloc|apply Kd.R_drewN|apply Kd.R_drew));exact Kd.R_mono (Kd.R_far (p:=⟨gb331,1,none⟩) (Kd.R_far (p:=⟨gb331,0,none⟩) (Kd.R_types HO345.out BK331.out zq36) (fun _ hk=>hk.2) (.int .i64 t342)) (fun _ hk=>hk.2) (.slice Ao22 t343.length co22)) (fun _ hk=>trivial),zq26⟩
set_option maxHeartbeats 4000000 in
set_option maxRecDepth 100000 in
theorem slices_Grow.calls (n:Nat) (hn0:n≤5000) (w:World) :
  Calls Try.prog 57 #[.slice none 0 0,.int .i64 n] w fun e w'=>∃ v0_:Value,e=.returned v0_∧Kd.R (Kd.int .u8) 5 w' w.heap.size (fun _=>True) v0_ ([]:List Int)∧Below w.heap.size w w':=by
 have HB:=zM (Below.refl w.heap.size w)
 by_cases h0:n=0
 ·subst h0
  rw[show ((0:Nat):Int)=0 from rfl]
  go_enter Try.func57,Try.ntmps57
  go_wp2
  go_ret
  exact⟨_,rfl,Kd.R_nil _ _ _ _ _,HB.out⟩
 ·have hn:=zM hn0
  have t1:decide ((n:Int) < 0)=false:=decide_eq_false zq8
  have t2:decide ((n:Int) > 0)=true:=decide_eq_true zq8
  have t3:decide (0 < (n:Int))=true:=decide_eq_true zq8
  have t4:decide (0 < n)=true:=decide_eq_true zq8
  clear h0
  go_enter Try.func57,Try.ntmps57
  go_wp2_with (first
    | ((with_reducible refine gate_builtin (b:=.append) (xs:=#[.tmp 20,.tmp 21]) rfl ?_);at_builtin;refine Kd.R_append_zeros (Kd.int .u8) (w0:=w) w.heap.size rfl (.tmp 20) (.tmp 21) 25 3 5 (.int .u8 0) 1 rfl Try.underlying25 Try.underlying3 info5 rfl zq36 zq8 (.slice none 0 0) ([]:List Int) 0 (n:Int) (fun _=>True) rfl rfl rfl ?aF ?aO zq8 ?aB ?aS ?aL ?_;(case aB=>exact zq0);(case aF=>exact(fun _ _=>trivial));(case aO=>exact Kd.R_nil _ _ _ _ _);(case aS=>exact(below_size zq0));(case aL=>simp;have:=hn.out;omega);intro v1 w5 ho hb hg hat;obtain⟨As,cs_,es_⟩:=Kd.R_slice ho;rw[show (([]:List Int) ++ List.replicate ((n:Int)).toNat (0:Int)).length=n by simp] at es_;subst es_;have n0_:=zM hb;have n1_:=zM (Kd.R_take (m:=0) ho (Nat.zero_le _));clear HB;have HB:=n0_;have HO2:=n1_;clear n0_ n1_;clear ho hb hg hat))
  go_ret
  exact⟨_,rfl,by have h9:=HO2.out;rw[List.take_zero] at h9;exact h9,HB.out⟩
def xsN (xss:List (List Int)) (i:Nat):List Int:=xss.getD i []
def flatN (xss:List (List Int)) (i:Nat):List Int:=(xss.take i).flatten
theorem flatN_succ (xss:List (List Int)) (i:Nat) (h:i < xss.length):flatN xss (i+1)=flatN xss i ++ xsN xss i:=by
 unfold flatN xsN
 rw[List.take_succ_eq_append_getElem h,List.flatten_append,List.getD_eq_getElem?_getD,List.getElem?_eq_getElem h]
 simp
theorem flatN_all (xss:List (List Int)):flatN xss xss.length=xss.flatten:=by unfold flatN;rw[List.take_length]
theorem flat_le (xss:List (List Int)) (i:Nat) (h:i < xss.length):(flatN xss i).length+(xsN xss i).length≤xss.flatten.length:=by
 have e:=flatN_succ xss i h
 have e2:(flatN xss (i+1)).length≤xss.flatten.length:=by
  have e3:xss.flatten=flatN xss (i+1) ++ (xss.drop (i+1)).flatten:=by unfold flatN;rw[← List.flatten_append,List.take_append_drop]
  rw[e3,List.length_append]
  omega
 rw[e,List.length_append] at e2
 exact e2
set_option maxHeartbeats 4000000 in
set_option maxRecDepth 100000 in
theorem slices_Concat.calls (go cap:Nat) (xss:List (List Int)) (hfl0:xss.flatten.length≤5000) (hn0:xss.length≤100) (w:World)
  (hg0:∀ i,i < xss.length→∃ (A:Option Addr) (c:Nat),w.cell? ⟨go,i,none⟩=some (.slice A (xsN xss i).length c)∧(xsN xss i).length≤c∧Kd.C (Kd.int .u8) w A (xsN xss i).length (xsN xss i)) :
  Calls Try.prog 32 #[.slice (some ⟨go,0,none⟩) xss.length cap] w fun e w'=>∃ v0_:Value,e=.returned v0_∧Kd.R (Kd.int .u8) 5 w' w.heap.size (fun _=>True) v0_ xss.flatten∧Below w.heap.size w w':=by
 have hfl:=zM hfl0
 have hg:=zM hg0
 obtain⟨n,hn⟩:∃ n,xss.length=n:=⟨_,rfl⟩
 rw[hn] at hn0 ⊢
 have hN:=zM hn
 clear hfl0 hg0 hn
 have HB:=zM (Below.refl w.heap.size w)
 go_enter Try.func32,Try.ntmps32
 go_wp2
 go_loopw [3,11] (fun v3 v11 W=>∃ i S:Nat,i≤n∧Aside0 (S=(flatN xss i).length)∧S≤5000∧v11=.int .i64 i∧v3=.int .i64 S∧Aside0 (Below w.heap.size w W)) (fun _ v11 _=>200 - (intOf v11).toNat)
 case atStart=>exact⟨0,0,zq8,⟨rfl⟩,zq8,rfl,rfl,HB⟩
 case round=>
  clear HB
  obtain⟨i,S,hi,hS,hS5,rfl,rfl,HB⟩:=hrel
  by_cases hl:i < n
  ·have hlt:=zM (show i < xss.length by rw[hN.out];exact hl)
   obtain⟨A,c,hc0,hle,hC0⟩:=hg.out i hlt.out
   have hc:wr.cell? ⟨go,i,none⟩=some (.slice A (xsN xss i).length c):=(HB.out.cell (World.block_lt_of_cell? w _ hc0)).trans hc0
   clear hc0 hC0
   have hsum:=flat_le xss i hlt.out
   have hf5:=hfl.out
   have hS':=hS.out
   obtain⟨m,hm⟩:∃ m,(xsN xss i).length=m:=⟨_,rfl⟩
   rw[hm] at hc hle hsum
   have hM:=zM hm
   have hb5:S+m≤5000:=by omega
   clear hm hS' hsum hf5
   have t1:decide ((S:Int)+(m:Int) < 0)=false:=decide_eq_false zq8
   have t2:decide (i < n)=true:=decide_eq_true hl
   have p1:=eq_true (show (0:Int)≤(i:Int) by omega)
   have p2:=eq_true (show (i:Int) < (n:Int) by omega)
   go_wp2
   go_roundw
   case rel=>exact⟨i+1,S+m,zq8,⟨by rw[flatN_succ xss i hlt.out,List.length_append,hM.out,← hS.out]⟩,zq8,by go_num,by go_num,HB⟩
   case measure=>simp[intOf];omega
  ·obtain rfl:i=n:=by omega
   have t2:decide (i < i)=false:=decide_eq_false zq8
   clear hl
   go_wp2_with (go_at_call 57;refine(slices_Grow.calls S hS5 _).mono ?_;rintro e wk ⟨v6_,rfl,ho6,hb⟩;have n0_:=zM (Kd.R_lower ho6 (below_size zq0));have n1_:=zM (below_step zq0 hb);clear HB;have HO6:=n0_;have HB:=n1_;clear n0_ n1_ ho6 hb)
   go_loopw [6,27] (fun v6 v27 W=>∃ (j:Nat),j≤i∧v27=.int .i64 j∧Aside0 (Kd.R (Kd.int .u8) 5 W w.heap.size (fun _=>True) v6 (flatN xss j))∧Aside0 (Below w.heap.size w W)) (fun _ v27 _=>200 - (intOf v27).toNat)
   case atStart=>exact⟨0,zq8,rfl,HO6,HB⟩
   case round=>
    clear HO6 HB
    obtain⟨j,hj,rfl,HO6,HB⟩:=hrel
    by_cases hl:j < i
    ·have hlt:=zM (show j < xss.length by rw[hN.out];exact hl)
     obtain⟨A,c,hc0,hle,hC0⟩:=hg.out j hlt.out
     have hc:wr.cell? ⟨go,j,none⟩=some (.slice A (xsN xss j).length c):=(HB.out.cell (World.block_lt_of_cell? w _ hc0)).trans hc0
     have hC:=zM hC0
     clear hc0 hC0
     have t2:decide (j < i)=true:=decide_eq_true hl
     have p1:=eq_true (show (0:Int)≤(j:Int) by omega)
     have p2:=eq_true (show (j:Int) < (i:Int) by omega)
     go_wp2_with (first
       | ((with_reducible refine gate_builtin (b:=.append) (xs:=#[.tmp 31,.tmp 32]) rfl ?_);at_builtin;refine Kd.R_append_rows (Kd.int .u8) (w0:=w) w.heap.size rfl (.tmp 31) (.tmp 32) 25 5 (.int .u8 0) 1 rfl Try.underlying25 info5 rfl zq36 zq8 _ (flatN xss j) (xsN xss j) _ _ _ (fun _=>True) (fun _=>False) rfl rfl ?aO ?aR (fun _ _ h=>h) (fun _ h=>h.elim) ?aF ?aB ?aS ?aL ?_;(case aR=>exact Kd.C_below hC.out zq0);(case aB=>exact zq0);(case aF=>exact(fun _ _=>trivial));(case aO=>exact HO6.out);(case aS=>exact(below_size zq0));(case aL=>have:=hfl.out;have:=flat_le xss j hlt.out;omega);intro v2 w5 ho hb hg hat;have n0_:=zM hb;have n1_:=zM ho;clear HB HO6;have HB:=n0_;have HO6:=n1_;clear n0_ n1_;clear ho hb hg hat))
     go_roundw
     case rel=>exact⟨j+1,zq8,by go_num,⟨by rw[flatN_succ xss j hlt.out];exact HO6.out⟩,HB⟩
     case measure=>simp[intOf];omega
    ·obtain rfl:j=i:=by omega
     have t2:decide (j < j)=false:=decide_eq_false zq8
     go_wp2
     go_ret
     refine⟨_,rfl,?_,HB.out⟩
     have h9:=HO6.out
     rw[← hN.out,flatN_all] at h9
     exact h9
set_option maxHeartbeats 4000000 in
set_option maxRecDepth 100000 in
theorem impl_cipher_add.calls (gK r:Nat) (ks xs:List (BitVec 8)) (hk0:ks.length=176) (hx0:xs.length=16) (hr0:r≤10) (w:World) (hb0:w.heap[gK]?=some (.cells (cB ks) 100 (0,0))) :
  Calls Try.prog 81 #[.pointer (some ⟨gK,0,none⟩),.agg (cB xs),.int .i64 r] w fun e w'=>e=.returned (.agg (cB (addL ks r xs)))∧Below w.heap.size w w':=by
 have hk:=zM hk0
 have hx:=zM hx0
 have hr:=zM hr0
 have hb:=zM hb0
 clear hk0 hx0 hr0 hb0
 have HB:=zM (Below.refl w.heap.size w)
 go_enter Try.func81,Try.ntmps81
 go_wp2_with (first
  | ((with_reducible refine gate_dst (N:=4) rfl ?_);refine box_event ?hg (N:=4) ?hd (cs:=(cB xs)) (t:=88) ?hr ?_;(case hd=>rfl);(case hg=>rfl);(case hr=>first|(go_simp;done)|(go_simp;rfl));intro g4 hg w4 hbox hb;have n0_:=zM (below_step zq0 hb);have n1_:=zM hbox;have n2_:=zM (by rw[hg];exact below_size zq0:w.heap.size≤g4);clear HB;have HB:=n0_;have BK4:=n1_;have GE4:=n2_;clear n0_ n1_ n2_;clear hb hbox hg)
  | ((with_reducible refine gate_dst (N:=6) rfl ?_);refine box_event ?hg (N:=6) ?hd (cs:=#[.int .u8 0,.int .u8 0,.int .u8 0,.int .u8 0,.int .u8 0,.int .u8 0,.int .u8 0,.int .u8 0,.int .u8 0,.int .u8 0,.int .u8 0,.int .u8 0,.int .u8 0,.int .u8 0,.int .u8 0,.int .u8 0]) (t:=88) ?hr ?_;(case hd=>rfl);(case hg=>rfl);(case hr=>first|(go_simp;done)|(go_simp;rfl));intro g6 hg w6 hbox hb;have n0_:=zM (below_step zq0 hb);have n1_:=zM (blk_below (g:=g4) (o:=.cells (cB xs) 88 (0,0)) zq5 hb);have n2_:=zM hbox;have n3_:=zM (by rw[hg];exact below_size zq0:w.heap.size≤g6);have n4_:=zM (by rw[hg];exact Nat.ne_of_lt (blk_lt (g:=g4) (o:=.cells (cB xs) 88 (0,0)) zq5):g4≠g6);have n5_:=zM (by rw[hg];exact Nat.ne_of_gt (blk_lt (g:=g4) (o:=.cells (cB xs) 88 (0,0)) zq5):g6≠g4);clear HB BK4;have HB:=n0_;have BK4:=n1_;have BK6:=n2_;have GE6:=n3_;have NE4_6:=n4_;have NE6_4:=n5_;clear n0_ n1_ n2_ n3_ n4_ n5_;clear hb hbox hg))
 go_loopw [8] (fun v8 W=>∃ i:Nat,i≤16∧v8=.int .i64 i∧Aside0 (W.heap[g4]?=some (.cells (cB (fillL 16 (fun j=>by_ xs j ^^^ by_ ks (16*r+j)) (by_ xs) i)) 88 (0,0)))∧Aside0 (W.heap[g6]?=some (.cells #[.int .u8 0,.int .u8 0,.int .u8 0,.int .u8 0,.int .u8 0,.int .u8 0,.int .u8 0,.int .u8 0,.int .u8 0,.int .u8 0,.int .u8 0,.int .u8 0,.int .u8 0,.int .u8 0,.int .u8 0,.int .u8 0] 88 (0,0)))∧Aside0 (Below w.heap.size w W)) (fun v8 _=>16 - (intOf v8).toNat)
 case atStart=>exact⟨0,zq8,rfl,⟨by rw[fillL_zero,← hx.out,tab_self];exact BK4.out⟩,BK6,HB⟩
 case round=>
  clear BK4 BK6 HB
  obtain⟨i,hi,rfl,BK4,BK6,HB⟩:=hrel
  by_cases hl:i < 16
  ·have hlt:=zM hl
   have hc0:wr.cell? ⟨g4,i,none⟩=some (.int .u8 (bI (by_ xs i))):=by
    rw[blk_cell BK4.out,cB_get _ _ zq156,fillL_get _ _ _ _ _ hl,if_neg zq8]
   have hc1:wr.cell? ⟨gK,16*r+i,none⟩=some (.int .u8 (bI (by_ ks (16*r+i)))):=by
    rw[blk_cell ((HB.out.block gK (blk_lt hb.out)).trans hb.out),cB_get _ _ (by rw[hk.out];have:=hr.out;omega)]
   have hf:=blk_frozen BK4.out i
   have i1:=eq_true (show (0:Int)≤16*(r:Int)+(i:Int) by omega)
   have i2:=eq_true (show 16*(r:Int)+(i:Int) < 176 by have:=hr.out;omega)
   have i3:=eq_true (show (0:Int)≤(i:Int) by omega)
   have i4:=eq_true (show (i:Int) < 16 by omega)
   have s1:Value.int .i64 (IntKind.i64.wrap (16*(r:Int)))=.int .i64 (16*(r:Int)):=by rw[IntWalk.i64_in _ (by have:=hr.out;omega)]
   have s2:Value.int .i64 (IntKind.i64.wrap (16*(r:Int)+(i:Int)))=.int .i64 (16*(r:Int)+(i:Int)):=by rw[IntWalk.i64_in _ (by have:=hr.out;omega)]
   have n1:∀ g:Nat,(⟨g,(16*(r:Int)+(i:Int)).toNat,none⟩:Addr)=⟨g,16*r+i,none⟩:=fun g=>by rw[show (16*(r:Int)+(i:Int)).toNat=16*r+i by omega]
   clear hl
   go_wp2_with fail
   refine wp_region_tail 14 (by kernel_rfl) (by kernel_rfl) ?_
   simp only[List.take_succ_cons,List.take_zero,List.drop_succ_cons,List.drop_zero]
   repeat still_step
   refine wpStill_nil ?_
   clear s1 s2 n1
   go_wp2_with (first
     | ((with_reducible refine gate_store (t:=5) (p:=24) rfl ?_);refine cell_event ?hg (t:=5) (p:=24) (v:=?vo_219) ?ho ?hn (i:=i) (x:=(.int .u8 (Go.bits .xor .u8 (bI (by_ xs i)) (bI (by_ ks (16*r+i)))))) (cs:=(cB (fillL 16 (fun j=>by_ xs j ^^^ by_ ks (16*r+j)) (by_ xs) i))) (g:=g4) (e:=88) ?hk ?hr (cs':=(cB (fillL 16 (fun j=>by_ xs j ^^^ by_ ks (16*r+j)) (by_ xs) (i+1)))) ?hc ?_;(case ho=>rfl);(case hg=>rfl);(case hn=>rfl);(case hk=>exact zq5);(case hr=>first|(go_simp;done)|(go_simp;rfl));(case hc=>rw[bI_xor,cB_set];exact congrArg cB (fillL_set 16 (fun j=>by_ xs j ^^^ by_ ks (16*r+j)) (by_ xs) i hlt.out));intro wc hbk hgr;have n0_:=zM (below_grown1 zq0 hgr GE4.out);have n1_:=zM (blk_grown1 (g':=g6) (ob:=.cells #[.int .u8 0,.int .u8 0,.int .u8 0,.int .u8 0,.int .u8 0,.int .u8 0,.int .u8 0,.int .u8 0,.int .u8 0,.int .u8 0,.int .u8 0,.int .u8 0,.int .u8 0,.int .u8 0,.int .u8 0,.int .u8 0] 88 (0,0)) zq12 hgr NE6_4.out);have n2_:=zM hbk;clear HB BK6 BK4;have HB:=n0_;have BK6:=n1_;have BK4:=n2_;clear n0_ n1_ n2_;clear hbk hgr))
   go_roundw
   case rel=>exact⟨i+1,by have:=hlt.out;omega,by go_num,BK4,BK6,HB⟩
   case measure=>simp[intOf];have:=hlt.out;omega
  ·obtain rfl:i=16:=by omega
   rw[show fillL 16 (fun j=>by_ xs j ^^^ by_ ks (16*r+j)) (by_ xs) 16=addL ks r xs from fillL_all _ _ _] at BK4
   go_wp2_with (first
     | ((with_reducible refine gate_dst (N:=26) rfl ?_);refine wpList_load_row ?hg 88 (.tmp 4) ?ho g4 ?hx 88 (cB (addL ks r xs)) (0,0) _ ?hk Try.underlying88 rfl ?hi ?_;(case hg=>rfl);(case ho=>rfl);(case hx=>rfl);(case hk=>exact zq5);(case hi=>rw[cB_size,addL_length];kernel_rfl))
     | ((with_reducible refine gate_store (t:=88) (p:=6) rfl ?_);refine row_event ?hg (ty:=88) (p:=6) (y:=?yo_221) ?ho ?hn (g:=g6) (old:=#[.int .u8 0,.int .u8 0,.int .u8 0,.int .u8 0,.int .u8 0,.int .u8 0,.int .u8 0,.int .u8 0,.int .u8 0,.int .u8 0,.int .u8 0,.int .u8 0,.int .u8 0,.int .u8 0,.int .u8 0,.int .u8 0]) (e:=88) (cells:=(cB (addL ks r xs))) ?hx ?hy ?hk ?hi ?hd ?h1 ?_;(case ho=>rfl);(case hg=>rfl);(case hn=>rfl);(case hx=>rfl);(case hy=>rfl);(case hk=>exact zq12);(case hi=>rw[cB_size,addL_length];kernel_rfl);(case hd=>rw[cB_size,addL_length];rfl);(case h1=>exact cB_one _);intro wr_ hbk hgr;have n0_:=zM (below_grown1 zq0 hgr GE6.out);have n1_:=zM (blk_grown1 (g':=g4) (ob:=.cells (cB (addL ks r xs)) 88 (0,0)) zq5 hgr NE4_6.out);have n2_:=zM hbk;clear HB BK4 BK6;have HB:=n0_;have BK4:=n1_;have BK6:=n2_;clear n0_ n1_ n2_;clear hbk hgr))
   refine bodyPost_ret (results_cell_row rfl _ _ g6 88 (cB (addL ks r xs)) (0,0) _ rfl zq12 Try.underlying88 rfl (by rw[cB_size,addL_length];kernel_rfl)) rfl ?_
   exact⟨rfl,HB.out⟩
set_option maxHeartbeats 4000000 in
set_option maxRecDepth 100000 in
theorem impl_block_subBytes.calls (m:List (BitVec 8)) (hm0:m.length=16) (w:World) :
  Calls Try.prog 82 #[.agg (cB m)] w fun e w'=>e=.returned (.agg (cB (subL m)))∧Below w.heap.size w w':=by
 have hm:=zM hm0
 clear hm0
 have HB:=zM (Below.refl w.heap.size w)
 go_enter Try.func82,Try.ntmps82
 go_wp2_with (first
  | ((with_reducible refine gate_dst (N:=1) rfl ?_);refine box_event ?hg (N:=1) ?hd (cs:=(cB m)) (t:=88) ?hr ?_;(case hd=>rfl);(case hg=>rfl);(case hr=>first|(go_simp;done)|(go_simp;rfl));intro g1 hg w1 hbox hb;have n0_:=zM (below_step zq0 hb);have n1_:=zM hbox;have n2_:=zM (by rw[hg];exact below_size zq0:w.heap.size≤g1);clear HB;have HB:=n0_;have BK1:=n1_;have GE1:=n2_;clear n0_ n1_ n2_;clear hb hbox hg)
  | ((with_reducible refine gate_dst (N:=2) rfl ?_);refine box_event ?hg (N:=2) ?hd (cs:=#[.int .u8 0,.int .u8 0,.int .u8 0,.int .u8 0,.int .u8 0,.int .u8 0,.int .u8 0,.int .u8 0,.int .u8 0,.int .u8 0,.int .u8 0,.int .u8 0,.int .u8 0,.int .u8 0,.int .u8 0,.int .u8 0]) (t:=88) ?hr ?_;(case hd=>rfl);(case hg=>rfl);(case hr=>first|(go_simp;done)|(go_simp;rfl));intro g2 hg w2 hbox hb;have n0_:=zM (below_step zq0 hb);have n1_:=zM (blk_below (g:=g1) (o:=.cells (cB m) 88 (0,0)) zq4 hb);have n2_:=zM hbox;have n3_:=zM (by rw[hg];exact below_size zq0:w.heap.size≤g2);have n4_:=zM (by rw[hg];exact Nat.ne_of_lt (blk_lt (g:=g1) (o:=.cells (cB m) 88 (0,0)) zq4):g1≠g2);have n5_:=zM (by rw[hg];exact Nat.ne_of_gt (blk_lt (g:=g1) (o:=.cells (cB m) 88 (0,0)) zq4):g2≠g1);clear HB BK1;have HB:=n0_;have BK1:=n1_;have BK2:=n2_;have GE2:=n3_;have NE1_2:=n4_;have NE2_1:=n5_;clear n0_ n1_ n2_ n3_ n4_ n5_;clear hb hbox hg)
  | ((with_reducible refine gate_dst (N:=5) rfl ?_);refine wpList_load_row ?hg 88 (.tmp 1) ?ho g1 ?hx 88 (cB m) (0,0) _ ?hk Try.underlying88 rfl ?hi ?_;(case hg=>rfl);(case ho=>rfl);(case hx=>rfl);(case hk=>exact zq4);(case hi=>rw[cB_size,hm.out];kernel_rfl)))
 go_loopw [6] (fun v6 W=>∃ i:Nat,i≤16∧v6=.int .i64 i∧Aside0 (W.heap[g1]?=some (.cells (cB (fillL 16 (fun j=>SB (by_ m j)) (by_ m) i)) 88 (0,0)))∧Aside0 (W.heap[g2]?=some (.cells #[.int .u8 0,.int .u8 0,.int .u8 0,.int .u8 0,.int .u8 0,.int .u8 0,.int .u8 0,.int .u8 0,.int .u8 0,.int .u8 0,.int .u8 0,.int .u8 0,.int .u8 0,.int .u8 0,.int .u8 0,.int .u8 0] 88 (0,0)))∧Aside0 (Below w.heap.size w W)) (fun v6 _=>16 - (intOf v6).toNat)
 case atStart=>exact⟨0,zq8,rfl,⟨by rw[fillL_zero,← hm.out,tab_self];exact BK1.out⟩,BK2,HB⟩
 case round=>
  clear BK1 BK2 HB
  obtain⟨i,hi,rfl,BK1,BK2,HB⟩:=hrel
  by_cases hl:i < 16
  ·have hlt:=zM hl
   have hix:=run_index_arr (P:=Try.prog) 88 5 16 Try.underlying88 (by kernel_rfl) Try.underlying5 m hm.out i hl
   have hc1:∀ W:World,W.heap[g1]?=some (.cells (cB (fillL 16 (fun j=>SB (by_ m j)) (by_ m) i)) 88 (0,0))→W.cell? ⟨g1,i,none⟩=some (.int .u8 (bI (by_ m i))):=fun W h=>by
    rw[blk_cell h,cB_get _ _ zq156,fillL_get _ _ _ _ _ hl,if_neg zq8]
   have hc:=hc1 _ BK1.out
   have hf:=blk_frozen BK1.out i
   clear hc1
   go_wp2_with (first
    | ((with_reducible refine gate_dst (N:=12) rfl ?_);refine wp_index_box ?hg 9 ?s_4 (.tmp 11) ?ho Try.underlying9 ?hs (by_ m i) ?hi ?_;(case hg=>rfl);(case ho=>rfl);(case hs=>kernel_rfl);(case hi=>rfl))
    | ((with_reducible refine gate_store (t:=5) (p:=13) rfl ?_);refine cell_event ?hg (t:=5) (p:=13) (v:=?vo_5) ?ho ?hn (i:=i) (x:=(.int .u8 (bI (SB (by_ m i))))) (cs:=(cB (fillL 16 (fun j=>SB (by_ m j)) (by_ m) i))) (g:=g1) (e:=88) ?hk ?hr (cs':=(cB (fillL 16 (fun j=>SB (by_ m j)) (by_ m) (i+1)))) ?hc ?_;(case ho=>rfl);(case hg=>rfl);(case hn=>rfl);(case hk=>exact zq4);(case hr=>first|(go_simp;done)|(go_simp;rfl));(case hc=>rw[cB_set,fillL_set _ _ _ _ hlt.out]);intro wc hbk hgr;have n0_:=zM (below_grown1 zq0 hgr GE1.out);have n1_:=zM (blk_grown1 (g':=g2) (ob:=.cells #[.int .u8 0,.int .u8 0,.int .u8 0,.int .u8 0,.int .u8 0,.int .u8 0,.int .u8 0,.int .u8 0,.int .u8 0,.int .u8 0,.int .u8 0,.int .u8 0,.int .u8 0,.int .u8 0,.int .u8 0,.int .u8 0] 88 (0,0)) zq2 hgr NE2_1.out);have n2_:=zM hbk;clear HB BK2 BK1;have HB:=n0_;have BK2:=n1_;have BK1:=n2_;clear n0_ n1_ n2_;clear hbk hgr))
   go_roundw
   case rel=>exact⟨i+1,zq8,by go_num,BK1,BK2,HB⟩
   case measure=>simp[intOf];omega
  ·obtain rfl:i=16:=by omega
   rw[show fillL 16 (fun j=>SB (by_ m j)) (by_ m) 16=subL m from fillL_all _ _ _] at BK1
   go_wp2_with (first
    | ((with_reducible refine gate_dst (N:=15) rfl ?_);refine wpList_load_row ?hg 88 (.tmp 1) ?ho g1 ?hx 88 (cB (subL m)) (0,0) _ ?hk Try.underlying88 rfl ?hi ?_;(case hg=>rfl);(case ho=>rfl);(case hx=>rfl);(case hk=>exact zq4);(case hi=>rw[cB_size,subL_length];kernel_rfl))
    | ((with_reducible refine gate_store (t:=88) (p:=2) rfl ?_);refine row_event ?hg (ty:=88) (p:=2) (y:=?yo_7) ?ho ?hn (g:=g2) (old:=#[.int .u8 0,.int .u8 0,.int .u8 0,.int .u8 0,.int .u8 0,.int .u8 0,.int .u8 0,.int .u8 0,.int .u8 0,.int .u8 0,.int .u8 0,.int .u8 0,.int .u8 0,.int .u8 0,.int .u8 0,.int .u8 0]) (e:=88) (cells:=(cB (subL m))) ?hx ?hy ?hk ?hi ?hd ?h1 ?_;(case ho=>rfl);(case hg=>rfl);(case hn=>rfl);(case hx=>rfl);(case hy=>rfl);(case hk=>exact zq2);(case hi=>rw[cB_size,subL_length];kernel_rfl);(case hd=>rw[cB_size,subL_length];rfl);(case h1=>exact cB_one _);intro wr_ hbk hgr;have n0_:=zM (below_grown1 zq0 hgr GE2.out);have n1_:=zM (blk_grown1 (g':=g1) (ob:=.cells (cB (subL m)) 88 (0,0)) zq4 hgr NE1_2.out);have n2_:=zM hbk;clear HB BK1 BK2;have HB:=n0_;have BK1:=n1_;have BK2:=n2_;clear n0_ n1_ n2_;clear hbk hgr))
   refine bodyPost_ret (results_cell_row rfl _ _ g2 88 (cB (subL m)) (0,0) _ rfl zq2 Try.underlying88 rfl (by rw[cB_size,subL_length];kernel_rfl)) rfl ?_
   exact⟨rfl,HB.out⟩
set_option maxHeartbeats 4000000 in
set_option maxRecDepth 100000 in
theorem impl_block_shiftRows.calls (m:List (BitVec 8)) (hm0:m.length=16) (w:World) :
  Calls Try.prog 83 #[.agg (cB m)] w fun e w'=>e=.returned (.agg (cB (shiftL m)))∧Below w.heap.size w w':=by
 have hm:=zM hm0
 clear hm0
 have HB:=zM (Below.refl w.heap.size w)
 go_enter Try.func83,Try.ntmps83
 go_wp2_with (first
  | ((with_reducible refine gate_dst (N:=1) rfl ?_);refine box_event ?hg (N:=1) ?hd (cs:=(cB m)) (t:=88) ?hr ?_;(case hd=>rfl);(case hg=>rfl);(case hr=>first|(go_simp;done)|(go_simp;rfl));intro g1 hg w1 hbox hb;have n0_:=zM (below_step zq0 hb);have n1_:=zM hbox;have n2_:=zM (by rw[hg];exact below_size zq0:w.heap.size≤g1);clear HB;have HB:=n0_;have BK1:=n1_;have GE1:=n2_;clear n0_ n1_ n2_;clear hb hbox hg)
  | ((with_reducible refine gate_dst (N:=2) rfl ?_);refine box_event ?hg (N:=2) ?hd (cs:=#[.int .u8 0,.int .u8 0,.int .u8 0,.int .u8 0,.int .u8 0,.int .u8 0,.int .u8 0,.int .u8 0,.int .u8 0,.int .u8 0,.int .u8 0,.int .u8 0,.int .u8 0,.int .u8 0,.int .u8 0,.int .u8 0]) (t:=88) ?hr ?_;(case hd=>rfl);(case hg=>rfl);(case hr=>first|(go_simp;done)|(go_simp;rfl));intro g2 hg w2 hbox hb;have n0_:=zM (below_step zq0 hb);have n1_:=zM (blk_below (g:=g1) (o:=.cells (cB m) 88 (0,0)) zq4 hb);have n2_:=zM hbox;have n3_:=zM (by rw[hg];exact below_size zq0:w.heap.size≤g2);have n4_:=zM (by rw[hg];exact Nat.ne_of_lt (blk_lt (g:=g1) (o:=.cells (cB m) 88 (0,0)) zq4):g1≠g2);have n5_:=zM (by rw[hg];exact Nat.ne_of_gt (blk_lt (g:=g1) (o:=.cells (cB m) 88 (0,0)) zq4):g2≠g1);clear HB BK1;have HB:=n0_;have BK1:=n1_;have BK2:=n2_;have GE2:=n3_;have NE1_2:=n4_;have NE2_1:=n5_;clear n0_ n1_ n2_ n3_ n4_ n5_;clear hb hbox hg)
  | ((with_reducible refine gate_dst (N:=3) rfl ?_);refine box_event ?hg (N:=3) ?hd (cs:=#[.int .u8 0,.int .u8 0,.int .u8 0,.int .u8 0,.int .u8 0,.int .u8 0,.int .u8 0,.int .u8 0,.int .u8 0,.int .u8 0,.int .u8 0,.int .u8 0,.int .u8 0,.int .u8 0,.int .u8 0,.int .u8 0]) (t:=88) ?hr ?_;(case hd=>rfl);(case hg=>rfl);(case hr=>first|(go_simp;done)|(go_simp;rfl));intro g3 hg w3 hbox hb;have n0_:=zM (below_step zq0 hb);have n1_:=zM (blk_below (g:=g1) (o:=.cells (cB m) 88 (0,0)) zq4 hb);have n2_:=zM (blk_below (g:=g2) (o:=.cells #[.int .u8 0,.int .u8 0,.int .u8 0,.int .u8 0,.int .u8 0,.int .u8 0,.int .u8 0,.int .u8 0,.int .u8 0,.int .u8 0,.int .u8 0,.int .u8 0,.int .u8 0,.int .u8 0,.int .u8 0,.int .u8 0] 88 (0,0)) zq2 hb);have n3_:=zM hbox;have n4_:=zM (by rw[hg];exact below_size zq0:w.heap.size≤g3);have n5_:=zM (by rw[hg];exact Nat.ne_of_lt (blk_lt (g:=g1) (o:=.cells (cB m) 88 (0,0)) zq4):g1≠g3);have n6_:=zM (by rw[hg];exact Nat.ne_of_gt (blk_lt (g:=g1) (o:=.cells (cB m) 88 (0,0)) zq4):g3≠g1);have n7_:=zM (by rw[hg];exact Nat.ne_of_lt (blk_lt (g:=g2) (o:=.cells #[.int .u8 0,.int .u8 0,.int .u8 0,.int .u8 0,.int .u8 0,.int .u8 0,.int .u8 0,.int .u8 0,.int .u8 0,.int .u8 0,.int .u8 0,.int .u8 0,.int .u8 0,.int .u8 0,.int .u8 0,.int .u8 0] 88 (0,0)) zq2):g2≠g3);have n8_:=zM (by rw[hg];exact Nat.ne_of_gt (blk_lt (g:=g2) (o:=.cells #[.int .u8 0,.int .u8 0,.int .u8 0,.int .u8 0,.int .u8 0,.int .u8 0,.int .u8 0,.int .u8 0,.int .u8 0,.int .u8 0,.int .u8 0,.int .u8 0,.int .u8 0,.int .u8 0,.int .u8 0,.int .u8 0] 88 (0,0)) zq2):g3≠g2);clear HB BK1 BK2;have HB:=n0_;have BK1:=n1_;have BK2:=n2_;have BK3:=n3_;have GE3:=n4_;have NE1_3:=n5_;have NE3_1:=n6_;have NE2_3:=n7_;have NE3_2:=n8_;clear n0_ n1_ n2_ n3_ n4_ n5_ n6_ n7_ n8_;clear hb hbox hg)
  | ((with_reducible refine gate_store (t:=88) (p:=3) rfl ?_);refine row_event ?hg (ty:=88) (p:=3) (y:=?yo_11) ?ho ?hn (g:=g3) (old:=#[.int .u8 0,.int .u8 0,.int .u8 0,.int .u8 0,.int .u8 0,.int .u8 0,.int .u8 0,.int .u8 0,.int .u8 0,.int .u8 0,.int .u8 0,.int .u8 0,.int .u8 0,.int .u8 0,.int .u8 0,.int .u8 0]) (e:=88) (cells:=(cB (tab 16 fun _=>0#8))) ?hx ?hy ?hk ?hi ?hd ?h1 ?_;(case ho=>rfl);(case hg=>rfl);(case hn=>rfl);(case hx=>rfl);(case hy=>rfl);(case hk=>exact zq9);(case hi=>rw[cB_size,tab_length];kernel_rfl);(case hd=>exact zq163);(case h1=>exact cB_one _);intro wr_ hbk hgr;have n0_:=zM (below_grown1 zq0 hgr GE3.out);have n1_:=zM (blk_grown1 (g':=g1) (ob:=.cells (cB m) 88 (0,0)) zq4 hgr NE1_3.out);have n2_:=zM (blk_grown1 (g':=g2) (ob:=.cells #[.int .u8 0,.int .u8 0,.int .u8 0,.int .u8 0,.int .u8 0,.int .u8 0,.int .u8 0,.int .u8 0,.int .u8 0,.int .u8 0,.int .u8 0,.int .u8 0,.int .u8 0,.int .u8 0,.int .u8 0,.int .u8 0] 88 (0,0)) zq2 hgr NE2_3.out);have n3_:=zM hbk;clear HB BK1 BK2 BK3;have HB:=n0_;have BK1:=n1_;have BK2:=n2_;have BK3:=n3_;clear n0_ n1_ n2_ n3_;clear hbk hgr))
 go_loopw [8] (fun v8 W=>∃ i:Nat,i≤16∧v8=.int .i64 i∧Aside0 (W.heap[g1]?=some (.cells (cB m) 88 (0,0)))∧Aside0 (W.heap[g2]?=some (.cells #[.int .u8 0,.int .u8 0,.int .u8 0,.int .u8 0,.int .u8 0,.int .u8 0,.int .u8 0,.int .u8 0,.int .u8 0,.int .u8 0,.int .u8 0,.int .u8 0,.int .u8 0,.int .u8 0,.int .u8 0,.int .u8 0] 88 (0,0)))∧Aside0 (W.heap[g3]?=some (.cells (cB (fillL 16 (fun j=>by_ m (j % 4+4*((j / 4+j) % 4))) (fun _=>0#8) i)) 88 (0,0)))∧Aside0 (Below w.heap.size w W)) (fun v8 _=>16 - (intOf v8).toNat)
 case atStart=>exact⟨0,zq8,rfl,BK1,BK2,⟨by rw[fillL_zero];exact BK3.out⟩,HB⟩
 case round=>
  clear BK1 BK2 BK3 HB
  obtain⟨i,hi,rfl,BK1,BK2,BK3,HB⟩:=hrel
  by_cases hl:i < 16
  ·have hlt:=zM hl
   have hb:i % 4+4*((i / 4+i) % 4) < 16:=by omega
   have hc:wr.cell? ⟨g1,i % 4+4*((i / 4+i) % 4),none⟩=some (.int .u8 (bI (by_ m (i % 4+4*((i / 4+i) % 4))))):=by
    rw[blk_cell BK1.out,cB_get _ _ (by rw[hm.out];exact hb)]
   have hq:(wr.cell? ⟨g3,i,none⟩).isSome=true:=by
    rw[blk_cell BK3.out,cB_get _ _ zq156]
    rfl
   obtain⟨old,hold⟩:=Option.isSome_iff_exists.1 hq
   clear hq
   have hf:=blk_frozen BK3.out i
   go_wp2_with (first
    | ((with_reducible refine gate_store (t:=5) (p:=25) rfl ?_);refine cell_event ?hg (t:=5) (p:=25) (v:=?vo_12) ?ho ?hn (i:=i) (x:=(.int .u8 (bI (by_ m (i % 4+4*((i / 4+i) % 4)))))) (cs:=(cB (fillL 16 (fun j=>by_ m (j % 4+4*((j / 4+j) % 4))) (fun _=>0#8) i))) (g:=g3) (e:=88) ?hk ?hr (cs':=(cB (fillL 16 (fun j=>by_ m (j % 4+4*((j / 4+j) % 4))) (fun _=>0#8) (i+1)))) ?hc ?_;(case ho=>rfl);(case hg=>rfl);(case hn=>rfl);(case hk=>exact zq9);(case hr=>first|(go_simp;done)|(go_simp;rfl));(case hc=>rw[cB_set];exact congrArg cB (fillL_set 16 (fun j=>by_ m (j % 4+4*((j / 4+j) % 4))) (fun _=>0#8) i hlt.out));intro wc hbk hgr;have n0_:=zM (below_grown1 zq0 hgr GE3.out);have n1_:=zM (blk_grown1 (g':=g1) (ob:=.cells (cB m) 88 (0,0)) zq4 hgr NE1_3.out);have n2_:=zM (blk_grown1 (g':=g2) (ob:=.cells #[.int .u8 0,.int .u8 0,.int .u8 0,.int .u8 0,.int .u8 0,.int .u8 0,.int .u8 0,.int .u8 0,.int .u8 0,.int .u8 0,.int .u8 0,.int .u8 0,.int .u8 0,.int .u8 0,.int .u8 0,.int .u8 0] 88 (0,0)) zq2 hgr NE2_3.out);have n3_:=zM hbk;clear HB BK1 BK2 BK3;have HB:=n0_;have BK1:=n1_;have BK2:=n2_;have BK3:=n3_;clear n0_ n1_ n2_ n3_;clear hbk hgr))
   go_roundw
   case rel=>exact⟨i+1,zq8,by go_num,BK1,BK2,BK3,HB⟩
   case measure=>simp[intOf];omega
  ·obtain rfl:i=16:=by omega
   rw[show fillL 16 (fun j=>by_ m (j % 4+4*((j / 4+j) % 4))) (fun _=>0#8) 16=shiftL m from (fillL_all _ _ _).trans (tab_congr fun j _=>by rw[show (j / 4+j) % 4=(j / 4+j % 4) % 4 by omega])] at BK3
   go_wp2_with (first
    | ((with_reducible refine gate_dst (N:=27) rfl ?_);refine wpList_load_row ?hg 88 (.tmp 3) ?ho g3 ?hx 88 (cB (shiftL m)) (0,0) _ ?hk Try.underlying88 rfl ?hi ?_;(case hg=>rfl);(case ho=>rfl);(case hx=>rfl);(case hk=>exact zq9);(case hi=>rw[cB_size,shiftL_length];kernel_rfl))
    | ((with_reducible refine gate_store (t:=88) (p:=2) rfl ?_);refine row_event ?hg (ty:=88) (p:=2) (y:=?yo_14) ?ho ?hn (g:=g2) (old:=#[.int .u8 0,.int .u8 0,.int .u8 0,.int .u8 0,.int .u8 0,.int .u8 0,.int .u8 0,.int .u8 0,.int .u8 0,.int .u8 0,.int .u8 0,.int .u8 0,.int .u8 0,.int .u8 0,.int .u8 0,.int .u8 0]) (e:=88) (cells:=(cB (shiftL m))) ?hx ?hy ?hk ?hi ?hd ?h1 ?_;(case ho=>rfl);(case hg=>rfl);(case hn=>rfl);(case hx=>rfl);(case hy=>rfl);(case hk=>exact zq2);(case hi=>rw[cB_size,shiftL_length];kernel_rfl);(case hd=>rw[cB_size,shiftL_length];rfl);(case h1=>exact cB_one _);intro wr_ hbk hgr;have n0_:=zM (below_grown1 zq0 hgr GE2.out);have n1_:=zM (blk_grown1 (g':=g1) (ob:=.cells (cB m) 88 (0,0)) zq4 hgr NE1_2.out);have n2_:=zM (blk_grown1 (g':=g3) (ob:=.cells (cB (shiftL m)) 88 (0,0)) zq9 hgr NE3_2.out);have n3_:=zM hbk;clear HB BK1 BK3 BK2;have HB:=n0_;have BK1:=n1_;have BK3:=n2_;have BK2:=n3_;clear n0_ n1_ n2_ n3_;clear hbk hgr))
   refine bodyPost_ret (results_cell_row rfl _ _ g2 88 (cB (shiftL m)) (0,0) _ rfl zq2 Try.underlying88 rfl (by rw[cB_size,shiftL_length];kernel_rfl)) rfl ?_
   exact⟨rfl,HB.out⟩
end Go.Proofs.Ytdbanjdnjhflcaa.All
