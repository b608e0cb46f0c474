-- Laid by wip/shake.py of this repo out of this claim's texts. Not trusted: Lean checks it.
import Derived.Test.YtdbanjdnjhflcaaAb0s
import Derived.Test.YtdbanjdnjhflcaaAlgs
import Derived.Test.YtdbanjdnjhflcaaAllx32s
set_option linter.unusedSimpArgs false
set_option linter.unusedVariables false
namespace Go.Proofs.Ytdbanjdnjhflcaa.All
open Go.Proofs.YtdbanjdnjhflcaaW.PrintWords.Aside0 renaming mk→zM
open Go.RowKit Go.Proofs.YtdbanjdnjhflcaaW.PrintWords Go.Proofs.YtdbanjdnjhflcaaW.PrintLast Go.Proofs.YtdbanjdnjhflcaaW.PrintMore
attribute [local go_sem] max2_int min2_int max_two min_two max_three min_three max_four min_four
def spec_l3First.f (l0:List Int):Option (List Int):=(spec_l1Copy.f l0).bind fun t153=>((some (([0,0,0,1]:List Int):List Int)).bind fun y156=>(if t153.length+y156.length < 140737488355328 then (some (t153 ++ y156)) else (none)))
set_option maxHeartbeats 8000000 in
set_option maxRecDepth 100000 in
theorem spec_l3First.calls (A0:Option Addr) (c0:Nat) (l0:List Int) (r:List Int) (w:World) (hr0:Kd.C (Kd.int .u8) w A0 l0.length l0) (hc0:l0.length≤c0) (h:spec_l3First.f l0=some r) :
  Calls Try.prog 64 #[.slice A0 l0.length c0] w fun e w'=>∃ v0_:Value,e=.returned (v0_)∧Kd.R (Kd.int .u8) 5 w' w.heap.size (fun _=>True) v0_ r∧Below w.heap.size w w':=by
 have HR0:=zM hr0
 have HC0:=zM hc0
 clear hr0 hc0
 have HB:=zM (Below.refl w.heap.size w)
 have H:((spec_l1Copy.f l0).bind fun t153=>((some (([0,0,0,1]:List Int):List Int)).bind fun y156=>(if t153.length+y156.length < 140737488355328 then (some (t153 ++ y156)) else (none))))=some r:=h
 clear h
 replace H:=Option.bind_eq_some_iff.mp H
 obtain⟨t153,A20,H⟩:=H
 replace H:((some (([0,0,0,1]:List Int):List Int)).bind fun y156=>(if t153.length+y156.length < 140737488355328 then (some (t153 ++ y156)) else (none)))=some r:=H
 have A2:=zM A20
 clear A20
 obtain⟨y156,hy156⟩:∃ y_:List Int,y_=(([0,0,0,1]:List Int)):=⟨_,rfl⟩
 replace H:(if t153.length+y156.length < 140737488355328 then (some (t153 ++ y156)) else (none))=some r:=by first|(rw[hy156];with_reducible exact H)|(have H2_:=(Option.bind_some _ _).symm.trans H;rw[hy156];with_reducible exact H2_)|(have H2_:=(Option.bind_some _ _).symm.trans H;with_reducible exact H2_)|with_reducible exact H|(rw[hy156];exact H)|exact H
 have Ny156:=zM hy156
 clear hy156
 by_cases c3:t153.length+y156.length < 140737488355328
 ·rw[if_pos c3] at H
  have LMc3:=zM c3
  clear c3
  obtain⟨y159,hy159⟩:∃ y_:List Int,y_=(t153 ++ y156):=⟨_,rfl⟩
  replace H:(some y159)=some r:=by first|(rw[hy159];with_reducible exact H)|(have H2_:=(Option.bind_some _ _).symm.trans H;rw[hy159];with_reducible exact H2_)|(have H2_:=(Option.bind_some _ _).symm.trans H;with_reducible exact H2_)|with_reducible exact H|(rw[hy159];exact H)|exact H
  have Ny159:=zM hy159
  clear hy159
  obtain rfl:=Option.some.inj H
  go_enter Try.func64,Try.ntmps64
  go_wp2_with (first|((with_reducible refine gate_callee (f:=42) rfl ?_);refine goesL_ (some 4) rfl rfl Try.func42 (by kernel_rfl) rfl #[.slice A0 l0.length c0] rfl zq1 ?_;(with_reducible refine(spec_l1Copy.calls _ _ l0 t153 _ ?side1 ?side2 A2.out).mono ?_);(case side1=>exact zq74);(case side2=>exact HC0.out);rintro e w4 ⟨v154,rfl,ho0,hb⟩;refine⟨_,rfl,?_⟩;have n0_:=zM (Kd.R_lower ho0 (below_size zq0));have n1_:=zM (below_step zq0 hb);clear HB;have HO155:=n0_;have HB:=n1_;clear n0_ n1_;(try clear hb);(try clear hb2);(try clear hk);(try clear hi);(try clear ho0))|((with_reducible refine gate_dst (N:=5) rfl ?_);refine Kd.R_lit (Kd.int .u8) _ 5 ?hg (N:=5) ?hd (xs:=([0,0,0,1]:List Int)) (inner:=[.int .u8 0,.int .u8 0,.int .u8 0,.int .u8 1]) (ok:=fun _=>True) (okp:=fun _=>True) ?hr ?hp (fun _ hk=>hk) trivial (Below.refl _ _) (Nat.le_refl _) zq73 ?_;(case hd=>rfl);(case hg=>rfl);(case hr=>first|(go_simp;done)|(go_simp;rfl));(case hp=>exact(Reps.one (show Kd.M (Kd.int .u8) _ _ _ 0 [.int .u8 0] from rfl) (Reps.one (show Kd.M (Kd.int .u8) _ _ _ 0 [.int .u8 0] from rfl) (Reps.one (show Kd.M (Kd.int .u8) _ _ _ 0 [.int .u8 0] from rfl) (Reps.one (show Kd.M (Kd.int .u8) _ _ _ 1 [.int .u8 1] from rfl) (Reps.none _ _))))));intro v157 w5 ho6 hb hg_ hnew_;clear hg_ hnew_;(first|rw[← Ny156.out] at ho6|(simp only[Int.reduceToNat] at ho6;rw[← Ny156.out] at ho6));have n0_:=zM (Kd.R_elder' zq166 (Kd.R_base ho6) hb);have n1_:=zM (Kd.R_lower (Kd.R_new' ho6 (Kd.R_lt zq166)) (below_size zq0));have n2_:=zM (below_step zq0 hb);clear HO155;clear HB;have HO155:=n0_;have HO158:=n1_;have HB:=n2_;clear n0_ n1_ n2_;clear hb ho6;obtain⟨Ao8,co8,eo8⟩:=Kd.R_slice HO158.out;subst eo8)|((with_reducible refine gate_builtin (b:=.append) (xs:=#[.tmp 4,.tmp 5]) rfl ?_);at_builtin;refine Kd.R_append_rows (Kd.int .u8) (w0:=w) w.heap.size rfl (.tmp 4) (.tmp 5) 25 5 (.int .u8 0) 1 rfl Try.underlying25 info5 rfl zq36 zq8 v154 t153 y156 _ _ _ (fun k_=>some k_≠(.slice Ao8 y156.length co8:Value).ownBlock) (fun _=>False) rfl rfl ?aO ?aR (fun _ _ h=>h) (fun _ h=>h.elim) ?aF ?aB ?aS ?aL ?_;(case aR=>repeat (first|exact(Kd.R_reads' HO158.out).2.2|(with_reducible refine Kd.C_alloc ?_ _)|(with_reducible refine Kd.C_drewN ?_ _)|(with_reducible refine Kd.C_drew ?_)));(case aB=>exact zq0);(case aF=>exact(fun k_ hk=>Kd.fresh' (Kd.R_lt zq167) k_ hk));(case aO=>exact(by(with_reducible repeat (first|apply Kd.R_alloc|apply Kd.R_drewN|apply Kd.R_drew));exact Kd.R_mono HO155.out (fun _ hk=>hk.2)));(case aS=>exact(below_size zq0));(case aL=>have:=LMc3.out;omega);intro v160 w7 ho hb hg hat;rw[← Ny159.out] at ho;have n0_:=zM (Kd.R_after (ok:=(fun _=>True)) zq167 hg hat);have n1_:=zM (hb);have n2_:=zM (ho);clear HO158;clear HB;clear HO155;have HO158:=n0_;have HB:=n1_;have HO161:=n2_;clear n0_ n1_ n2_;clear ho hb hg hat))
  go_ret
  exact⟨_,zq3,by(with_reducible repeat (first|apply Kd.R_alloc|apply Kd.R_drewN|apply Kd.R_drew));exact Kd.R_mono HO161.out (fun _ hk=>trivial),zq0⟩
 ·rw[if_neg c3] at H
  exact absurd H zq73
def spec_l3Whole.l0:Nat→List Int→Option (List Int)
 | 0,_=>none
 | k+1,x3=>if ((x3.length:Int) % 16)=0 then (some x3) else (if x3.length < 140737488355328 then (spec_l3Whole.l0 k (x3 ++ [0])) else (none))
def spec_l3Whole.f (k:Nat) (l0:List Int):Option (List Int):=(spec_l1Copy.f l0).bind fun t162=>(spec_l3Whole.l0 k t162)
theorem spec_l3Whole.mono_l:∀ k,(∀ y0,LeO (spec_l3Whole.l0 k y0) (spec_l3Whole.l0 (k+1) y0))
 | 0=>fun _ r h=>by simp[spec_l3Whole.l0] at h
 | k+1=>by
  have ih0:=spec_l3Whole.mono_l k
  ·intro y0
   unfold spec_l3Whole.l0
   repeat' first
   | (with_reducible exact ih0 _)
   | (with_reducible exact LeO.refl _)
   | (with_reducible exact LeO.none _)
   | (with_reducible refine LeO.ite ?_ ?_)
   | (with_reducible refine LeO.bind ?_ (fun _=>?_))
   | exact ih0 _
   | exact LeO.none _
   | refine LeO.ite ?_ ?_
   | refine LeO.bind ?_ (fun _=>?_)
theorem spec_l3Whole.mono:∀ a0 k,LeO (spec_l3Whole.f k a0) (spec_l3Whole.f (k+1) a0):=by
 intro a0 k
 have ih0:=spec_l3Whole.mono_l k
 unfold spec_l3Whole.f
 repeat' first
   | (with_reducible exact ih0 _)
   | (with_reducible exact LeO.refl _)
   | (with_reducible exact LeO.none _)
   | (with_reducible refine LeO.ite ?_ ?_)
   | (with_reducible refine LeO.bind ?_ (fun _=>?_))
   | exact ih0 _
   | exact LeO.none _
   | refine LeO.ite ?_ ?_
   | refine LeO.bind ?_ (fun _=>?_)
set_option maxHeartbeats 8000000 in
set_option maxRecDepth 100000 in
theorem spec_l3Whole.calls (k:Nat) (A0:Option Addr) (c0:Nat) (l0:List Int) (r:List Int) (w:World) (hr0:Kd.C (Kd.int .u8) w A0 l0.length l0) (hc0:l0.length≤c0) (h:spec_l3Whole.f k l0=some r) :
  Calls Try.prog 77 #[.slice A0 l0.length c0] w fun e w'=>∃ v0_:Value,e=.returned (v0_)∧Kd.R (Kd.int .u8) 5 w' w.heap.size (fun _=>True) v0_ r∧Below w.heap.size w w':=by
 have HR0:=zM hr0
 have HC0:=zM hc0
 clear hr0 hc0
 have HB:=zM (Below.refl w.heap.size w)
 have H:((spec_l1Copy.f l0).bind fun t162=>(spec_l3Whole.l0 k t162))=some r:=h
 clear h
 replace H:=Option.bind_eq_some_iff.mp H
 obtain⟨t162,A20,H⟩:=H
 replace H:(spec_l3Whole.l0 k t162)=some r:=H
 have A2:=zM A20
 clear A20
 have H':=zM H
 clear H
 go_enter Try.func77,Try.ntmps77
 go_wp2_with (first|((with_reducible refine gate_callee (f:=42) rfl ?_);refine goesL_ (some 5) rfl rfl Try.func42 (by kernel_rfl) rfl #[.slice A0 l0.length c0] rfl zq1 ?_;(with_reducible refine(spec_l1Copy.calls _ _ l0 t162 _ ?side1 ?side2 A2.out).mono ?_);(case side1=>exact zq74);(case side2=>exact HC0.out);rintro e w3 ⟨v163,rfl,ho0,hb⟩;refine⟨_,rfl,?_⟩;have n0_:=zM (Kd.R_lower ho0 (below_size zq0));have n1_:=zM (below_step zq0 hb);clear HB;have HO164:=n0_;have HB:=n1_;clear n0_ n1_;(try clear hb);(try clear hb2);(try clear hk);(try clear hi);(try clear ho0)))
 go_loopg [3] k (fun kq v3 w'=>∃ (x3_1:List Int),Aside0 (spec_l3Whole.l0 kq x3_1=some r)∧Aside0 (kq≤k)∧Aside0 (Kd.R (Kd.int .u8) 5 w' w.heap.size (fun _=>True) v3 x3_1)∧Aside0 (Below w.heap.size w w'))
 case atStart=>exact⟨(t162),H',⟨Nat.le_refl _⟩,⟨by(with_reducible repeat (first|apply Kd.R_alloc|apply Kd.R_drewN|apply Kd.R_drew));exact HO164.out⟩,⟨zq0⟩⟩
 case round=>
  clear H'
  try clear p2
  obtain⟨x3_1,HA,HK1,HO_3,HB⟩:=hrel
  cases gk with
  | zero=>exact absurd HA.out (by simp[spec_l3Whole.l0])
  | succ k1=>
   have H:=HA.out
   clear HA
   simp only[spec_l3Whole.l0] at H
   by_cases c4:((x3_1.length:Int) % 16)=0
   ·rw[if_pos c4] at H
    have c4b0:(((x3_1.length:Int) % 16) == 0)=true:=beq_iff_eq.mpr c4
    have c4b1:(((x3_1.length:Int) % 16) != 0)=false:=bne_eq_false_iff_eq.mpr c4
    clear c4
    obtain rfl:=Option.some.inj H
    obtain⟨Ao5,co5,eo5⟩:=Kd.R_slice HO_3.out
    subst eo5
    go_wp2
    go_ret
    exact⟨_,zq3,zq138,zq0⟩
   ·rw[if_neg c4] at H
    have c4b0:(((x3_1.length:Int) % 16) == 0)=false:=beq_eq_false_iff_ne.mpr c4
    have c4b1:(((x3_1.length:Int) % 16) != 0)=true:=bne_iff_ne.mpr c4
    by_cases c6:x3_1.length < 140737488355328
    ·rw[if_pos c6] at H
     have LMc6:=zM c6
     clear c6
     obtain⟨y165,hy165⟩:∃ y_:List Int,y_=(x3_1 ++ [0]):=⟨_,rfl⟩
     replace H:(spec_l3Whole.l0 k1 y165)=some r:=by first|(rw[hy165];with_reducible exact H)|(have H2_:=(Option.bind_some _ _).symm.trans H;rw[hy165];with_reducible exact H2_)|(have H2_:=(Option.bind_some _ _).symm.trans H;with_reducible exact H2_)|with_reducible exact H|(rw[hy165];exact H)|exact H
     have Ny165:=zM hy165
     clear hy165
     have H':=zM H
     clear H
     obtain⟨Ao7,co7,eo7⟩:=Kd.R_slice HO_3.out
     subst eo7
     go_wp2_with (first|((with_reducible refine gate_builtin (b:=.append) (xs:=#[.tmp 10,.tmp 11]) rfl ?_);at_builtin;refine Kd.R_append (Kd.int .u8) (w0:=w) w.heap.size rfl (.tmp 10) (.tmp 11) 25 5 (.int .u8 0) 1 rfl Try.underlying25 info5 rfl zq36 zq8 (.slice Ao7 x3_1.length co7) x3_1 0 [.int .u8 0] (fun _=>True) (fun _=>False) rfl rfl ?aP (fun _ hk=>hk.elim) ?aF ?aO ?aB ?aS ?aL ?_;(case aP=>exact rfl);(case aB=>exact zq0);(case aF=>exact(fun _ _=>trivial));(case aO=>exact(by(with_reducible repeat (first|apply Kd.R_alloc|apply Kd.R_drewN|apply Kd.R_drew));exact HO_3.out));(case aS=>exact(below_size zq0));(case aL=>have:=LMc6.out;omega);intro v166 w8 ho hb hg hat;rw[← Ny165.out] at ho;have n0_:=zM (hb);have n1_:=zM (ho);clear HB;clear HO_3;have HB:=n0_;have HO167:=n1_;clear n0_ n1_;clear ho hb hg hat))
     go_roundg k1
     case measure=>have:=HK1.out;omega
     case rel=>exact⟨(y165),H',⟨zq79⟩,⟨by(with_reducible repeat (first|apply Kd.R_alloc|apply Kd.R_drewN|apply Kd.R_drew));exact HO167.out⟩,⟨zq0⟩⟩
    ·rw[if_neg c6] at H
     exact absurd H zq73
def spec_l1Xor.l0:Nat→List Int→List Int→List Int→Int→Option (List Int)
 | 0,_,_,_,_=>none
 | k+1,x0,x1,x5,x6=>if x6 < (x0.length:Int) then (if 0≤x6 then (if x6 < (x1.length:Int) then (if x5.length < 140737488355328 then (spec_l1Xor.l0 k x0 x1 (x5 ++ [Go.bits .xor .u8 (rd x0 x6) (rd x1 x6)]) (wrap64 (x6+1))) else (none)) else (none)) else (none)) else (some x5)
def spec_l1Xor.f (k:Nat) (l0:List Int) (l1:List Int):Option (List Int):=spec_l1Xor.l0 k l0 l1 (([]:List Int)) 0
theorem spec_l1Xor.mono_l:∀ k,(∀ y0 y1 y2 y3,LeO (spec_l1Xor.l0 k y0 y1 y2 y3) (spec_l1Xor.l0 (k+1) y0 y1 y2 y3))
 | 0=>fun _ _ _ _ r h=>by simp[spec_l1Xor.l0] at h
 | k+1=>by
  have ih0:=spec_l1Xor.mono_l k
  ·intro y0 y1 y2 y3
   unfold spec_l1Xor.l0
   repeat' first
   | (with_reducible exact ih0 _ _ _ _)
   | (with_reducible exact LeO.refl _)
   | (with_reducible exact LeO.none _)
   | (with_reducible refine LeO.ite ?_ ?_)
   | (with_reducible refine LeO.bind ?_ (fun _=>?_))
   | exact ih0 _ _ _ _
   | exact LeO.none _
   | refine LeO.ite ?_ ?_
   | refine LeO.bind ?_ (fun _=>?_)
theorem spec_l1Xor.mono:∀ a0 a1 k,LeO (spec_l1Xor.f k a0 a1) (spec_l1Xor.f (k+1) a0 a1):=by
 intro a0 a1 k
 have ih0:=spec_l1Xor.mono_l k
 unfold spec_l1Xor.f
 repeat' first
   | (with_reducible exact ih0 _ _ _ _)
   | (with_reducible exact LeO.refl _)
   | (with_reducible exact LeO.none _)
   | (with_reducible refine LeO.ite ?_ ?_)
   | (with_reducible refine LeO.bind ?_ (fun _=>?_))
   | exact ih0 _ _ _ _
   | exact LeO.none _
   | refine LeO.ite ?_ ?_
   | refine LeO.bind ?_ (fun _=>?_)
def spec_l1Xor.T5:Bool × List (List Nat × List Nat):=(true,[([],[]),([],[]),([],[]),([1,2],[1,2]),([3],[3]),([],[]),([],[]),([5,6],[5,6]),([7],[7]),([4,8],[4,8]),([9],[9]),([0,10],[0,10]),([11,11,0,1,2,3,4,5,6,7,8,9,10,11],[0,11])])
def spec_l1Xor.B5:List Nat:=[0,0,0,6,14,0,0,96,224,510,1022,2047,4095]
theorem spec_l1Xor.tab5:rtab .any (opsOf Try.f78 5)=spec_l1Xor.T5:=by kernel_rfl
theorem spec_l1Xor.bits5:waitsOk spec_l1Xor.T5.2 spec_l1Xor.B5=true:=by kernel_rfl
set_option maxHeartbeats 8000000 in
set_option maxRecDepth 100000 in
theorem spec_l1Xor.calls (k:Nat) (A0:Option Addr) (c0:Nat) (l0:List Int) (A1:Option Addr) (c1:Nat) (l1:List Int) (r:List Int) (w:World) (hr0:Kd.C (Kd.int .u8) w A0 l0.length l0) (hc0:l0.length≤c0) (hr1:Kd.C (Kd.int .u8) w A1 l1.length l1) (hc1:l1.length≤c1) (h:spec_l1Xor.f k l0 l1=some r) :
  Calls Try.prog 78 #[.slice A0 l0.length c0,.slice A1 l1.length c1] w fun e w'=>∃ v0_:Value,e=.returned (v0_)∧Kd.R (Kd.int .u8) 5 w' w.heap.size (fun _=>True) v0_ r∧Below w.heap.size w w':=by
 have HR0:=zM hr0
 have HC0:=zM hc0
 clear hr0 hc0
 have HR1:=zM hr1
 have HC1:=zM hc1
 clear hr1 hc1
 have HB:=zM (Below.refl w.heap.size w)
 have H:(spec_l1Xor.l0 k l0 l1 (([]:List Int)) 0)=some r:=h
 clear h
 obtain⟨y168,hy168⟩:∃ y_:List Int,y_=(([]:List Int)):=⟨_,rfl⟩
 replace H:(spec_l1Xor.l0 k l0 l1 y168 0)=some r:=by first|(rw[hy168];with_reducible exact H)|(have H2_:=(Option.bind_some _ _).symm.trans H;rw[hy168];with_reducible exact H2_)|(have H2_:=(Option.bind_some _ _).symm.trans H;with_reducible exact H2_)|with_reducible exact H|(rw[hy168];exact H)|exact H
 have Ny168:=zM hy168
 clear hy168
 have H':=zM H
 clear H
 go_enter Try.func78,Try.ntmps78
 go_wp2_with (first|((with_reducible refine gate_dst (N:=7) rfl ?_);refine Kd.R_lit (Kd.int .u8) _ 5 ?hg (N:=7) ?hd (xs:=([]:List Int)) (inner:=[]) (ok:=fun _=>True) (okp:=fun _=>True) ?hr ?hp (fun _ hk=>hk) trivial (Below.refl _ _) (Nat.le_refl _) zq73 ?_;(case hd=>rfl);(case hg=>rfl);(case hr=>first|(go_simp;done)|(go_simp;rfl));(case hp=>exact(Reps.none _ _));intro v169 w3 ho4 hb hg_ hnew_;clear hg_ hnew_;(first|rw[← Ny168.out] at ho4|(simp only[Int.reduceToNat] at ho4;rw[← Ny168.out] at ho4));have n0_:=zM (Kd.R_lower ho4 (below_size zq0));have n1_:=zM (below_step zq0 hb);clear HB;have HO170:=n0_;have HB:=n1_;clear n0_ n1_;clear hb ho4))
 go_loopg [5,6] k (fun kq v5 v6 w'=>∃ (x5_1:List Int) (x6_1:Int),v6=.int .i64 x6_1∧Aside0 (spec_l1Xor.l0 kq l0 l1 x5_1 x6_1=some r)∧Aside0 (kq≤k)∧Aside0 (Kd.R (Kd.int .u8) 5 w' w.heap.size (fun _=>True) v5 x5_1)∧Aside0 (Below w.heap.size w w'))
 case atStart=>exact⟨(y168),(0),zq7,H',⟨Nat.le_refl _⟩,⟨by(with_reducible repeat (first|apply Kd.R_alloc|apply Kd.R_drewN|apply Kd.R_drew));exact HO170.out⟩,⟨zq0⟩⟩
 case round=>
  clear H'
  try clear c1
  try clear p2
  obtain⟨x5_1,x6_1,rfl,HA,HK1,HO_5,HB⟩:=hrel
  cases gk with
  | zero=>exact absurd HA.out (by simp[spec_l1Xor.l0])
  | succ k1=>
   have H:=HA.out
   clear HA
   simp only[spec_l1Xor.l0] at H
   by_cases c5:x6_1 < (l0.length:Int)
   ·rw[if_pos c5] at H
    have c5b0:decide (x6_1 < (l0.length:Int))=true:=decide_eq_true c5
    clear c5
    by_cases c6:0≤x6_1
    ·rw[if_pos c6] at H
     have c6b0:decide (0≤x6_1)=true:=decide_eq_true c6
     clear c6
     by_cases c7:x6_1 < (l1.length:Int)
     ·rw[if_pos c7] at H
      have c7b0:decide (x6_1 < (l1.length:Int))=true:=decide_eq_true c7
      clear c7
      by_cases c8:x5_1.length < 140737488355328
      ·rw[if_pos c8] at H
       have LMc8:=zM c8
       clear c8
       obtain⟨y173,hy173⟩:∃ y_:List Int,y_=(x5_1 ++ [Go.bits .xor .u8 (rd l0 x6_1) (rd l1 x6_1)]):=⟨_,rfl⟩
       replace H:(spec_l1Xor.l0 k1 l0 l1 y173 (wrap64 (x6_1+1)))=some r:=by first|(rw[hy173];with_reducible exact H)|(have H2_:=(Option.bind_some _ _).symm.trans H;rw[hy173];with_reducible exact H2_)|(have H2_:=(Option.bind_some _ _).symm.trans H;with_reducible exact H2_)|with_reducible exact H|(rw[hy173];exact H)|exact H
       have Ny173:=zM hy173
       clear hy173
       have H':=zM H
       clear H
       try go_wp2
       have n0_:=zM (Kd.R_drew HO_5.out)
       have n1_:=zM (below_drew1 HB.out)
       clear HO_5
       clear HB
       have HO_5:=n0_
       have HB:=n1_
       clear n0_ n1_
       have p171:0≤(x6_1:Int):=of_decide_eq_true zq6
       have q171:x6_1 < (l0.length:Int):=of_decide_eq_true zq6
       obtain⟨ad171,e171,hx171_0⟩:=Kd.at_int HR0.out x6_1 p171 q171
       have hw171_0:=hx171_0
       cases e171
       replace hx171_0:=(HB.out.cell (World.block_lt_of_cell? w _ hx171_0)).trans hx171_0
       replace p171:=eq_true p171
       replace q171:=eq_true q171
       have p172:0≤(x6_1:Int):=of_decide_eq_true zq6
       have q172:x6_1 < (l1.length:Int):=of_decide_eq_true zq6
       obtain⟨ad172,e172,hx172_0⟩:=Kd.at_int HR1.out x6_1 p172 q172
       have hw172_0:=hx172_0
       cases e172
       replace hx172_0:=(HB.out.cell (World.block_lt_of_cell? w _ hx172_0)).trans hx172_0
       replace p172:=eq_true p172
       replace q172:=eq_true q172
       refine start_ (n:=13) (S:=fun w'=>w'.cell? (ad171.add (x6_1).toNat)=some (.int .u8 (rd l0 x6_1))∧w'.cell? (ad172.add (x6_1).toNat)=some (.int .u8 (rd l1 x6_1))) (ds:=[]) #[false,false,false,false,false,false,false,false,false,false,false,false,false] (by kernel_rfl) rfl rfl ⟨((HB.out.cell (World.block_lt_of_cell? w _ hw171_0)).trans hw171_0),((HB.out.cell (World.block_lt_of_cell? w _ hw172_0)).trans hw172_0)⟩ (fun hHeld=>?_);refine with_tabW spec_l1Xor.tab5 spec_l1Xor.bits5 (fun HT_ HW_=>?_)
       generalize wr.drew=w9 at HO_5 HB hx171_0 hx172_0 hHeld ⊢
       refine pure_ (i:=0) (N:=some 14) (v:=?_) (a':=?_) #[true,false,false,false,false,false,false,false,false,false,false,false,false] rfl rfl (any_of HT_.out (by kernel_rfl)) (fun _ _ _ h=>h) (Or.inl ⟨zq125,?_⟩) ?_ ?_
       rotate_left
       ·intro w'
        go_simp
        with_reducible rfl
       rotate_left
       ·simp only[Act.put,List.setIfInBounds_toArray,List.set_cons_zero,List.set_cons_succ,i64_w,i32_w]
        rfl
       refine pure_ (i:=1) (N:=some 15) (v:=?_) (a':=?_) #[true,true,false,false,false,false,false,false,false,false,false,false,false] rfl rfl (any_of HT_.out (by kernel_rfl)) (fun _ _ _ h=>h) (Or.inl ⟨zq125,?_⟩) ?_ ?_
       rotate_left
       ·intro w'
        go_simp
        with_reducible rfl
       rotate_left
       ·simp only[Act.put,List.setIfInBounds_toArray,List.set_cons_zero,List.set_cons_succ,i64_w,i32_w]
        rfl
       refine pure_ (i:=2) (N:=some 16) (v:=?_) (a':=?_) #[true,true,true,false,false,false,false,false,false,false,false,false,false] rfl rfl (any_of HT_.out (by kernel_rfl)) (fun _ _ _ h=>h) (Or.inl ⟨zq125,?_⟩) ?_ ?_
       rotate_left
       ·intro w'
        go_simp
        with_reducible rfl
       rotate_left
       ·simp only[Act.put,List.setIfInBounds_toArray,List.set_cons_zero,List.set_cons_succ,i64_w,i32_w]
        rfl
       refine pure_ (i:=3) (N:=some 17) (v:=?_) (a':=?_) #[true,true,true,true,false,false,false,false,false,false,false,false,false] rfl rfl (any_of HT_.out (by kernel_rfl)) (fun _ _ _ h=>h) (Or.inl ⟨zq125,?_⟩) ?_ ?_
       rotate_left
       ·intro w'
        go_simp
        with_reducible rfl
       rotate_left
       ·simp only[Act.put,List.setIfInBounds_toArray,List.set_cons_zero,List.set_cons_succ,i64_w,i32_w]
        rfl
       refine pure_ (i:=5) (N:=some 19) (v:=?_) (a':=?_) #[true,true,true,true,false,true,false,false,false,false,false,false,false] rfl rfl (any_of HT_.out (by kernel_rfl)) (fun _ _ _ h=>h) (Or.inl ⟨zq125,?_⟩) ?_ ?_
       rotate_left
       ·intro w'
        go_simp
        with_reducible rfl
       rotate_left
       ·simp only[Act.put,List.setIfInBounds_toArray,List.set_cons_zero,List.set_cons_succ,i64_w,i32_w]
        rfl
       refine pure_ (i:=6) (N:=some 20) (v:=?_) (a':=?_) #[true,true,true,true,false,true,true,false,false,false,false,false,false] rfl rfl (any_of HT_.out (by kernel_rfl)) (fun _ _ _ h=>h) (Or.inl ⟨zq125,?_⟩) ?_ ?_
       rotate_left
       ·intro w'
        go_simp
        with_reducible rfl
       rotate_left
       ·simp only[Act.put,List.setIfInBounds_toArray,List.set_cons_zero,List.set_cons_succ,i64_w,i32_w]
        rfl
       refine pure_ (i:=7) (N:=some 21) (v:=?_) (a':=?_) #[true,true,true,true,false,true,true,true,false,false,false,false,false] rfl rfl (any_of HT_.out (by kernel_rfl)) (fun _ _ _ h=>h) (Or.inl ⟨zq125,?_⟩) ?_ ?_
       rotate_left
       ·intro w'
        go_simp
        with_reducible rfl
       rotate_left
       ·simp only[Act.put,List.setIfInBounds_toArray,List.set_cons_zero,List.set_cons_succ,i64_w,i32_w]
        rfl
       refine take_ (i:=4) (N:=some 18) (v:=?_) (a':=?_) #[true,true,true,true,true,true,true,true,false,false,false,false,false] rfl rfl (take_ofW HT_.out HW_.out (by kernel_rfl)) (fun _ _ _ h=>h) (Or.inl ⟨zq125,?_⟩) hHeld ?_ ?_
       rotate_left
       ·rintro w' ⟨s0,s1⟩
        go_simp
        with_reducible rfl
       rotate_left
       ·simp only[Act.put,List.setIfInBounds_toArray,List.set_cons_zero,List.set_cons_succ,i64_w,i32_w]
        rfl
       refine take_ (i:=8) (N:=some 22) (v:=?_) (a':=?_) #[true,true,true,true,true,true,true,true,true,false,false,false,false] rfl rfl (take_ofW HT_.out HW_.out (by kernel_rfl)) (fun _ _ _ h=>h) (Or.inl ⟨zq125,?_⟩) hHeld ?_ ?_
       rotate_left
       ·rintro w' ⟨s0,s1⟩
        go_simp
        with_reducible rfl
       rotate_left
       ·simp only[Act.put,List.setIfInBounds_toArray,List.set_cons_zero,List.set_cons_succ,i64_w,i32_w]
        rfl
       refine pure_ (i:=9) (N:=some 23) (v:=?_) (a':=?_) #[true,true,true,true,true,true,true,true,true,true,false,false,false] rfl rfl (any_of HT_.out (by kernel_rfl)) (fun _ _ _ h=>h) (Or.inl ⟨zq125,?_⟩) ?_ ?_
       rotate_left
       ·intro w'
        go_simp
        with_reducible rfl
       rotate_left
       ·simp only[Act.put,List.setIfInBounds_toArray,List.set_cons_zero,List.set_cons_succ,i64_w,i32_w]
        rfl
       refine one_ (i:=10) (N:=some 24) #[true,true,true,true,true,true,true,true,true,true,true,false,false] rfl rfl (one_of HT_.out (by kernel_rfl)) zq36 (fun K hK=>?_)
       refine value_ (w1:=?_) (v:=?_) zq125 rfl ?_ ?_
       rotate_left 2
       ·go_simp
        constructor
        ·rfl
        ·rfl
       refine hK.out _ _ ⟨(World.cell?_alloc_lt _ _ _ (World.block_lt_of_cell? _ _ (((HB.out.cell (World.block_lt_of_cell? w _ hw171_0)).trans hw171_0)))).trans (((HB.out.cell (World.block_lt_of_cell? w _ hw171_0)).trans hw171_0)),(World.cell?_alloc_lt _ _ _ (World.block_lt_of_cell? _ _ (((HB.out.cell (World.block_lt_of_cell? w _ hw172_0)).trans hw172_0)))).trans (((HB.out.cell (World.block_lt_of_cell? w _ hw172_0)).trans hw172_0))⟩ (fun hHeld=>?_)
       clear hK K
       refine norm_ (a':=?_) ?_ ?_
       rotate_left
       ·show Act.put _ (some 24) _=_
        simp only[Act.put,List.setIfInBounds_toArray,List.set_cons_zero,List.set_cons_succ,i64_w,i32_w]
        rfl
       refine one_ (i:=11) (N:=some 25) #[true,true,true,true,true,true,true,true,true,true,true,true,false] rfl rfl (one_of HT_.out (by kernel_rfl)) zq36 (fun K hK=>?_)
       refine Kd.R_append_step (Kd.int .u8) (w0:=w) w.heap.size zq125 (.tmp 14) (.tmp 24) 25 5 (.int .u8 0) 1 rfl Try.underlying25 info5 rfl zq36 zq8 u5 x5_1 (Go.bits .xor .u8 (rd l0 x6_1) (rd l1 x6_1)) [.int .u8 (Go.bits .xor .u8 (rd l0 x6_1) (rd l1 x6_1))] (fun _=>True) (fun _=>False) rfl rfl ?aP (fun _ hk=>hk.elim) ?aF ?aO ?aB ?aS ?aL ?_
       (case aP=>exact rfl)
       (case aB=>exact zq0)
       (case aF=>exact(fun _ _=>trivial))
       (case aO=>exact zq61)
       (case aS=>exact(below_size zq0))
       (case aL=>have:=LMc8.out;omega)
       intro v174 w10 ho hb hg hat
       rw[← Ny173.out] at ho
       have n0_:=zM (hb)
       have n1_:=zM (ho)
       clear HB
       clear HO_5
       have HB:=n0_
       have HO175:=n1_
       clear n0_ n1_
       clear ho hb hg hat
       refine hK.out _ _ ⟨((HB.out.cell (World.block_lt_of_cell? w _ hw171_0)).trans hw171_0),((HB.out.cell (World.block_lt_of_cell? w _ hw172_0)).trans hw172_0)⟩ (fun hHeld=>?_)
       clear hK K
       refine norm_ (a':=?_) ?_ ?_
       rotate_left
       ·show Act.put _ (some 25) _=_
        simp only[Act.put,List.setIfInBounds_toArray,List.set_cons_zero,List.set_cons_succ,i64_w,i32_w]
        rfl
       refine pure_ (i:=12) (N:=some 5) (v:=?_) (a':=?_) #[true,true,true,true,true,true,true,true,true,true,true,true,true] rfl rfl (any_of HT_.out (by kernel_rfl)) (fun _ _ _ h=>h) (Or.inl ⟨zq125,?_⟩) ?_ ?_
       rotate_left
       ·intro w'
        go_simp
        with_reducible rfl
       rotate_left
       ·simp only[Act.put,List.setIfInBounds_toArray,List.set_cons_zero,List.set_cons_succ,i64_w,i32_w]
        rfl
       refine done_ (done_of HT_.out (by kernel_rfl)) ?_
       try go_wp2
       go_roundg k1
       case measure=>have:=HK1.out;omega
       case rel=>exact⟨(y173),(wrap64 (x6_1+1)),zq7,H',⟨zq79⟩,⟨by(with_reducible repeat (first|apply Kd.R_alloc|apply Kd.R_drewN|apply Kd.R_drew));exact HO175.out⟩,⟨zq0⟩⟩
      ·rw[if_neg c8] at H
       exact absurd H zq73
     ·rw[if_neg c7] at H
      exact absurd H zq73
    ·rw[if_neg c6] at H
     exact absurd H zq73
   ·rw[if_neg c5] at H
    have c5b0:decide (x6_1 < (l0.length:Int))=false:=decide_eq_false c5
    clear c5
    obtain rfl:=Option.some.inj H
    go_wp2
    go_ret
    exact⟨_,zq3,zq61,zq0⟩
def spec_l3Half.l0:Nat→List Int→Int→Int→Option (Int)
 | 0,_,_,_=>none
 | k+1,x0,x3,x4=>if x4 < 8 then (if 0≤x4 then (if x4 < (x0.length:Int) then (spec_l3Half.l0 k x0 (IntKind.u64.wrap ((IntKind.u64.wrap (x3*256))+(IntKind.u64.wrap (rd x0 x4)))) (wrap64 (x4+1))) else (none)) else (none)) else (some x3)
def spec_l3Half.f (k:Nat) (l0:List Int):Option (Int):=spec_l3Half.l0 k l0 0 0
theorem spec_l3Half.mono_l:∀ k,(∀ y0 y1 y2,LeO (spec_l3Half.l0 k y0 y1 y2) (spec_l3Half.l0 (k+1) y0 y1 y2))
 | 0=>fun _ _ _ r h=>by simp[spec_l3Half.l0] at h
 | k+1=>by
  have ih0:=spec_l3Half.mono_l k
  ·intro y0 y1 y2
   unfold spec_l3Half.l0
   repeat' first
   | (with_reducible exact ih0 _ _ _)
   | (with_reducible exact LeO.refl _)
   | (with_reducible exact LeO.none _)
   | (with_reducible refine LeO.ite ?_ ?_)
   | (with_reducible refine LeO.bind ?_ (fun _=>?_))
   | exact ih0 _ _ _
   | exact LeO.none _
   | refine LeO.ite ?_ ?_
   | refine LeO.bind ?_ (fun _=>?_)
theorem spec_l3Half.mono:∀ a0 k,LeO (spec_l3Half.f k a0) (spec_l3Half.f (k+1) a0):=by
 intro a0 k
 have ih0:=spec_l3Half.mono_l k
 unfold spec_l3Half.f
 repeat' first
   | (with_reducible exact ih0 _ _ _)
   | (with_reducible exact LeO.refl _)
   | (with_reducible exact LeO.none _)
   | (with_reducible refine LeO.ite ?_ ?_)
   | (with_reducible refine LeO.bind ?_ (fun _=>?_))
   | exact ih0 _ _ _
   | exact LeO.none _
   | refine LeO.ite ?_ ?_
   | refine LeO.bind ?_ (fun _=>?_)
set_option maxHeartbeats 8000000 in
set_option maxRecDepth 100000 in
theorem spec_l3Half.calls (k:Nat) (A0:Option Addr) (c0:Nat) (l0:List Int) (r:Int) (w:World) (hr0:Kd.C (Kd.int .u8) w A0 l0.length l0) (hc0:l0.length≤c0) (h:spec_l3Half.f k l0=some r) :
  Calls Try.prog 93 #[.slice A0 l0.length c0] w fun e w'=>e=.returned (.int .u64 r)∧Drawn0 w w':=by
 have HR0:=zM hr0
 have HC0:=zM hc0
 clear hr0 hc0
 have H:(spec_l3Half.l0 k l0 0 0)=some r:=h
 clear h
 have H':=zM H
 clear H
 go_enter Try.func93,Try.ntmps93
 go_wp2
 go_loopg [3,4] k (fun kq v3 v4 w'=>∃ (x3_1:Int) (x4_1:Int),v3=.int .u64 x3_1∧v4=.int .i64 x4_1∧Aside0 (spec_l3Half.l0 kq l0 x3_1 x4_1=some r)∧Aside0 (kq≤k)∧Drawn0 w w')
 case atStart=>exact⟨(0),(0),zq7,zq7,H',⟨Nat.le_refl _⟩,zq25⟩
 case round=>
  clear H'
  obtain⟨x3_1,x4_1,rfl,rfl,HA,HK1,⟨m1,rfl⟩⟩:=hrel
  cases gk with
  | zero=>exact absurd HA.out (by simp[spec_l3Half.l0])
  | succ k1=>
   have H:=HA.out
   clear HA
   simp only[spec_l3Half.l0] at H
   by_cases c2:x4_1 < 8
   ·rw[if_pos c2] at H
    have c2b0:decide (x4_1 < 8)=true:=decide_eq_true c2
    clear c2
    by_cases c3:0≤x4_1
    ·rw[if_pos c3] at H
     have c3b0:decide (0≤x4_1)=true:=decide_eq_true c3
     clear c3
     by_cases c4:x4_1 < (l0.length:Int)
     ·rw[if_pos c4] at H
      have c4b0:decide (x4_1 < (l0.length:Int))=true:=decide_eq_true c4
      clear c4
      have H':=zM H
      clear H
      have p176:0≤(x4_1:Int):=of_decide_eq_true zq6
      have q176:x4_1 < (l0.length:Int):=of_decide_eq_true zq6
      obtain⟨ad176,e176,hx176_0⟩:=Kd.at_int HR0.out x4_1 p176 q176
      cases e176
      replace p176:=eq_true p176
      replace q176:=eq_true q176
      go_wp2
      go_roundg k1
      case measure=>have:=HK1.out;omega
      case rel=>exact⟨(IntKind.u64.wrap ((IntKind.u64.wrap (x3_1*256))+(IntKind.u64.wrap (rd l0 x4_1)))),(wrap64 (x4_1+1)),zq7,zq7,H',⟨zq79⟩,zq25⟩
     ·rw[if_neg c4] at H
      exact absurd H zq73
    ·rw[if_neg c3] at H
     exact absurd H zq73
   ·rw[if_neg c2] at H
    have c2b0:decide (x4_1 < 8)=false:=decide_eq_false c2
    clear c2
    obtain rfl:=Option.some.inj H
    go_wp2
    go_ret
    exact⟨zq7,zq25⟩
def spec_l3Bytes.l0:Nat→Int→Int→List Int→Int→Option (List Int)
 | 0,_,_,_,_=>none
 | k+1,x0,x1,x5,x6=>if x6 ≥ 0 then (if 0≤x6 then (if x6 < (x5.length:Int) then (if 0≤(wrap64 (8+x6)) then (if (wrap64 (8+x6)) < (x5.length:Int) then (spec_l3Bytes.l0 k (IntKind.u64.wrap (Int.tdiv x0 256)) (IntKind.u64.wrap (Int.tdiv x1 256)) ((x5.set (x6:Int).toNat ((Int.tmod x0 256) % 256)).set ((wrap64 (8+x6)):Int).toNat ((Int.tmod x1 256) % 256)) (wrap64 (x6 - 1))) else (none)) else (none)) else (none)) else (none)) else (some x5)
def spec_l3Bytes.f (k:Nat) (a0:Int) (a1:Int):Option (List Int):=if 16≤281474976710656 then (spec_l3Bytes.l0 k a0 a1 (List.replicate 16 0) 7) else (none)
theorem spec_l3Bytes.mono_l:∀ k,(∀ y0 y1 y2 y3,LeO (spec_l3Bytes.l0 k y0 y1 y2 y3) (spec_l3Bytes.l0 (k+1) y0 y1 y2 y3))
 | 0=>fun _ _ _ _ r h=>by simp[spec_l3Bytes.l0] at h
 | k+1=>by
  have ih0:=spec_l3Bytes.mono_l k
  ·intro y0 y1 y2 y3
   unfold spec_l3Bytes.l0
   repeat' first
   | (with_reducible exact ih0 _ _ _ _)
   | (with_reducible exact LeO.refl _)
   | (with_reducible exact LeO.none _)
   | (with_reducible refine LeO.ite ?_ ?_)
   | (with_reducible refine LeO.bind ?_ (fun _=>?_))
   | exact ih0 _ _ _ _
   | exact LeO.none _
   | refine LeO.ite ?_ ?_
   | refine LeO.bind ?_ (fun _=>?_)
theorem spec_l3Bytes.mono:∀ a0 a1 k,LeO (spec_l3Bytes.f k a0 a1) (spec_l3Bytes.f (k+1) a0 a1):=by
 intro a0 a1 k
 have ih0:=spec_l3Bytes.mono_l k
 unfold spec_l3Bytes.f
 repeat' first
   | (with_reducible exact ih0 _ _ _ _)
   | (with_reducible exact LeO.refl _)
   | (with_reducible exact LeO.none _)
   | (with_reducible refine LeO.ite ?_ ?_)
   | (with_reducible refine LeO.bind ?_ (fun _=>?_))
   | exact ih0 _ _ _ _
   | exact LeO.none _
   | refine LeO.ite ?_ ?_
   | refine LeO.bind ?_ (fun _=>?_)
set_option maxHeartbeats 8000000 in
set_option maxRecDepth 100000 in
theorem spec_l3Bytes.calls (k:Nat) (a0:Int) (a1:Int) (r:List Int) (w:World) (h:spec_l3Bytes.f k a0 a1=some r) :
  Calls Try.prog 94 #[.int .u64 a0,.int .u64 a1] w fun e w'=>∃ v0_:Value,e=.returned (v0_)∧Kd.R (Kd.int .u8) 5 w' w.heap.size (fun _=>True) v0_ r∧Below w.heap.size w w':=by
 have HB:=zM (Below.refl w.heap.size w)
 have H:(if 16≤281474976710656 then (spec_l3Bytes.l0 k a0 a1 (List.replicate 16 0) 7) else (none))=some r:=h
 clear h
 by_cases c3:16≤281474976710656
 ·rw[if_pos c3] at H
  have c3b0:=eq_true c3
  have c3b1:decide (16≤281474976710656)=true:=decide_eq_true c3
  clear c3
  obtain⟨y177,hy177⟩:∃ y_:List Int,y_=(List.replicate 16 0):=⟨_,rfl⟩
  replace H:(spec_l3Bytes.l0 k a0 a1 y177 7)=some r:=by first|(rw[hy177];with_reducible exact H)|(have H2_:=(Option.bind_some _ _).symm.trans H;rw[hy177];with_reducible exact H2_)|(have H2_:=(Option.bind_some _ _).symm.trans H;with_reducible exact H2_)|with_reducible exact H|(rw[hy177];exact H)|exact H
  have Ny177:=zM hy177
  clear hy177
  have H':=zM H
  clear H
  go_enter Try.func94,Try.ntmps94
  go_wp2_with (first|((with_reducible refine gate_dst (N:=7) rfl ?_);refine Kd.R_make (Kd.int .u8) _ 5 rfl (N:=7) rfl 25 _ _ rfl 16 rfl rfl Try.underlying25 (.int .u8 0) 1 info5 rfl zq36 zq8 0 (ok:=fun _=>True) (okp:=fun _=>True) rfl (fun _ hk=>hk) trivial zq8 zq8 (Below.refl _ _) (Nat.le_refl _) ?_;intro v178 w4 ho5 hb hg_ hnew_;clear hg_ hnew_;(first|rw[← Ny177.out] at ho5|(simp only[Int.reduceToNat] at ho5;rw[← Ny177.out] at ho5));have n0_:=zM (Kd.R_lower ho5 (below_size zq0));have n1_:=zM (below_step zq0 hb);clear HB;have HO179:=n0_;have HB:=n1_;clear n0_ n1_;clear hb ho5))
  go_loopg [0,1,6] k (fun kq v0 v1 v6 w'=>∃ (x0_1:Int) (x1_1:Int) (x5_1:List Int) (x6_1:Int),v0=.int .u64 x0_1∧v1=.int .u64 x1_1∧v6=.int .i64 x6_1∧Aside0 (spec_l3Bytes.l0 kq x0_1 x1_1 x5_1 x6_1=some r)∧Aside0 (kq≤k)∧Aside0 (Kd.R (Kd.int .u8) 5 w' w.heap.size (fun _=>True) v178 x5_1)∧Aside0 (Below w.heap.size w w'))
  case atStart=>exact⟨(a0),(a1),(y177),(7),zq7,zq7,zq7,H',⟨Nat.le_refl _⟩,⟨by(with_reducible repeat (first|apply Kd.R_alloc|apply Kd.R_drewN|apply Kd.R_drew));exact HO179.out⟩,⟨zq0⟩⟩
  case round=>
   clear H'
   try clear p2
   try clear c3
   try clear c3b0
   try clear c3b1
   obtain⟨x0_1,x1_1,x5_1,x6_1,rfl,rfl,rfl,HA,HK1,HO_5,HB⟩:=hrel
   cases gk with
   | zero=>exact absurd HA.out (by simp[spec_l3Bytes.l0])
   | succ k1=>
    have H:=HA.out
    clear HA
    simp only[spec_l3Bytes.l0] at H
    by_cases c6:x6_1 ≥ 0
    ·rw[if_pos c6] at H
     have c6b0:decide (0≤x6_1)=true:=decide_eq_true c6
     clear c6
     by_cases c7:0≤x6_1
     ·rw[if_pos c7] at H
      have c7b0:decide (0≤x6_1)=true:=decide_eq_true c7
      clear c7
      by_cases c8:x6_1 < (x5_1.length:Int)
      ·rw[if_pos c8] at H
       have c8b0:decide (x6_1 < (x5_1.length:Int))=true:=decide_eq_true c8
       clear c8
       obtain⟨y180,hy180⟩:∃ y_:List Int,y_=(x5_1.set (x6_1:Int).toNat ((Int.tmod x0_1 256) % 256)):=⟨_,rfl⟩
       replace H:(if 0≤(wrap64 (8+x6_1)) then (if (wrap64 (8+x6_1)) < (x5_1.length:Int) then (spec_l3Bytes.l0 k1 (IntKind.u64.wrap (Int.tdiv x0_1 256)) (IntKind.u64.wrap (Int.tdiv x1_1 256)) (y180.set ((wrap64 (8+x6_1)):Int).toNat ((Int.tmod x1_1 256) % 256)) (wrap64 (x6_1 - 1))) else (none)) else (none))=some r:=by first|(rw[hy180];with_reducible exact H)|(have H2_:=(Option.bind_some _ _).symm.trans H;rw[hy180];with_reducible exact H2_)|(have H2_:=(Option.bind_some _ _).symm.trans H;with_reducible exact H2_)|with_reducible exact H|(rw[hy180];exact H)|exact H
       have Ny180:=zM hy180
       clear hy180
       obtain⟨ji10,hji10⟩:∃ j_:Int,(wrap64 (8+x6_1))=j_:=⟨_,rfl⟩
       replace H:(if 0≤(ji10) then (if (ji10) < (x5_1.length:Int) then (spec_l3Bytes.l0 k1 (IntKind.u64.wrap (Int.tdiv x0_1 256)) (IntKind.u64.wrap (Int.tdiv x1_1 256)) (y180.set ((ji10):Int).toNat ((Int.tmod x1_1 256) % 256)) (wrap64 (x6_1 - 1))) else (none)) else (none))=some r:=by first|(rw[hji10] at H;exact H)|(simp only[hji10] at H ⊢;exact H)
       have hji10w:(IntKind.i64.wrap (8+x6_1))=ji10:=(i64_w _).trans hji10
       by_cases c11:0≤(ji10)
       ·rw[if_pos c11] at H
        have c11b0:decide (0≤(ji10))=true:=decide_eq_true c11
        clear c11
        by_cases c12:(ji10) < (x5_1.length:Int)
        ·rw[if_pos c12] at H
         have c12b0:decide ((ji10) < (x5_1.length:Int))=true:=decide_eq_true c12
         clear c12
         obtain⟨y181,hy181⟩:∃ y_:List Int,y_=(y180.set ((ji10):Int).toNat ((Int.tmod x1_1 256) % 256)):=⟨_,rfl⟩
         replace H:(spec_l3Bytes.l0 k1 (IntKind.u64.wrap (Int.tdiv x0_1 256)) (IntKind.u64.wrap (Int.tdiv x1_1 256)) y181 (wrap64 (x6_1 - 1)))=some r:=by first|(rw[hy181];with_reducible exact H)|(have H2_:=(Option.bind_some _ _).symm.trans H;rw[hy181];with_reducible exact H2_)|(have H2_:=(Option.bind_some _ _).symm.trans H;with_reducible exact H2_)|with_reducible exact H|(rw[hy181];exact H)|exact H
         have Ny181:=zM hy181
         clear hy181
         have H':=zM H
         clear H
         have p9:0≤(x6_1:Int):=of_decide_eq_true zq6
         have q9:(x6_1:Int) < ((x5_1.length:Int):Int):=of_decide_eq_true zq6
         obtain⟨go9,co9,eo9,gb9,gl9,cl9,HG9⟩:=Kd.R_form HO_5.out zq8
         (first|cases eo9|(injection eo9 with ea_ en_ ec_;(first|subst ea_|(injection ea_ with ea_;subst ea_));subst ec_;clear en_))
         have GB9:=zM gb9
         have GG9:=zM HG9
         clear gb9 gl9 HG9
         obtain⟨hx9_0,hf9_0⟩:=Kd.R_celln 0 HO_5.out (x6_1:Int) p9 q9
         replace p9:=eq_true p9
         replace q9:=eq_true q9
         have HP14:=Kd.R_putg HO_5.out (x6_1:Int) ((Int.tmod x0_1 256) % 256)
         go_wp2_with (first|((with_reducible refine gate_store (t:=5) (p:=17) rfl ?_);refine store_event (t:=5) (p:=17) (v:=?vo_w15) (w1:=(wr.setCell ⟨go9,(x6_1:Int).toNat,none⟩ (.int .u8 ((Int.tmod x0_1 256) % 256)))) ?hg ?ho ?hn ?hr ?_;(case ho=>rfl);(case hg=>rfl);(case hn=>rfl);(case hr=>first|(go_simp;done)|(go_simp;rfl));intro w15 hw;have hg:wr.grownBy w15 (some go9):=(by rw[hw];exact HP14.2);have hp_:Kd.R (Kd.int .u8) 5 w15 w.heap.size (fun _=>True) (.slice (some ⟨go9,0,none⟩) x5_1.length co9) y180:=(by rw[hw,Ny180.out];exact HP14.1);clear HP14;have n0_:=zM (hp_);have n1_:=zM ((by rw[hw];exact below_set (HB.out) GB9.out:Below w.heap.size w w15));clear HO_5;clear HB;have HO_5:=n0_;have HB:=n1_;clear n0_ n1_;clear hg hw hp_;have p13:0≤((ji10):Int):=of_decide_eq_true zq6;have q13:((ji10):Int) < ((x5_1.length:Int):Int):=of_decide_eq_true zq6;obtain⟨hx13_0,hf13_0⟩:=Kd.R_celln 0 HO_5.out ((ji10):Int) p13 q13;replace p13:=eq_true p13;replace q13:=eq_true q13;obtain⟨hy16_,hz16_⟩:=Kd.R_celln 0 HO_5.out ((ji10):Int) (of_decide_eq_true zq6) (of_decide_eq_true zq6);have HP16:=Kd.R_putg HO_5.out ((ji10):Int) ((Int.tmod x1_1 256) % 256))|((with_reducible refine gate_store (t:=5) (p:=24) rfl ?_);refine store_event (t:=5) (p:=24) (v:=?vo_w17) (w1:=(w15.setCell ⟨go9,((ji10):Int).toNat,none⟩ (.int .u8 ((Int.tmod x1_1 256) % 256)))) ?hg ?ho ?hn ?hr ?_;(case ho=>rfl);(case hg=>rfl);(case hn=>rfl);(case hr=>first|(go_simp;done)|(go_simp;rfl));intro w17 hw;have hg:w15.grownBy w17 (some go9):=(by rw[hw];exact HP16.2);have hp_:Kd.R (Kd.int .u8) 5 w17 w.heap.size (fun _=>True) (.slice (some ⟨go9,0,none⟩) x5_1.length co9) y181:=(by rw[hw,Ny181.out];exact HP16.1);clear HP16;have n0_:=zM (hp_);have n1_:=zM ((by rw[hw];exact below_set (HB.out) GB9.out:Below w.heap.size w w17));clear HO_5;clear HB;have HO_5:=n0_;have HB:=n1_;clear n0_ n1_;clear hg hw hp_))
         go_roundg k1
         case measure=>have:=HK1.out;omega
         case rel=>exact⟨(IntKind.u64.wrap (Int.tdiv x0_1 256)),(IntKind.u64.wrap (Int.tdiv x1_1 256)),(y181),(wrap64 (x6_1 - 1)),zq7,zq7,zq7,H',⟨zq79⟩,⟨zq61⟩,⟨zq0⟩⟩
        ·rw[if_neg c12] at H
         exact absurd H zq73
       ·rw[if_neg c11] at H
        exact absurd H zq73
      ·rw[if_neg c8] at H
       exact absurd H zq73
     ·rw[if_neg c7] at H
      exact absurd H zq73
    ·rw[if_neg c6] at H
     have c6b0:decide (0≤x6_1)=false:=decide_eq_false c6
     clear c6
     obtain rfl:=Option.some.inj H
     go_wp2
     go_ret
     exact⟨_,zq3,zq61,zq0⟩
 ·rw[if_neg c3] at H
  exact absurd H zq73
end Go.Proofs.Ytdbanjdnjhflcaa.All
