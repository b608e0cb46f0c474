-- Laid by wip/shake.py of this repo out of this claim's texts. Not trusted: Lean checks it.
import Derived.Test.YtdbanjdnjhflcaaAb0s
import Derived.Test.YtdbanjdnjhflcaaAlgs
set_option linter.unusedSimpArgs false
set_option linter.unusedVariables false
namespace Go.Proofs.Ytdbanjdnjhflcaa.All
open Go.Proofs.YtdbanjdnjhflcaaW.PrintWords.Aside0 renaming mk→zM
open Go.RowKit Go.Proofs.YtdbanjdnjhflcaaW.PrintWords Go.Proofs.YtdbanjdnjhflcaaW.PrintLast Go.Proofs.YtdbanjdnjhflcaaW.PrintMore
attribute [local go_sem] max2_int min2_int max_two min_two max_three min_three max_four min_four
def spec_l1Copy.f (l0:List Int):Option (List Int):=(some (([]:List Int):List Int)).bind fun y118=>(if y118.length+l0.length < 140737488355328 then (some (y118 ++ l0)) else (none))
set_option maxHeartbeats 8000000 in
set_option maxRecDepth 100000 in
theorem spec_l1Copy.calls (A0:Option Addr) (c0:Nat) (l0:List Int) (r:List Int) (w:World) (hr0:Kd.C (Kd.int .u8) w A0 l0.length l0) (hc0:l0.length≤c0) (h:spec_l1Copy.f l0=some r) :
  Calls Try.prog 42 #[.slice A0 l0.length c0] w fun e w'=>∃ v0_:Value,e=.returned (v0_)∧Kd.R (Kd.int .u8) 5 w' w.heap.size (fun _=>True) v0_ r∧Below w.heap.size w w':=by
 have HR0:=zM hr0
 have HC0:=zM hc0
 clear hr0 hc0
 have HB:=zM (Below.refl w.heap.size w)
 have H:((some (([]:List Int):List Int)).bind fun y118=>(if y118.length+l0.length < 140737488355328 then (some (y118 ++ l0)) else (none)))=some r:=h
 clear h
 obtain⟨y118,hy118⟩:∃ y_:List Int,y_=(([]:List Int)):=⟨_,rfl⟩
 replace H:(if y118.length+l0.length < 140737488355328 then (some (y118 ++ l0)) else (none))=some r:=by first|(rw[hy118];with_reducible exact H)|(have H2_:=(Option.bind_some _ _).symm.trans H;rw[hy118];with_reducible exact H2_)|(have H2_:=(Option.bind_some _ _).symm.trans H;with_reducible exact H2_)|with_reducible exact H|(rw[hy118];exact H)|exact H
 have Ny118:=zM hy118
 clear hy118
 by_cases c2:y118.length+l0.length < 140737488355328
 ·rw[if_pos c2] at H
  have LMc2:=zM c2
  clear c2
  obtain⟨y121,hy121⟩:∃ y_:List Int,y_=(y118 ++ l0):=⟨_,rfl⟩
  replace H:(some y121)=some r:=by first|(rw[hy121];with_reducible exact H)|(have H2_:=(Option.bind_some _ _).symm.trans H;rw[hy121];with_reducible exact H2_)|(have H2_:=(Option.bind_some _ _).symm.trans H;with_reducible exact H2_)|with_reducible exact H|(rw[hy121];exact H)|exact H
  have Ny121:=zM hy121
  clear hy121
  obtain rfl:=Option.some.inj H
  go_enter Try.func42,Try.ntmps42
  go_wp2_with (first|((with_reducible refine gate_dst (N:=3) rfl ?_);refine Kd.R_lit (Kd.int .u8) _ 5 ?hg (N:=3) ?hd (xs:=([]:List Int)) (inner:=[]) (ok:=fun _=>True) (okp:=fun _=>True) ?hr ?hp (fun _ hk=>hk) trivial (Below.refl _ _) (Nat.le_refl _) zq73 ?_;(case hd=>rfl);(case hg=>rfl);(case hr=>first|(go_simp;done)|(go_simp;rfl));(case hp=>exact(Reps.none _ _));intro v119 w3 ho4 hb hg_ hnew_;clear hg_ hnew_;(first|rw[← Ny118.out] at ho4|(simp only[Int.reduceToNat] at ho4;rw[← Ny118.out] at ho4));have n0_:=zM (Kd.R_lower ho4 (below_size zq0));have n1_:=zM (below_step zq0 hb);clear HB;have HO120:=n0_;have HB:=n1_;clear n0_ n1_;clear hb ho4)|((with_reducible refine gate_builtin (b:=.append) (xs:=#[.tmp 3,.tmp 4]) rfl ?_);at_builtin;refine Kd.R_append_rows (Kd.int .u8) (w0:=w) w.heap.size rfl (.tmp 3) (.tmp 4) 25 5 (.int .u8 0) 1 rfl Try.underlying25 info5 rfl zq36 zq8 v119 y118 l0 _ _ _ (fun _=>True) (fun _=>False) rfl rfl ?aO ?aR (fun _ _ h=>h) (fun _ h=>h.elim) ?aF ?aB ?aS ?aL ?_;(case aR=>exact zq118);(case aB=>exact zq0);(case aF=>exact(fun _ _=>trivial));(case aO=>exact(by(with_reducible repeat (first|apply Kd.R_alloc|apply Kd.R_drewN|apply Kd.R_drew));exact HO120.out));(case aS=>exact(below_size zq0));(case aL=>have:=LMc2.out;omega);intro v122 w5 ho hb hg hat;rw[← Ny121.out] at ho;have n0_:=zM (hb);have n1_:=zM (ho);clear HB;clear HO120;have HB:=n0_;have HO123:=n1_;clear n0_ n1_;clear ho hb hg hat))
  go_ret
  exact⟨_,zq3,by(with_reducible repeat (first|apply Kd.R_alloc|apply Kd.R_drewN|apply Kd.R_drew));exact HO123.out,zq0⟩
 ·rw[if_neg c2] at H
  exact absurd H zq73
def spec_FieldTimes.l0:Nat→Int→Int→Int→Int→Option (Int)
 | 0,_,_,_,_=>none
 | k+1,x0,x1,x5,x6=>if x6 < 8 then (if (Int.tmod x1 2)=1 then (if x0 ≥ 128 then (spec_FieldTimes.l0 k (Go.bits .xor .u8 ((x0*2) % 256) 27) ((Int.tdiv x1 2) % 256) (Go.bits .xor .u8 x5 x0) (wrap64 (x6+1))) else (spec_FieldTimes.l0 k ((x0*2) % 256) ((Int.tdiv x1 2) % 256) (Go.bits .xor .u8 x5 x0) (wrap64 (x6+1)))) else (if x0 ≥ 128 then (spec_FieldTimes.l0 k (Go.bits .xor .u8 ((x0*2) % 256) 27) ((Int.tdiv x1 2) % 256) x5 (wrap64 (x6+1))) else (spec_FieldTimes.l0 k ((x0*2) % 256) ((Int.tdiv x1 2) % 256) x5 (wrap64 (x6+1))))) else (some x5)
def spec_FieldTimes.f (k:Nat) (a0:Int) (a1:Int):Option (Int):=spec_FieldTimes.l0 k a0 a1 0 0
theorem spec_FieldTimes.mono_l:∀ k,(∀ y0 y1 y2 y3,LeO (spec_FieldTimes.l0 k y0 y1 y2 y3) (spec_FieldTimes.l0 (k+1) y0 y1 y2 y3))
 | 0=>fun _ _ _ _ r h=>by simp[spec_FieldTimes.l0] at h
 | k+1=>by
  have ih0:=spec_FieldTimes.mono_l k
  ·intro y0 y1 y2 y3
   unfold spec_FieldTimes.l0
   repeat' first
   | (with_reducible exact ih0 _ _ _ _)
   | (with_reducible exact LeO.refl _)
   | (with_reducible exact LeO.none _)
   | (with_reducible refine LeO.ite ?_ ?_)
   | (with_reducible refine LeO.bind ?_ (fun _=>?_))
   | exact ih0 _ _ _ _
   | exact LeO.none _
   | refine LeO.ite ?_ ?_
   | refine LeO.bind ?_ (fun _=>?_)
theorem spec_FieldTimes.mono:∀ a0 a1 k,LeO (spec_FieldTimes.f k a0 a1) (spec_FieldTimes.f (k+1) a0 a1):=by
 intro a0 a1 k
 have ih0:=spec_FieldTimes.mono_l k
 unfold spec_FieldTimes.f
 repeat' first
   | (with_reducible exact ih0 _ _ _ _)
   | (with_reducible exact LeO.refl _)
   | (with_reducible exact LeO.none _)
   | (with_reducible refine LeO.ite ?_ ?_)
   | (with_reducible refine LeO.bind ?_ (fun _=>?_))
   | exact ih0 _ _ _ _
   | exact LeO.none _
   | refine LeO.ite ?_ ?_
   | refine LeO.bind ?_ (fun _=>?_)
set_option maxHeartbeats 8000000 in
set_option maxRecDepth 100000 in
theorem spec_FieldTimes.calls (k:Nat) (a0:Int) (a1:Int) (r:Int) (w:World) (h:spec_FieldTimes.f k a0 a1=some r) :
  Calls Try.prog 74 #[.int .u8 a0,.int .u8 a1] w fun e w'=>e=.returned (.int .u8 r)∧Drawn0 w w':=by
 have H:(spec_FieldTimes.l0 k a0 a1 0 0)=some r:=h
 clear h
 have H':=zM H
 clear H
 go_enter Try.func74,Try.ntmps74
 go_wp2
 go_loopg [0,1,5,6] k (fun kq v0 v1 v5 v6 w'=>∃ (x0_1:Int) (x1_1:Int) (x5_1:Int) (x6_1:Int),v0=.int .u8 x0_1∧v1=.int .u8 x1_1∧v5=.int .u8 x5_1∧v6=.int .i64 x6_1∧Aside0 (spec_FieldTimes.l0 kq x0_1 x1_1 x5_1 x6_1=some r)∧Aside0 (kq≤k)∧Drawn0 w w')
 case atStart=>exact⟨(a0),(a1),(0),(0),zq7,zq7,zq7,zq7,H',⟨Nat.le_refl _⟩,zq25⟩
 case round=>
  clear H'
  try clear p2
  obtain⟨x0_1,x1_1,x5_1,x6_1,rfl,rfl,rfl,rfl,HA,HK1,⟨m1,rfl⟩⟩:=hrel
  cases gk with
  | zero=>exact absurd HA.out (by simp[spec_FieldTimes.l0])
  | succ k1=>
   have H:=HA.out
   clear HA
   simp only[spec_FieldTimes.l0] at H
   by_cases c3:x6_1 < 8
   ·rw[if_pos c3] at H
    have c3b0:decide (x6_1 < 8)=true:=decide_eq_true c3
    clear c3
    by_cases c4:(Int.tmod x1_1 2)=1
    ·rw[if_pos c4] at H
     have c4b0:((Int.tmod x1_1 2) == 1)=true:=beq_iff_eq.mpr c4
     have c4b1:((Int.tmod x1_1 2) != 1)=false:=bne_eq_false_iff_eq.mpr c4
     clear c4
     by_cases c5:x0_1 ≥ 128
     ·rw[if_pos c5] at H
      have c5b0:decide (128≤x0_1)=true:=decide_eq_true c5
      clear c5
      have H':=zM H
      clear H
      go_wp2
      go_roundg k1
      case measure=>have:=HK1.out;omega
      case rel=>exact⟨(Go.bits .xor .u8 ((x0_1*2) % 256) 27),((Int.tdiv x1_1 2) % 256),(Go.bits .xor .u8 x5_1 x0_1),(wrap64 (x6_1+1)),zq7,zq7,zq7,zq7,H',⟨zq79⟩,zq25⟩
     ·rw[if_neg c5] at H
      have c5b0:decide (128≤x0_1)=false:=decide_eq_false c5
      clear c5
      have H':=zM H
      clear H
      go_wp2
      go_roundg k1
      case measure=>have:=HK1.out;omega
      case rel=>exact⟨((x0_1*2) % 256),((Int.tdiv x1_1 2) % 256),(Go.bits .xor .u8 x5_1 x0_1),(wrap64 (x6_1+1)),zq7,zq7,zq7,zq7,H',⟨zq79⟩,zq25⟩
    ·rw[if_neg c4] at H
     have c4b0:((Int.tmod x1_1 2) == 1)=false:=beq_eq_false_iff_ne.mpr c4
     have c4b1:((Int.tmod x1_1 2) != 1)=true:=bne_iff_ne.mpr c4
     by_cases c6:x0_1 ≥ 128
     ·rw[if_pos c6] at H
      have c6b0:decide (128≤x0_1)=true:=decide_eq_true c6
      clear c6
      have H':=zM H
      clear H
      go_wp2
      go_roundg k1
      case measure=>have:=HK1.out;omega
      case rel=>exact⟨(Go.bits .xor .u8 ((x0_1*2) % 256) 27),((Int.tdiv x1_1 2) % 256),(x5_1),(wrap64 (x6_1+1)),zq7,zq7,zq7,zq7,H',⟨zq79⟩,zq25⟩
     ·rw[if_neg c6] at H
      have c6b0:decide (128≤x0_1)=false:=decide_eq_false c6
      clear c6
      have H':=zM H
      clear H
      go_wp2
      go_roundg k1
      case measure=>have:=HK1.out;omega
      case rel=>exact⟨((x0_1*2) % 256),((Int.tdiv x1_1 2) % 256),(x5_1),(wrap64 (x6_1+1)),zq7,zq7,zq7,zq7,H',⟨zq79⟩,zq25⟩
   ·rw[if_neg c3] at H
    have c3b0:decide (x6_1 < 8)=false:=decide_eq_false c3
    clear c3
    obtain rfl:=Option.some.inj H
    go_wp2
    go_ret
    exact⟨zq7,zq25⟩
end Go.Proofs.Ytdbanjdnjhflcaa.All
