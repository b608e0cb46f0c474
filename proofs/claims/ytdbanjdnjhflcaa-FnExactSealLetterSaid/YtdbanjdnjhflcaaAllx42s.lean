-- Laid by wip/shake.py of this repo out of this claim's texts. Not trusted: Lean checks it.
import Derived.Test.YtdbanjdnjhflcaaAb0s
import Derived.Test.YtdbanjdnjhflcaaAlgs
import Derived.Test.YtdbanjdnjhflcaaAllx35s
import Derived.Test.YtdbanjdnjhflcaaAllx32s
set_option linter.unusedSimpArgs false
set_option linter.unusedVariables false
namespace Go.Proofs.Ytdbanjdnjhflcaa.All
open Go.Proofs.YtdbanjdnjhflcaaW.PrintWords.Aside0 renaming mk→zM
open Go.RowKit Go.Proofs.YtdbanjdnjhflcaaW.PrintWords Go.Proofs.YtdbanjdnjhflcaaW.PrintLast Go.Proofs.YtdbanjdnjhflcaaW.PrintMore
attribute [local go_sem] max2_int min2_int max_two min_two max_three min_three max_four min_four
def spec_l1Read.l0:Nat→List Int→Int→Int→Int→Int→Option (Int)
 | 0,_,_,_,_,_=>none
 | k+1,x0,x1,x2,x7,x8=>if x8 < x2 then (if 0≤(wrap64 (x1+x8)) then (if (wrap64 (x1+x8)) < (x0.length:Int) then (spec_l1Read.l0 k x0 x1 x2 (wrap64 ((wrap64 (x7*256))+(wrap64 (rd x0 (wrap64 (x1+x8)))))) (wrap64 (x8+1))) else (none)) else (none)) else (some x7)
def spec_l1Read.f (k:Nat) (l0:List Int) (a1:Int) (a2:Int):Option (Int):=spec_l1Read.l0 k l0 a1 a2 0 0
theorem spec_l1Read.mono_l:∀ k,(∀ y0 y1 y2 y3 y4,LeO (spec_l1Read.l0 k y0 y1 y2 y3 y4) (spec_l1Read.l0 (k+1) y0 y1 y2 y3 y4))
 | 0=>fun _ _ _ _ _ r h=>by simp[spec_l1Read.l0] at h
 | k+1=>by
  have ih0:=spec_l1Read.mono_l k
  ·intro y0 y1 y2 y3 y4
   unfold spec_l1Read.l0
   repeat' first
   | (with_reducible exact ih0 _ _ _ _ _)
   | (with_reducible exact LeO.refl _)
   | (with_reducible exact LeO.none _)
   | (with_reducible refine LeO.ite ?_ ?_)
   | (with_reducible refine LeO.bind ?_ (fun _=>?_))
   | exact ih0 _ _ _ _ _
   | exact LeO.none _
   | refine LeO.ite ?_ ?_
   | refine LeO.bind ?_ (fun _=>?_)
theorem spec_l1Read.mono:∀ a0 a1 a2 k,LeO (spec_l1Read.f k a0 a1 a2) (spec_l1Read.f (k+1) a0 a1 a2):=by
 intro a0 a1 a2 k
 have ih0:=spec_l1Read.mono_l k
 unfold spec_l1Read.f
 repeat' first
   | (with_reducible exact ih0 _ _ _ _ _)
   | (with_reducible exact LeO.refl _)
   | (with_reducible exact LeO.none _)
   | (with_reducible refine LeO.ite ?_ ?_)
   | (with_reducible refine LeO.bind ?_ (fun _=>?_))
   | exact ih0 _ _ _ _ _
   | exact LeO.none _
   | refine LeO.ite ?_ ?_
   | refine LeO.bind ?_ (fun _=>?_)
set_option maxHeartbeats 8000000 in
set_option maxRecDepth 100000 in
theorem spec_l1Read.calls (k:Nat) (A0:Option Addr) (c0:Nat) (l0:List Int) (a1:Int) (a2:Int) (r:Int) (w:World) (hr0:Kd.C (Kd.int .u8) w A0 l0.length l0) (hc0:l0.length≤c0) (h:spec_l1Read.f k l0 a1 a2=some r) :
  Calls Try.prog 76 #[.slice A0 l0.length c0,.int .i64 a1,.int .i64 a2] w fun e w'=>e=.returned (.int .i64 r)∧Drawn0 w w':=by
 have HR0:=zM hr0
 have HC0:=zM hc0
 clear hr0 hc0
 have H:(spec_l1Read.l0 k l0 a1 a2 0 0)=some r:=h
 clear h
 have H':=zM H
 clear H
 go_enter Try.func76,Try.ntmps76
 go_wp2
 go_loopg [7,8] k (fun kq v7 v8 w'=>∃ (x7_1:Int) (x8_1:Int),v7=.int .i64 x7_1∧v8=.int .i64 x8_1∧Aside0 (spec_l1Read.l0 kq l0 a1 a2 x7_1 x8_1=some r)∧Aside0 (kq≤k)∧Drawn0 w w')
 case atStart=>exact⟨(0),(0),zq7,zq7,H',⟨Nat.le_refl _⟩,zq25⟩
 case round=>
  clear H'
  try clear p2
  obtain⟨x7_1,x8_1,rfl,rfl,HA,HK1,⟨m1,rfl⟩⟩:=hrel
  cases gk with
  | zero=>exact absurd HA.out (by simp[spec_l1Read.l0])
  | succ k1=>
   have H:=HA.out
   clear HA
   simp only[spec_l1Read.l0] at H
   by_cases c4:x8_1 < a2
   ·rw[if_pos c4] at H
    have c4b0:decide (x8_1 < a2)=true:=decide_eq_true c4
    clear c4
    obtain⟨ji5,hji5⟩:∃ j_:Int,(wrap64 (a1+x8_1))=j_:=⟨_,rfl⟩
    replace H:(if 0≤(ji5) then (if (ji5) < (l0.length:Int) then (spec_l1Read.l0 k1 l0 a1 a2 (wrap64 ((wrap64 (x7_1*256))+(wrap64 (rd l0 (ji5))))) (wrap64 (x8_1+1))) else (none)) else (none))=some r:=by first|(rw[hji5] at H;exact H)|(simp only[hji5] at H ⊢;exact H)
    have hji5w:(IntKind.i64.wrap (a1+x8_1))=ji5:=(i64_w _).trans hji5
    by_cases c6:0≤(ji5)
    ·rw[if_pos c6] at H
     have c6b0:decide (0≤(ji5))=true:=decide_eq_true c6
     clear c6
     by_cases c7:(ji5) < (l0.length:Int)
     ·rw[if_pos c7] at H
      have c7b0:decide ((ji5) < (l0.length:Int))=true:=decide_eq_true c7
      clear c7
      have H':=zM H
      clear H
      have p124:0≤((ji5):Int):=of_decide_eq_true zq6
      have q124:(ji5) < (l0.length:Int):=of_decide_eq_true zq6
      obtain⟨ad124,e124,hx124_0⟩:=Kd.at_int HR0.out (ji5) p124 q124
      cases e124
      replace p124:=eq_true p124
      replace q124:=eq_true q124
      go_wp2
      go_roundg k1
      case measure=>have:=HK1.out;omega
      case rel=>exact⟨(wrap64 ((wrap64 (x7_1*256))+(wrap64 (rd l0 (ji5))))),(wrap64 (x8_1+1)),(by first|rfl|(simp;done)|(simp only[← hji5] <;> (first|rfl|simp))|(simp[*];done)),zq7,H',⟨zq79⟩,zq25⟩
     ·rw[if_neg c7] at H
      exact absurd H zq73
    ·rw[if_neg c6] at H
     exact absurd H zq73
   ·rw[if_neg c4] at H
    have c4b0:decide (x8_1 < a2)=false:=decide_eq_false c4
    clear c4
    obtain rfl:=Option.some.inj H
    go_wp2
    go_ret
    exact⟨zq7,zq25⟩
def spec_l3Count.f (k:Nat) (l0:List Int):Option (List Int):=(spec_l1Read.f k l0 12 4).bind fun t125=>(if 12≤(l0.length:Int) then ((spec_l1Copy.f (l0.take 12)).bind fun t127=>((spec_l1Pack.f k (Int.tmod (wrap64 (t125+1)) 4294967296) 4).bind fun t130=>(if t127.length+t130.length < 140737488355328 then (some (t127 ++ t130)) else (none)))) else (none))
theorem spec_l3Count.mono:∀ a0 k,LeO (spec_l3Count.f k a0) (spec_l3Count.f (k+1) a0):=by
 intro a0 k
 unfold spec_l3Count.f
 repeat' first
   | (with_reducible exact spec_l1Pack.mono _ _ _)
   | (with_reducible exact spec_l1Read.mono _ _ _ _)
   | (with_reducible exact LeO.refl _)
   | (with_reducible exact LeO.none _)
   | (with_reducible refine LeO.ite ?_ ?_)
   | (with_reducible refine LeO.bind ?_ (fun _=>?_))
   | exact spec_l1Pack.mono _ _ _
   | exact spec_l1Read.mono _ _ _ _
   | exact LeO.none _
   | refine LeO.ite ?_ ?_
   | refine LeO.bind ?_ (fun _=>?_)
set_option maxHeartbeats 8000000 in
set_option maxRecDepth 100000 in
theorem spec_l3Count.calls (k:Nat) (A0:Option Addr) (c0:Nat) (l0:List Int) (r:List Int) (w:World) (hr0:Kd.C (Kd.int .u8) w A0 l0.length l0) (hc0:l0.length≤c0) (h:spec_l3Count.f k l0=some r) :
  Calls Try.prog 63 #[.slice A0 l0.length c0] w fun e w'=>∃ v0_:Value,e=.returned (v0_)∧Kd.R (Kd.int .u8) 5 w' w.heap.size (fun _=>True) v0_ r∧Below w.heap.size w w':=by
 have HR0:=zM hr0
 have HC0:=zM hc0
 clear hr0 hc0
 have HB:=zM (Below.refl w.heap.size w)
 have H:((spec_l1Read.f k l0 12 4).bind fun t125=>(if 12≤(l0.length:Int) then ((spec_l1Copy.f (l0.take 12)).bind fun t127=>((spec_l1Pack.f k (Int.tmod (wrap64 (t125+1)) 4294967296) 4).bind fun t130=>(if t127.length+t130.length < 140737488355328 then (some (t127 ++ t130)) else (none)))) else (none)))=some r:=h
 clear h
 replace H:=Option.bind_eq_some_iff.mp H
 obtain⟨t125,A20,H⟩:=H
 replace H:(if 12≤(l0.length:Int) then ((spec_l1Copy.f (l0.take 12)).bind fun t127=>((spec_l1Pack.f k (Int.tmod (wrap64 (t125+1)) 4294967296) 4).bind fun t130=>(if t127.length+t130.length < 140737488355328 then (some (t127 ++ t130)) else (none)))) else (none))=some r:=H
 have A2:=zM A20
 clear A20
 by_cases c3:12≤(l0.length:Int)
 ·rw[if_pos c3] at H
  have c3b0:=eq_true c3
  have c3b1:decide (12≤(l0.length:Int))=true:=decide_eq_true c3
  clear c3
  replace H:=Option.bind_eq_some_iff.mp H
  obtain⟨t127,A40,H⟩:=H
  replace H:((spec_l1Pack.f k (Int.tmod (wrap64 (t125+1)) 4294967296) 4).bind fun t130=>(if t127.length+t130.length < 140737488355328 then (some (t127 ++ t130)) else (none)))=some r:=H
  have A4:=zM A40
  clear A40
  replace H:=Option.bind_eq_some_iff.mp H
  obtain⟨t130,A50,H⟩:=H
  replace H:(if t127.length+t130.length < 140737488355328 then (some (t127 ++ t130)) else (none))=some r:=H
  have A5:=zM A50
  clear A50
  by_cases c6:t127.length+t130.length < 140737488355328
  ·rw[if_pos c6] at H
   have LMc6:=zM c6
   clear c6
   obtain⟨y133,hy133⟩:∃ y_:List Int,y_=(t127 ++ t130):=⟨_,rfl⟩
   replace H:(some y133)=some r:=by first|(rw[hy133];with_reducible exact H)|(have H2_:=(Option.bind_some _ _).symm.trans H;rw[hy133];with_reducible exact H2_)|(have H2_:=(Option.bind_some _ _).symm.trans H;with_reducible exact H2_)|with_reducible exact H|(rw[hy133];exact H)|exact H
   have Ny133:=zM hy133
   clear hy133
   obtain rfl:=Option.some.inj H
   go_enter Try.func63,Try.ntmps63
   go_wp2_with (first|((with_reducible refine gate_callee (f:=76) rfl ?_);refine goesL_ (some 5) rfl rfl Try.func76 (by kernel_rfl) rfl #[.slice A0 l0.length c0,.int .i64 12,.int .i64 4] rfl zq1 ?_;(with_reducible refine(spec_l1Read.calls k _ _ l0 12 4 t125 _ ?side1 ?side2 A2.out).mono ?_);(case side1=>exact zq74);(case side2=>exact HC0.out);rintro e w' ⟨rfl,⟨nd,rfl⟩⟩;refine⟨_,rfl,?_⟩;obtain⟨i07,hi07,_,hsz7,_⟩:=info_parts info5;obtain⟨hcut7,hA7,hC7⟩:=print_take_of (P:=Try.prog) (Value.int .u8) 0 25 5 .i64 Try.underlying25 hi07 hsz7 A0 c0 l0 12 zq8 (of_decide_eq_true zq6) HC0.out;have HR126:=zM (Kd.C_of_reads (h1:=fun _=>rfl) (hA7 _ (Kd.reads_of_C HR0.out)));have HC126:=zM hC7;clear hA7 hC7 hi07 hsz7)|((with_reducible refine gate_callee (f:=42) rfl ?_);refine goesL_ (some 10) rfl rfl Try.func42 (by kernel_rfl) rfl #[.slice A0 (l0.take 12).length c0] rfl (by(try simp only[List.map_toArray,List.map_cons,List.map_nil]);first|done|(rw[show (l0.take 12).length=12 from (by rw[List.length_take];have h_:(12:Int)≤(l0.length:Int):=of_decide_eq_true zq6;omega)] <;> rfl)|rfl|(simp only[List.length_drop,List.length_take];rfl)) ?_;(with_reducible refine(spec_l1Copy.calls _ _ (l0.take 12) t127 _ ?side1 ?side2 A4.out).mono ?_);(case side1=>repeat (first|exact HR126.out|(with_reducible refine Kd.C_alloc ?_ _)|(with_reducible refine Kd.C_drewN ?_ _)|(with_reducible refine Kd.C_drew ?_)));(case side2=>exact HC126.out);rintro e w8 ⟨v128,rfl,ho0,hb⟩;refine⟨_,rfl,?_⟩;have n0_:=zM (Kd.R_lower ho0 (below_size zq0));have n1_:=zM (below_step zq0 hb);clear HB;have HO129:=n0_;have HB:=n1_;clear n0_ n1_;(try clear hb);(try clear hb2);(try clear hk);(try clear hi);(try clear ho0))|((with_reducible refine gate_callee (f:=60) rfl ?_);refine goesL_ (some 12) rfl rfl Try.func60 (by kernel_rfl) rfl #[.int .i64 (Int.tmod (wrap64 (t125+1)) 4294967296),.int .i64 4] rfl zq1 ?_;(with_reducible refine(spec_l1Pack.calls k (Int.tmod (wrap64 (t125+1)) 4294967296) 4 t130 _ A5.out).mono ?_);rintro e w9 ⟨v131,rfl,ho0,hb⟩;refine⟨_,rfl,?_⟩;have n0_:=zM (Kd.R_elder' zq179 (Kd.R_base ho0) hb);have n1_:=zM (Kd.R_lower (Kd.R_new' ho0 (Kd.R_lt zq179)) (below_size zq0));have n2_:=zM (below_step zq0 hb);clear HO129;clear HB;have HO129:=n0_;have HO132:=n1_;have HB:=n2_;clear n0_ n1_ n2_;(try clear hb);(try clear hb2);(try clear hk);(try clear hi);(try clear ho0);obtain⟨Ao11,co11,eo11⟩:=Kd.R_slice HO132.out;subst eo11)|((with_reducible refine gate_builtin (b:=.append) (xs:=#[.tmp 10,.tmp 12]) rfl ?_);at_builtin;refine Kd.R_append_rows (Kd.int .u8) (w0:=w) w.heap.size rfl (.tmp 10) (.tmp 12) 25 5 (.int .u8 0) 1 rfl Try.underlying25 info5 rfl zq36 zq8 v128 t127 t130 _ _ _ (fun k_=>some k_≠(.slice Ao11 t130.length co11:Value).ownBlock) (fun _=>False) rfl rfl ?aO ?aR (fun _ _ h=>h) (fun _ h=>h.elim) ?aF ?aB ?aS ?aL ?_;(case aR=>repeat (first|exact(Kd.R_reads' HO132.out).2.2|(with_reducible refine Kd.C_alloc ?_ _)|(with_reducible refine Kd.C_drewN ?_ _)|(with_reducible refine Kd.C_drew ?_)));(case aB=>exact zq0);(case aF=>exact(fun k_ hk=>Kd.fresh' (Kd.R_lt zq180) k_ hk));(case aO=>exact(by(with_reducible repeat (first|apply Kd.R_alloc|apply Kd.R_drewN|apply Kd.R_drew));exact Kd.R_mono HO129.out (fun _ hk=>hk.2)));(case aS=>exact(below_size zq0));(case aL=>have:=LMc6.out;omega);intro v134 w10 ho hb hg hat;rw[← Ny133.out] at ho;have n0_:=zM (Kd.R_after (ok:=(fun _=>True)) zq180 hg hat);have n1_:=zM (hb);have n2_:=zM (ho);clear HO132;clear HB;clear HO129;have HO132:=n0_;have HB:=n1_;have HO135:=n2_;clear n0_ n1_ n2_;clear ho hb hg hat))
   go_ret
   exact⟨_,zq3,by(with_reducible repeat (first|apply Kd.R_alloc|apply Kd.R_drewN|apply Kd.R_drew));exact Kd.R_mono HO135.out (fun _ hk=>trivial),zq0⟩
  ·rw[if_neg c6] at H
   exact absurd H zq73
 ·rw[if_neg c3] at H
  exact absurd H zq73
end Go.Proofs.Ytdbanjdnjhflcaa.All
