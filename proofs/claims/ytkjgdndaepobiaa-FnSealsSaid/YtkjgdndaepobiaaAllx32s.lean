-- Laid by wip/shake.py of this repo out of this claim's texts. Not trusted: Lean checks it.
import Derived.Test.YtkjgdndaepobiaaAb0s
import Derived.Test.YtkjgdndaepobiaaAllx0s
namespace Go.Proofs.Ytkjgdndaepobiaa.All
open Go.Proofs.YtkjgdndaepobiaaW.PrintWords.Aside0 renaming mk→zM
open Go.RowKit Go.Proofs.YtkjgdndaepobiaaW.PrintWords Go.Proofs.YtkjgdndaepobiaaW.PrintLast Go.Proofs.YtkjgdndaepobiaaW.PrintMore
attribute [local go_sem] max2_int min2_int max_two min_two max_three min_three max_four min_four
set_option linter.unusedVariables false
set_option linter.unusedSimpArgs false
def spec_l1Copy.f (l0:List Int):Option (List Int):=(some (([]:List Int):List Int)).bind fun y137=>(if y137.length+l0.length < 140737488355328 then (some (y137 ++ l0)) else (none))
set_option maxHeartbeats 8000000 in
set_option maxRecDepth 100000 in
theorem spec_l1Copy.calls (A0:Option Addr) (c0:Nat) (l0:List Int) (r:List Int) (w:World) (hr0:Kd.C (Kd.int .u8) w A0 l0.length l0) (hc0:l0.length≤c0) (h:spec_l1Copy.f l0=some r) :
  Calls Try.prog 35 #[.slice A0 l0.length c0] w fun e w'=>∃ v0_:Value,e=.returned (v0_)∧Kd.R (Kd.int .u8) 5 w' w.heap.size (fun _=>True) v0_ r∧Below w.heap.size w w':=by
 have HR0:=zM hr0
 have HC0:=zM hc0
 clear hr0 hc0
 have HB:=zM (Below.refl w.heap.size w)
 have H:((some (([]:List Int):List Int)).bind fun y137=>(if y137.length+l0.length < 140737488355328 then (some (y137 ++ l0)) else (none)))=some r:=h
 clear h
 obtain⟨y137,hy137⟩:∃ y_:List Int,y_=(([]:List Int)):=⟨_,rfl⟩
 replace H:(if y137.length+l0.length < 140737488355328 then (some (y137 ++ l0)) else (none))=some r:=by first|(rw[hy137];with_reducible exact H)|(have H2_:=(Option.bind_some _ _).symm.trans H;rw[hy137];with_reducible exact H2_)|(have H2_:=(Option.bind_some _ _).symm.trans H;with_reducible exact H2_)|with_reducible exact H|(rw[hy137];exact H)|exact H
 have Ny137:=zM hy137
 clear hy137
 by_cases c2:y137.length+l0.length < 140737488355328
 ·rw[if_pos c2] at H
  have LMc2:=zM c2
  clear c2
  obtain⟨y140,hy140⟩:∃ y_:List Int,y_=(y137 ++ l0):=⟨_,rfl⟩
  replace H:(some y140)=some r:=by first|(rw[hy140];with_reducible exact H)|(have H2_:=(Option.bind_some _ _).symm.trans H;rw[hy140];with_reducible exact H2_)|(have H2_:=(Option.bind_some _ _).symm.trans H;with_reducible exact H2_)|with_reducible exact H|(rw[hy140];exact H)|exact H
  have Ny140:=zM hy140
  clear hy140
  obtain rfl:=Option.some.inj H
  go_enter Try.func35,Try.ntmps35
  go_wp2_with (first|((with_reducible refine gate_dst (N:=3) rfl ?_);refine Kd.R_lit (Kd.int .u8) _ 5 ?hg (N:=3) ?hd (xs:=([]:List Int)) (inner:=[]) (ok:=fun _=>True) (okp:=fun _=>True) ?hr ?hp (fun _ hk=>hk) trivial (Below.refl _ _) (Nat.le_refl _) zq101 ?_;(case hd=>rfl);(case hg=>rfl);(case hr=>first|(go_simp;done)|(go_simp;rfl));(case hp=>exact(Reps.none _ _));intro v138 w3 ho4 hb hg_ hnew_;clear hg_ hnew_;(first|rw[← Ny137.out] at ho4|(simp only[Int.reduceToNat] at ho4;rw[← Ny137.out] at ho4));have n0_:=zM (Kd.R_lower ho4 (below_size zq0));have n1_:=zM (below_step zq0 hb);clear HB;have HO139:=n0_;have HB:=n1_;clear n0_ n1_;clear hb ho4)|((with_reducible refine gate_builtin (b:=.append) (xs:=#[.tmp 3,.tmp 4]) rfl ?_);at_builtin;refine Kd.R_append_rows (Kd.int .u8) (w0:=w) w.heap.size rfl (.tmp 3) (.tmp 4) 22 5 (.int .u8 0) 1 rfl Try.underlying22 info5 rfl zq22 zq9 v138 y137 l0 _ _ _ (fun _=>True) (fun _=>False) rfl rfl ?aO ?aR (fun _ _ h=>h) (fun _ h=>h.elim) ?aF ?aB ?aS ?aL ?_;(case aR=>exact zq26);(case aB=>exact zq0);(case aF=>exact(fun _ _=>trivial));(case aO=>exact(by(with_reducible repeat (first|apply Kd.R_alloc|apply Kd.R_drewN|apply Kd.R_drew));exact HO139.out));(case aS=>exact(below_size zq0));(case aL=>have:=LMc2.out;omega);intro v141 w5 ho hb hg hat;rw[← Ny140.out] at ho;have n0_:=zM (hb);have n1_:=zM (ho);clear HB;clear HO139;have HB:=n0_;have HO142:=n1_;clear n0_ n1_;clear ho hb hg hat))
  go_ret
  exact⟨_,zq14,by(with_reducible repeat (first|apply Kd.R_alloc|apply Kd.R_drewN|apply Kd.R_drew));exact HO142.out,zq0⟩
 ·rw[if_neg c2] at H
  exact absurd H zq101
def spec_l1Read.l0:Nat→List Int→Int→Int→Int→Int→Option (Int)
 | 0,_,_,_,_,_=>none
 | k+1,x0,x1,x2,x7,x8=>if x8 < x2 then (if 0≤(wrap64 (x1+x8)) then (if (wrap64 (x1+x8)) < (x0.length:Int) then (spec_l1Read.l0 k x0 x1 x2 (wrap64 ((wrap64 (x7*256))+(wrap64 (rd x0 (wrap64 (x1+x8)))))) (wrap64 (x8+1))) else (none)) else (none)) else (some x7)
def spec_l1Read.f (k:Nat) (l0:List Int) (a1:Int) (a2:Int):Option (Int):=spec_l1Read.l0 k l0 a1 a2 0 0
theorem spec_l1Read.mono_l:∀ k,(∀ y0 y1 y2 y3 y4,LeO (spec_l1Read.l0 k y0 y1 y2 y3 y4) (spec_l1Read.l0 (k+1) y0 y1 y2 y3 y4))
 | 0=>fun _ _ _ _ _ r h=>by simp[spec_l1Read.l0] at h
 | k+1=>by
  have ih0:=spec_l1Read.mono_l k
  ·intro y0 y1 y2 y3 y4
   unfold spec_l1Read.l0
   repeat' first
   | (with_reducible exact ih0 _ _ _ _ _)
   | (with_reducible exact LeO.refl _)
   | (with_reducible exact LeO.none _)
   | (with_reducible refine LeO.ite ?_ ?_)
   | (with_reducible refine LeO.bind ?_ (fun _=>?_))
   | exact ih0 _ _ _ _ _
   | exact LeO.none _
   | refine LeO.ite ?_ ?_
   | refine LeO.bind ?_ (fun _=>?_)
theorem spec_l1Read.mono:∀ a0 a1 a2 k,LeO (spec_l1Read.f k a0 a1 a2) (spec_l1Read.f (k+1) a0 a1 a2):=by
 intro a0 a1 a2 k
 have ih0:=spec_l1Read.mono_l k
 unfold spec_l1Read.f
 repeat' first
   | (with_reducible exact ih0 _ _ _ _ _)
   | (with_reducible exact LeO.refl _)
   | (with_reducible exact LeO.none _)
   | (with_reducible refine LeO.ite ?_ ?_)
   | (with_reducible refine LeO.bind ?_ (fun _=>?_))
   | exact ih0 _ _ _ _ _
   | exact LeO.none _
   | refine LeO.ite ?_ ?_
   | refine LeO.bind ?_ (fun _=>?_)
set_option maxHeartbeats 8000000 in
set_option maxRecDepth 100000 in
theorem spec_l1Read.calls (k:Nat) (A0:Option Addr) (c0:Nat) (l0:List Int) (a1:Int) (a2:Int) (r:Int) (w:World) (hr0:Kd.C (Kd.int .u8) w A0 l0.length l0) (hc0:l0.length≤c0) (h:spec_l1Read.f k l0 a1 a2=some r) :
  Calls Try.prog 79 #[.slice A0 l0.length c0,.int .i64 a1,.int .i64 a2] w fun e w'=>e=.returned (.int .i64 r)∧Drawn0 w w':=by
 have HR0:=zM hr0
 have HC0:=zM hc0
 clear hr0 hc0
 have H:(spec_l1Read.l0 k l0 a1 a2 0 0)=some r:=h
 clear h
 have H':=zM H
 clear H
 go_enter Try.func79,Try.ntmps79
 go_wp2
 go_loopg [7,8] k (fun kq v7 v8 w'=>∃ (x7_1:Int) (x8_1:Int),v7=.int .i64 x7_1∧v8=.int .i64 x8_1∧Aside0 (spec_l1Read.l0 kq l0 a1 a2 x7_1 x8_1=some r)∧Aside0 (kq≤k)∧Drawn0 w w')
 case atStart=>exact⟨(0),(0),zq8,zq8,H',⟨Nat.le_refl _⟩,zq47⟩
 case round=>
  clear H'
  try clear p2
  obtain⟨x7_1,x8_1,rfl,rfl,HA,HK1,⟨m1,rfl⟩⟩:=hrel
  cases gk with
  | zero=>exact absurd HA.out (by simp[spec_l1Read.l0])
  | succ k1=>
   have H:=HA.out
   clear HA
   simp only[spec_l1Read.l0] at H
   by_cases c4:x8_1 < a2
   ·rw[if_pos c4] at H
    have c4b0:decide (x8_1 < a2)=true:=decide_eq_true c4
    clear c4
    obtain⟨ji5,hji5⟩:∃ j_:Int,(wrap64 (a1+x8_1))=j_:=⟨_,rfl⟩
    replace H:(if 0≤(ji5) then (if (ji5) < (l0.length:Int) then (spec_l1Read.l0 k1 l0 a1 a2 (wrap64 ((wrap64 (x7_1*256))+(wrap64 (rd l0 (ji5))))) (wrap64 (x8_1+1))) else (none)) else (none))=some r:=by first|(rw[hji5] at H;exact H)|(simp only[hji5] at H ⊢;exact H)
    have hji5w:(IntKind.i64.wrap (a1+x8_1))=ji5:=(i64_w _).trans hji5
    by_cases c6:0≤(ji5)
    ·rw[if_pos c6] at H
     have c6b0:decide (0≤(ji5))=true:=decide_eq_true c6
     clear c6
     by_cases c7:(ji5) < (l0.length:Int)
     ·rw[if_pos c7] at H
      have c7b0:decide ((ji5) < (l0.length:Int))=true:=decide_eq_true c7
      clear c7
      have H':=zM H
      clear H
      have p339:0≤((ji5):Int):=of_decide_eq_true zq7
      have q339:(ji5) < (l0.length:Int):=of_decide_eq_true zq7
      obtain⟨ad339,e339,hx339_0⟩:=Kd.at_int HR0.out (ji5) p339 q339
      cases e339
      replace p339:=eq_true p339
      replace q339:=eq_true q339
      go_wp2
      go_roundg k1
      case measure=>have:=HK1.out;omega
      case rel=>exact⟨(wrap64 ((wrap64 (x7_1*256))+(wrap64 (rd l0 (ji5))))),(wrap64 (x8_1+1)),(by first|rfl|(simp;done)|(simp only[← hji5] <;> (first|rfl|simp))|(simp[*];done)),zq8,H',⟨zq153⟩,zq47⟩
     ·rw[if_neg c7] at H
      exact absurd H zq101
    ·rw[if_neg c6] at H
     exact absurd H zq101
   ·rw[if_neg c4] at H
    have c4b0:decide (x8_1 < a2)=false:=decide_eq_false c4
    clear c4
    obtain rfl:=Option.some.inj H
    go_wp2
    go_ret
    exact⟨zq8,zq47⟩
def spec_l1Pack.l0:Nat→Int→List Int→Int→Option (List Int)
 | 0,_,_,_=>none
 | k+1,x0,x5,x6=>if x6 ≥ 0 then (if 0≤x6 then (if x6 < (x5.length:Int) then (spec_l1Pack.l0 k (wrap64 (Int.tdiv x0 256)) (x5.set (x6:Int).toNat ((Int.tmod x0 256) % 256)) (wrap64 (x6 - 1))) else (none)) else (none)) else (some x5)
def spec_l1Pack.f (k:Nat) (a0:Int) (a1:Int):Option (List Int):=if 0≤a1 then (if (a1:Int).toNat≤281474976710656 then (spec_l1Pack.l0 k a0 (List.replicate (a1:Int).toNat 0) (wrap64 (a1 - 1))) else (none)) else (none)
theorem spec_l1Pack.mono_l:∀ k,(∀ y0 y1 y2,LeO (spec_l1Pack.l0 k y0 y1 y2) (spec_l1Pack.l0 (k+1) y0 y1 y2))
 | 0=>fun _ _ _ r h=>by simp[spec_l1Pack.l0] at h
 | k+1=>by
  have ih0:=spec_l1Pack.mono_l k
  ·intro y0 y1 y2
   unfold spec_l1Pack.l0
   repeat' first
   | (with_reducible exact ih0 _ _ _)
   | (with_reducible exact LeO.refl _)
   | (with_reducible exact LeO.none _)
   | (with_reducible refine LeO.ite ?_ ?_)
   | (with_reducible refine LeO.bind ?_ (fun _=>?_))
   | exact ih0 _ _ _
   | exact LeO.none _
   | refine LeO.ite ?_ ?_
   | refine LeO.bind ?_ (fun _=>?_)
theorem spec_l1Pack.mono:∀ a0 a1 k,LeO (spec_l1Pack.f k a0 a1) (spec_l1Pack.f (k+1) a0 a1):=by
 intro a0 a1 k
 have ih0:=spec_l1Pack.mono_l k
 unfold spec_l1Pack.f
 repeat' first
   | (with_reducible exact ih0 _ _ _)
   | (with_reducible exact LeO.refl _)
   | (with_reducible exact LeO.none _)
   | (with_reducible refine LeO.ite ?_ ?_)
   | (with_reducible refine LeO.bind ?_ (fun _=>?_))
   | exact ih0 _ _ _
   | exact LeO.none _
   | refine LeO.ite ?_ ?_
   | refine LeO.bind ?_ (fun _=>?_)
set_option maxHeartbeats 8000000 in
set_option maxRecDepth 100000 in
theorem spec_l1Pack.calls (k:Nat) (a0:Int) (a1:Int) (r:List Int) (w:World) (h:spec_l1Pack.f k a0 a1=some r) :
  Calls Try.prog 80 #[.int .i64 a0,.int .i64 a1] w fun e w'=>∃ v0_:Value,e=.returned (v0_)∧Kd.R (Kd.int .u8) 5 w' w.heap.size (fun _=>True) v0_ r∧Below w.heap.size w w':=by
 have HB:=zM (Below.refl w.heap.size w)
 have H:(if 0≤a1 then (if (a1:Int).toNat≤281474976710656 then (spec_l1Pack.l0 k a0 (List.replicate (a1:Int).toNat 0) (wrap64 (a1 - 1))) else (none)) else (none))=some r:=h
 clear h
 by_cases c3:0≤a1
 ·rw[if_pos c3] at H
  have c3b0:=eq_true c3
  have c3b1:decide (0≤a1)=true:=decide_eq_true c3
  clear c3
  by_cases c4:(a1:Int).toNat≤281474976710656
  ·rw[if_pos c4] at H
   have c4b0:=eq_true c4
   have c4b1:decide ((a1:Int).toNat≤281474976710656)=true:=decide_eq_true c4
   clear c4
   obtain⟨y340,hy340⟩:∃ y_:List Int,y_=(List.replicate (a1:Int).toNat 0):=⟨_,rfl⟩
   replace H:(spec_l1Pack.l0 k a0 y340 (wrap64 (a1 - 1)))=some r:=by first|(rw[hy340];with_reducible exact H)|(have H2_:=(Option.bind_some _ _).symm.trans H;rw[hy340];with_reducible exact H2_)|(have H2_:=(Option.bind_some _ _).symm.trans H;with_reducible exact H2_)|with_reducible exact H|(rw[hy340];exact H)|exact H
   have Ny340:=zM hy340
   clear hy340
   have H':=zM H
   clear H
   go_enter Try.func80,Try.ntmps80
   go_wp2_with (first|((with_reducible refine gate_dst (N:=8) rfl ?_);refine Kd.R_make (Kd.int .u8) _ 5 rfl (N:=8) rfl 22 _ _ rfl a1 rfl rfl Try.underlying22 (.int .u8 0) 1 info5 rfl zq22 zq9 0 (ok:=fun _=>True) (okp:=fun _=>True) rfl (fun _ hk=>hk) trivial (of_decide_eq_true zq7) (Nat.le_trans (Nat.mul_le_mul_right _ (of_decide_eq_true zq7:a1.toNat≤281474976710656)) zq9) (Below.refl _ _) (Nat.le_refl _) ?_;intro v341 w5 ho6 hb hg_ hnew_;clear hg_ hnew_;(first|rw[← Ny340.out] at ho6|(simp only[Int.reduceToNat] at ho6;rw[← Ny340.out] at ho6));have n0_:=zM (Kd.R_lower ho6 (below_size zq0));have n1_:=zM (below_step zq0 hb);clear HB;have HO342:=n0_;have HB:=n1_;clear n0_ n1_;clear hb ho6))
   go_loopg [0,6] k (fun kq v0 v6 w'=>∃ (x0_1:Int) (x5_1:List Int) (x6_1:Int),v0=.int .i64 x0_1∧v6=.int .i64 x6_1∧Aside0 (spec_l1Pack.l0 kq x0_1 x5_1 x6_1=some r)∧Aside0 (kq≤k)∧Aside0 (Kd.R (Kd.int .u8) 5 w' w.heap.size (fun _=>True) v341 x5_1)∧Aside0 (Below w.heap.size w w'))
   case atStart=>exact⟨(a0),(y340),(wrap64 (a1 - 1)),zq8,zq8,H',⟨Nat.le_refl _⟩,⟨by(with_reducible repeat (first|apply Kd.R_alloc|apply Kd.R_drewN|apply Kd.R_drew));exact HO342.out⟩,⟨zq0⟩⟩
   case round=>
    clear H'
    try clear p2
    try clear c3
    try clear c3b0
    try clear c3b1
    try clear c4
    try clear c4b0
    try clear c4b1
    try clear p6
    obtain⟨x0_1,x5_1,x6_1,rfl,rfl,HA,HK1,HO_5,HB⟩:=hrel
    cases gk with
    | zero=>exact absurd HA.out (by simp[spec_l1Pack.l0])
    | succ k1=>
     have H:=HA.out
     clear HA
     simp only[spec_l1Pack.l0] at H
     by_cases c7:x6_1 ≥ 0
     ·rw[if_pos c7] at H
      have c7b0:decide (0≤x6_1)=true:=decide_eq_true c7
      clear c7
      by_cases c8:0≤x6_1
      ·rw[if_pos c8] at H
       have c8b0:decide (0≤x6_1)=true:=decide_eq_true c8
       clear c8
       by_cases c9:x6_1 < (x5_1.length:Int)
       ·rw[if_pos c9] at H
        have c9b0:decide (x6_1 < (x5_1.length:Int))=true:=decide_eq_true c9
        clear c9
        obtain⟨y343,hy343⟩:∃ y_:List Int,y_=(x5_1.set (x6_1:Int).toNat ((Int.tmod x0_1 256) % 256)):=⟨_,rfl⟩
        replace H:(spec_l1Pack.l0 k1 (wrap64 (Int.tdiv x0_1 256)) y343 (wrap64 (x6_1 - 1)))=some r:=by first|(rw[hy343];with_reducible exact H)|(have H2_:=(Option.bind_some _ _).symm.trans H;rw[hy343];with_reducible exact H2_)|(have H2_:=(Option.bind_some _ _).symm.trans H;with_reducible exact H2_)|with_reducible exact H|(rw[hy343];exact H)|exact H
        have Ny343:=zM hy343
        clear hy343
        have H':=zM H
        clear H
        have p10:0≤(x6_1:Int):=of_decide_eq_true zq7
        have q10:(x6_1:Int) < ((x5_1.length:Int):Int):=of_decide_eq_true zq7
        obtain⟨go10,co10,eo10,gb10,gl10,cl10,HG10⟩:=Kd.R_form HO_5.out zq9
        (first|cases eo10|(injection eo10 with ea_ en_ ec_;(first|subst ea_|(injection ea_ with ea_;subst ea_));subst ec_;clear en_))
        have GB10:=zM gb10
        have GG10:=zM HG10
        clear gb10 gl10 HG10
        obtain⟨hx10_0,hf10_0⟩:=Kd.R_celln 0 HO_5.out (x6_1:Int) p10 q10
        replace p10:=eq_true p10
        replace q10:=eq_true q10
        have HP11:=Kd.R_putg HO_5.out (x6_1:Int) ((Int.tmod x0_1 256) % 256)
        go_wp2_with (first|((with_reducible refine gate_store (t:=5) (p:=20) rfl ?_);refine store_event (t:=5) (p:=20) (v:=?vo_w12) (w1:=(wr.setCell ⟨go10,(x6_1:Int).toNat,none⟩ (.int .u8 ((Int.tmod x0_1 256) % 256)))) ?hg ?ho ?hn ?hr ?_;(case ho=>rfl);(case hg=>rfl);(case hn=>rfl);(case hr=>first|(go_simp;done)|(go_simp;rfl));intro w12 hw;have hg:wr.grownBy w12 (some go10):=(by rw[hw];exact HP11.2);have hp_:Kd.R (Kd.int .u8) 5 w12 w.heap.size (fun _=>True) (.slice (some ⟨go10,0,none⟩) x5_1.length co10) y343:=(by rw[hw,Ny343.out];exact HP11.1);clear HP11;have n0_:=zM (hp_);have n1_:=zM ((by rw[hw];exact below_set (HB.out) GB10.out:Below w.heap.size w w12));clear HO_5;clear HB;have HO_5:=n0_;have HB:=n1_;clear n0_ n1_;clear hg hw hp_))
        go_roundg k1
        case measure=>have:=HK1.out;omega
        case rel=>exact⟨(wrap64 (Int.tdiv x0_1 256)),(y343),(wrap64 (x6_1 - 1)),zq8,zq8,H',⟨zq153⟩,⟨zq93⟩,⟨zq0⟩⟩
       ·rw[if_neg c9] at H
        exact absurd H zq101
      ·rw[if_neg c8] at H
       exact absurd H zq101
     ·rw[if_neg c7] at H
      have c7b0:decide (0≤x6_1)=false:=decide_eq_false c7
      clear c7
      obtain rfl:=Option.some.inj H
      go_wp2
      go_ret
      exact⟨_,zq14,zq93,zq0⟩
  ·rw[if_neg c4] at H
   exact absurd H zq101
 ·rw[if_neg c3] at H
  exact absurd H zq101
def spec_l3Count.f (k:Nat) (l0:List Int):Option (List Int):=(spec_l1Read.f k l0 12 4).bind fun t344=>(if 12≤(l0.length:Int) then ((spec_l1Copy.f (l0.take 12)).bind fun t346=>((spec_l1Pack.f k (Int.tmod (wrap64 (t344+1)) 4294967296) 4).bind fun t349=>(if t346.length+t349.length < 140737488355328 then (some (t346 ++ t349)) else (none)))) else (none))
theorem spec_l3Count.mono:∀ a0 k,LeO (spec_l3Count.f k a0) (spec_l3Count.f (k+1) a0):=by
 intro a0 k
 unfold spec_l3Count.f
 repeat' first
   | (with_reducible exact spec_l1Pack.mono _ _ _)
   | (with_reducible exact spec_l1Read.mono _ _ _ _)
   | (with_reducible exact LeO.refl _)
   | (with_reducible exact LeO.none _)
   | (with_reducible refine LeO.ite ?_ ?_)
   | (with_reducible refine LeO.bind ?_ (fun _=>?_))
   | exact spec_l1Pack.mono _ _ _
   | exact spec_l1Read.mono _ _ _ _
   | exact LeO.none _
   | refine LeO.ite ?_ ?_
   | refine LeO.bind ?_ (fun _=>?_)
set_option maxHeartbeats 8000000 in
set_option maxRecDepth 100000 in
theorem spec_l3Count.calls (k:Nat) (A0:Option Addr) (c0:Nat) (l0:List Int) (r:List Int) (w:World) (hr0:Kd.C (Kd.int .u8) w A0 l0.length l0) (hc0:l0.length≤c0) (h:spec_l3Count.f k l0=some r) :
  Calls Try.prog 66 #[.slice A0 l0.length c0] w fun e w'=>∃ v0_:Value,e=.returned (v0_)∧Kd.R (Kd.int .u8) 5 w' w.heap.size (fun _=>True) v0_ r∧Below w.heap.size w w':=by
 have HR0:=zM hr0
 have HC0:=zM hc0
 clear hr0 hc0
 have HB:=zM (Below.refl w.heap.size w)
 have H:((spec_l1Read.f k l0 12 4).bind fun t344=>(if 12≤(l0.length:Int) then ((spec_l1Copy.f (l0.take 12)).bind fun t346=>((spec_l1Pack.f k (Int.tmod (wrap64 (t344+1)) 4294967296) 4).bind fun t349=>(if t346.length+t349.length < 140737488355328 then (some (t346 ++ t349)) else (none)))) else (none)))=some r:=h
 clear h
 replace H:=Option.bind_eq_some_iff.mp H
 obtain⟨t344,A20,H⟩:=H
 replace H:(if 12≤(l0.length:Int) then ((spec_l1Copy.f (l0.take 12)).bind fun t346=>((spec_l1Pack.f k (Int.tmod (wrap64 (t344+1)) 4294967296) 4).bind fun t349=>(if t346.length+t349.length < 140737488355328 then (some (t346 ++ t349)) else (none)))) else (none))=some r:=H
 have A2:=zM A20
 clear A20
 by_cases c3:12≤(l0.length:Int)
 ·rw[if_pos c3] at H
  have c3b0:=eq_true c3
  have c3b1:decide (12≤(l0.length:Int))=true:=decide_eq_true c3
  clear c3
  replace H:=Option.bind_eq_some_iff.mp H
  obtain⟨t346,A40,H⟩:=H
  replace H:((spec_l1Pack.f k (Int.tmod (wrap64 (t344+1)) 4294967296) 4).bind fun t349=>(if t346.length+t349.length < 140737488355328 then (some (t346 ++ t349)) else (none)))=some r:=H
  have A4:=zM A40
  clear A40
  replace H:=Option.bind_eq_some_iff.mp H
  obtain⟨t349,A50,H⟩:=H
  replace H:(if t346.length+t349.length < 140737488355328 then (some (t346 ++ t349)) else (none))=some r:=H
  have A5:=zM A50
  clear A50
  by_cases c6:t346.length+t349.length < 140737488355328
  ·rw[if_pos c6] at H
   have LMc6:=zM c6
   clear c6
   obtain⟨y352,hy352⟩:∃ y_:List Int,y_=(t346 ++ t349):=⟨_,rfl⟩
   replace H:(some y352)=some r:=by first|(rw[hy352];with_reducible exact H)|(have H2_:=(Option.bind_some _ _).symm.trans H;rw[hy352];with_reducible exact H2_)|(have H2_:=(Option.bind_some _ _).symm.trans H;with_reducible exact H2_)|with_reducible exact H|(rw[hy352];exact H)|exact H
   have Ny352:=zM hy352
   clear hy352
   obtain rfl:=Option.some.inj H
   go_enter Try.func66,Try.ntmps66
   go_wp2_with (first|((with_reducible refine gate_callee (f:=79) rfl ?_);refine goesL_ (some 5) rfl rfl Try.func79 (by kernel_rfl) rfl #[.slice A0 l0.length c0,.int .i64 12,.int .i64 4] rfl zq1 ?_;(with_reducible refine(spec_l1Read.calls k _ _ l0 12 4 t344 _ ?side1 ?side2 A2.out).mono ?_);(case side1=>exact zq89);(case side2=>exact HC0.out);rintro e w' ⟨rfl,⟨nd,rfl⟩⟩;refine⟨_,rfl,?_⟩;obtain⟨i07,hi07,_,hsz7,_⟩:=info_parts info5;obtain⟨hcut7,hA7,hC7⟩:=print_take_of (P:=Try.prog) (Value.int .u8) 0 22 5 .i64 Try.underlying22 hi07 hsz7 A0 c0 l0 12 zq9 (of_decide_eq_true zq7) HC0.out;have HR345:=zM (Kd.C_of_reads (h1:=fun _=>rfl) (hA7 _ (Kd.reads_of_C HR0.out)));have HC345:=zM hC7;clear hA7 hC7 hi07 hsz7)|((with_reducible refine gate_callee (f:=35) rfl ?_);refine goesL_ (some 10) rfl rfl Try.func35 (by kernel_rfl) rfl #[.slice A0 (l0.take 12).length c0] rfl (by(try simp only[List.map_toArray,List.map_cons,List.map_nil]);first|done|(rw[show (l0.take 12).length=12 from (by rw[List.length_take];have h_:(12:Int)≤(l0.length:Int):=of_decide_eq_true zq7;omega)] <;> rfl)|rfl|(simp only[List.length_drop,List.length_take];rfl)) ?_;(with_reducible refine(spec_l1Copy.calls _ _ (l0.take 12) t346 _ ?side1 ?side2 A4.out).mono ?_);(case side1=>repeat (first|exact HR345.out|(with_reducible refine Kd.C_alloc ?_ _)|(with_reducible refine Kd.C_drewN ?_ _)|(with_reducible refine Kd.C_drew ?_)));(case side2=>exact HC345.out);rintro e w8 ⟨v347,rfl,ho0,hb⟩;refine⟨_,rfl,?_⟩;have n0_:=zM (Kd.R_lower ho0 (below_size zq0));have n1_:=zM (below_step zq0 hb);clear HB;have HO348:=n0_;have HB:=n1_;clear n0_ n1_;(try clear hb);(try clear hb2);(try clear hk);(try clear hi);(try clear ho0))|((with_reducible refine gate_callee (f:=80) rfl ?_);refine goesL_ (some 12) rfl rfl Try.func80 (by kernel_rfl) rfl #[.int .i64 (Int.tmod (wrap64 (t344+1)) 4294967296),.int .i64 4] rfl zq1 ?_;(with_reducible refine(spec_l1Pack.calls k (Int.tmod (wrap64 (t344+1)) 4294967296) 4 t349 _ A5.out).mono ?_);rintro e w9 ⟨v350,rfl,ho0,hb⟩;refine⟨_,rfl,?_⟩;have n0_:=zM (Kd.R_elder' (by(with_reducible repeat (first|apply Kd.R_alloc|apply Kd.R_drewN|apply Kd.R_drew));exact HO348.out) (Kd.R_base ho0) hb);have n1_:=zM (Kd.R_lower (Kd.R_new' ho0 (Kd.R_lt (by(with_reducible repeat (first|apply Kd.R_alloc|apply Kd.R_drewN|apply Kd.R_drew));exact HO348.out))) (below_size zq0));have n2_:=zM (below_step zq0 hb);clear HO348;clear HB;have HO348:=n0_;have HO351:=n1_;have HB:=n2_;clear n0_ n1_ n2_;(try clear hb);(try clear hb2);(try clear hk);(try clear hi);(try clear ho0);obtain⟨Ao11,co11,eo11⟩:=Kd.R_slice HO351.out;subst eo11)|((with_reducible refine gate_builtin (b:=.append) (xs:=#[.tmp 10,.tmp 12]) rfl ?_);at_builtin;refine Kd.R_append_rows (Kd.int .u8) (w0:=w) w.heap.size rfl (.tmp 10) (.tmp 12) 22 5 (.int .u8 0) 1 rfl Try.underlying22 info5 rfl zq22 zq9 v347 t346 t349 _ _ _ (fun k_=>some k_≠(.slice Ao11 t349.length co11:Value).ownBlock) (fun _=>False) rfl rfl ?aO ?aR (fun _ _ h=>h) (fun _ h=>h.elim) ?aF ?aB ?aS ?aL ?_;(case aR=>repeat (first|exact(Kd.R_reads' HO351.out).2.2|(with_reducible refine Kd.C_alloc ?_ _)|(with_reducible refine Kd.C_drewN ?_ _)|(with_reducible refine Kd.C_drew ?_)));(case aB=>exact zq0);(case aF=>exact(fun k_ hk=>Kd.fresh' (Kd.R_lt (by(with_reducible repeat (first|apply Kd.R_alloc|apply Kd.R_drewN|apply Kd.R_drew));exact HO351.out)) k_ hk));(case aO=>exact(by(with_reducible repeat (first|apply Kd.R_alloc|apply Kd.R_drewN|apply Kd.R_drew));exact Kd.R_mono HO348.out (fun _ hk=>hk.2)));(case aS=>exact(below_size zq0));(case aL=>have:=LMc6.out;omega);intro v353 w10 ho hb hg hat;rw[← Ny352.out] at ho;have n0_:=zM (Kd.R_after (ok:=(fun _=>True)) (by(with_reducible repeat (first|apply Kd.R_alloc|apply Kd.R_drewN|apply Kd.R_drew));exact HO351.out) hg hat);have n1_:=zM (hb);have n2_:=zM (ho);clear HO351;clear HB;clear HO348;have HO351:=n0_;have HB:=n1_;have HO354:=n2_;clear n0_ n1_ n2_;clear ho hb hg hat))
   go_ret
   exact⟨_,zq14,by(with_reducible repeat (first|apply Kd.R_alloc|apply Kd.R_drewN|apply Kd.R_drew));exact Kd.R_mono HO354.out (fun _ hk=>trivial),zq0⟩
  ·rw[if_neg c6] at H
   exact absurd H zq101
 ·rw[if_neg c3] at H
  exact absurd H zq101
end Go.Proofs.Ytkjgdndaepobiaa.All
