-- Laid by wip/shake.py of this repo out of this claim's texts. Not trusted: Lean checks it.
import Derived.Test.YtkjgdndaepobiaaAb0s
import Derived.Test.YtkjgdndaepobiaaAllx0s
namespace Go.Proofs.Ytkjgdndaepobiaa.All
open Go.Proofs.YtkjgdndaepobiaaW.PrintWords.Aside0 renaming mk→zM
open Go.RowKit Go.Proofs.YtkjgdndaepobiaaW.PrintWords Go.Proofs.YtkjgdndaepobiaaW.PrintLast Go.Proofs.YtkjgdndaepobiaaW.PrintMore
attribute [local go_sem] max2_int min2_int max_two min_two max_three min_three max_four min_four
set_option linter.unusedVariables false
set_option linter.unusedSimpArgs false
def spec_l3Bytes.l0:Nat→Int→Int→List Int→Int→Option (List Int)
 | 0,_,_,_,_=>none
 | k+1,x0,x1,x5,x6=>if x6 ≥ 0 then (if 0≤x6 then (if x6 < (x5.length:Int) then (if 0≤(wrap64 (8+x6)) then (if (wrap64 (8+x6)) < (x5.length:Int) then (spec_l3Bytes.l0 k (IntKind.u64.wrap (Int.tdiv x0 256)) (IntKind.u64.wrap (Int.tdiv x1 256)) ((x5.set (x6:Int).toNat ((Int.tmod x0 256) % 256)).set ((wrap64 (8+x6)):Int).toNat ((Int.tmod x1 256) % 256)) (wrap64 (x6 - 1))) else (none)) else (none)) else (none)) else (none)) else (some x5)
def spec_l3Bytes.f (k:Nat) (a0:Int) (a1:Int):Option (List Int):=if 16≤281474976710656 then (spec_l3Bytes.l0 k a0 a1 (List.replicate 16 0) 7) else (none)
theorem spec_l3Bytes.mono_l:∀ k,(∀ y0 y1 y2 y3,LeO (spec_l3Bytes.l0 k y0 y1 y2 y3) (spec_l3Bytes.l0 (k+1) y0 y1 y2 y3))
 | 0=>fun _ _ _ _ r h=>by simp[spec_l3Bytes.l0] at h
 | k+1=>by
  have ih0:=spec_l3Bytes.mono_l k
  ·intro y0 y1 y2 y3
   unfold spec_l3Bytes.l0
   repeat' first
   | (with_reducible exact ih0 _ _ _ _)
   | (with_reducible exact LeO.refl _)
   | (with_reducible exact LeO.none _)
   | (with_reducible refine LeO.ite ?_ ?_)
   | (with_reducible refine LeO.bind ?_ (fun _=>?_))
   | exact ih0 _ _ _ _
   | exact LeO.none _
   | refine LeO.ite ?_ ?_
   | refine LeO.bind ?_ (fun _=>?_)
theorem spec_l3Bytes.mono:∀ a0 a1 k,LeO (spec_l3Bytes.f k a0 a1) (spec_l3Bytes.f (k+1) a0 a1):=by
 intro a0 a1 k
 have ih0:=spec_l3Bytes.mono_l k
 unfold spec_l3Bytes.f
 repeat' first
   | (with_reducible exact ih0 _ _ _ _)
   | (with_reducible exact LeO.refl _)
   | (with_reducible exact LeO.none _)
   | (with_reducible refine LeO.ite ?_ ?_)
   | (with_reducible refine LeO.bind ?_ (fun _=>?_))
   | exact ih0 _ _ _ _
   | exact LeO.none _
   | refine LeO.ite ?_ ?_
   | refine LeO.bind ?_ (fun _=>?_)
set_option maxHeartbeats 8000000 in
set_option maxRecDepth 100000 in
theorem spec_l3Bytes.calls (k:Nat) (a0:Int) (a1:Int) (r:List Int) (w:World) (h:spec_l3Bytes.f k a0 a1=some r) :
  Calls Try.prog 88 #[.int .u64 a0,.int .u64 a1] w fun e w'=>∃ v0_:Value,e=.returned (v0_)∧Kd.R (Kd.int .u8) 5 w' w.heap.size (fun _=>True) v0_ r∧Below w.heap.size w w':=by
 have HB:=zM (Below.refl w.heap.size w)
 have H:(if 16≤281474976710656 then (spec_l3Bytes.l0 k a0 a1 (List.replicate 16 0) 7) else (none))=some r:=h
 clear h
 by_cases c3:16≤281474976710656
 ·rw[if_pos c3] at H
  have c3b0:=eq_true c3
  have c3b1:decide (16≤281474976710656)=true:=decide_eq_true c3
  clear c3
  obtain⟨y396,hy396⟩:∃ y_:List Int,y_=(List.replicate 16 0):=⟨_,rfl⟩
  replace H:(spec_l3Bytes.l0 k a0 a1 y396 7)=some r:=by first|(rw[hy396];with_reducible exact H)|(have H2_:=(Option.bind_some _ _).symm.trans H;rw[hy396];with_reducible exact H2_)|(have H2_:=(Option.bind_some _ _).symm.trans H;with_reducible exact H2_)|with_reducible exact H|(rw[hy396];exact H)|exact H
  have Ny396:=zM hy396
  clear hy396
  have H':=zM H
  clear H
  go_enter Try.func88,Try.ntmps88
  go_wp2_with (first|((with_reducible refine gate_dst (N:=7) rfl ?_);refine Kd.R_make (Kd.int .u8) _ 5 rfl (N:=7) rfl 22 _ _ rfl 16 rfl rfl Try.underlying22 (.int .u8 0) 1 info5 rfl zq22 zq9 0 (ok:=fun _=>True) (okp:=fun _=>True) rfl (fun _ hk=>hk) trivial zq9 zq9 (Below.refl _ _) (Nat.le_refl _) ?_;intro v397 w4 ho5 hb hg_ hnew_;clear hg_ hnew_;(first|rw[← Ny396.out] at ho5|(simp only[Int.reduceToNat] at ho5;rw[← Ny396.out] at ho5));have n0_:=zM (Kd.R_lower ho5 (below_size zq0));have n1_:=zM (below_step zq0 hb);clear HB;have HO398:=n0_;have HB:=n1_;clear n0_ n1_;clear hb ho5))
  go_loopg [0,1,6] k (fun kq v0 v1 v6 w'=>∃ (x0_1:Int) (x1_1:Int) (x5_1:List Int) (x6_1:Int),v0=.int .u64 x0_1∧v1=.int .u64 x1_1∧v6=.int .i64 x6_1∧Aside0 (spec_l3Bytes.l0 kq x0_1 x1_1 x5_1 x6_1=some r)∧Aside0 (kq≤k)∧Aside0 (Kd.R (Kd.int .u8) 5 w' w.heap.size (fun _=>True) v397 x5_1)∧Aside0 (Below w.heap.size w w'))
  case atStart=>exact⟨(a0),(a1),(y396),(7),zq8,zq8,zq8,H',⟨Nat.le_refl _⟩,⟨by(with_reducible repeat (first|apply Kd.R_alloc|apply Kd.R_drewN|apply Kd.R_drew));exact HO398.out⟩,⟨zq0⟩⟩
  case round=>
   clear H'
   try clear p2
   try clear c3
   try clear c3b0
   try clear c3b1
   obtain⟨x0_1,x1_1,x5_1,x6_1,rfl,rfl,rfl,HA,HK1,HO_5,HB⟩:=hrel
   cases gk with
   | zero=>exact absurd HA.out (by simp[spec_l3Bytes.l0])
   | succ k1=>
    have H:=HA.out
    clear HA
    simp only[spec_l3Bytes.l0] at H
    by_cases c6:x6_1 ≥ 0
    ·rw[if_pos c6] at H
     have c6b0:decide (0≤x6_1)=true:=decide_eq_true c6
     clear c6
     by_cases c7:0≤x6_1
     ·rw[if_pos c7] at H
      have c7b0:decide (0≤x6_1)=true:=decide_eq_true c7
      clear c7
      by_cases c8:x6_1 < (x5_1.length:Int)
      ·rw[if_pos c8] at H
       have c8b0:decide (x6_1 < (x5_1.length:Int))=true:=decide_eq_true c8
       clear c8
       obtain⟨y399,hy399⟩:∃ y_:List Int,y_=(x5_1.set (x6_1:Int).toNat ((Int.tmod x0_1 256) % 256)):=⟨_,rfl⟩
       replace H:(if 0≤(wrap64 (8+x6_1)) then (if (wrap64 (8+x6_1)) < (x5_1.length:Int) then (spec_l3Bytes.l0 k1 (IntKind.u64.wrap (Int.tdiv x0_1 256)) (IntKind.u64.wrap (Int.tdiv x1_1 256)) (y399.set ((wrap64 (8+x6_1)):Int).toNat ((Int.tmod x1_1 256) % 256)) (wrap64 (x6_1 - 1))) else (none)) else (none))=some r:=by first|(rw[hy399];with_reducible exact H)|(have H2_:=(Option.bind_some _ _).symm.trans H;rw[hy399];with_reducible exact H2_)|(have H2_:=(Option.bind_some _ _).symm.trans H;with_reducible exact H2_)|with_reducible exact H|(rw[hy399];exact H)|exact H
       have Ny399:=zM hy399
       clear hy399
       obtain⟨ji10,hji10⟩:∃ j_:Int,(wrap64 (8+x6_1))=j_:=⟨_,rfl⟩
       replace H:(if 0≤(ji10) then (if (ji10) < (x5_1.length:Int) then (spec_l3Bytes.l0 k1 (IntKind.u64.wrap (Int.tdiv x0_1 256)) (IntKind.u64.wrap (Int.tdiv x1_1 256)) (y399.set ((ji10):Int).toNat ((Int.tmod x1_1 256) % 256)) (wrap64 (x6_1 - 1))) else (none)) else (none))=some r:=by first|(rw[hji10] at H;exact H)|(simp only[hji10] at H ⊢;exact H)
       have hji10w:(IntKind.i64.wrap (8+x6_1))=ji10:=(i64_w _).trans hji10
       by_cases c11:0≤(ji10)
       ·rw[if_pos c11] at H
        have c11b0:decide (0≤(ji10))=true:=decide_eq_true c11
        clear c11
        by_cases c12:(ji10) < (x5_1.length:Int)
        ·rw[if_pos c12] at H
         have c12b0:decide ((ji10) < (x5_1.length:Int))=true:=decide_eq_true c12
         clear c12
         obtain⟨y400,hy400⟩:∃ y_:List Int,y_=(y399.set ((ji10):Int).toNat ((Int.tmod x1_1 256) % 256)):=⟨_,rfl⟩
         replace H:(spec_l3Bytes.l0 k1 (IntKind.u64.wrap (Int.tdiv x0_1 256)) (IntKind.u64.wrap (Int.tdiv x1_1 256)) y400 (wrap64 (x6_1 - 1)))=some r:=by first|(rw[hy400];with_reducible exact H)|(have H2_:=(Option.bind_some _ _).symm.trans H;rw[hy400];with_reducible exact H2_)|(have H2_:=(Option.bind_some _ _).symm.trans H;with_reducible exact H2_)|with_reducible exact H|(rw[hy400];exact H)|exact H
         have Ny400:=zM hy400
         clear hy400
         have H':=zM H
         clear H
         have p9:0≤(x6_1:Int):=of_decide_eq_true zq7
         have q9:(x6_1:Int) < ((x5_1.length:Int):Int):=of_decide_eq_true zq7
         obtain⟨go9,co9,eo9,gb9,gl9,cl9,HG9⟩:=Kd.R_form HO_5.out zq9
         (first|cases eo9|(injection eo9 with ea_ en_ ec_;(first|subst ea_|(injection ea_ with ea_;subst ea_));subst ec_;clear en_))
         have GB9:=zM gb9
         have GG9:=zM HG9
         clear gb9 gl9 HG9
         obtain⟨hx9_0,hf9_0⟩:=Kd.R_celln 0 HO_5.out (x6_1:Int) p9 q9
         replace p9:=eq_true p9
         replace q9:=eq_true q9
         have HP14:=Kd.R_putg HO_5.out (x6_1:Int) ((Int.tmod x0_1 256) % 256)
         go_wp2_with (first|((with_reducible refine gate_store (t:=5) (p:=17) rfl ?_);refine store_event (t:=5) (p:=17) (v:=?vo_w15) (w1:=(wr.setCell ⟨go9,(x6_1:Int).toNat,none⟩ (.int .u8 ((Int.tmod x0_1 256) % 256)))) ?hg ?ho ?hn ?hr ?_;(case ho=>rfl);(case hg=>rfl);(case hn=>rfl);(case hr=>first|(go_simp;done)|(go_simp;rfl));intro w15 hw;have hg:wr.grownBy w15 (some go9):=(by rw[hw];exact HP14.2);have hp_:Kd.R (Kd.int .u8) 5 w15 w.heap.size (fun _=>True) (.slice (some ⟨go9,0,none⟩) x5_1.length co9) y399:=(by rw[hw,Ny399.out];exact HP14.1);clear HP14;have n0_:=zM (hp_);have n1_:=zM ((by rw[hw];exact below_set (HB.out) GB9.out:Below w.heap.size w w15));clear HO_5;clear HB;have HO_5:=n0_;have HB:=n1_;clear n0_ n1_;clear hg hw hp_;have p13:0≤((ji10):Int):=of_decide_eq_true zq7;have q13:((ji10):Int) < ((x5_1.length:Int):Int):=of_decide_eq_true zq7;obtain⟨hx13_0,hf13_0⟩:=Kd.R_celln 0 HO_5.out ((ji10):Int) p13 q13;replace p13:=eq_true p13;replace q13:=eq_true q13;obtain⟨hy16_,hz16_⟩:=Kd.R_celln 0 HO_5.out ((ji10):Int) (of_decide_eq_true zq7) (of_decide_eq_true zq7);have HP16:=Kd.R_putg HO_5.out ((ji10):Int) ((Int.tmod x1_1 256) % 256))|((with_reducible refine gate_store (t:=5) (p:=24) rfl ?_);refine store_event (t:=5) (p:=24) (v:=?vo_w17) (w1:=(w15.setCell ⟨go9,((ji10):Int).toNat,none⟩ (.int .u8 ((Int.tmod x1_1 256) % 256)))) ?hg ?ho ?hn ?hr ?_;(case ho=>rfl);(case hg=>rfl);(case hn=>rfl);(case hr=>first|(go_simp;done)|(go_simp;rfl));intro w17 hw;have hg:w15.grownBy w17 (some go9):=(by rw[hw];exact HP16.2);have hp_:Kd.R (Kd.int .u8) 5 w17 w.heap.size (fun _=>True) (.slice (some ⟨go9,0,none⟩) x5_1.length co9) y400:=(by rw[hw,Ny400.out];exact HP16.1);clear HP16;have n0_:=zM (hp_);have n1_:=zM ((by rw[hw];exact below_set (HB.out) GB9.out:Below w.heap.size w w17));clear HO_5;clear HB;have HO_5:=n0_;have HB:=n1_;clear n0_ n1_;clear hg hw hp_))
         go_roundg k1
         case measure=>have:=HK1.out;omega
         case rel=>exact⟨(IntKind.u64.wrap (Int.tdiv x0_1 256)),(IntKind.u64.wrap (Int.tdiv x1_1 256)),(y400),(wrap64 (x6_1 - 1)),zq8,zq8,zq8,H',⟨zq153⟩,⟨zq93⟩,⟨zq0⟩⟩
        ·rw[if_neg c12] at H
         exact absurd H zq101
       ·rw[if_neg c11] at H
        exact absurd H zq101
      ·rw[if_neg c8] at H
       exact absurd H zq101
     ·rw[if_neg c7] at H
      exact absurd H zq101
    ·rw[if_neg c6] at H
     have c6b0:decide (0≤x6_1)=false:=decide_eq_false c6
     clear c6
     obtain rfl:=Option.some.inj H
     go_wp2
     go_ret
     exact⟨_,zq14,zq93,zq0⟩
 ·rw[if_neg c3] at H
  exact absurd H zq101
end Go.Proofs.Ytkjgdndaepobiaa.All
