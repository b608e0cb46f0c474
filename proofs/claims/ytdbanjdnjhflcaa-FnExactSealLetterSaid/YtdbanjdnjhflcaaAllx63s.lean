-- Laid by wip/shake.py of this repo out of this claim's texts. Not trusted: Lean checks it.
import Derived.Test.YtdbanjdnjhflcaaAb0s
import Derived.Test.YtdbanjdnjhflcaaAlgs
import Derived.Test.YtdbanjdnjhflcaaAllx35s
set_option linter.unusedSimpArgs false
set_option linter.unusedVariables false
namespace Go.Proofs.Ytdbanjdnjhflcaa.All
open Go.Proofs.YtdbanjdnjhflcaaW.PrintWords.Aside0 renaming mk→zM
open Go.RowKit Go.Proofs.YtdbanjdnjhflcaaW.PrintWords Go.Proofs.YtdbanjdnjhflcaaW.PrintLast Go.Proofs.YtdbanjdnjhflcaaW.PrintMore
attribute [local go_sem] max2_int min2_int max_two min_two max_three min_three max_four min_four
def laws_markByteS.l0:Nat→List Int→Int→Int→Option (Int × List Int)
 | 0,_,_,_=>none
 | k+1,x0,x1,x5=>if x5 < (x0.length:Int) then (if 0≤x5 then (laws_markByteS.l0 k (x0.set (x5:Int).toNat ((x1) % 256)) (wrap64 (x1+1)) (wrap64 (x5+1))) else (none)) else (some (x1,x0))
def laws_markByteS.f (k:Nat) (l0:List Int) (a1:Int):Option (Int × List Int):=laws_markByteS.l0 k l0 a1 0
theorem laws_markByteS.mono_l:∀ k,(∀ y0 y1 y2,LeO (laws_markByteS.l0 k y0 y1 y2) (laws_markByteS.l0 (k+1) y0 y1 y2))
 | 0=>fun _ _ _ r h=>by simp[laws_markByteS.l0] at h
 | k+1=>by
  have ih0:=laws_markByteS.mono_l k
  ·intro y0 y1 y2
   unfold laws_markByteS.l0
   repeat' first
   | (with_reducible exact ih0 _ _ _)
   | (with_reducible exact LeO.refl _)
   | (with_reducible exact LeO.none _)
   | (with_reducible refine LeO.ite ?_ ?_)
   | (with_reducible refine LeO.bind ?_ (fun _=>?_))
   | exact ih0 _ _ _
   | exact LeO.none _
   | refine LeO.ite ?_ ?_
   | refine LeO.bind ?_ (fun _=>?_)
theorem laws_markByteS.mono:∀ a0 a1 k,LeO (laws_markByteS.f k a0 a1) (laws_markByteS.f (k+1) a0 a1):=by
 intro a0 a1 k
 have ih0:=laws_markByteS.mono_l k
 unfold laws_markByteS.f
 repeat' first
   | (with_reducible exact ih0 _ _ _)
   | (with_reducible exact LeO.refl _)
   | (with_reducible exact LeO.none _)
   | (with_reducible refine LeO.ite ?_ ?_)
   | (with_reducible refine LeO.bind ?_ (fun _=>?_))
   | exact ih0 _ _ _
   | exact LeO.none _
   | refine LeO.ite ?_ ?_
   | refine LeO.bind ?_ (fun _=>?_)
set_option maxHeartbeats 8000000 in
set_option maxRecDepth 100000 in
theorem laws_markByteS.calls {e_:Nat} (k:Nat) (P0_:Nat→Prop) (u9000_:Value) (l0:List Int) (a1:Int) (r1:Int) (r2:List Int) (w0 w:World) (hB:Below w0.heap.size w0 w) (ho0:Kd.R (Kd.int .u8) e_ w w0.heap.size P0_ u9000_ l0) (h:laws_markByteS.f k l0 a1=some (r1,r2)) :
  Calls Try.prog 36 #[u9000_,.int .i64 a1] w fun e w'=>e=.returned (.int .i64 r1)∧Kd.R (Kd.int .u8) e_ w' w0.heap.size (fun k_=>(P0_ k_ ∨ w.heap.size≤k_)) u9000_ r2∧Below w0.heap.size w0 w'∧Kept w w' (fun k_=>P0_ k_):=by
 have HO0:=zM (show Kd.R (Kd.int .u8) e_ w w0.heap.size (fun k_=>(P0_ k_ ∨ w.heap.size≤k_)) u9000_ l0 from Kd.R_mono ho0 (fun k_ hk=>(.inl hk)))
 have HK:=zM (Kept.refl w (fun k_=>P0_ k_))
 have HW0:=zM hB.size
 have HB:=zM hB
 clear hB
 have H:(laws_markByteS.l0 k l0 a1 0)=some (r1,r2):=h
 clear h
 have H':=zM H
 clear H
 go_enter Try.func36,Try.ntmps36
 go_wp2
 go_loopg [1,5] k (fun kq v1 v5 w'=>∃ (x0_1:List Int) (x1_1:Int) (x5_1:Int),v1=.int .i64 x1_1∧v5=.int .i64 x5_1∧Aside0 (laws_markByteS.l0 kq x0_1 x1_1 x5_1=some (r1,r2))∧Aside0 (kq≤k)∧Aside0 (Kd.R (Kd.int .u8) e_ w' w0.heap.size (fun k_=>(P0_ k_ ∨ w.heap.size≤k_)) u9000_ x0_1)∧Aside0 (Kept w w' (fun k_=>P0_ k_))∧Aside0 (Below w0.heap.size w0 w'))
 case atStart=>exact⟨(l0),(a1),(0),zq7,zq7,H',⟨Nat.le_refl _⟩,⟨by(with_reducible repeat (first|apply Kd.R_alloc|apply Kd.R_drewN|apply Kd.R_drew));exact HO0.out⟩,⟨zq124⟩,⟨zq0⟩⟩
 case round=>
  clear H'
  try clear p2
  obtain⟨x0_1,x1_1,x5_1,rfl,rfl,HA,HK1,HO_0,HK,HB⟩:=hrel
  cases gk with
  | zero=>exact absurd HA.out (by simp[laws_markByteS.l0])
  | succ k1=>
   have H:=HA.out
   clear HA
   simp only[laws_markByteS.l0] at H
   by_cases c3:x5_1 < (x0_1.length:Int)
   ·rw[if_pos c3] at H
    have c3b0:decide (x5_1 < (x0_1.length:Int))=true:=decide_eq_true c3
    clear c3
    by_cases c4:0≤x5_1
    ·rw[if_pos c4] at H
     have c4b0:decide (0≤x5_1)=true:=decide_eq_true c4
     clear c4
     obtain⟨y405,hy405⟩:∃ y_:List Int,y_=(x0_1.set (x5_1:Int).toNat ((x1_1) % 256)):=⟨_,rfl⟩
     replace H:(laws_markByteS.l0 k1 y405 (wrap64 (x1_1+1)) (wrap64 (x5_1+1)))=some (r1,r2):=by first|(rw[hy405];with_reducible exact H)|(have H2_:=(Option.bind_some _ _).symm.trans H;rw[hy405];with_reducible exact H2_)|(have H2_:=(Option.bind_some _ _).symm.trans H;with_reducible exact H2_)|with_reducible exact H|(rw[hy405];exact H)|exact H
     have Ny405:=zM hy405
     clear hy405
     have H':=zM H
     clear H
     obtain⟨Ao6,co6,eo6⟩:=Kd.R_slice HO_0.out
     subst eo6
     have p5:0≤(x5_1:Int):=of_decide_eq_true zq6
     have q5:(x5_1:Int) < ((x0_1.length:Int):Int):=of_decide_eq_true zq6
     obtain⟨go5,co5,eo5,gb5,gl5,cl5,HG5⟩:=Kd.R_form HO_0.out zq8
     (first|cases eo5|(injection eo5 with ea_ en_ ec_;(first|subst ea_|(injection ea_ with ea_;subst ea_));subst ec_;clear en_))
     have GB5:=zM gb5
     have GG5:=zM HG5
     clear gb5 gl5 HG5
     have HMgo5:=zM (show (P0_ go5 ∨ w.heap.size≤go5) from (HO_0.out.1 _ rfl))
     obtain⟨hx5_0,hf5_0⟩:=Kd.R_celln 0 HO_0.out (x5_1:Int) p5 q5
     replace p5:=eq_true p5
     replace q5:=eq_true q5
     have HP7:=Kd.R_putg HO_0.out (x5_1:Int) ((x1_1) % 256)
     go_wp2_with (first|((with_reducible refine gate_store (t:=5) (p:=16) rfl ?_);refine store_event (t:=5) (p:=16) (v:=?vo_w8) (w1:=(wr.setCell ⟨go5,(x5_1:Int).toNat,none⟩ (.int .u8 ((x1_1) % 256)))) ?hg ?ho ?hn ?hr ?_;(case ho=>rfl);(case hg=>rfl);(case hn=>rfl);(case hr=>first|(go_simp;done)|(go_simp;rfl));intro w8 hw;have hg:wr.grownBy w8 (some go5):=(by rw[hw];exact HP7.2);have hp_:Kd.R (Kd.int .u8) e_ w8 w0.heap.size (fun k_=>(P0_ k_ ∨ w.heap.size≤k_)) (.slice (some ⟨go5,0,none⟩) x0_1.length co6) y405:=(by rw[hw,Ny405.out];exact HP7.1);clear HP7;have n0_:=zM (hp_);have n1_:=zM ((by rw[hw];exact below_set (HB.out) GB5.out:Below w0.heap.size w0 w8));have n2_:=zM (Kept.of_grown (S:=(fun k_=>P0_ k_)) hg zq124 (fun k_ e_=>(HO_0.out.1 k_ e_)));clear HO_0;clear HB;clear HK;have HO_0:=n0_;have HB:=n1_;have HK:=n2_;clear n0_ n1_ n2_;clear hg hw hp_))
     go_roundg k1
     case measure=>have:=HK1.out;omega
     case rel=>exact⟨(y405),(wrap64 (x1_1+1)),(wrap64 (x5_1+1)),zq7,zq7,H',⟨zq79⟩,⟨zq183⟩,⟨zq124⟩,⟨zq0⟩⟩
    ·rw[if_neg c4] at H
     exact absurd H zq73
   ·rw[if_neg c3] at H
    have c3b0:decide (x5_1 < (x0_1.length:Int))=false:=decide_eq_false c3
    clear c3
    simp only[Option.some.injEq,Prod.mk.injEq] at H
    obtain⟨rfl,rfl⟩:=H
    obtain⟨Ao9,co9,eo9⟩:=Kd.R_slice HO_0.out
    subst eo9
    go_wp2
    go_ret
    exact⟨zq3,zq183,zq0,zq124⟩
def markKs (k:Nat):List S54→Int→Option (Int × List S54)
 | [],c=>some (c,[])
 | x :: xs,c=>(laws_markByteS.f k x.f1 (wrap64 (c+1))).bind fun b=>(markKs k xs b.1).bind fun r=>some (r.1,⟨c,b.2⟩ :: r.2)
theorem markKs_step (k:Nat) (x:S54) (l:List S54) (c:Int) (ys:List S54) (r:Int × List S54) (h:(markKs k (x :: l) c).bind (fun q=>some (q.1,ys ++ q.2))=some r):∃ b1 b2,laws_markByteS.f k x.f1 (wrap64 (c+1))=some (b1,b2)∧(markKs k l b1).bind (fun q=>some (q.1,(ys ++ [(⟨c,b2⟩:S54)]) ++ q.2))=some r:=by
 simp only[markKs] at h
 cases h1:laws_markByteS.f k x.f1 (wrap64 (c+1)) with
 | none=>rw[h1] at h;cases h
 | some b=>
  obtain⟨b1,b2⟩:=b
  rw[h1] at h
  simp only[Option.bind_some] at h
  refine⟨b1,b2,rfl,?_⟩
  cases h2:markKs k l b1 with
  | none=>rw[h2] at h;cases h
  | some q=>
   rw[h2] at h
   simp only[Option.bind_some] at h
   rw[← h]
   simp
theorem set_next (ys xs:List S54) (i:Nat) (z:S54) (h:i < xs.length) (hy:ys.length=i):(ys ++ xs.drop i).set i z=ys ++ [z] ++ xs.drop (i+1):=by
 rw[List.drop_eq_getElem_cons h,List.append_assoc,List.set_append_right _ _ zq8,hy,Nat.sub_self]
 rfl
theorem rd_mid (ys xs:List S54) (i:Nat) (h:i < xs.length) (hy:ys.length=i):(ys ++ xs.drop i).getD i z54=xs[i]:=by
 rw[List.getD_eq_getElem?_getD,List.getElem?_append_right zq8,hy,Nat.sub_self,List.getElem?_drop,Nat.add_zero,List.getElem?_eq_getElem h]
 rfl
set_option maxHeartbeats 4000000 in
set_option maxRecDepth 100000 in
theorem laws_markKeyS.calls (k:Nat) (Z:Nat→Prop) (u:Value) (l0:List S54) (a1:Int) (r1:Int) (r2:List S54) (w0 w:World) (hB:Below w0.heap.size w0 w) (hl0:l0.length < 140737488355328) (ho:Kd.S k54 54 w w0.heap.size Z u l0) (h:markKs k l0 a1=some (r1,r2)) :
  Calls Try.prog 35 #[u,.int .i64 a1] w fun e w'=>e=.returned (.int .i64 r1)∧Kd.S k54 54 w' w0.heap.size Z u r2∧Below w0.heap.size w0 w'∧Kept w w' Z:=by
 have HLB:=zM hl0
 have HB:=zM hB
 have HK:=zM (Kept.refl w Z)
 have HO:=zM ho
 have H':=zM h
 clear hB ho h hl0
 obtain⟨A,c,eo⟩:=Kd.S_slice HO.out
 subst eo
 go_enter Try.func35,Try.ntmps35
 go_wp2
 go_loopw [1,5] (fun v1 v5 W=>∃ (kk:Nat) (x1:Int) (ys:List S54),kk≤l0.length∧ys.length=kk∧v1=.int .i64 x1∧v5=.int .i64 kk∧Aside0 ((markKs k (l0.drop kk) x1).bind (fun q=>some (q.1,ys ++ q.2))=some (r1,r2))∧Aside0 (Kd.S k54 54 W w0.heap.size Z (.slice A l0.length c) (ys ++ l0.drop kk))∧Aside0 (Below w0.heap.size w0 W)∧Aside0 (Kept w W Z)) (fun _ v5 _=>l0.length - (intOf v5).toNat)
 case atStart=>exact⟨0,a1,[],Nat.zero_le _,rfl,rfl,rfl,⟨by rw[List.drop_zero,H'.out];rfl⟩,HO,HB,HK⟩
 case round=>
  clear HB HK HO H'
  obtain⟨kk,x1,ys,hk,hy,rfl,rfl,HP,HO,HB,HK⟩:=hrel
  by_cases hl:kk < l0.length
  ·have hd:decide (kk < l0.length)=true:=decide_eq_true hl
   have hlt:=zM hl
   have HY:=zM hy
   clear hy
   have hnx:=HP.out
   rw[List.drop_eq_getElem_cons hl] at hnx
   obtain⟨b1,b2,hb1,hq⟩:=markKs_step k _ _ x1 ys (r1,r2) hnx
   have HA:=zM hb1
   have HP2:=zM hq
   clear hnx hq hb1 HP
   have hh:∃ g,A=some ⟨g,0,none⟩:=by
    obtain⟨g,cap,eu,_⟩:=Kd.S_form HO.out (by rw[List.length_append,List.length_drop];omega)
    injection eu with e1 e2 e3
    exact⟨g,e1⟩
   obtain⟨g,rfl⟩:=hh
   have HZ:=zM ((Kd.S_R HO.out).1 g rfl)
   have HG:=zM (Kd.S_base HO.out g rfl)
   obtain⟨oki,ce,hcl,hM,hcc,hfr,hoki,hH⟩:=Kd.S_elem HO.out z54 (kk:Int) zq8 zq8
   rw[Int.toNat_natCast,rd_mid ys l0 kk hl HY.out] at hM
   have HE:=zM (set_next ys l0 kk ⟨x1,b2⟩ hl HY.out)
   generalize l0[kk]=x at hM HA
   obtain⟨v1,rfl,g1⟩:=k54_openM hM
   have HS:=zM (Kd.S_seg0 hH zq8 zq8 (seg:=[.int .i64 x1]) (j:=0) (show 1≤2 by decide) (x':=(⟨x1,x.f1⟩:S54)) (k54_mkM _ _ _ (⟨x1,x.f1⟩:S54) g1) (fun _ h=>h))
   have hx0:wr.cell? ⟨g,kk*2,none⟩=some (.int .i64 x.f0):=by have h9:=hcc 0 _ rfl;rw[Int.toNat_natCast] at h9;exact h9
   have hf0:wr.frozen? ⟨g,kk*2,none⟩=false:=by have h9:=hfr 0;rw[Int.toNat_natCast] at h9;exact h9
   clear hcl hcc hfr hoki hH hM g1
   go_wp2_with (first
    | ((with_reducible refine gate_store (t:=2) (p:=16) rfl ?_);refine store_event (t:=2) (p:=16) (v:=?vo_w1) (w1:=(wr.setCell ⟨g,kk*2,none⟩ (.int .i64 x1))) ?hg ?ho ?hn ?hr ?_;(case ho=>rfl);(case hg=>rfl);(case hn=>rfl);(case hr=>first|(go_simp;done)|(go_simp;rfl));intro w2 hw;have n0_:Aside0 (Kd.S k54 54 w2 w0.heap.size Z (.slice (some ⟨g,0,none⟩) l0.length c) ((ys ++ l0.drop kk).set (kk:Int).toNat (⟨x1,x.f1⟩:S54))):=⟨by rw[hw];exact HS.out.1⟩;have n1_:Aside0 (Below w0.heap.size w0 w2):=⟨by rw[hw];exact below_set HB.out HG.out⟩;have n2_:Aside0 (Kept w w2 Z):=⟨by rw[hw];exact Kept.setCell HK.out (.inl HZ.out) _⟩;clear HS HO HB HK hw hx0 hf0;have HO:=n0_;have HB:=n1_;have HK:=n2_;clear n0_ n1_ n2_;obtain⟨oki2,ce2,hcl2,hM2,hcc2,hfr2,hoki2,hH2⟩:=Kd.S_elem HO.out z54 (kk:Int) zq8 zq8;rw[Int.toNat_natCast,List.getD_eq_getElem?_getD,List.getElem?_set_self (by rw[List.length_append,List.length_drop,HY.out];omega)] at hM2;obtain⟨v2,rfl,g2⟩:=k54_openM hM2;obtain⟨A2,c2,ev2⟩:=Kd.R_slice g2;subst ev2;have G2:=zM g2;have HH2:=zM hH2;have HOK:=zM hoki2;have hx1:w2.cell? ⟨g,kk*2+1,none⟩=some (.slice A2 x.f1.length c2):=(by have h9:=hcc2 1 _ rfl;rw[Int.toNat_natCast] at h9;exact h9);clear hcl2 hcc2 hfr2 hM2 g2 hH2 hoki2)
    | (go_at_call 36;(with_reducible refine(laws_markByteS.calls (e_:=5) k (fun k_=>some k_=(.slice A2 x.f1.length c2:Value).ownBlock) (.slice A2 x.f1.length c2) x.f1 (wrap64 (x1+1)) b1 b2 w0 w2 HB.out (Kd.R_tight rfl G2.out) HA.out).mono ?_);rintro e w3 ⟨rfl,hr,hb,hkp⟩;have n0_:Aside0 (Kd.S k54 54 w3 w0.heap.size Z (.slice (some ⟨g,0,none⟩) l0.length c) ((ys ++ [(⟨x1,b2⟩:S54)]) ++ l0.drop (kk+1))):=⟨by have h9:=Kd.H_back (Kd.H_kept HH2.out hkp (fun k_ h1 h2 h3=>h2 (G2.out.1 k_ h3.symm))) (k54_mkM _ _ _ (⟨x1,b2⟩:S54) (Kd.R_mono (Kd.R_tight rfl hr) (fun k_ h3=>G2.out.1 k_ h3.symm))) (fun _ h=>h);rw[List.set_set,Int.toNat_natCast,HE.out] at h9;exact h9⟩;have n1_:=zM hb;have n2_:=zM (Kept.then_ HK.out hkp (fun k_ h3=>.inl (HOK.out k_ (G2.out.1 k_ h3.symm)).1));clear HO HB HK hb hkp hr hx1;have HO:=n0_;have HB:=n1_;have HK:=n2_;clear n0_ n1_ n2_))
   go_roundw
   case rel=>exact⟨kk+1,b1,ys ++ [(⟨x1,b2⟩:S54)],hlt.out,by rw[List.length_append,HY.out];rfl,rfl,congrArg _ (wrap_next kk _ hlt.out HLB.out),HP2,HO,HB,HK⟩
   case measure=>exact next_less kk _ hlt.out HLB.out
  ·obtain rfl:kk=l0.length:=by omega
   have HP2:Aside0 (x1=r1∧ys=r2):=⟨by
    have h9:=HP.out
    rw[List.drop_length] at h9
    simp only[markKs,Option.bind_some,Option.some.injEq,Prod.mk.injEq,List.append_nil] at h9
    exact h9⟩
   rw[List.drop_length,List.append_nil] at HO
   obtain⟨e1,e2⟩:=HP2.out
   subst e1 e2
   clear HP HP2
   go_wp2
   go_ret
   exact⟨rfl,HO.out,HB.out,HK.out⟩
set_option maxHeartbeats 4000000 in
set_option maxRecDepth 100000 in
theorem laws_markRing.calls (k:Nat) (Z:Nat→Prop) (a0_0:Int) (A:Option Addr) (c:Nat) (l:List S54) (a1:Int) (r1:Int) (r2:List S54) (w0 w:World) (hB:Below w0.heap.size w0 w) (hl0:l.length < 140737488355328) (ho:Kd.S k54 54 w w0.heap.size Z (.slice A l.length c) l) (h:markKs k l a1=some (r1,r2)) :
  Calls Try.prog 13 #[.agg #[.int .i64 a0_0,.slice A l.length c],.int .i64 a1] w fun e w'=>e=.returned (.int .i64 r1)∧Kd.S k54 54 w' w0.heap.size Z (.slice A l.length c) r2∧Below w0.heap.size w0 w'∧Kept w w' Z:=by
 have HB:=zM hB
 have HO:=zM ho
 have HH:=zM h
 clear hB ho h
 go_enter Try.func13,Try.ntmps13
 go_wp2_with (go_at_call 35;refine(laws_markKeyS.calls k Z _ l a1 r1 r2 w0 _ (below_alloc HB.out _) hl0 (Kd.S_alloc HO.out _) HH.out).mono ?_;rintro e wk ⟨rfl,ho2,hb2,hk2⟩)
 go_ret
 exact⟨rfl,ho2,hb2,Kept.then_ (Kept.alloc (Kept.refl w Z) _) hk2 (fun _ h9=>.inl h9)⟩
def laws_markLetter.f (k:Nat) (a0_0:Int) (a0_1:Int) (a0_2:Int) (l0_3:List Int) (a1:Int):Option (Int × List Int):=(laws_markByteS.f k l0_3 a1).bind fun bt407=>(some (bt407.1,bt407.2))
theorem laws_markLetter.mono:∀ a0 a1 a2 a3 a4 k,LeO (laws_markLetter.f k a0 a1 a2 a3 a4) (laws_markLetter.f (k+1) a0 a1 a2 a3 a4):=by
 intro a0 a1 a2 a3 a4 k
 unfold laws_markLetter.f
 repeat' first
   | (with_reducible exact laws_markByteS.mono _ _ _)
   | (with_reducible exact LeO.refl _)
   | (with_reducible exact LeO.none _)
   | (with_reducible refine LeO.ite ?_ ?_)
   | (with_reducible refine LeO.bind ?_ (fun _=>?_))
   | exact laws_markByteS.mono _ _ _
   | exact LeO.none _
   | refine LeO.ite ?_ ?_
   | refine LeO.bind ?_ (fun _=>?_)
set_option maxHeartbeats 8000000 in
set_option maxRecDepth 100000 in
theorem laws_markLetter.calls (k:Nat) (a0_0:Int) (a0_1:Int) (a0_2:Int) (P0_3_:Nat→Prop) (u9000_:Value) (l0_3:List Int) (a1:Int) (r1:Int) (r2:List Int) (w0 w:World) (hB:Below w0.heap.size w0 w) (ho0_3:Kd.R (Kd.int .u8) 5 w w0.heap.size P0_3_ u9000_ l0_3) (h:laws_markLetter.f k a0_0 a0_1 a0_2 l0_3 a1=some (r1,r2)) :
  Calls Try.prog 14 #[.agg #[.int .i64 a0_0,.int .i64 a0_1,.int .i64 a0_2,u9000_],.int .i64 a1] w fun e w'=>e=.returned (.int .i64 r1)∧Kd.R (Kd.int .u8) 5 w' w0.heap.size (fun k_=>(P0_3_ k_ ∨ w.heap.size≤k_)) u9000_ r2∧Below w0.heap.size w0 w'∧Kept w w' (fun k_=>P0_3_ k_):=by
 have hu37:=Try.underlying37
 have HO0_3:=zM (show Kd.R (Kd.int .u8) 5 w w0.heap.size (fun k_=>(P0_3_ k_ ∨ w.heap.size≤k_)) u9000_ l0_3 from Kd.R_mono ho0_3 (fun k_ hk=>(.inl hk)))
 have HK:=zM (Kept.refl w (fun k_=>P0_3_ k_))
 have HW0:=zM hB.size
 have HB:=zM hB
 clear hB
 have H:((laws_markByteS.f k l0_3 a1).bind fun bt407=>(some (bt407.1,bt407.2)))=some (r1,r2):=h
 clear h
 replace H:=Option.bind_eq_some_iff.mp H
 obtain⟨⟨t407,t408⟩,A30,H⟩:=H
 replace H:(some (t407,t408))=some (r1,r2):=H
 have A3:=zM A30
 clear A30
 simp only[Option.some.injEq,Prod.mk.injEq] at H
 obtain⟨rfl,rfl⟩:=H
 obtain⟨Ao4,co4,eo4⟩:=Kd.R_slice HO0_3.out
 subst eo4
 go_enter Try.func14,Try.ntmps14
 go_wp2_with (first|((with_reducible refine gate_dst (N:=2) rfl ?_);refine box_event ?hg (N:=2) ?hd (cs:=#[.int .i64 a0_0,.int .i64 a0_1,.int .i64 a0_2,.slice Ao4 l0_3.length co4]) (t:=37) ?hr ?_;(case hd=>rfl);(case hg=>rfl);(case hr=>first|(go_simp;done)|(go_simp;rfl));intro gb406 hg w5 hbox hb;have n0_:=zM (Kd.R_below (by(with_reducible repeat (first|apply Kd.R_alloc|apply Kd.R_drewN|apply Kd.R_drew));exact HO0_3.out) hb);have n1_:=zM (Kept.below (S:=(fun k_=>P0_3_ k_)) zq124 hb);have n2_:=zM (below_step zq0 hb);have n3_:=zM (hbox);have n4_:=zM ((by rw[hg];exact(by first|exact HK.out.1|exact(show Kept w _ (fun k_=>P0_3_ k_) from by repeat (first|(with_reducible first|exact HK.out|apply Kept.alloc|apply Kept.drewN|apply Kept.drew)|exact HK.out)).1):w.heap.size≤gb406));have n5_:=zM ((by rw[hg];exact(below_size zq0):w0.heap.size≤gb406));clear HO0_3;clear HK;clear HB;have HO0_3:=n0_;have HK:=n1_;have HB:=n2_;have BK406:=n3_;have GW406:=n4_;have GE406:=n5_;clear n0_ n1_ n2_ n3_ n4_ n5_;clear hb hbox hg;have hcz6_0:w5.cell? ⟨gb406,0,none⟩=some (.int .i64 a0_0):=(blk_cell BK406.out 0).trans rfl;have hcz6_1:w5.cell? ⟨gb406,1,none⟩=some (.int .i64 a0_1):=(blk_cell BK406.out 1).trans rfl;have hcz6_2:w5.cell? ⟨gb406,2,none⟩=some (.int .i64 a0_2):=(blk_cell BK406.out 2).trans rfl;have hcz6_3:w5.cell? ⟨gb406,3,none⟩=some (.slice Ao4 l0_3.length co4):=(blk_cell BK406.out 3).trans rfl;have hfz6_0:=blk_frozen BK406.out 0;have hfz6_1:=blk_frozen BK406.out 1;have hfz6_2:=blk_frozen BK406.out 2;have hfz6_3:=blk_frozen BK406.out 3)|((with_reducible refine gate_callee (f:=36) rfl ?_);refine goesL_ (some 8) rfl rfl Try.func36 (by kernel_rfl) rfl #[.slice Ao4 l0_3.length co4,.int .i64 a1] rfl zq1 ?_;(with_reducible refine(laws_markByteS.calls (e_:=5) k (fun k_=>some k_=(.slice Ao4 l0_3.length co4:Value).ownBlock) (.slice Ao4 l0_3.length co4) l0_3 a1 t407 t408 w0 _ ?side1 ?side2 A3.out).mono ?_);(case side1=>repeat (first|(with_reducible first|exact HB.out|apply below_alloc|apply pw_below_drewN|apply below_drew1|refine below_set ?_ GE406.out)|exact HB.out));(case side2=>exact Kd.R_tight rfl HO0_3.out);rintro e w7 ⟨rfl,hy0,hb,hkp⟩;refine⟨_,rfl,?_⟩;have n0_:=zM (Kd.R_reok rfl hy0 (fun k_ e_=>HO0_3.out.1 k_ e_));have n1_:=zM (blk_kept (by(with_reducible repeat (first|refine blk_drewN ?_ _|refine blk_drew ?_|refine blk_alloc ?_ _));exact BK406.out) hkp (fun hs_=>(fun e_=>(Kd.R_ne HO0_3.out BK406.out zq36) e_) hs_));have n2_:=zM (Kept.then_ (S:=(fun k_=>P0_3_ k_)) (by repeat (first|(with_reducible first|exact HK.out|apply Kept.alloc|apply Kept.drewN|apply Kept.drew|refine Kept.setCell ?_ (.inr GW406.out) _)|exact HK.out)) hkp (fun k_ hs_=>(fun e_=>(HO0_3.out.1 k_ e_.symm)) hs_));have n3_:=zM (hb);clear HO0_3;clear BK406;clear HK;clear HB;have HO0_3:=n0_;have BK406:=n1_;have HK:=n2_;have HB:=n3_;clear n0_ n1_ n2_ n3_;(try clear hb);(try clear hkp);(try clear hy0)))
 go_ret
 exact⟨zq3,by(with_reducible repeat (first|apply Kd.R_alloc|apply Kd.R_drewN|apply Kd.R_drew));exact HO0_3.out,by repeat (first|(with_reducible first|exact HB.out|apply below_alloc|apply pw_below_drewN|apply below_drew1|refine below_set ?_ GE406.out)|exact HB.out),by repeat (first|(with_reducible first|exact HK.out|apply Kept.alloc|apply Kept.drewN|apply Kept.drew|refine Kept.setCell ?_ (.inr GW406.out) _)|exact HK.out)⟩
def laws_markBytesResult.f (k:Nat) (a0_0:Int) (l0_1:List Int) (a1:Int):Option (Int × List Int):=(laws_markByteS.f k l0_1 a1).bind fun bt410=>(some (bt410.1,bt410.2))
theorem laws_markBytesResult.mono:∀ a0 a1 a2 k,LeO (laws_markBytesResult.f k a0 a1 a2) (laws_markBytesResult.f (k+1) a0 a1 a2):=by
 intro a0 a1 a2 k
 unfold laws_markBytesResult.f
 repeat' first
   | (with_reducible exact laws_markByteS.mono _ _ _)
   | (with_reducible exact LeO.refl _)
   | (with_reducible exact LeO.none _)
   | (with_reducible refine LeO.ite ?_ ?_)
   | (with_reducible refine LeO.bind ?_ (fun _=>?_))
   | exact laws_markByteS.mono _ _ _
   | exact LeO.none _
   | refine LeO.ite ?_ ?_
   | refine LeO.bind ?_ (fun _=>?_)
set_option maxHeartbeats 8000000 in
set_option maxRecDepth 100000 in
theorem laws_markBytesResult.calls {e_:Nat} (he_:e_≠31) (k:Nat) (a0_0:Int) (P0_1_:Nat→Prop) (u9000_:Value) (l0_1:List Int) (a1:Int) (r1:Int) (r2:List Int) (w0 w:World) (hB:Below w0.heap.size w0 w) (ho0_1:Kd.R (Kd.int .u8) e_ w w0.heap.size P0_1_ u9000_ l0_1) (h:laws_markBytesResult.f k a0_0 l0_1 a1=some (r1,r2)) :
  Calls Try.prog 15 #[.agg #[.int .i64 a0_0,u9000_],.int .i64 a1] w fun e w'=>e=.returned (.int .i64 r1)∧Kd.R (Kd.int .u8) e_ w' w0.heap.size (fun k_=>(P0_1_ k_ ∨ w.heap.size≤k_)) u9000_ r2∧Below w0.heap.size w0 w'∧Kept w w' (fun k_=>P0_1_ k_):=by
 have hu31:=Try.underlying31
 have HO0_1:=zM (show Kd.R (Kd.int .u8) e_ w w0.heap.size (fun k_=>(P0_1_ k_ ∨ w.heap.size≤k_)) u9000_ l0_1 from Kd.R_mono ho0_1 (fun k_ hk=>(.inl hk)))
 have HK:=zM (Kept.refl w (fun k_=>P0_1_ k_))
 have HW0:=zM hB.size
 have HB:=zM hB
 clear hB
 have H:((laws_markByteS.f k l0_1 a1).bind fun bt410=>(some (bt410.1,bt410.2)))=some (r1,r2):=h
 clear h
 replace H:=Option.bind_eq_some_iff.mp H
 obtain⟨⟨t410,t411⟩,A30,H⟩:=H
 replace H:(some (t410,t411))=some (r1,r2):=H
 have A3:=zM A30
 clear A30
 simp only[Option.some.injEq,Prod.mk.injEq] at H
 obtain⟨rfl,rfl⟩:=H
 obtain⟨Ao4,co4,eo4⟩:=Kd.R_slice HO0_1.out
 subst eo4
 go_enter Try.func15,Try.ntmps15
 go_wp2_with (first|((with_reducible refine gate_dst (N:=2) rfl ?_);refine box_event ?hg (N:=2) ?hd (cs:=#[.int .i64 a0_0,.slice Ao4 l0_1.length co4]) (t:=31) ?hr ?_;(case hd=>rfl);(case hg=>rfl);(case hr=>first|(go_simp;done)|(go_simp;rfl));intro gb409 hg w5 hbox hb;have n0_:=zM (Kd.R_below (by(with_reducible repeat (first|apply Kd.R_alloc|apply Kd.R_drewN|apply Kd.R_drew));exact HO0_1.out) hb);have n1_:=zM (Kept.below (S:=(fun k_=>P0_1_ k_)) zq124 hb);have n2_:=zM (below_step zq0 hb);have n3_:=zM (hbox);have n4_:=zM ((by rw[hg];exact(by first|exact HK.out.1|exact(show Kept w _ (fun k_=>P0_1_ k_) from by repeat (first|(with_reducible first|exact HK.out|apply Kept.alloc|apply Kept.drewN|apply Kept.drew)|exact HK.out)).1):w.heap.size≤gb409));have n5_:=zM ((by rw[hg];exact(below_size zq0):w0.heap.size≤gb409));clear HO0_1;clear HK;clear HB;have HO0_1:=n0_;have HK:=n1_;have HB:=n2_;have BK409:=n3_;have GW409:=n4_;have GE409:=n5_;clear n0_ n1_ n2_ n3_ n4_ n5_;clear hb hbox hg;have hcz6_0:w5.cell? ⟨gb409,0,none⟩=some (.int .i64 a0_0):=(blk_cell BK409.out 0).trans rfl;have hcz6_1:w5.cell? ⟨gb409,1,none⟩=some (.slice Ao4 l0_1.length co4):=(blk_cell BK409.out 1).trans rfl;have hfz6_0:=blk_frozen BK409.out 0;have hfz6_1:=blk_frozen BK409.out 1)|((with_reducible refine gate_callee (f:=36) rfl ?_);refine goesL_ (some 8) rfl rfl Try.func36 (by kernel_rfl) rfl #[.slice Ao4 l0_1.length co4,.int .i64 a1] rfl zq1 ?_;(with_reducible refine(laws_markByteS.calls (e_:=e_) k (fun k_=>some k_=(.slice Ao4 l0_1.length co4:Value).ownBlock) (.slice Ao4 l0_1.length co4) l0_1 a1 t410 t411 w0 _ ?side1 ?side2 A3.out).mono ?_);(case side1=>repeat (first|(with_reducible first|exact HB.out|apply below_alloc|apply pw_below_drewN|apply below_drew1|refine below_set ?_ GE409.out)|exact HB.out));(case side2=>exact Kd.R_tight rfl HO0_1.out);rintro e w7 ⟨rfl,hy0,hb,hkp⟩;refine⟨_,rfl,?_⟩;have n0_:=zM (Kd.R_reok rfl hy0 (fun k_ e_=>HO0_1.out.1 k_ e_));have n1_:=zM (blk_kept (by(with_reducible repeat (first|refine blk_drewN ?_ _|refine blk_drew ?_|refine blk_alloc ?_ _));exact BK409.out) hkp (fun hs_=>(fun e_=>(Kd.R_ne HO0_1.out BK409.out he_) e_) hs_));have n2_:=zM (Kept.then_ (S:=(fun k_=>P0_1_ k_)) (by repeat (first|(with_reducible first|exact HK.out|apply Kept.alloc|apply Kept.drewN|apply Kept.drew|refine Kept.setCell ?_ (.inr GW409.out) _)|exact HK.out)) hkp (fun k_ hs_=>(fun e_=>(HO0_1.out.1 k_ e_.symm)) hs_));have n3_:=zM (hb);clear HO0_1;clear BK409;clear HK;clear HB;have HO0_1:=n0_;have BK409:=n1_;have HK:=n2_;have HB:=n3_;clear n0_ n1_ n2_ n3_;(try clear hb);(try clear hkp);(try clear hy0)))
 go_ret
 exact⟨zq3,by(with_reducible repeat (first|apply Kd.R_alloc|apply Kd.R_drewN|apply Kd.R_drew));exact HO0_1.out,by repeat (first|(with_reducible first|exact HB.out|apply below_alloc|apply pw_below_drewN|apply below_drew1|refine below_set ?_ GE409.out)|exact HB.out),by repeat (first|(with_reducible first|exact HK.out|apply Kept.alloc|apply Kept.drewN|apply Kept.drew|refine Kept.setCell ?_ (.inr GW409.out) _)|exact HK.out)⟩
def laws_heldByteS.l0:Nat→List Int→Int→Int→Option (Int)
 | 0,_,_,_=>none
 | k+1,x0,x1,x5=>if x5 < (x0.length:Int) then (if 0≤x5 then (if (rd x0 x5)=((x1) % 256) then (laws_heldByteS.l0 k x0 (wrap64 (x1+1)) (wrap64 (x5+1))) else (some (-1))) else (none)) else (some x1)
def laws_heldByteS.f (k:Nat) (l0:List Int) (a1:Int):Option (Int):=laws_heldByteS.l0 k l0 a1 0
theorem laws_heldByteS.mono_l:∀ k,(∀ y0 y1 y2,LeO (laws_heldByteS.l0 k y0 y1 y2) (laws_heldByteS.l0 (k+1) y0 y1 y2))
 | 0=>fun _ _ _ r h=>by simp[laws_heldByteS.l0] at h
 | k+1=>by
  have ih0:=laws_heldByteS.mono_l k
  ·intro y0 y1 y2
   unfold laws_heldByteS.l0
   repeat' first
   | (with_reducible exact ih0 _ _ _)
   | (with_reducible exact LeO.refl _)
   | (with_reducible exact LeO.none _)
   | (with_reducible refine LeO.ite ?_ ?_)
   | (with_reducible refine LeO.bind ?_ (fun _=>?_))
   | exact ih0 _ _ _
   | exact LeO.none _
   | refine LeO.ite ?_ ?_
   | refine LeO.bind ?_ (fun _=>?_)
theorem laws_heldByteS.mono:∀ a0 a1 k,LeO (laws_heldByteS.f k a0 a1) (laws_heldByteS.f (k+1) a0 a1):=by
 intro a0 a1 k
 have ih0:=laws_heldByteS.mono_l k
 unfold laws_heldByteS.f
 repeat' first
   | (with_reducible exact ih0 _ _ _)
   | (with_reducible exact LeO.refl _)
   | (with_reducible exact LeO.none _)
   | (with_reducible refine LeO.ite ?_ ?_)
   | (with_reducible refine LeO.bind ?_ (fun _=>?_))
   | exact ih0 _ _ _
   | exact LeO.none _
   | refine LeO.ite ?_ ?_
   | refine LeO.bind ?_ (fun _=>?_)
set_option maxHeartbeats 8000000 in
set_option maxRecDepth 100000 in
theorem laws_heldByteS.calls (k:Nat) (A0:Option Addr) (c0:Nat) (l0:List Int) (a1:Int) (r:Int) (w:World) (hr0:Kd.C (Kd.int .u8) w A0 l0.length l0) (hc0:l0.length≤c0) (h:laws_heldByteS.f k l0 a1=some r) :
  Calls Try.prog 37 #[.slice A0 l0.length c0,.int .i64 a1] w fun e w'=>e=.returned (.int .i64 r)∧Drawn0 w w':=by
 have HR0:=zM hr0
 have HC0:=zM hc0
 clear hr0 hc0
 have H:(laws_heldByteS.l0 k l0 a1 0)=some r:=h
 clear h
 have H':=zM H
 clear H
 go_enter Try.func37,Try.ntmps37
 go_wp2
 go_loopg [1,5] k (fun kq v1 v5 w'=>∃ (x1_1:Int) (x5_1:Int),v1=.int .i64 x1_1∧v5=.int .i64 x5_1∧Aside0 (laws_heldByteS.l0 kq l0 x1_1 x5_1=some r)∧Aside0 (kq≤k)∧Drawn0 w w')
 case atStart=>exact⟨(a1),(0),zq7,zq7,H',⟨Nat.le_refl _⟩,zq25⟩
 case round=>
  clear H'
  try clear p2
  obtain⟨x1_1,x5_1,rfl,rfl,HA,HK1,⟨m1,rfl⟩⟩:=hrel
  cases gk with
  | zero=>exact absurd HA.out (by simp[laws_heldByteS.l0])
  | succ k1=>
   have H:=HA.out
   clear HA
   simp only[laws_heldByteS.l0] at H
   by_cases c3:x5_1 < (l0.length:Int)
   ·rw[if_pos c3] at H
    have c3b0:decide (x5_1 < (l0.length:Int))=true:=decide_eq_true c3
    clear c3
    by_cases c4:0≤x5_1
    ·rw[if_pos c4] at H
     have c4b0:decide (0≤x5_1)=true:=decide_eq_true c4
     clear c4
     by_cases c5:(rd l0 x5_1)=((x1_1) % 256)
     ·rw[if_pos c5] at H
      have c5b0:((rd l0 x5_1) == ((x1_1) % 256))=true:=beq_iff_eq.mpr c5
      have c5b1:((rd l0 x5_1) != ((x1_1) % 256))=false:=bne_eq_false_iff_eq.mpr c5
      clear c5
      have H':=zM H
      clear H
      have p412:0≤(x5_1:Int):=of_decide_eq_true zq6
      have q412:x5_1 < (l0.length:Int):=of_decide_eq_true zq6
      obtain⟨ad412,e412,hx412_0⟩:=Kd.at_int HR0.out x5_1 p412 q412
      cases e412
      replace p412:=eq_true p412
      replace q412:=eq_true q412
      go_wp2
      go_roundg k1
      case measure=>have:=HK1.out;omega
      case rel=>exact⟨(wrap64 (x1_1+1)),(wrap64 (x5_1+1)),zq7,zq7,H',⟨zq79⟩,zq25⟩
     ·rw[if_neg c5] at H
      have c5b0:((rd l0 x5_1) == ((x1_1) % 256))=false:=beq_eq_false_iff_ne.mpr c5
      have c5b1:((rd l0 x5_1) != ((x1_1) % 256))=true:=bne_iff_ne.mpr c5
      obtain rfl:=Option.some.inj H
      have p412:0≤(x5_1:Int):=of_decide_eq_true zq6
      have q412:x5_1 < (l0.length:Int):=of_decide_eq_true zq6
      obtain⟨ad412,e412,hx412_0⟩:=Kd.at_int HR0.out x5_1 p412 q412
      cases e412
      replace p412:=eq_true p412
      replace q412:=eq_true q412
      go_wp2
      go_ret
      exact⟨zq7,zq25⟩
    ·rw[if_neg c4] at H
     exact absurd H zq73
   ·rw[if_neg c3] at H
    have c3b0:decide (x5_1 < (l0.length:Int))=false:=decide_eq_false c3
    clear c3
    obtain rfl:=Option.some.inj H
    go_wp2
    go_ret
    exact⟨zq7,zq25⟩
def laws_heldBytesResult.f (k:Nat) (a0_0:Int) (l0_1:List Int) (a1:Int):Option (Int):=(laws_heldByteS.f k l0_1 a1).bind fun t414=>(if t414 < 0 then (some (-1)) else (some t414))
theorem laws_heldBytesResult.mono:∀ a0 a1 a2 k,LeO (laws_heldBytesResult.f k a0 a1 a2) (laws_heldBytesResult.f (k+1) a0 a1 a2):=by
 intro a0 a1 a2 k
 unfold laws_heldBytesResult.f
 repeat' first
   | (with_reducible exact laws_heldByteS.mono _ _ _)
   | (with_reducible exact LeO.refl _)
   | (with_reducible exact LeO.none _)
   | (with_reducible refine LeO.ite ?_ ?_)
   | (with_reducible refine LeO.bind ?_ (fun _=>?_))
   | exact laws_heldByteS.mono _ _ _
   | exact LeO.none _
   | refine LeO.ite ?_ ?_
   | refine LeO.bind ?_ (fun _=>?_)
set_option maxHeartbeats 8000000 in
set_option maxRecDepth 100000 in
theorem laws_heldBytesResult.calls (k:Nat) (a0_0:Int) (A0_1:Option Addr) (c0_1:Nat) (l0_1:List Int) (a1:Int) (r:Int) (w:World) (hr0_1:Kd.C (Kd.int .u8) w A0_1 l0_1.length l0_1) (hc0_1:l0_1.length≤c0_1) (h:laws_heldBytesResult.f k a0_0 l0_1 a1=some r) :
  Calls Try.prog 16 #[.agg #[.int .i64 a0_0,.slice A0_1 l0_1.length c0_1],.int .i64 a1] w fun e w'=>e=.returned (.int .i64 r)∧Below w.heap.size w w':=by
 have hu31:=Try.underlying31
 have HR0_1:=zM hr0_1
 have HC0_1:=zM hc0_1
 clear hr0_1 hc0_1
 have HB:=zM (Below.refl w.heap.size w)
 have H:((laws_heldByteS.f k l0_1 a1).bind fun t414=>(if t414 < 0 then (some (-1)) else (some t414)))=some r:=h
 clear h
 replace H:=Option.bind_eq_some_iff.mp H
 obtain⟨t414,A30,H⟩:=H
 replace H:(if t414 < 0 then (some (-1)) else (some t414))=some r:=H
 have A3:=zM A30
 clear A30
 by_cases c4:t414 < 0
 ·rw[if_pos c4] at H
  have c4b0:decide (t414 < 0)=true:=decide_eq_true c4
  clear c4
  obtain rfl:=Option.some.inj H
  go_enter Try.func16,Try.ntmps16
  go_wp2_with (first|((with_reducible refine gate_dst (N:=2) rfl ?_);refine box_event ?hg (N:=2) ?hd (cs:=#[.int .i64 a0_0,.slice A0_1 l0_1.length c0_1]) (t:=31) ?hr ?_;(case hd=>rfl);(case hg=>rfl);(case hr=>first|(go_simp;done)|(go_simp;rfl));intro gb413 hg w5 hbox hb;have n0_:=zM (below_step zq0 hb);have n1_:=zM (hbox);have n2_:=zM ((by rw[hg];exact(below_size zq0):w.heap.size≤gb413));have n3_:=zM ((by rw[hg];exact(below_size zq0):w.heap.size≤gb413));clear HB;have HB:=n0_;have BK413:=n1_;have GW413:=n2_;have GE413:=n3_;clear n0_ n1_ n2_ n3_;clear hb hbox hg;have hcz6_0:w5.cell? ⟨gb413,0,none⟩=some (.int .i64 a0_0):=(blk_cell BK413.out 0).trans rfl;have hcz6_1:w5.cell? ⟨gb413,1,none⟩=some (.slice A0_1 l0_1.length c0_1):=(blk_cell BK413.out 1).trans rfl;have hfz6_0:=blk_frozen BK413.out 0;have hfz6_1:=blk_frozen BK413.out 1)|((with_reducible refine gate_callee (f:=37) rfl ?_);refine goesL_ (some 8) rfl rfl Try.func37 (by kernel_rfl) rfl #[.slice A0_1 l0_1.length c0_1,.int .i64 a1] rfl zq1 ?_;(with_reducible refine(laws_heldByteS.calls k _ _ l0_1 a1 t414 _ ?side1 ?side2 A3.out).mono ?_);(case side1=>exact zq11);(case side2=>exact HC0_1.out);rintro e w' ⟨rfl,⟨nd,rfl⟩⟩;refine⟨_,rfl,?_⟩))
  go_ret
  exact⟨zq3,zq145⟩
 ·rw[if_neg c4] at H
  have c4b0:decide (t414 < 0)=false:=decide_eq_false c4
  clear c4
  obtain rfl:=Option.some.inj H
  go_enter Try.func16,Try.ntmps16
  go_wp2_with (first|((with_reducible refine gate_dst (N:=2) rfl ?_);refine box_event ?hg (N:=2) ?hd (cs:=#[.int .i64 a0_0,.slice A0_1 l0_1.length c0_1]) (t:=31) ?hr ?_;(case hd=>rfl);(case hg=>rfl);(case hr=>first|(go_simp;done)|(go_simp;rfl));intro gb413 hg w7 hbox hb;have n0_:=zM (below_step zq0 hb);have n1_:=zM (hbox);have n2_:=zM ((by rw[hg];exact(below_size zq0):w.heap.size≤gb413));have n3_:=zM ((by rw[hg];exact(below_size zq0):w.heap.size≤gb413));clear HB;have HB:=n0_;have BK413:=n1_;have GW413:=n2_;have GE413:=n3_;clear n0_ n1_ n2_ n3_;clear hb hbox hg;have hcz8_0:w7.cell? ⟨gb413,0,none⟩=some (.int .i64 a0_0):=(blk_cell BK413.out 0).trans rfl;have hcz8_1:w7.cell? ⟨gb413,1,none⟩=some (.slice A0_1 l0_1.length c0_1):=(blk_cell BK413.out 1).trans rfl;have hfz8_0:=blk_frozen BK413.out 0;have hfz8_1:=blk_frozen BK413.out 1)|((with_reducible refine gate_callee (f:=37) rfl ?_);refine goesL_ (some 8) rfl rfl Try.func37 (by kernel_rfl) rfl #[.slice A0_1 l0_1.length c0_1,.int .i64 a1] rfl zq1 ?_;(with_reducible refine(laws_heldByteS.calls k _ _ l0_1 a1 t414 _ ?side1 ?side2 A3.out).mono ?_);(case side1=>exact zq11);(case side2=>exact HC0_1.out);rintro e w' ⟨rfl,⟨nd,rfl⟩⟩;refine⟨_,rfl,?_⟩))
  go_ret
  exact⟨zq3,zq145⟩
end Go.Proofs.Ytdbanjdnjhflcaa.All
