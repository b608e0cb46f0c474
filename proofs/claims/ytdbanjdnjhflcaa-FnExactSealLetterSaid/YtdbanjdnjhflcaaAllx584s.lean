-- Laid by wip/shake.py of this repo out of this claim's texts. Not trusted: Lean checks it.
import Derived.Test.YtdbanjdnjhflcaaAb0s
import Derived.Test.YtdbanjdnjhflcaaAlgs
import Derived.Test.YtdbanjdnjhflcaaAllx582s
import Derived.Test.YtdbanjdnjhflcaaAllx58s
import Derived.Test.YtdbanjdnjhflcaaAllx583s
import Derived.Test.YtdbanjdnjhflcaaAllx12s
import Derived.Test.YtdbanjdnjhflcaaAllx61s
import Derived.Test.YtdbanjdnjhflcaaAllx50s
import Derived.Test.YtdbanjdnjhflcaaAllx63s
import Derived.Test.YtdbanjdnjhflcaaAllx35s
set_option linter.unusedSimpArgs false
set_option linter.unusedVariables false
namespace Go.Proofs.Ytdbanjdnjhflcaa.All
open Go.Proofs.YtdbanjdnjhflcaaW.PrintWords.Aside0 renaming mk→zM
open Go.RowKit Go.Proofs.YtdbanjdnjhflcaaW.PrintWords Go.Proofs.YtdbanjdnjhflcaaW.PrintLast Go.Proofs.YtdbanjdnjhflcaaW.PrintMore
attribute [local go_sem] max2_int min2_int max_two min_two max_three min_three max_four min_four
theorem SealLetter_zS {w w':World} {base top:Nat} {v:Value} {xs:List S54} (h:Kd.S k54 54 w' w.heap.size (fun _=>True) v xs) (hb:base≤w.heap.size) (ht:top≤w.heap.size) (hs:w.heap.size≤w'.heap.size):∃ lo hi,(top≤lo∧lo≤hi)∧hi≤w'.heap.size∧Kd.S k54 54 w' base (fun j_=>lo≤j_∧j_ < hi) v xs:=
 ⟨w.heap.size,w'.heap.size,⟨ht,hs⟩,Nat.le_refl _,Kd.S_lower (Kd.S_mono (Kd.S_bound h) (fun _ hk=>⟨hk.2.1,hk.2.2.1⟩)) hb⟩
theorem SealLetter_zR {w w':World} {base top e:Nat} {v:Value} {xs:List Int} (h:Kd.R (Kd.int .u8) e w' w.heap.size (fun _=>True) v xs) (hb:base≤w.heap.size) (ht:top≤w.heap.size) (hs:w.heap.size≤w'.heap.size):∃ lo hi,(top≤lo∧lo≤hi)∧hi≤w'.heap.size∧Kd.R (Kd.int .u8) e w' base (fun j_=>lo≤j_∧j_ < hi) v xs:=
 ⟨w.heap.size,w'.heap.size,⟨ht,hs⟩,Nat.le_refl _,Kd.R_lower (Kd.R_mono (Kd.R_bound h) (fun _ hk=>⟨hk.2.1,hk.2.2.1⟩)) hb⟩
theorem held_SealLetter (k:Nat) (a:Int) (A:Option Addr) (c n:Nat) (l:List Int) (a1 r:Int) (w:World) (hn:n=l.length) (hr:Kd.C (Kd.int .u8) w A l.length l) (hc:n≤c) (h:laws_heldBytesResult.f k a l a1=some r) :
  Calls Try.prog 16 #[.agg #[.int .i64 a,.slice A n c],.int .i64 a1] w fun e w'=>e=.returned (.int .i64 r)∧Below w.heap.size w w':=by
 subst hn
 exact laws_heldBytesResult.calls k a A c l a1 r w hr hc h
set_option maxHeartbeats 8000000 in
set_option maxRecDepth 100000 in
theorem laws_FnExactSealLetter.walk (K:Nat) (a0_0:Int) (A0_1:Option Addr) (c0_1:Nat) (l0_1:List S70) (a1_0 a1_1 a1_2:Int) (A1_3:Option Addr) (c1_3:Nat) (l1_3:List Int) (m m1:List S54) (b b1:List Int) (v0 v1 r1 k1 k2 q1:Int) (r3 q3:List Int) (w:World) (hr0_1:Kd.C k70 w A0_1 l0_1.length l0_1) (hc0_1:l0_1.length≤c0_1) (hr1_3:Kd.C (Kd.int .u8) w A1_3 l1_3.length l1_3) (hc1_3:l1_3.length≤c1_3)
  (hsz:laws_szRing.f K a0_0 l0_1 1048576=some v0) (hsk:laws_szLetter.f a1_0 a1_1 a1_2 l1_3 v0=some v1) (hto:laws_toRing.f K a0_0 l0_1=some (a0_0,m)) (htk:laws_toLetter.f K a1_0 a1_1 a1_2 l1_3=some (a1_0,a1_1,a1_2,b)) (hsp:spec_SealLetter.f K a0_0 m a1_0 a1_1 a1_2 b=some (r1,r3)) (him:impl_SealLetter.f K a0_0 m a1_0 a1_1 a1_2 b=some (r1,r3)) (heq:laws_eqBytesResult.f K r1 r3 r1 r3=some true) (her:laws_eqRing.f K a0_0 m a0_0 m=some true) (hek:laws_eqLetter.f K a1_0 a1_1 a1_2 b a1_0 a1_1 a1_2 b=some true) (hml:m.length < 140737488355328) (hq3:r3.length=q3.length) (hmk:markKs K m 1=some (k1,m1)) (hmb:laws_markLetter.f K a1_0 a1_1 a1_2 b k1=some (k2,b1)) (hb1:b.length=b1.length) (hmr:laws_markBytesResult.f K r1 r3 1=some (q1,q3)) (hhl:laws_heldBytesResult.f K r1 q3 1=some q1) (hv0:¬ v0 < 0) (hv9:¬ v1 < 0) (hk1:¬ k2 < 0) (hq1:¬ q1 < 0) :
  Calls Try.prog 3 #[.agg #[.int .i64 a0_0,.slice A0_1 l0_1.length c0_1],.agg #[.int .i64 a1_0,.int .i64 a1_1,.int .i64 a1_2,.slice A1_3 l1_3.length c1_3]] w fun e w'=>e=.returned (.bool true)∧Below w.heap.size w w':=by
 have HR:=zM hr0_1
 have HC:=zM hc0_1
 have HRK:=zM hr1_3
 have HCK:=zM hc1_3
 have HSZ:=zM hsz
 have HSK:=zM hsk
 have HTO:=zM hto
 have HTK:=zM htk
 have HSP:=zM hsp
 have HIM:=zM him
 have HEQ:=zM heq
 have HER:=zM her
 have HEK:=zM hek
 have HML:=zM hml
 have HQ3:=zM hq3
 have HMK:=zM hmk
 have HMB:=zM hmb
 have HMR:=zM hmr
 have HHL:=zM hhl
 have hv1:=decide_eq_false hv0
 have hv2:=decide_eq_false hv9
 have hk2:=decide_eq_false hk1
 have hq2:=decide_eq_false hq1
 have hqq:(q1 != q1)=false:=bne_self_eq_false q1
 clear hr0_1 hc0_1 hr1_3 hc1_3 hsz hsk hto htk hsp him heq her hek hml hq3 hmk hmb hb1 hmr hhl hv0 hv9 hk1 hq1
 have HB:=zM (Below.refl w.heap.size w)
 have HT:=zM (Nat.le_refl w.heap.size)
 go_enter Try.func3,Try.ntmps3
 go_wp2_with (first
   | ((with_reducible refine gate_dst (N:=2) rfl ?_);refine box_event ?hg (N:=2) ?hd (cs:=#[.int .i64 a0_0,.slice A0_1 l0_1.length c0_1]) (t:=24) ?hr ?_;(case hd=>rfl);(case hg=>rfl);(case hr=>first|(go_simp;done)|(go_simp;rfl));intro g2 hg w1 hbox hb;have n0_:=zM (below_step HB.out hb);have n1_:=zM hbox;have n2_:=zM (show w.heap.size≤g2 by rw[hg];exact HT.out);have n3_:=zM (show w.heap.size≤g2 by rw[hg];exact below_size HB.out);have n4_:=zM (show g2+1≤w1.heap.size from blk_lt hbox);clear HB HT;have HB:=n0_;have BK2:=n1_;have CH2:=n2_;have GE2:=n3_;have HT:=n4_;clear n0_ n1_ n2_ n3_ n4_;clear hb hbox hg;)
   | ((with_reducible refine gate_dst (N:=3) rfl ?_);refine box_event ?hg (N:=3) ?hd (cs:=#[.int .i64 a1_0,.int .i64 a1_1,.int .i64 a1_2,.slice A1_3 l1_3.length c1_3]) (t:=27) ?hr ?_;(case hd=>rfl);(case hg=>rfl);(case hr=>first|(go_simp;done)|(go_simp;rfl));intro g3 hg w2 hbox hb;have n0_:=zM (below_step HB.out hb);have n1_:=zM (blk_below BK2.out hb);have n2_:=zM hbox;have n3_:=zM (show g2+1≤g3 by rw[hg];exact HT.out);have n4_:=zM (show w.heap.size≤g3 by rw[hg];exact below_size HB.out);have n5_:=zM (show g3+1≤w2.heap.size from blk_lt hbox);clear HB BK2 HT;have HB:=n0_;have BK2:=n1_;have BK3:=n2_;have CH3:=n3_;have GE3:=n4_;have HT:=n5_;clear n0_ n1_ n2_ n3_ n4_ n5_;clear hb hbox hg;have hc2_0:w2.cell? ⟨g2,0,none⟩=some (.int .i64 a0_0):=(blk_cell BK2.out 0).trans rfl;have hc2_1:w2.cell? ⟨g2,1,none⟩=some (.slice A0_1 l0_1.length c0_1):=(blk_cell BK2.out 1).trans rfl)
   | ((with_reducible refine gate_callee (f:=4) rfl ?_);refine goesL_ (some 16) rfl rfl Try.func4 (by kernel_rfl) rfl #[.agg #[.int .i64 a0_0,.slice A0_1 l0_1.length c0_1],.int .i64 1048576] rfl zq13 ?_;(with_reducible refine(laws_szRing.calls K a0_0 A0_1 c0_1 l0_1 1048576 v0 _ (Kd.C_below HR.out HB.out) HC.out HSZ.out).mono ?_);rintro e w3 ⟨rfl,hb⟩;refine⟨_,rfl,?_⟩;have n0_:=zM (below_step HB.out hb);have n1_:=zM (Nat.le_trans HT.out (Below.size hb));have n2_:=zM (blk_below BK2.out hb);have n3_:=zM (blk_below BK3.out hb);clear HB HT BK2 BK3;have HB:=n0_;have HT:=n1_;have BK2:=n2_;have BK3:=n3_;clear n0_ n1_ n2_ n3_;clear hb;clear hc2_0 hc2_1;have hc3_0:w3.cell? ⟨g3,0,none⟩=some (.int .i64 a1_0):=(blk_cell BK3.out 0).trans rfl;have hc3_1:w3.cell? ⟨g3,1,none⟩=some (.int .i64 a1_1):=(blk_cell BK3.out 1).trans rfl;have hc3_2:w3.cell? ⟨g3,2,none⟩=some (.int .i64 a1_2):=(blk_cell BK3.out 2).trans rfl;have hc3_3:w3.cell? ⟨g3,3,none⟩=some (.slice A1_3 l1_3.length c1_3):=(blk_cell BK3.out 3).trans rfl)
   | ((with_reducible refine gate_callee (f:=5) rfl ?_);refine goesL_ (some 21) rfl rfl Try.func5 (by kernel_rfl) rfl #[.agg #[.int .i64 a1_0,.int .i64 a1_1,.int .i64 a1_2,.slice A1_3 l1_3.length c1_3],.int .i64 v0] rfl zq13 ?_;(with_reducible refine(laws_szLetter.calls a1_0 a1_1 a1_2 A1_3 c1_3 l1_3 v0 v1 _ (Kd.C_below HRK.out HB.out) HCK.out HSK.out).mono ?_);rintro e w4 ⟨rfl,hb⟩;refine⟨_,rfl,?_⟩;have n0_:=zM (below_step HB.out hb);have n1_:=zM (Nat.le_trans HT.out (Below.size hb));have n2_:=zM (blk_below BK2.out hb);have n3_:=zM (blk_below BK3.out hb);clear HB HT BK2 BK3;have HB:=n0_;have HT:=n1_;have BK2:=n2_;have BK3:=n3_;clear n0_ n1_ n2_ n3_;clear hb;clear hc3_0 hc3_1 hc3_2 hc3_3))
 have n0_:=zM (below_drew1 HB.out)
 have n1_:=zM (show g3+1≤w4.drew.heap.size from HT.out)
 have n2_:=zM (blk_drew BK2.out)
 have n3_:=zM (blk_drew BK3.out)
 clear HB HT BK2 BK3
 have HB:=n0_
 have HT:=n1_
 have BK2:=n2_
 have BK3:=n3_
 clear n0_ n1_ n2_ n3_
 refine start_ (n:=7) (S:=fun w'=>w'.cell? ⟨g2,0,none⟩=some (.int .i64 a0_0)∧w'.cell? ⟨g2,1,none⟩=some (.slice A0_1 l0_1.length c0_1)∧w'.cell? ⟨g3,0,none⟩=some (.int .i64 a1_0)∧w'.cell? ⟨g3,1,none⟩=some (.int .i64 a1_1)∧w'.cell? ⟨g3,2,none⟩=some (.int .i64 a1_2)∧w'.cell? ⟨g3,3,none⟩=some (.slice A1_3 l1_3.length c1_3)) (ds:=[6]) #[false,false,false,false,false,false,false] (by kernel_rfl) rfl rfl ⟨(blk_cell BK2.out 0).trans rfl,(blk_cell BK2.out 1).trans rfl,(blk_cell BK3.out 0).trans rfl,(blk_cell BK3.out 1).trans rfl,(blk_cell BK3.out 2).trans rfl,(blk_cell BK3.out 3).trans rfl⟩ (fun hHeld=>?_)
 generalize w4.drew=w5 at HB HT BK2 BK3 hHeld ⊢
 have HS:Aside0 (∀ w',Below w5.heap.size w5 w'→(w'.cell? ⟨g2,0,none⟩=some (.int .i64 a0_0)∧w'.cell? ⟨g2,1,none⟩=some (.slice A0_1 l0_1.length c0_1)∧w'.cell? ⟨g3,0,none⟩=some (.int .i64 a1_0)∧w'.cell? ⟨g3,1,none⟩=some (.int .i64 a1_1)∧w'.cell? ⟨g3,2,none⟩=some (.int .i64 a1_2)∧w'.cell? ⟨g3,3,none⟩=some (.slice A1_3 l1_3.length c1_3))):=⟨fun w' hb=>⟨(blk_cell (blk_below BK2.out hb) 0).trans rfl,(blk_cell (blk_below BK2.out hb) 1).trans rfl,(blk_cell (blk_below BK3.out hb) 0).trans rfl,(blk_cell (blk_below BK3.out hb) 1).trans rfl,(blk_cell (blk_below BK3.out hb) 2).trans rfl,(blk_cell (blk_below BK3.out hb) 3).trans rfl⟩⟩
 refine take_ (i:=0) (N:=some 24) (v:=?_) (a':=?_) #[true,false,false,false,false,false,false] rfl rfl (by kernel_rfl) (fun _ _ _ h=>h) (Or.inl ⟨zq125,?_⟩) hHeld ?_ ?_
 rotate_left
 ·rintro w' ⟨s0,s1,s2,s3,s4,s5⟩
  go_simp
  with_reducible rfl
 rotate_left
 ·simp only[Act.put,List.setIfInBounds_toArray,List.set_cons_zero,List.set_cons_succ,i64_w,i32_w]
  rfl
 refine take_ (i:=2) (N:=some 26) (v:=?_) (a':=?_) #[true,false,true,false,false,false,false] rfl rfl (by kernel_rfl) (fun _ _ _ h=>h) (Or.inl ⟨zq125,?_⟩) hHeld ?_ ?_
 rotate_left
 ·rintro w' ⟨s0,s1,s2,s3,s4,s5⟩
  go_simp
  with_reducible rfl
 rotate_left
 ·simp only[Act.put,List.setIfInBounds_toArray,List.set_cons_zero,List.set_cons_succ,i64_w,i32_w]
  rfl
 refine join_ (σ:=Value × Value × Nat × Option Addr × Nat) 1 #[true,true,true,true,true,true,false] (fun s_=>[(25,s_.1),(27,s_.2.1),(28,.agg #[.int .i64 r1,.slice s_.2.2.2.1 r3.length s_.2.2.2.2]),(6,.pointer (some ⟨s_.2.2.1,0,none⟩))]) (fun s_ w'=>Below w5.heap.size w5 w'∧w'.heap[s_.2.2.1]?=some (Obj.cells #[.int .i64 0,.slice none 0 0] 31 (0,0))∧w5.heap.size≤s_.2.2.1∧Kd.R (Kd.int .u8) 5 w' w.heap.size (fun j_=>w5.heap.size≤j_∧j_ < w'.heap.size∧j_≠s_.2.2.1) (.slice s_.2.2.2.1 r3.length s_.2.2.2.2) r3) ?_ ?_
 rotate_left
 ·intro hCont
  have hB:=zM (Below.refl w5.heap.size w5)
  have hC:=HB
  refine two_ (i:=1) (j:=5) (Ni:=some 25) (Nj:=some 6) #[true,true,true,false,false,false,false] #[true,false,true,false,false,true,false] rfl rfl rfl rfl (by kernel_rfl) zq36 zq36 (fun K_ hK=>?_) (fun K_ hK=>?_)
  ·skip
   refine goes_ Try.func7 (by kernel_rfl) rfl #[.agg #[.int .i64 a0_0,.slice A0_1 l0_1.length c0_1]] zq125 rfl rfl zq13 ?_
   with_reducible refine(laws_toRing.calls K a0_0 A0_1 c0_1 l0_1 a0_0 m _ ?caspec1 HC.out HTO.out).mono ?_
   (case caspec1=>exact Kd.C_below HR.out hC.out)
   rintro e w5c1 ⟨v_,rfl,ho,hb⟩
   refine⟨_,rfl,?_⟩
   have n0_:=zM (below_step hB.out hb)
   have n1_:=zM (below_step hC.out hb)
   have n2_:=zM (Kd.S_lower ho (below_size hC.out))
   clear hHeld hB hC
   have hB:=n0_
   have hC:=n1_
   have HOt_:=n2_
   clear n0_ n1_ n2_
   clear hb ho
   obtain⟨At_,ct_,ev_⟩:=Kd.S_slice HOt_.out
   subst ev_
   refine hK.out _ _ (HS.out _ hB.out) (fun hHeld=>?_)
   clear hK K_
   refine norm_ (a':=?_) ?_ ?_
   rotate_left
   ·show Act.put _ (some 25) _=_
    simp only[Act.put,List.setIfInBounds_toArray,List.set_cons_zero,List.set_cons_succ,i64_w,i32_w]
    rfl
   refine two_ (i:=3) (j:=5) (Ni:=some 27) (Nj:=some 6) #[true,true,true,true,false,false,false] #[true,true,true,false,false,true,false] rfl rfl rfl rfl (by kernel_rfl) zq36 zq36 (fun K_ hK=>?_) (fun K_ hK=>?_)
   ·skip
    refine goes_ Try.func8 (by kernel_rfl) rfl #[.agg #[.int .i64 a1_0,.int .i64 a1_1,.int .i64 a1_2,.slice A1_3 l1_3.length c1_3]] zq125 rfl rfl zq13 ?_
    with_reducible refine(laws_toLetter.calls K a1_0 a1_1 a1_2 A1_3 c1_3 l1_3 a1_0 a1_1 a1_2 b _ ?cbspec2 HCK.out HTK.out).mono ?_
    (case cbspec2=>exact Kd.C_below HRK.out hC.out)
    rintro e w5c2 ⟨v_,rfl,ho,hb⟩
    refine⟨_,rfl,?_⟩
    have n0_:=zM (below_step hB.out hb)
    have n1_:=zM (below_step hC.out hb)
    have n2_:=zM (Kd.S_below HOt_.out hb)
    have n3_:=zM (Kd.R_lower ho (below_size hC.out))
    clear hHeld hB hC HOt_
    have hB:=n0_
    have hC:=n1_
    have HOt_:=n2_
    have HOy_:=n3_
    clear n0_ n1_ n2_ n3_
    clear hb ho
    obtain⟨Ay_,cy_,ev_⟩:=Kd.R_slice HOy_.out
    subst ev_
    refine hK.out _ _ (HS.out _ hB.out) (fun hHeld=>?_)
    clear hK K_
    refine norm_ (a':=?_) ?_ ?_
    rotate_left
    ·show Act.put _ (some 27) _=_
     simp only[Act.put,List.setIfInBounds_toArray,List.set_cons_zero,List.set_cons_succ,i64_w,i32_w]
     rfl
    refine two_ (i:=4) (j:=5) (Ni:=some 28) (Nj:=some 6) #[true,true,true,true,true,false,false] #[true,true,true,true,false,true,false] rfl rfl rfl rfl (by kernel_rfl) zq36 zq36 (fun K_ hK=>?_) (fun K_ hK=>?_)
    ·skip
     refine goes_ Try.func6 (by kernel_rfl) rfl #[.agg #[.int .i64 a0_0,.slice At_ m.length ct_],.agg #[.int .i64 a1_0,.int .i64 a1_1,.int .i64 a1_2,.slice Ay_ b.length cy_]] zq125 rfl rfl zq13 ?_
     with_reducible refine(spec_SealLetter.calls K a0_0 _ _ m a1_0 a1_1 a1_2 _ _ b r1 r3 _ ?ccspec3 ?cdspec3 ?cespec3 ?cfspec3 HSP.out).mono ?_
     (case ccspec3=>exact(Kd.S_reads' HOt_.out).2.2)
     (case cdspec3=>exact(Kd.S_reads' HOt_.out).2.1)
     (case cespec3=>exact(Kd.R_reads' HOy_.out).2.2)
     (case cfspec3=>exact(Kd.R_reads' HOy_.out).2.1)
     rintro e w5c3 ⟨v_,rfl,ho,hb⟩
     refine⟨_,rfl,?_⟩
     have n0_:=zM (below_step hB.out hb)
     have n1_:=zM (below_step hC.out hb)
     have n2_:=zM (Kd.S_below HOt_.out hb)
     have n3_:=zM (Kd.R_below HOy_.out hb)
     have n4_:=zM (Kd.R_lower (Kd.R_mono (Kd.R_bound ho) (ok':=fun j_=>w5.heap.size≤j_∧j_ < w5c3.heap.size) (fun j_ hj_=>⟨Nat.le_trans hB.out.size hj_.2.1,hj_.2.2.1⟩)) (below_size hC.out))
     clear hHeld hB hC HOt_ HOy_
     have hB:=n0_
     have hC:=n1_
     have HOt_:=n2_
     have HOy_:=n3_
     have HOw_:=n4_
     clear n0_ n1_ n2_ n3_ n4_
     clear hb ho
     obtain⟨Aw_,cw_,ev_⟩:=Kd.R_slice HOw_.out
     subst ev_
     refine hK.out _ _ (HS.out _ hB.out) (fun hHeld=>?_)
     clear hK K_
     refine norm_ (a':=?_) ?_ ?_
     rotate_left
     ·show Act.put _ (some 28) _=_
      simp only[Act.put,List.setIfInBounds_toArray,List.set_cons_zero,List.set_cons_succ,i64_w,i32_w]
      rfl
     refine one_ (i:=5) (N:=some 6) #[true,true,true,true,true,true,false] rfl rfl (by kernel_rfl) zq36 (fun K_ hK=>?_)
     refine value_ (w1:=(w5c3.alloc (.cells #[.int .i64 0,.slice none 0 0] 31))) (v:=.pointer (some ⟨w5c3.heap.size,0,none⟩)) zq125 rfl ?_ ?_
     ·first
       | (go_simp;done)
       | (go_simp;rfl)
     have n0_:=zM (below_alloc hB.out (.cells #[.int .i64 0,.slice none 0 0] 31))
     have n1_:=zM (below_alloc hC.out (.cells #[.int .i64 0,.slice none 0 0] 31))
     have n2_:=zM (Kd.S_alloc HOt_.out (.cells #[.int .i64 0,.slice none 0 0] 31))
     have n3_:=zM (Kd.R_alloc HOy_.out (.cells #[.int .i64 0,.slice none 0 0] 31))
     have nz_:Aside0 ((w5c3.alloc (.cells #[.int .i64 0,.slice none 0 0] 31)).heap[w5c3.heap.size]?=some (Obj.cells #[.int .i64 0,.slice none 0 0] 31 (0,0))):=⟨heap_alloc_new w5c3 (.cells #[.int .i64 0,.slice none 0 0] 31)⟩
     have ng_:Aside0 (w5.heap.size≤w5c3.heap.size):=⟨hB.out.size⟩
     have nw_:Aside0 (Kd.R (Kd.int .u8) 5 (w5c3.alloc (.cells #[.int .i64 0,.slice none 0 0] 31)) w.heap.size (fun j_=>w5.heap.size≤j_∧j_ < (w5c3.alloc (.cells #[.int .i64 0,.slice none 0 0] 31)).heap.size∧j_≠w5c3.heap.size) (.slice Aw_ r3.length cw_) r3):=⟨Kd.R_mono (Kd.R_alloc HOw_.out (.cells #[.int .i64 0,.slice none 0 0] 31)) (fun j_ hj_=>⟨hj_.1,by rw[show (w5c3.alloc (.cells #[.int .i64 0,.slice none 0 0] 31)).heap.size=w5c3.heap.size+1 from Array.size_push _];have:=hj_.2;omega,Nat.ne_of_lt hj_.2⟩)⟩
     clear hHeld hB hC HOt_ HOy_ HOw_
     generalize w5c3.heap.size=gq_ at nz_ ng_ nw_ ⊢
     generalize (w5c3.alloc (.cells #[.int .i64 0,.slice none 0 0] 31))=w5c4 at n0_ n1_ n2_ n3_ nz_ nw_ ⊢
     have hB:=n0_
     have hC:=n1_
     have HOt_:=n2_
     have HOy_:=n3_
     have HZ:=nz_
     have HG:=ng_
     have HOw_:=nw_
     clear nz_ ng_ nw_ n0_ n1_ n2_ n3_
     refine hK.out _ _ (HS.out _ hB.out) (fun hHeld=>?_)
     clear hK K_
     refine norm_ (a':=?_) ?_ ?_
     rotate_left
     ·show Act.put _ (some 6) _=_
      simp only[Act.put,List.setIfInBounds_toArray,List.set_cons_zero,List.set_cons_succ,i64_w,i32_w]
      rfl
     exact norm_ zq44 (hCont (.agg #[.int .i64 a0_0,.slice At_ m.length ct_],.agg #[.int .i64 a1_0,.int .i64 a1_1,.int .i64 a1_2,.slice Ay_ b.length cy_],gq_,Aw_,cw_) _ ⟨hB.out,HZ.out,HG.out,HOw_.out⟩)
    ·skip
     refine value_ (w1:=(w5c2.alloc (.cells #[.int .i64 0,.slice none 0 0] 31))) (v:=.pointer (some ⟨w5c2.heap.size,0,none⟩)) zq125 rfl ?_ ?_
     ·first
       | (go_simp;done)
       | (go_simp;rfl)
     have n0_:=zM (below_alloc hB.out (.cells #[.int .i64 0,.slice none 0 0] 31))
     have n1_:=zM (below_alloc hC.out (.cells #[.int .i64 0,.slice none 0 0] 31))
     have n2_:=zM (Kd.S_alloc HOt_.out (.cells #[.int .i64 0,.slice none 0 0] 31))
     have n3_:=zM (Kd.R_alloc HOy_.out (.cells #[.int .i64 0,.slice none 0 0] 31))
     have nz_:Aside0 ((w5c2.alloc (.cells #[.int .i64 0,.slice none 0 0] 31)).heap[w5c2.heap.size]?=some (Obj.cells #[.int .i64 0,.slice none 0 0] 31 (0,0))):=⟨heap_alloc_new w5c2 (.cells #[.int .i64 0,.slice none 0 0] 31)⟩
     have ng_:Aside0 (w5.heap.size≤w5c2.heap.size):=⟨hB.out.size⟩
     clear hHeld hB hC HOt_ HOy_
     generalize w5c2.heap.size=gq_ at nz_ ng_ ⊢
     generalize (w5c2.alloc (.cells #[.int .i64 0,.slice none 0 0] 31))=w5c5 at n0_ n1_ n2_ n3_ nz_ ⊢
     have hB:=n0_
     have hC:=n1_
     have HOt_:=n2_
     have HOy_:=n3_
     have HZ:=nz_
     have HG:=ng_
     clear nz_ ng_ n0_ n1_ n2_ n3_
     refine hK.out _ _ (HS.out _ hB.out) (fun hHeld=>?_)
     clear hK K_
     refine norm_ (a':=?_) ?_ ?_
     rotate_left
     ·show Act.put _ (some 6) _=_
      simp only[Act.put,List.setIfInBounds_toArray,List.set_cons_zero,List.set_cons_succ,i64_w,i32_w]
      rfl
     refine one_ (i:=4) (N:=some 28) #[true,true,true,true,true,true,false] rfl rfl (by kernel_rfl) zq36 (fun K_ hK=>?_)
     refine goes_ Try.func6 (by kernel_rfl) rfl #[.agg #[.int .i64 a0_0,.slice At_ m.length ct_],.agg #[.int .i64 a1_0,.int .i64 a1_1,.int .i64 a1_2,.slice Ay_ b.length cy_]] zq125 rfl rfl zq13 ?_
     with_reducible refine(spec_SealLetter.calls K a0_0 _ _ m a1_0 a1_1 a1_2 _ _ b r1 r3 _ ?ccspec6 ?cdspec6 ?cespec6 ?cfspec6 HSP.out).mono ?_
     (case ccspec6=>exact(Kd.S_reads' HOt_.out).2.2)
     (case cdspec6=>exact(Kd.S_reads' HOt_.out).2.1)
     (case cespec6=>exact(Kd.R_reads' HOy_.out).2.2)
     (case cfspec6=>exact(Kd.R_reads' HOy_.out).2.1)
     rintro e w5c6 ⟨v_,rfl,ho,hb⟩
     refine⟨_,rfl,?_⟩
     have n0_:=zM (below_step hB.out hb)
     have n1_:=zM (below_step hC.out hb)
     have n2_:=zM (blk_below HZ.out hb)
     have n3_:=zM (Kd.S_below HOt_.out hb)
     have n4_:=zM (Kd.R_below HOy_.out hb)
     have n5_:=zM (Kd.R_lower (Kd.R_mono (Kd.R_bound ho) (ok':=fun j_=>w5.heap.size≤j_∧j_ < w5c6.heap.size∧j_≠gq_) (fun j_ hj_=>⟨Nat.le_trans hB.out.size hj_.2.1,hj_.2.2.1,fun e_=>by subst e_;have h9:=blk_lt HZ.out;have h8:=hj_.2.1;omega⟩)) (below_size hC.out))
     clear hHeld hB hC HZ HOt_ HOy_
     have hB:=n0_
     have hC:=n1_
     have HZ:=n2_
     have HOt_:=n3_
     have HOy_:=n4_
     have HOw_:=n5_
     clear n0_ n1_ n2_ n3_ n4_ n5_
     clear hb ho
     obtain⟨Aw_,cw_,ev_⟩:=Kd.R_slice HOw_.out
     subst ev_
     refine hK.out _ _ (HS.out _ hB.out) (fun hHeld=>?_)
     clear hK K_
     refine norm_ (a':=?_) ?_ ?_
     rotate_left
     ·show Act.put _ (some 28) _=_
      simp only[Act.put,List.setIfInBounds_toArray,List.set_cons_zero,List.set_cons_succ,i64_w,i32_w]
      rfl
     exact norm_ zq44 (hCont (.agg #[.int .i64 a0_0,.slice At_ m.length ct_],.agg #[.int .i64 a1_0,.int .i64 a1_1,.int .i64 a1_2,.slice Ay_ b.length cy_],gq_,Aw_,cw_) _ ⟨hB.out,HZ.out,HG.out,HOw_.out⟩)
   ·skip
    refine value_ (w1:=(w5c1.alloc (.cells #[.int .i64 0,.slice none 0 0] 31))) (v:=.pointer (some ⟨w5c1.heap.size,0,none⟩)) zq125 rfl ?_ ?_
    ·first
      | (go_simp;done)
      | (go_simp;rfl)
    have n0_:=zM (below_alloc hB.out (.cells #[.int .i64 0,.slice none 0 0] 31))
    have n1_:=zM (below_alloc hC.out (.cells #[.int .i64 0,.slice none 0 0] 31))
    have n2_:=zM (Kd.S_alloc HOt_.out (.cells #[.int .i64 0,.slice none 0 0] 31))
    have nz_:Aside0 ((w5c1.alloc (.cells #[.int .i64 0,.slice none 0 0] 31)).heap[w5c1.heap.size]?=some (Obj.cells #[.int .i64 0,.slice none 0 0] 31 (0,0))):=⟨heap_alloc_new w5c1 (.cells #[.int .i64 0,.slice none 0 0] 31)⟩
    have ng_:Aside0 (w5.heap.size≤w5c1.heap.size):=⟨hB.out.size⟩
    clear hHeld hB hC HOt_
    generalize w5c1.heap.size=gq_ at nz_ ng_ ⊢
    generalize (w5c1.alloc (.cells #[.int .i64 0,.slice none 0 0] 31))=w5c7 at n0_ n1_ n2_ nz_ ⊢
    have hB:=n0_
    have hC:=n1_
    have HOt_:=n2_
    have HZ:=nz_
    have HG:=ng_
    clear nz_ ng_ n0_ n1_ n2_
    refine hK.out _ _ (HS.out _ hB.out) (fun hHeld=>?_)
    clear hK K_
    refine norm_ (a':=?_) ?_ ?_
    rotate_left
    ·show Act.put _ (some 6) _=_
     simp only[Act.put,List.setIfInBounds_toArray,List.set_cons_zero,List.set_cons_succ,i64_w,i32_w]
     rfl
    refine one_ (i:=3) (N:=some 27) #[true,true,true,true,false,true,false] rfl rfl (by kernel_rfl) zq36 (fun K_ hK=>?_)
    refine goes_ Try.func8 (by kernel_rfl) rfl #[.agg #[.int .i64 a1_0,.int .i64 a1_1,.int .i64 a1_2,.slice A1_3 l1_3.length c1_3]] zq125 rfl rfl zq13 ?_
    with_reducible refine(laws_toLetter.calls K a1_0 a1_1 a1_2 A1_3 c1_3 l1_3 a1_0 a1_1 a1_2 b _ ?cbspec8 HCK.out HTK.out).mono ?_
    (case cbspec8=>exact Kd.C_below HRK.out hC.out)
    rintro e w5c8 ⟨v_,rfl,ho,hb⟩
    refine⟨_,rfl,?_⟩
    have n0_:=zM (below_step hB.out hb)
    have n1_:=zM (below_step hC.out hb)
    have n2_:=zM (blk_below HZ.out hb)
    have n3_:=zM (Kd.S_below HOt_.out hb)
    have n4_:=zM (Kd.R_lower ho (below_size hC.out))
    clear hHeld hB hC HZ HOt_
    have hB:=n0_
    have hC:=n1_
    have HZ:=n2_
    have HOt_:=n3_
    have HOy_:=n4_
    clear n0_ n1_ n2_ n3_ n4_
    clear hb ho
    obtain⟨Ay_,cy_,ev_⟩:=Kd.R_slice HOy_.out
    subst ev_
    refine hK.out _ _ (HS.out _ hB.out) (fun hHeld=>?_)
    clear hK K_
    refine norm_ (a':=?_) ?_ ?_
    rotate_left
    ·show Act.put _ (some 27) _=_
     simp only[Act.put,List.setIfInBounds_toArray,List.set_cons_zero,List.set_cons_succ,i64_w,i32_w]
     rfl
    refine one_ (i:=4) (N:=some 28) #[true,true,true,true,true,true,false] rfl rfl (by kernel_rfl) zq36 (fun K_ hK=>?_)
    refine goes_ Try.func6 (by kernel_rfl) rfl #[.agg #[.int .i64 a0_0,.slice At_ m.length ct_],.agg #[.int .i64 a1_0,.int .i64 a1_1,.int .i64 a1_2,.slice Ay_ b.length cy_]] zq125 rfl rfl zq13 ?_
    with_reducible refine(spec_SealLetter.calls K a0_0 _ _ m a1_0 a1_1 a1_2 _ _ b r1 r3 _ ?ccspec9 ?cdspec9 ?cespec9 ?cfspec9 HSP.out).mono ?_
    (case ccspec9=>exact(Kd.S_reads' HOt_.out).2.2)
    (case cdspec9=>exact(Kd.S_reads' HOt_.out).2.1)
    (case cespec9=>exact(Kd.R_reads' HOy_.out).2.2)
    (case cfspec9=>exact(Kd.R_reads' HOy_.out).2.1)
    rintro e w5c9 ⟨v_,rfl,ho,hb⟩
    refine⟨_,rfl,?_⟩
    have n0_:=zM (below_step hB.out hb)
    have n1_:=zM (below_step hC.out hb)
    have n2_:=zM (blk_below HZ.out hb)
    have n3_:=zM (Kd.S_below HOt_.out hb)
    have n4_:=zM (Kd.R_below HOy_.out hb)
    have n5_:=zM (Kd.R_lower (Kd.R_mono (Kd.R_bound ho) (ok':=fun j_=>w5.heap.size≤j_∧j_ < w5c9.heap.size∧j_≠gq_) (fun j_ hj_=>⟨Nat.le_trans hB.out.size hj_.2.1,hj_.2.2.1,fun e_=>by subst e_;have h9:=blk_lt HZ.out;have h8:=hj_.2.1;omega⟩)) (below_size hC.out))
    clear hHeld hB hC HZ HOt_ HOy_
    have hB:=n0_
    have hC:=n1_
    have HZ:=n2_
    have HOt_:=n3_
    have HOy_:=n4_
    have HOw_:=n5_
    clear n0_ n1_ n2_ n3_ n4_ n5_
    clear hb ho
    obtain⟨Aw_,cw_,ev_⟩:=Kd.R_slice HOw_.out
    subst ev_
    refine hK.out _ _ (HS.out _ hB.out) (fun hHeld=>?_)
    clear hK K_
    refine norm_ (a':=?_) ?_ ?_
    rotate_left
    ·show Act.put _ (some 28) _=_
     simp only[Act.put,List.setIfInBounds_toArray,List.set_cons_zero,List.set_cons_succ,i64_w,i32_w]
     rfl
    exact norm_ zq44 (hCont (.agg #[.int .i64 a0_0,.slice At_ m.length ct_],.agg #[.int .i64 a1_0,.int .i64 a1_1,.int .i64 a1_2,.slice Ay_ b.length cy_],gq_,Aw_,cw_) _ ⟨hB.out,HZ.out,HG.out,HOw_.out⟩)
  ·skip
   refine value_ (w1:=(w5.alloc (.cells #[.int .i64 0,.slice none 0 0] 31))) (v:=.pointer (some ⟨w5.heap.size,0,none⟩)) zq125 rfl ?_ ?_
   ·first
     | (go_simp;done)
     | (go_simp;rfl)
   have n0_:=zM (below_alloc hB.out (.cells #[.int .i64 0,.slice none 0 0] 31))
   have n1_:=zM (below_alloc hC.out (.cells #[.int .i64 0,.slice none 0 0] 31))
   have nz_:Aside0 ((w5.alloc (.cells #[.int .i64 0,.slice none 0 0] 31)).heap[w5.heap.size]?=some (Obj.cells #[.int .i64 0,.slice none 0 0] 31 (0,0))):=⟨heap_alloc_new w5 (.cells #[.int .i64 0,.slice none 0 0] 31)⟩
   have ng_:Aside0 (w5.heap.size≤w5.heap.size):=⟨hB.out.size⟩
   clear hHeld hB hC
   obtain⟨gq_,hgq_⟩:∃ x,x=w5.heap.size:=⟨_,rfl⟩
   have nz2_:Aside0 ((w5.alloc (.cells #[.int .i64 0,.slice none 0 0] 31)).heap[gq_]?=some (Obj.cells #[.int .i64 0,.slice none 0 0] 31 (0,0))):=⟨by rw[hgq_];exact nz_.out⟩
   have ng2_:Aside0 (w5.heap.size≤gq_):=⟨Nat.le_of_eq hgq_.symm⟩
   clear nz_ ng_
   have nz_:=nz2_
   have ng_:=ng2_
   clear nz2_ ng2_
   rw[← hgq_]
   clear hgq_
   generalize (w5.alloc (.cells #[.int .i64 0,.slice none 0 0] 31))=w5c10 at n0_ n1_ nz_ ⊢
   have hB:=n0_
   have hC:=n1_
   have HZ:=nz_
   have HG:=ng_
   clear nz_ ng_ n0_ n1_
   refine hK.out _ _ (HS.out _ hB.out) (fun hHeld=>?_)
   clear hK K_
   refine norm_ (a':=?_) ?_ ?_
   rotate_left
   ·show Act.put _ (some 6) _=_
    simp only[Act.put,List.setIfInBounds_toArray,List.set_cons_zero,List.set_cons_succ,i64_w,i32_w]
    rfl
   refine one_ (i:=1) (N:=some 25) #[true,true,true,false,false,true,false] rfl rfl (by kernel_rfl) zq36 (fun K_ hK=>?_)
   refine goes_ Try.func7 (by kernel_rfl) rfl #[.agg #[.int .i64 a0_0,.slice A0_1 l0_1.length c0_1]] zq125 rfl rfl zq13 ?_
   with_reducible refine(laws_toRing.calls K a0_0 A0_1 c0_1 l0_1 a0_0 m _ ?caspec11 HC.out HTO.out).mono ?_
   (case caspec11=>exact Kd.C_below HR.out hC.out)
   rintro e w5c11 ⟨v_,rfl,ho,hb⟩
   refine⟨_,rfl,?_⟩
   have n0_:=zM (below_step hB.out hb)
   have n1_:=zM (below_step hC.out hb)
   have n2_:=zM (blk_below HZ.out hb)
   have n3_:=zM (Kd.S_lower ho (below_size hC.out))
   clear hHeld hB hC HZ
   have hB:=n0_
   have hC:=n1_
   have HZ:=n2_
   have HOt_:=n3_
   clear n0_ n1_ n2_ n3_
   clear hb ho
   obtain⟨At_,ct_,ev_⟩:=Kd.S_slice HOt_.out
   subst ev_
   refine hK.out _ _ (HS.out _ hB.out) (fun hHeld=>?_)
   clear hK K_
   refine norm_ (a':=?_) ?_ ?_
   rotate_left
   ·show Act.put _ (some 25) _=_
    simp only[Act.put,List.setIfInBounds_toArray,List.set_cons_zero,List.set_cons_succ,i64_w,i32_w]
    rfl
   refine one_ (i:=3) (N:=some 27) #[true,true,true,true,false,true,false] rfl rfl (by kernel_rfl) zq36 (fun K_ hK=>?_)
   refine goes_ Try.func8 (by kernel_rfl) rfl #[.agg #[.int .i64 a1_0,.int .i64 a1_1,.int .i64 a1_2,.slice A1_3 l1_3.length c1_3]] zq125 rfl rfl zq13 ?_
   with_reducible refine(laws_toLetter.calls K a1_0 a1_1 a1_2 A1_3 c1_3 l1_3 a1_0 a1_1 a1_2 b _ ?cbspec12 HCK.out HTK.out).mono ?_
   (case cbspec12=>exact Kd.C_below HRK.out hC.out)
   rintro e w5c12 ⟨v_,rfl,ho,hb⟩
   refine⟨_,rfl,?_⟩
   have n0_:=zM (below_step hB.out hb)
   have n1_:=zM (below_step hC.out hb)
   have n2_:=zM (blk_below HZ.out hb)
   have n3_:=zM (Kd.S_below HOt_.out hb)
   have n4_:=zM (Kd.R_lower ho (below_size hC.out))
   clear hHeld hB hC HZ HOt_
   have hB:=n0_
   have hC:=n1_
   have HZ:=n2_
   have HOt_:=n3_
   have HOy_:=n4_
   clear n0_ n1_ n2_ n3_ n4_
   clear hb ho
   obtain⟨Ay_,cy_,ev_⟩:=Kd.R_slice HOy_.out
   subst ev_
   refine hK.out _ _ (HS.out _ hB.out) (fun hHeld=>?_)
   clear hK K_
   refine norm_ (a':=?_) ?_ ?_
   rotate_left
   ·show Act.put _ (some 27) _=_
    simp only[Act.put,List.setIfInBounds_toArray,List.set_cons_zero,List.set_cons_succ,i64_w,i32_w]
    rfl
   refine one_ (i:=4) (N:=some 28) #[true,true,true,true,true,true,false] rfl rfl (by kernel_rfl) zq36 (fun K_ hK=>?_)
   refine goes_ Try.func6 (by kernel_rfl) rfl #[.agg #[.int .i64 a0_0,.slice At_ m.length ct_],.agg #[.int .i64 a1_0,.int .i64 a1_1,.int .i64 a1_2,.slice Ay_ b.length cy_]] zq125 rfl rfl zq13 ?_
   with_reducible refine(spec_SealLetter.calls K a0_0 _ _ m a1_0 a1_1 a1_2 _ _ b r1 r3 _ ?ccspec13 ?cdspec13 ?cespec13 ?cfspec13 HSP.out).mono ?_
   (case ccspec13=>exact(Kd.S_reads' HOt_.out).2.2)
   (case cdspec13=>exact(Kd.S_reads' HOt_.out).2.1)
   (case cespec13=>exact(Kd.R_reads' HOy_.out).2.2)
   (case cfspec13=>exact(Kd.R_reads' HOy_.out).2.1)
   rintro e w5c13 ⟨v_,rfl,ho,hb⟩
   refine⟨_,rfl,?_⟩
   have n0_:=zM (below_step hB.out hb)
   have n1_:=zM (below_step hC.out hb)
   have n2_:=zM (blk_below HZ.out hb)
   have n3_:=zM (Kd.S_below HOt_.out hb)
   have n4_:=zM (Kd.R_below HOy_.out hb)
   have n5_:=zM (Kd.R_lower (Kd.R_mono (Kd.R_bound ho) (ok':=fun j_=>w5.heap.size≤j_∧j_ < w5c13.heap.size∧j_≠gq_) (fun j_ hj_=>⟨Nat.le_trans hB.out.size hj_.2.1,hj_.2.2.1,fun e_=>by subst e_;have h9:=blk_lt HZ.out;have h8:=hj_.2.1;omega⟩)) (below_size hC.out))
   clear hHeld hB hC HZ HOt_ HOy_
   have hB:=n0_
   have hC:=n1_
   have HZ:=n2_
   have HOt_:=n3_
   have HOy_:=n4_
   have HOw_:=n5_
   clear n0_ n1_ n2_ n3_ n4_ n5_
   clear hb ho
   obtain⟨Aw_,cw_,ev_⟩:=Kd.R_slice HOw_.out
   subst ev_
   refine hK.out _ _ (HS.out _ hB.out) (fun hHeld=>?_)
   clear hK K_
   refine norm_ (a':=?_) ?_ ?_
   rotate_left
   ·show Act.put _ (some 28) _=_
    simp only[Act.put,List.setIfInBounds_toArray,List.set_cons_zero,List.set_cons_succ,i64_w,i32_w]
    rfl
   exact norm_ zq44 (hCont (.agg #[.int .i64 a0_0,.slice At_ m.length ct_],.agg #[.int .i64 a1_0,.int .i64 a1_1,.int .i64 a1_2,.slice Ay_ b.length cy_],gq_,Aw_,cw_) _ ⟨hB.out,HZ.out,HG.out,HOw_.out⟩)
 rintro ⟨t25_,t27_,g6,Aw,cw⟩ w6 ⟨hb,hz_,hg_,hw_⟩
 refine norm_ (a':=?_) ?_ ?_
 rotate_left
 ·simp only[putAll,Act.put,List.setIfInBounds_toArray,List.set_cons_zero,List.set_cons_succ]
  rfl
 clear hHeld HS
 obtain⟨loww,hlow_⟩:∃ x_,x_=w5.heap.size:=⟨_,rfl⟩
 obtain⟨hiww,hhi_⟩:∃ x_,x_=w6.heap.size:=⟨_,rfl⟩
 have n0_:=zM (below_step HB.out hb)
 have n1_:=zM (blk_below BK2.out hb)
 have n2_:=zM (blk_below BK3.out hb)
 have n3_:=zM hz_
 have n4_:=zM (Kd.R_mono hw_ (ok':=fun j_=>loww≤j_∧j_ < hiww∧j_≠g6) (fun j_ hj_=>⟨by rw[hlow_];exact hj_.1,by rw[hhi_];exact hj_.2.1,hj_.2.2⟩))
 have n5_:=zM (show g3+1≤g6∧g6+1≤hiww from ⟨Nat.le_trans HT.out hg_,by rw[hhi_];exact blk_lt hz_⟩)
 have n6_:=zM (show g3+1≤loww∧loww≤hiww from ⟨by rw[hlow_];exact HT.out,by rw[hlow_,hhi_];exact hb.size⟩)
 have n7_:=zM (Nat.le_trans (below_size HB.out) hg_)
 have n8_:=zM (show hiww≤w6.heap.size from Nat.le_of_eq hhi_)
 clear HB BK2 BK3 HT
 have HB:=n0_
 have BK2:=n1_
 have BK3:=n2_
 have BK6:=n3_
 have HOw:=n4_
 have CH6:=n5_
 have CHw:=n6_
 have GE6:=n7_
 have HT:=n8_
 clear n0_ n1_ n2_ n3_ n4_ n5_ n6_ n7_ n8_
 clear hb hz_ hg_ hw_ hlow_ hhi_
 refine last_ (i:=6) (N:=none) #[true,true,true,true,true,true,true] rfl rfl (by kernel_rfl) zq36 (fun K_ hK=>?_)
 rw[if_pos zq125]
 refine wp_store_row 31 (.tmp 6) (.tmp 28) rfl g6 #[.int .i64 r1,(.slice Aw r3.length cw)] rfl rfl 31 #[.int .i64 0,.slice none 0 0] BK6.out (by kernel_rfl) rfl zq135 ?_
 have hgr:=grown_setRow w6 g6 #[.int .i64 r1,(.slice Aw r3.length cw)]
 have hbk:=setRow_heap w6 g6 _ #[.int .i64 r1,(.slice Aw r3.length cw)] 31 (0,0) BK6.out
 generalize w6.setRow g6 #[.int .i64 r1,(.slice Aw r3.length cw)]=w7 at hgr hbk ⊢
 have n0_:=zM (below_grown1 HB.out hgr GE6.out)
 have n1_:=zM (Nat.le_trans HT.out hgr.size)
 have n2_:=zM (blk_grown1 (g':=g2) (ob:=.cells #[.int .i64 a0_0,.slice A0_1 l0_1.length c0_1] 24 (0,0)) BK2.out hgr (by have:=CH2.out;have:=CH3.out;have:=CH6.out;omega))
 have n3_:=zM (blk_grown1 (g':=g3) (ob:=.cells #[.int .i64 a1_0,.int .i64 a1_1,.int .i64 a1_2,.slice A1_3 l1_3.length c1_3] 27 (0,0)) BK3.out hgr (by have:=CH3.out;have:=CH6.out;omega))
 have n4_:=zM (Kd.R_grown HOw.out hgr (fun q_ hq_ he_=>by injection he_ with he_;subst he_;exact hq_.2.2 rfl))
 have n5_:=zM hbk
 clear HB HT BK2 BK3 HOw BK6
 have HB:=n0_
 have HT:=n1_
 have BK2:=n2_
 have BK3:=n3_
 have HOw:=n4_
 have BK6:=n5_
 clear n0_ n1_ n2_ n3_ n4_ n5_
 clear hbk hgr
 refine hK.out _ _ ?_
 clear hK K_
 refine done_ (by kernel_rfl) ?_
 have hc2_0:w7.cell? ⟨g2,0,none⟩=some (.int .i64 a0_0):=(blk_cell BK2.out 0).trans rfl
 have hc2_1:w7.cell? ⟨g2,1,none⟩=some (.slice A0_1 l0_1.length c0_1):=(blk_cell BK2.out 1).trans rfl
 go_wp2_with (first
   | ((with_reducible refine gate_callee (f:=7) rfl ?_);refine goesL_ (some 30) rfl rfl Try.func7 (by kernel_rfl) rfl #[.agg #[.int .i64 a0_0,.slice A0_1 l0_1.length c0_1]] rfl zq13 ?_;(with_reducible refine(laws_toRing.calls K a0_0 A0_1 c0_1 l0_1 a0_0 m _ (Kd.C_below HR.out HB.out) HC.out HTO.out).mono ?_);rintro e w8 ⟨v_,rfl,ho,hb⟩;refine⟨_,rfl,?_⟩;obtain⟨lox,hix,hch_,hhi_,hz_⟩:=SealLetter_zS ho (below_size HB.out) HT.out hb.size;clear ho;have n0_:=zM (below_step HB.out hb);have n1_:=zM (blk_below BK2.out hb);have n2_:=zM (blk_below BK3.out hb);have n3_:=zM (blk_below BK6.out hb);have n4_:=zM (Kd.R_below HOw.out hb);have n5_:=zM hz_;have n6_:=zM hch_;have n7_:=zM hhi_;clear HB BK2 BK3 BK6 HOw HT;have HB:=n0_;have BK2:=n1_;have BK3:=n2_;have BK6:=n3_;have HOw:=n4_;have HOx:=n5_;have CHx:=n6_;have HT:=n7_;clear n0_ n1_ n2_ n3_ n4_ n5_ n6_ n7_;clear hb hch_ hhi_ hz_;obtain⟨Ax,cx,ev_⟩:=Kd.S_slice HOx.out;subst ev_;clear hc2_0 hc2_1)
   | ((with_reducible refine gate_dst (N:=7) rfl ?_);refine box_event ?hg (N:=7) ?hd (cs:=#[.int .i64 0,.slice none 0 0]) (t:=35) ?hr ?_;(case hd=>rfl);(case hg=>rfl);(case hr=>first|(go_simp;done)|(go_simp;rfl));intro g7 hg w9 hbox hb;have n0_:=zM (below_step HB.out hb);have n1_:=zM (blk_below BK2.out hb);have n2_:=zM (blk_below BK3.out hb);have n3_:=zM (blk_below BK6.out hb);have n4_:=zM (Kd.R_below HOw.out hb);have n5_:=zM (Kd.S_below HOx.out hb);have n6_:=zM hbox;have n7_:=zM (show hix≤g7 by rw[hg];exact HT.out);have n8_:=zM (show w.heap.size≤g7 by rw[hg];exact below_size HB.out);have n9_:=zM (show g7+1≤w9.heap.size from blk_lt hbox);clear HB BK2 BK3 BK6 HOw HOx HT;have HB:=n0_;have BK2:=n1_;have BK3:=n2_;have BK6:=n3_;have HOw:=n4_;have HOx:=n5_;have BK7:=n6_;have CH7:=n7_;have GE7:=n8_;have HT:=n9_;clear n0_ n1_ n2_ n3_ n4_ n5_ n6_ n7_ n8_ n9_;clear hb hbox hg;)
   | ((with_reducible refine gate_store (t:=35) (p:=7) rfl ?_);refine row_event ?hg (ty:=35) (p:=7) (y:=?yo7) ?ho ?hn (g:=g7) (old:=#[.int .i64 0,.slice none 0 0]) (e:=35) (cells:=#[.int .i64 a0_0,(.slice Ax m.length cx)]) ?hx ?hy ?hk ?hi ?hd ?h1 ?_;(case ho=>rfl);(case hg=>rfl);(case hn=>rfl);(case hx=>rfl);(case hy=>rfl);(case hk=>exact BK7.out);(case hi=>kernel_rfl);(case hd=>rfl);(case h1=>exact zq135);intro w10 hbk hgr;have n0_:=zM (below_grown1 HB.out hgr GE7.out);have n1_:=zM (Nat.le_trans HT.out hgr.size);have n2_:=zM (blk_grown1 (g':=g2) (ob:=.cells #[.int .i64 a0_0,.slice A0_1 l0_1.length c0_1] 24 (0,0)) BK2.out hgr (by have:=CH2.out;have:=CH3.out;have:=CH6.out;have:=CHw.out;have:=CHx.out;have:=CH7.out;omega));have n3_:=zM (blk_grown1 (g':=g3) (ob:=.cells #[.int .i64 a1_0,.int .i64 a1_1,.int .i64 a1_2,.slice A1_3 l1_3.length c1_3] 27 (0,0)) BK3.out hgr (by have:=CH3.out;have:=CH6.out;have:=CHw.out;have:=CHx.out;have:=CH7.out;omega));have n4_:=zM (blk_grown1 (g':=g6) (ob:=.cells #[.int .i64 r1,(.slice Aw r3.length cw)] 31 (0,0)) BK6.out hgr (by have:=CH6.out;have:=CHw.out;have:=CHx.out;have:=CH7.out;omega));have n5_:=zM (Kd.R_grown HOw.out hgr (fun q_ hq_ he_=>by injection he_ with he_;subst he_;have:=CHw.out;have:=CHx.out;have:=CH7.out;omega));have n6_:=zM (Kd.S_grown HOx.out hgr (fun q_ hq_ he_=>by injection he_ with he_;subst he_;have:=CHx.out;have:=CH7.out;omega));have n7_:=zM hbk;clear HB HT BK2 BK3 BK6 HOw HOx BK7;have HB:=n0_;have HT:=n1_;have BK2:=n2_;have BK3:=n3_;have BK6:=n4_;have HOw:=n5_;have HOx:=n6_;have BK7:=n7_;clear n0_ n1_ n2_ n3_ n4_ n5_ n6_ n7_;clear hbk hgr;have hc3_0:w10.cell? ⟨g3,0,none⟩=some (.int .i64 a1_0):=(blk_cell BK3.out 0).trans rfl;have hc3_1:w10.cell? ⟨g3,1,none⟩=some (.int .i64 a1_1):=(blk_cell BK3.out 1).trans rfl;have hc3_2:w10.cell? ⟨g3,2,none⟩=some (.int .i64 a1_2):=(blk_cell BK3.out 2).trans rfl;have hc3_3:w10.cell? ⟨g3,3,none⟩=some (.slice A1_3 l1_3.length c1_3):=(blk_cell BK3.out 3).trans rfl)
   | ((with_reducible refine gate_callee (f:=8) rfl ?_);refine goesL_ (some 32) rfl rfl Try.func8 (by kernel_rfl) rfl #[.agg #[.int .i64 a1_0,.int .i64 a1_1,.int .i64 a1_2,.slice A1_3 l1_3.length c1_3]] rfl zq13 ?_;(with_reducible refine(laws_toLetter.calls K a1_0 a1_1 a1_2 A1_3 c1_3 l1_3 a1_0 a1_1 a1_2 b _ (Kd.C_below HRK.out HB.out) HCK.out HTK.out).mono ?_);rintro e w11 ⟨v_,rfl,ho,hb⟩;refine⟨_,rfl,?_⟩;obtain⟨loy,hiy,hch_,hhi_,hz_⟩:=SealLetter_zR ho (below_size HB.out) HT.out hb.size;clear ho;have n0_:=zM (below_step HB.out hb);have n1_:=zM (blk_below BK2.out hb);have n2_:=zM (blk_below BK3.out hb);have n3_:=zM (blk_below BK6.out hb);have n4_:=zM (Kd.R_below HOw.out hb);have n5_:=zM (Kd.S_below HOx.out hb);have n6_:=zM (blk_below BK7.out hb);have n7_:=zM hz_;have n8_:=zM hch_;have n9_:=zM hhi_;clear HB BK2 BK3 BK6 HOw HOx BK7 HT;have HB:=n0_;have BK2:=n1_;have BK3:=n2_;have BK6:=n3_;have HOw:=n4_;have HOx:=n5_;have BK7:=n6_;have HOy:=n7_;have CHy:=n8_;have HT:=n9_;clear n0_ n1_ n2_ n3_ n4_ n5_ n6_ n7_ n8_ n9_;clear hb hch_ hhi_ hz_;obtain⟨Ay,cy,ev_⟩:=Kd.R_slice HOy.out;subst ev_;clear hc3_0 hc3_1 hc3_2 hc3_3)
   | ((with_reducible refine gate_dst (N:=8) rfl ?_);refine box_event ?hg (N:=8) ?hd (cs:=#[.int .i64 0,.int .i64 0,.int .i64 0,.slice none 0 0]) (t:=37) ?hr ?_;(case hd=>rfl);(case hg=>rfl);(case hr=>first|(go_simp;done)|(go_simp;rfl));intro g8 hg w12 hbox hb;have n0_:=zM (below_step HB.out hb);have n1_:=zM (blk_below BK2.out hb);have n2_:=zM (blk_below BK3.out hb);have n3_:=zM (blk_below BK6.out hb);have n4_:=zM (Kd.R_below HOw.out hb);have n5_:=zM (Kd.S_below HOx.out hb);have n6_:=zM (blk_below BK7.out hb);have n7_:=zM (Kd.R_below HOy.out hb);have n8_:=zM hbox;have n9_:=zM (show hiy≤g8 by rw[hg];exact HT.out);have n10_:=zM (show w.heap.size≤g8 by rw[hg];exact below_size HB.out);have n11_:=zM (show g8+1≤w12.heap.size from blk_lt hbox);clear HB BK2 BK3 BK6 HOw HOx BK7 HOy HT;have HB:=n0_;have BK2:=n1_;have BK3:=n2_;have BK6:=n3_;have HOw:=n4_;have HOx:=n5_;have BK7:=n6_;have HOy:=n7_;have BK8:=n8_;have CH8:=n9_;have GE8:=n10_;have HT:=n11_;clear n0_ n1_ n2_ n3_ n4_ n5_ n6_ n7_ n8_ n9_ n10_ n11_;clear hb hbox hg;)
   | ((with_reducible refine gate_store (t:=37) (p:=8) rfl ?_);refine row_event ?hg (ty:=37) (p:=8) (y:=?yo8) ?ho ?hn (g:=g8) (old:=#[.int .i64 0,.int .i64 0,.int .i64 0,.slice none 0 0]) (e:=37) (cells:=#[.int .i64 a1_0,.int .i64 a1_1,.int .i64 a1_2,(.slice Ay b.length cy)]) ?hx ?hy ?hk ?hi ?hd ?h1 ?_;(case ho=>rfl);(case hg=>rfl);(case hn=>rfl);(case hx=>rfl);(case hy=>rfl);(case hk=>exact BK8.out);(case hi=>kernel_rfl);(case hd=>rfl);(case h1=>exact zq135);intro w13 hbk hgr;have n0_:=zM (below_grown1 HB.out hgr GE8.out);have n1_:=zM (Nat.le_trans HT.out hgr.size);have n2_:=zM (blk_grown1 (g':=g2) (ob:=.cells #[.int .i64 a0_0,.slice A0_1 l0_1.length c0_1] 24 (0,0)) BK2.out hgr (by have:=CH2.out;have:=CH3.out;have:=CH6.out;have:=CHw.out;have:=CHx.out;have:=CH7.out;have:=CHy.out;have:=CH8.out;omega));have n3_:=zM (blk_grown1 (g':=g3) (ob:=.cells #[.int .i64 a1_0,.int .i64 a1_1,.int .i64 a1_2,.slice A1_3 l1_3.length c1_3] 27 (0,0)) BK3.out hgr (by have:=CH3.out;have:=CH6.out;have:=CHw.out;have:=CHx.out;have:=CH7.out;have:=CHy.out;have:=CH8.out;omega));have n4_:=zM (blk_grown1 (g':=g6) (ob:=.cells #[.int .i64 r1,(.slice Aw r3.length cw)] 31 (0,0)) BK6.out hgr (by have:=CH6.out;have:=CHw.out;have:=CHx.out;have:=CH7.out;have:=CHy.out;have:=CH8.out;omega));have n5_:=zM (Kd.R_grown HOw.out hgr (fun q_ hq_ he_=>by injection he_ with he_;subst he_;have:=CHw.out;have:=CHx.out;have:=CH7.out;have:=CHy.out;have:=CH8.out;omega));have n6_:=zM (Kd.S_grown HOx.out hgr (fun q_ hq_ he_=>by injection he_ with he_;subst he_;have:=CHx.out;have:=CH7.out;have:=CHy.out;have:=CH8.out;omega));have n7_:=zM (blk_grown1 (g':=g7) (ob:=.cells #[.int .i64 a0_0,(.slice Ax m.length cx)] 35 (0,0)) BK7.out hgr (by have:=CH7.out;have:=CHy.out;have:=CH8.out;omega));have n8_:=zM (Kd.R_grown HOy.out hgr (fun q_ hq_ he_=>by injection he_ with he_;subst he_;have:=CHy.out;have:=CH8.out;omega));have n9_:=zM hbk;clear HB HT BK2 BK3 BK6 HOw HOx BK7 HOy BK8;have HB:=n0_;have HT:=n1_;have BK2:=n2_;have BK3:=n3_;have BK6:=n4_;have HOw:=n5_;have HOx:=n6_;have BK7:=n7_;have HOy:=n8_;have BK8:=n9_;clear n0_ n1_ n2_ n3_ n4_ n5_ n6_ n7_ n8_ n9_;clear hbk hgr;have hc7_0:w13.cell? ⟨g7,0,none⟩=some (.int .i64 a0_0):=(blk_cell BK7.out 0).trans rfl;have hc7_1:w13.cell? ⟨g7,1,none⟩=some ((.slice Ax m.length cx)):=(blk_cell BK7.out 1).trans rfl;have hc8_0:w13.cell? ⟨g8,0,none⟩=some (.int .i64 a1_0):=(blk_cell BK8.out 0).trans rfl;have hc8_1:w13.cell? ⟨g8,1,none⟩=some (.int .i64 a1_1):=(blk_cell BK8.out 1).trans rfl;have hc8_2:w13.cell? ⟨g8,2,none⟩=some (.int .i64 a1_2):=(blk_cell BK8.out 2).trans rfl;have hc8_3:w13.cell? ⟨g8,3,none⟩=some ((.slice Ay b.length cy)):=(blk_cell BK8.out 3).trans rfl)
   | ((with_reducible refine gate_callee (f:=9) rfl ?_);refine goesL_ (some 35) rfl rfl Try.func9 (by kernel_rfl) rfl #[.agg #[.int .i64 a0_0,(.slice Ax m.length cx)],.agg #[.int .i64 a1_0,.int .i64 a1_1,.int .i64 a1_2,(.slice Ay b.length cy)]] rfl zq13 ?_;(with_reducible refine(impl_SealLetter.calls K a0_0 _ _ m a1_0 a1_1 a1_2 _ _ b r1 r3 _ ?sg1 ?sg2 ?sg3 ?sg4 HIM.out).mono ?_);(case sg1=>exact(Kd.S_reads' HOx.out).2.2);(case sg2=>exact(Kd.S_reads' HOx.out).2.1);(case sg3=>exact(Kd.R_reads' HOy.out).2.2);(case sg4=>exact(Kd.R_reads' HOy.out).2.1);rintro e w14 ⟨v_,rfl,ho,hb⟩;refine⟨_,rfl,?_⟩;obtain⟨log,hig,hch_,hhi_,hz_⟩:=SealLetter_zR ho (below_size HB.out) HT.out hb.size;clear ho;have n0_:=zM (below_step HB.out hb);have n1_:=zM (blk_below BK2.out hb);have n2_:=zM (blk_below BK3.out hb);have n3_:=zM (blk_below BK6.out hb);have n4_:=zM (Kd.R_below HOw.out hb);have n5_:=zM (Kd.S_below HOx.out hb);have n6_:=zM (blk_below BK7.out hb);have n7_:=zM (Kd.R_below HOy.out hb);have n8_:=zM (blk_below BK8.out hb);have n9_:=zM hz_;have n10_:=zM hch_;have n11_:=zM hhi_;clear HB BK2 BK3 BK6 HOw HOx BK7 HOy BK8 HT;have HB:=n0_;have BK2:=n1_;have BK3:=n2_;have BK6:=n3_;have HOw:=n4_;have HOx:=n5_;have BK7:=n6_;have HOy:=n7_;have BK8:=n8_;have HOg:=n9_;have CHg:=n10_;have HT:=n11_;clear n0_ n1_ n2_ n3_ n4_ n5_ n6_ n7_ n8_ n9_ n10_ n11_;clear hb hch_ hhi_ hz_;obtain⟨Ag,cg,ev_⟩:=Kd.R_slice HOg.out;subst ev_;clear hc7_0 hc7_1 hc8_0 hc8_1 hc8_2 hc8_3)
   | ((with_reducible refine gate_dst (N:=9) rfl ?_);refine box_event ?hg (N:=9) ?hd (cs:=#[.int .i64 0,.slice none 0 0]) (t:=31) ?hr ?_;(case hd=>rfl);(case hg=>rfl);(case hr=>first|(go_simp;done)|(go_simp;rfl));intro g9 hg w15 hbox hb;have n0_:=zM (below_step HB.out hb);have n1_:=zM (blk_below BK2.out hb);have n2_:=zM (blk_below BK3.out hb);have n3_:=zM (blk_below BK6.out hb);have n4_:=zM (Kd.R_below HOw.out hb);have n5_:=zM (Kd.S_below HOx.out hb);have n6_:=zM (blk_below BK7.out hb);have n7_:=zM (Kd.R_below HOy.out hb);have n8_:=zM (blk_below BK8.out hb);have n9_:=zM (Kd.R_below HOg.out hb);have n10_:=zM hbox;have n11_:=zM (show hig≤g9 by rw[hg];exact HT.out);have n12_:=zM (show w.heap.size≤g9 by rw[hg];exact below_size HB.out);have n13_:=zM (show g9+1≤w15.heap.size from blk_lt hbox);clear HB BK2 BK3 BK6 HOw HOx BK7 HOy BK8 HOg HT;have HB:=n0_;have BK2:=n1_;have BK3:=n2_;have BK6:=n3_;have HOw:=n4_;have HOx:=n5_;have BK7:=n6_;have HOy:=n7_;have BK8:=n8_;have HOg:=n9_;have BK9:=n10_;have CH9:=n11_;have GE9:=n12_;have HT:=n13_;clear n0_ n1_ n2_ n3_ n4_ n5_ n6_ n7_ n8_ n9_ n10_ n11_ n12_ n13_;clear hb hbox hg;)
   | ((with_reducible refine gate_store (t:=31) (p:=9) rfl ?_);refine row_event ?hg (ty:=31) (p:=9) (y:=?yo9) ?ho ?hn (g:=g9) (old:=#[.int .i64 0,.slice none 0 0]) (e:=31) (cells:=#[.int .i64 r1,(.slice Ag r3.length cg)]) ?hx ?hy ?hk ?hi ?hd ?h1 ?_;(case ho=>rfl);(case hg=>rfl);(case hn=>rfl);(case hx=>rfl);(case hy=>rfl);(case hk=>exact BK9.out);(case hi=>kernel_rfl);(case hd=>rfl);(case h1=>exact zq135);intro w16 hbk hgr;have n0_:=zM (below_grown1 HB.out hgr GE9.out);have n1_:=zM (Nat.le_trans HT.out hgr.size);have n2_:=zM (blk_grown1 (g':=g2) (ob:=.cells #[.int .i64 a0_0,.slice A0_1 l0_1.length c0_1] 24 (0,0)) BK2.out hgr (by have:=CH2.out;have:=CH3.out;have:=CH6.out;have:=CHw.out;have:=CHx.out;have:=CH7.out;have:=CHy.out;have:=CH8.out;have:=CHg.out;have:=CH9.out;omega));have n3_:=zM (blk_grown1 (g':=g3) (ob:=.cells #[.int .i64 a1_0,.int .i64 a1_1,.int .i64 a1_2,.slice A1_3 l1_3.length c1_3] 27 (0,0)) BK3.out hgr (by have:=CH3.out;have:=CH6.out;have:=CHw.out;have:=CHx.out;have:=CH7.out;have:=CHy.out;have:=CH8.out;have:=CHg.out;have:=CH9.out;omega));have n4_:=zM (blk_grown1 (g':=g6) (ob:=.cells #[.int .i64 r1,(.slice Aw r3.length cw)] 31 (0,0)) BK6.out hgr (by have:=CH6.out;have:=CHw.out;have:=CHx.out;have:=CH7.out;have:=CHy.out;have:=CH8.out;have:=CHg.out;have:=CH9.out;omega));have n5_:=zM (Kd.R_grown HOw.out hgr (fun q_ hq_ he_=>by injection he_ with he_;subst he_;have:=CHw.out;have:=CHx.out;have:=CH7.out;have:=CHy.out;have:=CH8.out;have:=CHg.out;have:=CH9.out;omega));have n6_:=zM (Kd.S_grown HOx.out hgr (fun q_ hq_ he_=>by injection he_ with he_;subst he_;have:=CHx.out;have:=CH7.out;have:=CHy.out;have:=CH8.out;have:=CHg.out;have:=CH9.out;omega));have n7_:=zM (blk_grown1 (g':=g7) (ob:=.cells #[.int .i64 a0_0,(.slice Ax m.length cx)] 35 (0,0)) BK7.out hgr (by have:=CH7.out;have:=CHy.out;have:=CH8.out;have:=CHg.out;have:=CH9.out;omega));have n8_:=zM (Kd.R_grown HOy.out hgr (fun q_ hq_ he_=>by injection he_ with he_;subst he_;have:=CHy.out;have:=CH8.out;have:=CHg.out;have:=CH9.out;omega));have n9_:=zM (blk_grown1 (g':=g8) (ob:=.cells #[.int .i64 a1_0,.int .i64 a1_1,.int .i64 a1_2,(.slice Ay b.length cy)] 37 (0,0)) BK8.out hgr (by have:=CH8.out;have:=CHg.out;have:=CH9.out;omega));have n10_:=zM (Kd.R_grown HOg.out hgr (fun q_ hq_ he_=>by injection he_ with he_;subst he_;have:=CHg.out;have:=CH9.out;omega));have n11_:=zM hbk;clear HB HT BK2 BK3 BK6 HOw HOx BK7 HOy BK8 HOg BK9;have HB:=n0_;have HT:=n1_;have BK2:=n2_;have BK3:=n3_;have BK6:=n4_;have HOw:=n5_;have HOx:=n6_;have BK7:=n7_;have HOy:=n8_;have BK8:=n9_;have HOg:=n10_;have BK9:=n11_;clear n0_ n1_ n2_ n3_ n4_ n5_ n6_ n7_ n8_ n9_ n10_ n11_;clear hbk hgr;have hc6_0:w16.cell? ⟨g6,0,none⟩=some (.int .i64 r1):=(blk_cell BK6.out 0).trans rfl;have hc6_1:w16.cell? ⟨g6,1,none⟩=some ((.slice Aw r3.length cw)):=(blk_cell BK6.out 1).trans rfl;have hc9_0:w16.cell? ⟨g9,0,none⟩=some (.int .i64 r1):=(blk_cell BK9.out 0).trans rfl;have hc9_1:w16.cell? ⟨g9,1,none⟩=some ((.slice Ag r3.length cg)):=(blk_cell BK9.out 1).trans rfl)
   | ((with_reducible refine gate_callee (f:=10) rfl ?_);refine goesL_ (some 38) rfl rfl Try.func10 (by kernel_rfl) rfl #[.agg #[.int .i64 r1,(.slice Ag r3.length cg)],.agg #[.int .i64 r1,(.slice Aw r3.length cw)]] rfl zq13 ?_;(with_reducible refine(laws_eqBytesResult.calls K r1 _ _ r3 r1 _ _ r3 true _ ?ea38 ?eb38 ?ec38 ?ed38 HEQ.out).mono ?_);(case ea38=>exact(Kd.R_reads' HOg.out).2.2);(case eb38=>exact(Kd.R_reads' HOg.out).2.1);(case ec38=>exact(Kd.R_reads' HOw.out).2.2);(case ed38=>exact(Kd.R_reads' HOw.out).2.1);rintro e w17 ⟨rfl,hb⟩;refine⟨_,rfl,?_⟩;have n0_:=zM (below_step HB.out hb);have n1_:=zM (Nat.le_trans HT.out (Below.size hb));have n2_:=zM (blk_below BK2.out hb);have n3_:=zM (blk_below BK3.out hb);have n4_:=zM (blk_below BK6.out hb);have n5_:=zM (Kd.R_below HOw.out hb);have n6_:=zM (Kd.S_below HOx.out hb);have n7_:=zM (blk_below BK7.out hb);have n8_:=zM (Kd.R_below HOy.out hb);have n9_:=zM (blk_below BK8.out hb);have n10_:=zM (Kd.R_below HOg.out hb);have n11_:=zM (blk_below BK9.out hb);clear HB HT BK2 BK3 BK6 HOw HOx BK7 HOy BK8 HOg BK9;have HB:=n0_;have HT:=n1_;have BK2:=n2_;have BK3:=n3_;have BK6:=n4_;have HOw:=n5_;have HOx:=n6_;have BK7:=n7_;have HOy:=n8_;have BK8:=n9_;have HOg:=n10_;have BK9:=n11_;clear n0_ n1_ n2_ n3_ n4_ n5_ n6_ n7_ n8_ n9_ n10_ n11_;clear hb;clear hc6_0 hc6_1 hc9_0 hc9_1))
 have n0_:=zM (below_drew1 HB.out)
 have n1_:=zM (show g9+1≤w17.drew.heap.size from HT.out)
 have n2_:=zM (blk_drew BK2.out)
 have n3_:=zM (blk_drew BK3.out)
 have n4_:=zM (blk_drew BK6.out)
 have n5_:=zM (Kd.R_drew HOw.out)
 have n6_:=zM (Kd.S_drew HOx.out)
 have n7_:=zM (blk_drew BK7.out)
 have n8_:=zM (Kd.R_drew HOy.out)
 have n9_:=zM (blk_drew BK8.out)
 have n10_:=zM (Kd.R_drew HOg.out)
 have n11_:=zM (blk_drew BK9.out)
 clear HB HT BK2 BK3 BK6 HOw HOx BK7 HOy BK8 HOg BK9
 have HB:=n0_
 have HT:=n1_
 have BK2:=n2_
 have BK3:=n3_
 have BK6:=n4_
 have HOw:=n5_
 have HOx:=n6_
 have BK7:=n7_
 have HOy:=n8_
 have BK8:=n9_
 have HOg:=n10_
 have BK9:=n11_
 clear n0_ n1_ n2_ n3_ n4_ n5_ n6_ n7_ n8_ n9_ n10_ n11_
 refine start_ (n:=5) (S:=fun w'=>w'.cell? ⟨g7,0,none⟩=some (.int .i64 a0_0)∧w'.cell? ⟨g7,1,none⟩=some ((.slice Ax m.length cx))∧w'.cell? ⟨g2,0,none⟩=some (.int .i64 a0_0)∧w'.cell? ⟨g2,1,none⟩=some (.slice A0_1 l0_1.length c0_1)) (ds:=[]) #[false,false,false,false,false] (by kernel_rfl) rfl rfl ⟨(blk_cell BK7.out 0).trans rfl,(blk_cell BK7.out 1).trans rfl,(blk_cell BK2.out 0).trans rfl,(blk_cell BK2.out 1).trans rfl⟩ (fun hHeld=>?_)
 generalize w17.drew=w18 at HB HT BK2 BK3 BK6 HOw HOx BK7 HOy BK8 HOg BK9 hHeld ⊢
 refine take_ (i:=0) (N:=some 40) (v:=?_) (a':=?_) #[true,false,false,false,false] rfl rfl (by kernel_rfl) (fun _ _ _ h=>h) (Or.inl ⟨zq125,?_⟩) hHeld ?_ ?_
 rotate_left
 ·rintro w' ⟨s0,s1,s2,s3⟩
  go_simp
  with_reducible rfl
 rotate_left
 ·simp only[Act.put,List.setIfInBounds_toArray,List.set_cons_zero,List.set_cons_succ,i64_w,i32_w]
  rfl
 refine take_ (i:=1) (N:=some 41) (v:=?_) (a':=?_) #[true,true,false,false,false] rfl rfl (by kernel_rfl) (fun _ _ _ h=>h) (Or.inl ⟨zq125,?_⟩) hHeld ?_ ?_
 rotate_left
 ·rintro w' ⟨s0,s1,s2,s3⟩
  go_simp
  with_reducible rfl
 rotate_left
 ·simp only[Act.put,List.setIfInBounds_toArray,List.set_cons_zero,List.set_cons_succ,i64_w,i32_w]
  rfl
 refine one_ (i:=2) (N:=some 42) #[true,true,true,false,false] rfl rfl (by kernel_rfl) zq36 (fun K_ hK=>?_)
 refine goes_ Try.func7 (by kernel_rfl) rfl #[.agg #[.int .i64 a0_0,.slice A0_1 l0_1.length c0_1]] zq125 rfl rfl zq13 ?_
 with_reducible refine(laws_toRing.calls K a0_0 A0_1 c0_1 l0_1 a0_0 m _ (Kd.C_below HR.out HB.out) HC.out HTO.out).mono ?_
 rintro e w19 ⟨v_,rfl,ho,hb⟩
 refine⟨_,rfl,?_⟩
 obtain⟨lozx,hizx,hch_,hhi_,hz_⟩:=SealLetter_zS ho (below_size HB.out) HT.out hb.size
 clear ho
 have n0_:=zM (below_step HB.out hb)
 have n1_:=zM (blk_below BK2.out hb)
 have n2_:=zM (blk_below BK3.out hb)
 have n3_:=zM (blk_below BK6.out hb)
 have n4_:=zM (Kd.R_below HOw.out hb)
 have n5_:=zM (Kd.S_below HOx.out hb)
 have n6_:=zM (blk_below BK7.out hb)
 have n7_:=zM (Kd.R_below HOy.out hb)
 have n8_:=zM (blk_below BK8.out hb)
 have n9_:=zM (Kd.R_below HOg.out hb)
 have n10_:=zM (blk_below BK9.out hb)
 have n11_:=zM hz_
 have n12_:=zM hch_
 have n13_:=zM hhi_
 clear HB BK2 BK3 BK6 HOw HOx BK7 HOy BK8 HOg BK9 HT
 have HB:=n0_
 have BK2:=n1_
 have BK3:=n2_
 have BK6:=n3_
 have HOw:=n4_
 have HOx:=n5_
 have BK7:=n6_
 have HOy:=n7_
 have BK8:=n8_
 have HOg:=n9_
 have BK9:=n10_
 have HOzx:=n11_
 have CHzx:=n12_
 have HT:=n13_
 clear n0_ n1_ n2_ n3_ n4_ n5_ n6_ n7_ n8_ n9_ n10_ n11_ n12_ n13_
 clear hb hch_ hhi_ hz_
 obtain⟨Azx,czx,ev_⟩:=Kd.S_slice HOzx.out
 subst ev_
 refine hK.out _ _ ⟨(blk_cell BK7.out 0).trans rfl,(blk_cell BK7.out 1).trans rfl,(blk_cell BK2.out 0).trans rfl,(blk_cell BK2.out 1).trans rfl⟩ (fun hHeld=>?_)
 clear hK K_
 refine norm_ (a':=?_) ?_ ?_
 rotate_left
 ·show Act.put _ (some 42) _=_
  simp only[Act.put,List.setIfInBounds_toArray,List.set_cons_zero,List.set_cons_succ,i64_w,i32_w]
  rfl
 refine one_ (i:=3) (N:=some 43) #[true,true,true,true,false] rfl rfl (by kernel_rfl) zq36 (fun K_ hK=>?_)
 refine goes_ Try.func11 (by kernel_rfl) rfl #[.agg #[.int .i64 a0_0,(.slice Ax m.length cx)],.agg #[.int .i64 a0_0,(.slice Azx m.length czx)]] zq125 rfl rfl zq13 ?_
 with_reducible refine(laws_eqRing.calls K a0_0 _ _ m a0_0 _ _ m true _ ?ra ?rb ?rc ?rd HER.out).mono ?_
 (case ra=>exact(Kd.S_reads' HOx.out).2.2)
 (case rb=>exact(Kd.S_reads' HOx.out).2.1)
 (case rc=>exact(Kd.S_reads' HOzx.out).2.2)
 (case rd=>exact(Kd.S_reads' HOzx.out).2.1)
 rintro e w20 ⟨rfl,hb⟩
 refine⟨_,rfl,?_⟩
 have n0_:=zM (below_step HB.out hb)
 have n1_:=zM (Nat.le_trans HT.out (Below.size hb))
 have n2_:=zM (blk_below BK2.out hb)
 have n3_:=zM (blk_below BK3.out hb)
 have n4_:=zM (blk_below BK6.out hb)
 have n5_:=zM (Kd.R_below HOw.out hb)
 have n6_:=zM (Kd.S_below HOx.out hb)
 have n7_:=zM (blk_below BK7.out hb)
 have n8_:=zM (Kd.R_below HOy.out hb)
 have n9_:=zM (blk_below BK8.out hb)
 have n10_:=zM (Kd.R_below HOg.out hb)
 have n11_:=zM (blk_below BK9.out hb)
 have n12_:=zM (Kd.S_below HOzx.out hb)
 clear HB HT BK2 BK3 BK6 HOw HOx BK7 HOy BK8 HOg BK9 HOzx
 have HB:=n0_
 have HT:=n1_
 have BK2:=n2_
 have BK3:=n3_
 have BK6:=n4_
 have HOw:=n5_
 have HOx:=n6_
 have BK7:=n7_
 have HOy:=n8_
 have BK8:=n9_
 have HOg:=n10_
 have BK9:=n11_
 have HOzx:=n12_
 clear n0_ n1_ n2_ n3_ n4_ n5_ n6_ n7_ n8_ n9_ n10_ n11_ n12_
 clear hb
 refine hK.out _ _ ⟨(blk_cell BK7.out 0).trans rfl,(blk_cell BK7.out 1).trans rfl,(blk_cell BK2.out 0).trans rfl,(blk_cell BK2.out 1).trans rfl⟩ (fun hHeld=>?_)
 clear hK K_
 refine norm_ (a':=?_) ?_ ?_
 rotate_left
 ·show Act.put _ (some 43) _=_
  simp only[Act.put,List.setIfInBounds_toArray,List.set_cons_zero,List.set_cons_succ,i64_w,i32_w]
  rfl
 refine pure_ (i:=4) (N:=some 44) (v:=?_) (a':=?_) #[true,true,true,true,true] rfl rfl (by kernel_rfl) (fun _ _ _ h=>h) (Or.inl ⟨zq125,?_⟩) ?_ ?_
 rotate_left
 ·intro w'
  go_simp
  with_reducible rfl
 rotate_left
 ·simp only[Act.put,List.setIfInBounds_toArray,List.set_cons_zero,List.set_cons_succ,i64_w,i32_w]
  rfl
 refine done_ (by kernel_rfl) ?_
 go_wp2_with fail
 have n0_:=zM (below_drew1 HB.out)
 have n1_:=zM (show hizx≤w20.drew.heap.size from HT.out)
 have n2_:=zM (blk_drew BK2.out)
 have n3_:=zM (blk_drew BK3.out)
 have n4_:=zM (blk_drew BK6.out)
 have n5_:=zM (Kd.R_drew HOw.out)
 have n6_:=zM (Kd.S_drew HOx.out)
 have n7_:=zM (blk_drew BK7.out)
 have n8_:=zM (Kd.R_drew HOy.out)
 have n9_:=zM (blk_drew BK8.out)
 have n10_:=zM (Kd.R_drew HOg.out)
 have n11_:=zM (blk_drew BK9.out)
 clear HB HT BK2 BK3 BK6 HOw HOx BK7 HOy BK8 HOg BK9
 have HB:=n0_
 have HT:=n1_
 have BK2:=n2_
 have BK3:=n3_
 have BK6:=n4_
 have HOw:=n5_
 have HOx:=n6_
 have BK7:=n7_
 have HOy:=n8_
 have BK8:=n9_
 have HOg:=n10_
 have BK9:=n11_
 clear n0_ n1_ n2_ n3_ n4_ n5_ n6_ n7_ n8_ n9_ n10_ n11_
 refine start_ (n:=5) (S:=fun w'=>w'.cell? ⟨g8,0,none⟩=some (.int .i64 a1_0)∧w'.cell? ⟨g8,1,none⟩=some (.int .i64 a1_1)∧w'.cell? ⟨g8,2,none⟩=some (.int .i64 a1_2)∧w'.cell? ⟨g8,3,none⟩=some ((.slice Ay b.length cy))∧w'.cell? ⟨g3,0,none⟩=some (.int .i64 a1_0)∧w'.cell? ⟨g3,1,none⟩=some (.int .i64 a1_1)∧w'.cell? ⟨g3,2,none⟩=some (.int .i64 a1_2)∧w'.cell? ⟨g3,3,none⟩=some (.slice A1_3 l1_3.length c1_3)) (ds:=[]) #[false,false,false,false,false] (by kernel_rfl) rfl rfl ⟨(blk_cell BK8.out 0).trans rfl,(blk_cell BK8.out 1).trans rfl,(blk_cell BK8.out 2).trans rfl,(blk_cell BK8.out 3).trans rfl,(blk_cell BK3.out 0).trans rfl,(blk_cell BK3.out 1).trans rfl,(blk_cell BK3.out 2).trans rfl,(blk_cell BK3.out 3).trans rfl⟩ (fun hHeld=>?_)
 generalize w20.drew=w21 at HB HT BK2 BK3 BK6 HOw HOx BK7 HOy BK8 HOg BK9 hHeld ⊢
 refine take_ (i:=0) (N:=some 45) (v:=?_) (a':=?_) #[true,false,false,false,false] rfl rfl (by kernel_rfl) (fun _ _ _ h=>h) (Or.inl ⟨zq125,?_⟩) hHeld ?_ ?_
 rotate_left
 ·rintro w' ⟨s0,s1,s2,s3,s4,s5,s6,s7⟩
  go_simp
  with_reducible rfl
 rotate_left
 ·simp only[Act.put,List.setIfInBounds_toArray,List.set_cons_zero,List.set_cons_succ,i64_w,i32_w]
  rfl
 refine take_ (i:=1) (N:=some 46) (v:=?_) (a':=?_) #[true,true,false,false,false] rfl rfl (by kernel_rfl) (fun _ _ _ h=>h) (Or.inl ⟨zq125,?_⟩) hHeld ?_ ?_
 rotate_left
 ·rintro w' ⟨s0,s1,s2,s3,s4,s5,s6,s7⟩
  go_simp
  with_reducible rfl
 rotate_left
 ·simp only[Act.put,List.setIfInBounds_toArray,List.set_cons_zero,List.set_cons_succ,i64_w,i32_w]
  rfl
 refine one_ (i:=2) (N:=some 47) #[true,true,true,false,false] rfl rfl (by kernel_rfl) zq36 (fun K_ hK=>?_)
 refine goes_ Try.func8 (by kernel_rfl) rfl #[.agg #[.int .i64 a1_0,.int .i64 a1_1,.int .i64 a1_2,.slice A1_3 l1_3.length c1_3]] zq125 rfl rfl zq13 ?_
 with_reducible refine(laws_toLetter.calls K a1_0 a1_1 a1_2 A1_3 c1_3 l1_3 a1_0 a1_1 a1_2 b _ (Kd.C_below HRK.out HB.out) HCK.out HTK.out).mono ?_
 rintro e w22 ⟨v_,rfl,ho,hb⟩
 refine⟨_,rfl,?_⟩
 obtain⟨lozy,hizy,hch_,hhi_,hz_⟩:=SealLetter_zR ho (below_size HB.out) HT.out hb.size
 clear ho
 have n0_:=zM (below_step HB.out hb)
 have n1_:=zM (blk_below BK2.out hb)
 have n2_:=zM (blk_below BK3.out hb)
 have n3_:=zM (blk_below BK6.out hb)
 have n4_:=zM (Kd.R_below HOw.out hb)
 have n5_:=zM (Kd.S_below HOx.out hb)
 have n6_:=zM (blk_below BK7.out hb)
 have n7_:=zM (Kd.R_below HOy.out hb)
 have n8_:=zM (blk_below BK8.out hb)
 have n9_:=zM (Kd.R_below HOg.out hb)
 have n10_:=zM (blk_below BK9.out hb)
 have n11_:=zM hz_
 have n12_:=zM hch_
 have n13_:=zM hhi_
 clear HB BK2 BK3 BK6 HOw HOx BK7 HOy BK8 HOg BK9 HT
 have HB:=n0_
 have BK2:=n1_
 have BK3:=n2_
 have BK6:=n3_
 have HOw:=n4_
 have HOx:=n5_
 have BK7:=n6_
 have HOy:=n7_
 have BK8:=n8_
 have HOg:=n9_
 have BK9:=n10_
 have HOzy:=n11_
 have CHzy:=n12_
 have HT:=n13_
 clear n0_ n1_ n2_ n3_ n4_ n5_ n6_ n7_ n8_ n9_ n10_ n11_ n12_ n13_
 clear hb hch_ hhi_ hz_
 obtain⟨Azy,czy,ev_⟩:=Kd.R_slice HOzy.out
 subst ev_
 refine hK.out _ _ ⟨(blk_cell BK8.out 0).trans rfl,(blk_cell BK8.out 1).trans rfl,(blk_cell BK8.out 2).trans rfl,(blk_cell BK8.out 3).trans rfl,(blk_cell BK3.out 0).trans rfl,(blk_cell BK3.out 1).trans rfl,(blk_cell BK3.out 2).trans rfl,(blk_cell BK3.out 3).trans rfl⟩ (fun hHeld=>?_)
 clear hK K_
 refine norm_ (a':=?_) ?_ ?_
 rotate_left
 ·show Act.put _ (some 47) _=_
  simp only[Act.put,List.setIfInBounds_toArray,List.set_cons_zero,List.set_cons_succ,i64_w,i32_w]
  rfl
 refine one_ (i:=3) (N:=some 48) #[true,true,true,true,false] rfl rfl (by kernel_rfl) zq36 (fun K_ hK=>?_)
 refine goes_ Try.func12 (by kernel_rfl) rfl #[.agg #[.int .i64 a1_0,.int .i64 a1_1,.int .i64 a1_2,(.slice Ay b.length cy)],.agg #[.int .i64 a1_0,.int .i64 a1_1,.int .i64 a1_2,(.slice Azy b.length czy)]] zq125 rfl rfl zq13 ?_
 with_reducible refine(laws_eqLetter.calls K a1_0 a1_1 a1_2 _ _ b a1_0 a1_1 a1_2 _ _ b true _ ?ka ?kb ?kc ?kd HEK.out).mono ?_
 (case ka=>exact(Kd.R_reads' HOy.out).2.2)
 (case kb=>exact(Kd.R_reads' HOy.out).2.1)
 (case kc=>exact(Kd.R_reads' HOzy.out).2.2)
 (case kd=>exact(Kd.R_reads' HOzy.out).2.1)
 rintro e w23 ⟨rfl,hb⟩
 refine⟨_,rfl,?_⟩
 have n0_:=zM (below_step HB.out hb)
 have n1_:=zM (Nat.le_trans HT.out (Below.size hb))
 have n2_:=zM (blk_below BK2.out hb)
 have n3_:=zM (blk_below BK3.out hb)
 have n4_:=zM (blk_below BK6.out hb)
 have n5_:=zM (Kd.R_below HOw.out hb)
 have n6_:=zM (Kd.S_below HOx.out hb)
 have n7_:=zM (blk_below BK7.out hb)
 have n8_:=zM (Kd.R_below HOy.out hb)
 have n9_:=zM (blk_below BK8.out hb)
 have n10_:=zM (Kd.R_below HOg.out hb)
 have n11_:=zM (blk_below BK9.out hb)
 have n12_:=zM (Kd.R_below HOzy.out hb)
 clear HB HT BK2 BK3 BK6 HOw HOx BK7 HOy BK8 HOg BK9 HOzy
 have HB:=n0_
 have HT:=n1_
 have BK2:=n2_
 have BK3:=n3_
 have BK6:=n4_
 have HOw:=n5_
 have HOx:=n6_
 have BK7:=n7_
 have HOy:=n8_
 have BK8:=n9_
 have HOg:=n10_
 have BK9:=n11_
 have HOzy:=n12_
 clear n0_ n1_ n2_ n3_ n4_ n5_ n6_ n7_ n8_ n9_ n10_ n11_ n12_
 clear hb
 refine hK.out _ _ ⟨(blk_cell BK8.out 0).trans rfl,(blk_cell BK8.out 1).trans rfl,(blk_cell BK8.out 2).trans rfl,(blk_cell BK8.out 3).trans rfl,(blk_cell BK3.out 0).trans rfl,(blk_cell BK3.out 1).trans rfl,(blk_cell BK3.out 2).trans rfl,(blk_cell BK3.out 3).trans rfl⟩ (fun hHeld=>?_)
 clear hK K_
 refine norm_ (a':=?_) ?_ ?_
 rotate_left
 ·show Act.put _ (some 48) _=_
  simp only[Act.put,List.setIfInBounds_toArray,List.set_cons_zero,List.set_cons_succ,i64_w,i32_w]
  rfl
 refine pure_ (i:=4) (N:=some 49) (v:=?_) (a':=?_) #[true,true,true,true,true] rfl rfl (by kernel_rfl) (fun _ _ _ h=>h) (Or.inl ⟨zq125,?_⟩) ?_ ?_
 rotate_left
 ·intro w'
  go_simp
  with_reducible rfl
 rotate_left
 ·simp only[Act.put,List.setIfInBounds_toArray,List.set_cons_zero,List.set_cons_succ,i64_w,i32_w]
  rfl
 refine done_ (by kernel_rfl) ?_
 have hc7_0:w23.cell? ⟨g7,0,none⟩=some (.int .i64 a0_0):=(blk_cell BK7.out 0).trans rfl
 have hc7_1:w23.cell? ⟨g7,1,none⟩=some ((.slice Ax m.length cx)):=(blk_cell BK7.out 1).trans rfl
 go_wp2_with (first
   | ((with_reducible refine gate_callee (f:=13) rfl ?_);refine goesL_ (some 52) rfl rfl Try.func13 (by kernel_rfl) rfl #[.agg #[.int .i64 a0_0,(.slice Ax m.length cx)],.int .i64 1] rfl zq13 ?_;(with_reducible refine(laws_markRing.calls K (fun j_=>lox≤j_∧j_ < hix) a0_0 _ _ m 1 k1 m1 w w23 HB.out HML.out HOx.out HMK.out).mono ?_);rintro e w24 ⟨rfl,ho,hb,hk⟩;refine⟨_,rfl,?_⟩;have n0_:=zM hb;have n1_:=zM (Nat.le_trans HT.out hk.1);have n2_:=zM (blk_kept (g:=g2) (o:=.cells #[.int .i64 a0_0,.slice A0_1 l0_1.length c0_1] 24 (0,0)) BK2.out hk (fun h_=>by have:=CH2.out;have:=CH3.out;have:=CH6.out;have:=CHw.out;have:=CHx.out;omega));have n3_:=zM (blk_kept (g:=g3) (o:=.cells #[.int .i64 a1_0,.int .i64 a1_1,.int .i64 a1_2,.slice A1_3 l1_3.length c1_3] 27 (0,0)) BK3.out hk (fun h_=>by have:=CH3.out;have:=CH6.out;have:=CHw.out;have:=CHx.out;omega));have n4_:=zM (blk_kept (g:=g6) (o:=.cells #[.int .i64 r1,(.slice Aw r3.length cw)] 31 (0,0)) BK6.out hk (fun h_=>by have:=CH6.out;have:=CHw.out;have:=CHx.out;omega));have n5_:=zM (Kd.R_kept HOw.out hk (fun q_ hq_ hz_=>by have:=CHw.out;have:=CHx.out;omega));have n6_:=zM (blk_kept (g:=g7) (o:=.cells #[.int .i64 a0_0,(.slice Ax m.length cx)] 35 (0,0)) BK7.out hk (fun h_=>by have:=CHx.out;have:=CH7.out;omega));have n7_:=zM (Kd.R_kept HOy.out hk (fun q_ hq_ hz_=>by have:=CHx.out;have:=CH7.out;have:=CHy.out;omega));have n8_:=zM (blk_kept (g:=g8) (o:=.cells #[.int .i64 a1_0,.int .i64 a1_1,.int .i64 a1_2,(.slice Ay b.length cy)] 37 (0,0)) BK8.out hk (fun h_=>by have:=CHx.out;have:=CH7.out;have:=CHy.out;have:=CH8.out;omega));have n9_:=zM (Kd.R_kept HOg.out hk (fun q_ hq_ hz_=>by have:=CHx.out;have:=CH7.out;have:=CHy.out;have:=CH8.out;have:=CHg.out;omega));have n10_:=zM (blk_kept (g:=g9) (o:=.cells #[.int .i64 r1,(.slice Ag r3.length cg)] 31 (0,0)) BK9.out hk (fun h_=>by have:=CHx.out;have:=CH7.out;have:=CHy.out;have:=CH8.out;have:=CHg.out;have:=CH9.out;omega));have n11_:=zM ho;clear HB HT BK2 BK3 BK6 HOw BK7 HOy BK8 HOg BK9 HOx;have HB:=n0_;have HT:=n1_;have BK2:=n2_;have BK3:=n3_;have BK6:=n4_;have HOw:=n5_;have BK7:=n6_;have HOy:=n7_;have BK8:=n8_;have HOg:=n9_;have BK9:=n10_;have HOx:=n11_;clear n0_ n1_ n2_ n3_ n4_ n5_ n6_ n7_ n8_ n9_ n10_ n11_;clear ho hb hk;clear hc7_0 hc7_1;have hc8_0:w24.cell? ⟨g8,0,none⟩=some (.int .i64 a1_0):=(blk_cell BK8.out 0).trans rfl;have hc8_1:w24.cell? ⟨g8,1,none⟩=some (.int .i64 a1_1):=(blk_cell BK8.out 1).trans rfl;have hc8_2:w24.cell? ⟨g8,2,none⟩=some (.int .i64 a1_2):=(blk_cell BK8.out 2).trans rfl;have hc8_3:w24.cell? ⟨g8,3,none⟩=some ((.slice Ay b.length cy)):=(blk_cell BK8.out 3).trans rfl)
   | ((with_reducible refine gate_callee (f:=14) rfl ?_);refine goesL_ (some 55) rfl rfl Try.func14 (by kernel_rfl) rfl #[.agg #[.int .i64 a1_0,.int .i64 a1_1,.int .i64 a1_2,(.slice Ay b.length cy)],.int .i64 k1] rfl zq13 ?_;(with_reducible refine(laws_markLetter.calls K a1_0 a1_1 a1_2 (fun j_=>loy≤j_∧j_ < hiy) (.slice Ay b.length cy) b k1 k2 b1 w w24 HB.out HOy.out HMB.out).mono ?_);rintro e w25 ⟨rfl,ho,hb,hk⟩;refine⟨_,rfl,?_⟩;have n0_:=zM hb;have n1_:=zM (Nat.le_trans HT.out hk.1);have n2_:=zM (blk_kept (g:=g2) (o:=.cells #[.int .i64 a0_0,.slice A0_1 l0_1.length c0_1] 24 (0,0)) BK2.out hk (fun h_=>by have:=CH2.out;have:=CH3.out;have:=CH6.out;have:=CHw.out;have:=CHx.out;have:=CH7.out;have:=CHy.out;omega));have n3_:=zM (blk_kept (g:=g3) (o:=.cells #[.int .i64 a1_0,.int .i64 a1_1,.int .i64 a1_2,.slice A1_3 l1_3.length c1_3] 27 (0,0)) BK3.out hk (fun h_=>by have:=CH3.out;have:=CH6.out;have:=CHw.out;have:=CHx.out;have:=CH7.out;have:=CHy.out;omega));have n4_:=zM (blk_kept (g:=g6) (o:=.cells #[.int .i64 r1,(.slice Aw r3.length cw)] 31 (0,0)) BK6.out hk (fun h_=>by have:=CH6.out;have:=CHw.out;have:=CHx.out;have:=CH7.out;have:=CHy.out;omega));have n5_:=zM (Kd.R_kept HOw.out hk (fun q_ hq_ hz_=>by have:=CHw.out;have:=CHx.out;have:=CH7.out;have:=CHy.out;omega));have n6_:=zM (Kd.S_kept HOx.out hk (fun q_ hq_ hz_=>by have:=CHx.out;have:=CH7.out;have:=CHy.out;omega));have n7_:=zM (blk_kept (g:=g7) (o:=.cells #[.int .i64 a0_0,(.slice Ax m.length cx)] 35 (0,0)) BK7.out hk (fun h_=>by have:=CH7.out;have:=CHy.out;omega));have n8_:=zM (blk_kept (g:=g8) (o:=.cells #[.int .i64 a1_0,.int .i64 a1_1,.int .i64 a1_2,(.slice Ay b.length cy)] 37 (0,0)) BK8.out hk (fun h_=>by have:=CHy.out;have:=CH8.out;omega));have n9_:=zM (Kd.R_kept HOg.out hk (fun q_ hq_ hz_=>by have:=CHy.out;have:=CH8.out;have:=CHg.out;omega));have n10_:=zM (blk_kept (g:=g9) (o:=.cells #[.int .i64 r1,(.slice Ag r3.length cg)] 31 (0,0)) BK9.out hk (fun h_=>by have:=CHy.out;have:=CH8.out;have:=CHg.out;have:=CH9.out;omega));have n11_:=zM (Kd.R_mono (Kd.R_tight rfl ho) (fun k_ hk_=>HOy.out.1 k_ hk_.symm));clear HB HT BK2 BK3 BK6 HOw HOx BK7 BK8 HOg BK9 HOy;have HB:=n0_;have HT:=n1_;have BK2:=n2_;have BK3:=n3_;have BK6:=n4_;have HOw:=n5_;have HOx:=n6_;have BK7:=n7_;have BK8:=n8_;have HOg:=n9_;have BK9:=n10_;have HOy:=n11_;clear n0_ n1_ n2_ n3_ n4_ n5_ n6_ n7_ n8_ n9_ n10_ n11_;clear ho hb hk;clear hc8_0 hc8_1 hc8_2 hc8_3;have hc6_0:w25.cell? ⟨g6,0,none⟩=some (.int .i64 r1):=(blk_cell BK6.out 0).trans rfl;have hc6_1:w25.cell? ⟨g6,1,none⟩=some ((.slice Aw r3.length cw)):=(blk_cell BK6.out 1).trans rfl;have hc9_0:w25.cell? ⟨g9,0,none⟩=some (.int .i64 r1):=(blk_cell BK9.out 0).trans rfl;have hc9_1:w25.cell? ⟨g9,1,none⟩=some ((.slice Ag r3.length cg)):=(blk_cell BK9.out 1).trans rfl)
   | (go_at_call 10;(with_reducible refine(laws_eqBytesResult.calls K r1 _ _ r3 r1 _ _ r3 true _ ?ea61 ?eb61 ?ec61 ?ed61 HEQ.out).mono ?_);(case ea61=>exact(Kd.R_reads' HOg.out).2.2);(case eb61=>exact(Kd.R_reads' HOg.out).2.1);(case ec61=>exact(Kd.R_reads' HOw.out).2.2);(case ed61=>exact(Kd.R_reads' HOw.out).2.1);rintro e w26 ⟨rfl,hb⟩;have n0_:=zM (below_step HB.out hb);have n1_:=zM (Nat.le_trans HT.out (Below.size hb));have n2_:=zM (blk_below BK2.out hb);have n3_:=zM (blk_below BK3.out hb);have n4_:=zM (blk_below BK6.out hb);have n5_:=zM (Kd.R_below HOw.out hb);have n6_:=zM (Kd.S_below HOx.out hb);have n7_:=zM (blk_below BK7.out hb);have n8_:=zM (Kd.R_below HOy.out hb);have n9_:=zM (blk_below BK8.out hb);have n10_:=zM (Kd.R_below HOg.out hb);have n11_:=zM (blk_below BK9.out hb);clear HB HT BK2 BK3 BK6 HOw HOx BK7 HOy BK8 HOg BK9;have HB:=n0_;have HT:=n1_;have BK2:=n2_;have BK3:=n3_;have BK6:=n4_;have HOw:=n5_;have HOx:=n6_;have BK7:=n7_;have HOy:=n8_;have BK8:=n9_;have HOg:=n10_;have BK9:=n11_;clear n0_ n1_ n2_ n3_ n4_ n5_ n6_ n7_ n8_ n9_ n10_ n11_;clear hb;clear hc6_0 hc6_1 hc9_0 hc9_1;have hc9_0:w26.cell? ⟨g9,0,none⟩=some (.int .i64 r1):=(blk_cell BK9.out 0).trans rfl;have hc9_1:w26.cell? ⟨g9,1,none⟩=some ((.slice Ag r3.length cg)):=(blk_cell BK9.out 1).trans rfl)
   | ((with_reducible refine gate_callee (f:=15) rfl ?_);refine goesL_ (some 66) rfl rfl Try.func15 (by kernel_rfl) rfl #[.agg #[.int .i64 r1,(.slice Ag r3.length cg)],.int .i64 1] rfl zq13 ?_;(with_reducible refine(laws_markBytesResult.calls (e_:=5) zq36 K r1 (fun j_=>log≤j_∧j_ < hig) (.slice Ag r3.length cg) r3 1 q1 q3 w w26 HB.out HOg.out HMR.out).mono ?_);rintro e w27 ⟨rfl,ho,hb,hk⟩;refine⟨_,rfl,?_⟩;have n0_:=zM hb;have n1_:=zM (Nat.le_trans HT.out hk.1);have n2_:=zM (blk_kept (g:=g2) (o:=.cells #[.int .i64 a0_0,.slice A0_1 l0_1.length c0_1] 24 (0,0)) BK2.out hk (fun h_=>by have:=CH2.out;have:=CH3.out;have:=CH6.out;have:=CHw.out;have:=CHx.out;have:=CH7.out;have:=CHy.out;have:=CH8.out;have:=CHg.out;omega));have n3_:=zM (blk_kept (g:=g3) (o:=.cells #[.int .i64 a1_0,.int .i64 a1_1,.int .i64 a1_2,.slice A1_3 l1_3.length c1_3] 27 (0,0)) BK3.out hk (fun h_=>by have:=CH3.out;have:=CH6.out;have:=CHw.out;have:=CHx.out;have:=CH7.out;have:=CHy.out;have:=CH8.out;have:=CHg.out;omega));have n4_:=zM (blk_kept (g:=g6) (o:=.cells #[.int .i64 r1,(.slice Aw r3.length cw)] 31 (0,0)) BK6.out hk (fun h_=>by have:=CH6.out;have:=CHw.out;have:=CHx.out;have:=CH7.out;have:=CHy.out;have:=CH8.out;have:=CHg.out;omega));have n5_:=zM (Kd.R_kept HOw.out hk (fun q_ hq_ hz_=>by have:=CHw.out;have:=CHx.out;have:=CH7.out;have:=CHy.out;have:=CH8.out;have:=CHg.out;omega));have n6_:=zM (Kd.S_kept HOx.out hk (fun q_ hq_ hz_=>by have:=CHx.out;have:=CH7.out;have:=CHy.out;have:=CH8.out;have:=CHg.out;omega));have n7_:=zM (blk_kept (g:=g7) (o:=.cells #[.int .i64 a0_0,(.slice Ax m.length cx)] 35 (0,0)) BK7.out hk (fun h_=>by have:=CH7.out;have:=CHy.out;have:=CH8.out;have:=CHg.out;omega));have n8_:=zM (Kd.R_kept HOy.out hk (fun q_ hq_ hz_=>by have:=CHy.out;have:=CH8.out;have:=CHg.out;omega));have n9_:=zM (blk_kept (g:=g8) (o:=.cells #[.int .i64 a1_0,.int .i64 a1_1,.int .i64 a1_2,(.slice Ay b.length cy)] 37 (0,0)) BK8.out hk (fun h_=>by have:=CH8.out;have:=CHg.out;omega));have n10_:=zM (blk_kept (g:=g9) (o:=.cells #[.int .i64 r1,(.slice Ag r3.length cg)] 31 (0,0)) BK9.out hk (fun h_=>by have:=CHg.out;have:=CH9.out;omega));have n11_:=zM (Kd.R_mono (Kd.R_tight rfl ho) (fun k_ hk_=>HOg.out.1 k_ hk_.symm));clear HB HT BK2 BK3 BK6 HOw HOx BK7 HOy BK8 BK9 HOg;have HB:=n0_;have HT:=n1_;have BK2:=n2_;have BK3:=n3_;have BK6:=n4_;have HOw:=n5_;have HOx:=n6_;have BK7:=n7_;have HOy:=n8_;have BK8:=n9_;have BK9:=n10_;have HOg:=n11_;clear n0_ n1_ n2_ n3_ n4_ n5_ n6_ n7_ n8_ n9_ n10_ n11_;clear ho hb hk;clear hc9_0 hc9_1;have hc9_0:w27.cell? ⟨g9,0,none⟩=some (.int .i64 r1):=(blk_cell BK9.out 0).trans rfl;have hc9_1:w27.cell? ⟨g9,1,none⟩=some ((.slice Ag r3.length cg)):=(blk_cell BK9.out 1).trans rfl)
   | ((with_reducible refine gate_callee (f:=16) rfl ?_);refine goesL_ (some 69) rfl rfl Try.func16 (by kernel_rfl) rfl #[.agg #[.int .i64 r1,(.slice Ag r3.length cg)],.int .i64 1] rfl zq13 ?_;(with_reducible refine(held_SealLetter K r1 _ _ r3.length q3 1 q1 _ HQ3.out ?ha69 ?hb69 HHL.out).mono ?_);(case ha69=>exact(Kd.R_reads' HOg.out).2.2);(case hb69=>exact(Kd.R_reads' HOg.out).2.1);rintro e w28 ⟨rfl,hb⟩;refine⟨_,rfl,?_⟩;have n0_:=zM (below_step HB.out hb);have n1_:=zM (Nat.le_trans HT.out (Below.size hb));have n2_:=zM (blk_below BK2.out hb);have n3_:=zM (blk_below BK3.out hb);have n4_:=zM (blk_below BK6.out hb);have n5_:=zM (Kd.R_below HOw.out hb);have n6_:=zM (blk_below BK7.out hb);have n7_:=zM (blk_below BK8.out hb);have n8_:=zM (Kd.R_below HOg.out hb);have n9_:=zM (blk_below BK9.out hb);clear HB HT BK2 BK3 BK6 HOw BK7 BK8 HOg BK9;have HB:=n0_;have HT:=n1_;have BK2:=n2_;have BK3:=n3_;have BK6:=n4_;have HOw:=n5_;have BK7:=n6_;have BK8:=n7_;have HOg:=n8_;have BK9:=n9_;clear n0_ n1_ n2_ n3_ n4_ n5_ n6_ n7_ n8_ n9_;clear hb;clear hc9_0 hc9_1))
 have n0_:=zM (below_drew1 HB.out)
 have n1_:=zM (show hizy≤w28.drew.heap.size from HT.out)
 have n2_:=zM (blk_drew BK2.out)
 have n3_:=zM (blk_drew BK3.out)
 have n4_:=zM (blk_drew BK6.out)
 have n5_:=zM (Kd.R_drew HOw.out)
 have n6_:=zM (Kd.R_drew HOg.out)
 have n7_:=zM (blk_drew BK9.out)
 clear HB HT BK2 BK3 BK6 HOw HOg BK9
 have HB:=n0_
 have HT:=n1_
 have BK2:=n2_
 have BK3:=n3_
 have BK6:=n4_
 have HOw:=n5_
 have HOg:=n6_
 have BK9:=n7_
 clear n0_ n1_ n2_ n3_ n4_ n5_ n6_ n7_
 refine start_ (n:=7) (S:=fun w'=>w'.cell? ⟨g2,0,none⟩=some (.int .i64 a0_0)∧w'.cell? ⟨g2,1,none⟩=some (.slice A0_1 l0_1.length c0_1)∧w'.cell? ⟨g3,0,none⟩=some (.int .i64 a1_0)∧w'.cell? ⟨g3,1,none⟩=some (.int .i64 a1_1)∧w'.cell? ⟨g3,2,none⟩=some (.int .i64 a1_2)∧w'.cell? ⟨g3,3,none⟩=some (.slice A1_3 l1_3.length c1_3)) (ds:=[6]) #[false,false,false,false,false,false,false] (by kernel_rfl) rfl rfl ⟨(blk_cell BK2.out 0).trans rfl,(blk_cell BK2.out 1).trans rfl,(blk_cell BK3.out 0).trans rfl,(blk_cell BK3.out 1).trans rfl,(blk_cell BK3.out 2).trans rfl,(blk_cell BK3.out 3).trans rfl⟩ (fun hHeld=>?_)
 generalize w28.drew=w29 at HB HT BK2 BK3 BK6 HOw HOg BK9 hHeld ⊢
 have HS:Aside0 (∀ w',Below w29.heap.size w29 w'→(w'.cell? ⟨g2,0,none⟩=some (.int .i64 a0_0)∧w'.cell? ⟨g2,1,none⟩=some (.slice A0_1 l0_1.length c0_1)∧w'.cell? ⟨g3,0,none⟩=some (.int .i64 a1_0)∧w'.cell? ⟨g3,1,none⟩=some (.int .i64 a1_1)∧w'.cell? ⟨g3,2,none⟩=some (.int .i64 a1_2)∧w'.cell? ⟨g3,3,none⟩=some (.slice A1_3 l1_3.length c1_3))):=⟨fun w' hb=>⟨(blk_cell (blk_below BK2.out hb) 0).trans rfl,(blk_cell (blk_below BK2.out hb) 1).trans rfl,(blk_cell (blk_below BK3.out hb) 0).trans rfl,(blk_cell (blk_below BK3.out hb) 1).trans rfl,(blk_cell (blk_below BK3.out hb) 2).trans rfl,(blk_cell (blk_below BK3.out hb) 3).trans rfl⟩⟩
 refine take_ (i:=0) (N:=some 75) (v:=?_) (a':=?_) #[true,false,false,false,false,false,false] rfl rfl (by kernel_rfl) (fun _ _ _ h=>h) (Or.inl ⟨zq125,?_⟩) hHeld ?_ ?_
 rotate_left
 ·rintro w' ⟨s0,s1,s2,s3,s4,s5⟩
  go_simp
  with_reducible rfl
 rotate_left
 ·simp only[Act.put,List.setIfInBounds_toArray,List.set_cons_zero,List.set_cons_succ,i64_w,i32_w]
  rfl
 refine take_ (i:=2) (N:=some 77) (v:=?_) (a':=?_) #[true,false,true,false,false,false,false] rfl rfl (by kernel_rfl) (fun _ _ _ h=>h) (Or.inl ⟨zq125,?_⟩) hHeld ?_ ?_
 rotate_left
 ·rintro w' ⟨s0,s1,s2,s3,s4,s5⟩
  go_simp
  with_reducible rfl
 rotate_left
 ·simp only[Act.put,List.setIfInBounds_toArray,List.set_cons_zero,List.set_cons_succ,i64_w,i32_w]
  rfl
 refine join_ (σ:=Value × Value × Nat × Option Addr × Nat) 1 #[true,true,true,true,true,true,false] (fun s_=>[(76,s_.1),(78,s_.2.1),(79,.agg #[.int .i64 r1,.slice s_.2.2.2.1 r3.length s_.2.2.2.2]),(13,.pointer (some ⟨s_.2.2.1,0,none⟩))]) (fun s_ w'=>Below w29.heap.size w29 w'∧w'.heap[s_.2.2.1]?=some (Obj.cells #[.int .i64 0,.slice none 0 0] 31 (0,0))∧w29.heap.size≤s_.2.2.1∧Kd.R (Kd.int .u8) 5 w' w.heap.size (fun j_=>w29.heap.size≤j_∧j_ < w'.heap.size∧j_≠s_.2.2.1) (.slice s_.2.2.2.1 r3.length s_.2.2.2.2) r3) ?_ ?_
 rotate_left
 ·intro hCont
  have hB:=zM (Below.refl w29.heap.size w29)
  have hC:=HB
  refine two_ (i:=1) (j:=5) (Ni:=some 76) (Nj:=some 13) #[true,true,true,false,false,false,false] #[true,false,true,false,false,true,false] rfl rfl rfl rfl (by kernel_rfl) zq36 zq36 (fun K_ hK=>?_) (fun K_ hK=>?_)
  ·skip
   refine goes_ Try.func7 (by kernel_rfl) rfl #[.agg #[.int .i64 a0_0,.slice A0_1 l0_1.length c0_1]] zq125 rfl rfl zq13 ?_
   with_reducible refine(laws_toRing.calls K a0_0 A0_1 c0_1 l0_1 a0_0 m _ ?caimpl1 HC.out HTO.out).mono ?_
   (case caimpl1=>exact Kd.C_below HR.out hC.out)
   rintro e w29c1 ⟨v_,rfl,ho,hb⟩
   refine⟨_,rfl,?_⟩
   have n0_:=zM (below_step hB.out hb)
   have n1_:=zM (below_step hC.out hb)
   have n2_:=zM (Kd.S_lower ho (below_size hC.out))
   clear hHeld hB hC
   have hB:=n0_
   have hC:=n1_
   have HOt_:=n2_
   clear n0_ n1_ n2_
   clear hb ho
   obtain⟨At_,ct_,ev_⟩:=Kd.S_slice HOt_.out
   subst ev_
   refine hK.out _ _ (HS.out _ hB.out) (fun hHeld=>?_)
   clear hK K_
   refine norm_ (a':=?_) ?_ ?_
   rotate_left
   ·show Act.put _ (some 76) _=_
    simp only[Act.put,List.setIfInBounds_toArray,List.set_cons_zero,List.set_cons_succ,i64_w,i32_w]
    rfl
   refine two_ (i:=3) (j:=5) (Ni:=some 78) (Nj:=some 13) #[true,true,true,true,false,false,false] #[true,true,true,false,false,true,false] rfl rfl rfl rfl (by kernel_rfl) zq36 zq36 (fun K_ hK=>?_) (fun K_ hK=>?_)
   ·skip
    refine goes_ Try.func8 (by kernel_rfl) rfl #[.agg #[.int .i64 a1_0,.int .i64 a1_1,.int .i64 a1_2,.slice A1_3 l1_3.length c1_3]] zq125 rfl rfl zq13 ?_
    with_reducible refine(laws_toLetter.calls K a1_0 a1_1 a1_2 A1_3 c1_3 l1_3 a1_0 a1_1 a1_2 b _ ?cbimpl2 HCK.out HTK.out).mono ?_
    (case cbimpl2=>exact Kd.C_below HRK.out hC.out)
    rintro e w29c2 ⟨v_,rfl,ho,hb⟩
    refine⟨_,rfl,?_⟩
    have n0_:=zM (below_step hB.out hb)
    have n1_:=zM (below_step hC.out hb)
    have n2_:=zM (Kd.S_below HOt_.out hb)
    have n3_:=zM (Kd.R_lower ho (below_size hC.out))
    clear hHeld hB hC HOt_
    have hB:=n0_
    have hC:=n1_
    have HOt_:=n2_
    have HOy_:=n3_
    clear n0_ n1_ n2_ n3_
    clear hb ho
    obtain⟨Ay_,cy_,ev_⟩:=Kd.R_slice HOy_.out
    subst ev_
    refine hK.out _ _ (HS.out _ hB.out) (fun hHeld=>?_)
    clear hK K_
    refine norm_ (a':=?_) ?_ ?_
    rotate_left
    ·show Act.put _ (some 78) _=_
     simp only[Act.put,List.setIfInBounds_toArray,List.set_cons_zero,List.set_cons_succ,i64_w,i32_w]
     rfl
    refine two_ (i:=4) (j:=5) (Ni:=some 79) (Nj:=some 13) #[true,true,true,true,true,false,false] #[true,true,true,true,false,true,false] rfl rfl rfl rfl (by kernel_rfl) zq36 zq36 (fun K_ hK=>?_) (fun K_ hK=>?_)
    ·skip
     refine goes_ Try.func9 (by kernel_rfl) rfl #[.agg #[.int .i64 a0_0,.slice At_ m.length ct_],.agg #[.int .i64 a1_0,.int .i64 a1_1,.int .i64 a1_2,.slice Ay_ b.length cy_]] zq125 rfl rfl zq13 ?_
     with_reducible refine(impl_SealLetter.calls K a0_0 _ _ m a1_0 a1_1 a1_2 _ _ b r1 r3 _ ?ccimpl3 ?cdimpl3 ?ceimpl3 ?cfimpl3 HIM.out).mono ?_
     (case ccimpl3=>exact(Kd.S_reads' HOt_.out).2.2)
     (case cdimpl3=>exact(Kd.S_reads' HOt_.out).2.1)
     (case ceimpl3=>exact(Kd.R_reads' HOy_.out).2.2)
     (case cfimpl3=>exact(Kd.R_reads' HOy_.out).2.1)
     rintro e w29c3 ⟨v_,rfl,ho,hb⟩
     refine⟨_,rfl,?_⟩
     have n0_:=zM (below_step hB.out hb)
     have n1_:=zM (below_step hC.out hb)
     have n2_:=zM (Kd.S_below HOt_.out hb)
     have n3_:=zM (Kd.R_below HOy_.out hb)
     have n4_:=zM (Kd.R_lower (Kd.R_mono (Kd.R_bound ho) (ok':=fun j_=>w29.heap.size≤j_∧j_ < w29c3.heap.size) (fun j_ hj_=>⟨Nat.le_trans hB.out.size hj_.2.1,hj_.2.2.1⟩)) (below_size hC.out))
     clear hHeld hB hC HOt_ HOy_
     have hB:=n0_
     have hC:=n1_
     have HOt_:=n2_
     have HOy_:=n3_
     have HOw_:=n4_
     clear n0_ n1_ n2_ n3_ n4_
     clear hb ho
     obtain⟨Aw_,cw_,ev_⟩:=Kd.R_slice HOw_.out
     subst ev_
     refine hK.out _ _ (HS.out _ hB.out) (fun hHeld=>?_)
     clear hK K_
     refine norm_ (a':=?_) ?_ ?_
     rotate_left
     ·show Act.put _ (some 79) _=_
      simp only[Act.put,List.setIfInBounds_toArray,List.set_cons_zero,List.set_cons_succ,i64_w,i32_w]
      rfl
     refine one_ (i:=5) (N:=some 13) #[true,true,true,true,true,true,false] rfl rfl (by kernel_rfl) zq36 (fun K_ hK=>?_)
     refine value_ (w1:=(w29c3.alloc (.cells #[.int .i64 0,.slice none 0 0] 31))) (v:=.pointer (some ⟨w29c3.heap.size,0,none⟩)) zq125 rfl ?_ ?_
     ·first
       | (go_simp;done)
       | (go_simp;rfl)
     have n0_:=zM (below_alloc hB.out (.cells #[.int .i64 0,.slice none 0 0] 31))
     have n1_:=zM (below_alloc hC.out (.cells #[.int .i64 0,.slice none 0 0] 31))
     have n2_:=zM (Kd.S_alloc HOt_.out (.cells #[.int .i64 0,.slice none 0 0] 31))
     have n3_:=zM (Kd.R_alloc HOy_.out (.cells #[.int .i64 0,.slice none 0 0] 31))
     have nz_:Aside0 ((w29c3.alloc (.cells #[.int .i64 0,.slice none 0 0] 31)).heap[w29c3.heap.size]?=some (Obj.cells #[.int .i64 0,.slice none 0 0] 31 (0,0))):=⟨heap_alloc_new w29c3 (.cells #[.int .i64 0,.slice none 0 0] 31)⟩
     have ng_:Aside0 (w29.heap.size≤w29c3.heap.size):=⟨hB.out.size⟩
     have nw_:Aside0 (Kd.R (Kd.int .u8) 5 (w29c3.alloc (.cells #[.int .i64 0,.slice none 0 0] 31)) w.heap.size (fun j_=>w29.heap.size≤j_∧j_ < (w29c3.alloc (.cells #[.int .i64 0,.slice none 0 0] 31)).heap.size∧j_≠w29c3.heap.size) (.slice Aw_ r3.length cw_) r3):=⟨Kd.R_mono (Kd.R_alloc HOw_.out (.cells #[.int .i64 0,.slice none 0 0] 31)) (fun j_ hj_=>⟨hj_.1,by rw[show (w29c3.alloc (.cells #[.int .i64 0,.slice none 0 0] 31)).heap.size=w29c3.heap.size+1 from Array.size_push _];have:=hj_.2;omega,Nat.ne_of_lt hj_.2⟩)⟩
     clear hHeld hB hC HOt_ HOy_ HOw_
     generalize w29c3.heap.size=gq_ at nz_ ng_ nw_ ⊢
     generalize (w29c3.alloc (.cells #[.int .i64 0,.slice none 0 0] 31))=w29c4 at n0_ n1_ n2_ n3_ nz_ nw_ ⊢
     have hB:=n0_
     have hC:=n1_
     have HOt_:=n2_
     have HOy_:=n3_
     have HZ:=nz_
     have HG:=ng_
     have HOw_:=nw_
     clear nz_ ng_ nw_ n0_ n1_ n2_ n3_
     refine hK.out _ _ (HS.out _ hB.out) (fun hHeld=>?_)
     clear hK K_
     refine norm_ (a':=?_) ?_ ?_
     rotate_left
     ·show Act.put _ (some 13) _=_
      simp only[Act.put,List.setIfInBounds_toArray,List.set_cons_zero,List.set_cons_succ,i64_w,i32_w]
      rfl
     exact norm_ zq44 (hCont (.agg #[.int .i64 a0_0,.slice At_ m.length ct_],.agg #[.int .i64 a1_0,.int .i64 a1_1,.int .i64 a1_2,.slice Ay_ b.length cy_],gq_,Aw_,cw_) _ ⟨hB.out,HZ.out,HG.out,HOw_.out⟩)
    ·skip
     refine value_ (w1:=(w29c2.alloc (.cells #[.int .i64 0,.slice none 0 0] 31))) (v:=.pointer (some ⟨w29c2.heap.size,0,none⟩)) zq125 rfl ?_ ?_
     ·first
       | (go_simp;done)
       | (go_simp;rfl)
     have n0_:=zM (below_alloc hB.out (.cells #[.int .i64 0,.slice none 0 0] 31))
     have n1_:=zM (below_alloc hC.out (.cells #[.int .i64 0,.slice none 0 0] 31))
     have n2_:=zM (Kd.S_alloc HOt_.out (.cells #[.int .i64 0,.slice none 0 0] 31))
     have n3_:=zM (Kd.R_alloc HOy_.out (.cells #[.int .i64 0,.slice none 0 0] 31))
     have nz_:Aside0 ((w29c2.alloc (.cells #[.int .i64 0,.slice none 0 0] 31)).heap[w29c2.heap.size]?=some (Obj.cells #[.int .i64 0,.slice none 0 0] 31 (0,0))):=⟨heap_alloc_new w29c2 (.cells #[.int .i64 0,.slice none 0 0] 31)⟩
     have ng_:Aside0 (w29.heap.size≤w29c2.heap.size):=⟨hB.out.size⟩
     clear hHeld hB hC HOt_ HOy_
     generalize w29c2.heap.size=gq_ at nz_ ng_ ⊢
     generalize (w29c2.alloc (.cells #[.int .i64 0,.slice none 0 0] 31))=w29c5 at n0_ n1_ n2_ n3_ nz_ ⊢
     have hB:=n0_
     have hC:=n1_
     have HOt_:=n2_
     have HOy_:=n3_
     have HZ:=nz_
     have HG:=ng_
     clear nz_ ng_ n0_ n1_ n2_ n3_
     refine hK.out _ _ (HS.out _ hB.out) (fun hHeld=>?_)
     clear hK K_
     refine norm_ (a':=?_) ?_ ?_
     rotate_left
     ·show Act.put _ (some 13) _=_
      simp only[Act.put,List.setIfInBounds_toArray,List.set_cons_zero,List.set_cons_succ,i64_w,i32_w]
      rfl
     refine one_ (i:=4) (N:=some 79) #[true,true,true,true,true,true,false] rfl rfl (by kernel_rfl) zq36 (fun K_ hK=>?_)
     refine goes_ Try.func9 (by kernel_rfl) rfl #[.agg #[.int .i64 a0_0,.slice At_ m.length ct_],.agg #[.int .i64 a1_0,.int .i64 a1_1,.int .i64 a1_2,.slice Ay_ b.length cy_]] zq125 rfl rfl zq13 ?_
     with_reducible refine(impl_SealLetter.calls K a0_0 _ _ m a1_0 a1_1 a1_2 _ _ b r1 r3 _ ?ccimpl6 ?cdimpl6 ?ceimpl6 ?cfimpl6 HIM.out).mono ?_
     (case ccimpl6=>exact(Kd.S_reads' HOt_.out).2.2)
     (case cdimpl6=>exact(Kd.S_reads' HOt_.out).2.1)
     (case ceimpl6=>exact(Kd.R_reads' HOy_.out).2.2)
     (case cfimpl6=>exact(Kd.R_reads' HOy_.out).2.1)
     rintro e w29c6 ⟨v_,rfl,ho,hb⟩
     refine⟨_,rfl,?_⟩
     have n0_:=zM (below_step hB.out hb)
     have n1_:=zM (below_step hC.out hb)
     have n2_:=zM (blk_below HZ.out hb)
     have n3_:=zM (Kd.S_below HOt_.out hb)
     have n4_:=zM (Kd.R_below HOy_.out hb)
     have n5_:=zM (Kd.R_lower (Kd.R_mono (Kd.R_bound ho) (ok':=fun j_=>w29.heap.size≤j_∧j_ < w29c6.heap.size∧j_≠gq_) (fun j_ hj_=>⟨Nat.le_trans hB.out.size hj_.2.1,hj_.2.2.1,fun e_=>by subst e_;have h9:=blk_lt HZ.out;have h8:=hj_.2.1;omega⟩)) (below_size hC.out))
     clear hHeld hB hC HZ HOt_ HOy_
     have hB:=n0_
     have hC:=n1_
     have HZ:=n2_
     have HOt_:=n3_
     have HOy_:=n4_
     have HOw_:=n5_
     clear n0_ n1_ n2_ n3_ n4_ n5_
     clear hb ho
     obtain⟨Aw_,cw_,ev_⟩:=Kd.R_slice HOw_.out
     subst ev_
     refine hK.out _ _ (HS.out _ hB.out) (fun hHeld=>?_)
     clear hK K_
     refine norm_ (a':=?_) ?_ ?_
     rotate_left
     ·show Act.put _ (some 79) _=_
      simp only[Act.put,List.setIfInBounds_toArray,List.set_cons_zero,List.set_cons_succ,i64_w,i32_w]
      rfl
     exact norm_ zq44 (hCont (.agg #[.int .i64 a0_0,.slice At_ m.length ct_],.agg #[.int .i64 a1_0,.int .i64 a1_1,.int .i64 a1_2,.slice Ay_ b.length cy_],gq_,Aw_,cw_) _ ⟨hB.out,HZ.out,HG.out,HOw_.out⟩)
   ·skip
    refine value_ (w1:=(w29c1.alloc (.cells #[.int .i64 0,.slice none 0 0] 31))) (v:=.pointer (some ⟨w29c1.heap.size,0,none⟩)) zq125 rfl ?_ ?_
    ·first
      | (go_simp;done)
      | (go_simp;rfl)
    have n0_:=zM (below_alloc hB.out (.cells #[.int .i64 0,.slice none 0 0] 31))
    have n1_:=zM (below_alloc hC.out (.cells #[.int .i64 0,.slice none 0 0] 31))
    have n2_:=zM (Kd.S_alloc HOt_.out (.cells #[.int .i64 0,.slice none 0 0] 31))
    have nz_:Aside0 ((w29c1.alloc (.cells #[.int .i64 0,.slice none 0 0] 31)).heap[w29c1.heap.size]?=some (Obj.cells #[.int .i64 0,.slice none 0 0] 31 (0,0))):=⟨heap_alloc_new w29c1 (.cells #[.int .i64 0,.slice none 0 0] 31)⟩
    have ng_:Aside0 (w29.heap.size≤w29c1.heap.size):=⟨hB.out.size⟩
    clear hHeld hB hC HOt_
    generalize w29c1.heap.size=gq_ at nz_ ng_ ⊢
    generalize (w29c1.alloc (.cells #[.int .i64 0,.slice none 0 0] 31))=w29c7 at n0_ n1_ n2_ nz_ ⊢
    have hB:=n0_
    have hC:=n1_
    have HOt_:=n2_
    have HZ:=nz_
    have HG:=ng_
    clear nz_ ng_ n0_ n1_ n2_
    refine hK.out _ _ (HS.out _ hB.out) (fun hHeld=>?_)
    clear hK K_
    refine norm_ (a':=?_) ?_ ?_
    rotate_left
    ·show Act.put _ (some 13) _=_
     simp only[Act.put,List.setIfInBounds_toArray,List.set_cons_zero,List.set_cons_succ,i64_w,i32_w]
     rfl
    refine one_ (i:=3) (N:=some 78) #[true,true,true,true,false,true,false] rfl rfl (by kernel_rfl) zq36 (fun K_ hK=>?_)
    refine goes_ Try.func8 (by kernel_rfl) rfl #[.agg #[.int .i64 a1_0,.int .i64 a1_1,.int .i64 a1_2,.slice A1_3 l1_3.length c1_3]] zq125 rfl rfl zq13 ?_
    with_reducible refine(laws_toLetter.calls K a1_0 a1_1 a1_2 A1_3 c1_3 l1_3 a1_0 a1_1 a1_2 b _ ?cbimpl8 HCK.out HTK.out).mono ?_
    (case cbimpl8=>exact Kd.C_below HRK.out hC.out)
    rintro e w29c8 ⟨v_,rfl,ho,hb⟩
    refine⟨_,rfl,?_⟩
    have n0_:=zM (below_step hB.out hb)
    have n1_:=zM (below_step hC.out hb)
    have n2_:=zM (blk_below HZ.out hb)
    have n3_:=zM (Kd.S_below HOt_.out hb)
    have n4_:=zM (Kd.R_lower ho (below_size hC.out))
    clear hHeld hB hC HZ HOt_
    have hB:=n0_
    have hC:=n1_
    have HZ:=n2_
    have HOt_:=n3_
    have HOy_:=n4_
    clear n0_ n1_ n2_ n3_ n4_
    clear hb ho
    obtain⟨Ay_,cy_,ev_⟩:=Kd.R_slice HOy_.out
    subst ev_
    refine hK.out _ _ (HS.out _ hB.out) (fun hHeld=>?_)
    clear hK K_
    refine norm_ (a':=?_) ?_ ?_
    rotate_left
    ·show Act.put _ (some 78) _=_
     simp only[Act.put,List.setIfInBounds_toArray,List.set_cons_zero,List.set_cons_succ,i64_w,i32_w]
     rfl
    refine one_ (i:=4) (N:=some 79) #[true,true,true,true,true,true,false] rfl rfl (by kernel_rfl) zq36 (fun K_ hK=>?_)
    refine goes_ Try.func9 (by kernel_rfl) rfl #[.agg #[.int .i64 a0_0,.slice At_ m.length ct_],.agg #[.int .i64 a1_0,.int .i64 a1_1,.int .i64 a1_2,.slice Ay_ b.length cy_]] zq125 rfl rfl zq13 ?_
    with_reducible refine(impl_SealLetter.calls K a0_0 _ _ m a1_0 a1_1 a1_2 _ _ b r1 r3 _ ?ccimpl9 ?cdimpl9 ?ceimpl9 ?cfimpl9 HIM.out).mono ?_
    (case ccimpl9=>exact(Kd.S_reads' HOt_.out).2.2)
    (case cdimpl9=>exact(Kd.S_reads' HOt_.out).2.1)
    (case ceimpl9=>exact(Kd.R_reads' HOy_.out).2.2)
    (case cfimpl9=>exact(Kd.R_reads' HOy_.out).2.1)
    rintro e w29c9 ⟨v_,rfl,ho,hb⟩
    refine⟨_,rfl,?_⟩
    have n0_:=zM (below_step hB.out hb)
    have n1_:=zM (below_step hC.out hb)
    have n2_:=zM (blk_below HZ.out hb)
    have n3_:=zM (Kd.S_below HOt_.out hb)
    have n4_:=zM (Kd.R_below HOy_.out hb)
    have n5_:=zM (Kd.R_lower (Kd.R_mono (Kd.R_bound ho) (ok':=fun j_=>w29.heap.size≤j_∧j_ < w29c9.heap.size∧j_≠gq_) (fun j_ hj_=>⟨Nat.le_trans hB.out.size hj_.2.1,hj_.2.2.1,fun e_=>by subst e_;have h9:=blk_lt HZ.out;have h8:=hj_.2.1;omega⟩)) (below_size hC.out))
    clear hHeld hB hC HZ HOt_ HOy_
    have hB:=n0_
    have hC:=n1_
    have HZ:=n2_
    have HOt_:=n3_
    have HOy_:=n4_
    have HOw_:=n5_
    clear n0_ n1_ n2_ n3_ n4_ n5_
    clear hb ho
    obtain⟨Aw_,cw_,ev_⟩:=Kd.R_slice HOw_.out
    subst ev_
    refine hK.out _ _ (HS.out _ hB.out) (fun hHeld=>?_)
    clear hK K_
    refine norm_ (a':=?_) ?_ ?_
    rotate_left
    ·show Act.put _ (some 79) _=_
     simp only[Act.put,List.setIfInBounds_toArray,List.set_cons_zero,List.set_cons_succ,i64_w,i32_w]
     rfl
    exact norm_ zq44 (hCont (.agg #[.int .i64 a0_0,.slice At_ m.length ct_],.agg #[.int .i64 a1_0,.int .i64 a1_1,.int .i64 a1_2,.slice Ay_ b.length cy_],gq_,Aw_,cw_) _ ⟨hB.out,HZ.out,HG.out,HOw_.out⟩)
  ·skip
   refine value_ (w1:=(w29.alloc (.cells #[.int .i64 0,.slice none 0 0] 31))) (v:=.pointer (some ⟨w29.heap.size,0,none⟩)) zq125 rfl ?_ ?_
   ·first
     | (go_simp;done)
     | (go_simp;rfl)
   have n0_:=zM (below_alloc hB.out (.cells #[.int .i64 0,.slice none 0 0] 31))
   have n1_:=zM (below_alloc hC.out (.cells #[.int .i64 0,.slice none 0 0] 31))
   have nz_:Aside0 ((w29.alloc (.cells #[.int .i64 0,.slice none 0 0] 31)).heap[w29.heap.size]?=some (Obj.cells #[.int .i64 0,.slice none 0 0] 31 (0,0))):=⟨heap_alloc_new w29 (.cells #[.int .i64 0,.slice none 0 0] 31)⟩
   have ng_:Aside0 (w29.heap.size≤w29.heap.size):=⟨hB.out.size⟩
   clear hHeld hB hC
   obtain⟨gq_,hgq_⟩:∃ x,x=w29.heap.size:=⟨_,rfl⟩
   have nz2_:Aside0 ((w29.alloc (.cells #[.int .i64 0,.slice none 0 0] 31)).heap[gq_]?=some (Obj.cells #[.int .i64 0,.slice none 0 0] 31 (0,0))):=⟨by rw[hgq_];exact nz_.out⟩
   have ng2_:Aside0 (w29.heap.size≤gq_):=⟨Nat.le_of_eq hgq_.symm⟩
   clear nz_ ng_
   have nz_:=nz2_
   have ng_:=ng2_
   clear nz2_ ng2_
   rw[← hgq_]
   clear hgq_
   generalize (w29.alloc (.cells #[.int .i64 0,.slice none 0 0] 31))=w29c10 at n0_ n1_ nz_ ⊢
   have hB:=n0_
   have hC:=n1_
   have HZ:=nz_
   have HG:=ng_
   clear nz_ ng_ n0_ n1_
   refine hK.out _ _ (HS.out _ hB.out) (fun hHeld=>?_)
   clear hK K_
   refine norm_ (a':=?_) ?_ ?_
   rotate_left
   ·show Act.put _ (some 13) _=_
    simp only[Act.put,List.setIfInBounds_toArray,List.set_cons_zero,List.set_cons_succ,i64_w,i32_w]
    rfl
   refine one_ (i:=1) (N:=some 76) #[true,true,true,false,false,true,false] rfl rfl (by kernel_rfl) zq36 (fun K_ hK=>?_)
   refine goes_ Try.func7 (by kernel_rfl) rfl #[.agg #[.int .i64 a0_0,.slice A0_1 l0_1.length c0_1]] zq125 rfl rfl zq13 ?_
   with_reducible refine(laws_toRing.calls K a0_0 A0_1 c0_1 l0_1 a0_0 m _ ?caimpl11 HC.out HTO.out).mono ?_
   (case caimpl11=>exact Kd.C_below HR.out hC.out)
   rintro e w29c11 ⟨v_,rfl,ho,hb⟩
   refine⟨_,rfl,?_⟩
   have n0_:=zM (below_step hB.out hb)
   have n1_:=zM (below_step hC.out hb)
   have n2_:=zM (blk_below HZ.out hb)
   have n3_:=zM (Kd.S_lower ho (below_size hC.out))
   clear hHeld hB hC HZ
   have hB:=n0_
   have hC:=n1_
   have HZ:=n2_
   have HOt_:=n3_
   clear n0_ n1_ n2_ n3_
   clear hb ho
   obtain⟨At_,ct_,ev_⟩:=Kd.S_slice HOt_.out
   subst ev_
   refine hK.out _ _ (HS.out _ hB.out) (fun hHeld=>?_)
   clear hK K_
   refine norm_ (a':=?_) ?_ ?_
   rotate_left
   ·show Act.put _ (some 76) _=_
    simp only[Act.put,List.setIfInBounds_toArray,List.set_cons_zero,List.set_cons_succ,i64_w,i32_w]
    rfl
   refine one_ (i:=3) (N:=some 78) #[true,true,true,true,false,true,false] rfl rfl (by kernel_rfl) zq36 (fun K_ hK=>?_)
   refine goes_ Try.func8 (by kernel_rfl) rfl #[.agg #[.int .i64 a1_0,.int .i64 a1_1,.int .i64 a1_2,.slice A1_3 l1_3.length c1_3]] zq125 rfl rfl zq13 ?_
   with_reducible refine(laws_toLetter.calls K a1_0 a1_1 a1_2 A1_3 c1_3 l1_3 a1_0 a1_1 a1_2 b _ ?cbimpl12 HCK.out HTK.out).mono ?_
   (case cbimpl12=>exact Kd.C_below HRK.out hC.out)
   rintro e w29c12 ⟨v_,rfl,ho,hb⟩
   refine⟨_,rfl,?_⟩
   have n0_:=zM (below_step hB.out hb)
   have n1_:=zM (below_step hC.out hb)
   have n2_:=zM (blk_below HZ.out hb)
   have n3_:=zM (Kd.S_below HOt_.out hb)
   have n4_:=zM (Kd.R_lower ho (below_size hC.out))
   clear hHeld hB hC HZ HOt_
   have hB:=n0_
   have hC:=n1_
   have HZ:=n2_
   have HOt_:=n3_
   have HOy_:=n4_
   clear n0_ n1_ n2_ n3_ n4_
   clear hb ho
   obtain⟨Ay_,cy_,ev_⟩:=Kd.R_slice HOy_.out
   subst ev_
   refine hK.out _ _ (HS.out _ hB.out) (fun hHeld=>?_)
   clear hK K_
   refine norm_ (a':=?_) ?_ ?_
   rotate_left
   ·show Act.put _ (some 78) _=_
    simp only[Act.put,List.setIfInBounds_toArray,List.set_cons_zero,List.set_cons_succ,i64_w,i32_w]
    rfl
   refine one_ (i:=4) (N:=some 79) #[true,true,true,true,true,true,false] rfl rfl (by kernel_rfl) zq36 (fun K_ hK=>?_)
   refine goes_ Try.func9 (by kernel_rfl) rfl #[.agg #[.int .i64 a0_0,.slice At_ m.length ct_],.agg #[.int .i64 a1_0,.int .i64 a1_1,.int .i64 a1_2,.slice Ay_ b.length cy_]] zq125 rfl rfl zq13 ?_
   with_reducible refine(impl_SealLetter.calls K a0_0 _ _ m a1_0 a1_1 a1_2 _ _ b r1 r3 _ ?ccimpl13 ?cdimpl13 ?ceimpl13 ?cfimpl13 HIM.out).mono ?_
   (case ccimpl13=>exact(Kd.S_reads' HOt_.out).2.2)
   (case cdimpl13=>exact(Kd.S_reads' HOt_.out).2.1)
   (case ceimpl13=>exact(Kd.R_reads' HOy_.out).2.2)
   (case cfimpl13=>exact(Kd.R_reads' HOy_.out).2.1)
   rintro e w29c13 ⟨v_,rfl,ho,hb⟩
   refine⟨_,rfl,?_⟩
   have n0_:=zM (below_step hB.out hb)
   have n1_:=zM (below_step hC.out hb)
   have n2_:=zM (blk_below HZ.out hb)
   have n3_:=zM (Kd.S_below HOt_.out hb)
   have n4_:=zM (Kd.R_below HOy_.out hb)
   have n5_:=zM (Kd.R_lower (Kd.R_mono (Kd.R_bound ho) (ok':=fun j_=>w29.heap.size≤j_∧j_ < w29c13.heap.size∧j_≠gq_) (fun j_ hj_=>⟨Nat.le_trans hB.out.size hj_.2.1,hj_.2.2.1,fun e_=>by subst e_;have h9:=blk_lt HZ.out;have h8:=hj_.2.1;omega⟩)) (below_size hC.out))
   clear hHeld hB hC HZ HOt_ HOy_
   have hB:=n0_
   have hC:=n1_
   have HZ:=n2_
   have HOt_:=n3_
   have HOy_:=n4_
   have HOw_:=n5_
   clear n0_ n1_ n2_ n3_ n4_ n5_
   clear hb ho
   obtain⟨Aw_,cw_,ev_⟩:=Kd.R_slice HOw_.out
   subst ev_
   refine hK.out _ _ (HS.out _ hB.out) (fun hHeld=>?_)
   clear hK K_
   refine norm_ (a':=?_) ?_ ?_
   rotate_left
   ·show Act.put _ (some 79) _=_
    simp only[Act.put,List.setIfInBounds_toArray,List.set_cons_zero,List.set_cons_succ,i64_w,i32_w]
    rfl
   exact norm_ zq44 (hCont (.agg #[.int .i64 a0_0,.slice At_ m.length ct_],.agg #[.int .i64 a1_0,.int .i64 a1_1,.int .i64 a1_2,.slice Ay_ b.length cy_],gq_,Aw_,cw_) _ ⟨hB.out,HZ.out,HG.out,HOw_.out⟩)
 rintro ⟨t25_,t27_,g13,Ah,ch⟩ w30 ⟨hb,hz_,hg_,hw_⟩
 refine norm_ (a':=?_) ?_ ?_
 rotate_left
 ·simp only[putAll,Act.put,List.setIfInBounds_toArray,List.set_cons_zero,List.set_cons_succ]
  rfl
 clear hHeld HS
 obtain⟨lowh,hlow_⟩:∃ x_,x_=w29.heap.size:=⟨_,rfl⟩
 obtain⟨hiwh,hhi_⟩:∃ x_,x_=w30.heap.size:=⟨_,rfl⟩
 have n0_:=zM (below_step HB.out hb)
 have n1_:=zM (blk_below BK2.out hb)
 have n2_:=zM (blk_below BK3.out hb)
 have n3_:=zM (blk_below BK6.out hb)
 have n4_:=zM (Kd.R_below HOw.out hb)
 have n5_:=zM (Kd.R_below HOg.out hb)
 have n6_:=zM (blk_below BK9.out hb)
 have n7_:=zM hz_
 have n8_:=zM (Kd.R_mono hw_ (ok':=fun j_=>lowh≤j_∧j_ < hiwh∧j_≠g13) (fun j_ hj_=>⟨by rw[hlow_];exact hj_.1,by rw[hhi_];exact hj_.2.1,hj_.2.2⟩))
 have n9_:=zM (show hizy≤g13∧g13+1≤hiwh from ⟨Nat.le_trans HT.out hg_,by rw[hhi_];exact blk_lt hz_⟩)
 have n10_:=zM (show hizy≤lowh∧lowh≤hiwh from ⟨by rw[hlow_];exact HT.out,by rw[hlow_,hhi_];exact hb.size⟩)
 have n11_:=zM (Nat.le_trans (below_size HB.out) hg_)
 have n12_:=zM (show hiwh≤w30.heap.size from Nat.le_of_eq hhi_)
 clear HB BK2 BK3 BK6 HOw HOg BK9 HT
 have HB:=n0_
 have BK2:=n1_
 have BK3:=n2_
 have BK6:=n3_
 have HOw:=n4_
 have HOg:=n5_
 have BK9:=n6_
 have BK13:=n7_
 have HOh:=n8_
 have CH13:=n9_
 have CHh:=n10_
 have GE13:=n11_
 have HT:=n12_
 clear n0_ n1_ n2_ n3_ n4_ n5_ n6_ n7_ n8_ n9_ n10_ n11_ n12_
 clear hb hz_ hg_ hw_ hlow_ hhi_
 refine last_ (i:=6) (N:=none) #[true,true,true,true,true,true,true] rfl rfl (by kernel_rfl) zq36 (fun K_ hK=>?_)
 rw[if_pos zq125]
 refine wp_store_row 31 (.tmp 13) (.tmp 79) rfl g13 #[.int .i64 r1,(.slice Ah r3.length ch)] rfl rfl 31 #[.int .i64 0,.slice none 0 0] BK13.out (by kernel_rfl) rfl zq135 ?_
 have hgr:=grown_setRow w30 g13 #[.int .i64 r1,(.slice Ah r3.length ch)]
 have hbk:=setRow_heap w30 g13 _ #[.int .i64 r1,(.slice Ah r3.length ch)] 31 (0,0) BK13.out
 generalize w30.setRow g13 #[.int .i64 r1,(.slice Ah r3.length ch)]=w31 at hgr hbk ⊢
 have n0_:=zM (below_grown1 HB.out hgr GE13.out)
 have n1_:=zM (Nat.le_trans HT.out hgr.size)
 have n2_:=zM (blk_grown1 (g':=g2) (ob:=.cells #[.int .i64 a0_0,.slice A0_1 l0_1.length c0_1] 24 (0,0)) BK2.out hgr (by have:=CH2.out;have:=CH3.out;have:=CH6.out;have:=CHw.out;have:=CHx.out;have:=CH7.out;have:=CHy.out;have:=CH8.out;have:=CHg.out;have:=CH9.out;have:=CHzx.out;have:=CHzy.out;have:=CH13.out;omega))
 have n3_:=zM (blk_grown1 (g':=g3) (ob:=.cells #[.int .i64 a1_0,.int .i64 a1_1,.int .i64 a1_2,.slice A1_3 l1_3.length c1_3] 27 (0,0)) BK3.out hgr (by have:=CH3.out;have:=CH6.out;have:=CHw.out;have:=CHx.out;have:=CH7.out;have:=CHy.out;have:=CH8.out;have:=CHg.out;have:=CH9.out;have:=CHzx.out;have:=CHzy.out;have:=CH13.out;omega))
 have n4_:=zM (blk_grown1 (g':=g6) (ob:=.cells #[.int .i64 r1,(.slice Aw r3.length cw)] 31 (0,0)) BK6.out hgr (by have:=CH6.out;have:=CHw.out;have:=CHx.out;have:=CH7.out;have:=CHy.out;have:=CH8.out;have:=CHg.out;have:=CH9.out;have:=CHzx.out;have:=CHzy.out;have:=CH13.out;omega))
 have n5_:=zM (Kd.R_grown HOw.out hgr (fun q_ hq_ he_=>by injection he_ with he_;subst he_;have:=CHw.out;have:=CHx.out;have:=CH7.out;have:=CHy.out;have:=CH8.out;have:=CHg.out;have:=CH9.out;have:=CHzx.out;have:=CHzy.out;have:=CH13.out;omega))
 have n6_:=zM (Kd.R_grown HOg.out hgr (fun q_ hq_ he_=>by injection he_ with he_;subst he_;have:=CHg.out;have:=CH9.out;have:=CHzx.out;have:=CHzy.out;have:=CH13.out;omega))
 have n7_:=zM (blk_grown1 (g':=g9) (ob:=.cells #[.int .i64 r1,(.slice Ag r3.length cg)] 31 (0,0)) BK9.out hgr (by have:=CH9.out;have:=CHzx.out;have:=CHzy.out;have:=CH13.out;omega))
 have n8_:=zM (Kd.R_grown HOh.out hgr (fun q_ hq_ he_=>by injection he_ with he_;subst he_;exact hq_.2.2 rfl))
 have n9_:=zM hbk
 clear HB HT BK2 BK3 BK6 HOw HOg BK9 HOh BK13
 have HB:=n0_
 have HT:=n1_
 have BK2:=n2_
 have BK3:=n3_
 have BK6:=n4_
 have HOw:=n5_
 have HOg:=n6_
 have BK9:=n7_
 have HOh:=n8_
 have BK13:=n9_
 clear n0_ n1_ n2_ n3_ n4_ n5_ n6_ n7_ n8_ n9_
 clear hbk hgr
 refine hK.out _ _ ?_
 clear hK K_
 refine done_ (by kernel_rfl) ?_
 have hc6_0:w31.cell? ⟨g6,0,none⟩=some (.int .i64 r1):=(blk_cell BK6.out 0).trans rfl
 have hc6_1:w31.cell? ⟨g6,1,none⟩=some ((.slice Aw r3.length cw)):=(blk_cell BK6.out 1).trans rfl
 have hc13_0:w31.cell? ⟨g13,0,none⟩=some (.int .i64 r1):=(blk_cell BK13.out 0).trans rfl
 have hc13_1:w31.cell? ⟨g13,1,none⟩=some ((.slice Ah r3.length ch)):=(blk_cell BK13.out 1).trans rfl
 go_wp2_with (first
   | ((with_reducible refine gate_callee (f:=10) rfl ?_);refine goesL_ (some 82) rfl rfl Try.func10 (by kernel_rfl) rfl #[.agg #[.int .i64 r1,(.slice Ah r3.length ch)],.agg #[.int .i64 r1,(.slice Aw r3.length cw)]] rfl zq13 ?_;(with_reducible refine(laws_eqBytesResult.calls K r1 _ _ r3 r1 _ _ r3 true _ ?ea82 ?eb82 ?ec82 ?ed82 HEQ.out).mono ?_);(case ea82=>exact(Kd.R_reads' HOh.out).2.2);(case eb82=>exact(Kd.R_reads' HOh.out).2.1);(case ec82=>exact(Kd.R_reads' HOw.out).2.2);(case ed82=>exact(Kd.R_reads' HOw.out).2.1);rintro e w32 ⟨rfl,hb⟩;refine⟨_,rfl,?_⟩;have n0_:=zM (below_step HB.out hb);have n1_:=zM (Nat.le_trans HT.out (Below.size hb));have n2_:=zM (blk_below BK2.out hb);have n3_:=zM (blk_below BK3.out hb);have n4_:=zM (blk_below BK6.out hb);have n5_:=zM (Kd.R_below HOw.out hb);have n6_:=zM (Kd.R_below HOg.out hb);have n7_:=zM (blk_below BK9.out hb);have n8_:=zM (blk_below BK13.out hb);have n9_:=zM (Kd.R_below HOh.out hb);clear HB HT BK2 BK3 BK6 HOw HOg BK9 BK13 HOh;have HB:=n0_;have HT:=n1_;have BK2:=n2_;have BK3:=n3_;have BK6:=n4_;have HOw:=n5_;have HOg:=n6_;have BK9:=n7_;have BK13:=n8_;have HOh:=n9_;clear n0_ n1_ n2_ n3_ n4_ n5_ n6_ n7_ n8_ n9_;clear hb;clear hc6_0 hc6_1 hc13_0 hc13_1;have hc9_0:w32.cell? ⟨g9,0,none⟩=some (.int .i64 r1):=(blk_cell BK9.out 0).trans rfl;have hc9_1:w32.cell? ⟨g9,1,none⟩=some ((.slice Ag r3.length cg)):=(blk_cell BK9.out 1).trans rfl)
   | ((with_reducible refine gate_callee (f:=16) rfl ?_);refine goesL_ (some 86) rfl rfl Try.func16 (by kernel_rfl) rfl #[.agg #[.int .i64 r1,(.slice Ag r3.length cg)],.int .i64 1] rfl zq13 ?_;(with_reducible refine(held_SealLetter K r1 _ _ r3.length q3 1 q1 _ HQ3.out ?ha86 ?hb86 HHL.out).mono ?_);(case ha86=>exact(Kd.R_reads' HOg.out).2.2);(case hb86=>exact(Kd.R_reads' HOg.out).2.1);rintro e w33 ⟨rfl,hb⟩;refine⟨_,rfl,?_⟩;have n0_:=zM (below_step HB.out hb);have n1_:=zM (Nat.le_trans HT.out (Below.size hb));have n2_:=zM (blk_below BK2.out hb);have n3_:=zM (blk_below BK3.out hb);have n4_:=zM (blk_below BK6.out hb);have n5_:=zM (Kd.R_below HOw.out hb);have n6_:=zM (Kd.R_below HOg.out hb);have n7_:=zM (blk_below BK9.out hb);have n8_:=zM (blk_below BK13.out hb);have n9_:=zM (Kd.R_below HOh.out hb);clear HB HT BK2 BK3 BK6 HOw HOg BK9 BK13 HOh;have HB:=n0_;have HT:=n1_;have BK2:=n2_;have BK3:=n3_;have BK6:=n4_;have HOw:=n5_;have HOg:=n6_;have BK9:=n7_;have BK13:=n8_;have HOh:=n9_;clear n0_ n1_ n2_ n3_ n4_ n5_ n6_ n7_ n8_ n9_;clear hb;clear hc9_0 hc9_1))
 go_ret
 exact⟨rfl,HB.out⟩
set_option maxHeartbeats 8000000 in
set_option maxRecDepth 100000 in
theorem laws_FnExactSealLetter.small (K:Nat) (a0_0:Int) (A0_1:Option Addr) (c0_1:Nat) (l0_1:List S70) (a1_0 a1_1 a1_2:Int) (A1_3:Option Addr) (c1_3:Nat) (l1_3:List Int) (v0:Int) (w:World) (hr0_1:Kd.C k70 w A0_1 l0_1.length l0_1) (hc0_1:l0_1.length≤c0_1) (hr1_3:Kd.C (Kd.int .u8) w A1_3 l1_3.length l1_3) (hc1_3:l1_3.length≤c1_3) (hsz:laws_szRing.f K a0_0 l0_1 1048576=some v0) (hv0:v0 < 0) :
  Calls Try.prog 3 #[.agg #[.int .i64 a0_0,.slice A0_1 l0_1.length c0_1],.agg #[.int .i64 a1_0,.int .i64 a1_1,.int .i64 a1_2,.slice A1_3 l1_3.length c1_3]] w fun e w'=>e=.returned (.bool true)∧Below w.heap.size w w':=by
 have HR:=zM hr0_1
 have HC:=zM hc0_1
 have HRK:=zM hr1_3
 have HCK:=zM hc1_3
 have HSZ:=zM hsz
 have hv1:=decide_eq_true hv0
 clear hsz hv0
 clear hr0_1 hc0_1 hr1_3 hc1_3
 have HB:=zM (Below.refl w.heap.size w)
 have HT:=zM (Nat.le_refl w.heap.size)
 go_enter Try.func3,Try.ntmps3
 go_wp2_with (first
   | ((with_reducible refine gate_dst (N:=2) rfl ?_);refine box_event ?hg (N:=2) ?hd (cs:=#[.int .i64 a0_0,.slice A0_1 l0_1.length c0_1]) (t:=24) ?hr ?_;(case hd=>rfl);(case hg=>rfl);(case hr=>first|(go_simp;done)|(go_simp;rfl));intro g2 hg w1 hbox hb;have n0_:=zM (below_step HB.out hb);have n1_:=zM hbox;have n2_:=zM (show w.heap.size≤g2 by rw[hg];exact HT.out);have n3_:=zM (show w.heap.size≤g2 by rw[hg];exact below_size HB.out);have n4_:=zM (show g2+1≤w1.heap.size from blk_lt hbox);clear HB HT;have HB:=n0_;have BK2:=n1_;have CH2:=n2_;have GE2:=n3_;have HT:=n4_;clear n0_ n1_ n2_ n3_ n4_;clear hb hbox hg;)
   | ((with_reducible refine gate_dst (N:=3) rfl ?_);refine box_event ?hg (N:=3) ?hd (cs:=#[.int .i64 a1_0,.int .i64 a1_1,.int .i64 a1_2,.slice A1_3 l1_3.length c1_3]) (t:=27) ?hr ?_;(case hd=>rfl);(case hg=>rfl);(case hr=>first|(go_simp;done)|(go_simp;rfl));intro g3 hg w2 hbox hb;have n0_:=zM (below_step HB.out hb);have n1_:=zM (blk_below BK2.out hb);have n2_:=zM hbox;have n3_:=zM (show g2+1≤g3 by rw[hg];exact HT.out);have n4_:=zM (show w.heap.size≤g3 by rw[hg];exact below_size HB.out);have n5_:=zM (show g3+1≤w2.heap.size from blk_lt hbox);clear HB BK2 HT;have HB:=n0_;have BK2:=n1_;have BK3:=n2_;have CH3:=n3_;have GE3:=n4_;have HT:=n5_;clear n0_ n1_ n2_ n3_ n4_ n5_;clear hb hbox hg;have hc2_0:w2.cell? ⟨g2,0,none⟩=some (.int .i64 a0_0):=(blk_cell BK2.out 0).trans rfl;have hc2_1:w2.cell? ⟨g2,1,none⟩=some (.slice A0_1 l0_1.length c0_1):=(blk_cell BK2.out 1).trans rfl)
   | ((with_reducible refine gate_callee (f:=4) rfl ?_);refine goesL_ (some 16) rfl rfl Try.func4 (by kernel_rfl) rfl #[.agg #[.int .i64 a0_0,.slice A0_1 l0_1.length c0_1],.int .i64 1048576] rfl zq13 ?_;(with_reducible refine(laws_szRing.calls K a0_0 A0_1 c0_1 l0_1 1048576 v0 _ (Kd.C_below HR.out HB.out) HC.out HSZ.out).mono ?_);rintro e w3 ⟨rfl,hb⟩;refine⟨_,rfl,?_⟩;have n0_:=zM (below_step HB.out hb);have n1_:=zM (Nat.le_trans HT.out (Below.size hb));have n2_:=zM (blk_below BK2.out hb);have n3_:=zM (blk_below BK3.out hb);clear HB HT BK2 BK3;have HB:=n0_;have HT:=n1_;have BK2:=n2_;have BK3:=n3_;clear n0_ n1_ n2_ n3_;clear hb;clear hc2_0 hc2_1;have hc3_0:w3.cell? ⟨g3,0,none⟩=some (.int .i64 a1_0):=(blk_cell BK3.out 0).trans rfl;have hc3_1:w3.cell? ⟨g3,1,none⟩=some (.int .i64 a1_1):=(blk_cell BK3.out 1).trans rfl;have hc3_2:w3.cell? ⟨g3,2,none⟩=some (.int .i64 a1_2):=(blk_cell BK3.out 2).trans rfl;have hc3_3:w3.cell? ⟨g3,3,none⟩=some (.slice A1_3 l1_3.length c1_3):=(blk_cell BK3.out 3).trans rfl))
 go_ret
 exact⟨rfl,HB.out⟩
set_option maxHeartbeats 8000000 in
set_option maxRecDepth 100000 in
theorem laws_FnExactSealLetter.small2 (K:Nat) (a0_0:Int) (A0_1:Option Addr) (c0_1:Nat) (l0_1:List S70) (a1_0 a1_1 a1_2:Int) (A1_3:Option Addr) (c1_3:Nat) (l1_3:List Int) (v0 v1:Int) (w:World) (hr0_1:Kd.C k70 w A0_1 l0_1.length l0_1) (hc0_1:l0_1.length≤c0_1) (hr1_3:Kd.C (Kd.int .u8) w A1_3 l1_3.length l1_3) (hc1_3:l1_3.length≤c1_3) (hsz:laws_szRing.f K a0_0 l0_1 1048576=some v0) (hv0:¬ v0 < 0) (hsk:laws_szLetter.f a1_0 a1_1 a1_2 l1_3 v0=some v1) (hv9:v1 < 0) :
  Calls Try.prog 3 #[.agg #[.int .i64 a0_0,.slice A0_1 l0_1.length c0_1],.agg #[.int .i64 a1_0,.int .i64 a1_1,.int .i64 a1_2,.slice A1_3 l1_3.length c1_3]] w fun e w'=>e=.returned (.bool true)∧Below w.heap.size w w':=by
 have HR:=zM hr0_1
 have HC:=zM hc0_1
 have HRK:=zM hr1_3
 have HCK:=zM hc1_3
 have HSZ:=zM hsz
 have HSK:=zM hsk
 have hv1:=decide_eq_false hv0
 have hv2:=decide_eq_true hv9
 clear hsz hv0 hsk hv9
 clear hr0_1 hc0_1 hr1_3 hc1_3
 have HB:=zM (Below.refl w.heap.size w)
 have HT:=zM (Nat.le_refl w.heap.size)
 go_enter Try.func3,Try.ntmps3
 go_wp2_with (first
   | ((with_reducible refine gate_dst (N:=2) rfl ?_);refine box_event ?hg (N:=2) ?hd (cs:=#[.int .i64 a0_0,.slice A0_1 l0_1.length c0_1]) (t:=24) ?hr ?_;(case hd=>rfl);(case hg=>rfl);(case hr=>first|(go_simp;done)|(go_simp;rfl));intro g2 hg w1 hbox hb;have n0_:=zM (below_step HB.out hb);have n1_:=zM hbox;have n2_:=zM (show w.heap.size≤g2 by rw[hg];exact HT.out);have n3_:=zM (show w.heap.size≤g2 by rw[hg];exact below_size HB.out);have n4_:=zM (show g2+1≤w1.heap.size from blk_lt hbox);clear HB HT;have HB:=n0_;have BK2:=n1_;have CH2:=n2_;have GE2:=n3_;have HT:=n4_;clear n0_ n1_ n2_ n3_ n4_;clear hb hbox hg;)
   | ((with_reducible refine gate_dst (N:=3) rfl ?_);refine box_event ?hg (N:=3) ?hd (cs:=#[.int .i64 a1_0,.int .i64 a1_1,.int .i64 a1_2,.slice A1_3 l1_3.length c1_3]) (t:=27) ?hr ?_;(case hd=>rfl);(case hg=>rfl);(case hr=>first|(go_simp;done)|(go_simp;rfl));intro g3 hg w2 hbox hb;have n0_:=zM (below_step HB.out hb);have n1_:=zM (blk_below BK2.out hb);have n2_:=zM hbox;have n3_:=zM (show g2+1≤g3 by rw[hg];exact HT.out);have n4_:=zM (show w.heap.size≤g3 by rw[hg];exact below_size HB.out);have n5_:=zM (show g3+1≤w2.heap.size from blk_lt hbox);clear HB BK2 HT;have HB:=n0_;have BK2:=n1_;have BK3:=n2_;have CH3:=n3_;have GE3:=n4_;have HT:=n5_;clear n0_ n1_ n2_ n3_ n4_ n5_;clear hb hbox hg;have hc2_0:w2.cell? ⟨g2,0,none⟩=some (.int .i64 a0_0):=(blk_cell BK2.out 0).trans rfl;have hc2_1:w2.cell? ⟨g2,1,none⟩=some (.slice A0_1 l0_1.length c0_1):=(blk_cell BK2.out 1).trans rfl)
   | ((with_reducible refine gate_callee (f:=4) rfl ?_);refine goesL_ (some 16) rfl rfl Try.func4 (by kernel_rfl) rfl #[.agg #[.int .i64 a0_0,.slice A0_1 l0_1.length c0_1],.int .i64 1048576] rfl zq13 ?_;(with_reducible refine(laws_szRing.calls K a0_0 A0_1 c0_1 l0_1 1048576 v0 _ (Kd.C_below HR.out HB.out) HC.out HSZ.out).mono ?_);rintro e w3 ⟨rfl,hb⟩;refine⟨_,rfl,?_⟩;have n0_:=zM (below_step HB.out hb);have n1_:=zM (Nat.le_trans HT.out (Below.size hb));have n2_:=zM (blk_below BK2.out hb);have n3_:=zM (blk_below BK3.out hb);clear HB HT BK2 BK3;have HB:=n0_;have HT:=n1_;have BK2:=n2_;have BK3:=n3_;clear n0_ n1_ n2_ n3_;clear hb;clear hc2_0 hc2_1;have hc3_0:w3.cell? ⟨g3,0,none⟩=some (.int .i64 a1_0):=(blk_cell BK3.out 0).trans rfl;have hc3_1:w3.cell? ⟨g3,1,none⟩=some (.int .i64 a1_1):=(blk_cell BK3.out 1).trans rfl;have hc3_2:w3.cell? ⟨g3,2,none⟩=some (.int .i64 a1_2):=(blk_cell BK3.out 2).trans rfl;have hc3_3:w3.cell? ⟨g3,3,none⟩=some (.slice A1_3 l1_3.length c1_3):=(blk_cell BK3.out 3).trans rfl)
   | ((with_reducible refine gate_callee (f:=5) rfl ?_);refine goesL_ (some 21) rfl rfl Try.func5 (by kernel_rfl) rfl #[.agg #[.int .i64 a1_0,.int .i64 a1_1,.int .i64 a1_2,.slice A1_3 l1_3.length c1_3],.int .i64 v0] rfl zq13 ?_;(with_reducible refine(laws_szLetter.calls a1_0 a1_1 a1_2 A1_3 c1_3 l1_3 v0 v1 _ (Kd.C_below HRK.out HB.out) HCK.out HSK.out).mono ?_);rintro e w4 ⟨rfl,hb⟩;refine⟨_,rfl,?_⟩;have n0_:=zM (below_step HB.out hb);have n1_:=zM (Nat.le_trans HT.out (Below.size hb));have n2_:=zM (blk_below BK2.out hb);have n3_:=zM (blk_below BK3.out hb);clear HB HT BK2 BK3;have HB:=n0_;have HT:=n1_;have BK2:=n2_;have BK3:=n3_;clear n0_ n1_ n2_ n3_;clear hb;clear hc3_0 hc3_1 hc3_2 hc3_3))
 go_ret
 exact⟨rfl,HB.out⟩
def laws_FnExactSealLetter.f (k:Nat) (a0_0:Int) (l0_1:List S70) (a1_0 a1_1 a1_2:Int) (l1_3:List Int) (r:Bool):Prop:=r=true∧∃ v0,laws_szRing.f k a0_0 l0_1 1048576=some v0∧(v0 < 0 ∨ ¬ v0 < 0∧∃ v1,laws_szLetter.f a1_0 a1_1 a1_2 l1_3 v0=some v1∧(v1 < 0 ∨ ¬ v1 < 0∧∃ (m m1:List S54) (b b1:List Int) (r1 k1 k2 q1:Int) (r3 q3:List Int),laws_toRing.f k a0_0 l0_1=some (a0_0,m)∧laws_toLetter.f k a1_0 a1_1 a1_2 l1_3=some (a1_0,a1_1,a1_2,b)∧spec_SealLetter.f k a0_0 m a1_0 a1_1 a1_2 b=some (r1,r3)∧impl_SealLetter.f k a0_0 m a1_0 a1_1 a1_2 b=some (r1,r3)∧laws_eqBytesResult.f k r1 r3 r1 r3=some true∧laws_eqRing.f k a0_0 m a0_0 m=some true∧laws_eqLetter.f k a1_0 a1_1 a1_2 b a1_0 a1_1 a1_2 b=some true∧m.length < 140737488355328∧r3.length=q3.length∧markKs k m 1=some (k1,m1)∧laws_markLetter.f k a1_0 a1_1 a1_2 b k1=some (k2,b1)∧b.length=b1.length∧laws_markBytesResult.f k r1 r3 1=some (q1,q3)∧laws_heldBytesResult.f k r1 q3 1=some q1∧¬ k2 < 0∧¬ q1 < 0))
theorem laws_FnExactSealLetter.calls (k:Nat) (a0_0:Int) (A0_1:Option Addr) (c0_1:Nat) (l0_1:List S70) (a1_0 a1_1 a1_2:Int) (A1_3:Option Addr) (c1_3:Nat) (l1_3:List Int) (r:Bool) (w:World) (hr0_1:Kd.C k70 w A0_1 l0_1.length l0_1) (hc0_1:l0_1.length≤c0_1) (hr1_3:Kd.C (Kd.int .u8) w A1_3 l1_3.length l1_3) (hc1_3:l1_3.length≤c1_3) (h:laws_FnExactSealLetter.f k a0_0 l0_1 a1_0 a1_1 a1_2 l1_3 r) :
  Calls Try.prog 3 #[.agg #[.int .i64 a0_0,.slice A0_1 l0_1.length c0_1],.agg #[.int .i64 a1_0,.int .i64 a1_1,.int .i64 a1_2,.slice A1_3 l1_3.length c1_3]] w fun e w'=>e=.returned (.bool r)∧Below w.heap.size w w':=by
 obtain⟨rfl,v0,hsz,hv0|⟨hv0,v1,hsk,hv9|⟨hv9,m,m1,b,b1,r1,k1,k2,q1,r3,q3,h0,h1,h2,h3,h4,h5,h6,h7,h8,h9,h10,h11,h12,h13,h14,h15⟩⟩⟩:=h
 ·exact laws_FnExactSealLetter.small k a0_0 A0_1 c0_1 l0_1 a1_0 a1_1 a1_2 A1_3 c1_3 l1_3 v0 w hr0_1 hc0_1 hr1_3 hc1_3 hsz hv0
 ·exact laws_FnExactSealLetter.small2 k a0_0 A0_1 c0_1 l0_1 a1_0 a1_1 a1_2 A1_3 c1_3 l1_3 v0 v1 w hr0_1 hc0_1 hr1_3 hc1_3 hsz hv0 hsk hv9
 ·exact laws_FnExactSealLetter.walk k a0_0 A0_1 c0_1 l0_1 a1_0 a1_1 a1_2 A1_3 c1_3 l1_3 m m1 b b1 v0 v1 r1 k1 k2 q1 r3 q3 w hr0_1 hc0_1 hr1_3 hc1_3 hsz hsk h0 h1 h2 h3 h4 h5 h6 h7 h8 h9 h10 h11 h12 h13 hv0 hv9 h14 h15
end Go.Proofs.Ytdbanjdnjhflcaa.All
