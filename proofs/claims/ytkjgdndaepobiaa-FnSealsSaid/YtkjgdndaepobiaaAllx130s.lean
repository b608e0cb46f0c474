-- Laid by wip/shake.py of this repo out of this claim's texts. Not trusted: Lean checks it.
import Derived.Test.YtkjgdndaepobiaaAb0s
import Derived.Test.YtkjgdndaepobiaaAllx0s
import Derived.Test.YtkjgdndaepobiaaAllx574s
import Derived.Test.YtkjgdndaepobiaaAllx539s
section
namespace Go.Proofs.Ytkjgdndaepobiaa.All
open Go.Proofs.YtkjgdndaepobiaaW.PrintWords.Aside0 renaming mk→zM
open Go.RowKit Go.Proofs.YtkjgdndaepobiaaW.PrintWords Go.Proofs.YtkjgdndaepobiaaW.PrintLast Go.Proofs.YtkjgdndaepobiaaW.PrintMore
attribute [local go_sem] max2_int min2_int max_two min_two max_three min_three max_four min_four
set_option linter.unusedVariables false
set_option linter.unusedSimpArgs false
def impl_whole.f (l0:List Int):Option (List Int):=(bytes_Clone.f l0).bind fun t332=>(if 0≤((16 - ((l0.length:Int) % 16)) % 16) then (if t332.length+((16 - ((l0.length:Int) % 16)) % 16:Int).toNat < 140737488355328 then (some (t332 ++ List.replicate ((16 - ((l0.length:Int) % 16)) % 16:Int).toNat 0)) else (none)) else (none))
set_option maxHeartbeats 8000000 in
set_option maxRecDepth 100000 in
theorem impl_whole.calls (A0:Option Addr) (c0:Nat) (l0:List Int) (r:List Int) (w:World) (hr0:Kd.C (Kd.int .u8) w A0 l0.length l0) (hc0:l0.length≤c0) (h:impl_whole.f l0=some r) :
  Calls Try.prog 64 #[.slice A0 l0.length c0] w fun e w'=>∃ v0_:Value,e=.returned (v0_)∧Kd.R (Kd.int .u8) 5 w' w.heap.size (fun _=>True) v0_ r∧Below w.heap.size w w':=by
 have HR0:=zM hr0
 have HC0:=zM hc0
 clear hr0 hc0
 have HB:=zM (Below.refl w.heap.size w)
 have H:((bytes_Clone.f l0).bind fun t332=>(if 0≤((16 - ((l0.length:Int) % 16)) % 16) then (if t332.length+((16 - ((l0.length:Int) % 16)) % 16:Int).toNat < 140737488355328 then (some (t332 ++ List.replicate ((16 - ((l0.length:Int) % 16)) % 16:Int).toNat 0)) else (none)) else (none)))=some r:=h
 clear h
 replace H:=Option.bind_eq_some_iff.mp H
 obtain⟨t332,A20,H⟩:=H
 replace H:(if 0≤((16 - ((l0.length:Int) % 16)) % 16) then (if t332.length+((16 - ((l0.length:Int) % 16)) % 16:Int).toNat < 140737488355328 then (some (t332 ++ List.replicate ((16 - ((l0.length:Int) % 16)) % 16:Int).toNat 0)) else (none)) else (none))=some r:=H
 have A2:=zM A20
 clear A20
 obtain⟨ji3,hji3⟩:∃ j_:Int,((16 - ((l0.length:Int) % 16)) % 16)=j_:=⟨_,rfl⟩
 replace H:(if 0≤(ji3) then (if t332.length+(ji3:Int).toNat < 140737488355328 then (some (t332 ++ List.replicate (ji3:Int).toNat 0)) else (none)) else (none))=some r:=by first|(rw[hji3] at H;exact H)|(simp only[hji3] at H ⊢;exact H)
 (try rw[hji3] at A2)
 by_cases c4:0≤(ji3)
 ·rw[if_pos c4] at H
  have c4b0:=eq_true c4
  have c4b1:decide (0≤(ji3))=true:=decide_eq_true c4
  clear c4
  by_cases c5:t332.length+(ji3:Int).toNat < 140737488355328
  ·rw[if_pos c5] at H
   have LMc5:=zM c5
   clear c5
   obtain⟨y335,hy335⟩:∃ y_:List Int,y_=(t332 ++ List.replicate (ji3:Int).toNat 0):=⟨_,rfl⟩
   replace H:(some y335)=some r:=by first|(rw[hy335];with_reducible exact H)|(have H2_:=(Option.bind_some _ _).symm.trans H;rw[hy335];with_reducible exact H2_)|(have H2_:=(Option.bind_some _ _).symm.trans H;with_reducible exact H2_)|with_reducible exact H|(rw[hy335];exact H)|exact H
   have Ny335:=zM hy335
   clear hy335
   obtain rfl:=Option.some.inj H
   go_enter Try.func64,Try.ntmps64
   go_wp2_with (first|((with_reducible refine gate_callee (f:=33) rfl ?_);refine goesL_ (some 4) rfl rfl Try.func33 (by kernel_rfl) rfl #[.slice A0 l0.length c0] rfl zq1 ?_;(with_reducible refine(bytes_Clone.calls _ _ l0 t332 _ ?side1 ?side2 A2.out).mono ?_);(case side1=>exact zq89);(case side2=>exact HC0.out);rintro e w6 ⟨v333,rfl,ho0,hb⟩;refine⟨_,rfl,?_⟩;have n0_:=zM (Kd.R_lower ho0 (below_size zq0));have n1_:=zM (below_step zq0 hb);clear HB;have HO334:=n0_;have HB:=n1_;clear n0_ n1_;(try clear hb);(try clear hb2);(try clear hk);(try clear hi);(try clear ho0))|(at_builtin;(try simp only[hji3]);refine Kd.R_append_zeros (Kd.int .u8) (w0:=w) w.heap.size rfl (.tmp 4) (.tmp 9) 22 3 5 (.int .u8 0) 1 rfl Try.underlying22 Try.underlying3 info5 rfl zq22 zq9 v333 t332 0 (ji3:Int) (fun _=>True) rfl rfl rfl ?aF ?aO (of_decide_eq_true zq7) ?aB ?aS ?aL ?_;(case aB=>exact zq0);(case aF=>exact(fun _ _=>trivial));(case aO=>exact(by(with_reducible repeat (first|apply Kd.R_alloc|apply Kd.R_drewN|apply Kd.R_drew));exact HO334.out));(case aS=>exact(below_size zq0));(case aL=>have:=LMc5.out;omega);intro v336 w7 ho hb hg hat;rw[← Ny335.out] at ho;have n0_:=zM (hb);have n1_:=zM (ho);clear HB;clear HO334;have HB:=n0_;have HO337:=n1_;clear n0_ n1_;clear ho hb hg hat))
   go_ret
   exact⟨_,by first|rfl|(simp[errW_none,errW_some] <;> rfl)|(simp only[← hji3];first|rfl|(simp[errW_none,errW_some] <;> rfl))|(simp[*,errW_none,errW_some] <;> rfl),by(with_reducible repeat (first|apply Kd.R_alloc|apply Kd.R_drewN|apply Kd.R_drew));exact HO337.out,zq0⟩
  ·rw[if_neg c5] at H
   exact absurd H zq101
 ·rw[if_neg c4] at H
  exact absurd H zq101
end Go.Proofs.Ytkjgdndaepobiaa.All
end
section
set_option linter.unusedVariables false
set_option linter.unusedSimpArgs false
namespace Go.Proofs.Ytkjgdndaepobiaa.All
open Go.Proofs.YtkjgdndaepobiaaW.PrintWords.Aside0 renaming mk→zM
open Go.RowKit Go.Proofs.Ytkjgdndaepobiaa.All Go.Proofs.YtkjgdndaepobiaaW.PrintWords Go.Proofs.YtkjgdndaepobiaaW.PrintLast Go.Proofs.YtkjgdndaepobiaaW.PrintMore
def packB:Nat→Nat→List (BitVec 8)
 | _,0=>[]
 | v,m+1=>packB (v / 256) m ++ [BitVec.ofNat 8 v]
theorem packB_length:∀ m v,(packB v m).length=m
 | 0,v=>rfl
 | m+1,v=>by rw[packB,List.length_append,packB_length m,List.length_singleton]
theorem wordB_loop:∀ (d K:Nat) (v:Nat) (ys:List Int),d≤ys.length→ys.length < 1099511627776→v < 9223372036854775808→d < K→impl_word.l0 K (v:Int) ys ((d:Int) - 1)=some (bL (packB v d) ++ ys.drop d)
 | 0,K,v,ys,h0,h1,hv9_,hk=>by
  obtain⟨K,rfl⟩:∃ m,K=m+1:=⟨K - 1,zq9⟩
  simp only[impl_word.l0]
  rw[if_neg zq9]
  rfl
 | d+1,K,v,ys,h0,h1,hv9_,hk=>by
  obtain⟨K,rfl⟩:∃ m,K=m+1:=⟨K - 1,zq9⟩
  have hw:wrap64 (((d+1:Nat):Int) - 1 - 1)=(d:Int) - 1:=by unfold wrap64;omega
  have hv2:wrap64 (Int.tdiv (v:Int) 256)=((v / 256:Nat):Int):=by
   rw[Int.tdiv_eq_ediv_of_nonneg zq9];unfold wrap64;omega
  have hb:Int.tmod (v:Int) 256 % 256=bI (BitVec.ofNat 8 v):=by
   rw[Int.tmod_eq_emod_of_nonneg zq9,← byte_of]
   omega
  have hd:(((d+1:Nat):Int) - 1).toNat=d:=by omega
  simp only[impl_word.l0]
  rw[if_pos zq9,if_pos zq9,if_pos zq9,hw,hv2,hb,hd,wordB_loop d K (v / 256) _ (by rw[List.length_set];omega) (by rw[List.length_set];omega) zq9 zq9]
  rw[List.drop_set,if_neg zq9,Nat.sub_self,List.drop_eq_getElem_cons (show d < ys.length by omega),List.set_cons_zero,packB,bL_append,List.append_assoc]
  rfl
theorem wordB (K v m:Nat) (hm:m≤8) (hv9_:v < 9223372036854775808) (hk:8 < K):impl_word.f K (v:Int) (m:Int)=some (bL (packB v m)):=by
 have hw:wrap64 ((m:Int) - 1)=(m:Int) - 1:=by unfold wrap64;omega
 unfold impl_word.f
 rw[if_pos zq9,if_pos zq9,hw,Int.toNat_natCast,wordB_loop m K v _ zq101 (by simp;omega) hv9_ zq9]
 rw[List.drop_of_length_le zq101,List.append_nil]
end Go.Proofs.Ytkjgdndaepobiaa.All
end
