-- Laid by wip/shake.py of this repo out of this claim's texts. Not trusted: Lean checks it.
import Derived.Test.YtdbanjdnjhflcaaAb0s
import Derived.Test.YtdbanjdnjhflcaaAlgs
import Derived.Test.YtdbanjdnjhflcaaAllx52s
import Derived.Test.YtdbanjdnjhflcaaAllx119s
set_option linter.unusedSimpArgs false
set_option linter.unusedVariables false
namespace Go.Proofs.Ytdbanjdnjhflcaa.All
open Go.Proofs.YtdbanjdnjhflcaaW.PrintWords.Aside0 renaming mk→zM
open Go.RowKit Go.Proofs.YtdbanjdnjhflcaaW.PrintWords Go.Proofs.YtdbanjdnjhflcaaW.PrintLast Go.Proofs.YtdbanjdnjhflcaaW.PrintMore
attribute [local go_sem] max2_int min2_int max_two min_two max_three min_three max_four min_four
def impl_whole.f (l0:List Int):Option (List Int):=(bytes_Clone.f l0).bind fun t366=>(if 0≤((16 - ((l0.length:Int) % 16)) % 16) then (if t366.length+((16 - ((l0.length:Int) % 16)) % 16:Int).toNat < 140737488355328 then (some (t366 ++ List.replicate ((16 - ((l0.length:Int) % 16)) % 16:Int).toNat 0)) else (none)) else (none))
set_option maxHeartbeats 8000000 in
set_option maxRecDepth 100000 in
theorem impl_whole.calls (A0:Option Addr) (c0:Nat) (l0:List Int) (r:List Int) (w:World) (hr0:Kd.C (Kd.int .u8) w A0 l0.length l0) (hc0:l0.length≤c0) (h:impl_whole.f l0=some r) :
  Calls Try.prog 72 #[.slice A0 l0.length c0] w fun e w'=>∃ v0_:Value,e=.returned (v0_)∧Kd.R (Kd.int .u8) 5 w' w.heap.size (fun _=>True) v0_ r∧Below w.heap.size w w':=by
 have HR0:=zM hr0
 have HC0:=zM hc0
 clear hr0 hc0
 have HB:=zM (Below.refl w.heap.size w)
 have H:((bytes_Clone.f l0).bind fun t366=>(if 0≤((16 - ((l0.length:Int) % 16)) % 16) then (if t366.length+((16 - ((l0.length:Int) % 16)) % 16:Int).toNat < 140737488355328 then (some (t366 ++ List.replicate ((16 - ((l0.length:Int) % 16)) % 16:Int).toNat 0)) else (none)) else (none)))=some r:=h
 clear h
 replace H:=Option.bind_eq_some_iff.mp H
 obtain⟨t366,A20,H⟩:=H
 replace H:(if 0≤((16 - ((l0.length:Int) % 16)) % 16) then (if t366.length+((16 - ((l0.length:Int) % 16)) % 16:Int).toNat < 140737488355328 then (some (t366 ++ List.replicate ((16 - ((l0.length:Int) % 16)) % 16:Int).toNat 0)) else (none)) else (none))=some r:=H
 have A2:=zM A20
 clear A20
 obtain⟨ji3,hji3⟩:∃ j_:Int,((16 - ((l0.length:Int) % 16)) % 16)=j_:=⟨_,rfl⟩
 replace H:(if 0≤(ji3) then (if t366.length+(ji3:Int).toNat < 140737488355328 then (some (t366 ++ List.replicate (ji3:Int).toNat 0)) else (none)) else (none))=some r:=by first|(rw[hji3] at H;exact H)|(simp only[hji3] at H ⊢;exact H)
 (try rw[hji3] at A2)
 by_cases c4:0≤(ji3)
 ·rw[if_pos c4] at H
  have c4b0:=eq_true c4
  have c4b1:decide (0≤(ji3))=true:=decide_eq_true c4
  clear c4
  by_cases c5:t366.length+(ji3:Int).toNat < 140737488355328
  ·rw[if_pos c5] at H
   have LMc5:=zM c5
   clear c5
   obtain⟨y369,hy369⟩:∃ y_:List Int,y_=(t366 ++ List.replicate (ji3:Int).toNat 0):=⟨_,rfl⟩
   replace H:(some y369)=some r:=by first|(rw[hy369];with_reducible exact H)|(have H2_:=(Option.bind_some _ _).symm.trans H;rw[hy369];with_reducible exact H2_)|(have H2_:=(Option.bind_some _ _).symm.trans H;with_reducible exact H2_)|with_reducible exact H|(rw[hy369];exact H)|exact H
   have Ny369:=zM hy369
   clear hy369
   obtain rfl:=Option.some.inj H
   go_enter Try.func72,Try.ntmps72
   go_wp2_with (first|((with_reducible refine gate_callee (f:=68) rfl ?_);refine goesL_ (some 4) rfl rfl Try.func68 (by kernel_rfl) rfl #[.slice A0 l0.length c0] rfl zq1 ?_;(with_reducible refine(bytes_Clone.calls _ _ l0 t366 _ ?side1 ?side2 A2.out).mono ?_);(case side1=>exact zq74);(case side2=>exact HC0.out);rintro e w6 ⟨v367,rfl,ho0,hb⟩;refine⟨_,rfl,?_⟩;have n0_:=zM (Kd.R_lower ho0 (below_size zq0));have n1_:=zM (below_step zq0 hb);clear HB;have HO368:=n0_;have HB:=n1_;clear n0_ n1_;(try clear hb);(try clear hb2);(try clear hk);(try clear hi);(try clear ho0))|(at_builtin;(try simp only[hji3]);refine Kd.R_append_zeros (Kd.int .u8) (w0:=w) w.heap.size rfl (.tmp 4) (.tmp 9) 25 3 5 (.int .u8 0) 1 rfl Try.underlying25 Try.underlying3 info5 rfl zq36 zq8 v367 t366 0 (ji3:Int) (fun _=>True) rfl rfl rfl ?aF ?aO (of_decide_eq_true zq6) ?aB ?aS ?aL ?_;(case aB=>exact zq0);(case aF=>exact(fun _ _=>trivial));(case aO=>exact(by(with_reducible repeat (first|apply Kd.R_alloc|apply Kd.R_drewN|apply Kd.R_drew));exact HO368.out));(case aS=>exact(below_size zq0));(case aL=>have:=LMc5.out;omega);intro v370 w7 ho hb hg hat;rw[← Ny369.out] at ho;have n0_:=zM (hb);have n1_:=zM (ho);clear HB;clear HO368;have HB:=n0_;have HO371:=n1_;clear n0_ n1_;clear ho hb hg hat))
   go_ret
   exact⟨_,by first|rfl|(simp[errW_none,errW_some] <;> rfl)|(simp only[← hji3];first|rfl|(simp[errW_none,errW_some] <;> rfl))|(simp[*,errW_none,errW_some] <;> rfl),by(with_reducible repeat (first|apply Kd.R_alloc|apply Kd.R_drewN|apply Kd.R_drew));exact HO371.out,zq0⟩
  ·rw[if_neg c5] at H
   exact absurd H zq73
 ·rw[if_neg c4] at H
  exact absurd H zq73
end Go.Proofs.Ytdbanjdnjhflcaa.All
namespace Go.Proofs.Ytdbanjdnjhflcaa
open Go.Proofs.YtdbanjdnjhflcaaW.PrintWords.Aside0 renaming mk→zM
open Go.RowKit Go.Proofs.YtdbanjdnjhflcaaW.PrintWords
section
variable {P:Program} {ops:Array Oper} {Q:Exit→Act→World→Prop} {W:World}
theorem rowput_event {o:Oper} {rest:List Oper} {a:Act} (hgd:o.guard=none) {t:TypeId} {p:Tmp} {v:Operand} (_ho:o.op=.store t (.tmp p) v) (hN:o.dst=none) {go cap n e base:Nat} {xs:List (BitVec 8)}
  (hR:Kd.R (Kd.int .u8) e W base (fun _=>True) (.slice (some ⟨go,0,none⟩) n cap) (bL xs)) {i:Nat} {x:Int} {b:BitVec 8} (hx:x=bI b) (hrun:(execOp a.eval o).run P W=.ok .skip (W.setCell ⟨go,i,none⟩ (.int .u8 x)))
  (h:∀ w1,Kd.R (Kd.int .u8) e w1 base (fun _=>True) (.slice (some ⟨go,0,none⟩) n cap) (bL (xs.set i b))→W.grownBy w1 (some go)→wpList P ops Q rest a w1):wpList P ops Q (o :: rest) a W:=
 store_event hgd _ho hN hrun fun w' hw=>by
  subst hw hx
  have hp:=Kd.R_putg hR (i:Int) (bI b)
  rw[Int.toNat_natCast,bL_set] at hp
  exact h _ hp.1 hp.2
theorem row_cell {e base n cap go:Nat} {xs:List (BitVec 8)} (h:Kd.R (Kd.int .u8) e W base (fun _=>True) (.slice (some ⟨go,0,none⟩) n cap) (bL xs)) (i:Nat) (hi:i < n) :
  W.cell? ⟨go,i,none⟩=some (.int .u8 (bI (by_ xs i)))∧W.frozen? ⟨go,i,none⟩=false:=by
 have h1:=Kd.R_celln (0:Int) h (i:Int) zq8 zq8
 rw[Int.toNat_natCast] at h1
 refine⟨h1.1.trans ?_,h1.2⟩
 have:rdOf (0:Int) (bL xs) (i:Int)=bI (by_ xs i):=by
  have:=rd_bL xs (i:Int)
  rw[Int.toNat_natCast] at this
  exact this
 rw[this]
theorem row_other {e base n cap go g bt:Nat} {xs:List Int} {cells:Array Value} {w1:World} (hR:Kd.R (Kd.int .u8) e W base (fun _=>True) (.slice (some ⟨go,0,none⟩) n cap) xs) (hb:W.heap[g]?=some (.cells cells bt (0,0))) (ht:e≠bt)
  (hgr:W.grownBy w1 (some go)):w1.heap[g]?=some (.cells cells bt (0,0)):=
 blk_grown1 hb hgr (fun e_=>Kd.R_ne hR hb ht (by rw[e_];rfl))
theorem row_out {e base:Nat} {v:Value} {xs:List (BitVec 8)} (h:Kd.R (Kd.int .u8) e W base (fun _=>True) v (bL xs)):∃ A c,v=.slice A xs.length c:=by
 obtain⟨A,c,e⟩:=Kd.R_slice h
 rw[bL_length] at e
 exact⟨A,c,e⟩
theorem row_open {e base n c:Nat} {A:Option Addr} {xs:List (BitVec 8)} (h:Kd.R (Kd.int .u8) e W base (fun _=>True) (.slice A n c) (bL xs)) (h0:0 < xs.length):∃ go,A=some ⟨go,0,none⟩∧base≤go:=by
 obtain⟨go,co,eo,gb,_⟩:=Kd.R_form h (by rw[bL_length];exact h0)
 injection eo with e1
 exact⟨go,e1,gb⟩
end
end Go.Proofs.Ytdbanjdnjhflcaa
namespace Go.Proofs.Ytdbanjdnjhflcaa.All
open Go.Proofs.YtdbanjdnjhflcaaW.PrintWords.Aside0 renaming mk→zM
open Go.RowKit Go.Proofs.Ytdbanjdnjhflcaa.All Go.Proofs.YtdbanjdnjhflcaaW.PrintWords Go.Proofs.YtdbanjdnjhflcaaW.PrintLast Go.Proofs.YtdbanjdnjhflcaaW.PrintMore
def packB:Nat→Nat→List (BitVec 8)
 | _,0=>[]
 | v,m+1=>packB (v / 256) m ++ [BitVec.ofNat 8 v]
theorem packB_length:∀ m v,(packB v m).length=m
 | 0,v=>rfl
 | m+1,v=>by rw[packB,List.length_append,packB_length m,List.length_singleton]
theorem wordB_loop:∀ (d K:Nat) (v:Nat) (ys:List Int),d≤ys.length→ys.length < 1099511627776→v < 9223372036854775808→d < K→impl_word.l0 K (v:Int) ys ((d:Int) - 1)=some (bL (packB v d) ++ ys.drop d)
 | 0,K,v,ys,h0,h1,hv9_,hk=>by
  obtain⟨K,rfl⟩:∃ m,K=m+1:=⟨K - 1,zq8⟩
  simp only[impl_word.l0]
  rw[if_neg zq8]
  rfl
 | d+1,K,v,ys,h0,h1,hv9_,hk=>by
  obtain⟨K,rfl⟩:∃ m,K=m+1:=⟨K - 1,zq8⟩
  have hw:wrap64 (((d+1:Nat):Int) - 1 - 1)=(d:Int) - 1:=by unfold wrap64;omega
  have hv2:wrap64 (Int.tdiv (v:Int) 256)=((v / 256:Nat):Int):=by
   rw[Int.tdiv_eq_ediv_of_nonneg zq8];unfold wrap64;omega
  have hb:Int.tmod (v:Int) 256 % 256=bI (BitVec.ofNat 8 v):=by
   rw[Int.tmod_eq_emod_of_nonneg zq8,← byte_of]
   omega
  have hd:(((d+1:Nat):Int) - 1).toNat=d:=by omega
  simp only[impl_word.l0]
  rw[if_pos zq8,if_pos zq8,if_pos zq8,hw,hv2,hb,hd,wordB_loop d K (v / 256) _ zq134 zq134 zq8 zq8]
  rw[List.drop_set,if_neg zq8,Nat.sub_self,List.drop_eq_getElem_cons (show d < ys.length by omega),List.set_cons_zero,packB,bL_append,List.append_assoc]
  rfl
theorem wordB (K v m:Nat) (hm:m≤8) (hv9_:v < 9223372036854775808) (hk:8 < K):impl_word.f K (v:Int) (m:Int)=some (bL (packB v m)):=by
 have hw:wrap64 ((m:Int) - 1)=(m:Int) - 1:=by unfold wrap64;omega
 unfold impl_word.f
 rw[if_pos zq8,if_pos zq8,hw,Int.toNat_natCast,wordB_loop m K v _ zq73 (by simp;omega) hv9_ zq8]
 rw[List.drop_of_length_le zq73,List.append_nil]
end Go.Proofs.Ytdbanjdnjhflcaa.All
