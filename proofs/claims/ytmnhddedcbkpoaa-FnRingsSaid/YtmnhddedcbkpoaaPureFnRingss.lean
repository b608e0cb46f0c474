-- Laid by wip/shake.py of this repo out of this claim's texts. Not trusted: Lean checks it.
import Derived.Test.YtmnhddedcbkpoaaAb0s
import Derived.Test.YtmnhddedcbkpoaaBytes
import Derived.Test.YtmnhddedcbkpoaaAllx211s
import Derived.Test.YtmnhddedcbkpoaaAllx217s
import Derived.Test.YtmnhddedcbkpoaaAllx218s
import Derived.Test.YtmnhddedcbkpoaaAllx24s
import Derived.Test.YtmnhddedcbkpoaaAllx550s
import Derived.Test.YtmnhddedcbkpoaaAllx551s
import Derived.Test.YtmnhddedcbkpoaaAllx553s
import Derived.Test.YtmnhddedcbkpoaaAllx555s
import Derived.Test.YtmnhddedcbkpoaaAllx556s
import Derived.Test.YtmnhddedcbkpoaaAllx565s
import Derived.Test.YtmnhddedcbkpoaaAllx568s
import Derived.Test.YtmnhddedcbkpoaaAllx573s
import Derived.Test.YtmnhddedcbkpoaaLemDraws
import Derived.Test.YtmnhddedcbkpoaaLemRingWs
set_option linter.unusedVariables false
set_option linter.unusedSimpArgs false
namespace Go.Proofs.Ytmnhddedcbkpoaa.Pure
open Go.RowKit Go.Proofs.Ytmnhddedcbkpoaa.All Go.Proofs.YtmnhddedcbkpoaaW.PrintWords Go.Proofs.YtmnhddedcbkpoaaW.PrintLast Go.Proofs.YtmnhddedcbkpoaaW.PrintMore
theorem drawInstall (l:List Int) (hb:∀ x ∈ l,0≤x∧x < 256) (hl:l.length≤1099511627776) (K:Nat) (hK:1001≤K):∃ (p:Int) (m:List S25) (id:Int) (b:List Int),spec_DrawInstallKey.f K l=some (p,m,id,b)∧m.length≤6∧(∀ x ∈ m,x.f1.length≤17)∧b.length≤16:=by
 obtain⟨p,m,n,h,m1,m2,n0,n1⟩:=l4Bent_at l hb hl K hK 0 zq21 zq21
 unfold spec_DrawInstallKey.f spec_l1Source.f
 simp only[Option.bind_some]
 rw[h]
 simp only[Option.bind_some]
 obtain⟨id,b,n',h2,h3,q0,q1⟩:=l4Some_at l hb hl K hK n zq21 zq21
 rw[h2]
 exact⟨_,_,_,_,rfl,m1,m2,h3⟩
theorem drawRemove (l:List Int) (hb:∀ x ∈ l,0≤x∧x < 256) (hl:l.length≤1099511627776) (K:Nat) (hK:1001≤K):∃ (p:Int) (m:List S25) (id:Int),spec_DrawRemoveKey.f K l=some (p,m,id)∧m.length≤6∧(∀ x ∈ m,x.f1.length≤17):=by
 obtain⟨p,m,n,h,m1,m2,n0,n1⟩:=l4Bent_at l hb hl K hK 0 zq21 zq21
 unfold spec_DrawRemoveKey.f spec_DrawFindKey.f spec_l1Source.f
 simp only[Option.bind_some]
 rw[h]
 simp only[Option.bind_some]
 obtain⟨i,hi,_⟩:=pick_at2 l hb hl n n0 zq21 [1,2,3,4,5,6,0] zq58
 rw[hi]
 exact⟨_,_,_,rfl,m1,m2⟩
theorem place_elem (id:Int):∀ (l:List S25) (i:Nat),0≤placeL id l (i:Int)→∃ (j:Nat) (hj:j < l.length),placeL id l (i:Int)=((i+j:Nat):Int)∧l[j].f0=id
 | [],_,h=>by simp[placeL] at h
 | x :: xs,i,h=>by
  simp only[placeL] at h ⊢
  by_cases hx:x.f0=id
  ·rw[if_pos hx]
   exact⟨0,by simp,rfl,hx⟩
  ·rw[if_neg hx] at h ⊢
   rw[show (i:Int)+1=((i+1:Nat):Int) by omega] at h ⊢
   obtain⟨j,hj,e1,e2⟩:=place_elem id xs (i+1) h
   exact⟨j+1,by simp;omega,by rw[e1];omega,e2⟩
theorem rd_place (id:Int) (l:List S25) (h:0≤placeL id l 0):placeL id l 0 < (l.length:Int)∧rd_T25 l (placeL id l 0) ∈ l∧(rd_T25 l (placeL id l 0)).f0=id:=by
 obtain⟨j,hj,e1,e2⟩:=place_elem id l 0 h
 rw[show ((0:Nat):Int)=0 from rfl,Nat.zero_add] at e1
 rw[e1,rd_get l j hj]
 exact⟨zq21,List.getElem_mem hj,e2⟩
theorem keep_mem {id:Int} {l:List S25} {x:S25} (h:x ∈ keepL id l):x ∈ l∧x.f0≠id:=by
 unfold keepL at h
 rw[List.mem_filter,bne_iff_ne] at h
 exact h
theorem keep_all (id:Int) (l:List S25) (h:∀ y ∈ l,y.f0≠id):keepL id l=l:=by
 unfold keepL
 rw[List.filter_eq_self]
 intro y hy
 rw[bne_iff_ne]
 exact h y hy
theorem keep_ins (id:Int) (b:List Int):∀ (m:List S25) (i:Nat),i≤m.length→(∀ y ∈ m,y.f0≠id)→keepL id (m.insertIdx i (⟨id,b⟩:S25))=m
 | m,0,_,h=>by
  have h1:=keep_all id m h
  unfold keepL at h1 ⊢
  simp[List.filter_cons,h1]
 | [],i+1,hi,_=>absurd hi zq58
 | x :: xs,i+1,hi,h=>by
  have h1:=keep_ins id b xs i (by simpa using hi) (fun y hy=>h y (List.mem_cons_of_mem _ hy))
  have hx:=h x List.mem_cons_self
  unfold keepL at h1 ⊢
  rw[List.insertIdx_succ_cons,List.filter_cons,h1,if_pos (by rw[bne_iff_ne];exact hx)]
theorem ins_keep (id:Int):∀ (l:List S25),orderL l=true→∀ e ∈ l,e.f0=id→(keepL id l).insertIdx (gtL id (keepL id l)) e=l∧(keepL id l).length+1=l.length
 | [],_,e,he,_=>absurd he zq58
 | x :: xs,ho,e,he,hid=>by
  have ot:=order_tail x xs ho
  have og:=order_gt xs x ho
  by_cases hx:x.f0=id
  ·have hex:e=x:=by
    rcases List.mem_cons.mp he with rfl|h
    ·rfl
    ·have:=og e h
     omega
   subst hex
   have h1:=keep_none id xs (fun y hy=>by have:=og y hy;omega)
   have h2:keepL id (e :: xs)=xs:=by
    unfold keepL at h1 ⊢
    simp[List.filter_cons,hx,h1]
   rw[h2]
   have h3:gtL id xs=0:=by
    cases xs with
    | nil=>rfl
    | cons z zs=>
     have:=og z List.mem_cons_self
     simp only[gtL]
     rw[if_pos zq21]
   rw[h3]
   exact⟨by simp,by simp⟩
  ·have hm:e ∈ xs:=by
    rcases List.mem_cons.mp he with rfl|h
    ·exact absurd hid hx
    ·exact h
   obtain⟨i1,i2⟩:=ins_keep id xs ot e hm hid
   have hlt:=og e hm
   have h2:keepL id (x :: xs)=x :: keepL id xs:=by
    unfold keepL
    rw[List.filter_cons,if_pos (by rw[bne_iff_ne];exact hx)]
   rw[h2]
   simp only[gtL]
   rw[if_neg zq21,List.insertIdx_succ_cons,i1]
   exact⟨rfl,by simp only[List.length_cons];omega⟩
theorem sameRings_refl (p:Int) (m:List S25) (h:m.length≤1048576):impl_SameRings.f p m p m=some true:=by
 unfold impl_SameRings.f
 rw[if_pos zq21,if_pos rfl,sameKs_refl]
theorem sameRings_refl2 (p:Int) (m:List S25) (h:m.length≤1048576):spec_SameRings.f p m p m=some true:=by
 unfold spec_SameRings.f
 rw[if_pos zq21,if_pos rfl,sameKs_refl]
theorem no_place (id:Int) (l:List S25) (h:∀ y ∈ l,y.f0≠id):placeL id l 0 < 0:=by
 by_cases h1:placeL id l 0 < 0
 ·exact h1
 ·have h2:0≤placeL id l ((0:Nat):Int):=by
   show 0≤placeL id l 0
   omega
  obtain⟨x,hx,e⟩:=(place_some id l 0).mp h2
  exact absurd e (h x hx)
theorem place_no (id:Int) (l:List S25) (h:placeL id l 0 < 0):∀ y ∈ l,y.f0≠id:=fun y hy e=>by
 have h2:0≤placeL id l 0:=(place_some id l 0).mpr ⟨y,hy,e⟩
 omega
theorem okL_some {p:Int} {m:List S25} {id:Int} {r:Int × Int × List S25} (h:spec_RemoveKey.f p m id=some r):okL m:=by
 unfold spec_RemoveKey.f at h
 by_cases h0:okL m
 ·exact h0
 ·rw[if_neg h0] at h;cases h
theorem remove_form (p:Int) (m:List S25) (id:Int) (r2:Int) (r3:List S25) (h:spec_RemoveKey.f p m id=some (0,r2,r3)):okL m∧ringFaultL p m=0∧0≤placeL id m 0∧p≠id∧r2=p∧r3=keepL id m:=by
 unfold spec_RemoveKey.f at h
 by_cases h0:okL m
 case neg=>rw[if_neg h0] at h;cases h
 rw[if_pos h0] at h
 by_cases h1:ringFaultL p m=0
 case neg=>
  rw[if_neg h1] at h
  simp only[Option.some.injEq,Prod.mk.injEq] at h
  exact absurd h.1 h1
 rw[if_pos h1] at h
 by_cases h2:placeL id m 0 < 0
 ·rw[if_pos h2] at h;simp at h
 rw[if_neg h2] at h
 by_cases h3:p=id
 ·rw[if_pos h3] at h;simp at h
 rw[if_neg h3] at h
 simp only[Option.some.injEq,Prod.mk.injEq,true_and] at h
 exact⟨h0,h1,zq21,h3,h.1.symm,h.2.symm⟩
theorem install_form (p:Int) (m:List S25) (id:Int) (b:List Int) (r2:Int) (r3:List S25) (h:spec_InstallKey.f p m id b=some (0,r2,r3)):ringFaultL p m=0∧placeL id m 0 < 0∧m.length < 3∧r2=p∧r3=m.insertIdx (gtL id m) (⟨id,b⟩:S25):=by
 unfold spec_InstallKey.f at h
 by_cases h0:okL m∧b.length < 1000000000000
 case neg=>rw[if_neg h0] at h;cases h
 rw[if_pos h0] at h
 by_cases h1:ringFaultL p m=0
 case neg=>
  rw[if_neg h1] at h
  simp only[Option.some.injEq,Prod.mk.injEq] at h
  exact absurd h.1 h1
 rw[if_pos h1] at h
 by_cases h2:keyC id b.length=0
 case neg=>
  rw[if_neg h2] at h
  simp only[Option.some.injEq,Prod.mk.injEq] at h
  exact absurd h.1 h2
 rw[if_pos h2] at h
 by_cases h3:0≤placeL id m 0
 ·rw[if_pos h3] at h;simp at h
 rw[if_neg h3] at h
 by_cases h4:3≤m.length
 ·rw[if_pos h4] at h;simp at h
 rw[if_neg h4] at h
 by_cases h5:0 < m.length
 case neg=>rw[if_neg h5] at h;cases h
 rw[if_pos h5] at h
 simp only[Option.some.injEq,Prod.mk.injEq,true_and] at h
 exact⟨h1,zq21,zq21,h.1.symm,h.2.symm⟩
theorem use_form (p:Int) (m:List S25) (id:Int) (r2:Int) (r3:List S25) (h:spec_UseKey.f p m id=some (0,r2,r3)):ringFaultL p m=0∧0≤placeL id m 0∧r2=id∧r3=m:=by
 unfold spec_UseKey.f at h
 by_cases h0:okL m
 case neg=>rw[if_neg h0] at h;cases h
 rw[if_pos h0] at h
 by_cases h1:ringFaultL p m=0
 case neg=>
  rw[if_neg h1] at h
  simp only[Option.some.injEq,Prod.mk.injEq] at h
  exact absurd h.1 h1
 rw[if_pos h1] at h
 by_cases h2:placeL id m 0 < 0
 ·rw[if_pos h2] at h;simp at h
 rw[if_neg h2] at h
 simp only[Option.some.injEq,Prod.mk.injEq,true_and] at h
 exact⟨h1,zq21,h.1.symm,h.2.symm⟩
theorem find_val (p:Int) (m:List S25) (id:Int) (h0:okL m) (h1:ringFaultL p m=0) (h2:0≤placeL id m 0):spec_FindKey.f p m id=some (0,(rd_T25 m (placeL id m 0)).f0,(rd_T25 m (placeL id m 0)).f1):=by
 unfold spec_FindKey.f
 rw[if_pos h0,if_pos h1,if_neg zq21,if_pos (rd_place id m h2).1]
theorem find_none (p:Int) (m:List S25) (id:Int) (h0:okL m) (h1:ringFaultL p m=0) (h2:placeL id m 0 < 0):spec_FindKey.f p m id=some (4,0,[]):=by
 unfold spec_FindKey.f
 rw[if_pos h0,if_pos h1,if_pos h2]
theorem FnRings:∀ (l0:List Int),l0.length≤maxLen→(∀ x ∈ l0,(Lit.int .u8 x).wf=true)→∃ k,laws_FnRings.f k l0 true:=by
 intro l0 _ hw
 obtain⟨c,rfl⟩:=bL_of l0 hw
 obtain⟨K,hK⟩:∃ K,K > 3000000:=⟨_,Nat.lt_succ_self _⟩
 refine⟨K,rfl,?_⟩
 by_cases h:((bL c).length:Int) > 1048576
 ·refine .inl ?_
  unfold laws_lwBig.f
  simp[h]
 refine .inr ⟨by unfold laws_lwBig.f;simp;omega,?_⟩
 have hb:=bL_wf c
 have hl:(bL c).length≤1099511627776:=by omega
 obtain⟨p,m,a,b,hd1,hm,hmb,hbl⟩:=drawInstall (bL c) hb hl K zq21
 have hmb':∀ x ∈ m,x.f1.length≤1048576:=fun x hx=>by have:=hmb x hx;omega
 obtain⟨i1,i2,i3,is,ii,il,ib⟩:=installKey_both K p m a b zq21 hmb' zq21 zq21
 obtain⟨q,n,id,hd2,hn,hnb⟩:=drawRemove (bL c) hb hl K zq21
 have hnb':∀ x ∈ n,x.f1.length≤1048576:=fun x hx=>by have:=hnb x hx;omega
 obtain⟨x1,x2,x3,xs,xi,xl,xb⟩:=removeKey_both K q n id zq21 hnb' zq21
 obtain⟨u1,u2,u3,us,ui,ul,ub⟩:=useKey_both K q n id zq21 hnb' zq21
 obtain⟨f1,f2,f3,fs,fi,fl⟩:=findKey_both K q n id zq21 hnb' zq21
 refine⟨p,a,i1,i2,q,id,x1,x2,u1,u2,f1,f2,i2,x2,u2,f2,ringFaultL p m,m,i3,n,x3,u3,i3,x3,u3,b,f3,f3,hd1,ii,hd2,xi,ui,fi,is,xs,us,fs,ring_fault K p m zq21 zq21,rfl,?_,?_,?_⟩
 ·by_cases e:x1=0
  ·subst e
   refine .inr ⟨rfl,?_⟩
   obtain⟨ok,f0,pl,ne,e2,e3⟩:=remove_form q n id x2 x3 xs
   have rk:=remove_ok q n id x2 x3 xs
   have hno:∀ y ∈ x3,y.f0≠id:=fun y hy=>by rw[e3] at hy;exact(keep_mem hy).2
   obtain⟨y1,y2,y3,ys,yi,_⟩:=findKey_both K x2 x3 id xl xb zq21
   rw[find_none x2 x3 id (okL_of x3 xl xb) rk (no_place id x3 hno)] at ys
   have ey:y1=4:=by injection ys with h1;injection h1 with h1;exact h1.symm
   obtain⟨r0,r1,r2⟩:=rd_place id n pl
   rw[find_val q n id ok f0 pl] at fs
   have ef2:f2=id:=by injection fs with h1;injection h1 with _ h1;injection h1 with h1 _;exact h1.symm.trans r2
   have ef3:f3=(rd_T25 n (placeL id n 0)).f1:=by injection fs with h1;injection h1 with _ h1;injection h1 with _ h1;exact h1.symm
   have hfl:=(fault_iff q n).mp f0
   have hke:=hfl.2.1 _ r1
   rw[r2] at hke
   obtain⟨ik,lk⟩:=ins_keep id n (order_of q n f0) _ r1 r2
   have hfl3:f3.length≤1048576:=by rw[ef3];exact hnb' _ r1
   obtain⟨z1,z2,z3,zs,zi,zl,_⟩:=installKey_both K x2 x3 f2 f3 xl xb hfl3 zq21
   have hlen:x3.length+1=n.length:=by rw[e3];exact lk
   have h1:=((fault_iff x2 x3).mp rk).1.1
   have zs2:spec_InstallKey.f x2 x3 f2 f3=some (0,x2,n):=by
    unfold spec_InstallKey.f
    rw[if_pos ⟨okL_of x3 xl xb,zq21⟩,if_pos rk,if_pos (by rw[ef2,ef3];exact hke),if_neg (by have:=no_place id x3 hno;rw[ef2];omega),if_neg (by have:=hfl.1.2;omega),if_pos zq21,ef2,ef3]
    refine congrArg some (congrArg (Prod.mk (0:Int)) (congrArg (Prod.mk x2) ?_))
    rw[e3]
    have hel:(⟨id,(rd_T25 n (placeL id n 0)).f1⟩:S25)=rd_T25 n (placeL id n 0):=by
     cases hr:rd_T25 n (placeL id n 0) with
     | mk v0 v1=>
      rw[hr] at r2
      rw[show v0=id from r2]
    rw[hel]
    exact ik
   rw[zs2] at zs
   injection zs with zs
   injection zs with ez1 zs
   injection zs with ez2 ez3
   refine⟨y1,y2,y3,0,z1,z2,z3,yi,?_,ey,rfl,e2,zi,?_⟩
   ·rw[ring_fault K x2 x3 xl zq21,rk]
   ·rw[← ez2,← ez3,e2]
    exact sameRings_refl q n zq21
  ·exact .inl e
 ·by_cases e:u1=0
  ·subst e
   refine .inr ⟨rfl,?_⟩
   obtain⟨f0,pl,e2,e3⟩:=use_form q n id u2 u3 us
   have rk:=use_ok q n id u2 u3 us
   obtain⟨v1,v2,v3,vs,vi,_,_⟩:=removeKey_both K u2 u3 id ul ub zq21
   have vs2:spec_RemoveKey.f u2 u3 id=some (8,0,[]):=by
    unfold spec_RemoveKey.f
    rw[if_pos (okL_of u3 ul ub),if_pos rk,if_neg (by rw[e3];omega),if_pos e2]
   rw[vs2] at vs
   have ev:v1=8:=by injection vs with h1;injection h1 with h1;exact h1.symm
   exact⟨0,v1,v2,v3,e2,by rw[ring_fault K u2 u3 ul zq21,rk],rfl,vi,ev⟩
  ·exact .inl e
 ·by_cases e:i1=0
  ·subst e
   refine .inr ⟨rfl,?_⟩
   obtain⟨f0,pl,hm3,e2,e3⟩:=install_form p m a b i2 i3 is
   have rk:=install_ok p m a b i2 i3 is
   have hno:=place_no a m pl
   have hgl:=gtL_le a m
   have hin:(⟨a,b⟩:S25) ∈ i3:=by rw[e3];exact mem_of_ins hgl (.inl rfl)
   have pl3:0≤placeL a i3 0:=(place_some a i3 0).mpr ⟨_,hin,rfl⟩
   obtain⟨r0,r1,r2⟩:=rd_place a i3 pl3
   have hel:rd_T25 i3 (placeL a i3 0)=(⟨a,b⟩:S25):=by
    have r1':=r1
    rw[e3] at r1'
    rcases mem_ins hgl r1' with h1|h1
    ·rw[e3];exact h1
    ·rw[← e3] at h1
     exact absurd r2 (hno _ h1)
   obtain⟨g1,g2,g3,gs,gi,_⟩:=findKey_both K i2 i3 a il ib zq21
   rw[find_val i2 i3 a (okL_of i3 il ib) rk pl3,hel] at gs
   injection gs with gs
   injection gs with eg1 gs
   injection gs with eg2 eg3
   obtain⟨h1,h2,h3,hs,hi,_,_⟩:=removeKey_both K i2 i3 a il ib zq21
   have hpa:i2≠a:=by
    obtain⟨y,hy,ey⟩:=((fault_iff p m).mp f0).2.2.2
    rw[e2,← ey]
    exact hno y hy
   have hs2:spec_RemoveKey.f i2 i3 a=some (0,p,m):=by
    unfold spec_RemoveKey.f
    rw[if_pos (okL_of i3 il ib),if_pos rk,if_neg zq21,if_neg hpa,e2]
    rw[e3,keep_ins a b m _ hgl hno]
   rw[hs2] at hs
   injection hs with hs
   injection hs with eh1 hs
   injection hs with eh2 eh3
   refine⟨g1,g2,g3,0,h1,h2,h3,gi,eg1.symm,by rw[ring_fault K i2 i3 il zq21,rk],rfl,?_,e2,?_,hi,?_,?_⟩
   ·unfold laws_lwSame.f
    rw[← eg3]
    simp
   ·rw[e3,List.length_insertIdx_of_le_length hgl]
    unfold wrap64
    omega
   ·rw[← eh2,← eh3]
    exact sameRings_refl p m zq21
   ·exact sameRings_refl2 i2 i3 zq21
  ·exact .inl e
end Go.Proofs.Ytmnhddedcbkpoaa.Pure
