-- Laid by wip/shake.py of this repo out of this claim's texts. Not trusted: Lean checks it.
import Derived.Test.YtmnhddedcbkpoaaAb0s
import Derived.Test.YtmnhddedcbkpoaaBytes
import Derived.Test.YtmnhddedcbkpoaaAllx214s
import Derived.Test.YtmnhddedcbkpoaaAllx215s
import Derived.Test.YtmnhddedcbkpoaaAllx216s
import Derived.Test.YtmnhddedcbkpoaaAllx551s
import Derived.Test.YtmnhddedcbkpoaaAllx221s
import Derived.Test.YtmnhddedcbkpoaaAllx24s
import Derived.Test.YtmnhddedcbkpoaaAllx31s
import Derived.Test.YtmnhddedcbkpoaaAllx550s
import Derived.Test.YtmnhddedcbkpoaaAllx557s
import Derived.Test.YtmnhddedcbkpoaaAllx562s
import Derived.Test.YtmnhddedcbkpoaaAllx572s
import Derived.Test.YtmnhddedcbkpoaaLemRingVs
set_option linter.unusedVariables false
set_option linter.unusedSimpArgs false
namespace Go.Proofs.Ytmnhddedcbkpoaa.Pure
open Go.RowKit Go.Proofs.Ytmnhddedcbkpoaa.All Go.Proofs.YtmnhddedcbkpoaaW.PrintWords Go.Proofs.YtmnhddedcbkpoaaW.PrintLast Go.Proofs.YtmnhddedcbkpoaaW.PrintMore
theorem drawNew (l:List Int) (hb:∀ x ∈ l,0≤x∧x < 256) (hl:l.length≤1099511627776) (K:Nat) (hK:1001≤K):∃ (id:Int) (b:List Int),spec_DrawNewRing.f K l=some (id,b)∧b.length≤16:=by
 obtain⟨id,b,n,h,h1,_⟩:=l4Some_at l hb hl K hK 0 zq34 zq34
 unfold spec_DrawNewRing.f spec_l1Source.f
 simp only[Option.bind_some]
 rw[h]
 exact⟨id,b,rfl,h1⟩
theorem drawTurn (l:List Int) (hb:∀ x ∈ l,0≤x∧x < 256) (hl:l.length≤1099511627776) (K:Nat) (hK:1001≤K):∃ (p:Int) (m:List S25) (op id:Int) (b:List Int),spec_DrawTurnRing.f K l=some (p,m,op,id,b)∧m.length≤6∧(∀ x ∈ m,x.f1.length≤17)∧b.length≤16:=by
 obtain⟨p,m,n,h,m1,m2,n0,n1⟩:=l4Bent_at l hb hl K hK 0 zq34 zq34
 unfold spec_DrawTurnRing.f spec_l1Source.f
 simp only[Option.bind_some]
 rw[h]
 simp only[Option.bind_some]
 obtain⟨i,hi,_⟩:=pick_at2 l hb hl n n0 zq34 [1,2,3,1,2,3,0,4] zq101
 rw[hi]
 simp only[Option.bind_some]
 obtain⟨id,b,n',h2,h3,q0,q1⟩:=l4Some_at l hb hl K hK (n+1) zq34 zq34
 rw[h2]
 simp only[Option.bind_some]
 by_cases c:rd [1,2,3,1,2,3,0,4] i=1
 ·rw[if_pos c]
  exact⟨_,_,_,_,_,rfl,m1,m2,h3⟩
 rw[if_neg c]
 unfold spec_l1Chance.f
 obtain⟨v,hv,_,_⟩:=next_at l hb hl n' 9 q0 zq34 zq34
 rw[hv]
 simp only[Option.bind_some]
 by_cases c2:(v == 0)=true
 ·rw[if_pos c2]
  exact⟨_,_,_,_,_,rfl,m1,m2,h3⟩
 rw[if_neg c2]
 obtain⟨j,hj,_⟩:=pick_at2 l hb hl (n'+1) zq34 zq34 [1,2,3,5,6] zq101
 rw[hj]
 exact⟨_,_,_,_,_,rfl,m1,m2,by simp⟩
theorem drawSame (l:List Int) (hb:∀ x ∈ l,0≤x∧x < 256) (hl:l.length≤1099511627776) (K:Nat) (hK:1001≤K):∃ (p:Int) (m:List S25) (q:Int) (n:List S25),spec_DrawSameRings.f K l=some (p,m,q,n)∧m.length≤3:=by
 obtain⟨p,m,n,h,_,m1,m2,n0,n1⟩:=l4Draw_at l hb hl K zq34 0 zq34 zq34
 unfold spec_DrawSameRings.f spec_l1Source.f
 simp only[Option.bind_some]
 rw[h]
 simp only[Option.bind_some]
 unfold spec_l1Chance.f
 obtain⟨v,hv,_,_⟩:=next_at l hb hl n 2 n0 zq34 zq34
 rw[hv]
 simp only[Option.bind_some]
 by_cases c:(v == 0)=true
 ·rw[if_pos c,if_pos (okL_of m zq34 (fun x hx=>by have:=m2 x hx;omega))]
  exact⟨_,_,_,_,rfl,m1⟩
 rw[if_neg c]
 obtain⟨p2,m3,n2,h2,_⟩:=l4Bent_at l hb hl K hK 0 zq34 zq34
 rw[h2]
 exact⟨_,_,_,_,rfl,m1⟩
theorem newRing_at (k:Nat) (a:Int) (l:List Int) (hl:l.length≤1048576) (hk:1048577≤k):∃ r1 r2 r3,spec_NewRing.f a l=some (r1,r2,r3)∧impl_NewRing.f k a l=some (r1,r2,r3)∧(r1=0→r2=a∧r3=[(⟨a,l⟩:S25)]∧ringFaultL r2 r3=0):=by
 have hm:[(⟨a,l⟩:S25)].length≤1048576:=by simp
 have hb:∀ x ∈ [(⟨a,l⟩:S25)],x.f1.length≤1048576:=fun x hx=>by
  rw[List.mem_singleton] at hx
  rw[hx]
  exact hl
 unfold spec_NewRing.f impl_NewRing.f spec_RingFault.f
 rw[if_pos (okL_of _ hm hb),ring_fault k a _ hm zq34,ownRing_eq k a _ hm hb hk]
 simp only[Option.bind_some]
 by_cases h:ringFaultL a [(⟨a,l⟩:S25)]=0
 ·rw[if_pos h]
  exact⟨_,_,_,rfl,rfl,fun _=>⟨rfl,rfl,h⟩⟩
 ·rw[if_neg h]
  exact⟨_,_,_,rfl,rfl,fun e=>absurd e h⟩
theorem j1_turns (K:Nat) (hK:2097200≤K) (op p id t1 t2:Int) (m t3:List S25) (b:List Int) (hs:spec_TurnRing.f (K+1) p m op id b=some (t1,t2,t3)) (hl:t3.length≤1048576):laws_FnTurns.j1 (K+2) op false p m id b t1 t2 t3=some true:=by
 simp only[laws_FnTurns.j1]
 rw[if_neg (show ¬ (false=true) by decide)]
 by_cases c:t1=0
 ·subst c
  have hf:=turn_ok K p m op id b t2 t3 hs
  rw[if_pos rfl,ring_fault (K+1) t2 t3 hl zq34]
  simp only[Option.bind_some]
  rw[if_pos hf,hs]
  simp only[Option.bind_some]
  unfold impl_SameRings.f
  rw[if_pos zq34,if_pos rfl,sameKs_refl]
  rfl
 ·rw[if_neg c]
theorem FnTurns:laws_FnTurns.Pure:=by
 intro l0 _ _ hw
 obtain⟨c,rfl⟩:=bL_of l0 hw
 obtain⟨K,hK⟩:∃ K,K > 3000000:=⟨_,Nat.lt_succ_self _⟩
 refine⟨K+3,?_⟩
 unfold laws_FnTurns.f laws_lwBig.f
 by_cases h:((bL c).length:Int) > 1048576
 ·simp[h]
 have hb:=bL_wf c
 have hl:(bL c).length≤1099511627776:=by omega
 obtain⟨id,kb,hd1,hkb⟩:=drawNew (bL c) hb hl (K+3) zq34
 obtain⟨r1,r2,r3,ns,ni,nok⟩:=newRing_at (K+3) id kb zq34 zq34
 obtain⟨p,m,op,id2,b2,ht,hm,hmb,hb2⟩:=drawTurn (bL c) hb hl (K+3) zq34
 obtain⟨t1,t2,t3,ts,ti,t3l,t3b⟩:=turnRing_both (K+1) p m op id2 b2 zq34 (fun x hx=>by have:=hmb x hx;omega) zq34 zq34
 have ts3:spec_TurnRing.f (K+3) p m op id2 b2=some (t1,t2,t3):=spec_TurnRing.mono _ _ _ _ _ _ _ (spec_TurnRing.mono _ _ _ _ _ _ _ ts)
 have ti3:impl_TurnRing.f (K+3) p m op id2 b2=some (t1,t2,t3):=impl_TurnRing.mono _ _ _ _ _ _ _ (impl_TurnRing.mono _ _ _ _ _ _ _ ti)
 obtain⟨p1,m1,p2,m2,hs,hm1⟩:=drawSame (bL c) hb hl (K+3) zq34
 obtain⟨sb,hsb⟩:∃ sb,impl_SameRings.f p1 m1 p2 m2=some sb:=by
  unfold impl_SameRings.f
  rw[if_pos zq34]
  split <;> exact⟨_,rfl⟩
 have hss:spec_SameRings.f p1 m1 p2 m2=some sb:=hsb
 have hj:=j1_turns K zq34 op p id2 t1 t2 m t3 b2 ts t3l
 simp only[Option.bind_some]
 rw[if_neg (by simpa using h),hd1]
 simp only[Option.bind_some]
 rw[ni]
 simp only[Option.bind_some]
 rw[ht]
 simp only[Option.bind_some]
 rw[ti3]
 simp only[Option.bind_some]
 rw[hs]
 simp only[Option.bind_some]
 rw[ns]
 simp only[Option.bind_some,if_true]
 rw[ts3]
 simp only[Option.bind_some,if_true]
 rw[hsb]
 simp only[Option.bind_some]
 rw[hss]
 simp only[Option.bind_some,bne_self_eq_false]
 show laws_FnTurns.j0 ((K+2)+1) _ _ _ _ _ _ _ _ _ _ _ _ _ _=_
 simp only[laws_FnTurns.j0]
 rw[if_neg (show ¬ (false=true) by decide)]
 by_cases c0:r1=0
 ·obtain⟨e1,e2,e3⟩:=nok c0
  rw[if_pos c0,if_pos e1,if_pos (by rw[e2];rfl),ring_fault (K+2) r2 r3 (by rw[e2];simp) zq34,e3]
  exact hj
 ·rw[if_neg c0]
  exact hj
end Go.Proofs.Ytmnhddedcbkpoaa.Pure
