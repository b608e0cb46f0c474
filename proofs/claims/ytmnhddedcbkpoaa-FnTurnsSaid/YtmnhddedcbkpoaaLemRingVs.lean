-- Laid by wip/shake.py of this repo out of this claim's texts. Not trusted: Lean checks it.
import Derived.Test.YtmnhddedcbkpoaaAb0s
import Derived.Test.YtmnhddedcbkpoaaBytes
import Derived.Test.YtmnhddedcbkpoaaAllx27s
import Derived.Test.YtmnhddedcbkpoaaAllx550s
import Derived.Test.YtmnhddedcbkpoaaAllx565s
import Derived.Test.YtmnhddedcbkpoaaAllx568s
import Derived.Test.YtmnhddedcbkpoaaAllx221s
import Derived.Test.YtmnhddedcbkpoaaAllx553s
import Derived.Test.YtmnhddedcbkpoaaAllx556s
import Derived.Test.YtmnhddedcbkpoaaAllx215s
import Derived.Test.YtmnhddedcbkpoaaAllx551s
section
set_option linter.unusedVariables false
set_option linter.unusedSimpArgs false
namespace Go.Proofs.Ytmnhddedcbkpoaa.All
open Go.RowKit Go.Proofs.Ytmnhddedcbkpoaa.All Go.Proofs.YtmnhddedcbkpoaaW.PrintWords Go.Proofs.YtmnhddedcbkpoaaW.PrintLast Go.Proofs.YtmnhddedcbkpoaaW.PrintMore
theorem faults_all:∀ (l:List S25),faultsL l=0 ↔ ∀ x ∈ l,keyC x.f0 x.f1.length=0
 | []=>by simp[faultsL]
 | x :: xs=>by
  simp only[faultsL]
  by_cases h:keyC x.f0 x.f1.length=0
  ·rw[if_pos h,faults_all xs]
   simp[h]
  ·rw[if_neg h]
   exact⟨fun h2=>absurd h2 h,fun h2=>h2 x List.mem_cons_self⟩
theorem place_some (id:Int):∀ (l:List S25) (i:Nat),0≤placeL id l (i:Int) ↔ ∃ x ∈ l,x.f0=id
 | [],i=>by simp[placeL]
 | x :: xs,i=>by
  simp only[placeL]
  by_cases h:x.f0=id
  ·rw[if_pos h]
   exact⟨fun _=>⟨x,List.mem_cons_self,h⟩,fun _=>by omega⟩
  ·rw[if_neg h,show (i:Int)+1=((i+1:Nat):Int) by omega,place_some id xs (i+1)]
   constructor
   ·rintro ⟨y,hy,he⟩;exact⟨y,List.mem_cons_of_mem _ hy,he⟩
   ·rintro ⟨y,hy,he⟩
    rcases List.mem_cons.1 hy with rfl|hy
    ·exact absurd he h
    ·exact⟨y,hy,he⟩
theorem fault_iff (p:Int) (l:List S25):ringFaultL p l=0 ↔ (1≤l.length∧l.length≤3)∧(∀ x ∈ l,keyC x.f0 x.f1.length=0)∧orderL l=true∧∃ x ∈ l,x.f0=p:=by
 have hp:=place_some p l 0
 rw[show ((0:Nat):Int)=0 from rfl] at hp
 rw[← faults_all l,← hp]
 unfold ringFaultL
 by_cases h1:l.length < 1 ∨ 3 < l.length
 ·rw[if_pos h1]
  exact⟨fun h=>absurd h zq16,fun h=>by omega⟩
 ·rw[if_neg h1]
  by_cases h2:faultsL l=0
  ·rw[if_pos h2]
   by_cases h3:orderL l=true
   ·rw[if_pos h3]
    by_cases h4:placeL p l 0 < 0
    ·rw[if_pos h4];exact⟨fun h=>absurd h zq16,fun h=>by omega⟩
    ·rw[if_neg h4];exact⟨fun _=>⟨zq34,h2,h3,zq34⟩,fun _=>rfl⟩
   ·rw[if_neg h3];exact⟨fun h=>absurd h zq16,fun h=>absurd h.2.2.1 h3⟩
  ·rw[if_neg h2];exact⟨fun h=>absurd h h2,fun h=>absurd h.2.1 h2⟩
theorem order_cons (x:S25) (xs:List S25) (h:orderL xs=true) (hx:∀ y ∈ xs,x.f0 < y.f0):orderL (x :: xs)=true:=by
 cases xs with
 | nil=>rfl
 | cons y ys=>
  simp only[orderL]
  have:=hx y List.mem_cons_self
  rw[if_neg zq34]
  exact h
theorem order_keep (id:Int):∀ (l:List S25),orderL l=true→orderL (keepL id l)=true
 | [],_=>rfl
 | x :: xs,h=>by
  have h1:=order_keep id xs (order_tail x xs h)
  unfold keepL at h1 ⊢
  rw[List.filter_cons]
  split
  ·exact order_cons x _ h1 (fun y hy=>order_gt xs x h y (List.mem_filter.1 hy).1)
  ·exact h1
theorem order_ins (key:S25):∀ (l:List S25),orderL l=true→(∀ x ∈ l,x.f0≠key.f0)→orderL (l.insertIdx (gtL key.f0 l) key)=true
 | [],_,_=>rfl
 | x :: xs,h,hne=>by
  simp only[gtL]
  by_cases h1:key.f0 < x.f0
  ·rw[if_pos h1,List.insertIdx_zero]
   exact order_cons key (x :: xs) h (fun y hy=>by
    rcases List.mem_cons.1 hy with rfl|hy
    ·exact h1
    ·have:=order_gt xs x h y hy;omega)
  ·rw[if_neg h1,List.insertIdx_succ_cons]
   have hx:=hne x List.mem_cons_self
   exact order_cons x _ (order_ins key xs (order_tail x xs h) (fun y hy=>hne y (List.mem_cons_of_mem _ hy))) (fun y hy=>by
    rcases mem_ins (gtL_le key.f0 xs) hy with rfl|hy
    ·omega
    ·exact order_gt xs x h y hy)
theorem mem_of_ins {x key:S25} {l:List S25} {i:Nat} (hi:i≤l.length) (h:x=key ∨ x ∈ l):x ∈ l.insertIdx i key:=by
 rw[ins_eq key i l hi,List.mem_append,List.mem_cons]
 rcases h with h|h
 ·exact .inr (.inl h)
 ·rw[← List.take_append_drop i l,List.mem_append] at h
  rcases h with h|h
  ·exact .inl h
  ·exact .inr (.inr h)
theorem fault_ins (p:Int) (m:List S25) (id:Int) (b:List Int) (h:ringFaultL p m=0) (hk:keyC id b.length=0) (hq:placeL id m 0 < 0) (h3:m.length < 3):ringFaultL p (m.insertIdx (gtL id m) (⟨id,b⟩:S25))=0:=by
 rw[fault_iff] at h ⊢
 obtain⟨h1,h2,h4,x,hx,hp⟩:=h
 have hn:∀ x ∈ m,x.f0≠id:=fun x hx he=>by
  have:=(place_some id m 0).2 ⟨x,hx,he⟩
  rw[show ((0:Nat):Int)=0 from rfl] at this
  omega
 have hl:(m.insertIdx (gtL id m) (⟨id,b⟩:S25)).length=m.length+1:=by rw[List.length_insertIdx,if_pos (gtL_le id m)]
 refine⟨zq34,fun y hy=>?_,order_ins (⟨id,b⟩:S25) m h4 hn,x,mem_of_ins (gtL_le id m) (.inr hx),hp⟩
 rcases mem_ins (gtL_le id m) hy with rfl|hy
 ·exact hk
 ·exact h2 y hy
theorem fault_use (p:Int) (m:List S25) (id:Int) (h:ringFaultL p m=0) (hq:¬ placeL id m 0 < 0):ringFaultL id m=0:=by
 rw[fault_iff] at h ⊢
 refine⟨h.1,h.2.1,h.2.2.1,(place_some id m 0).1 ?_⟩
 rw[show ((0:Nat):Int)=0 from rfl]
 omega
theorem fault_keep (p:Int) (m:List S25) (id:Int) (h:ringFaultL p m=0) (hp:p≠id):ringFaultL p (keepL id m)=0:=by
 rw[fault_iff] at h ⊢
 obtain⟨h1,h2,h4,x,hx,he⟩:=h
 have hm:x ∈ keepL id m:=List.mem_filter.2 ⟨hx,by rw[bne_iff_ne,he];exact hp⟩
 have hl:=keep_len id m
 have hpos:0 < (keepL id m).length:=List.length_pos_of_mem hm
 exact⟨zq34,fun y hy=>h2 y (List.mem_filter.1 hy).1,order_keep id m h4,x,hm,he⟩
end Go.Proofs.Ytmnhddedcbkpoaa.All
end
section
set_option linter.unusedVariables false
set_option linter.unusedSimpArgs false
namespace Go.Proofs.Ytmnhddedcbkpoaa.All
open Go.RowKit Go.Proofs.Ytmnhddedcbkpoaa.All Go.Proofs.YtmnhddedcbkpoaaW.PrintWords Go.Proofs.YtmnhddedcbkpoaaW.PrintLast Go.Proofs.YtmnhddedcbkpoaaW.PrintMore
theorem install_ok (p:Int) (m:List S25) (id:Int) (b:List Int) (r2:Int) (r3:List S25) (h:spec_InstallKey.f p m id b=some (0,r2,r3)):ringFaultL r2 r3=0:=by
 unfold spec_InstallKey.f at h
 by_cases h0:okL m∧b.length < 1000000000000
 case neg=>rw[if_neg h0] at h;cases h
 rw[if_pos h0] at h
 by_cases h1:ringFaultL p m=0
 case neg=>
  rw[if_neg h1] at h
  simp only[Option.some.injEq,Prod.mk.injEq] at h
  exact absurd h.1 h1
 rw[if_pos h1] at h
 by_cases h2:keyC id b.length=0
 case neg=>
  rw[if_neg h2] at h
  simp only[Option.some.injEq,Prod.mk.injEq] at h
  exact absurd h.1 h2
 rw[if_pos h2] at h
 by_cases h3:0≤placeL id m 0
 ·rw[if_pos h3] at h;simp at h
 rw[if_neg h3] at h
 by_cases h4:3≤m.length
 ·rw[if_pos h4] at h;simp at h
 rw[if_neg h4] at h
 by_cases h5:0 < m.length
 case neg=>rw[if_neg h5] at h;cases h
 rw[if_pos h5] at h
 simp only[Option.some.injEq,Prod.mk.injEq,true_and] at h
 obtain⟨rfl,rfl⟩:=h
 exact fault_ins p m id b h1 h2 zq34 zq34
theorem use_ok (p:Int) (m:List S25) (id:Int) (r2:Int) (r3:List S25) (h:spec_UseKey.f p m id=some (0,r2,r3)):ringFaultL r2 r3=0:=by
 unfold spec_UseKey.f at h
 by_cases h0:okL m
 case neg=>rw[if_neg h0] at h;cases h
 rw[if_pos h0] at h
 by_cases h1:ringFaultL p m=0
 case neg=>
  rw[if_neg h1] at h
  simp only[Option.some.injEq,Prod.mk.injEq] at h
  exact absurd h.1 h1
 rw[if_pos h1] at h
 by_cases h2:placeL id m 0 < 0
 ·rw[if_pos h2] at h;simp at h
 rw[if_neg h2] at h
 simp only[Option.some.injEq,Prod.mk.injEq,true_and] at h
 obtain⟨rfl,rfl⟩:=h
 exact fault_use p m id h1 h2
theorem remove_ok (p:Int) (m:List S25) (id:Int) (r2:Int) (r3:List S25) (h:spec_RemoveKey.f p m id=some (0,r2,r3)):ringFaultL r2 r3=0:=by
 unfold spec_RemoveKey.f at h
 by_cases h0:okL m
 case neg=>rw[if_neg h0] at h;cases h
 rw[if_pos h0] at h
 by_cases h1:ringFaultL p m=0
 case neg=>
  rw[if_neg h1] at h
  simp only[Option.some.injEq,Prod.mk.injEq] at h
  exact absurd h.1 h1
 rw[if_pos h1] at h
 by_cases h2:placeL id m 0 < 0
 ·rw[if_pos h2] at h;simp at h
 rw[if_neg h2] at h
 by_cases h3:p=id
 ·rw[if_pos h3] at h;simp at h
 rw[if_neg h3] at h
 simp only[Option.some.injEq,Prod.mk.injEq,true_and] at h
 obtain⟨rfl,rfl⟩:=h
 exact fault_keep p m id h1 h3
theorem turn_ok (k:Nat) (p:Int) (m:List S25) (op id:Int) (b:List Int) (r2:Int) (r3:List S25) (h:spec_TurnRing.f (k+1) p m op id b=some (0,r2,r3)):ringFaultL r2 r3=0:=by
 unfold spec_TurnRing.f spec_RingFault.f at h
 rw[specIn_eq] at h
 simp only[Option.bind_some] at h
 by_cases h1:ringFaultL p m=0
 case neg=>
  rw[if_neg h1] at h
  simp only[Option.some.injEq,Prod.mk.injEq] at h
  exact absurd h.1 h1
 rw[if_pos h1] at h
 have hj:∀ f:Bool,spec_TurnRing.j0 (k+1) op f p m id b=some (0,r2,r3)→ringFaultL r2 r3=0:=by
  intro f hf
  simp only[spec_TurnRing.j0] at hf
  cases f with
  | true=>simp at hf
  | false=>
   rw[if_neg (show ¬ (false=true) by decide)] at hf
   by_cases c1:op=1
   ·rw[if_pos c1] at hf
    obtain⟨⟨a,b',c⟩,hi,he⟩:=Option.bind_eq_some_iff.mp hf
    simp only[Option.some.injEq,Prod.mk.injEq] at he
    obtain⟨rfl,rfl,rfl⟩:=he
    exact install_ok p m id b _ _ hi
   rw[if_neg c1] at hf
   by_cases c2:op=2
   ·rw[if_pos c2] at hf
    obtain⟨⟨a,b',c⟩,hi,he⟩:=Option.bind_eq_some_iff.mp hf
    simp only[Option.some.injEq,Prod.mk.injEq] at he
    obtain⟨rfl,rfl,rfl⟩:=he
    exact use_ok p m id _ _ hi
   rw[if_neg c2] at hf
   obtain⟨⟨a,b',c⟩,hi,he⟩:=Option.bind_eq_some_iff.mp hf
   simp only[Option.some.injEq,Prod.mk.injEq] at he
   obtain⟨rfl,rfl,rfl⟩:=he
   exact remove_ok p m id _ _ hi
 split at h
 ·split at h
  ·exact hj _ h
  ·exact hj _ h
 ·exact hj _ h
theorem sameKs_refl:∀ l:List S25,sameKs l l=true
 | []=>rfl
 | x :: xs=>by
  have h:sameK x x=true:=by simp[sameK]
  simp only[sameKs]
  rw[if_pos h]
  exact sameKs_refl xs
end Go.Proofs.Ytmnhddedcbkpoaa.All
end
