-- Laid by wip/shake.py of this repo out of this claim's texts. Not trusted: Lean checks it.
import Derived.Test.YtkjgdndaepobiaaAllx0s
import Derived.Test.YtkjgdndaepobiaaAllx20s
import Derived.Test.YtkjgdndaepobiaaAllx187s
import Derived.Test.YtkjgdndaepobiaaAllx541s
import Derived.Test.YtkjgdndaepobiaaAllx188s
import Derived.Test.YtkjgdndaepobiaaAllx542s
import Derived.Test.YtkjgdndaepobiaaAllx165s
import Derived.Test.YtkjgdndaepobiaaAllx167s
namespace Go.Proofs.Ytkjgdndaepobiaa.All
open Go.RowKit Go.Proofs.YtkjgdndaepobiaaW.PrintWords Go.Proofs.YtkjgdndaepobiaaW.PrintLast Go.Proofs.YtkjgdndaepobiaaW.PrintMore
attribute [local go_sem] max2_int min2_int max_two min_two max_three min_three max_four min_four
set_option linter.unusedVariables false
set_option linter.unusedSimpArgs false
theorem fldSeals42_0 (w:World) (a b:Value):(Instr.field 42 (.agg #[a,b]) 0).run Try.prog w=.ok a w:=by
 have h:=Try.underlying42
 have h2:=Try.underlying2
 unfold Instr.field asAgg
 go_simp
 all_goals rfl
theorem fldSeals42_1 (w:World) (a b:Value):(Instr.field 42 (.agg #[a,b]) 1).run Try.prog w=.ok b w:=by
 have h:=Try.underlying42
 have h2:=Try.underlying22
 unfold Instr.field asAgg
 go_simp
 all_goals rfl
attribute [local go_sem] fldSeals42_0 fldSeals42_1
mutual
def laws_FnSeals.j0:Nat→List Int→List Int→List Int→List Int→List Int→List Int→List Int→List Int→List Int→Bool→Int→List Int→Int→List Int→Option (Bool)
 | 0,_,_,_,_,_,_,_,_,_,_,_,_,_,_=>none
 | k+1,x0,x3,x4,x5,x6,x8,x9,x10,x11,x71,x560000,x560001,x577000,x577001=>if x71=true then (some false) else (if x577000=0 then ((impl_SealText.f x8 x9 x10 x577001).bind fun bt590=>((laws_lwSame.f bt590.2 x11).bind fun t594=>(laws_FnSeals.j1 k x0 x3 x4 x5 x6 (!t594) x560000 x560001))) else (laws_FnSeals.j1 k x0 x3 x4 x5 x6 false x560000 x560001))
def laws_FnSeals.j1:Nat→List Int→List Int→List Int→List Int→List Int→Bool→Int→List Int→Option (Bool)
 | 0,_,_,_,_,_,_,_,_=>none
 | k+1,x0,x3,x4,x5,x6,x86,x560000,x560001=>if x86=true then (some false) else (if x560000=0 then (if (x560001.length:Int)=(wrap64 ((x6.length:Int)+16)) then ((spec_SealText.f k x3 x4 x5 x6).bind fun bt595=>((laws_lwSame.f x560001 bt595.2).bind fun t599=>(laws_FnSeals.j2 k x0 x3 x4 x5 x6 (!t599) x560000 x560001))) else (laws_FnSeals.j2 k x0 x3 x4 x5 x6 true x560000 x560001)) else (some true))
def laws_FnSeals.j2:Nat→List Int→List Int→List Int→List Int→List Int→Bool→Int→List Int→Option (Bool)
 | 0,_,_,_,_,_,_,_,_=>none
 | k+1,x0,x3,x4,x5,x6,x108,x560000,x560001=>if x108=true then (some false) else ((some (([]:List Int):List Int)).bind fun y600=>(if y600.length+x560001.length < 140737488355328 then ((some (y600 ++ x560001:List Int)).bind fun y603=>((laws_lwAt.f x0 2 16).bind fun t606=>(if 0≤(wrap64 ((wrap64 ((y603.length:Int) - 1)) - t606)) then (if (wrap64 ((wrap64 ((y603.length:Int) - 1)) - t606)) < (y603.length:Int) then ((laws_lwAt.f x0 3 255).bind fun t608=>((impl_OpenText.f x3 x4 x5 x560001).bind fun bt610=>((laws_lwSame.f bt610.2 x6).bind fun t614=>(if t614=true then ((impl_OpenText.f x3 x4 x5 x560001).bind fun bt615=>(if bt615.1=0 then ((impl_OpenText.f x3 x4 x5 (y603.set ((wrap64 ((wrap64 ((y603.length:Int) - 1)) - t606)):Int).toNat (Go.bits .xor .u8 (rd y603 (wrap64 ((wrap64 ((y603.length:Int) - 1)) - t606))) ((wrap64 (1+t608)) % 256)))).bind fun bt619=>(some (bt619.1 == 9))) else (some false))) else (some false))))) else (none)) else (none)))) else (none)))
end
def laws_FnSeals.f (k:Nat) (l0:List Int):Option (Bool):=(laws_lwBig.f l0).bind fun t542=>(if t542=true then (some true) else ((spec_DrawSealText.f k l0).bind fun bt543=>((impl_SealText.f bt543.1 bt543.2.1 bt543.2.2.1 bt543.2.2.2).bind fun bt555=>((spec_DrawOpenText.f k l0).bind fun bt560=>((impl_OpenText.f bt560.1 bt560.2.1 bt560.2.2.1 bt560.2.2.2).bind fun bt572=>((spec_SealText.f k bt543.1 bt543.2.1 bt543.2.2.1 bt543.2.2.2).bind fun bt577=>(if bt555.1=bt577.1 then ((spec_OpenText.f k bt560.1 bt560.2.1 bt560.2.2.1 bt560.2.2.2).bind fun bt581=>(if bt572.1=bt581.1 then ((spec_OpenText.f k bt560.1 bt560.2.1 bt560.2.2.1 bt560.2.2.2).bind fun bt585=>((laws_lwSame.f bt572.2 bt585.2).bind fun t589=>(laws_FnSeals.j0 k l0 bt543.1 bt543.2.1 bt543.2.2.1 bt543.2.2.2 bt560.1 bt560.2.1 bt560.2.2.1 bt560.2.2.2 (!t589) bt555.1 bt555.2 bt572.1 bt572.2))) else (laws_FnSeals.j0 k l0 bt543.1 bt543.2.1 bt543.2.2.1 bt543.2.2.2 bt560.1 bt560.2.1 bt560.2.2.1 bt560.2.2.2 true bt555.1 bt555.2 bt572.1 bt572.2))) else (laws_FnSeals.j0 k l0 bt543.1 bt543.2.1 bt543.2.2.1 bt543.2.2.2 bt560.1 bt560.2.1 bt560.2.2.1 bt560.2.2.2 true bt555.1 bt555.2 bt572.1 bt572.2))))))))
theorem laws_FnSeals.mono_l:∀ k,(∀ y0 y1 y2 y3 y4 y5 y6 y7 y8 y9 y10 y11 y12 y13,LeO (laws_FnSeals.j0 k y0 y1 y2 y3 y4 y5 y6 y7 y8 y9 y10 y11 y12 y13) (laws_FnSeals.j0 (k+1) y0 y1 y2 y3 y4 y5 y6 y7 y8 y9 y10 y11 y12 y13))∧(∀ y0 y1 y2 y3 y4 y5 y6 y7,LeO (laws_FnSeals.j1 k y0 y1 y2 y3 y4 y5 y6 y7) (laws_FnSeals.j1 (k+1) y0 y1 y2 y3 y4 y5 y6 y7))∧(∀ y0 y1 y2 y3 y4 y5 y6 y7,LeO (laws_FnSeals.j2 k y0 y1 y2 y3 y4 y5 y6 y7) (laws_FnSeals.j2 (k+1) y0 y1 y2 y3 y4 y5 y6 y7))
 | 0=>⟨fun _ _ _ _ _ _ _ _ _ _ _ _ _ _ r h=>by simp[laws_FnSeals.j0] at h,fun _ _ _ _ _ _ _ _ r h=>by simp[laws_FnSeals.j1] at h,fun _ _ _ _ _ _ _ _ r h=>by simp[laws_FnSeals.j2] at h⟩
 | k+1=>by
  obtain⟨ih0,ih1,ih2⟩:=laws_FnSeals.mono_l k
  refine⟨?_,?_,?_⟩
  ·intro y0 y1 y2 y3 y4 y5 y6 y7 y8 y9 y10 y11 y12 y13
   unfold laws_FnSeals.j0
   repeat' first
   | (with_reducible exact ih0 _ _ _ _ _ _ _ _ _ _ _ _ _ _)
   | (with_reducible exact ih1 _ _ _ _ _ _ _ _)
   | (with_reducible exact ih2 _ _ _ _ _ _ _ _)
   | (with_reducible exact spec_DrawOpenText.mono _ _)
   | (with_reducible exact spec_DrawSealText.mono _ _)
   | (with_reducible exact spec_OpenText.mono _ _ _ _ _)
   | (with_reducible exact spec_SealText.mono _ _ _ _ _)
   | (with_reducible exact LeO.refl _)
   | (with_reducible exact LeO.none _)
   | (with_reducible refine LeO.ite ?_ ?_)
   | (with_reducible refine LeO.bind ?_ (fun _=>?_))
   | exact ih0 _ _ _ _ _ _ _ _ _ _ _ _ _ _
   | exact ih1 _ _ _ _ _ _ _ _
   | exact ih2 _ _ _ _ _ _ _ _
   | exact spec_DrawOpenText.mono _ _
   | exact spec_DrawSealText.mono _ _
   | exact spec_OpenText.mono _ _ _ _ _
   | exact spec_SealText.mono _ _ _ _ _
   | exact LeO.none _
   | refine LeO.ite ?_ ?_
   | refine LeO.bind ?_ (fun _=>?_)
  ·intro y0 y1 y2 y3 y4 y5 y6 y7
   unfold laws_FnSeals.j1
   repeat' first
   | (with_reducible exact ih0 _ _ _ _ _ _ _ _ _ _ _ _ _ _)
   | (with_reducible exact ih1 _ _ _ _ _ _ _ _)
   | (with_reducible exact ih2 _ _ _ _ _ _ _ _)
   | (with_reducible exact spec_DrawOpenText.mono _ _)
   | (with_reducible exact spec_DrawSealText.mono _ _)
   | (with_reducible exact spec_OpenText.mono _ _ _ _ _)
   | (with_reducible exact spec_SealText.mono _ _ _ _ _)
   | (with_reducible exact LeO.refl _)
   | (with_reducible exact LeO.none _)
   | (with_reducible refine LeO.ite ?_ ?_)
   | (with_reducible refine LeO.bind ?_ (fun _=>?_))
   | exact ih0 _ _ _ _ _ _ _ _ _ _ _ _ _ _
   | exact ih1 _ _ _ _ _ _ _ _
   | exact ih2 _ _ _ _ _ _ _ _
   | exact spec_DrawOpenText.mono _ _
   | exact spec_DrawSealText.mono _ _
   | exact spec_OpenText.mono _ _ _ _ _
   | exact spec_SealText.mono _ _ _ _ _
   | exact LeO.none _
   | refine LeO.ite ?_ ?_
   | refine LeO.bind ?_ (fun _=>?_)
  ·intro y0 y1 y2 y3 y4 y5 y6 y7
   unfold laws_FnSeals.j2
   repeat' first
   | (with_reducible exact ih0 _ _ _ _ _ _ _ _ _ _ _ _ _ _)
   | (with_reducible exact ih1 _ _ _ _ _ _ _ _)
   | (with_reducible exact ih2 _ _ _ _ _ _ _ _)
   | (with_reducible exact spec_DrawOpenText.mono _ _)
   | (with_reducible exact spec_DrawSealText.mono _ _)
   | (with_reducible exact spec_OpenText.mono _ _ _ _ _)
   | (with_reducible exact spec_SealText.mono _ _ _ _ _)
   | (with_reducible exact LeO.refl _)
   | (with_reducible exact LeO.none _)
   | (with_reducible refine LeO.ite ?_ ?_)
   | (with_reducible refine LeO.bind ?_ (fun _=>?_))
   | exact ih0 _ _ _ _ _ _ _ _ _ _ _ _ _ _
   | exact ih1 _ _ _ _ _ _ _ _
   | exact ih2 _ _ _ _ _ _ _ _
   | exact spec_DrawOpenText.mono _ _
   | exact spec_DrawSealText.mono _ _
   | exact spec_OpenText.mono _ _ _ _ _
   | exact spec_SealText.mono _ _ _ _ _
   | exact LeO.none _
   | refine LeO.ite ?_ ?_
   | refine LeO.bind ?_ (fun _=>?_)
theorem laws_FnSeals.mono:∀ a0 k,LeO (laws_FnSeals.f k a0) (laws_FnSeals.f (k+1) a0):=by
 intro a0 k
 obtain⟨ih0,ih1,ih2⟩:=laws_FnSeals.mono_l k
 unfold laws_FnSeals.f
 repeat' first
   | (with_reducible exact ih0 _ _ _ _ _ _ _ _ _ _ _ _ _ _)
   | (with_reducible exact ih1 _ _ _ _ _ _ _ _)
   | (with_reducible exact ih2 _ _ _ _ _ _ _ _)
   | (with_reducible exact spec_DrawOpenText.mono _ _)
   | (with_reducible exact spec_DrawSealText.mono _ _)
   | (with_reducible exact spec_OpenText.mono _ _ _ _ _)
   | (with_reducible exact spec_SealText.mono _ _ _ _ _)
   | (with_reducible exact LeO.refl _)
   | (with_reducible exact LeO.none _)
   | (with_reducible refine LeO.ite ?_ ?_)
   | (with_reducible refine LeO.bind ?_ (fun _=>?_))
   | exact ih0 _ _ _ _ _ _ _ _ _ _ _ _ _ _
   | exact ih1 _ _ _ _ _ _ _ _
   | exact ih2 _ _ _ _ _ _ _ _
   | exact spec_DrawOpenText.mono _ _
   | exact spec_DrawSealText.mono _ _
   | exact spec_OpenText.mono _ _ _ _ _
   | exact spec_SealText.mono _ _ _ _ _
   | exact LeO.none _
   | refine LeO.ite ?_ ?_
   | refine LeO.bind ?_ (fun _=>?_)
def laws_FnSeals.T7:Bool × List (List Nat × List Nat):=(true,[([],[]),([0],[0]),([],[]),([],[]),([],[]),([],[]),([2,3,4,5],[2,3,4,5]),([6],[6]),([1,7],[1,7]),([8,6],[8]),([9],[9]),([10,9],[9,10]),([9],[9]),([9],[9]),([9],[9]),([9],[9]),([12,13,14,15,9,9],[9,12,13,14,15]),([16,9],[9,16]),([11,17,9],[9,11,17]),([9,18],[9,18]),([19,16],[19]),([20],[20]),([21,20],[20,21]),([20],[20]),([20],[20]),([20],[20]),([20],[20]),([23,24,25,26,20,20],[20,23,24,25,26]),([27,20],[20,27]),([22,28,27,20],[20,22,28]),([29,20],[20,29]),([20,30],[20,30])])
def laws_FnSeals.B7:List Nat:=[0,1,0,0,0,0,60,124,255,511,1023,2047,1023,1023,1023,1023,62463,127999,262143,524287,1048575,2097151,4194303,2097151,2097151,2097151,2097151,127926271,262143999,536870911,1073741823,2147483647]
theorem laws_FnSeals.tab7:rtab .any (opsOf Try.f5 7)=laws_FnSeals.T7:=by kernel_rfl
theorem laws_FnSeals.bits7:waitsOk laws_FnSeals.T7.2 laws_FnSeals.B7=true:=by kernel_rfl
def laws_FnSeals.T13:Bool × List (List Nat × List Nat):=(true,[([],[]),([0],[0]),([1],[1]),([],[]),([3],[3]),([4],[4]),([2,5],[2,5]),([6],[6]),([7],[7]),([8,7],[7,8]),([7],[7]),([7],[7]),([7],[7]),([7],[7]),([10,11,12,13,7,7],[7,10,11,12,13]),([14,7],[7,14]),([9,15,14,7],[7,9,15]),([16,7],[7,16]),([7,17],[7,17])])
def laws_FnSeals.B13:List Nat:=[0,1,3,0,8,24,63,127,255,511,255,255,255,255,15615,31999,65535,131071,262143]
theorem laws_FnSeals.tab13:rtab .any (opsOf Try.f5 13)=laws_FnSeals.T13:=by kernel_rfl
theorem laws_FnSeals.bits13:waitsOk laws_FnSeals.T13.2 laws_FnSeals.B13=true:=by kernel_rfl
def laws_FnSeals.T16:Bool × List (List Nat × List Nat):=(true,[([],[]),([],[]),([1],[1]),([2],[2]),([],[]),([4],[4]),([3,5],[3,5]),([0,6],[0,6]),([7],[7]),([],[]),([9,5],[9]),([10],[10]),([11],[11]),([8,12],[8,12]),([0,6,0,1,2,3,4,5,6,7,8,9,10,11,12,13],[0,6]),([14,13,10,0,1,2,3,4,5,6,7,8,9,10,11,12,13],[13,14])])
def laws_FnSeals.B16:List Nat:=[0,0,2,6,0,16,62,127,255,0,560,1584,3632,8191,16383,32767]
theorem laws_FnSeals.tab16:rtab .any (opsOf Try.f5 16)=laws_FnSeals.T16:=by kernel_rfl
theorem laws_FnSeals.bits16:waitsOk laws_FnSeals.T16.2 laws_FnSeals.B16=true:=by kernel_rfl
end Go.Proofs.Ytkjgdndaepobiaa.All
