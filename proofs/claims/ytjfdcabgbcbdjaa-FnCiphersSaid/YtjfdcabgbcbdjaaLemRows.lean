import Derived.Test.YtjfdcabgbcbdjaaAllx0
import Derived.Test.YtjfdcabgbcbdjaaAllx83
set_option linter.unusedVariables false
set_option linter.unusedSimpArgs false
namespace Go.Proofs.Ytjfdcabgbcbdjaa.All
open Go.RowKit Go.Proofs.Ytjfdcabgbcbdjaa.All Go.Proofs.YtjfdcabgbcbdjaaW.PrintWords Go.Proofs.YtjfdcabgbcbdjaaW.PrintLast Go.Proofs.YtjfdcabgbcbdjaaW.PrintMore
/-! ### four turns of rows, four of columns -/
theorem shift_list (p0 p1 p2 p3 p4 p5 p6 p7 p8 p9 p10 p11 a b c d : BitVec 8) : shiftL [p0, p1, p2, p3, p4, p5, p6, p7, p8, p9, p10, p11, a, b, c, d] = [p0, p5, p10, d, p4, p9, c, p3, p8, b, p2, p7, a, p1, p6, p11] := rfl
theorem list16r (m : List (BitVec 8)) (h : m.length = 16) : ∃ p0 p1 p2 p3 p4 p5 p6 p7 p8 p9 p10 p11 a b c d, m = [p0, p1, p2, p3, p4, p5, p6, p7, p8, p9, p10, p11, a, b, c, d] := by
  refine ⟨by_ m 0, by_ m 1, by_ m 2, by_ m 3, by_ m 4, by_ m 5, by_ m 6, by_ m 7, by_ m 8, by_ m 9, by_ m 10, by_ m 11, by_ m 12, by_ m 13, by_ m 14, by_ m 15, ?_⟩
  have := (tab_self m).symm
  rw [h] at this
  exact this
theorem shift4 (m : List (BitVec 8)) (h : m.length = 16) : shiftL (shiftL (shiftL (shiftL m))) = m := by
  obtain ⟨p0, p1, p2, p3, p4, p5, p6, p7, p8, p9, p10, p11, a, b, c, d, rfl⟩ := list16r m h
  rw [shift_list, shift_list, shift_list, shift_list]
def mc (a b c d : BitVec 8) : BitVec 8 := xt a ^^^ xt b ^^^ b ^^^ c ^^^ d
theorem mix_list (p0 p1 p2 p3 p4 p5 p6 p7 p8 p9 p10 p11 a b c d : BitVec 8) : mixL [p0, p1, p2, p3, p4, p5, p6, p7, p8, p9, p10, p11, a, b, c, d] = [mc p0 p1 p2 p3, mc p1 p2 p3 p0, mc p2 p3 p0 p1, mc p3 p0 p1 p2, mc p4 p5 p6 p7, mc p5 p6 p7 p4, mc p6 p7 p4 p5, mc p7 p4 p5 p6, mc p8 p9 p10 p11, mc p9 p10 p11 p8, mc p10 p11 p8 p9, mc p11 p8 p9 p10, mc a b c d, mc b c d a, mc c d a b, mc d a b c] := rfl
theorem bits_mix : ∀ (a b c d A B C D X Y Z W : Bool), ((((((X ^^ Y ^^ B ^^ C ^^ D) ^^ (Y ^^ Z ^^ C ^^ D ^^ A)) ^^ (B ^^ C ^^ c ^^ d ^^ a)) ^^ (C ^^ D ^^ d ^^ a ^^ b)) ^^ (D ^^ A ^^ a ^^ b ^^ c)) : Bool) = (X ^^ a ^^ Z) := by decide +kernel
theorem mc2 (a b c d : BitVec 8) : mc (mc a b c d) (mc b c d a) (mc c d a b) (mc d a b c) = xt (xt a) ^^^ a ^^^ xt (xt c) := by
  unfold mc
  simp only [xt_add]
  apply BitVec.eq_of_getLsbD_eq
  intro i _
  simp only [BitVec.getLsbD_xor]
  exact bits_mix (a.getLsbD i) (b.getLsbD i) (c.getLsbD i) (d.getLsbD i) ((xt a).getLsbD i) ((xt b).getLsbD i) ((xt c).getLsbD i) ((xt d).getLsbD i) ((xt (xt a)).getLsbD i) ((xt (xt b)).getLsbD i) ((xt (xt c)).getLsbD i) false
theorem bits_mix4 : ∀ (a c A C X Z : Bool), (((X ^^ A ^^ Z) ^^ (A ^^ a ^^ C) ^^ (Z ^^ C ^^ X)) : Bool) = a := by decide +kernel
theorem mc4 (a c : BitVec 8) : xt (xt (xt (xt a) ^^^ a ^^^ xt (xt c))) ^^^ (xt (xt a) ^^^ a ^^^ xt (xt c)) ^^^ xt (xt (xt (xt c) ^^^ c ^^^ xt (xt a))) = a := by
  simp only [xt_add]
  apply BitVec.eq_of_getLsbD_eq
  intro i _
  simp only [BitVec.getLsbD_xor]
  exact bits_mix4 (a.getLsbD i) (c.getLsbD i) ((xt (xt a)).getLsbD i) ((xt (xt c)).getLsbD i) ((xt (xt (xt (xt a)))).getLsbD i) ((xt (xt (xt (xt c)))).getLsbD i)
theorem mix4 (m : List (BitVec 8)) (h : m.length = 16) : mixL (mixL (mixL (mixL m))) = m := by
  obtain ⟨p0, p1, p2, p3, p4, p5, p6, p7, p8, p9, p10, p11, a, b, c, d, rfl⟩ := list16r m h
  rw [mix_list, mix_list]
  simp only [mc2]
  rw [mix_list, mix_list]
  simp only [mc2, mc4]
theorem lwSame_self (l : List Int) : laws_lwSame.f l l = some true := by
  unfold laws_lwSame.f
  simp

end Go.Proofs.Ytjfdcabgbcbdjaa.All
