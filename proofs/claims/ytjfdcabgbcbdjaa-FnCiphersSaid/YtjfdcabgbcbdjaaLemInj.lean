import Derived.Test.YtjfdcabgbcbdjaaAllx0
import Derived.Test.YtjfdcabgbcbdjaaLemRows
set_option linter.unusedVariables false
set_option linter.unusedSimpArgs false
namespace Go.Proofs.Ytjfdcabgbcbdjaa.All
open Go.RowKit Go.Proofs.Ytjfdcabgbcbdjaa.All Go.Proofs.YtjfdcabgbcbdjaaW.PrintWords Go.Proofs.YtjfdcabgbcbdjaaW.PrintLast Go.Proofs.YtjfdcabgbcbdjaaW.PrintMore
/-! ### different blocks become different ones -/
def boxI : List Nat := [82, 9, 106, 213, 48, 54, 165, 56, 191, 64, 163, 158, 129, 243, 215, 251, 124, 227, 57, 130, 155, 47, 255, 135, 52, 142, 67, 68, 196, 222, 233, 203, 84, 123, 148, 50, 166, 194, 35, 61, 238, 76, 149, 11, 66, 250, 195, 78, 8, 46, 161, 102, 40, 217, 36, 178, 118, 91, 162, 73, 109, 139, 209, 37, 114, 248, 246, 100, 134, 104, 152, 22, 212, 164, 92, 204, 93, 101, 182, 146, 108, 112, 72, 80, 253, 237, 185, 218, 94, 21, 70, 87, 167, 141, 157, 132, 144, 216, 171, 0, 140, 188, 211, 10, 247, 228, 88, 5, 184, 179, 69, 6, 208, 44, 30, 143, 202, 63, 15, 2, 193, 175, 189, 3, 1, 19, 138, 107, 58, 145, 17, 65, 79, 103, 220, 234, 151, 242, 207, 206, 240, 180, 230, 115, 150, 172, 116, 34, 231, 173, 53, 133, 226, 249, 55, 232, 28, 117, 223, 110, 71, 241, 26, 113, 29, 41, 197, 137, 111, 183, 98, 14, 170, 24, 190, 27, 252, 86, 62, 75, 198, 210, 121, 32, 154, 219, 192, 254, 120, 205, 90, 244, 31, 221, 168, 51, 136, 7, 199, 49, 177, 18, 16, 89, 39, 128, 236, 95, 96, 81, 127, 169, 25, 181, 74, 13, 45, 229, 122, 159, 147, 201, 156, 239, 160, 224, 59, 77, 174, 42, 245, 176, 200, 235, 187, 60, 131, 83, 153, 97, 23, 43, 4, 126, 186, 119, 214, 38, 225, 105, 20, 99, 85, 33, 12, 125]
theorem SB_inj (a b : BitVec 8) (h : SB a = SB b) : a = b := by
  have h1 := of_all8 (p := fun a => decide (BitVec.ofNat 8 (boxI.getD (SB a).toNat 0) = a)) (by decide +kernel)
  have ha := of_decide_eq_true (h1 a)
  have hb := of_decide_eq_true (h1 b)
  rw [← ha, ← hb, h]
theorem ext16 (x y : List (BitVec 8)) (hx : x.length = 16) (hy : y.length = 16) (h : ∀ i, i < 16 → by_ x i = by_ y i) : x = y := by
  rw [tab_eq hx (fun i _ => rfl), tab_eq hy (fun i _ => rfl)]
  exact tab_congr h
theorem addL_inj (ks : List (BitVec 8)) (r : Nat) (x y : List (BitVec 8)) (hx : x.length = 16) (hy : y.length = 16) (h : addL ks r x = addL ks r y) : x = y := by
  refine ext16 x y hx hy fun i hi => ?_
  have e : by_ (addL ks r x) i = by_ (addL ks r y) i := by rw [h]
  unfold addL at e
  rw [tab_get _ _ _ hi, tab_get _ _ _ hi] at e
  have e2 : by_ x i ^^^ by_ ks (16 * r + i) ^^^ by_ ks (16 * r + i) = by_ y i ^^^ by_ ks (16 * r + i) ^^^ by_ ks (16 * r + i) := by rw [e]
  rwa [BitVec.xor_assoc, BitVec.xor_self, BitVec.xor_zero, BitVec.xor_assoc, BitVec.xor_self, BitVec.xor_zero] at e2
theorem subL_inj (x y : List (BitVec 8)) (hx : x.length = 16) (hy : y.length = 16) (h : subL x = subL y) : x = y := by
  refine ext16 x y hx hy fun i hi => ?_
  have e : by_ (subL x) i = by_ (subL y) i := by rw [h]
  unfold subL at e
  rw [tab_get _ _ _ hi, tab_get _ _ _ hi] at e
  exact SB_inj _ _ e
theorem shiftL_inj (x y : List (BitVec 8)) (hx : x.length = 16) (hy : y.length = 16) (h : shiftL x = shiftL y) : x = y := by
  rw [← shift4 x hx, ← shift4 y hy, h]
theorem mixL_inj (x y : List (BitVec 8)) (hx : x.length = 16) (hy : y.length = 16) (h : mixL x = mixL y) : x = y := by
  rw [← mix4 x hx, ← mix4 y hy, h]
theorem encTo_inj (ks x y : List (BitVec 8)) (hx : x.length = 16) (hy : y.length = 16) : ∀ r, encTo ks x r = encTo ks y r → x = y
  | 0, h => addL_inj ks 0 x y hx hy h
  | r + 1, h => encTo_inj ks x y hx hy r (subL_inj _ _ (encTo_length _ _ _) (encTo_length _ _ _) (shiftL_inj _ _ (subL_length _) (subL_length _) (mixL_inj _ _ (shiftL_length _) (shiftL_length _) (addL_inj ks (r + 1) _ _ (mixL_length _) (mixL_length _) h))))
theorem encL_inj (ks x y : List (BitVec 8)) (hx : x.length = 16) (hy : y.length = 16) (h : encL ks x = encL ks y) : x = y :=
  encTo_inj ks x y hx hy 9 (subL_inj _ _ (encTo_length _ _ _) (encTo_length _ _ _) (shiftL_inj _ _ (subL_length _) (subL_length _) (addL_inj ks 10 _ _ (shiftL_length _) (shiftL_length _) h)))

end Go.Proofs.Ytjfdcabgbcbdjaa.All
