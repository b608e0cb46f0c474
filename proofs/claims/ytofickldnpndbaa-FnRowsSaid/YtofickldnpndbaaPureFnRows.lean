/- The law FnRows in numbers and lists: whatever comes in, it answers true.-/
import Derived.Test.YtofickldnpndbaaAllx146
import Derived.Test.YtofickldnpndbaaAllx147
import Derived.Test.YtofickldnpndbaaAllx20
import Derived.Test.YtofickldnpndbaaAllx503
import Derived.Test.YtofickldnpndbaaAllx513
import Derived.Test.YtofickldnpndbaaAllx82
import Derived.Test.YtofickldnpndbaaAllx85
import Derived.Test.YtofickldnpndbaaAllx92
import Derived.Test.YtofickldnpndbaaLemBlockMix
import Derived.Test.YtofickldnpndbaaLemBlockShift
import Derived.Test.YtofickldnpndbaaLemBlockSub
import Derived.Test.YtofickldnpndbaaLemDrawBlock
import Derived.Test.YtofickldnpndbaaLemRows
set_option linter.unusedVariables false
set_option linter.unusedSimpArgs false
namespace Go.Proofs.Ytofickldnpndbaa.Pure
open Go.RowKit Go.Proofs.Ytofickldnpndbaa.All Go.Proofs.YtofickldnpndbaaW.PrintWords Go.Proofs.YtofickldnpndbaaW.PrintLast Go.Proofs.YtofickldnpndbaaW.PrintMore
theorem rows_l1 (m : List (BitVec 8)) (hm : m.length = 16) (c : Int) (s1 s2 : List Int) (a1 a2 : Int) (hS : ∀ k, 100 < k → spec_ShiftRows.f k (bL m) = some (0, s1)) (hM : ∀ k, 100 < k → spec_MixColumns.f k (bL m) = some (0, s2)) : ∀ (d K i : Nat), i + d = 16 → 200 < K → laws_FnRows.l1 (K + (d + 1)) (bL m) (i : Int) c (bL (subL m)) a1 s1 a2 s2 = some true
  | 0, K, i, hi, hK => by
    show laws_FnRows.l1 (K + 1) _ _ _ _ _ _ _ _ = _
    simp only [laws_FnRows.l1]
    rw [if_neg (by omega), hS K (by omega)]
    simp only [Option.bind_some, lwSame_self, if_true]
    rw [hM K (by omega)]
    simp only [Option.bind_some, lwSame_self]
  | d + 1, K, i, hi, hK => by
    have ih := rows_l1 m hm c s1 s2 a1 a2 hS hM d K (i + 1) (by omega) hK
    show laws_FnRows.l1 ((K + (d + 1)) + 1) _ _ _ _ _ _ _ _ = _
    generalize hM9 : K + (d + 1) = M at ih
    have hw : wrap64 ((i : Int) + 1) = ((i + 1 : Nat) : Int) := by unfold wrap64; omega
    have r1 : rd (bL m) (i : Int) = bI (by_ m i) := by rw [rd_bL, Int.toNat_natCast]; rfl
    have r2 : rd (bL (subL m)) (i : Int) = bI (SB (by_ m i)) := by
      rw [rd_bL, Int.toNat_natCast]
      show bI (by_ (subL m) i) = _
      unfold subL
      rw [tab_get _ _ _ (by omega)]
    simp only [laws_FnRows.l1]
    rw [if_pos (by omega), if_pos (by omega), if_pos (by rw [bL_length, subL_length]; omega), if_pos (by rw [bL_length]; omega), r1, spec_SubByte_at, r2, hw]
    simp only [Option.bind_some, if_true]
    exact ih
theorem FnRows : laws_FnRows.Pure := by
  intro l0 _ _ hw
  obtain ⟨n, rfl⟩ := bL_of l0 hw
  obtain ⟨K, hK⟩ : ∃ K, K > 4000 := ⟨_, Nat.lt_succ_self _⟩
  refine ⟨K + 24, ?_⟩
  unfold laws_FnRows.f laws_lwBig.f
  by_cases h : ((bL n).length : Int) > 1048576
  · simp [h]
  have hb := bL_wf n
  have hl : (bL n).length ≤ 1099511627776 := by omega
  obtain ⟨m, hm17, hd⟩ := l2Block_at (bL n) hb hl (K + 24) (by omega)
  have hD : spec_DrawShiftRows.f (K + 24) (bL n) = some (bL m) := by
    unfold spec_DrawShiftRows.f
    rw [hd]
    rfl
  simp only [Option.bind_some]
  rw [if_neg (by simpa using h), hD]
  simp only [Option.bind_some]
  have is : ∀ x : List (BitVec 8), impl_SubBytes.f (bL x) = if x.length = 16 then some (0, bL (subL x)) else some (2, []) := fun x => by unfold impl_SubBytes.f; rw [if_pos (bL_isBs _), bL_length, unB_bL]
  have ih : ∀ x : List (BitVec 8), impl_ShiftRows.f (bL x) = if x.length = 16 then some (0, bL (shiftL x)) else some (2, []) := fun x => by unfold impl_ShiftRows.f; rw [if_pos (bL_isBs _), bL_length, unB_bL]
  have im : ∀ x : List (BitVec 8), impl_MixColumns.f (bL x) = if x.length = 16 then some (0, bL (mixL x)) else some (2, []) := fun x => by unfold impl_MixColumns.f; rw [if_pos (bL_isBs _), bL_length, unB_bL]
  by_cases h16 : m.length = 16
  · have ss : spec_SubBytes.f (K + 24) (bL m) = some (0, bL (subL m)) := by
      unfold spec_SubBytes.f
      rw [if_pos (by rw [bL_length]; omega), l2Sub_at _ m h16 (by omega)]
      rfl
    have hS : ∀ k, 100 < k → spec_ShiftRows.f k (bL m) = some (0, bL (shiftL m)) := fun k hk => by
      unfold spec_ShiftRows.f
      rw [if_pos (by rw [bL_length]; omega), l2Shift_at _ m h16 (by omega)]
      rfl
    have hM : ∀ k, 100 < k → spec_MixColumns.f k (bL m) = some (0, bL (mixL m)) := fun k hk => by
      unfold spec_MixColumns.f
      rw [if_pos (by rw [bL_length]; omega), l2Mix_at _ m h16 (by omega)]
      rfl
    rw [is, if_pos h16]
    simp only [Option.bind_some]
    rw [ih, if_pos h16]
    simp only [Option.bind_some]
    rw [im, if_pos h16]
    simp only [Option.bind_some]
    rw [ss]
    simp only [Option.bind_some, if_true, bne_self_eq_false]
    have e4 : ∀ a b c : List Int, laws_FnRows.l0 (K + 18) (bL m) (bL (shiftL (shiftL (shiftL (shiftL m))))) (bL (mixL (mixL (mixL (mixL m))))) 4 0 (bL (subL m)) 0 (bL (shiftL m)) 0 (bL (mixL m)) = some true := fun _ _ _ => by
      show laws_FnRows.l0 ((K + 17) + 1) _ _ _ _ _ _ _ _ _ _ = _
      simp only [laws_FnRows.l0]
      rw [if_neg (by omega), if_pos (by rw [bL_length, subL_length]; rfl), shift4 m h16, mix4 m h16, lwSame_self]
      simp only [Option.bind_some, if_true, Bool.not_true]
      show laws_FnRows.j2 ((K + 16) + 1) _ _ _ _ _ _ _ _ = _
      simp only [laws_FnRows.j2]
      rw [if_neg (by decide)]
      exact rows_l1 m h16 0 (bL (shiftL m)) (bL (mixL m)) 0 0 hS hM 16 (K - 1) 0 (by omega) (by omega) |> fun q => by rwa [show K - 1 + (16 + 1) = K + 16 by omega] at q
    show laws_FnRows.j0 ((K + 23) + 1) _ _ _ _ _ _ _ _ = _
    simp only [laws_FnRows.j0]
    rw [if_neg (by decide), if_pos trivial]
    have st : ∀ (k : Nat) (x y : List (BitVec 8)) (i j : Int), x.length = 16 → y.length = 16 → i < 4 → wrap64 (i + 1) = j → laws_FnRows.l0 (k + 1) (bL m) (bL x) (bL y) i 0 (bL (subL m)) 0 (bL (shiftL m)) 0 (bL (mixL m)) = laws_FnRows.l0 k (bL m) (bL (shiftL x)) (bL (mixL y)) j 0 (bL (subL m)) 0 (bL (shiftL m)) 0 (bL (mixL m)) := fun k x y i j hx hy hi hj => by
      simp only [laws_FnRows.l0]
      rw [if_pos hi, ih, if_pos hx]
      simp only [Option.bind_some]
      rw [im, if_pos hy]
      simp only [Option.bind_some]
      rw [hj]
    rw [show K + 23 = (K + 22) + 1 from rfl, st (K + 22) m m 0 1 h16 h16 (by decide) (by decide +kernel)]
    rw [show K + 22 = (K + 21) + 1 from rfl, st (K + 21) _ _ 1 2 (shiftL_length _) (mixL_length _) (by decide) (by decide +kernel)]
    rw [show K + 21 = (K + 20) + 1 from rfl, st (K + 20) _ _ 2 3 (shiftL_length _) (mixL_length _) (by decide) (by decide +kernel)]
    rw [show K + 20 = (K + 19) + 1 from rfl, st (K + 19) _ _ 3 4 (shiftL_length _) (mixL_length _) (by decide) (by decide +kernel)]
    have e5 := e4 [] [] []
    have up := (laws_FnRows.mono_l (K + 18)).2.1 (bL m) (bL (shiftL (shiftL (shiftL (shiftL m))))) (bL (mixL (mixL (mixL (mixL m))))) 4 0 (bL (subL m)) 0 (bL (shiftL m)) 0 (bL (mixL m))
    exact up _ e5
  · have ss : spec_SubBytes.f (K + 24) (bL m) = some (2, []) := by
      unfold spec_SubBytes.f
      rw [if_neg (by rw [bL_length]; omega)]
    rw [is, if_neg h16]
    simp only [Option.bind_some]
    rw [ih, if_neg h16]
    simp only [Option.bind_some]
    rw [im, if_neg h16]
    simp only [Option.bind_some]
    rw [ss]
    simp only [Option.bind_some, if_true, bne_self_eq_false]
    show laws_FnRows.j0 ((K + 23) + 1) _ _ _ _ _ _ _ _ = _
    simp only [laws_FnRows.j0]
    rw [if_neg (by decide), if_neg (by decide)]

end Go.Proofs.Ytofickldnpndbaa.Pure
