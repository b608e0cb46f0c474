/- The law FnFields in numbers and lists: whatever comes in, it answers true.-/
import Derived.Test.YtndahpbmjjodpaaAllx2
import Derived.Test.YtndahpbmjjodpaaAllx3
import Derived.Test.YtndahpbmjjodpaaAllx502
import Derived.Test.YtndahpbmjjodpaaAllx69
import Derived.Test.YtndahpbmjjodpaaLemField
import Derived.Test.YtndahpbmjjodpaaLemFieldInv
import Derived.Test.YtndahpbmjjodpaaLemFieldSpec
import Derived.Test.YtndahpbmjjodpaaLemFields
import Derived.Test.YtndahpbmjjodpaaLemFieldsDraw
set_option linter.unusedVariables false
set_option linter.unusedSimpArgs false
namespace Go.Proofs.Ytndahpbmjjodpaa.Pure
open Go.RowKit Go.Proofs.Ytndahpbmjjodpaa.All Go.Proofs.YtndahpbmjjodpaaW.PrintWords Go.Proofs.YtndahpbmjjodpaaW.PrintLast Go.Proofs.YtndahpbmjjodpaaW.PrintMore
theorem FnFields : laws_FnFields.Pure := by
  intro l0 _ _ hw
  obtain ⟨m, rfl⟩ := bL_of l0 hw
  obtain ⟨K, hK⟩ : ∃ K, K > 400 := ⟨_, Nat.lt_succ_self _⟩
  refine ⟨K + 8, ?_⟩
  unfold laws_FnFields.f laws_lwBig.f
  by_cases h : ((bL m).length : Int) > 1048576
  · simp [h]
  have hb := bL_wf m
  have hl : (bL m).length ≤ 1099511627776 := by omega
  obtain ⟨a, b, hab⟩ := drawFT (bL m) hb hl
  obtain ⟨c, hc⟩ := drawFI (bL m) hb hl
  obtain ⟨d, hd⟩ := drawSB (bL m) hb hl
  have i8 : ∀ x y, impl_FieldTimes.f (K + 8) (bI x) (bI y) = some (bI (ft x y)) := impl_ft (K + 8) (by omega)
  have i7 : ∀ x y, impl_FieldTimes.f (K + 7) (bI x) (bI y) = some (bI (ft x y)) := impl_ft (K + 7) (by omega)
  have i1 : ∀ x, impl_FieldTimes.f (K + 8) (bI x) 1 = some (bI x) := fun x => by rw [show (1 : Int) = bI 1#8 from rfl, i8, ft_one]
  have i0 : ∀ x y, impl_FieldTimes.f K (bI x) (bI y) = some (bI (ft x y)) := impl_ft K (by omega)
  have s8 : ∀ x y, spec_FieldTimes.f (K + 8) (bI x) (bI y) = some (bI (ft x y)) := spec_ft (K + 8) (by omega)
  have j0 : laws_FnFields.j0 (K + 8) (bI a) (bI b) (bI c) (bI d) (bI (finv c)) false = some true := by
    have j1 : laws_FnFields.j1 (K + 7) (bI a) (bI b) (bI c) (bI d) false = some true := by
      simp only [laws_FnFields.j1, spec_inv (K + 6) (by omega), Option.bind_some]
      rw [if_neg (by decide), show K + 6 = K + 1 + 5 from rfl, box_loop]
      simp only [laws_FnFields.l0]
      rw [if_neg (by decide), impl_SubByte_at]
      simp only [Option.bind_some]
      rw [if_pos (by rw [box_inv]), i0]
      simp only [Option.bind_some, i0, ft_assoc]
      simp
    simp only [laws_FnFields.j0]
    rw [if_neg (by decide)]
    by_cases h0 : c = 0#8
    · subst h0
      rw [if_pos (show bI 0#8 = 0 from rfl), finv_zero]
      exact j1
    · rw [if_neg (show ¬ (bI c = 0) from fun q => h0 (bI_inj q)), i7, finv_one c h0]
      simp only [Option.bind_some]
      rw [if_pos (show bI 1#8 = 1 from rfl)]
      exact j1
  simp only [Option.bind_some]
  rw [if_neg (by simpa using h)]
  simp only [hab, hc, hd, Option.bind_some, impl_inv (K + 8) (by omega), spec_inv (K + 8) (by omega), i8, s8, i1, bI_xor, if_true, ft_comm b a, ft_add, bne_self_eq_false, j0]

end Go.Proofs.Ytndahpbmjjodpaa.Pure
