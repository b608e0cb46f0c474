import Derived.Test.YtofickldnpndbaaAllx0
import Derived.Test.YtofickldnpndbaaAllx20
import Derived.Test.YtofickldnpndbaaAllx111
import Derived.Test.YtofickldnpndbaaAllx51
set_option linter.unusedVariables false
set_option linter.unusedSimpArgs false
namespace Go.Proofs.Ytofickldnpndbaa.All
open Go.RowKit Go.Proofs.Ytofickldnpndbaa.All Go.Proofs.YtofickldnpndbaaW.PrintWords Go.Proofs.YtofickldnpndbaaW.PrintLast Go.Proofs.YtofickldnpndbaaW.PrintMore
/-! ### a head's fault, as both find it -/
theorem fault_at (K : Nat) (a b c : Int) : ∃ t, (impl_LetterFault.f (K + 1) a b c [] = some (if t = true then 0 else 3)) ∧ spec_l5Head.f a b c [] = some (t, a, b, c) := by
  have hj : ∀ z, impl_LetterFault.j0 (K + 1) z a b c [] = some (if z = true then 3 else 0) := by
    intro z
    simp only [impl_LetterFault.j0]
    cases z <;> simp
  unfold impl_LetterFault.f spec_l5Head.f impl_isKeyId.f
  have hin : ∀ x y z, spec_l1In.f x y z = impl_in.f x y z := fun _ _ _ => rfl
  have ht : ∀ x y z, ∃ t, impl_in.f x y z = some t := by
    intro x y z
    unfold impl_in.f
    split <;> exact ⟨_, rfl⟩
  obtain ⟨t0, h0⟩ := ht a 1 255
  obtain ⟨t1, h1⟩ := ht b 0 15
  obtain ⟨t2, h2⟩ := ht c 0 1000000000
  simp only [hin, h0, h1, h2, Option.bind_some, hj]
  cases t0 <;> cases t1 <;> cases t2 <;> simp

end Go.Proofs.Ytofickldnpndbaa.All
