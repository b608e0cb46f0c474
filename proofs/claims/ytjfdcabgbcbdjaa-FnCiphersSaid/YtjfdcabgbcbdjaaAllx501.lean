-- Laid by wip/myprint.py of this repo over the kit's print (the functions' texts by the kit's program, some by hand). Not trusted: Lean checks it.
import Derived.Test.YtjfdcabgbcbdjaaAllx0
namespace Go.Proofs.Ytjfdcabgbcbdjaa.All
open Go.RowKit Go.Proofs.YtjfdcabgbcbdjaaW.PrintWords Go.Proofs.YtjfdcabgbcbdjaaW.PrintLast Go.Proofs.YtjfdcabgbcbdjaaW.PrintMore
attribute [local go_sem] max2_int min2_int max_two min_two max_three min_three max_four min_four
set_option linter.unusedVariables false
set_option linter.unusedSimpArgs false


def spec_SubByte.f (a0 : Int) : Option (Int) := if 0 ≤ a0 ∧ a0 < 256 then some (bI (SB (BitVec.ofNat 8 a0.toNat))) else none
set_option maxHeartbeats 4000000 in
set_option maxRecDepth 100000 in
theorem spec_SubByte.calls (a0 : Int) (r : Int) (w : World) (h : spec_SubByte.f a0 = some r) :
    Calls Try.prog 18 #[.int .u8 a0] w fun e w' => e = .returned (.int .u8 r) ∧ Drawn0 w w' := by
  unfold spec_SubByte.f at h
  by_cases h1 : 0 ≤ a0 ∧ a0 < 256
  · rw [if_pos h1, Option.some.injEq] at h
    subst h
    obtain ⟨b, rfl⟩ : ∃ b, a0 = bI b := ⟨BitVec.ofNat 8 a0.toNat, by rw [bI_ofNat _ (by omega)]; omega⟩
    rw [show BitVec.ofNat 8 (bI b).toNat = b by unfold bI; simp]
    clear h1
    go_enter Try.func18, Try.ntmps18
    go_wp2_with (first
        | ((with_reducible refine gate_dst (N := 4) rfl ?_); refine wp_index_box ?hg 9 ?s_341 (.tmp 3) ?ho Try.underlying9 ?hs b ?hi ?_; (case hg => rfl); (case ho => rfl); (case hs => kernel_rfl); (case hi => rfl)))
    go_ret
    exact ⟨rfl, Drawn0.refl _⟩
  · rw [if_neg h1] at h
    cases h
theorem spec_SubByte_at (b : BitVec 8) : spec_SubByte.f (bI b) = some (bI (SB b)) := by
  unfold spec_SubByte.f
  rw [if_pos ⟨bI_lo b, bI_hi b⟩, show BitVec.ofNat 8 (bI b).toNat = b by unfold bI; simp]

end Go.Proofs.Ytjfdcabgbcbdjaa.All
