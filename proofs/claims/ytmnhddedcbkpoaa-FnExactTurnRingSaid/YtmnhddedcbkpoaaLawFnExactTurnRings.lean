-- Laid by wip/shake.py of this repo out of this claim's texts. Not trusted: Lean checks it.
import Derived.Test.YtmnhddedcbkpoaaRows
import Derived.Test.YtmnhddedcbkpoaaAllx569s
import Derived.Test.YtmnhddedcbkpoaaLemKeyss
import Derived.Test.YtmnhddedcbkpoaaPureFnExactTurnRings
import Derived.WalkKit
import Derived.ProofKit
import Derived.OpenShut
import Derived.ShutString
import Derived.ChangeOld
import Derived.Below
import Derived.SizedLaws
import Derived.Lib.SmallJoins
namespace Go.Proofs.Ytmnhddedcbkpoaa.fnExactTurnRing
open Go.Joins Go.ChangeShapes Go.WideShapes Go.ChangeAt Go.RowKit Go.Deep Go.Proofs.YtmnhddedcbkpoaaW.PrintWords
open Go.ChangeMaps (open_string shut_string)
set_option linter.unusedVariables false
theorem own : ownKnob Try.prog.godebug = none := by kernel_rfl
theorem laidOut : laidOutB Try.prog = true := by kernel_rfl
def IsRow (k : IntKind) (w : World) (a : Option Addr) (len cap : Nat) (zs : List Int) : Prop :=
 (a = none ∧ len = 0 ∧ cap = 0 ∧ zs = []) ∨
 ∃ x, a = some x ∧ len ≤ cap ∧ cap ≤ maxLen ∧ zs.length = cap ∧ (∀ i, i < zs.length → w.cell? (x.add i) = some (.int k (zs.getD i 0))) ∧ ∀ n ∈ zs, (Lit.int k n).wf = true
set_option maxRecDepth 100000 in
theorem lifted (os : Os) (started : os.Started) (H : Type) (enc : TypeId × Value → H) :
  ReturnsInHanded {} Try.checked os 4 .any (Rows.fnExactTurnRingSpec.pre6 enc Try.prog Try.f4 Rows.fnExactTurnRingRow.domain false) (Rows.fnExactTurnRingSpec.post enc Try.prog Try.f4 false true false false) := by
 refine returnsInHanded_of_change_sized (C := Try.checked) own started (by kernel_rfl) Try.func4
  (ChangeSpec.witness6 (enc := enc) (C := Try.checked) false ⟨#[], #[.agg #[.int .i64 0, .slice none 0 0], .int .i64 0, .agg #[.int .i64 0, .slice none 0 0]], []⟩ 8 (by kernel_rfl) (by kernel_rfl) (by kernel_rfl) (by kernel_rfl)) ?_
 intro W base args ds gs before hval0 hW hcnd hsz0 _
 have hval : ∀ (j : Nat) t v, Try.f4.params[j]? = some t → args[j]? = some v → Value.okWide Try.prog W .any base t v := hval0
 have hW' := hW
 obtain ⟨p, q, hA0, hV, rfl, hfz, hnd⟩ := hW
 have hA : DataW.TrodAll enc Try.prog W 0 (fun _ => true) true Try.f4.params.toList args.toList ds p := hA0
 rw [Try.params4] at hA hval
 obtain ⟨v0, vs0, d0, ds0, p0, q0, hargs, rfl, rfl, h0, r0⟩ := trodAll_cons hA
 obtain ⟨v1, vs1, d1, ds1, p1, q1, rfl, rfl, rfl, h1, r1⟩ := trodAll_cons r0
 obtain ⟨v2, vs2, d2, ds2, p2, q2, rfl, rfl, rfl, h2, r2⟩ := trodAll_cons r1
 obtain ⟨rfl, rfl, rfl⟩ := trodAll_nil r2
 obtain rfl : args = #[v0, v1, v2] := by cases args; simp_all
 obtain ⟨rfl, rfl⟩ := trodVars_none hV
 have k0 := h0
 have lt0 : ∀ x ∈ p0, x.block < W.heap.size := by obtain ⟨m, hm⟩ := k0; exact DataW.trod_lt m _ _ _ hm
 obtain ⟨v0_0, v0_1, y0_0, y0_1, n0, rfl, rfl, rfl, t0_0, t0_1⟩ := open_agg2 Try.underlying42 (by kernel_rfl) (by kernel_rfl) (hval 0 42 v0 rfl rfl) h0
 obtain ⟨a0_0, e0_0, _, w0_0⟩ := DataW.trod_int (k := .i64) Try.underlying2 t0_0
 obtain rfl : v0_0 = .int .i64 a0_0 := by simpa using e0_0
 obtain ⟨A0_1, c0_1, l0_1, e0_1, hr0_1, hc0_1, hm0_1, hw0_1⟩ := All.open_keys Try.underlying40 Try.underlying43 (by kernel_rfl) rfl rfl (by kernel_rfl) (by kernel_rfl) Try.underlying2 Try.underlying22 Try.underlying5 (by kernel_rfl) t0_1
 obtain rfl : v0_1 = .slice A0_1 l0_1.length c0_1 := by simpa using e0_1
 obtain ⟨a1, rfl, rfl, rfl, w1⟩ := open_int Try.underlying2 (hval 1 2 v1 rfl rfl) h1
 have k2 := h2
 have lt2 : ∀ x ∈ p2, x.block < W.heap.size := by obtain ⟨m, hm⟩ := k2; exact DataW.trod_lt m _ _ _ hm
 obtain ⟨v2_0, v2_1, y2_0, y2_1, n2, rfl, rfl, rfl, t2_0, t2_1⟩ := open_agg2 Try.underlying43 (by kernel_rfl) (by kernel_rfl) (hval 2 43 v2 rfl rfl) h2
 obtain ⟨a2_0, e2_0, _, w2_0⟩ := DataW.trod_int (k := .i64) Try.underlying2 t2_0
 obtain rfl : v2_0 = .int .i64 a2_0 := by simpa using e2_0
 obtain ⟨A2_1, len2_1, c2_1, z2_1, e2_1, w2_1⟩ : ∃ A len cap zs, v2_1 = .slice A len cap ∧ IsRow .u8 W A len cap zs := by
  rcases open_ints Try.underlying22 Try.underlying5 (by kernel_rfl) t2_1 with ⟨hcs, _⟩ | ⟨x, l, c, zs, hcs, _, hl, hm, hz, _, hcell, hwz⟩
  ·exact ⟨none, 0, 0, [], by simpa using hcs, .inl ⟨rfl, rfl, rfl, rfl⟩⟩
  ·exact ⟨some x, l, c, zs, by simpa using hcs, .inr ⟨_, rfl, hl, hm, by simpa using hz, hcell, hwz⟩⟩
 subst e2_1
 obtain ⟨l2_1, rfl, hr2_1, hm2_1, hw2_1, hc2_1⟩ := ReadsInt.ofRowC w2_1
 obtain ⟨k, hk⟩ := Pure.FnExactTurnRing a0_0 l0_1 a1 a2_0 l2_1 w0_0 hm0_1 hw0_1 w1 w2_0 hm2_1 hw2_1
 refine (All.laws_FnExactTurnRing.calls k a0_0 _ _ l0_1 a1 a2_0 _ _ l2_1 true W hr0_1 hc0_1 (Kd.C_of_reads (d := (0 : Int)) (h1 := fun _ => rfl) hr2_1) hc2_1 hk).mono fun e W' ⟨he, bel0⟩ => ?_
 have bel := bel0
 subst he
 exact ⟨_, rfl, _, _, _, [], _, [], hW', trodAll_mk1 (shut_bool Try.underlying4 _), (trodAll_cons_mk (Below.trod laidOut (by kernel_rfl) (of_decide_eq_true (by kernel_rfl)) k0 bel lt0) (trodAll_cons_mk (shut_int Try.underlying2 w1) (trodAll_cons_mk (Below.trod laidOut (by kernel_rfl) (of_decide_eq_true (by kernel_rfl)) k2 bel lt2) trodAll_mk0))), rfl, bel.frame _, fun h => by cases h⟩
set_option maxHeartbeats 8000000 in
set_option maxRecDepth 100000 in
theorem over_joined : joinedFacts Try.pinned.checked.prog 4 Try.f4 Rows.fnExactTurnRingSpec Rows.fnExactTurnRingRow = true := by
 unfold joinedFacts
 simp only [Bool.and_eq_true]
 repeat' apply And.intro
 all_goals decide +kernel
theorem over_named : Try.pinned.checked.prog.funcNamed Rows.fnExactTurnRingRow.func = some 4 := by kernel_rfl
theorem over_inst : Try.f4.isInstance Try.pinned.checked.prog Rows.fnExactTurnRingRow.origin Rows.fnExactTurnRingRow.targs := of_decide_eq_true (by kernel_rfl)
theorem over_wrap : Try.f4.isWrapper Try.pinned.checked.prog Rows.fnExactTurnRingRow.wrapper Rows.fnExactTurnRingRow.mainSum := by unfold Func.isWrapper; first | (rw [if_pos (by decide +kernel)]; kernel_rfl) | (rw [if_neg (by decide +kernel)]; exact ⟨rfl, rfl⟩)
theorem over : Rows.fnExactTurnRingRow.holds Try.pinned (OpenSpec.ofChange Rows.fnExactTurnRingSpec) :=
 OpenClaim.holds_of_wide 4 Try.f4 rfl rfl rfl rfl rfl rfl rfl ⟨rfl, rfl, rfl, rfl, rfl⟩ rfl rfl rfl rfl rfl over_named Try.func4 over_joined over_inst over_wrap
  (fun os started H enc _ => lifted os started H enc)
theorem proved : Rows.FnExactTurnRingSaid := over
#print axioms proved
end Go.Proofs.Ytmnhddedcbkpoaa.fnExactTurnRing
namespace Go.Proofs.Ytmnhddedcbkpoaa
theorem fnExactTurnRing_holds : Rows.FnExactTurnRingSaid := fnExactTurnRing.proved
end Go.Proofs.Ytmnhddedcbkpoaa
