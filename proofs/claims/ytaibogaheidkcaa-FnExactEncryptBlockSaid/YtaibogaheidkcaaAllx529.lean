-- Laid by wip/myprint.py of this repo over the kit's print (the functions' texts by the kit's program, some by hand). Not trusted: Lean checks it.
import Derived.Test.YtaibogaheidkcaaAllx0
import Derived.Test.YtaibogaheidkcaaAllx528
namespace Go.Proofs.Ytaibogaheidkcaa.All
open Go.RowKit Go.Proofs.YtaibogaheidkcaaW.PrintWords Go.Proofs.YtaibogaheidkcaaW.PrintLast Go.Proofs.YtaibogaheidkcaaW.PrintMore
attribute [local go_sem] max2_int min2_int max_two min_two max_three min_three max_four min_four
set_option linter.unusedVariables false
set_option linter.unusedSimpArgs false


theorem fill_fold : ∀ (l pre old : List Value), old.length = l.length → (l.zipIdx pre.length).foldl (fun (cs : Array Value) (x : Value × Nat) => cs.setIfInBounds (0 + x.2) x.1) (pre ++ old).toArray = (pre ++ l).toArray
  | [], pre, old, h => by rw [List.eq_nil_of_length_eq_zero h]; rfl
  | x :: l, pre, [], h => by cases h
  | x :: l, pre, y :: old, h => by
    have ih := fill_fold l (pre ++ [x]) old (by simpa using h)
    rw [List.length_append, List.length_singleton] at ih
    rw [List.zipIdx_cons, List.foldl_cons]
    have e : (pre ++ y :: old).toArray.setIfInBounds (0 + pre.length) x = (pre ++ [x] ++ old).toArray := by
      apply Array.ext'
      rw [Nat.zero_add]
      simp
    rw [e, ih]
    simp
theorem built_cipher (ks : List (BitVec 8)) (hk : ks.length = 176) : Try.prog.built 102 [(0, .agg (cB ks))] = some (cB ks) := by
  have h1 : (Try.prog.info? 102).map (fun i => i.zero.map (·.cells.size)) = some (some 176) := by kernel_rfl
  have h2 : (Try.prog.info? 70).map (·.size) = some 176 := by kernel_rfl
  have h3 := Try.underlying102
  unfold Program.built
  cases hq : Try.prog.info? 102 with
  | none => rw [hq] at h1; cases h1
  | some it =>
    rw [hq] at h1
    cases hz : it.zero with
    | none => simp [hz] at h1
    | some z =>
      have hzs : z.cells.size = 176 := by simpa [hz] using h1
      cases hr : Try.prog.info? 70 with
      | none => rw [hr] at h2; cases h2
      | some ie =>
        have hie : ie.size = 176 := by simpa [hr] using h2
        rw [h3]
        simp only [hz, hr, Option.map_some, List.mapM_cons, List.mapM_nil, hie, Option.pure_def, Option.bind_eq_bind, Option.bind_some]
        unfold Instr.fill
        have hc : (Value.agg (cB ks)).cells = cB ks := rfl
        simp only [hc]
        rw [show ([(0, 176)] : List (Nat × Nat)).toArray[0]? = some (0, 176) from rfl]
        simp only [cB_size, hk, hzs]
        rw [if_neg (show ¬ ((decide ((176 : Nat) ≠ 176) || decide ((0 : Nat) + 176 > 176)) = true) by decide)]
        unfold Instr.fill
        have hf := fill_fold (cB ks).toList [] z.cells.toList (by simp [cB_size, hk, hzs])
        refine congrArg some ?_
        generalize hK : cB ks = K at hf ⊢
        rw [← Array.foldl_toList, Array.toList_zipIdx]
        simpa using hf
section
variable {P : Program} {ops : Array Oper} {rest : List Oper} {o : Oper} {a : Act} {W : World} {Q : Exit → Act → World → Prop}
theorem build_event (hg : o.guard = none) (t : TypeId) (parts : Array (Nat × Operand)) (ho : o.op = .build t parts) {cells : Array Value} (hf : P.built t (parts.map fun (i, x) => (i, a.eval x)).toList = some cells)
    (h : wpList P ops Q rest (a.put o.dst (.agg cells)) W) : wpList P ops Q (o :: rest) a W := wpList_build hg t parts ho (by rw [hf]; rfl) (by rw [hf]; exact h)
end
set_option maxHeartbeats 4000000 in
set_option maxRecDepth 100000 in
theorem impl_newCipher.calls (A : Option Addr) (c : Nat) (m : List (BitVec 8)) (hm0 : m.length = 16) (w : World) (hr0 : Kd.C (Kd.int .u8) w A m.length (bL m)) :
    Calls Try.prog 94 #[.slice A m.length c] w fun e w' => ∃ g : Nat, e = .returned (.pointer (some ⟨g, 0, none⟩)) ∧ w.heap.size ≤ g ∧ w'.heap[g]? = some (.cells (cB (schedL m)) 102 (0, 0)) ∧ Below w.heap.size w w' := by
  have hm := Aside0.mk hm0
  have HR := Aside0.mk hr0
  clear hm0 hr0
  have HB := Aside0.mk (Below.refl w.heap.size w)
  have hbt := Aside0.mk (built_cipher (schedL m) (schedL_length m hm.out))
  go_enter Try.func94, Try.ntmps94
  go_wp2_with (first
    | (go_at_call 87; refine (impl_schedule.calls A c m hm.out _ (by first | exact Kd.C_below HR.out (by repeat (first | (with_reducible first | exact HB.out | apply below_alloc | apply pw_below_drewN | apply below_drew1) | exact HB.out)) | exact (Kd.C_below HR.out HB.out))).mono ?_; rintro e wk ⟨rfl, hb⟩; have n0_ := Aside0.mk (below_step (by repeat (first | (with_reducible first | exact HB.out | apply below_alloc | apply pw_below_drewN | apply below_drew1) | exact HB.out)) hb); clear HB; have HB := n0_; clear n0_; clear hb)
    | ((with_reducible refine gate_dst (N := 5) rfl ?_); refine build_event ?hg 102 #[(0, .tmp 4)] ?ho (cells := (cB (schedL m))) ?hf ?_; (case hg => rfl); (case ho => rfl); (case hf => (simp only [List.map_toArray, List.map_cons, List.map_nil]; exact hbt.out)))
    | ((with_reducible refine gate_dst (N := 6) rfl ?_); refine box_event ?hg (N := 6) ?hd (cs := (cB (schedL m))) (t := 102) ?hr ?_; (case hd => rfl); (case hg => rfl); (case hr => first | (go_simp; done) | (go_simp; rfl)); intro g6 hg w6 hbox hb; have n0_ := Aside0.mk (below_step (by repeat (first | (with_reducible first | exact HB.out | apply below_alloc | apply pw_below_drewN | apply below_drew1) | exact HB.out)) hb); have n1_ := Aside0.mk hbox; have n2_ := Aside0.mk (by rw [hg]; exact below_size (by repeat (first | (with_reducible first | exact HB.out | apply below_alloc | apply pw_below_drewN | apply below_drew1) | exact HB.out)) : w.heap.size ≤ g6); clear HB; have HB := n0_; have BK6 := n1_; have GE6 := n2_; clear n0_ n1_ n2_; clear hb hbox hg))
  go_ret
  exact ⟨_, rfl, GE6.out, BK6.out, HB.out⟩

end Go.Proofs.Ytaibogaheidkcaa.All
