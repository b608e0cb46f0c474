-- Laid by wip/shake.py of this repo out of this claim's texts. Not trusted: Lean checks it.
import Derived.Test.YtkjgdndaepobiaaProg
import Derived.Below
import Derived.Deep.Draws
import Derived.Deep.AppendLies
import Derived.OwnWalk
import Derived.Laws.MakeOwn
import Derived.Laws.OwnMore
import Derived.Deep.OwnRows
import Derived.Tactics
import Derived.Laws.Slices
import Derived.WalkKit
import Derived.KernelRfl
import Derived.RowKit3
import Derived.WideLaws
import Derived.Laws.Rows
import Derived.Laws.CopyRow
import Derived.Laws.BitsLemmas
import Derived.StillTailTactics
import Derived.Deep.QuietTactic
import Derived.BigQuiet
import Derived.Deep.RegionHeld3
import Derived.Deep.RegionWith
import Derived.RowKit
import Derived.Test.YtkjgdndaepobiaaWs0
import Derived.Test.YtkjgdndaepobiaaAlgs
set_option linter.unusedVariables false
namespace Go.Proofs.Ytkjgdndaepobiaa
open Go.RowKit Go.Proofs.YtkjgdndaepobiaaW.PrintWords
def cB (m : List (BitVec 8)) : Array Value := (m.map fun b => Value.int .u8 (bI b)).toArray
theorem cB_size (m : List (BitVec 8)) : (cB m).size = m.length := by simp [cB]
theorem cB_get (m : List (BitVec 8)) (i : Nat) (h : i < m.length) : (cB m)[i]? = some (.int .u8 (bI (by_ m i))) := by
 simp [cB, by_, List.getD_eq_getElem?_getD, List.getElem?_eq_getElem h]
theorem cB_set (m : List (BitVec 8)) (i : Nat) (b : BitVec 8) : (cB m).setIfInBounds i (.int .u8 (bI b)) = cB (m.set i b) := by
 apply Array.ext'
 simp [cB, List.map_set]
theorem cB_one (m : List (BitVec 8)) : (cB m).all (·.oneCell') = true := by
 rw [Array.all_eq_true_iff_forall_mem]
 intro x hx
 simp only [cB, List.mem_toArray, List.mem_map] at hx
 obtain ⟨b, _, rfl⟩ := hx
 rfl
theorem cB_toList (m : List (BitVec 8)) : (cB m).toList = m.map fun b => Value.int .u8 (bI b) := by simp [cB]
def boxA : ByteArray := ⟨#[99, 124, 119, 123, 242, 107, 111, 197, 48, 1, 103, 43, 254, 215, 171, 118, 202, 130, 201, 125, 250, 89, 71, 240, 173, 212, 162, 175, 156, 164, 114, 192, 183, 253, 147, 38, 54, 63, 247, 204, 52, 165, 229, 241, 113, 216, 49, 21, 4, 199, 35, 195, 24, 150, 5, 154, 7, 18, 128, 226, 235, 39, 178, 117, 9, 131, 44, 26, 27, 110, 90, 160, 82, 59, 214, 179, 41, 227, 47, 132, 83, 209, 0, 237, 32, 252, 177, 91, 106, 203, 190, 57, 74, 76, 88, 207, 208, 239, 170, 251, 67, 77, 51, 133, 69, 249, 2, 127, 80, 60, 159, 168, 81, 163, 64, 143, 146, 157, 56, 245, 188, 182, 218, 33, 16, 255, 243, 210, 205, 12, 19, 236, 95, 151, 68, 23, 196, 167, 126, 61, 100, 93, 25, 115, 96, 129, 79, 220, 34, 42, 144, 136, 70, 238, 184, 20, 222, 94, 11, 219, 224, 50, 58, 10, 73, 6, 36, 92, 194, 211, 172, 98, 145, 149, 228, 121, 231, 200, 55, 109, 141, 213, 78, 169, 108, 86, 244, 234, 101, 122, 174, 8, 186, 120, 37, 46, 28, 166, 180, 198, 232, 221, 116, 31, 75, 189, 139, 138, 112, 62, 181, 102, 72, 3, 246, 14, 97, 53, 87, 185, 134, 193, 29, 158, 225, 248, 152, 17, 105, 217, 142, 148, 155, 30, 135, 233, 206, 85, 40, 223, 140, 161, 137, 13, 191, 230, 66, 104, 65, 153, 45, 15, 176, 84, 187, 22]⟩
theorem box_at (b : BitVec 8) : (boxA[b.toNat]?).map (fun x => (x.toNat : Int)) = some (bI (SB b)) := by
 have h := of_all8 (p := fun b => decide ((boxA[b.toNat]?).map (fun x => (x.toNat : Int)) = some (bI (SB b)))) (by decide +kernel) b
 simpa using h
section
variable {P : Program} {ops : Array Oper} {rest : List Oper} {o : Oper} {a : Act} {Q : Exit → Act → World → Prop} {W : World}
theorem run_index_box (T : TypeId) (hT : P.underlying T = some .string) (s : ByteArray) (hs : s = boxA) (b : BitVec 8) :
  (Instr.index T (.string s) (.int .u8 (bI b))).run P W = .ok (.int .u8 (bI (SB b))) W := by
 subst hs
 have h := box_at b
 have h0 := bI_lo b
 have e : (bI b).toNat = b.toNat := by unfold bI; omega
 cases hx : boxA[b.toNat]? with
 | none => rw [hx] at h; cases h
 | some x =>
  rw [hx] at h
  simp only [Option.map_some, Option.some.injEq] at h
  simp [Instr.index, asIntOf, run_underlying hT, h0, e, hx, h]
theorem wp_index_box (hgd : o.guard = none) (T : TypeId) (s : ByteArray) (i : Operand) (ho : o.op = .index T (.const (.string s)) i) (hT : P.underlying T = some .string) (hs : s = boxA) (b : BitVec 8)
  (hi : a.eval i = .int .u8 (bI b)) (h : wpList P ops Q rest (a.put o.dst (.int .u8 (bI (SB b)))) W) : wpList P ops Q (o :: rest) a W := by
 refine Kd.event_run hgd ?_ h
 unfold execOp
 simp only [ho, hi]
 rw [show a.eval (.const (.string s)) = .string s from rfl, Sem.run_bind, run_index_box T hT s hs b]
 rfl
theorem run_index_arr (T e : TypeId) (n : Nat) (hT : P.underlying T = some (.array n e)) (he : (P.info? e).map (·.size) = some 1) (hk : P.underlying e = some (.int .u8)) (m : List (BitVec 8)) (hm : m.length = n) (i : Nat) (h : i < n) :
  ∀ W, (Instr.index T (.agg (cB m)) (.int .i64 (i : Int))).run P W = .ok (.int .u8 (bI (by_ m i))) W := by
 intro W
 cases hq : P.info? e with
 | none => simp [hq] at he
 | some inf =>
  have hs : inf.size = 1 := by simpa [hq] using he
  have h1 : ¬ n ≤ i := by omega
  have hc := cB_get m i (by omega)
  simp [Instr.index, asIntOf, run_underlying hT, h1, sizeOf, typeInfo, hq, hs, part, isAgg, run_underlying hk, hc]
theorem grown_set (W : World) (g i : Nat) (v : Value) : W.grownBy (W.setCell ⟨g, i, none⟩ v) (some g) :=
 ⟨rfl, rfl, rfl, by simp [World.setCell], fun k hk hne => Below.heap_setCell W ⟨g, i, none⟩ v k (fun e => hne (by rw [e]))⟩
theorem grown_setRow (W : World) (g : Nat) (cs : Array Value) : W.grownBy (W.setRow g cs) (some g) :=
 ⟨rfl, rfl, rfl, by simp, fun k hk hne => setRow_other W g k cs (fun e => hne (by rw [e]))⟩
theorem cell_event (hgd : o.guard = none) {t : TypeId} {p : Tmp} {v : Operand} (_ho : o.op = .store t (.tmp p) v) (hN : o.dst = none) {g : Nat} {cs : Array Value} {e : TypeId} {i : Nat} {x : Value}
  (hg : W.heap[g]? = some (.cells cs e (0, 0))) (hrun : (execOp a.eval o).run P W = .ok .skip (W.setCell ⟨g, i, none⟩ x)) {cs' : Array Value} (hcs : cs.setIfInBounds i x = cs')
  (h : ∀ w1, w1.heap[g]? = some (.cells cs' e (0, 0)) → W.grownBy w1 (some g) → wpList P ops Q rest a w1) : wpList P ops Q (o :: rest) a W :=
 store_event hgd _ho hN hrun fun w' hw => by
  subst hw
  exact h _ (blk_put hg i x hcs) (grown_set W g i x)
theorem row_event (hgd : o.guard = none) {ty : TypeId} {p : Tmp} {y : Operand} (ho : o.op = .store ty (.tmp p) y) (hN : o.dst = none) {g : Nat} {old cells : Array Value} {e : TypeId}
  (hx : a.eval (.tmp p) = .pointer (some ⟨g, 0, none⟩)) (hy : a.eval y = .agg cells) (hg : W.heap[g]? = some (.cells old e (0, 0))) (hi : (P.info? ty).map (·.size) = some cells.size)
  (hold : old.size = cells.size) (h1 : cells.all (·.oneCell') = true)
  (h : ∀ w1, w1.heap[g]? = some (.cells cells e (0, 0)) → W.grownBy w1 (some g) → wpList P ops Q rest a w1) : wpList P ops Q (o :: rest) a W := by
 refine wpList_store_row hgd ty (.tmp p) y ho g cells hx hy e old hg hi hold h1 ?_
 rw [hN]
 exact h _ (setRow_heap W g old cells e (0, 0) hg) (grown_setRow W g cells)
theorem below_grown1 {w : World} {g : Nat} {w1 : World} (h : Below w.heap.size w W) (hg : W.grownBy w1 (some g)) (hge : w.heap.size ≤ g) : Below w.heap.size w w1 :=
 h.grown hg h.size (fun k hk => by injection hk with hk; omega)
theorem blk_grown1 {g g' : Nat} {ob : Obj} {w1 : World} (h : W.heap[g']? = some ob) (hg : W.grownBy w1 (some g)) (hne : g' ≠ g) : w1.heap[g']? = some ob :=
 blk_grown h hg (fun e => hne (by injection e))
def cpL (old new : List (BitVec 8)) : List (BitVec 8) := tab old.length fun i => if i < new.length then by_ new i else by_ old i
theorem cpL_nil (old : List (BitVec 8)) : cpL old [] = old := by
 unfold cpL
 simp only [List.length_nil, Nat.not_lt_zero, if_false]
 exact tab_self old
theorem copy_cells (old new : List (BitVec 8)) : ((cB old).toList.take 0 ++ (new.take (Nat.min new.length old.length)).map (fun b => Value.int .u8 (bI b)) ++ (cB old).toList.drop (0 + ((new.take (Nat.min new.length old.length)).map (fun b => Value.int .u8 (bI b))).length)).toArray = cB (cpL old new) := by
 apply Array.ext'
 rw [cB_toList, cB_toList]
 show _ = (cpL old new).map fun b => Value.int .u8 (bI b)
 have h : cpL old new = new.take (Nat.min new.length old.length) ++ old.drop (Nat.min new.length old.length) := by
  symm
  have hm1 : Nat.min new.length old.length ≤ new.length := Nat.min_le_left _ _
  have hm2 : Nat.min new.length old.length ≤ old.length := Nat.min_le_right _ _
  have hm3 : Nat.min new.length old.length = new.length ∨ Nat.min new.length old.length = old.length := by
   rcases Nat.le_total new.length old.length with h | h
   ·exact .inl (Nat.min_eq_left h)
   ·exact .inr (Nat.min_eq_right h)
  generalize Nat.min new.length old.length = k at *
  refine tab_eq (by simp; omega) fun i hi => ?_
  unfold by_
  rw [List.getD_eq_getElem?_getD, List.getElem?_append]
  simp only [List.length_take]
  by_cases h1 : i < k
  ·rw [if_pos (by omega), if_pos (by omega), List.getElem?_take, if_pos h1, List.getD_eq_getElem?_getD]
  ·rw [if_neg (by omega), List.getElem?_drop, if_neg (by omega), List.getD_eq_getElem?_getD, show k + (i - min k new.length) = i by omega]
 rw [h, List.map_append, List.map_drop]
 simp only [List.take_zero, List.nil_append, Nat.zero_add, List.length_map, List.length_take]
 congr 2
 have hm1 : Nat.min new.length old.length ≤ new.length := Nat.min_le_left _ _
 generalize Nat.min new.length old.length = k at *
 omega
theorem copy_event (hgd : o.guard = none) (x y : Operand) (t e : TypeId) (ho : o.op = .call { callee := .builtin .copy, args := #[x, y], argTypes := #[t, t] }) (ht : P.underlying t = some (.slice e)) (hs : (P.info? e).map (·.size) = some 1)
  {g cap c : Nat} {old new : List (BitVec 8)} {A : Option Addr} {bt : TypeId} (hx : a.eval x = .slice (some ⟨g, 0, none⟩) old.length cap) (hy : a.eval y = .slice A new.length c)
  (hg : W.heap[g]? = some (.cells (cB old) bt (0, 0))) (hr : Kd.C (Kd.int .u8) W A new.length (bL new))
  (h : ∀ w1 v, w1.heap[g]? = some (.cells (cB (cpL old new)) bt (0, 0)) → W.grownBy w1 (some g) → wpList P ops Q rest (a.put o.dst v) w1) : wpList P ops Q (o :: rest) a W := by
 rcases A with _ | ad
 ·have hn : new = [] := by
   rcases Nat.eq_zero_or_pos new.length with h0 | h0
   ·exact List.eq_nil_of_length_eq_zero h0
   ·obtain ⟨ad, h1, _⟩ := Kd.at_int hr 0 (by omega) (by omega)
    cases h1
  subst hn
  refine Kd.event_run (v := goInt 0) (w1 := W) hgd ?_ (h W _ (by rw [cpL_nil]; exact hg) (World.grownBy.refl W _))
  cases hq : P.info? e with
  | none => simp [hq] at hs
  | some i =>
   unfold execOp
   simp [ho, resolve, invoke, builtin, hx, hy, Builtin.copy_, run_underlying ht, Builtin.lenOf, Builtin.firstCells, sizeOf, typeInfo, hq, storeCells]
 ·have hrun := run_copy_row P W t t o.type e g 0 old.length cap ad new.length c (cB old) bt ((new.take (Nat.min new.length old.length)).map fun b => Value.int .u8 (bI b)) ht hs hg
   (by rw [List.length_map, List.length_take]; exact Nat.min_eq_left (Nat.min_le_left _ _))
   (fun j v hv => by
    rw [List.getElem?_map] at hv
    cases hq : (new.take (Nat.min new.length old.length))[j]? with
    | none => rw [hq] at hv; cases hv
    | some b =>
     rw [hq] at hv
     injection hv with hv
     subst hv
     have hj : j < new.length := by
      have := (List.getElem?_eq_some_iff.1 hq).1
      rw [List.length_take] at this
      omega
     obtain ⟨ad', h1, h2⟩ := Kd.at_int hr (j : Int) (by omega) (by omega)
     injection h1 with h1
     subst h1
     rw [Int.toNat_natCast] at h2
     rw [h2, rd_bL, Int.toNat_natCast]
     rw [List.getElem?_take] at hq
     split at hq
     ·rw [List.getD_eq_getElem?_getD, hq]
      rfl
     ·cases hq)
   (by rw [List.length_map, List.length_take, cB_size]; have h9 : Nat.min new.length old.length ≤ old.length := Nat.min_le_right _ _; omega)
   (fun v hv => by
    obtain ⟨b, _, rfl⟩ := List.mem_map.1 hv
    rfl)
  rw [copy_cells] at hrun
  generalize (goInt ((List.map (fun b => Value.int IntKind.u8 (bI b)) (new.take (Nat.min new.length old.length))).length : Int)) = v at hrun
  refine Kd.event_run (v := v) (w1 := W.setRow g (cB (cpL old new))) hgd ?_ (h _ v (setRow_heap W g _ _ bt (0, 0) hg) (grown_setRow W g _))
  unfold execOp
  simp [ho, resolve, invoke, builtin, hx, hy, hrun]
theorem wp_region_tail {id : Nat} {l : List Oper} {w : World} (n : Nat) (hm : P.follows .mixedOrders = true) (hB : Region.lexTailB .any l.toArray n = true)
  (h : wpStill P l.toArray w.drew (fun a' => wpList P l.toArray Q (l.drop n) a' w.drew) (l.take n) a) : (Code.region id l.toArray true).wp P Q a w := wp_region_still_tail n hm hB h
theorem R_block {g base : Nat} {bt : TypeId} {m : List (BitVec 8)} {n : Nat} (hg : W.heap[g]? = some (.cells (cB m) bt (0, 0))) (hb : base ≤ g) (hn : m.length = n) (hle : n ≤ 1000) :
  Kd.R (Kd.int .u8) bt W base (fun _ => True) (.slice (some ⟨g, 0, none⟩) n n) (bL m) := by
 have e : encs (Value.int .u8) (bL m) = (cB m).toList := by simp [encs, bL, cB]
 refine Kd.R_of_own (h1 := fun _ => rfl) ?_ (fun _ _ => trivial)
 refine ⟨by rw [e]; simp [cB, bL], .inr ⟨g, n, cB m, ?_, hb, hg, by rw [bL_length, hn]; exact Nat.le_refl _, by simp only [maxLen]; omega, by rw [cB_size, hn, Nat.mul_one], ?_⟩⟩
 ·rw [bL_length, hn]
 ·rw [e, bL_length, Nat.mul_one, List.take_of_length_le (by simp [cB])]
end
end Go.Proofs.Ytkjgdndaepobiaa
