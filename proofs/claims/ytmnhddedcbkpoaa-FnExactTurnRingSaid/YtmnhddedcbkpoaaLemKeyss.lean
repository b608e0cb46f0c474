-- Laid by wip/shake.py of this repo out of this claim's texts. Not trusted: Lean checks it.
import Derived.Test.YtmnhddedcbkpoaaHands
import Derived.Deep.SlicePairs
import Derived.ChangeSlices
import Derived.ChangeSame
import Derived.Test.YtmnhddedcbkpoaaAllx63s
import Derived.Test.YtmnhddedcbkpoaaAllx66s
import Derived.Test.YtmnhddedcbkpoaaAllx67s
import Derived.Test.YtmnhddedcbkpoaaAllx202s
import Derived.Test.YtmnhddedcbkpoaaAllx550s
import Derived.Test.YtmnhddedcbkpoaaAllx553s
import Derived.Lib.SliceRun
import Derived.Test.YtmnhddedcbkpoaaAllx516s
import Derived.Test.YtmnhddedcbkpoaaAllx128s
import Derived.Test.YtmnhddedcbkpoaaAllx204s
import Derived.Test.YtmnhddedcbkpoaaAllx205s
import Derived.Test.YtmnhddedcbkpoaaAllx556s
import Derived.Test.YtmnhddedcbkpoaaAllx567s
import Derived.Test.YtmnhddedcbkpoaaAllx568s
import Derived.Test.YtmnhddedcbkpoaaAllx564s
import Derived.Test.YtmnhddedcbkpoaaAllx565s
import Derived.Test.YtmnhddedcbkpoaaAllx214s
import Derived.Test.YtmnhddedcbkpoaaAllx33s
import Derived.Test.YtmnhddedcbkpoaaAllx215s
import Derived.Test.YtmnhddedcbkpoaaAllx45s
import Derived.Test.YtmnhddedcbkpoaaAllx12s
section
set_option linter.unusedVariables false
set_option linter.unusedSimpArgs false
namespace Go.Proofs.Ytmnhddedcbkpoaa.All
open Go.RowKit Go.Proofs.Ytmnhddedcbkpoaa.All Go.Proofs.YtmnhddedcbkpoaaW.PrintWords Go.Proofs.YtmnhddedcbkpoaaW.PrintLast Go.Proofs.YtmnhddedcbkpoaaW.PrintMore
section
open Go.ChangeShapes Go.WideShapes Go.Deep
theorem reads_keys {w : World} {A : Option Addr} {n : Nat} {l : List S43} (hn : n ≤ 9223372036854775807) (hl : l.length = n) (h : 0 < n → ∃ ad, A = some ad ∧ ∀ j p, l[j]? = some p → ∃ B c, w.cell? (ad.add (j * 2)) = some (.int .i64 p.f0) ∧ w.cell? (ad.add (j * 2 + 1)) = some (.slice B p.f1.length c) ∧ p.f1.length ≤ c ∧ (Kd.int .u8).C w B p.f1.length p.f1) : Kd.C k43 w A n l := by
 refine ⟨hl, hn, fun h0 => ?_⟩
 obtain ⟨ad, ha, hj⟩ := h h0
 refine ⟨ad, ha, fun j p hp => ?_⟩
 obtain ⟨B, c, h1, h2, h3, h4⟩ := hj j p hp
 refine ⟨[.int .i64 p.f0, .slice B p.f1.length c], rfl, k43_mk w p h3 h4, fun i u hu => ?_⟩
 match i, hu with
 | 0, hu => obtain rfl := Option.some.inj hu; exact h1
 | 1, hu => obtain rfl := Option.some.inj hu; exact h2
 | i + 2, hu => simp at hu
instance : Inhabited S43 := ⟨z43⟩
theorem open_keys {H : Type} {enc : TypeId × Value → H} {w : World} {base : Nat} {spare : Nat → Bool} {held : Bool} {fuel : Nat} {cs : List Value} {x : DataW H × List MemPlace} {t : TypeId} {f0 f1 : Field} (ht : Try.prog.underlying t = some (.slice 43)) (he : Try.prog.underlying 43 = some (.struct #[f0, f1])) (ce : Try.prog.cellsOf 43 = 2) (o0 : f0.offset = 0) (o1 : f1.offset = 1) (q0 : Try.prog.cellsOf f0.type = 1) (q1 : Try.prog.cellsOf f1.type = 1)
  (u0 : Try.prog.underlying f0.type = some (.int .i64)) (u1 : Try.prog.underlying f1.type = some (.slice 5)) (u2 : Try.prog.underlying 5 = some (.int .u8)) (u3 : Try.prog.cellsOf 5 = 1)
  (h : DataW.trod enc Try.prog w base spare held fuel t cs = some x) :
  ∃ (A : Option Addr) (c : Nat) (l : List S43), cs = [.slice A l.length c] ∧ Kd.C k43 w A l.length l ∧ l.length ≤ c ∧ l.length ≤ maxLen ∧ ∀ p ∈ l, (Lit.int .i64 p.f0).wf = true ∧ p.f1.length ≤ maxLen ∧ ∀ y ∈ p.f1, (Lit.int .u8 y).wf = true := by
 rcases open_slice_pairs ht he ce o0 o1 q0 q1 h with ⟨hcs, _⟩ | ⟨a, len, cap, m, n, V0, V1, D0, D1, P0, P1, rfl, hb, hl, hm, hmm, hx, hi⟩
 ·exact ⟨none, 0, [], hcs, Kd.C_nil _ _, Nat.le_refl _, by simp, fun p hp => by cases hp⟩
 ·have hlm : len ≤ m := by rw [hmm]; split <;> omega
  have each : ∀ i, i < len → ∃ s : S43, ((Lit.int .i64 s.f0).wf = true ∧ s.f1.length ≤ maxLen ∧ ∀ y ∈ s.f1, (Lit.int .u8 y).wf = true) ∧ ∃ B c, w.cell? (a.add (i * 2)) = some (.int .i64 s.f0) ∧ w.cell? (a.add (i * 2 + 1)) = some (.slice B s.f1.length c) ∧ s.f1.length ≤ c ∧ (Kd.int .u8).C w B s.f1.length s.f1 := by
   intro i hil
   obtain ⟨c0, c1, d0, d1⟩ := hi i (by omega)
   obtain ⟨z, e0, _, w0⟩ := DataW.trod_int (k := .i64) u0 d0
   have e0' : V0 i = .int .i64 z := by simpa using e0
   rw [e0'] at c0
   rcases open_ints u1 u2 u3 d1 with ⟨hv, _⟩ | ⟨xx, ll, cc, zs, hv, _, hll, hmx, hz, _, hcell, hwz⟩
   ·have hv' : V1 i = .slice none 0 0 := by simpa using hv
    rw [hv'] at c1
    exact ⟨⟨z, []⟩, ⟨w0, by simp, fun y hy => by cases hy⟩, none, 0, c0, c1, Nat.le_refl _, Kd.C_nil _ _⟩
   ·have hv' : V1 i = .slice (some xx) ll cc := by simpa using hv
    rw [hv'] at c1
    have hzz : zs.length ≤ cc := by rw [hz]; split <;> omega
    have hz2 : ll ≤ zs.length := by rw [hz]; split <;> omega
    refine ⟨⟨z, zs.take ll⟩, ⟨w0, by simp only [List.length_take]; omega, fun y hy => hwz y (List.mem_of_mem_take hy)⟩, some xx, cc, c0, ?_, ?_, ?_⟩
    ·simp only [List.length_take]
     rw [Nat.min_eq_left hz2]
     exact c1
    ·simp only [List.length_take]
     omega
    ·refine Kd.C_of_reads (d := (0 : Int)) (h1 := fun _ => rfl) ⟨rfl, by simp only [List.length_take, maxLen] at *; omega, fun _ => ⟨xx, rfl, fun j hj => ?_⟩⟩
     simp only [List.length_take] at hj
     rw [hcell j (by omega), List.getD_eq_getElem?_getD, List.getD_eq_getElem?_getD, List.getElem?_take, if_pos (by omega)]
  obtain ⟨q, hq⟩ := choose_lt each
  have hlen : ((List.range len).map q).length = len := by simp
  refine ⟨some a, cap, (List.range len).map q, by rw [hlen], ?_, by rw [hlen]; exact hl, by rw [hlen]; omega, fun p hp => ?_⟩
  ·rw [hlen]
   refine reads_keys (by simp only [maxLen] at *; omega) hlen fun _ => ⟨a, rfl, fun j p hj => ?_⟩
   obtain ⟨hjl, hpe⟩ := List.getElem?_eq_some_iff.1 hj
   rw [hlen] at hjl
   have hpe' : p = q j := by rw [← hpe]; simp
   rw [hpe']
   exact (hq j hjl).2
  ·obtain ⟨i, hi1, rfl⟩ := List.mem_map.1 hp
   exact (hq i (List.mem_range.1 hi1)).1
end
end Go.Proofs.Ytmnhddedcbkpoaa.All
end
section
set_option linter.unusedVariables false
set_option linter.unusedSimpArgs false
namespace Go.Proofs.Ytmnhddedcbkpoaa.All
open Go.RowKit Go.Proofs.Ytmnhddedcbkpoaa.All Go.Proofs.YtmnhddedcbkpoaaW.PrintWords Go.Proofs.YtmnhddedcbkpoaaW.PrintLast Go.Proofs.YtmnhddedcbkpoaaW.PrintMore
def mkL : Nat → Nat → List Int
 | _, 0 => []
 | c, n + 1 => ((c % 256 : Nat) : Int) :: mkL (c + 1) n
theorem mkL_length : ∀ c n, (mkL c n).length = n
 | _, 0 => rfl
 | c, n + 1 => by simp [mkL, mkL_length (c + 1) n]
theorem markB_loop (d : Nat) : ∀ (k i c : Nat) (ys : List Int), i + d = ys.length → d < k → c + d < 2 ^ 60 → ys.length < 2 ^ 60 → laws_markByteS.l0 k ys (c : Int) (i : Int) = some (((c + d : Nat) : Int), ys.take i ++ mkL c d) := by
 induction d with
 | zero =>
  intro k i c ys hi hk hc hl
  obtain ⟨k, rfl⟩ : ∃ m, k = m + 1 := ⟨k - 1, by omega⟩
  simp only [laws_markByteS.l0, mkL]
  rw [if_neg (by omega), List.take_of_length_le (by omega), List.append_nil]
  rfl
 | succ d ih =>
  intro k i c ys hi hk hc hl
  obtain ⟨k, rfl⟩ : ∃ m, k = m + 1 := ⟨k - 1, by omega⟩
  have hw : wrap64 ((i : Int) + 1) = ((i + 1 : Nat) : Int) := by unfold wrap64; omega
  have hv0 : wrap64 ((c : Int) + 1) = ((c + 1 : Nat) : Int) := by unfold wrap64; omega
  have hm : ((c : Int) % 256) = ((c % 256 : Nat) : Int) := by omega
  simp only [laws_markByteS.l0]
  rw [if_pos (by omega), if_pos (by omega), hw, hv0, hm, ih k (i + 1) (c + 1) _ (by rw [List.length_set]; omega) (by omega) (by omega) (by rw [List.length_set]; omega)]
  rw [Int.toNat_natCast, List.take_succ_eq_append_getElem (by rw [List.length_set]; omega), List.take_set_of_le (Nat.le_refl i), List.getElem_set_self, List.append_assoc]
  simp only [mkL, List.singleton_append, show c + 1 + d = c + (d + 1) by omega]
theorem heldB_loop (d : Nat) : ∀ (k c : Nat) (pre : List Int), d < k → c + d < 2 ^ 60 → pre.length + d < 2 ^ 60 → laws_heldByteS.l0 k (pre ++ mkL c d) (c : Int) (pre.length : Int) = some ((c + d : Nat) : Int) := by
 induction d with
 | zero =>
  intro k c pre hk hc hl
  obtain ⟨k, rfl⟩ : ∃ m, k = m + 1 := ⟨k - 1, by omega⟩
  simp only [laws_heldByteS.l0, mkL, List.append_nil]
  rw [if_neg (by omega)]
  rfl
 | succ d ih =>
  intro k c pre hk hc hl
  obtain ⟨k, rfl⟩ : ∃ m, k = m + 1 := ⟨k - 1, by omega⟩
  have hw : wrap64 ((pre.length : Int) + 1) = (((pre ++ [((c % 256 : Nat) : Int)]).length : Nat) : Int) := by simp; unfold wrap64; omega
  have hv0 : wrap64 ((c : Int) + 1) = ((c + 1 : Nat) : Int) := by unfold wrap64; omega
  have hr : rd (pre ++ mkL c (d + 1)) (pre.length : Int) = (c : Int) % 256 := by
   unfold rd
   rw [Int.toNat_natCast, List.getD_eq_getElem?_getD, List.getElem?_append_right (Nat.le_refl _)]
   simp [mkL]
  have hs : pre ++ mkL c (d + 1) = (pre ++ [((c % 256 : Nat) : Int)]) ++ mkL (c + 1) d := by simp [mkL]
  simp only [laws_heldByteS.l0]
  rw [if_pos (by rw [List.length_append, mkL_length]; omega), if_pos (by omega), if_pos hr, hw, hv0, hs, ih k (c + 1) _ (by omega) (by omega) (by simp; omega)]
  rw [show c + 1 + d = c + (d + 1) by omega]
end Go.Proofs.Ytmnhddedcbkpoaa.All
end
section
set_option linter.unusedVariables false
set_option linter.unusedSimpArgs false
namespace Go.Proofs.Ytmnhddedcbkpoaa.All
open Go.RowKit Go.Proofs.Ytmnhddedcbkpoaa.All Go.Proofs.YtmnhddedcbkpoaaW.PrintWords Go.Proofs.YtmnhddedcbkpoaaW.PrintLast Go.Proofs.YtmnhddedcbkpoaaW.PrintMore
def mkKs : Nat → List S25 → List S25
 | _, [] => []
 | c, x :: xs => (⟨(c : Int), mkL (c + 1) x.f1.length⟩ : S25) :: mkKs (c + 1 + x.f1.length) xs
def totKs : Nat → List S25 → Nat
 | c, [] => c
 | c, x :: xs => totKs (c + 1 + x.f1.length) xs
theorem mkKs_length : ∀ (c : Nat) (xs : List S25), (mkKs c xs).length = xs.length
 | _, [] => rfl
 | c, x :: xs => by simp [mkKs, mkKs_length _ xs]
theorem totKs_le : ∀ (c : Nat) (xs : List S25), (∀ x ∈ xs, x.f1.length ≤ 1048576) → totKs c xs ≤ c + xs.length * 1048577
 | c, [], _ => by simp [totKs]
 | c, x :: xs, h => by
  have h1 := totKs_le (c + 1 + x.f1.length) xs (fun y hy => h y (List.mem_cons_of_mem _ hy))
  have h2 := h x List.mem_cons_self
  simp only [totKs, List.length_cons, Nat.succ_mul]
  omega
theorem markBe (k c : Nat) (xs : List Int) (hc : c + xs.length < 2 ^ 60) (hk : xs.length < k) : laws_markByteS.f k xs (c : Int) = some (((c + xs.length : Nat) : Int), mkL c xs.length) := by
 have h := markB_loop xs.length k 0 c xs (by omega) hk hc (by omega)
 unfold laws_markByteS.f
 rw [show ((0 : Nat) : Int) = 0 from rfl] at h
 rw [h]
 simp
theorem heldBe (k c n : Nat) (hc : c + n < 2 ^ 60) (hk : n < k) : laws_heldByteS.f k (mkL c n) (c : Int) = some ((c + n : Nat) : Int) := by
 have h := heldB_loop n k c [] hk hc (by simp; omega)
 unfold laws_heldByteS.f
 simpa using h
theorem markKs_eq (k : Nat) (hk : 1048577 ≤ k) : ∀ (xs : List S25) (c : Nat), (∀ x ∈ xs, x.f1.length ≤ 1048576) → c + xs.length * 1048577 < 2 ^ 59 → markKs k xs (c : Int) = some (((totKs c xs : Nat) : Int), mkKs c xs)
 | [], c, _, _ => rfl
 | x :: xs, c, h, hc => by
  have h2 := h x List.mem_cons_self
  rw [List.length_cons, Nat.succ_mul] at hc
  have hw : wrap64 ((c : Int) + 1) = ((c + 1 : Nat) : Int) := by unfold wrap64; omega
  simp only [markKs, mkKs, totKs]
  rw [hw, markBe k (c + 1) x.f1 (by omega) (by omega)]
  simp only [Option.bind_some]
  rw [markKs_eq k hk xs (c + 1 + x.f1.length) (fun y hy => h y (List.mem_cons_of_mem _ hy)) (by omega)]
  rfl
theorem totKs_ge : ∀ (c : Nat) (xs : List S25), c ≤ totKs c xs
 | c, [] => Nat.le_refl _
 | c, x :: xs => by
  have h1 := totKs_ge (c + 1 + x.f1.length) xs
  simp only [totKs]
  omega
theorem heldKs_loop (M : Nat) : ∀ (xs : List S25) (k c : Nat) (pre : List S25), (∀ x ∈ xs, x.f1.length ≤ M) → totKs c xs < 2 ^ 59 → pre.length + xs.length < 2 ^ 59 → xs.length + M + 1 < k → laws_heldKeyS.l0 k (pre ++ mkKs c xs) (c : Int) (pre.length : Int) = some ((totKs c xs : Nat) : Int)
 | [], k, c, pre, _, _, _, hk => by
  obtain ⟨k, rfl⟩ : ∃ m, k = m + 1 := ⟨k - 1, by omega⟩
  simp only [laws_heldKeyS.l0, mkKs, List.append_nil]
  rw [if_neg (by omega)]
  rfl
 | x :: xs, k, c, pre, h, hc, hp, hk => by
  obtain ⟨k, rfl⟩ : ∃ m, k = m + 1 := ⟨k - 1, by omega⟩
  have h2 := h x List.mem_cons_self
  have h3 := totKs_ge (c + 1 + x.f1.length) xs
  rw [List.length_cons] at hp hk
  simp only [totKs] at hc ⊢
  have hw : wrap64 ((c : Int) + 1) = ((c + 1 : Nat) : Int) := by unfold wrap64; omega
  have hv : wrap64 ((pre.length : Int) + 1) = ((pre.length + 1 : Nat) : Int) := by unfold wrap64; omega
  have hl : (pre ++ mkKs c (x :: xs)).length = pre.length + (xs.length + 1) := by rw [List.length_append, mkKs_length, List.length_cons]
  have hr : rd_T25 (pre ++ mkKs c (x :: xs)) (pre.length : Int) = (⟨(c : Int), mkL (c + 1) x.f1.length⟩ : S25) := by
   unfold rd_T25
   rw [Int.toNat_natCast, List.getD_eq_getElem?_getD, List.getElem?_append_right (Nat.le_refl _), Nat.sub_self]
   rfl
  have hz : (pre ++ [(⟨(c : Int), mkL (c + 1) x.f1.length⟩ : S25)]).length = pre.length + 1 := by rw [List.length_append]; rfl
  have ha : (pre ++ [(⟨(c : Int), mkL (c + 1) x.f1.length⟩ : S25)]) ++ mkKs (c + 1 + x.f1.length) xs = pre ++ mkKs c (x :: xs) := by rw [List.append_assoc]; rfl
  have h9 := heldKs_loop M xs k (c + 1 + x.f1.length) (pre ++ [(⟨(c : Int), mkL (c + 1) x.f1.length⟩ : S25)]) (fun y hy => h y (List.mem_cons_of_mem _ hy)) hc (by rw [hz]; omega) (by omega)
  rw [ha, hz] at h9
  simp only [laws_heldKeyS.l0]
  rw [hl, if_pos (by omega), if_pos (by omega), hr, if_pos rfl, hw, heldBe k (c + 1) x.f1.length (by omega) (by omega)]
  simp only [Option.bind_some]
  rw [if_neg (by omega), hv]
  exact h9
theorem heldRes (k : Nat) (a b : Int) (xs : List S25) (hl : xs.length ≤ 1048576) (h : ∀ x ∈ xs, x.f1.length ≤ 1048576) (hk : 2097160 ≤ k) : laws_heldRingResult.f k a b (mkKs 1 xs) 1 = some ((totKs 1 xs : Nat) : Int) := by
 have h5 := totKs_le 1 xs h
 have h6 : totKs 1 xs < 2 ^ 59 := by omega
 have h1 := heldKs_loop 1048576 xs k 1 [] h h6 (by simp only [List.length_nil]; omega) (by omega)
 have h2 : laws_heldKeyS.f k (mkKs 1 xs) 1 = some ((totKs 1 xs : Nat) : Int) := by
  unfold laws_heldKeyS.f
  simpa using h1
 unfold laws_heldRingResult.f laws_heldRing.f
 rw [h2]
 simp only [Option.bind_some]
 rw [if_neg (by omega)]
 simp only [Option.bind_some]
 rw [if_neg (by omega)]
end Go.Proofs.Ytmnhddedcbkpoaa.All
end
section
set_option linter.unusedVariables false
set_option linter.unusedSimpArgs false
namespace Go.Proofs.Ytmnhddedcbkpoaa.All
open Go.RowKit Go.Proofs.Ytmnhddedcbkpoaa.All Go.Proofs.YtmnhddedcbkpoaaW.PrintWords Go.Proofs.YtmnhddedcbkpoaaW.PrintLast Go.Proofs.YtmnhddedcbkpoaaW.PrintMore
theorem in_eq (a b c : Int) : impl_in.f a b c = some (decide (b ≤ a ∧ a ≤ c)) := by
 unfold impl_in.f
 by_cases h : a ≥ b
 ·rw [if_pos h]
  by_cases h2 : a ≤ c
  ·rw [decide_eq_true h2, decide_eq_true ⟨h, h2⟩]
  ·rw [decide_eq_false h2, decide_eq_false (fun h3 => h2 h3.2)]
 ·rw [if_neg h, decide_eq_false (fun h3 => h h3.1)]
theorem key_fault (a : Int) (l : List Int) : impl_Key_fault.f a l = some (keyC a l.length) := by
 unfold impl_Key_fault.f impl_isKeyId.f
 rw [in_eq]
 simp only [Option.bind_some]
 unfold keyC
 by_cases h : 1 ≤ a ∧ a ≤ 255
 ·rw [decide_eq_true h, if_pos rfl, if_pos h]
  by_cases h2 : l.length = 16
  ·rw [if_pos (by omega), if_pos h2]
  ·rw [if_neg (by omega), if_neg h2]
 ·rw [decide_eq_false h, if_neg (by decide), if_neg h]
theorem fault_l1 (p : Int) (m : List S25) (hm : m.length ≤ 1048576) (h1 : 1 ≤ m.length) (d : Nat) : ∀ (k i : Nat), 1 ≤ i → i + d = m.length → d < k → impl_RingFault.l1 k (i : Int) p m = some (if orderL (m.drop (i - 1)) = true then (if placeL p m 0 < 0 then 4 else 0) else 1) := by
 induction d with
 | zero =>
  intro k i hi1 hi hk
  obtain ⟨k, rfl⟩ : ∃ m, k = m + 1 := ⟨k - 1, by omega⟩
  simp only [impl_RingFault.l1]
  rw [if_neg (by omega), orderL_end m (i - 1) (by omega), if_pos rfl]
  unfold impl_Ring_place.f
  rw [if_pos (by omega)]
  simp only [Option.bind_some]
  by_cases h : placeL p m 0 < 0
  ·rw [if_pos h, if_pos h]
  ·rw [if_neg h, if_neg h]
 | succ d ih =>
  intro k i hi1 hi hk
  obtain ⟨k, rfl⟩ : ∃ m, k = m + 1 := ⟨k - 1, by omega⟩
  obtain ⟨j, rfl⟩ : ∃ j, i = j + 1 := ⟨i - 1, by omega⟩
  have hw : wrap64 (((j + 1 : Nat) : Int) + 1) = ((j + 1 + 1 : Nat) : Int) := by unfold wrap64; omega
  have hv : wrap64 (((j + 1 : Nat) : Int) - 1) = (j : Int) := by unfold wrap64; omega
  simp only [impl_RingFault.l1]
  rw [hv, hw, if_pos (by omega), if_pos (by omega), if_pos (by omega), if_pos (by omega), show j + 1 - 1 = j from rfl, orderL_drop m j (by omega)]
  by_cases h : (rd_T25 m (j : Int)).f0 ≥ (rd_T25 m ((j + 1 : Nat) : Int)).f0
  ·rw [if_pos h, if_pos h]
   rfl
  ·rw [if_neg h, if_neg h, ih k (j + 1 + 1) (by omega) (by omega) (by omega)]
   rfl
theorem fault_l0 (p : Int) (m : List S25) (hm : m.length ≤ 1048576) (h1 : 1 ≤ m.length) (d : Nat) : ∀ (k i : Nat), i + d = m.length → d + m.length + 2 < k → impl_RingFault.l0 k m (m.length : Int) (i : Int) p m = some (if faultsL (m.drop i) = 0 then (if orderL m = true then (if placeL p m 0 < 0 then 4 else 0) else 1) else faultsL (m.drop i)) := by
 induction d with
 | zero =>
  intro k i hi hk
  obtain ⟨k, rfl⟩ : ∃ m, k = m + 1 := ⟨k - 1, by omega⟩
  simp only [impl_RingFault.l0]
  rw [if_neg (by omega), List.drop_of_length_le (by omega)]
  have h := fault_l1 p m hm h1 (m.length - 1) k 1 (by omega) (by omega) (by omega)
  simpa [faultsL] using h
 | succ d ih =>
  intro k i hi hk
  obtain ⟨k, rfl⟩ : ∃ m, k = m + 1 := ⟨k - 1, by omega⟩
  have hw : wrap64 ((i : Int) + 1) = ((i + 1 : Nat) : Int) := by unfold wrap64; omega
  simp only [impl_RingFault.l0]
  rw [hw, if_pos (by omega), if_pos (by omega), if_pos (by omega), key_fault, faultsL_drop m i (by omega)]
  simp only [Option.bind_some]
  by_cases h : keyC (rd_T25 m (i : Int)).f0 (rd_T25 m (i : Int)).f1.length = 0
  ·rw [if_pos h, if_pos h, ih k (i + 1) (by omega) (by omega)]
  ·rw [if_neg h, if_neg h, if_neg h]
theorem ring_fault (k : Nat) (p : Int) (m : List S25) (hm : m.length ≤ 1048576) (hk : 10 ≤ k) : impl_RingFault.f k p m = some (ringFaultL p m) := by
 unfold impl_RingFault.f ringFaultL
 rw [in_eq]
 simp only [Option.bind_some]
 by_cases h : m.length < 1 ∨ 3 < m.length
 ·rw [if_pos h, decide_eq_false (by omega), if_neg (by decide)]
 ·rw [if_neg h, decide_eq_true (by omega), if_pos rfl]
  have h2 := fault_l0 p m hm (by omega) m.length k 0 (by omega) (by omega)
  simpa using h2
end Go.Proofs.Ytmnhddedcbkpoaa.All
end
section
namespace Go.Proofs.Ytmnhddedcbkpoaa.All
open Go.RowKit Go.Proofs.YtmnhddedcbkpoaaW.PrintWords Go.Proofs.YtmnhddedcbkpoaaW.PrintLast Go.Proofs.YtmnhddedcbkpoaaW.PrintMore
attribute [local go_sem] max2_int min2_int max_two min_two max_three min_three max_four min_four
set_option linter.unusedVariables false
set_option linter.unusedSimpArgs false
theorem fld_FindKey (w : World) (a b : Value) : (Instr.field 29 (.agg #[a, b]) 1).run Try.prog w = .ok b w := by
 have h := Try.underlying29
 have h2 := Try.underlying27
 unfold Instr.field asAgg
 go_simp
 all_goals rfl
attribute [local go_sem] fld_FindKey
end Go.Proofs.Ytmnhddedcbkpoaa.All
end
section
set_option linter.unusedVariables false
set_option linter.unusedSimpArgs false
namespace Go.Proofs.Ytmnhddedcbkpoaa.All
open Go.RowKit Go.Proofs.Ytmnhddedcbkpoaa.All Go.Proofs.YtmnhddedcbkpoaaW.PrintWords Go.Proofs.YtmnhddedcbkpoaaW.PrintLast Go.Proofs.YtmnhddedcbkpoaaW.PrintMore
theorem placeL_bd (id : Int) : ∀ (l : List S25) (i : Nat), placeL id l (i : Int) < 0 ∨ (i : Int) ≤ placeL id l (i : Int) ∧ placeL id l (i : Int) < (i : Int) + (l.length : Int)
 | [], i => .inl (by simp [placeL])
 | x :: xs, i => by
  simp only [placeL]
  by_cases h : x.f0 = id
  ·rw [if_pos h, List.length_cons]; right; omega
  ·rw [if_neg h, List.length_cons]
   have h1 := placeL_bd id xs (i + 1)
   rw [show ((i + 1 : Nat) : Int) = (i : Int) + 1 by omega] at h1
   rcases h1 with h1 | h1
   ·exact .inl h1
   ·right; omega
theorem clone_eq (l : List Int) (h : l.length ≤ 1048576) : bytes_Clone.f l = some l := by
 unfold bytes_Clone.f
 rw [if_pos (by omega)]
theorem ownKey_eq (a : Int) (l : List Int) (h : l.length ≤ 1048576) : impl_ownKey.f a l = some (a, l) := by
 unfold impl_ownKey.f
 rw [clone_eq l h]
 rfl
theorem ownRing_loop (p : Int) (m : List S25) (hm : m.length ≤ 1048576) (hb : ∀ x ∈ m, x.f1.length ≤ 1048576) (d : Nat) : ∀ (k i : Nat), i + d = m.length → d < k → impl_ownRing.l0 k m (m.length : Int) (i : Int) p (m.take i) = some (p, m) := by
 induction d with
 | zero =>
  intro k i hi hk
  obtain ⟨k, rfl⟩ : ∃ m, k = m + 1 := ⟨k - 1, by omega⟩
  simp only [impl_ownRing.l0]
  rw [if_neg (by omega), List.take_of_length_le (by omega)]
 | succ d ih =>
  intro k i hi hk
  obtain ⟨k, rfl⟩ : ∃ m, k = m + 1 := ⟨k - 1, by omega⟩
  have hil : i < m.length := by omega
  have hw : wrap64 ((i : Int) + 1) = ((i + 1 : Nat) : Int) := by unfold wrap64; omega
  simp only [impl_ownRing.l0]
  rw [if_pos (by omega), if_pos (by omega), if_pos (by omega), rd_get m i hil, ownKey_eq _ _ (hb _ (List.getElem_mem hil))]
  simp only [Option.bind_some]
  rw [if_pos (by rw [List.length_take]; omega), hw]
  have h9 := ih k (i + 1) (by omega) (by omega)
  rw [List.take_succ_eq_append_getElem hil] at h9
  exact h9
theorem ownRing_eq (k : Nat) (p : Int) (m : List S25) (hm : m.length ≤ 1048576) (hb : ∀ x ∈ m, x.f1.length ≤ 1048576) (hk : 1048577 ≤ k) : impl_ownRing.f k p m = some (p, m) := by
 have h := ownRing_loop p m hm hb m.length k 0 (by omega) (by omega)
 unfold impl_ownRing.f
 simpa using h
theorem okL_of (m : List S25) (hm : m.length ≤ 1048576) (hb : ∀ x ∈ m, x.f1.length ≤ 1048576) : okL m := ⟨by omega, fun x hx => by have := hb x hx; omega⟩
theorem place_f (p : Int) (m : List S25) (id : Int) (hm : m.length ≤ 1048576) : impl_Ring_place.f p m id = some (placeL id m 0) := by
 unfold impl_Ring_place.f
 rw [if_pos (by omega)]
theorem useKey_both (k : Nat) (p : Int) (m : List S25) (id : Int) (hm : m.length ≤ 1048576) (hb : ∀ x ∈ m, x.f1.length ≤ 1048576) (hk : 1048577 ≤ k) : ∃ r1 r2 r3, spec_UseKey.f p m id = some (r1, r2, r3) ∧ impl_UseKey.f k p m id = some (r1, r2, r3) ∧ r3.length ≤ 1048576 ∧ ∀ x ∈ r3, x.f1.length ≤ 1048576 := by
 unfold spec_UseKey.f impl_UseKey.f impl_FindKey.f
 rw [if_pos (okL_of m hm hb), ring_fault k p m hm (by omega), place_f p m id hm, ownRing_eq k p m hm hb hk]
 simp only [Option.bind_some]
 by_cases h : ringFaultL p m = 0
 ·rw [if_pos h, if_pos h]
  by_cases hq : placeL id m 0 < 0
  ·rw [if_pos hq, if_pos hq]
   exact ⟨_, _, _, rfl, rfl, by simp, fun x hx => by cases hx⟩
  ·have hb2 := placeL_bd id m 0
   rw [show ((0 : Nat) : Int) = 0 from rfl] at hb2
   obtain ⟨q, hqe⟩ : ∃ q : Nat, placeL id m 0 = (q : Int) := ⟨(placeL id m 0).toNat, by omega⟩
   rw [hqe] at hq hb2 ⊢
   have hql : q < m.length := by omega
   rw [if_neg hq, if_neg hq, if_pos (by omega), if_pos (by omega), rd_get m q hql, ownKey_eq _ _ (hb _ (List.getElem_mem hql))]
   exact ⟨_, _, _, rfl, rfl, hm, hb⟩
 ·rw [if_neg h, if_neg h]
  simp only [Option.bind_some]
  rw [if_neg h]
  exact ⟨_, _, _, rfl, rfl, by simp, fun x hx => by cases hx⟩
end Go.Proofs.Ytmnhddedcbkpoaa.All
end
section
set_option linter.unusedVariables false
set_option linter.unusedSimpArgs false
namespace Go.Proofs.Ytmnhddedcbkpoaa.All
open Go.RowKit Go.Proofs.Ytmnhddedcbkpoaa.All Go.Proofs.YtmnhddedcbkpoaaW.PrintWords Go.Proofs.YtmnhddedcbkpoaaW.PrintLast Go.Proofs.YtmnhddedcbkpoaaW.PrintMore
theorem len_of (p : Int) (l : List S25) (h : ringFaultL p l = 0) : 1 ≤ l.length ∧ l.length ≤ 3 := by
 unfold ringFaultL at h
 by_cases h1 : l.length < 1 ∨ 3 < l.length
 ·rw [if_pos h1] at h; cases h
 ·omega
theorem at_gt (id : Int) : ∀ (l : List S25) (i : Nat), placeL id l (i : Int) < 0 → atL id l = gtL id l
 | [], _, _ => rfl
 | x :: xs, i, h => by
  simp only [placeL] at h
  by_cases hx : x.f0 = id
  ·rw [if_pos hx] at h; omega
  ·rw [if_neg hx] at h
   have h1 := at_gt id xs (i + 1) (by rw [show ((i + 1 : Nat) : Int) = (i : Int) + 1 by omega]; exact h)
   simp only [atL, gtL]
   by_cases h2 : x.f0 < id
   ·rw [if_pos h2, if_neg (by omega), h1]
   ·rw [if_neg h2, if_pos (by omega)]
theorem mem_ins {x key : S25} {l : List S25} {i : Nat} (hi : i ≤ l.length) (h : x ∈ l.insertIdx i key) : x = key ∨ x ∈ l := by
 rw [ins_eq key i l hi, List.mem_append, List.mem_cons] at h
 rcases h with h | h | h
 ·exact .inr (List.mem_of_mem_take h)
 ·exact .inl h
 ·exact .inr (List.mem_of_mem_drop h)
theorem installKey_both (k : Nat) (p : Int) (m : List S25) (id : Int) (b : List Int) (hm : m.length ≤ 1048576) (hb : ∀ x ∈ m, x.f1.length ≤ 1048576) (hl : b.length ≤ 1048576) (hk : 1048577 ≤ k) : ∃ r1 r2 r3, spec_InstallKey.f p m id b = some (r1, r2, r3) ∧ impl_InstallKey.f k p m id b = some (r1, r2, r3) ∧ r3.length ≤ 1048576 ∧ ∀ x ∈ r3, x.f1.length ≤ 1048576 := by
 have none : ∀ x ∈ ([] : List S25), x.f1.length ≤ 1048576 := fun x hx => by cases hx
 unfold spec_InstallKey.f impl_InstallKey.f
 rw [if_pos ⟨okL_of m hm hb, by omega⟩, ring_fault k p m hm (by omega), key_fault, place_f p m id hm, ownRing_eq k p m hm hb hk, ownKey_eq id b hl]
 simp only [Option.bind_some]
 by_cases h : ringFaultL p m = 0
 ·have hlen := len_of p m h
  rw [if_pos h, if_pos h]
  by_cases hu : keyC id b.length = 0
  ·rw [if_pos hu, if_pos hu]
   by_cases hq : 0 ≤ placeL id m 0
   ·rw [if_pos hq, if_pos hq]
    exact ⟨_, _, _, rfl, rfl, by simp, none⟩
   ·rw [if_neg hq, if_neg hq]
    by_cases h3 : 3 ≤ m.length
    ·rw [if_pos h3, if_pos (show m.length = 3 by omega)]
     exact ⟨_, _, _, rfl, rfl, by simp, none⟩
    ·rw [if_neg h3, if_pos (show 0 < m.length by omega), if_neg (show ¬ m.length = 3 by omega), if_pos (show 0 < m.length ∧ m.length < 1000 by omega), at_gt id m 0 (by rw [show ((0 : Nat) : Int) = 0 from rfl]; omega)]
     refine ⟨_, _, _, rfl, rfl, ?_, fun x hx => ?_⟩
     ·rw [List.length_insertIdx]
      split <;> omega
     ·rcases mem_ins (gtL_le id m) hx with rfl | hx
      ·exact hl
      ·exact hb x hx
  ·rw [if_neg hu, if_neg hu]
   exact ⟨_, _, _, rfl, rfl, by simp, none⟩
 ·rw [if_neg h, if_neg h]
  exact ⟨_, _, _, rfl, rfl, by simp, none⟩
end Go.Proofs.Ytmnhddedcbkpoaa.All
end
section
set_option linter.unusedVariables false
set_option linter.unusedSimpArgs false
namespace Go.Proofs.Ytmnhddedcbkpoaa.All
open Go.RowKit Go.Proofs.Ytmnhddedcbkpoaa.All Go.Proofs.YtmnhddedcbkpoaaW.PrintWords Go.Proofs.YtmnhddedcbkpoaaW.PrintLast Go.Proofs.YtmnhddedcbkpoaaW.PrintMore
theorem order_tail (x : S25) (xs : List S25) (h : orderL (x :: xs) = true) : orderL xs = true := by
 cases xs with
 | nil => rfl
 | cons y ys =>
  simp only [orderL] at h
  by_cases hy : y.f0 ≤ x.f0
  ·rw [if_pos hy] at h; cases h
  ·rw [if_neg hy] at h; exact h
theorem order_gt : ∀ (xs : List S25) (x : S25), orderL (x :: xs) = true → ∀ y ∈ xs, x.f0 < y.f0
 | [], _, _, y, hy => by cases hy
 | z :: zs, x, h, y, hy => by
  have ht := order_tail x (z :: zs) h
  simp only [orderL] at h
  by_cases hz : z.f0 ≤ x.f0
  ·rw [if_pos hz] at h; cases h
  ·rcases List.mem_cons.1 hy with rfl | hy
   ·omega
   ·have := order_gt zs z ht y hy
    omega
theorem keep_none (id : Int) : ∀ (l : List S25), (∀ y ∈ l, id < y.f0) → keepL id l = l := fun l h => by
 unfold keepL
 rw [List.filter_eq_self]
 intro y hy
 have := h y hy
 rw [bne_iff_ne]
 omega
theorem keep_erase (id : Int) : ∀ (l : List S25) (i : Nat), orderL l = true → ¬ placeL id l (i : Int) < 0 → keepL id l = l.eraseIdx (placeL id l (i : Int) - (i : Int)).toNat
 | [], i, _, h => absurd (by simp [placeL]) h
 | x :: xs, i, ho, h => by
  simp only [placeL] at h ⊢
  by_cases hx : x.f0 = id
  ·rw [if_pos hx, Int.sub_self]
   have h1 := keep_none id xs (fun y hy => by have := order_gt xs x ho y hy; omega)
   unfold keepL at h1 ⊢
   simp [List.filter_cons, hx, h1]
  ·rw [if_neg hx] at h ⊢
   rw [show (i : Int) + 1 = ((i + 1 : Nat) : Int) by omega] at h ⊢
   have h1 := keep_erase id xs (i + 1) (order_tail x xs ho) h
   have hb := placeL_bd id xs (i + 1)
   obtain ⟨q, hq⟩ : ∃ q : Nat, placeL id xs ((i + 1 : Nat) : Int) = ((i + 1 + q : Nat) : Int) := ⟨(placeL id xs ((i + 1 : Nat) : Int)).toNat - (i + 1), by omega⟩
   rw [hq] at h1 ⊢
   rw [show (((i + 1 + q : Nat) : Int) - ((i + 1 : Nat) : Int)).toNat = q by omega] at h1
   rw [show (((i + 1 + q : Nat) : Int) - (i : Int)).toNat = q + 1 by omega]
   unfold keepL at h1 ⊢
   simp [List.filter_cons, hx, h1]
theorem order_of (p : Int) (l : List S25) (h : ringFaultL p l = 0) : orderL l = true := by
 unfold ringFaultL at h
 by_cases h1 : l.length < 1 ∨ 3 < l.length
 ·rw [if_pos h1] at h; cases h
 ·rw [if_neg h1] at h
  by_cases h2 : faultsL l = 0
  ·rw [if_pos h2] at h
   by_cases h3 : orderL l = true
   ·exact h3
   ·rw [if_neg h3] at h; cases h
  ·rw [if_neg h2] at h
   exact absurd h h2
theorem removeKey_both (k : Nat) (p : Int) (m : List S25) (id : Int) (hm : m.length ≤ 1048576) (hb : ∀ x ∈ m, x.f1.length ≤ 1048576) (hk : 1048577 ≤ k) : ∃ r1 r2 r3, spec_RemoveKey.f p m id = some (r1, r2, r3) ∧ impl_RemoveKey.f k p m id = some (r1, r2, r3) ∧ r3.length ≤ 1048576 ∧ ∀ x ∈ r3, x.f1.length ≤ 1048576 := by
 unfold spec_RemoveKey.f impl_RemoveKey.f impl_FindKey.f
 rw [if_pos (okL_of m hm hb), ring_fault k p m hm (by omega), place_f p m id hm, ownRing_eq k p m hm hb hk]
 simp only [Option.bind_some]
 by_cases h : ringFaultL p m = 0
 ·rw [if_pos h, if_pos h]
  by_cases hq : placeL id m 0 < 0
  ·rw [if_pos hq, if_pos hq]
   exact ⟨_, _, _, rfl, rfl, by simp, fun x hx => by cases hx⟩
  ·have hb2 := placeL_bd id m 0
   have hke := keep_erase id m 0 (order_of p m h) hq
   rw [show ((0 : Nat) : Int) = 0 from rfl] at hb2 hke
   rw [Int.sub_zero] at hke
   have hp0 := place_f p m id hm
   obtain ⟨q, hqe⟩ : ∃ q : Nat, placeL id m 0 = (q : Int) := ⟨(placeL id m 0).toNat, by omega⟩
   rw [hqe] at hq hb2 hke hp0 ⊢
   have hql : q < m.length := by omega
   have hk1 : impl_ownKey.f (rd_T25 m (q : Int)).f0 (rd_T25 m (q : Int)).f1 = some ((rd_T25 m (q : Int)).f0, (rd_T25 m (q : Int)).f1) := ownKey_eq _ _ (by rw [rd_get m q hql]; exact hb _ (List.getElem_mem hql))
   have hql2 : (q : Int) < (m.length : Int) := by omega
   have hq0 : (0 : Int) ≤ (q : Int) := by omega
   have hml : m.length < 140737488355328 := by omega
   by_cases he : p = id
   ·refine ⟨8, 0, [], ?_, ?_, by simp, fun x hx => by cases hx⟩ <;> simp [hq, hql2, hq0, hk1, he]
   ·simp only [hq, hql2, hq0, hk1, he, hp0, if_false, if_true, Option.bind_some, hml, and_self, Int.toNat_natCast]
    exact ⟨_, _, _, rfl, by rw [hke]; rfl, Nat.le_trans (keep_len id m) hm, fun x hx => hb x ((List.mem_filter.1 hx).1)⟩
 ·rw [if_neg h, if_neg h]
  simp only [Option.bind_some]
  rw [if_neg h]
  exact ⟨_, _, _, rfl, rfl, by simp, fun x hx => by cases hx⟩
end Go.Proofs.Ytmnhddedcbkpoaa.All
end
section
set_option linter.unusedVariables false
set_option linter.unusedSimpArgs false
namespace Go.Proofs.Ytmnhddedcbkpoaa.All
open Go.RowKit Go.Proofs.Ytmnhddedcbkpoaa.All Go.Proofs.YtmnhddedcbkpoaaW.PrintWords Go.Proofs.YtmnhddedcbkpoaaW.PrintLast Go.Proofs.YtmnhddedcbkpoaaW.PrintMore
theorem specIn_eq (a b c : Int) : spec_l1In.f a b c = some (decide (b ≤ a ∧ a ≤ c)) := by
 unfold spec_l1In.f
 by_cases h : b ≤ a
 ·by_cases h2 : a ≤ c
  ·simp [h, h2]
  ·simp [h, h2]
 ·simp [h]
theorem turnRing_both (k : Nat) (p : Int) (m : List S25) (op id : Int) (b : List Int) (hm : m.length ≤ 1048576) (hb : ∀ x ∈ m, x.f1.length ≤ 1048576) (hl : b.length ≤ 1048576) (hk : 1048578 ≤ k) : ∃ r1 r2 r3, spec_TurnRing.f k p m op id b = some (r1, r2, r3) ∧ impl_TurnRing.f k p m op id b = some (r1, r2, r3) ∧ r3.length ≤ 1048576 ∧ ∀ x ∈ r3, x.f1.length ≤ 1048576 := by
 have none : ∀ x ∈ ([] : List S25), x.f1.length ≤ 1048576 := fun x hx => by cases hx
 obtain ⟨k, rfl⟩ : ∃ j, k = j + 1 := ⟨k - 1, by omega⟩
 unfold spec_TurnRing.f impl_TurnRing.f spec_RingFault.f
 rw [ring_fault (k + 1) p m hm (by omega), in_eq, specIn_eq]
 simp only [Option.bind_some]
 by_cases h : ringFaultL p m = 0
 ·rw [if_pos h, if_pos h]
  by_cases hr : 1 ≤ op ∧ op ≤ 3
  ·rw [decide_eq_true hr, if_pos rfl, if_pos rfl]
   by_cases h1 : op = 1
   ·rw [if_pos h1, if_pos h1]
    obtain ⟨r1, r2, r3, hs, hi, h3, h4⟩ := installKey_both k p m id b hm hb hl (by omega)
    simp only [impl_TurnRing.j0, spec_TurnRing.j0]
    rw [if_neg (show ¬ (false = true) by decide), if_neg (show ¬ (false = true) by decide), if_pos h1, if_pos h1, hs, hi]
    exact ⟨r1, r2, r3, rfl, rfl, h3, h4⟩
   ·rw [if_neg h1, if_neg h1]
    simp only [impl_TurnRing.j0, spec_TurnRing.j0]
    by_cases hf : (b.length : Int) > 0
    ·rw [decide_eq_true hf, if_pos rfl, if_pos rfl]
     exact ⟨_, _, _, rfl, rfl, by simp, none⟩
    ·rw [decide_eq_false hf, if_neg (show ¬ (false = true) by decide), if_neg (show ¬ (false = true) by decide), if_neg h1, if_neg h1]
     by_cases h2 : op = 2
     ·rw [if_pos h2, if_pos h2]
      obtain ⟨r1, r2, r3, hs, hi, h3, h4⟩ := useKey_both k p m id hm hb (by omega)
      rw [hs, hi]
      exact ⟨r1, r2, r3, rfl, rfl, h3, h4⟩
     ·rw [if_neg h2, if_neg h2]
      obtain ⟨r1, r2, r3, hs, hi, h3, h4⟩ := removeKey_both k p m id hm hb (by omega)
      rw [hs, hi]
      exact ⟨r1, r2, r3, rfl, rfl, h3, h4⟩
  ·rw [decide_eq_false hr, if_neg (show ¬ (false = true) by decide), if_neg (show ¬ (false = true) by decide)]
   simp only [impl_TurnRing.j0, spec_TurnRing.j0]
   rw [if_pos trivial, if_pos trivial]
   exact ⟨_, _, _, rfl, rfl, by simp, none⟩
 ·rw [if_neg h, if_neg h]
  exact ⟨_, _, _, rfl, rfl, by simp, none⟩
end Go.Proofs.Ytmnhddedcbkpoaa.All
end
section
set_option linter.unusedVariables false
set_option linter.unusedSimpArgs false
namespace Go.Proofs.Ytmnhddedcbkpoaa.All
open Go.RowKit Go.Proofs.Ytmnhddedcbkpoaa.All Go.Proofs.YtmnhddedcbkpoaaW.PrintWords Go.Proofs.YtmnhddedcbkpoaaW.PrintLast Go.Proofs.YtmnhddedcbkpoaaW.PrintMore
theorem toB_loop (xs : List Int) (hn : xs.length ≤ 1048576) (d : Nat) : ∀ (k i : Nat) (ys : List Int), i + d = xs.length → d < k → ys.length = xs.length → ys.take i = xs.take i →
  laws_toByteS.l0 k xs ys (i : Int) = some xs := by
 induction d with
 | zero =>
  intro k i ys hi hk hl ht
  obtain ⟨k, rfl⟩ : ∃ m, k = m + 1 := ⟨k - 1, by omega⟩
  simp only [laws_toByteS.l0]
  rw [if_neg (by omega)]
  rw [List.take_of_length_le (by omega), List.take_of_length_le (by omega)] at ht
  rw [ht]
 | succ d ih =>
  intro k i ys hi hk hl ht
  obtain ⟨k, rfl⟩ : ∃ m, k = m + 1 := ⟨k - 1, by omega⟩
  have hw : wrap64 ((i : Int) + 1) = ((i + 1 : Nat) : Int) := by unfold wrap64; omega
  simp only [laws_toByteS.l0]
  rw [if_pos (by omega), if_pos (by omega), if_pos (by omega), hw]
  refine ih k (i + 1) _ (by omega) (by omega) (by rw [List.length_set]; exact hl) ?_
  rw [Int.toNat_natCast, List.take_succ_eq_append_getElem (by rw [List.length_set]; omega), List.take_succ_eq_append_getElem (show i < xs.length by omega), List.take_set_of_le (Nat.le_refl i), ht]
  congr 1
  rw [List.getElem_set_self]
  unfold rd
  rw [Int.toNat_natCast, List.getD_eq_getElem?_getD, List.getElem?_eq_getElem (by omega)]
  rfl
theorem toB (k : Nat) (xs : List Int) (hn : xs.length ≤ 1048576) (hk : xs.length < k) : laws_toByteS.f k xs = some xs := by
 unfold laws_toByteS.f
 rw [if_pos (by omega), if_pos (by omega)]
 exact toB_loop xs hn xs.length k 0 _ (by omega) hk (by simp) (by simp)
theorem eqB_loop (xs : List Int) (hn : xs.length ≤ 1048576) (d : Nat) : ∀ (k i : Nat), i + d = xs.length → d < k → laws_eqByteS.l0 k xs xs (i : Int) = some true := by
 induction d with
 | zero =>
  intro k i hi hk
  obtain ⟨k, rfl⟩ : ∃ m, k = m + 1 := ⟨k - 1, by omega⟩
  simp only [laws_eqByteS.l0]
  rw [if_neg (by omega)]
 | succ d ih =>
  intro k i hi hk
  obtain ⟨k, rfl⟩ : ∃ m, k = m + 1 := ⟨k - 1, by omega⟩
  have hw : wrap64 ((i : Int) + 1) = ((i + 1 : Nat) : Int) := by unfold wrap64; omega
  simp only [laws_eqByteS.l0]
  rw [if_pos (by omega), if_pos (by omega), if_pos (by omega), if_pos trivial, hw]
  exact ih k (i + 1) (by omega) (by omega)
theorem eqB (k : Nat) (xs : List Int) (hn : xs.length ≤ 1048576) (hk : xs.length < k) : laws_eqByteS.f k xs xs = some true := by
 unfold laws_eqByteS.f
 rw [if_pos rfl]
 exact eqB_loop xs hn xs.length k 0 (by omega) hk
end Go.Proofs.Ytmnhddedcbkpoaa.All
end
