-- Laid by wip/shake.py of this repo out of this claim's texts. Not trusted: Lean checks it.
import Derived.Test.YtmnhddedcbkpoaaHands
import Derived.Test.YtmnhddedcbkpoaaAllx550s
import Derived.Test.YtmnhddedcbkpoaaAllx45s
import Derived.Test.YtmnhddedcbkpoaaAllx56s
import Derived.Test.YtmnhddedcbkpoaaAllx57s
import Derived.Test.YtmnhddedcbkpoaaAllx58s
import Derived.Test.YtmnhddedcbkpoaaAllx59s
import Derived.Test.YtmnhddedcbkpoaaAllx60s
import Derived.Test.YtmnhddedcbkpoaaAllx61s
import Derived.Test.YtmnhddedcbkpoaaLemKeyss
set_option linter.unusedVariables false
set_option linter.unusedSimpArgs false
namespace Go.Proofs.Ytmnhddedcbkpoaa.All
open Go.RowKit Go.Proofs.Ytmnhddedcbkpoaa.All Go.Proofs.YtmnhddedcbkpoaaW.PrintWords Go.Proofs.YtmnhddedcbkpoaaW.PrintLast Go.Proofs.YtmnhddedcbkpoaaW.PrintMore
def up (x : S43) : S25 := ⟨x.f0, x.f1⟩
def ups (l : List S43) : List S25 := l.map up
def okKs (l : List S43) : Prop := l.length ≤ 1048576 ∧ ∀ x ∈ l, x.f1.length ≤ 1048576
theorem ups_length (l : List S43) : (ups l).length = l.length := by simp [ups]
theorem rd_lk (l : List S43) (i : Nat) (h : i < l.length) : rd_T43 l (i : Int) = l[i] := by
 unfold rd_T43
 rw [Int.toNat_natCast, List.getD_eq_getElem?_getD, List.getElem?_eq_getElem h]
 rfl
theorem szB1 (l : List Int) (n : Int) (hn : 0 ≤ n) (hn2 : n ≤ 1048576) (hl : l.length ≤ 9223372036854775807) : ∃ v, laws_szByteS.f l n = some v ∧ v ≤ n ∧ (0 ≤ v → l.length ≤ 1048576) := by
 unfold laws_szByteS.f
 have hw : wrap64 (n - (l.length : Int)) = n - (l.length : Int) := by unfold wrap64; omega
 rw [hw]
 by_cases h : n - (l.length : Int) < 0
 ·rw [if_pos h]
  exact ⟨-1, rfl, by omega, by omega⟩
 ·rw [if_neg h]
  exact ⟨_, rfl, by omega, by omega⟩
theorem szK1 (a : Int) (l : List Int) (n : Int) (hn : 0 ≤ n) (hn2 : n ≤ 1048576) (hl : l.length ≤ 9223372036854775807) : ∃ v, laws_szKey.f a l n = some v ∧ v ≤ n ∧ (0 ≤ v → l.length ≤ 1048576) := by
 unfold laws_szKey.f
 obtain ⟨v, hv, h1, h2⟩ := szB1 l n hn hn2 hl
 rw [hv]
 simp only [Option.bind_some]
 by_cases h : v < 0
 ·rw [if_pos h]
  exact ⟨-1, rfl, by omega, by omega⟩
 ·rw [if_neg h]
  exact ⟨v, rfl, h1, h2⟩
theorem szKs_loop (l : List S43) (hl : l.length ≤ 1048576) (hb : ∀ x ∈ l, x.f1.length ≤ 9223372036854775807) (d : Nat) : ∀ (k i : Nat) (n : Int), i + d = l.length → d < k → 0 ≤ n → n ≤ 1048576 → ∃ v, laws_szKeyS.l0 k l n (i : Int) = some v ∧ v ≤ n ∧ (0 ≤ v → ∀ x ∈ l.drop i, x.f1.length ≤ 1048576) := by
 induction d with
 | zero =>
  intro k i n hi hk hn hn2
  obtain ⟨k, rfl⟩ : ∃ m, k = m + 1 := ⟨k - 1, by omega⟩
  simp only [laws_szKeyS.l0]
  rw [if_neg (by omega), List.drop_of_length_le (by omega)]
  exact ⟨n, rfl, Int.le_refl _, fun _ x hx => by cases hx⟩
 | succ d ih =>
  intro k i n hi hk hn hn2
  obtain ⟨k, rfl⟩ : ∃ m, k = m + 1 := ⟨k - 1, by omega⟩
  have hil : i < l.length := by omega
  have hw : wrap64 ((i : Int) + 1) = ((i + 1 : Nat) : Int) := by unfold wrap64; omega
  simp only [laws_szKeyS.l0]
  rw [if_pos (by omega), if_pos (by omega), rd_lk l i hil, hw]
  obtain ⟨v, hv, h1, h2⟩ := szK1 l[i].f0 l[i].f1 n hn hn2 (hb _ (List.getElem_mem hil))
  rw [hv]
  simp only [Option.bind_some]
  by_cases h : v < 0
  ·rw [if_pos h]
   exact ⟨-1, rfl, by omega, by omega⟩
  ·rw [if_neg h]
   obtain ⟨u, hu, u1, u2⟩ := ih k (i + 1) v (by omega) (by omega) (by omega) (by omega)
   refine ⟨u, hu, by omega, fun h0 x hx => ?_⟩
   rw [List.drop_eq_getElem_cons hil] at hx
   rcases List.mem_cons.1 hx with rfl | hx
   ·exact h2 (by omega)
   ·exact u2 h0 x hx
theorem szRing (k : Nat) (p : Int) (l : List S43) (n : Int) (hn : 0 ≤ n) (hn2 : n ≤ 1048576) (hl : l.length ≤ 9223372036854775807) (hb : ∀ x ∈ l, x.f1.length ≤ 9223372036854775807) (hk : 1048577 ≤ k) : ∃ v, laws_szRing.f k p l n = some v ∧ v ≤ n ∧ (0 ≤ v → okKs l) := by
 have hs : ∃ v, laws_szKeyS.f k l n = some v ∧ v ≤ n ∧ (0 ≤ v → okKs l) := by
  unfold laws_szKeyS.f
  have hw : wrap64 (n - (l.length : Int)) = n - (l.length : Int) := by unfold wrap64; omega
  rw [hw]
  by_cases h : n - (l.length : Int) < 0
  ·rw [if_pos h]
   exact ⟨-1, rfl, by omega, by omega⟩
  ·rw [if_neg h]
   obtain ⟨v, hv, h1, h2⟩ := szKs_loop l (by omega) hb l.length k 0 _ (by omega) (by omega) (show 0 ≤ n - (l.length : Int) by omega) (by omega)
   exact ⟨v, hv, by omega, fun h0 => ⟨by omega, by simpa using h2 h0⟩⟩
 obtain ⟨v, hv, h1, h2⟩ := hs
 unfold laws_szRing.f
 rw [hv]
 simp only [Option.bind_some]
 by_cases h : v < 0
 ·rw [if_pos h]
  exact ⟨-1, rfl, by omega, by omega⟩
 ·rw [if_neg h]
  exact ⟨v, rfl, h1, h2⟩
theorem toK1 (k : Nat) (x : S43) (hx : x.f1.length ≤ 1048576) (hk : 1048577 ≤ k) : laws_toKey.f k x.f0 x.f1 = some (x.f0, x.f1) := by
 unfold laws_toKey.f
 rw [toB k x.f1 hx (by omega)]
 rfl
theorem toKs_loop (l : List S43) (h : okKs l) (d : Nat) : ∀ (k i : Nat) (ys : List S25), i + d = l.length → d + 1048577 < k → ys.length = l.length → ys.take i = (ups l).take i → laws_toKeyS.l0 k l ys (i : Int) = some (ups l) := by
 have hl := h.1
 induction d with
 | zero =>
  intro k i ys hi hk hy ht
  obtain ⟨k, rfl⟩ : ∃ m, k = m + 1 := ⟨k - 1, by omega⟩
  simp only [laws_toKeyS.l0]
  rw [if_neg (by omega)]
  rw [List.take_of_length_le (by omega), List.take_of_length_le (by rw [ups_length]; omega)] at ht
  rw [ht]
 | succ d ih =>
  intro k i ys hi hk hy ht
  obtain ⟨k, rfl⟩ : ∃ m, k = m + 1 := ⟨k - 1, by omega⟩
  have hil : i < l.length := by omega
  have hw : wrap64 ((i : Int) + 1) = ((i + 1 : Nat) : Int) := by unfold wrap64; omega
  simp only [laws_toKeyS.l0]
  rw [if_pos (by omega), if_pos (by omega), rd_lk l i hil, toK1 k l[i] (h.2 _ (List.getElem_mem hil)) (by omega)]
  simp only [Option.bind_some]
  rw [if_pos (by omega), hw]
  refine ih k (i + 1) _ (by omega) (by omega) (by rw [List.length_set]; exact hy) ?_
  rw [Int.toNat_natCast, List.take_succ_eq_append_getElem (by rw [List.length_set]; omega), List.take_succ_eq_append_getElem (show i < (ups l).length by rw [ups_length]; exact hil), List.take_set_of_le (Nat.le_refl i), ht]
  congr 1
  rw [List.getElem_set_self]
  simp [ups, up]
theorem toRing (k : Nat) (p : Int) (l : List S43) (h : okKs l) (hk : 2097160 ≤ k) : laws_toRing.f k p l = some (p, ups l) := by
 have hl := h.1
 unfold laws_toRing.f laws_toKeyS.f
 have h9 := toKs_loop l h l.length k 0 (List.replicate ((l.length : Int) : Int).toNat z25) (by omega) (by omega) (by simp) (by simp)
 rw [show ((0 : Nat) : Int) = 0 from rfl] at h9
 rw [if_pos (by omega), if_pos (by omega), h9]
 rfl
theorem eqK1 (k : Nat) (a : Int) (l : List Int) (hx : l.length ≤ 1048576) (hk : 1048577 ≤ k) : laws_eqKey.f k a l a l = some true := by
 unfold laws_eqKey.f
 rw [if_pos rfl, eqB k l hx (by omega)]
 rfl
theorem eqKs_loop (l : List S25) (hl : l.length ≤ 1048576) (hb : ∀ x ∈ l, x.f1.length ≤ 1048576) (d : Nat) : ∀ (k i : Nat), i + d = l.length → d + 1048577 < k → laws_eqKeyS.l0 k l l (i : Int) = some true := by
 induction d with
 | zero =>
  intro k i hi hk
  obtain ⟨k, rfl⟩ : ∃ m, k = m + 1 := ⟨k - 1, by omega⟩
  simp only [laws_eqKeyS.l0]
  rw [if_neg (by omega)]
 | succ d ih =>
  intro k i hi hk
  obtain ⟨k, rfl⟩ : ∃ m, k = m + 1 := ⟨k - 1, by omega⟩
  have hil : i < l.length := by omega
  have hw : wrap64 ((i : Int) + 1) = ((i + 1 : Nat) : Int) := by unfold wrap64; omega
  simp only [laws_eqKeyS.l0]
  rw [if_pos (by omega), if_pos (by omega), if_pos (by omega), rd_get l i hil, eqK1 k _ _ (hb _ (List.getElem_mem hil)) (by omega)]
  simp only [Option.bind_some, if_true]
  rw [hw]
  exact ih k (i + 1) (by omega) (by omega)
theorem eqRingR (k : Nat) (p : Int) (l : List S25) (hl : l.length ≤ 1048576) (hb : ∀ x ∈ l, x.f1.length ≤ 1048576) (hk : 2097160 ≤ k) : laws_eqRing.f k p l p l = some true := by
 unfold laws_eqRing.f laws_eqKeyS.f
 have h9 := eqKs_loop l hl hb l.length k 0 (by omega) (by omega)
 rw [show ((0 : Nat) : Int) = 0 from rfl] at h9
 rw [if_pos rfl, if_pos rfl, h9]
 rfl
theorem okUp (l : List S43) (h : okKs l) : (ups l).length ≤ 1048576 ∧ ∀ x ∈ ups l, x.f1.length ≤ 1048576 := by
 refine ⟨by rw [ups_length]; exact h.1, fun x hx => ?_⟩
 obtain ⟨y, hy, rfl⟩ := List.mem_map.1 hx
 exact h.2 y hy
end Go.Proofs.Ytmnhddedcbkpoaa.All
