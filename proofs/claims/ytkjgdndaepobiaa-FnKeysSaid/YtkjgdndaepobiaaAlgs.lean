-- Laid by wip/shake.py of this repo out of this claim's texts. Not trusted: Lean checks it.
import Derived.Laws.BitsAllLaws
import Derived.Test.YtkjgdndaepobiaaWs0
section
namespace Go.Proofs.Ytkjgdndaepobiaa
section
variable {w : Nat} (X : BitVec w → BitVec w)
def opX : List Bool → BitVec w → BitVec w → BitVec w
 | [], _, o => o
 | c :: cs, a, o => opX cs (X a) (if c = true then o ^^^ a else o)
variable {X}
section
end
end
end Go.Proofs.Ytkjgdndaepobiaa
end
section
namespace Go.Proofs.Ytkjgdndaepobiaa
open Go.Proofs.YtkjgdndaepobiaaW.PrintWords
def bI (b : BitVec 8) : Int := (b.toNat : Int)
def bL (l : List (BitVec 8)) : List Int := l.map bI
theorem bI_lo (b : BitVec 8) : 0 ≤ bI b := by unfold bI; omega
theorem bI_hi (b : BitVec 8) : bI b < 256 := by have := b.isLt; unfold bI; omega
theorem bI_ofNat (n : Nat) (h : n < 256) : bI (BitVec.ofNat 8 n) = (n : Int) := by
 unfold bI
 rw [BitVec.toNat_ofNat, Nat.mod_eq_of_lt (by omega)]
theorem bI_of (x : Int) (h : (Lit.int .u8 x).wf = true) : ∃ b, x = bI b := by
 have hx : 0 ≤ x ∧ x < 256 := by
  simp [Lit.wf, IntKind.min, IntKind.max, IntKind.bits, IntKind.signed] at h
  exact ⟨by omega, by omega⟩
 refine ⟨BitVec.ofNat 8 x.toNat, ?_⟩
 rw [bI_ofNat _ (by omega)]
 omega
theorem bL_of : ∀ l : List Int, (∀ x ∈ l, (Lit.int .u8 x).wf = true) → ∃ m, l = bL m
 | [], _ => ⟨[], rfl⟩
 | x :: l, h => by
  obtain ⟨b, rfl⟩ := bI_of x (h x (by simp))
  obtain ⟨m, rfl⟩ := bL_of l (fun y hy => h y (by simp [hy]))
  exact ⟨b :: m, rfl⟩
theorem bL_length (m : List (BitVec 8)) : (bL m).length = m.length := by simp [bL]
theorem bL_cons (b : BitVec 8) (m : List (BitVec 8)) : bL (b :: m) = bI b :: bL m := rfl
theorem bL_append (m n : List (BitVec 8)) : bL (m ++ n) = bL m ++ bL n := by simp [bL]
theorem rd_bL (m : List (BitVec 8)) (i : Int) : rd (bL m) i = bI (m.getD i.toNat 0#8) := by
 unfold rd bL
 simp only [List.getD_eq_getElem?_getD, List.getElem?_map]
 cases m[i.toNat]? <;> rfl
theorem bL_wf (m : List (BitVec 8)) : ∀ x ∈ bL m, 0 ≤ x ∧ x < 256 := by
 intro x hx
 obtain ⟨b, _, rfl⟩ := List.mem_map.1 hx
 exact ⟨bI_lo b, bI_hi b⟩
def isBs (l : List Int) : Bool := l.all fun x => decide (0 ≤ x ∧ x < 256)
def unB (l : List Int) : List (BitVec 8) := l.map fun x => BitVec.ofNat 8 x.toNat
theorem unB_bL (m : List (BitVec 8)) : unB (bL m) = m := by
 unfold unB bL bI
 rw [List.map_map]
 conv => rhs; rw [← List.map_id m]
 refine List.map_congr_left fun b _ => ?_
 simp
theorem isBs_bL {l : List Int} (h : isBs l = true) : l = bL (unB l) := by
 unfold unB bL
 rw [List.map_map]
 conv => lhs; rw [← List.map_id l]
 refine List.map_congr_left fun x hx => ?_
 have h1 := List.all_eq_true.1 h x hx
 simp only [decide_eq_true_eq] at h1
 simp only [Function.comp, id]
 rw [bI_ofNat _ (by omega)]
 omega
theorem bL_isBs (m : List (BitVec 8)) : isBs (bL m) = true := by
 unfold isBs
 rw [List.all_eq_true]
 intro x hx
 simpa using bL_wf m x hx
theorem bI_xor (a b : BitVec 8) : Go.bits .xor .u8 (bI a) (bI b) = bI (a ^^^ b) := by
 unfold bI
 rw [u8_xor_nat _ _ a.isLt b.isLt, BitVec.toNat_xor]
def xt (a : BitVec 8) : BitVec 8 := if a.toNat ≥ 128 then (a <<< 1) ^^^ 27#8 else a <<< 1
theorem bI_dbl (a : BitVec 8) : (bI a * (2 : Int)) % (256 : Int) = bI (a <<< 1) := by
 unfold bI
 rw [BitVec.toNat_shiftLeft, Nat.shiftLeft_eq]
 omega
theorem bI_xt (a : BitVec 8) : (if bI a ≥ 128 then (some (Go.bits .xor .u8 ((bI a * 2) % 256) 27)) else (some ((bI a * 2) % 256))) = some (bI (xt a)) := by
 unfold xt
 rw [bI_dbl]
 by_cases h : a.toNat ≥ 128
 ·rw [if_pos h, if_pos (by unfold bI; omega), show (27 : Int) = bI 27#8 from rfl, bI_xor]
 ·rw [if_neg h, if_neg (by unfold bI; omega)]
def bitsB (b : BitVec 8) : List Bool := (List.range 8).map fun i => b.getLsbD i
def ft (a b : BitVec 8) : BitVec 8 := opX xt (bitsB b) a 0#8
def all8 (p : BitVec 8 → Bool) : Bool := (List.range 256).all fun n => p (BitVec.ofNat 8 n)
theorem of_all8 {p : BitVec 8 → Bool} (h : all8 p = true) (b : BitVec 8) : p b = true := by
 have := (List.all_eq_true.1 h) b.toNat (List.mem_range.2 b.isLt)
 simpa using this
theorem ft_two (a : BitVec 8) : ft a 2#8 = xt a := by
 have h := of_all8 (p := fun a => ft a 2#8 == xt a) (by decide +kernel) a
 simpa using h
end Go.Proofs.Ytkjgdndaepobiaa
end
section
namespace Go.Proofs.Ytkjgdndaepobiaa
open Go.Proofs.YtkjgdndaepobiaaW.PrintWords
def boxN : List Nat := [99, 124, 119, 123, 242, 107, 111, 197, 48, 1, 103, 43, 254, 215, 171, 118, 202, 130, 201, 125, 250, 89, 71, 240, 173, 212, 162, 175, 156, 164, 114, 192, 183, 253, 147, 38, 54, 63, 247, 204, 52, 165, 229, 241, 113, 216, 49, 21, 4, 199, 35, 195, 24, 150, 5, 154, 7, 18, 128, 226, 235, 39, 178, 117, 9, 131, 44, 26, 27, 110, 90, 160, 82, 59, 214, 179, 41, 227, 47, 132, 83, 209, 0, 237, 32, 252, 177, 91, 106, 203, 190, 57, 74, 76, 88, 207, 208, 239, 170, 251, 67, 77, 51, 133, 69, 249, 2, 127, 80, 60, 159, 168, 81, 163, 64, 143, 146, 157, 56, 245, 188, 182, 218, 33, 16, 255, 243, 210, 205, 12, 19, 236, 95, 151, 68, 23, 196, 167, 126, 61, 100, 93, 25, 115, 96, 129, 79, 220, 34, 42, 144, 136, 70, 238, 184, 20, 222, 94, 11, 219, 224, 50, 58, 10, 73, 6, 36, 92, 194, 211, 172, 98, 145, 149, 228, 121, 231, 200, 55, 109, 141, 213, 78, 169, 108, 86, 244, 234, 101, 122, 174, 8, 186, 120, 37, 46, 28, 166, 180, 198, 232, 221, 116, 31, 75, 189, 139, 138, 112, 62, 181, 102, 72, 3, 246, 14, 97, 53, 87, 185, 134, 193, 29, 158, 225, 248, 152, 17, 105, 217, 142, 148, 155, 30, 135, 233, 206, 85, 40, 223, 140, 161, 137, 13, 191, 230, 66, 104, 65, 153, 45, 15, 176, 84, 187, 22]
def SB (b : BitVec 8) : BitVec 8 := BitVec.ofNat 8 (boxN.getD b.toNat 0)
def by_ (xs : List (BitVec 8)) (i : Nat) : BitVec 8 := xs.getD i 0#8
def tab (n : Nat) (f : Nat → BitVec 8) : List (BitVec 8) := (List.range n).map f
theorem tab_length (n : Nat) (f : Nat → BitVec 8) : (tab n f).length = n := by simp [tab]
theorem tab_get (n : Nat) (f : Nat → BitVec 8) (i : Nat) (h : i < n) : by_ (tab n f) i = f i := by
 unfold by_ tab
 rw [List.getD_eq_getElem?_getD, List.getElem?_map, List.getElem?_range h]
 rfl
theorem tab_congr {n : Nat} {f g : Nat → BitVec 8} (h : ∀ i, i < n → f i = g i) : tab n f = tab n g :=
 List.map_congr_left fun i hi => h i (List.mem_range.1 hi)
theorem tab_self (xs : List (BitVec 8)) : tab xs.length (by_ xs) = xs := by
 apply List.ext_getElem?
 intro i
 unfold tab by_
 rw [List.getElem?_map]
 rcases Nat.lt_or_ge i xs.length with h | h
 ·rw [List.getElem?_range h]
  simp [List.getElem?_eq_getElem h]
 ·rw [List.getElem?_eq_none (by simpa using h), List.getElem?_eq_none h]
  rfl
theorem tab_eq {n : Nat} {xs : List (BitVec 8)} (hl : xs.length = n) {f : Nat → BitVec 8} (h : ∀ i, i < n → by_ xs i = f i) : xs = tab n f := by
 subst hl
 exact (tab_self xs).symm.trans (tab_congr h)
theorem by_out (xs : List (BitVec 8)) (i : Nat) (h : xs.length ≤ i) : by_ xs i = 0#8 := by
 unfold by_
 rw [List.getD_eq_getElem?_getD, List.getElem?_eq_none h]
 rfl
def rcon : Nat → BitVec 8
 | 0 => 1#8
 | n + 1 => xt (rcon n)
def rconFrom (c : BitVec 8) : Nat → BitVec 8
 | 0 => c
 | n + 1 => rconFrom (xt c) n
theorem rconFrom_xt : ∀ (n : Nat) (c : BitVec 8), rconFrom (xt c) n = xt (rconFrom c n)
 | 0, _ => rfl
 | n + 1, c => rconFrom_xt n (xt c)
theorem rconFrom_one : ∀ n, rconFrom 1#8 n = rcon n
 | 0 => rfl
 | n + 1 => by
  rw [rcon, ← rconFrom_one n, ← rconFrom_xt]
  rfl
def keyT (xs : List (BitVec 8)) (i : Nat) (k : Nat) : BitVec 8 :=
 if i % 16 = 0 then SB (by_ xs (i - 4 + (k + 1) % 4)) ^^^ (if k = 0 then rcon (i / 16 - 1) else 0#8) else by_ xs (i - 4 + k)
def keyStep (xs : List (BitVec 8)) (i : Nat) : List (BitVec 8) :=
 xs ++ (List.range 4).map fun k => by_ xs (i + k - 16) ^^^ keyT xs i k
def keyTo (key : List (BitVec 8)) : Nat → List (BitVec 8)
 | 0 => key
 | n + 1 => keyStep (keyTo key n) (16 + 4 * n)
def schedL (key : List (BitVec 8)) : List (BitVec 8) := keyTo key 40
theorem keyTo_length (key : List (BitVec 8)) (h : key.length = 16) : ∀ n, (keyTo key n).length = 16 + 4 * n
 | 0 => h
 | n + 1 => by
  have := keyTo_length key h n
  simp [keyTo, keyStep, this]
  omega
theorem schedL_length (key : List (BitVec 8)) (h : key.length = 16) : (schedL key).length = 176 := keyTo_length key h 40
end Go.Proofs.Ytkjgdndaepobiaa
end
section
namespace Go.Proofs.Ytkjgdndaepobiaa
open Go.Proofs.YtkjgdndaepobiaaW.PrintWords
theorem tab_set (n : Nat) (f : Nat → BitVec 8) (i : Nat) (b : BitVec 8) (h : i < n) : (tab n f).set i b = tab n fun j => if j = i then b else f j := by
 apply List.ext_getElem?
 intro j
 unfold tab
 rw [List.getElem?_set, List.getElem?_map]
 by_cases e : i = j
 ·subst e
  simp [h]
 ·rw [if_neg e]
  rcases Nat.lt_or_ge j n with hj | hj
  ·have e2 : ¬ j = i := fun q => e q.symm
   simp [List.getElem?_range hj, e2]
  ·rw [List.getElem?_eq_none (by simpa using hj), List.getElem?_eq_none (by simpa using hj)]
   rfl
end Go.Proofs.Ytkjgdndaepobiaa
end
