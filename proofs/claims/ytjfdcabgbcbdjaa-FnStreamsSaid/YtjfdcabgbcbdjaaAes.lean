/- The cipher in plain Lean: what the program's blocks become, on lists of bytes. No Go program in it. -/
import Derived.Test.YtjfdcabgbcbdjaaByte
namespace Go.Proofs.Ytjfdcabgbcbdjaa
open Go.Proofs.YtjfdcabgbcbdjaaW.PrintWords

def boxN : List Nat := [99, 124, 119, 123, 242, 107, 111, 197, 48, 1, 103, 43, 254, 215, 171, 118, 202, 130, 201, 125, 250, 89, 71, 240, 173, 212, 162, 175, 156, 164, 114, 192, 183, 253, 147, 38, 54, 63, 247, 204, 52, 165, 229, 241, 113, 216, 49, 21, 4, 199, 35, 195, 24, 150, 5, 154, 7, 18, 128, 226, 235, 39, 178, 117, 9, 131, 44, 26, 27, 110, 90, 160, 82, 59, 214, 179, 41, 227, 47, 132, 83, 209, 0, 237, 32, 252, 177, 91, 106, 203, 190, 57, 74, 76, 88, 207, 208, 239, 170, 251, 67, 77, 51, 133, 69, 249, 2, 127, 80, 60, 159, 168, 81, 163, 64, 143, 146, 157, 56, 245, 188, 182, 218, 33, 16, 255, 243, 210, 205, 12, 19, 236, 95, 151, 68, 23, 196, 167, 126, 61, 100, 93, 25, 115, 96, 129, 79, 220, 34, 42, 144, 136, 70, 238, 184, 20, 222, 94, 11, 219, 224, 50, 58, 10, 73, 6, 36, 92, 194, 211, 172, 98, 145, 149, 228, 121, 231, 200, 55, 109, 141, 213, 78, 169, 108, 86, 244, 234, 101, 122, 174, 8, 186, 120, 37, 46, 28, 166, 180, 198, 232, 221, 116, 31, 75, 189, 139, 138, 112, 62, 181, 102, 72, 3, 246, 14, 97, 53, 87, 185, 134, 193, 29, 158, 225, 248, 152, 17, 105, 217, 142, 148, 155, 30, 135, 233, 206, 85, 40, 223, 140, 161, 137, 13, 191, 230, 66, 104, 65, 153, 45, 15, 176, 84, 187, 22]
def SB (b : BitVec 8) : BitVec 8 := BitVec.ofNat 8 (boxN.getD b.toNat 0)
def by_ (xs : List (BitVec 8)) (i : Nat) : BitVec 8 := xs.getD i 0#8

/-- n bytes, one by one. -/
def tab (n : Nat) (f : Nat → BitVec 8) : List (BitVec 8) := (List.range n).map f
theorem tab_length (n : Nat) (f : Nat → BitVec 8) : (tab n f).length = n := by simp [tab]
theorem tab_get (n : Nat) (f : Nat → BitVec 8) (i : Nat) (h : i < n) : by_ (tab n f) i = f i := by
  unfold by_ tab
  rw [List.getD_eq_getElem?_getD, List.getElem?_map, List.getElem?_range h]
  rfl
theorem tab_congr {n : Nat} {f g : Nat → BitVec 8} (h : ∀ i, i < n → f i = g i) : tab n f = tab n g :=
  List.map_congr_left fun i hi => h i (List.mem_range.1 hi)
theorem tab_self (xs : List (BitVec 8)) : tab xs.length (by_ xs) = xs := by
  apply List.ext_getElem?
  intro i
  unfold tab by_
  rw [List.getElem?_map]
  rcases Nat.lt_or_ge i xs.length with h | h
  · rw [List.getElem?_range h]
    simp [List.getElem?_eq_getElem h]
  · rw [List.getElem?_eq_none (by simpa using h), List.getElem?_eq_none h]
    rfl
theorem tab_eq {n : Nat} {xs : List (BitVec 8)} (hl : xs.length = n) {f : Nat → BitVec 8} (h : ∀ i, i < n → by_ xs i = f i) : xs = tab n f := by
  subst hl
  exact (tab_self xs).symm.trans (tab_congr h)

/-- The first sixteen bytes, zeros behind. -/
def pad16 (xs : List (BitVec 8)) : List (BitVec 8) := tab 16 (by_ xs)
theorem pad16_length (xs : List (BitVec 8)) : (pad16 xs).length = 16 := tab_length _ _
theorem pad16_self (xs : List (BitVec 8)) (h : xs.length = 16) : pad16 xs = xs := by unfold pad16; rw [← h, tab_self]
theorem by_out (xs : List (BitVec 8)) (i : Nat) (h : xs.length ≤ i) : by_ xs i = 0#8 := by
  unfold by_
  rw [List.getD_eq_getElem?_getD, List.getElem?_eq_none h]
  rfl
/-- One more at the end: the last four bytes as a number. -/
def upTo (xs : List (BitVec 8)) : Nat → Nat → List (BitVec 8)
  | 0, _ => xs
  | n + 1, i => if by_ xs i + 1#8 ≠ 0#8 then xs.set i (by_ xs i + 1#8) else upTo (xs.set i (by_ xs i + 1#8)) n (i - 1)
def upL (xs : List (BitVec 8)) : List (BitVec 8) := upTo xs 4 15
theorem upTo_length : ∀ (n : Nat) (xs : List (BitVec 8)) (i : Nat), (upTo xs n i).length = xs.length
  | 0, _, _ => rfl
  | n + 1, xs, i => by
    unfold upTo
    split
    · simp
    · rw [upTo_length n]
      simp
theorem upL_length' (xs : List (BitVec 8)) : (upL xs).length = xs.length := upTo_length _ _ _
def subL (xs : List (BitVec 8)) : List (BitVec 8) := tab 16 fun i => SB (by_ xs i)
def shiftL (xs : List (BitVec 8)) : List (BitVec 8) := tab 16 fun i => by_ xs (i % 4 + 4 * ((i / 4 + i % 4) % 4))
def mixAt (xs : List (BitVec 8)) (i : Nat) : BitVec 8 :=
  xt (by_ xs i) ^^^ xt (by_ xs (i / 4 * 4 + (i % 4 + 1) % 4)) ^^^ by_ xs (i / 4 * 4 + (i % 4 + 1) % 4) ^^^ by_ xs (i / 4 * 4 + (i % 4 + 2) % 4) ^^^ by_ xs (i / 4 * 4 + (i % 4 + 3) % 4)
def mixL (xs : List (BitVec 8)) : List (BitVec 8) := tab 16 (mixAt xs)
theorem mixAt_eq (xs : List (BitVec 8)) (c r : Nat) (hc : c % 4 = 0) (hr : r < 4) : mixAt xs (c + r) =
    xt (by_ xs (c + r)) ^^^ xt (by_ xs (c + (r + 1) % 4)) ^^^ by_ xs (c + (r + 1) % 4) ^^^ by_ xs (c + (r + 2) % 4) ^^^ by_ xs (c + (r + 3) % 4) := by
  unfold mixAt
  rw [show (c + r) / 4 * 4 = c by omega, show (c + r) % 4 = r by omega]
def addL (ks : List (BitVec 8)) (r : Nat) (xs : List (BitVec 8)) : List (BitVec 8) := tab 16 fun i => by_ xs i ^^^ by_ ks (16 * r + i)
/-- So many rounds, from the first. -/
def encTo (ks xs : List (BitVec 8)) : Nat → List (BitVec 8)
  | 0 => addL ks 0 xs
  | r + 1 => addL ks (r + 1) (mixL (shiftL (subL (encTo ks xs r))))
def encL (ks xs : List (BitVec 8)) : List (BitVec 8) := addL ks 10 (shiftL (subL (encTo ks xs 9)))
theorem subL_length (xs : List (BitVec 8)) : (subL xs).length = 16 := tab_length _ _
theorem shiftL_length (xs : List (BitVec 8)) : (shiftL xs).length = 16 := tab_length _ _
theorem mixL_length (xs : List (BitVec 8)) : (mixL xs).length = 16 := tab_length _ _
theorem addL_length (ks : List (BitVec 8)) (r : Nat) (xs : List (BitVec 8)) : (addL ks r xs).length = 16 := tab_length _ _
theorem encTo_length (ks xs : List (BitVec 8)) (r : Nat) : (encTo ks xs r).length = 16 := by cases r <;> exact addL_length _ _ _
theorem encL_length (ks xs : List (BitVec 8)) : (encL ks xs).length = 16 := addL_length _ _ _

/-- The round constant of a word's number: 1, 2, 4, .. -/
def rcon : Nat → BitVec 8
  | 0 => 1#8
  | n + 1 => xt (rcon n)
def rconFrom (c : BitVec 8) : Nat → BitVec 8
  | 0 => c
  | n + 1 => rconFrom (xt c) n
theorem rconFrom_xt : ∀ (n : Nat) (c : BitVec 8), rconFrom (xt c) n = xt (rconFrom c n)
  | 0, _ => rfl
  | n + 1, c => rconFrom_xt n (xt c)
theorem rconFrom_one : ∀ n, rconFrom 1#8 n = rcon n
  | 0 => rfl
  | n + 1 => by
    rw [rcon, ← rconFrom_one n, ← rconFrom_xt]
    rfl
/-- The bytes that are xored into four new ones, out of the last four. -/
def keyT (xs : List (BitVec 8)) (i : Nat) (k : Nat) : BitVec 8 :=
  if i % 16 = 0 then SB (by_ xs (i - 4 + (k + 1) % 4)) ^^^ (if k = 0 then rcon (i / 16 - 1) else 0#8) else by_ xs (i - 4 + k)
/-- The words behind the first i bytes. -/
def keyStep (xs : List (BitVec 8)) (i : Nat) : List (BitVec 8) :=
  xs ++ (List.range 4).map fun k => by_ xs (i + k - 16) ^^^ keyT xs i k
def keyTo (key : List (BitVec 8)) : Nat → List (BitVec 8)
  | 0 => key
  | n + 1 => keyStep (keyTo key n) (16 + 4 * n)
def schedL (key : List (BitVec 8)) : List (BitVec 8) := keyTo key 40
theorem keyTo_length (key : List (BitVec 8)) (h : key.length = 16) : ∀ n, (keyTo key n).length = 16 + 4 * n
  | 0 => h
  | n + 1 => by
    have := keyTo_length key h n
    simp [keyTo, keyStep, this]
    omega
theorem schedL_length (key : List (BitVec 8)) (h : key.length = 16) : (schedL key).length = 176 := keyTo_length key h 40
end Go.Proofs.Ytjfdcabgbcbdjaa
