/- Bytes as bit vectors, and as the numbers that the program has. No Go program in it. -/
import Derived.Laws.BitsAllLaws
import Derived.Test.YtjfdcabgbcbdjaaAlg
import Derived.Test.YtjfdcabgbcbdjaaWWords
namespace Go.Proofs.Ytjfdcabgbcbdjaa
open Go.Proofs.YtjfdcabgbcbdjaaW.PrintWords

def bI (b : BitVec 8) : Int := (b.toNat : Int)
def bL (l : List (BitVec 8)) : List Int := l.map bI

theorem bI_lo (b : BitVec 8) : 0 ≤ bI b := by unfold bI; omega
theorem bI_hi (b : BitVec 8) : bI b < 256 := by have := b.isLt; unfold bI; omega
theorem bI_inj {a b : BitVec 8} (h : bI a = bI b) : a = b := by
  unfold bI at h
  exact BitVec.eq_of_toNat_eq (by omega)
theorem bI_zero : bI 0#8 = 0 := rfl
theorem bI_ofNat (n : Nat) (h : n < 256) : bI (BitVec.ofNat 8 n) = (n : Int) := by
  unfold bI
  rw [BitVec.toNat_ofNat, Nat.mod_eq_of_lt (by omega)]
theorem bI_of (x : Int) (h : (Lit.int .u8 x).wf = true) : ∃ b, x = bI b := by
  have hx : 0 ≤ x ∧ x < 256 := by
    simp [Lit.wf, IntKind.min, IntKind.max, IntKind.bits, IntKind.signed] at h
    exact ⟨by omega, by omega⟩
  refine ⟨BitVec.ofNat 8 x.toNat, ?_⟩
  rw [bI_ofNat _ (by omega)]
  omega
theorem bL_of : ∀ l : List Int, (∀ x ∈ l, (Lit.int .u8 x).wf = true) → ∃ m, l = bL m
  | [], _ => ⟨[], rfl⟩
  | x :: l, h => by
    obtain ⟨b, rfl⟩ := bI_of x (h x (by simp))
    obtain ⟨m, rfl⟩ := bL_of l (fun y hy => h y (by simp [hy]))
    exact ⟨b :: m, rfl⟩
theorem bL_length (m : List (BitVec 8)) : (bL m).length = m.length := by simp [bL]
theorem bL_nil : bL [] = [] := rfl
theorem bL_cons (b : BitVec 8) (m : List (BitVec 8)) : bL (b :: m) = bI b :: bL m := rfl
theorem bL_append (m n : List (BitVec 8)) : bL (m ++ n) = bL m ++ bL n := by simp [bL]
theorem bL_take (m : List (BitVec 8)) (k : Nat) : (bL m).take k = bL (m.take k) := by simp [bL, List.map_take]
theorem bL_drop (m : List (BitVec 8)) (k : Nat) : (bL m).drop k = bL (m.drop k) := by simp [bL, List.map_drop]
theorem bL_set (m : List (BitVec 8)) (k : Nat) (b : BitVec 8) : (bL m).set k (bI b) = bL (m.set k b) := by simp [bL, List.map_set]
theorem bL_replicate (n : Nat) (b : BitVec 8) : List.replicate n (bI b) = bL (List.replicate n b) := by simp [bL]
theorem bL_inj : ∀ {m n : List (BitVec 8)}, bL m = bL n → m = n
  | [], [], _ => rfl
  | [], _ :: _, h => by simp [bL] at h
  | _ :: _, [], h => by simp [bL] at h
  | a :: m, b :: n, h => by
    simp only [bL_cons, List.cons.injEq] at h
    rw [bI_inj h.1, bL_inj h.2]
theorem rd_bL (m : List (BitVec 8)) (i : Int) : rd (bL m) i = bI (m.getD i.toNat 0#8) := by
  unfold rd bL
  simp only [List.getD_eq_getElem?_getD, List.getElem?_map]
  cases m[i.toNat]? <;> rfl
theorem bL_wf (m : List (BitVec 8)) : ∀ x ∈ bL m, 0 ≤ x ∧ x < 256 := by
  intro x hx
  obtain ⟨b, _, rfl⟩ := List.mem_map.1 hx
  exact ⟨bI_lo b, bI_hi b⟩

def isBs (l : List Int) : Bool := l.all fun x => decide (0 ≤ x ∧ x < 256)
def unB (l : List Int) : List (BitVec 8) := l.map fun x => BitVec.ofNat 8 x.toNat
theorem unB_bL (m : List (BitVec 8)) : unB (bL m) = m := by
  unfold unB bL bI
  rw [List.map_map]
  conv => rhs; rw [← List.map_id m]
  refine List.map_congr_left fun b _ => ?_
  simp
theorem isBs_bL {l : List Int} (h : isBs l = true) : l = bL (unB l) := by
  unfold unB bL
  rw [List.map_map]
  conv => lhs; rw [← List.map_id l]
  refine List.map_congr_left fun x hx => ?_
  have h1 := List.all_eq_true.1 h x hx
  simp only [decide_eq_true_eq] at h1
  simp only [Function.comp, id]
  rw [bI_ofNat _ (by omega)]
  omega
theorem bL_isBs (m : List (BitVec 8)) : isBs (bL m) = true := by
  unfold isBs
  rw [List.all_eq_true]
  intro x hx
  simpa using bL_wf m x hx
theorem bI_xor (a b : BitVec 8) : Go.bits .xor .u8 (bI a) (bI b) = bI (a ^^^ b) := by
  unfold bI
  rw [u8_xor_nat _ _ a.isLt b.isLt, BitVec.toNat_xor]
theorem bI_or (a b : BitVec 8) : Go.bits .or .u8 (bI a) (bI b) = bI (a ||| b) := by
  unfold bI
  rw [u8_or_nat _ _ a.isLt b.isLt, BitVec.toNat_or]
theorem bI_succ (b : BitVec 8) : (bI b + 1) % (256 : Int) = bI (b + 1#8) := by
  unfold bI
  rw [BitVec.toNat_add]
  simp
theorem bI_mod (b : BitVec 8) : bI b % 256 = bI b := by
  have := bI_lo b
  have := bI_hi b
  omega
theorem bI_eq (a b : BitVec 8) : (bI a = bI b) ↔ a = b := ⟨bI_inj, fun h => by rw [h]⟩

/-! ### the field -/
def xt (a : BitVec 8) : BitVec 8 := if a.toNat ≥ 128 then (a <<< 1) ^^^ 27#8 else a <<< 1
theorem bI_dbl (a : BitVec 8) : (bI a * (2 : Int)) % (256 : Int) = bI (a <<< 1) := by
  unfold bI
  rw [BitVec.toNat_shiftLeft, Nat.shiftLeft_eq]
  omega
theorem bI_xt (a : BitVec 8) : (if bI a ≥ 128 then (some (Go.bits .xor .u8 ((bI a * 2) % 256) 27)) else (some ((bI a * 2) % 256))) = some (bI (xt a)) := by
  unfold xt
  rw [bI_dbl]
  by_cases h : a.toNat ≥ 128
  · rw [if_pos h, if_pos (by unfold bI; omega), show (27 : Int) = bI 27#8 from rfl, bI_xor]
  · rw [if_neg h, if_neg (by unfold bI; omega)]

def bitsB (b : BitVec 8) : List Bool := (List.range 8).map fun i => b.getLsbD i
def ft (a b : BitVec 8) : BitVec 8 := opX xt (bitsB b) a 0#8

def all8 (p : BitVec 8 → Bool) : Bool := (List.range 256).all fun n => p (BitVec.ofNat 8 n)
theorem of_all8 {p : BitVec 8 → Bool} (h : all8 p = true) (b : BitVec 8) : p b = true := by
  have := (List.all_eq_true.1 h) b.toNat (List.mem_range.2 b.isLt)
  simpa using this

theorem xt_bits (a : BitVec 8) : xt a = (a <<< 1) ^^^ (if a.getLsbD 7 = true then 27#8 else 0#8) := by
  have h := of_all8 (p := fun a => xt a == (a <<< 1) ^^^ (if a.getLsbD 7 = true then 27#8 else 0#8)) (by decide +kernel) a
  simpa using h
theorem xt_add (a b : BitVec 8) : xt (a ^^^ b) = xt a ^^^ xt b := by
  rw [xt_bits, xt_bits a, xt_bits b, BitVec.getLsbD_xor, BitVec.shiftLeft_xor_distrib]
  rw [xor4]
  congr 1
  cases a.getLsbD 7 <;> cases b.getLsbD 7 <;> decide
theorem ft_rep (a : BitVec 8) : opX xt (bitsB a) 1#8 0#8 = a := by
  have h := of_all8 (p := fun a => opX xt (bitsB a) 1#8 0#8 == a) (by decide +kernel) a
  simpa using h
theorem ft_comm (a b : BitVec 8) : ft a b = ft b a := mulX_comm xt_add bitsB 1#8 ft_rep a b
theorem ft_add (a b c : BitVec 8) : ft a (b ^^^ c) = ft a b ^^^ ft a c := mulX_add_right xt_add bitsB 1#8 ft_rep a b c
theorem ft_add_left (a b c : BitVec 8) : ft (a ^^^ b) c = ft a c ^^^ ft b c := mulX_add_left xt_add bitsB a b c
theorem ft_assoc (a b c : BitVec 8) : ft (ft a b) c = ft a (ft b c) := mulX_assoc xt_add bitsB 1#8 ft_rep a b c
theorem ft_one (a : BitVec 8) : ft a 1#8 = a := mulX_one xt_add bitsB 1#8 ft_rep a
theorem ft_zero (a : BitVec 8) : ft a 0#8 = 0#8 := by
  have h := ft_add a 0#8 0#8
  rw [BitVec.xor_self, BitVec.xor_self] at h
  exact h
theorem ft_two (a : BitVec 8) : ft a 2#8 = xt a := by
  have h := of_all8 (p := fun a => ft a 2#8 == xt a) (by decide +kernel) a
  simpa using h
theorem ft_three (a : BitVec 8) : ft a 3#8 = xt a ^^^ a := by
  rw [show (3#8 : BitVec 8) = 2#8 ^^^ 1#8 from rfl, ft_add, ft_two, ft_one]

/-- The power 254, as the program reckons it. -/
def invLoop : Nat → BitVec 8 → BitVec 8 → BitVec 8
  | 0, o, _ => o
  | n + 1, o, p => invLoop n (ft o (ft p p)) (ft p p)
def finv (a : BitVec 8) : BitVec 8 := invLoop 7 1#8 a
theorem finv_zero : finv 0#8 = 0#8 := by decide +kernel
theorem finv_one (a : BitVec 8) (h : a ≠ 0#8) : ft a (finv a) = 1#8 := by
  have h2 := of_all8 (p := fun a => a == 0#8 || ft a (finv a) == 1#8) (by decide +kernel) a
  simpa [h] using h2
theorem finv_unique (a b : BitVec 8) (h : ft a b = 1#8) : b = finv a := by
  by_cases h0 : a = 0#8
  · subst h0
    rw [ft_comm, ft_zero] at h
    exact absurd h (by decide)
  · have h1 := finv_one a h0
    rw [← ft_one (finv a), ← h, ← ft_assoc, ft_comm (finv a) a, h1, ft_comm, ft_one]
end Go.Proofs.Ytjfdcabgbcbdjaa
