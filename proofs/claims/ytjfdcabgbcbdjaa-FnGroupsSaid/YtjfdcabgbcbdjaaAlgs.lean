-- Laid by wip/shake.py of this repo out of this claim's texts. Not trusted: Lean checks it.
import Derived.Laws.BitsAllLaws
import Derived.Test.YtjfdcabgbcbdjaaWs0
import Derived.Test.YtjfdcabgbcbdjaaProg
import Derived.Below
import Derived.Deep.Draws
import Derived.Deep.AppendLies
import Derived.OwnWalk
import Derived.Laws.MakeOwn
import Derived.Laws.OwnMore
import Derived.Deep.OwnRows
import Derived.Tactics
import Derived.Laws.Slices
import Derived.WalkKit
import Derived.KernelRfl
import Derived.RowKit3
import Derived.WideLaws
import Derived.Laws.Rows
import Derived.Laws.CopyRow
import Derived.Laws.BitsLemmas
import Derived.StillTailTactics
import Derived.Deep.QuietTactic
import Derived.BigQuiet
import Derived.Deep.RegionHeld3
import Derived.Deep.RegionWith
import Derived.RowKit
import Derived.Maps.AppendAt
import Derived.Laws.BytesArg
import Derived.Lib.ConvBytes
import Derived.Deep.LoopGhost
import Derived.Deep.DeepCutAuto
import Derived.Deep.CutBlock
import Derived.Lib.AppendStr
import Derived.ArgAppend
import Derived.Laws.IdiomCopy
import Derived.OrdersHeld
import Derived.Laws.StructEq
section
namespace Go.Proofs.Ytjfdcabgbcbdjaa
section
variable {w : Nat} (X : BitVec w → BitVec w)
def opX : List Bool → BitVec w → BitVec w → BitVec w
 | [], _, o => o
 | c :: cs, a, o => opX cs (X a) (if c = true then o ^^^ a else o)
theorem xor4 (a b c d : BitVec w) : (a ^^^ b) ^^^ (c ^^^ d) = (a ^^^ c) ^^^ (b ^^^ d) := by
 rw [BitVec.xor_assoc, ← BitVec.xor_assoc b c d, BitVec.xor_comm b c, BitVec.xor_assoc c b d, ← BitVec.xor_assoc]
variable {X}
theorem X_zero (hX : ∀ a b, X (a ^^^ b) = X a ^^^ X b) : X 0#w = 0#w := by
 have h := hX 0#w 0#w
 rw [BitVec.xor_self, BitVec.xor_self] at h
 exact h
theorem opX_add (hX : ∀ a b, X (a ^^^ b) = X a ^^^ X b) (bs : List Bool) : ∀ a b o p, opX X bs (a ^^^ b) (o ^^^ p) = opX X bs a o ^^^ opX X bs b p := by
 induction bs with
 | nil => intro a b o p; rfl
 | cons c cs ih =>
  intro a b o p
  simp only [opX]
  rw [hX]
  cases c
  ·simpa using ih _ _ _ _
  ·simp only [if_true]
   rw [xor4 o p a b]
   exact ih _ _ _ _
theorem opX_zero (hX : ∀ a b, X (a ^^^ b) = X a ^^^ X b) (bs : List Bool) : opX X bs 0#w 0#w = 0#w := by
 have h := opX_add hX bs 0#w 0#w 0#w 0#w
 rw [BitVec.xor_self, BitVec.xor_self] at h
 exact h
theorem opX_map (F : BitVec w → BitVec w) (hF : ∀ a b, F (a ^^^ b) = F a ^^^ F b) (hFX : ∀ a, F (X a) = X (F a)) (bs : List Bool) :
  ∀ a o, F (opX X bs a o) = opX X bs (F a) (F o) := by
 induction bs with
 | nil => intro a o; rfl
 | cons c cs ih =>
  intro a o
  simp only [opX]
  rw [ih, hFX]
  cases c
  ·simp
  ·simp [hF]
theorem opX_X (hX : ∀ a b, X (a ^^^ b) = X a ^^^ X b) (bs : List Bool) (a o : BitVec w) : X (opX X bs a o) = opX X bs (X a) (X o) :=
 opX_map X hX (fun _ => rfl) bs a o
theorem opX_swap (hX : ∀ a b, X (a ^^^ b) = X a ^^^ X b) (bs cs : List Bool) (a : BitVec w) : opX X bs (opX X cs a 0#w) 0#w = opX X cs (opX X bs a 0#w) 0#w := by
 have hF : ∀ a b, opX X bs (a ^^^ b) 0#w = opX X bs a 0#w ^^^ opX X bs b 0#w := fun a b => by
  have h := opX_add hX bs a b 0#w 0#w
  rwa [BitVec.xor_zero] at h
 have h := opX_map (fun a => opX X bs a 0#w) hF (fun a => by
  have h := opX_X hX bs a 0#w
  rw [X_zero hX] at h
  exact h.symm) cs a 0#w
 simpa [opX_zero hX] using h
section
theorem mulX_comm (hX : ∀ a b, X (a ^^^ b) = X a ^^^ X b) (bits : BitVec w → List Bool) (e : BitVec w) (hrep : ∀ a, opX X (bits a) e 0#w = a) (a b : BitVec w) : opX X (bits b) a 0#w = opX X (bits a) b 0#w := by
 have h := opX_swap hX (bits b) (bits a) e
 rwa [hrep, hrep] at h
theorem mulX_add_left (hX : ∀ a b, X (a ^^^ b) = X a ^^^ X b) (bits : BitVec w → List Bool) (a b c : BitVec w) : opX X (bits c) (a ^^^ b) 0#w = opX X (bits c) a 0#w ^^^ opX X (bits c) b 0#w := by
 have h := opX_add hX (bits c) a b 0#w 0#w
 rwa [BitVec.xor_zero] at h
theorem mulX_add_right (hX : ∀ a b, X (a ^^^ b) = X a ^^^ X b) (bits : BitVec w → List Bool) (e : BitVec w) (hrep : ∀ a, opX X (bits a) e 0#w = a) (a b c : BitVec w) : opX X (bits (b ^^^ c)) a 0#w = opX X (bits b) a 0#w ^^^ opX X (bits c) a 0#w := by
 rw [mulX_comm hX bits e hrep, mulX_comm hX bits e hrep a b, mulX_comm hX bits e hrep a c]
 exact mulX_add_left hX bits b c a
theorem mulX_one (hX : ∀ a b, X (a ^^^ b) = X a ^^^ X b) (bits : BitVec w → List Bool) (e : BitVec w) (hrep : ∀ a, opX X (bits a) e 0#w = a) (a : BitVec w) : opX X (bits e) a 0#w = a := by
 rw [mulX_comm hX bits e hrep]
 exact hrep a
end
end
end Go.Proofs.Ytjfdcabgbcbdjaa
end
section
namespace Go.Proofs.Ytjfdcabgbcbdjaa
open Go.Proofs.YtjfdcabgbcbdjaaW.PrintWords
def bI (b : BitVec 8) : Int := (b.toNat : Int)
def bL (l : List (BitVec 8)) : List Int := l.map bI
theorem bI_lo (b : BitVec 8) : 0 ≤ bI b := by unfold bI; omega
theorem bI_hi (b : BitVec 8) : bI b < 256 := by have := b.isLt; unfold bI; omega
theorem bI_ofNat (n : Nat) (h : n < 256) : bI (BitVec.ofNat 8 n) = (n : Int) := by
 unfold bI
 rw [BitVec.toNat_ofNat, Nat.mod_eq_of_lt (by omega)]
theorem bI_of (x : Int) (h : (Lit.int .u8 x).wf = true) : ∃ b, x = bI b := by
 have hx : 0 ≤ x ∧ x < 256 := by
  simp [Lit.wf, IntKind.min, IntKind.max, IntKind.bits, IntKind.signed] at h
  exact ⟨by omega, by omega⟩
 refine ⟨BitVec.ofNat 8 x.toNat, ?_⟩
 rw [bI_ofNat _ (by omega)]
 omega
theorem bL_of : ∀ l : List Int, (∀ x ∈ l, (Lit.int .u8 x).wf = true) → ∃ m, l = bL m
 | [], _ => ⟨[], rfl⟩
 | x :: l, h => by
  obtain ⟨b, rfl⟩ := bI_of x (h x (by simp))
  obtain ⟨m, rfl⟩ := bL_of l (fun y hy => h y (by simp [hy]))
  exact ⟨b :: m, rfl⟩
theorem bL_length (m : List (BitVec 8)) : (bL m).length = m.length := by simp [bL]
theorem bL_cons (b : BitVec 8) (m : List (BitVec 8)) : bL (b :: m) = bI b :: bL m := rfl
theorem bL_append (m n : List (BitVec 8)) : bL (m ++ n) = bL m ++ bL n := by simp [bL]
theorem bL_take (m : List (BitVec 8)) (k : Nat) : (bL m).take k = bL (m.take k) := by simp [bL, List.map_take]
theorem bL_drop (m : List (BitVec 8)) (k : Nat) : (bL m).drop k = bL (m.drop k) := by simp [bL, List.map_drop]
theorem bL_set (m : List (BitVec 8)) (k : Nat) (b : BitVec 8) : (bL m).set k (bI b) = bL (m.set k b) := by simp [bL, List.map_set]
theorem rd_bL (m : List (BitVec 8)) (i : Int) : rd (bL m) i = bI (m.getD i.toNat 0#8) := by
 unfold rd bL
 simp only [List.getD_eq_getElem?_getD, List.getElem?_map]
 cases m[i.toNat]? <;> rfl
theorem bL_wf (m : List (BitVec 8)) : ∀ x ∈ bL m, 0 ≤ x ∧ x < 256 := by
 intro x hx
 obtain ⟨b, _, rfl⟩ := List.mem_map.1 hx
 exact ⟨bI_lo b, bI_hi b⟩
def isBs (l : List Int) : Bool := l.all fun x => decide (0 ≤ x ∧ x < 256)
def unB (l : List Int) : List (BitVec 8) := l.map fun x => BitVec.ofNat 8 x.toNat
theorem unB_bL (m : List (BitVec 8)) : unB (bL m) = m := by
 unfold unB bL bI
 rw [List.map_map]
 conv => rhs; rw [← List.map_id m]
 refine List.map_congr_left fun b _ => ?_
 simp
theorem isBs_bL {l : List Int} (h : isBs l = true) : l = bL (unB l) := by
 unfold unB bL
 rw [List.map_map]
 conv => lhs; rw [← List.map_id l]
 refine List.map_congr_left fun x hx => ?_
 have h1 := List.all_eq_true.1 h x hx
 simp only [decide_eq_true_eq] at h1
 simp only [Function.comp, id]
 rw [bI_ofNat _ (by omega)]
 omega
theorem bL_isBs (m : List (BitVec 8)) : isBs (bL m) = true := by
 unfold isBs
 rw [List.all_eq_true]
 intro x hx
 simpa using bL_wf m x hx
theorem bI_xor (a b : BitVec 8) : Go.bits .xor .u8 (bI a) (bI b) = bI (a ^^^ b) := by
 unfold bI
 rw [u8_xor_nat _ _ a.isLt b.isLt, BitVec.toNat_xor]
end Go.Proofs.Ytjfdcabgbcbdjaa
end
section
namespace Go.Proofs.Ytjfdcabgbcbdjaa
open Go.Proofs.YtjfdcabgbcbdjaaW.PrintWords
def by_ (xs : List (BitVec 8)) (i : Nat) : BitVec 8 := xs.getD i 0#8
def tab (n : Nat) (f : Nat → BitVec 8) : List (BitVec 8) := (List.range n).map f
theorem tab_length (n : Nat) (f : Nat → BitVec 8) : (tab n f).length = n := by simp [tab]
theorem tab_get (n : Nat) (f : Nat → BitVec 8) (i : Nat) (h : i < n) : by_ (tab n f) i = f i := by
 unfold by_ tab
 rw [List.getD_eq_getElem?_getD, List.getElem?_map, List.getElem?_range h]
 rfl
theorem tab_congr {n : Nat} {f g : Nat → BitVec 8} (h : ∀ i, i < n → f i = g i) : tab n f = tab n g :=
 List.map_congr_left fun i hi => h i (List.mem_range.1 hi)
theorem tab_self (xs : List (BitVec 8)) : tab xs.length (by_ xs) = xs := by
 apply List.ext_getElem?
 intro i
 unfold tab by_
 rw [List.getElem?_map]
 rcases Nat.lt_or_ge i xs.length with h | h
 ·rw [List.getElem?_range h]
  simp [List.getElem?_eq_getElem h]
 ·rw [List.getElem?_eq_none (by simpa using h), List.getElem?_eq_none h]
  rfl
theorem tab_eq {n : Nat} {xs : List (BitVec 8)} (hl : xs.length = n) {f : Nat → BitVec 8} (h : ∀ i, i < n → by_ xs i = f i) : xs = tab n f := by
 subst hl
 exact (tab_self xs).symm.trans (tab_congr h)
def pad16 (xs : List (BitVec 8)) : List (BitVec 8) := tab 16 (by_ xs)
theorem pad16_length (xs : List (BitVec 8)) : (pad16 xs).length = 16 := tab_length _ _
theorem pad16_self (xs : List (BitVec 8)) (h : xs.length = 16) : pad16 xs = xs := by unfold pad16; rw [← h, tab_self]
theorem by_out (xs : List (BitVec 8)) (i : Nat) (h : xs.length ≤ i) : by_ xs i = 0#8 := by
 unfold by_
 rw [List.getD_eq_getElem?_getD, List.getElem?_eq_none h]
 rfl
end Go.Proofs.Ytjfdcabgbcbdjaa
end
section
namespace Go.Proofs.Ytjfdcabgbcbdjaa
open Go.Proofs.YtjfdcabgbcbdjaaW.PrintWords
def numN (a : Nat) (m : List (BitVec 8)) : Nat := m.foldl (fun a b => a * 256 + b.toNat) a
theorem numN_cons (a : Nat) (b : BitVec 8) (m : List (BitVec 8)) : numN a (b :: m) = numN (a * 256 + b.toNat) m := rfl
theorem numN_lt : ∀ (m : List (BitVec 8)) (a n : Nat), a < n → numN a m < n * 256 ^ m.length
 | [], a, n, h => by simpa [numN] using h
 | b :: m, a, n, h => by
  have h1 := b.isLt
  have h2 := numN_lt m (a * 256 + b.toNat) (n * 256) (by omega)
  rw [numN_cons, List.length_cons, Nat.pow_succ]
  calc numN (a * 256 + b.toNat) m < n * 256 * 256 ^ m.length := h2
   _ = n * (256 ^ m.length * 256) := by rw [Nat.mul_assoc, Nat.mul_comm 256]
theorem or_byte (a : Nat) (b : BitVec 8) : (a * 256) ||| b.toNat = a * 256 + b.toNat := by
 have h := Nat.two_pow_add_eq_or_of_lt (i := 8) b.isLt a
 rw [show (2 : Nat) ^ 8 = 256 from rfl, Nat.mul_comm 256 a] at h
 exact h.symm
theorem u64_in (n : Nat) (h : n < 18446744073709551616) : IntKind.u64.wrap (n : Int) = (n : Int) := by
 simp [IntKind.wrap, IntKind.bits, IntKind.signed]
 omega
theorem word_step (a : Nat) (b : BitVec 8) (h : a < 72057594037927936) : Go.bits .or .u64 (IntKind.u64.wrap ((a : Int) * 256)) (IntKind.u64.wrap (bI b)) = ((a * 256 + b.toNat : Nat) : Int) := by
 have hb := b.isLt
 have e1 : (a : Int) * 256 = ((a * 256 : Nat) : Int) := by omega
 rw [e1, u64_in _ (by omega)]
 unfold bI
 rw [u64_in _ (by omega), u64_or_nat _ _ (by omega) (by omega), or_byte]
theorem numN_snoc (a : Nat) (m : List (BitVec 8)) (b : BitVec 8) : numN a (m ++ [b]) = numN a m * 256 + b.toNat := by
 unfold numN
 rw [List.foldl_append]
 rfl
theorem numN_take (m : List (BitVec 8)) (i : Nat) (h : i < m.length) : numN 0 (m.take (i + 1)) = numN 0 (m.take i) * 256 + (by_ m i).toNat := by
 rw [List.take_succ_eq_append_getElem h, numN_snoc]
 unfold by_
 rw [List.getD_eq_getElem?_getD, List.getElem?_eq_getElem h]
 rfl
theorem numN_take_lt (m : List (BitVec 8)) (i : Nat) (h : i < 8) : numN 0 (m.take i) < 72057594037927936 := by
 have h1 := numN_lt (m.take i) 0 1 (by omega)
 have h2 : 256 ^ (m.take i).length ≤ 256 ^ 7 := Nat.pow_le_pow_right (by omega) (by rw [List.length_take]; omega)
 omega
theorem by_drop (m : List (BitVec 8)) (k i : Nat) : by_ (m.drop k) i = by_ m (k + i) := by
 unfold by_
 simp [List.getD_eq_getElem?_getD, List.getElem?_drop]
def hiN (m : List (BitVec 8)) : Nat := numN 0 (m.take 8)
def loN (m : List (BitVec 8)) : Nat := numN 0 ((m.drop 8).take 8)
def cE (h l : Nat) : Array Value := #[.int .u64 (h : Int), .int .u64 (l : Int)]
theorem cE_set0 (h l x : Nat) : (cE h l).setIfInBounds 0 (.int .u64 (x : Int)) = cE x l := rfl
theorem cE_set1 (h l x : Nat) : (cE h l).setIfInBounds 1 (.int .u64 (x : Int)) = cE h x := rfl
theorem cE_one (h l : Nat) : (cE h l).all (·.oneCell') = true := by simp [cE, Value.oneCell']
theorem cE_shift (h l n : Nat) : (#[.int .u64 (((h / 256 ^ n : Nat) : Int) / 256), .int .u64 (((l / 256 ^ n : Nat) : Int) / 256)] : Array Value) = cE (h / 256 ^ (n + 1)) (l / 256 ^ (n + 1)) := by
 unfold cE
 rw [Nat.pow_succ, ← Nat.div_div_eq_div_mul, ← Nat.div_div_eq_div_mul]
 rfl
def outAt (h l j : Nat) : BitVec 8 := if j < 8 then BitVec.ofNat 8 (h / 256 ^ (7 - j)) else BitVec.ofNat 8 (l / 256 ^ (15 - j))
def outL (h l n : Nat) : List (BitVec 8) := tab 16 fun j => if 8 - n ≤ j % 8 then outAt h l j else 0#8
theorem outL_length (h l n : Nat) : (outL h l n).length = 16 := tab_length _ _
theorem outL_zero (h l : Nat) : outL h l 0 = tab 16 fun _ => 0#8 := tab_congr fun j _ => by rw [if_neg (by omega)]
theorem byte_of (x : Nat) : ((x : Nat) : Int) % 256 = bI (BitVec.ofNat 8 x) := by
 unfold bI
 rw [BitVec.toNat_ofNat]
 omega
theorem tab_set (n : Nat) (f : Nat → BitVec 8) (i : Nat) (b : BitVec 8) (h : i < n) : (tab n f).set i b = tab n fun j => if j = i then b else f j := by
 apply List.ext_getElem?
 intro j
 unfold tab
 rw [List.getElem?_set, List.getElem?_map]
 by_cases e : i = j
 ·subst e
  simp [h]
 ·rw [if_neg e]
  rcases Nat.lt_or_ge j n with hj | hj
  ·have e2 : ¬ j = i := fun q => e q.symm
   simp [List.getElem?_range hj, e2]
  ·rw [List.getElem?_eq_none (by simpa using hj), List.getElem?_eq_none (by simpa using hj)]
   rfl
theorem outL_set (h l n : Nat) (hn : n < 8) : (((outL h l n).set (7 - n) (BitVec.ofNat 8 (h / 256 ^ n))).set (7 - n + 8) (BitVec.ofNat 8 (l / 256 ^ n))) = outL h l (n + 1) := by
 unfold outL
 rw [tab_set _ _ _ _ (by omega), tab_set _ _ _ _ (by omega)]
 refine tab_congr fun j hj => ?_
 by_cases h1 : j = 7 - n + 8
 ·subst h1
  rw [if_pos rfl, if_pos (by omega)]
  unfold outAt
  rw [if_neg (by omega), show 15 - (7 - n + 8) = n by omega]
 ·rw [if_neg h1]
  by_cases h2 : j = 7 - n
  ·subst h2
   rw [if_pos rfl, if_pos (by omega)]
   unfold outAt
   rw [if_pos (by omega), show 7 - (7 - n) = n by omega]
  ·rw [if_neg h2]
   by_cases h3 : 8 - n ≤ j % 8
   ·rw [if_pos h3, if_pos (by omega)]
   ·rw [if_neg h3, if_neg (by omega)]
end Go.Proofs.Ytjfdcabgbcbdjaa
end
section
set_option linter.unusedVariables false
namespace Go.Proofs.Ytjfdcabgbcbdjaa
open Go.RowKit Go.Proofs.YtjfdcabgbcbdjaaW.PrintWords
def cB (m : List (BitVec 8)) : Array Value := (m.map fun b => Value.int .u8 (bI b)).toArray
theorem cB_size (m : List (BitVec 8)) : (cB m).size = m.length := by simp [cB]
theorem cB_get (m : List (BitVec 8)) (i : Nat) (h : i < m.length) : (cB m)[i]? = some (.int .u8 (bI (by_ m i))) := by
 simp [cB, by_, List.getD_eq_getElem?_getD, List.getElem?_eq_getElem h]
theorem cB_set (m : List (BitVec 8)) (i : Nat) (b : BitVec 8) : (cB m).setIfInBounds i (.int .u8 (bI b)) = cB (m.set i b) := by
 apply Array.ext'
 simp [cB, List.map_set]
theorem cB_one (m : List (BitVec 8)) : (cB m).all (·.oneCell') = true := by
 rw [Array.all_eq_true_iff_forall_mem]
 intro x hx
 simp only [cB, List.mem_toArray, List.mem_map] at hx
 obtain ⟨b, _, rfl⟩ := hx
 rfl
theorem cB_toList (m : List (BitVec 8)) : (cB m).toList = m.map fun b => Value.int .u8 (bI b) := by simp [cB]
section
variable {P : Program} {ops : Array Oper} {rest : List Oper} {o : Oper} {a : Act} {Q : Exit → Act → World → Prop} {W : World}
theorem grown_set (W : World) (g i : Nat) (v : Value) : W.grownBy (W.setCell ⟨g, i, none⟩ v) (some g) :=
 ⟨rfl, rfl, rfl, by simp [World.setCell], fun k hk hne => Below.heap_setCell W ⟨g, i, none⟩ v k (fun e => hne (by rw [e]))⟩
theorem grown_setRow (W : World) (g : Nat) (cs : Array Value) : W.grownBy (W.setRow g cs) (some g) :=
 ⟨rfl, rfl, rfl, by simp, fun k hk hne => setRow_other W g k cs (fun e => hne (by rw [e]))⟩
theorem cell_event (hgd : o.guard = none) {t : TypeId} {p : Tmp} {v : Operand} (_ho : o.op = .store t (.tmp p) v) (hN : o.dst = none) {g : Nat} {cs : Array Value} {e : TypeId} {i : Nat} {x : Value}
  (hg : W.heap[g]? = some (.cells cs e (0, 0))) (hrun : (execOp a.eval o).run P W = .ok .skip (W.setCell ⟨g, i, none⟩ x)) {cs' : Array Value} (hcs : cs.setIfInBounds i x = cs')
  (h : ∀ w1, w1.heap[g]? = some (.cells cs' e (0, 0)) → W.grownBy w1 (some g) → wpList P ops Q rest a w1) : wpList P ops Q (o :: rest) a W :=
 store_event hgd _ho hN hrun fun w' hw => by
  subst hw
  exact h _ (blk_put hg i x hcs) (grown_set W g i x)
theorem row_event (hgd : o.guard = none) {ty : TypeId} {p : Tmp} {y : Operand} (ho : o.op = .store ty (.tmp p) y) (hN : o.dst = none) {g : Nat} {old cells : Array Value} {e : TypeId}
  (hx : a.eval (.tmp p) = .pointer (some ⟨g, 0, none⟩)) (hy : a.eval y = .agg cells) (hg : W.heap[g]? = some (.cells old e (0, 0))) (hi : (P.info? ty).map (·.size) = some cells.size)
  (hold : old.size = cells.size) (h1 : cells.all (·.oneCell') = true)
  (h : ∀ w1, w1.heap[g]? = some (.cells cells e (0, 0)) → W.grownBy w1 (some g) → wpList P ops Q rest a w1) : wpList P ops Q (o :: rest) a W := by
 refine wpList_store_row hgd ty (.tmp p) y ho g cells hx hy e old hg hi hold h1 ?_
 rw [hN]
 exact h _ (setRow_heap W g old cells e (0, 0) hg) (grown_setRow W g cells)
theorem below_grown1 {w : World} {g : Nat} {w1 : World} (h : Below w.heap.size w W) (hg : W.grownBy w1 (some g)) (hge : w.heap.size ≤ g) : Below w.heap.size w w1 :=
 h.grown hg h.size (fun k hk => by injection hk with hk; omega)
theorem blk_grown1 {g g' : Nat} {ob : Obj} {w1 : World} (h : W.heap[g']? = some ob) (hg : W.grownBy w1 (some g)) (hne : g' ≠ g) : w1.heap[g']? = some ob :=
 blk_grown h hg (fun e => hne (by injection e))
def cpL (old new : List (BitVec 8)) : List (BitVec 8) := tab old.length fun i => if i < new.length then by_ new i else by_ old i
theorem cpL_nil (old : List (BitVec 8)) : cpL old [] = old := by
 unfold cpL
 simp only [List.length_nil, Nat.not_lt_zero, if_false]
 exact tab_self old
theorem beq_16 (n : Nat) : ((n : Int) == 16) = decide (n = 16) := by
 rw [Bool.eq_iff_iff, beq_iff_eq, decide_eq_true_iff]
 omega
theorem pad16_cp (m : List (BitVec 8)) : cpL (tab 16 fun _ => 0#8) m = pad16 m := by
 unfold cpL pad16
 rw [tab_length]
 refine tab_congr fun i hi => ?_
 by_cases h : i < m.length
 ·rw [if_pos h]
 ·rw [if_neg h, by_out m i (by omega), tab_get _ _ _ hi]
theorem copy_cells (old new : List (BitVec 8)) : ((cB old).toList.take 0 ++ (new.take (Nat.min new.length old.length)).map (fun b => Value.int .u8 (bI b)) ++ (cB old).toList.drop (0 + ((new.take (Nat.min new.length old.length)).map (fun b => Value.int .u8 (bI b))).length)).toArray = cB (cpL old new) := by
 apply Array.ext'
 rw [cB_toList, cB_toList]
 show _ = (cpL old new).map fun b => Value.int .u8 (bI b)
 have h : cpL old new = new.take (Nat.min new.length old.length) ++ old.drop (Nat.min new.length old.length) := by
  symm
  have hm1 : Nat.min new.length old.length ≤ new.length := Nat.min_le_left _ _
  have hm2 : Nat.min new.length old.length ≤ old.length := Nat.min_le_right _ _
  have hm3 : Nat.min new.length old.length = new.length ∨ Nat.min new.length old.length = old.length := by
   rcases Nat.le_total new.length old.length with h | h
   ·exact .inl (Nat.min_eq_left h)
   ·exact .inr (Nat.min_eq_right h)
  generalize Nat.min new.length old.length = k at *
  refine tab_eq (by simp; omega) fun i hi => ?_
  unfold by_
  rw [List.getD_eq_getElem?_getD, List.getElem?_append]
  simp only [List.length_take]
  by_cases h1 : i < k
  ·rw [if_pos (by omega), if_pos (by omega), List.getElem?_take, if_pos h1, List.getD_eq_getElem?_getD]
  ·rw [if_neg (by omega), List.getElem?_drop, if_neg (by omega), List.getD_eq_getElem?_getD, show k + (i - min k new.length) = i by omega]
 rw [h, List.map_append, List.map_drop]
 simp only [List.take_zero, List.nil_append, Nat.zero_add, List.length_map, List.length_take]
 congr 2
 have hm1 : Nat.min new.length old.length ≤ new.length := Nat.min_le_left _ _
 generalize Nat.min new.length old.length = k at *
 omega
theorem copy_event (hgd : o.guard = none) (x y : Operand) (t e : TypeId) (ho : o.op = .call { callee := .builtin .copy, args := #[x, y], argTypes := #[t, t] }) (ht : P.underlying t = some (.slice e)) (hs : (P.info? e).map (·.size) = some 1)
  {g cap c : Nat} {old new : List (BitVec 8)} {A : Option Addr} {bt : TypeId} (hx : a.eval x = .slice (some ⟨g, 0, none⟩) old.length cap) (hy : a.eval y = .slice A new.length c)
  (hg : W.heap[g]? = some (.cells (cB old) bt (0, 0))) (hr : Kd.C (Kd.int .u8) W A new.length (bL new))
  (h : ∀ w1 v, w1.heap[g]? = some (.cells (cB (cpL old new)) bt (0, 0)) → W.grownBy w1 (some g) → wpList P ops Q rest (a.put o.dst v) w1) : wpList P ops Q (o :: rest) a W := by
 rcases A with _ | ad
 ·have hn : new = [] := by
   rcases Nat.eq_zero_or_pos new.length with h0 | h0
   ·exact List.eq_nil_of_length_eq_zero h0
   ·obtain ⟨ad, h1, _⟩ := Kd.at_int hr 0 (by omega) (by omega)
    cases h1
  subst hn
  refine Kd.event_run (v := goInt 0) (w1 := W) hgd ?_ (h W _ (by rw [cpL_nil]; exact hg) (World.grownBy.refl W _))
  cases hq : P.info? e with
  | none => simp [hq] at hs
  | some i =>
   unfold execOp
   simp [ho, resolve, invoke, builtin, hx, hy, Builtin.copy_, run_underlying ht, Builtin.lenOf, Builtin.firstCells, sizeOf, typeInfo, hq, storeCells]
 ·have hrun := run_copy_row P W t t o.type e g 0 old.length cap ad new.length c (cB old) bt ((new.take (Nat.min new.length old.length)).map fun b => Value.int .u8 (bI b)) ht hs hg
   (by rw [List.length_map, List.length_take]; exact Nat.min_eq_left (Nat.min_le_left _ _))
   (fun j v hv => by
    rw [List.getElem?_map] at hv
    cases hq : (new.take (Nat.min new.length old.length))[j]? with
    | none => rw [hq] at hv; cases hv
    | some b =>
     rw [hq] at hv
     injection hv with hv
     subst hv
     have hj : j < new.length := by
      have := (List.getElem?_eq_some_iff.1 hq).1
      rw [List.length_take] at this
      omega
     obtain ⟨ad', h1, h2⟩ := Kd.at_int hr (j : Int) (by omega) (by omega)
     injection h1 with h1
     subst h1
     rw [Int.toNat_natCast] at h2
     rw [h2, rd_bL, Int.toNat_natCast]
     rw [List.getElem?_take] at hq
     split at hq
     ·rw [List.getD_eq_getElem?_getD, hq]
      rfl
     ·cases hq)
   (by rw [List.length_map, List.length_take, cB_size]; have h9 : Nat.min new.length old.length ≤ old.length := Nat.min_le_right _ _; omega)
   (fun v hv => by
    obtain ⟨b, _, rfl⟩ := List.mem_map.1 hv
    rfl)
  rw [copy_cells] at hrun
  generalize (goInt ((List.map (fun b => Value.int IntKind.u8 (bI b)) (new.take (Nat.min new.length old.length))).length : Int)) = v at hrun
  refine Kd.event_run (v := v) (w1 := W.setRow g (cB (cpL old new))) hgd ?_ (h _ v (setRow_heap W g _ _ bt (0, 0) hg) (grown_setRow W g _))
  unfold execOp
  simp [ho, resolve, invoke, builtin, hx, hy, hrun]
theorem wp_region_tail {id : Nat} {l : List Oper} {w : World} (n : Nat) (hm : P.follows .mixedOrders = true) (hB : Region.lexTailB .any l.toArray n = true)
  (h : wpStill P l.toArray w.drew (fun a' => wpList P l.toArray Q (l.drop n) a' w.drew) (l.take n) a) : (Code.region id l.toArray true).wp P Q a w := wp_region_still_tail n hm hB h
theorem R_block {g base : Nat} {bt : TypeId} {m : List (BitVec 8)} {n : Nat} (hg : W.heap[g]? = some (.cells (cB m) bt (0, 0))) (hb : base ≤ g) (hn : m.length = n) (hle : n ≤ 1000) :
  Kd.R (Kd.int .u8) bt W base (fun _ => True) (.slice (some ⟨g, 0, none⟩) n n) (bL m) := by
 have e : encs (Value.int .u8) (bL m) = (cB m).toList := by simp [encs, bL, cB]
 refine Kd.R_of_own (h1 := fun _ => rfl) ?_ (fun _ _ => trivial)
 refine ⟨by rw [e]; simp [cB, bL], .inr ⟨g, n, cB m, ?_, hb, hg, by rw [bL_length, hn]; exact Nat.le_refl _, by simp only [maxLen]; omega, by rw [cB_size, hn, Nat.mul_one], ?_⟩⟩
 ·rw [bL_length, hn]
 ·rw [e, bL_length, Nat.mul_one, List.take_of_length_le (by simp [cB])]
end
end Go.Proofs.Ytjfdcabgbcbdjaa
end
section
namespace Go.Proofs.Ytjfdcabgbcbdjaa.All
open Go.RowKit Go.Proofs.YtjfdcabgbcbdjaaW.PrintWords Go.Proofs.YtjfdcabgbcbdjaaW.PrintLast Go.Proofs.YtjfdcabgbcbdjaaW.PrintMore
attribute [local go_sem] max2_int min2_int max_two min_two max_three min_three max_four min_four
set_option linter.unusedVariables false
set_option linter.unusedSimpArgs false
def errW : Option Int → Value
 | none => .nilIface
 | some c => .iface 0 (.int .i64 c)
theorem errW_none : errW none = .nilIface := rfl
theorem errW_some (c : Int) : errW (some c) = .iface 0 (.int .i64 c) := rfl
theorem info5 : (Try.prog.info? 5).map (fun i => (i.zero, i.size, i.bytes)) = some (some (.int .u8 0), 1, 1) := by kernel_rfl
end Go.Proofs.Ytjfdcabgbcbdjaa.All
end
