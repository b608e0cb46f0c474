/- Plain algebra: a product by the powers of a linear map, over bit vectors: bilinear, commutative, associative. No Go in it. -/
namespace Go.Proofs.Ytjfdcabgbcbdjaa
section
variable {w : Nat} (X : BitVec w → BitVec w)

/-- The sum of the powers of X at a, picked by the bits, over o. -/
def opX : List Bool → BitVec w → BitVec w → BitVec w
  | [], _, o => o
  | c :: cs, a, o => opX cs (X a) (if c = true then o ^^^ a else o)

theorem xor4 (a b c d : BitVec w) : (a ^^^ b) ^^^ (c ^^^ d) = (a ^^^ c) ^^^ (b ^^^ d) := by
  rw [BitVec.xor_assoc, ← BitVec.xor_assoc b c d, BitVec.xor_comm b c, BitVec.xor_assoc c b d, ← BitVec.xor_assoc]

variable {X}

theorem X_zero (hX : ∀ a b, X (a ^^^ b) = X a ^^^ X b) : X 0#w = 0#w := by
  have h := hX 0#w 0#w
  rw [BitVec.xor_self, BitVec.xor_self] at h
  exact h

theorem opX_add (hX : ∀ a b, X (a ^^^ b) = X a ^^^ X b) (bs : List Bool) : ∀ a b o p, opX X bs (a ^^^ b) (o ^^^ p) = opX X bs a o ^^^ opX X bs b p := by
  induction bs with
  | nil => intro a b o p; rfl
  | cons c cs ih =>
    intro a b o p
    simp only [opX]
    rw [hX]
    cases c
    · simpa using ih _ _ _ _
    · simp only [if_true]
      rw [xor4 o p a b]
      exact ih _ _ _ _

theorem opX_zero (hX : ∀ a b, X (a ^^^ b) = X a ^^^ X b) (bs : List Bool) : opX X bs 0#w 0#w = 0#w := by
  have h := opX_add hX bs 0#w 0#w 0#w 0#w
  rw [BitVec.xor_self, BitVec.xor_self] at h
  exact h

theorem opX_out (hX : ∀ a b, X (a ^^^ b) = X a ^^^ X b) (bs : List Bool) (a o : BitVec w) : opX X bs a o = o ^^^ opX X bs a 0#w := by
  have h := opX_add hX bs 0#w a o 0#w
  rw [BitVec.zero_xor, BitVec.xor_zero] at h
  rw [h]
  congr 1
  have h2 : ∀ (bs : List Bool) (o : BitVec w), opX X bs 0#w o = o := by
    intro bs
    induction bs with
    | nil => intro o; rfl
    | cons c cs ih =>
      intro o
      simp only [opX, X_zero hX, BitVec.xor_zero]
      rw [ite_self]
      exact ih o
  exact h2 bs o

/-- Whatever is linear and goes by X goes by all of them. -/
theorem opX_map (F : BitVec w → BitVec w) (hF : ∀ a b, F (a ^^^ b) = F a ^^^ F b) (hFX : ∀ a, F (X a) = X (F a)) (bs : List Bool) :
    ∀ a o, F (opX X bs a o) = opX X bs (F a) (F o) := by
  induction bs with
  | nil => intro a o; rfl
  | cons c cs ih =>
    intro a o
    simp only [opX]
    rw [ih, hFX]
    cases c
    · simp
    · simp [hF]

theorem opX_X (hX : ∀ a b, X (a ^^^ b) = X a ^^^ X b) (bs : List Bool) (a o : BitVec w) : X (opX X bs a o) = opX X bs (X a) (X o) :=
  opX_map X hX (fun _ => rfl) bs a o

theorem opX_swap (hX : ∀ a b, X (a ^^^ b) = X a ^^^ X b) (bs cs : List Bool) (a : BitVec w) : opX X bs (opX X cs a 0#w) 0#w = opX X cs (opX X bs a 0#w) 0#w := by
  have hF : ∀ a b, opX X bs (a ^^^ b) 0#w = opX X bs a 0#w ^^^ opX X bs b 0#w := fun a b => by
    have h := opX_add hX bs a b 0#w 0#w
    rwa [BitVec.xor_zero] at h
  have h := opX_map (fun a => opX X bs a 0#w) hF (fun a => by
    have h := opX_X hX bs a 0#w
    rw [X_zero hX] at h
    exact h.symm) cs a 0#w
  simpa [opX_zero hX] using h

section
theorem mulX_comm (hX : ∀ a b, X (a ^^^ b) = X a ^^^ X b) (bits : BitVec w → List Bool) (e : BitVec w) (hrep : ∀ a, opX X (bits a) e 0#w = a) (a b : BitVec w) : opX X (bits b) a 0#w = opX X (bits a) b 0#w := by
  have h := opX_swap hX (bits b) (bits a) e
  rwa [hrep, hrep] at h
theorem mulX_add_left (hX : ∀ a b, X (a ^^^ b) = X a ^^^ X b) (bits : BitVec w → List Bool) (a b c : BitVec w) : opX X (bits c) (a ^^^ b) 0#w = opX X (bits c) a 0#w ^^^ opX X (bits c) b 0#w := by
  have h := opX_add hX (bits c) a b 0#w 0#w
  rwa [BitVec.xor_zero] at h
theorem mulX_add_right (hX : ∀ a b, X (a ^^^ b) = X a ^^^ X b) (bits : BitVec w → List Bool) (e : BitVec w) (hrep : ∀ a, opX X (bits a) e 0#w = a) (a b c : BitVec w) : opX X (bits (b ^^^ c)) a 0#w = opX X (bits b) a 0#w ^^^ opX X (bits c) a 0#w := by
  rw [mulX_comm hX bits e hrep, mulX_comm hX bits e hrep a b, mulX_comm hX bits e hrep a c]
  exact mulX_add_left hX bits b c a
theorem mulX_assoc (hX : ∀ a b, X (a ^^^ b) = X a ^^^ X b) (bits : BitVec w → List Bool) (e : BitVec w) (hrep : ∀ a, opX X (bits a) e 0#w = a) (a b c : BitVec w) : opX X (bits c) (opX X (bits b) a 0#w) 0#w = opX X (bits (opX X (bits c) b 0#w)) a 0#w := by
  rw [mulX_comm hX bits e hrep a (opX X (bits c) b 0#w), mulX_comm hX bits e hrep a b]
  exact opX_swap hX (bits c) (bits a) b
theorem mulX_one (hX : ∀ a b, X (a ^^^ b) = X a ^^^ X b) (bits : BitVec w → List Bool) (e : BitVec w) (hrep : ∀ a, opX X (bits a) e 0#w = a) (a : BitVec w) : opX X (bits e) a 0#w = a := by
  rw [mulX_comm hX bits e hrep]
  exact hrep a
end
end
end Go.Proofs.Ytjfdcabgbcbdjaa
