/- The law FnCiphers in numbers and lists: whatever comes in, it answers true.-/
import Derived.Test.YtjfdcabgbcbdjaaAllx176
import Derived.Test.YtjfdcabgbcbdjaaAllx20
import Derived.Test.YtjfdcabgbcbdjaaAllx530
import Derived.Test.YtjfdcabgbcbdjaaAllx83
import Derived.Test.YtjfdcabgbcbdjaaLemDrawEnc
import Derived.Test.YtjfdcabgbcbdjaaLemEncBlock
import Derived.Test.YtjfdcabgbcbdjaaLemInj
import Derived.Test.YtjfdcabgbcbdjaaLemLwAt
import Derived.Test.YtjfdcabgbcbdjaaLemSame
set_option linter.unusedVariables false
set_option linter.unusedSimpArgs false
namespace Go.Proofs.Ytjfdcabgbcbdjaa.Pure
open Go.RowKit Go.Proofs.Ytjfdcabgbcbdjaa.All Go.Proofs.YtjfdcabgbcbdjaaW.PrintWords Go.Proofs.YtjfdcabgbcbdjaaW.PrintLast Go.Proofs.YtjfdcabgbcbdjaaW.PrintMore
theorem xor_ne (a c : BitVec 8) (h : c ≠ 0#8) : a ^^^ c ≠ a := by
  intro e
  refine h ?_
  have e2 : a ^^^ (a ^^^ c) = a ^^^ a := by rw [e]
  rwa [← BitVec.xor_assoc, BitVec.xor_self, BitVec.zero_xor] at e2
theorem set_ne (b : List (BitVec 8)) (t : Nat) (ht : t < b.length) (c : BitVec 8) (h : c ≠ 0#8) : b.set t (by_ b t ^^^ c) ≠ b := by
  intro e
  refine xor_ne (by_ b t) c h ?_
  have e2 : by_ (b.set t (by_ b t ^^^ c)) t = by_ b t := by rw [e]
  rwa [set_get _ _ _ _ ht, if_pos rfl] at e2
theorem FnCiphers : laws_FnCiphers.Pure := by
  intro l0 _ _ hw
  obtain ⟨n, rfl⟩ := bL_of l0 hw
  obtain ⟨K, hK⟩ : ∃ K, K > 4000 := ⟨_, Nat.lt_succ_self _⟩
  refine ⟨K + 1, ?_⟩
  unfold laws_FnCiphers.f laws_lwBig.f
  by_cases h : ((bL n).length : Int) > 1048576
  · simp [h]
  have hb := bL_wf n
  have hl : (bL n).length ≤ 1099511627776 := by omega
  simp only [Option.bind_some]
  rw [if_neg (by simpa using h)]
  obtain ⟨a, b, hb17, hd⟩ := drawEB (bL n) hb hl (K + 1) (by omega)
  rw [hd]
  simp only [Option.bind_some]
  have hI : ∀ x y : List (BitVec 8), impl_EncryptBlock.f (bL x) (bL y) = some (impl_EncryptBlock.g x y) := fun x y => by
    unfold impl_EncryptBlock.f
    rw [if_pos ⟨bL_isBs _, bL_isBs _⟩, unB_bL, unB_bL]
  have hS := encSpec (K + 1) (by omega) a b
  rw [hI, hS]
  by_cases h16 : a.length = 16 ∧ b.length = 16
  · have hg : ∀ y : List (BitVec 8), y.length = 16 → impl_EncryptBlock.g a y = (0, bL (encL (schedL a) y)) := fun y hy => by
      unfold impl_EncryptBlock.g
      rw [if_pos ⟨h16.1, hy⟩]
    rw [hg b h16.2]
    simp only [Option.bind_some, if_true]
    rw [sameB, decide_eq_true rfl]
    simp only [Option.bind_some, Bool.not_true]
    simp only [laws_FnCiphers.j0]
    rw [if_neg (by decide), if_pos trivial]
    simp only [Option.bind_some]
    obtain ⟨t, ht, t0, t1⟩ := lwAt_at (bL n) hb hl 2 16 (by omega) (by omega) (by omega)
    obtain ⟨u, hu, u0, u1⟩ := lwAt_at (bL n) hb hl 3 255 (by omega) (by omega) (by omega)
    obtain ⟨T, rfl⟩ : ∃ T : Nat, t = T := ⟨t.toNat, by omega⟩
    rw [if_pos (by simp [bL_length]; omega), ht]
    simp only [Option.bind_some, List.nil_append]
    rw [if_pos t0, if_pos (by rw [bL_length]; omega), hu]
    simp only [Option.bind_some]
    rw [if_pos (by rw [bL_length, encL_length]; rfl)]
    have hc : (wrap64 (1 + u)) % 256 = bI (BitVec.ofNat 8 (1 + u).toNat) := by
      rw [bI_ofNat _ (by omega)]
      unfold wrap64
      omega
    have hc0 : BitVec.ofNat 8 (1 + u).toNat ≠ 0#8 := by
      intro e
      have e2 := congrArg BitVec.toNat e
      simp only [BitVec.toNat_ofNat] at e2
      omega
    rw [hc, rd_bL, bI_xor, Int.toNat_natCast, bL_set, hI]
    have hset := set_ne b T (by omega) _ hc0
    unfold by_ at hset
    generalize hO : b.set T (b.getD T 0#8 ^^^ BitVec.ofNat 8 (1 + u).toNat) = O at hset
    have hOl : O.length = 16 := by rw [← hO, List.length_set]; exact h16.2
    rw [hg O hOl]
    simp only [Option.bind_some]
    rw [sameB, decide_eq_false (fun e => hset (encL_inj (schedL a) O b hOl h16.2 e))]
    simp only [Option.bind_some, Bool.not_false]
  · have hg : impl_EncryptBlock.g a b = (2, []) := by
      unfold impl_EncryptBlock.g
      rw [if_neg h16]
    rw [hg]
    simp only [Option.bind_some, if_true]
    rw [show laws_lwSame.f [] [] = some true from sameB [] []]
    simp only [Option.bind_some, Bool.not_true]
    simp only [laws_FnCiphers.j0]
    rw [if_neg (by decide), if_neg (by decide)]

end Go.Proofs.Ytjfdcabgbcbdjaa.Pure
