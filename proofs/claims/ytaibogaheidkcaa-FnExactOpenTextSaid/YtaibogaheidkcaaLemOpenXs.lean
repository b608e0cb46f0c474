-- Laid by wip/shake.py of this repo out of this claim's texts. Not trusted: Lean checks it.
import Derived.Test.YtaibogaheidkcaaAllx0s
import Derived.Test.YtaibogaheidkcaaAllx533s
import Derived.Test.YtaibogaheidkcaaAllx539s
import Derived.Test.YtaibogaheidkcaaAllx540s
import Derived.Test.YtaibogaheidkcaaAllx166s
import Derived.Test.YtaibogaheidkcaaAllx167s
import Derived.Test.YtaibogaheidkcaaAllx542s
import Derived.Test.YtaibogaheidkcaaLemBytess
import Derived.Test.YtaibogaheidkcaaAllx10s
import Derived.Test.YtaibogaheidkcaaAllx12s
section
set_option linter.unusedVariables false
set_option linter.unusedSimpArgs false
namespace Go.Proofs.Ytaibogaheidkcaa.All
open Go.RowKit Go.Proofs.Ytaibogaheidkcaa.All Go.Proofs.YtaibogaheidkcaaW.PrintWords Go.Proofs.YtaibogaheidkcaaW.PrintLast Go.Proofs.YtaibogaheidkcaaW.PrintMore
theorem openSpec (k : Nat) (hk : 4001 ≤ k) (a n e p : List (BitVec 8)) : spec_OpenText.f k (bL a) (bL n) (bL e) (bL p) = some (impl_OpenText.g a n e p) := by
 obtain ⟨K, rfl⟩ : ∃ m, k = m + 1 := ⟨k - 1, by omega⟩
 unfold spec_OpenText.f impl_OpenText.g
 rw [asked_at, bL_length]
 simp only [Option.bind_some]
 by_cases h : a.length = 16 ∧ n.length = 12 ∧ e.length ≤ 100
 ·rw [decide_eq_true h, if_pos rfl]
  by_cases h3 : p.length ≤ 616
  ·rw [if_pos ⟨h.1, h.2.1, h.2.2, h3⟩]
   simp only [spec_OpenText.j0]
   rw [if_neg (by simp; omega)]
   unfold spec_l3Open.f
   have w : wrap64 (((bL p).length : Int) - 16) = (p.length : Int) - 16 := by rw [bL_length]; unfold wrap64; omega
   rw [w]
   by_cases h4 : p.length < 16
   ·rw [if_pos (by omega), if_pos h4]
    simp only [Option.bind_some]
    rw [if_neg (by decide)]
   ·rw [if_neg (by omega), if_neg h4, keys_at a h.1]
    simp only [Option.bind_some]
    rw [if_pos (by omega), if_pos (by rw [bL_length]; omega), show ((p.length : Int) - 16).toNat = p.length - 16 by omega, bL_take, bL_drop, tagS_at K (by omega) _ n e _ (schedL_length a h.1) h.2.1 (by omega) (by rw [List.length_take]; omega)]
    simp only [Option.bind_some]
    unfold openL
    by_cases hx : tagL (schedL a) n e (p.take (p.length - 16)) = p.drop (p.length - 16)
    ·rw [if_pos ((strB _ _).2 hx), if_pos hx, first_at n h.2.1]
     simp only [Option.bind_some]
     rw [l3Count_at K _ (startL_length _) (by omega)]
     simp only [Option.bind_some]
     rw [stream_at K _ _ _ (schedL_length a h.1) (up_start n) (by rw [List.length_take]; omega) (by omega)]
     simp only [Option.bind_some, if_true]
    ·rw [if_neg (fun q => hx ((strB _ _).1 q)), if_neg hx]
     simp only [Option.bind_some]
     rw [if_neg (by decide)]
  ·rw [if_neg (fun q => h3 q.2.2.2)]
   simp only [spec_OpenText.j0]
   rw [if_pos (by simp; omega)]
 ·rw [decide_eq_false h, if_neg (by decide), if_neg (fun q => h ⟨q.1, q.2.1, q.2.2.1⟩)]
  simp only [spec_OpenText.j0]
  rfl
theorem open_at (a b c d : List (BitVec 8)) : ∃ t ys, ys.length ≤ 1048576 ∧ (∀ k, 4001 ≤ k → spec_OpenText.f k (bL a) (bL b) (bL c) (bL d) = some (t, ys)) ∧ impl_OpenText.f (bL a) (bL b) (bL c) (bL d) = some (t, ys) := by
 refine ⟨(impl_OpenText.g a b c d).1, (impl_OpenText.g a b c d).2, ?_, fun k hk => openSpec k hk a b c d, ?_⟩
 ·unfold impl_OpenText.g openL
  split
  ·rename_i h
   split
   ·simp
   ·split
    ·show (bL (streamL _ _ _)).length ≤ _
     rw [bL_length, streamL_length, List.length_take]
     omega
    ·simp
  ·simp
 ·unfold impl_OpenText.f
  rw [if_pos ⟨bL_isBs _, bL_isBs _, bL_isBs _, bL_isBs _⟩, unB_bL, unB_bL, unB_bL, unB_bL]
end Go.Proofs.Ytaibogaheidkcaa.All
end
section
set_option linter.unusedVariables false
set_option linter.unusedSimpArgs false
namespace Go.Proofs.Ytaibogaheidkcaa.All
open Go.RowKit Go.Proofs.Ytaibogaheidkcaa.All Go.Proofs.YtaibogaheidkcaaW.PrintWords Go.Proofs.YtaibogaheidkcaaW.PrintLast Go.Proofs.YtaibogaheidkcaaW.PrintMore
theorem markR (k : Nat) (c : Int) (xs : List Int) (hn : xs.length ≤ 1048576) (hk : xs.length < k) : laws_markBytesResult.f k c xs 1 = some (((1 + xs.length : Nat) : Int), mkL 1 xs.length) := by
 unfold laws_markBytesResult.f
 rw [markB k xs hn hk]
 rfl
theorem heldR (k : Nat) (c : Int) (n : Nat) (hn : n ≤ 1048576) (hk : n < k) : laws_heldBytesResult.f k c (mkL 1 n) 1 = some ((1 + n : Nat) : Int) := by
 unfold laws_heldBytesResult.f
 rw [heldB k n hn hk]
 simp only [Option.bind_some]
 rw [if_neg (by omega)]
theorem eqR (k : Nat) (c : Int) (xs : List Int) (hn : xs.length ≤ 1048576) (hk : xs.length < k) : laws_eqBytesResult.f k c xs c xs = some true := by
 unfold laws_eqBytesResult.f
 rw [if_pos rfl, eqB k xs hn hk]
 rfl
end Go.Proofs.Ytaibogaheidkcaa.All
end
