-- Laid by wip/shake.py of this repo out of this claim's texts. Not trusted: Lean checks it.
import Derived.Test.YtjfdcabgbcbdjaaAllx179s
import Derived.Test.YtjfdcabgbcbdjaaAllx181s
import Derived.Test.YtjfdcabgbcbdjaaAllx20s
import Derived.Test.YtjfdcabgbcbdjaaAllx522s
import Derived.Test.YtjfdcabgbcbdjaaAllx523s
import Derived.Test.YtjfdcabgbcbdjaaAllx524s
import Derived.Test.YtjfdcabgbcbdjaaAllx97s
import Derived.Test.YtjfdcabgbcbdjaaLemGroups
set_option linter.unusedVariables false
set_option linter.unusedSimpArgs false
namespace Go.Proofs.Ytjfdcabgbcbdjaa.Pure
open Go.RowKit Go.Proofs.Ytjfdcabgbcbdjaa.All Go.Proofs.YtjfdcabgbcbdjaaW.PrintWords Go.Proofs.YtjfdcabgbcbdjaaW.PrintLast Go.Proofs.YtjfdcabgbcbdjaaW.PrintMore
theorem more_loop (x0 x3 x4 x6 x7 : List Int) (c1 c2 : Int) (y1 y2 : List Int) (L : Nat) (hL : L < 1099511627776) : ∀ (d K i : Nat) (m : List (BitVec 8)), m.length = L → i + d = L →
  ∃ e : List (BitVec 8), e.length = L ∧ laws_FnGroups.l0 (K + d) x0 x3 x4 x6 x7 (bL m) (L : Int) (i : Int) c1 y1 c2 y2 = laws_FnGroups.l0 K x0 x3 x4 x6 x7 (bL e) (L : Int) (L : Int) c1 y1 c2 y2
 | 0, K, i, m, hm, hi => ⟨m, hm, by rw [show i = L by omega]; rfl⟩
 | d + 1, K, i, m, hm, hi => by
  have w1 : wrap64 ((i : Int) + 1) = ((i + 1 : Nat) : Int) := by unfold wrap64; omega
  obtain ⟨b, eb⟩ := mod_bI2 ((((rd (bL m) (i : Int)) * 3) % 256) + ((i : Int) % 256))
  obtain ⟨e, he, h⟩ := more_loop x0 x3 x4 x6 x7 c1 c2 y1 y2 L hL d K (i + 1) (m.set i b) (by rw [List.length_set]; exact hm) (by omega)
  refine ⟨e, he, ?_⟩
  rw [← h, show K + (d + 1) = (K + d) + 1 from rfl]
  simp only [laws_FnGroups.l0]
  rw [if_pos (by omega), if_pos (by omega), if_pos (by rw [bL_length]; omega), w1, eb, Int.toNat_natCast, bL_set]
theorem j2_good (K : Nat) (hK : 2000 < K) (l : List Int) (hb : ∀ x ∈ l, 0 ≤ x ∧ x < 256) (hl : l.length ≤ 1099511627776) (a b : List (BitVec 8)) (ha : a.length = 16) (hb6 : b.length = 16) :
  laws_FnGroups.j2 (K + 1) l (bL a) (bL b) 0 (bL (bV (gM (vB a) (vB b)))) = some true := by
 simp only [laws_FnGroups.j2]
 rw [if_pos trivial, if_pos (by decide)]
 simp only [Option.bind_some, List.nil_append]
 rw [if_pos (by decide), if_pos (by rw [bL_length]; simp; omega)]
 try simp only [Option.bind_some]
 obtain ⟨t, ht, t0, t1⟩ := lwAt_at l hb hl 2 16 (by omega) (by omega) (by omega)
 obtain ⟨T, rfl⟩ : ∃ T : Nat, t = T := ⟨t.toNat, by omega⟩
 rw [ht]
 try simp only [Option.bind_some]
 rw [if_pos t0, if_pos (by rw [bL_length]; omega)]
 have hc : (bL b).set ((T : Int)).toNat (Go.bits .xor .u8 (rd (bL b) (T : Int)) 90) = bL (b.set T (by_ b T ^^^ 90#8)) := by
  rw [rd_bL, show (90 : Int) = bI 90#8 from rfl, bI_xor, Int.toNat_natCast, bL_set]
  rfl
 rw [hc]
 generalize hC : b.set T (by_ b T ^^^ 90#8) = c
 have hcl : c.length = 16 := by rw [← hC, List.length_set]; exact hb6
 have h1 : (List.replicate 16 (0 : Int)).set (0 : Int).toNat 128 = bL oneB := by decide +kernel
 rw [h1]
 try simp only [Option.bind_some]
 rw [spec_group_at K (by omega) a b ha hb6]
 try simp only [Option.bind_some]
 rw [sameB, decide_eq_true rfl]
 simp only [Option.bind_some, if_true]
 rw [impl_group_at K (by omega) b a hb6 ha]
 try simp only [Option.bind_some]
 rw [gM_comm (vB b) (vB a), sameB, decide_eq_true rfl]
 simp only [Option.bind_some, if_true]
 rw [impl_group_at K (by omega) a oneB ha rfl]
 try simp only [Option.bind_some]
 rw [vB_one, gM_one, bV_vB a ha, sameB, decide_eq_true rfl]
 simp only [Option.bind_some, if_true]
 rw [lwXor_at K b c (by omega) (by omega) (by omega), xorM_16 b c hb6 hcl]
 try simp only [Option.bind_some]
 rw [impl_group_at K (by omega) a (xorB b c) ha (xorB_length _ _)]
 try simp only [Option.bind_some]
 rw [impl_group_at K (by omega) a c ha hcl]
 try simp only [Option.bind_some]
 rw [lwXor_at K _ _ (by rw [bV_length]; omega) (by rw [bV_length]; omega) (by omega), xorM_16 _ _ (bV_length _) (bV_length _), vB_xor b c hb6 hcl, gM_addR, bV_xor]
 try simp only [Option.bind_some]
 rw [sameB, decide_eq_true rfl]
 try simp only [Option.bind_some]
theorem FnGroups : laws_FnGroups.Pure := by
 intro l0 _ _ hw
 obtain ⟨n, rfl⟩ := bL_of l0 hw
 obtain ⟨K, hK⟩ : ∃ K, K > 8000 := ⟨_, Nat.lt_succ_self _⟩
 refine ⟨K + 1000 + 1, ?_⟩
 unfold laws_FnGroups.f laws_lwBig.f
 by_cases h : ((bL n).length : Int) > 1048576
 ·simp [h]
 have hb := bL_wf n
 have hl : (bL n).length ≤ 1099511627776 := by omega
 try simp only [Option.bind_some]
 rw [if_neg (by simpa using h)]
 obtain ⟨a, b, ha9, hb9, hd⟩ := drawGT (bL n) hb hl (K + 1000 + 1) (by omega)
 obtain ⟨m, e, hm9, he9, hd2⟩ := drawHA (bL n) hb hl (K + 1000 + 1) (by omega)
 have hI : ∀ x y : List (BitVec 8), impl_HashAll.f (bL x) (bL y) = some (impl_HashAll.g x y) := fun x y => by
  unfold impl_HashAll.f
  rw [if_pos ⟨bL_isBs _, bL_isBs _⟩, unB_bL, unB_bL]
 obtain ⟨G, hG⟩ : ∃ G : List (BitVec 8), G = bV (gM (vB a) (vB b)) := ⟨_, rfl⟩
 obtain ⟨c, Y, hgi, hgs, hgc⟩ : ∃ (c : Int) (Y : List (BitVec 8)), impl_GroupTimes.f (K + 1000 + 1) (bL a) (bL b) = some (c, bL Y) ∧ spec_GroupTimes.f (K + 1000 + 1) (bL a) (bL b) = some (c, bL Y) ∧ ((c = 0 ∧ a.length = 16 ∧ b.length = 16 ∧ Y = G) ∨ c = 2) := by
  by_cases h16 : a.length = 16 ∧ b.length = 16
  ·exact ⟨0, G, by rw [hG]; exact impl_group_at _ (by omega) a b h16.1 h16.2, by rw [hG]; exact spec_group_at _ (by omega) a b h16.1 h16.2, .inl ⟨rfl, h16.1, h16.2, rfl⟩⟩
  ·exact ⟨2, [], impl_group_no _ a b h16, spec_group_no _ a b h16, .inr rfl⟩
 have hj2 : ∀ k, 2000 < k → laws_FnGroups.j2 (k + 1) (bL n) (bL a) (bL b) c (bL Y) = some true := fun k hk => by
  rcases hgc with ⟨rfl, h1, h2, h3⟩ | rfl
  ·rw [h3, hG]
   exact j2_good k hk (bL n) hb hl a b h1 h2
  ·simp only [laws_FnGroups.j2]
   rw [if_neg (by decide)]
 have hS := hashSpec (K + 1000 + 1) (by omega) m e
 rw [hd]
 try simp only [Option.bind_some]
 rw [hgi]
 try simp only [Option.bind_some]
 rw [hd2]
 try simp only [Option.bind_some]
 rw [hI]
 try simp only [Option.bind_some]
 rw [hgs]
 simp only [Option.bind_some, if_true]
 rw [hS]
 simp only [Option.bind_some, if_true]
 have hsame : laws_lwSame.f (impl_HashAll.g m e).2 (impl_HashAll.g m e).2 = some true := by
  unfold laws_lwSame.f
  simp
 rw [hsame]
 simp only [Option.bind_some, Bool.not_true]
 by_cases hg0 : m.length = 16 ∧ ¬ e.length > 800 ∧ e.length % 16 = 0
 ·have hg : ∀ z : List (BitVec 8), z.length = e.length → impl_HashAll.g m z = (0, bL (bV (hv (vB m) (e.length / 16) z 0#128))) := fun z hz => by
   unfold impl_HashAll.g
   rw [if_pos hg0.1, if_neg (by omega), if_pos (by omega), hz]
  rw [hg e rfl]
  simp only [laws_FnGroups.j0]
  rw [if_neg (by decide), if_pos trivial]
  simp only [Option.bind_some, List.nil_append]
  rw [if_pos (by rw [bL_length]; simp; omega)]
  try simp only [Option.bind_some]
  obtain ⟨M, hM, hml⟩ := more_loop (bL n) (bL a) (bL b) (bL m) (bL e) c 0 (bL Y) (bL (bV (hv (vB m) (e.length / 16) e 0#128))) e.length (by omega) e.length (K + 1000 - e.length) 0 e rfl (by omega)
  rw [bL_length, show K + 1000 = K + 1000 - e.length + e.length by omega]
  rw [show (0 : Int) = ((0 : Nat) : Int) from rfl]
  refine hml.trans ?_
  obtain ⟨Q, hQ⟩ : ∃ Q, K + 1000 - e.length = Q + 1 + 1 := ⟨K + 1000 - e.length - 2, by omega⟩
  rw [hQ]
  simp only [laws_FnGroups.l0]
  rw [if_neg (by omega), lwXor_at (Q + 1) e M (by omega) (by omega) (by omega)]
  try simp only [Option.bind_some]
  rw [hI, hg (xorM e M) (by rw [xorM_length]; omega)]
  try simp only [Option.bind_some]
  rw [if_pos (by rw [bL_length, bV_length]; rfl), hI, hg M (by omega)]
  try simp only [Option.bind_some]
  rw [lwXor_at (Q + 1) _ _ (by rw [bV_length]; omega) (by rw [bV_length]; omega) (by omega), xorM_16 _ _ (bV_length _) (bV_length _)]
  try simp only [Option.bind_some]
  have hlin := hv_lin (vB m) (e.length / 16) e M 0#128 0#128 (by omega) (by omega)
  rw [BitVec.xor_self] at hlin
  rw [hlin, bV_xor, sameB, decide_eq_true rfl]
  simp only [Option.bind_some, if_true]
  exact hj2 Q (by omega)
 ·obtain ⟨c9, hg, hc9⟩ : ∃ c9 : Int, impl_HashAll.g m e = (c9, []) ∧ c9 ≠ 0 := by
   unfold impl_HashAll.g
   by_cases h1 : m.length = 16
   ·rw [if_pos h1]
    by_cases h2 : e.length > 800
    ·exact ⟨2, by rw [if_pos h2], by decide⟩
    ·rw [if_neg h2, if_neg (fun q => hg0 ⟨h1, h2, q⟩)]
     exact ⟨1, rfl, by decide⟩
   ·rw [if_neg h1]
    exact ⟨2, rfl, by decide⟩
  rw [hg]
  simp only [laws_FnGroups.j0]
  rw [if_neg (by decide), if_neg hc9]
  have z := hj2 (K + 999) (by omega)
  rw [show K + 999 + 1 = K + 1000 by omega] at z
  exact z
end Go.Proofs.Ytjfdcabgbcbdjaa.Pure
