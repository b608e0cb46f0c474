-- Laid by wip/shake.py of this repo out of this claim's texts. Not trusted: Lean checks it.
import Derived.Test.YtmnhddedcbkpoaaHands
import Derived.Test.YtmnhddedcbkpoaaAllx553s
import Derived.Test.YtmnhddedcbkpoaaAllx550s
import Derived.Lib.SliceRun
namespace Go.Proofs.Ytmnhddedcbkpoaa.All
open Go.RowKit Go.Proofs.YtmnhddedcbkpoaaW.PrintWords Go.Proofs.YtmnhddedcbkpoaaW.PrintLast Go.Proofs.YtmnhddedcbkpoaaW.PrintMore
attribute [local go_sem] max2_int min2_int max_two min_two max_three min_three max_four min_four
set_option linter.unusedVariables false
set_option linter.unusedSimpArgs false
theorem own_elem {W : World} {base B0 : Nat} {f : Nat → Nat} {go n c : Nat} {cur : Array Value} {xs : List S25} (h : (Kd.tag f k25).R 25 W base (fun k => k < B0) (.slice (some ⟨go, 0, none⟩) n c) xs.zipIdx) (hc : W.heap[go]? = some (Obj.cells cur 25 (0, 0))) (i : Nat) (hi : i < xs.length) :
  ∃ Ae ce, cur[i * 2]? = some (.int .i64 (rd_T25 xs (i : Int)).f0) ∧ cur[i * 2 + 1]? = some (.slice Ae (rd_T25 xs (i : Int)).f1.length ce) ∧ (rd_T25 xs (i : Int)).f1.length ≤ ce ∧ Kd.R (Kd.int .u8) 5 W base (fun k => k < B0 ∧ f k = i) (.slice Ae (rd_T25 xs (i : Int)).f1.length ce) (rd_T25 xs (i : Int)).f1 := by
 have hn := (Kd.R_reads' h).1
 rw [List.length_zipIdx] at hn
 obtain ⟨cs, hl, hM, hcell⟩ := Kd.R_getA h (z25, 0) (i : Int) (by omega) (by omega)
 rw [Int.toNat_natCast] at hM hcell
 have hg : xs.zipIdx.getD i (z25, 0) = (xs[i], i) := by
  rw [List.getD_eq_getElem?_getD, List.getElem?_zipIdx, List.getElem?_eq_getElem hi]
  simp
 rw [hg] at hM
 have hM2 : k25.M W base (fun k => (k < B0 ∧ some k ≠ (Value.slice (some ⟨go, 0, none⟩) n c).ownBlock) ∧ f k = i) xs[i] cs := hM
 obtain ⟨v1, rfl, g1⟩ := k25_openM hM2
 obtain ⟨Ae, ce, rfl⟩ := Kd.R_slice g1
 have ha : ∀ j, Addr.add ⟨go, 0, none⟩ j = ⟨go, j, none⟩ := fun j => by unfold Addr.add; split <;> simp_all
 have c0 := hcell 0 _ rfl
 have c1 := hcell 1 _ rfl
 rw [ha, blk_cell hc] at c0 c1
 rw [rd_get xs i hi]
 exact ⟨Ae, ce, c0, c1, (Kd.R_reads' g1).2.1, Kd.R_mono g1 (fun k hk => ⟨hk.1.1, hk.2⟩)⟩
theorem out_ne {W : World} {base B0 kk : Nat} {f : Nat → Nat} {u : Value} {xs : List S25} (h : Kd.S k25 25 W base (fun k_ => (k_ < B0 ∧ f k_ < kk) ∨ B0 ≤ k_) u xs) (k : Nat) (hk : k < B0 ∧ f k = kk) : some k ≠ u.ownBlock := by
 obtain ⟨f', hR⟩ := h
 intro he
 have := hR.1 k he.symm
 omega
theorem out_open {W : World} {base B0 kk : Nat} {f : Nat → Nat} {u : Value} {xs : List S25} (h : Kd.S k25 25 W base (fun k_ => (k_ < B0 ∧ f k_ < kk) ∨ B0 ≤ k_) u xs) : Kd.S k25 25 W base (fun k_ => ((k_ < B0 ∧ f k_ < kk + 1) ∨ B0 ≤ k_) ∧ ¬ (k_ < B0 ∧ f k_ = kk)) u xs := Kd.S_mono h (fun k hk => by omega)
theorem out_fresh {u v1 : Value} {B0 n : Nat} (hu : ∀ k_, u.ownBlock = some k_ → B0 ≤ k_) (hat : v1.ownBlock = u.ownBlock ∨ ∃ b, v1.ownBlock = some b ∧ n ≤ b) (hn : B0 ≤ n) : ∀ k_, v1.ownBlock = some k_ → B0 ≤ k_ := by
 intro k_ hk_
 rcases hat with h_ | ⟨b_, h_, h2_⟩
 ·exact hu k_ (by rw [← h_]; exact hk_)
 ·rw [h_] at hk_
  injection hk_ with hk_
  omega
theorem S_cons2 {w : World} {base : Nat} {ok : Nat → Prop} {v : Value} {xs : List S25} (h : Kd.S k25 25 w base ok v xs) (hn : 0 < xs.length) : ∃ g c, v = .slice (some ⟨g, 0, none⟩) xs.length c := by
 obtain ⟨g, c, hv, _⟩ := Kd.S_form h hn
 exact ⟨g, c, hv⟩
end Go.Proofs.Ytmnhddedcbkpoaa.All
