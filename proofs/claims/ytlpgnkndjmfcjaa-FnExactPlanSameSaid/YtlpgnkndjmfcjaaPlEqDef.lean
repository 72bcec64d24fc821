/- What it is that two plans are the same, in Lean, and what a copy keeps. -/
import Derived.Test.YtlpgnkndjmfcjaaPlTo3
namespace Go.Proofs.Ytlpgnkndjmfcjaa.PFnExactPlanSame
open Go.RowKit Go.Proofs.YtlpgnkndjmfcjaaW.PrintWords Go.Proofs.YtlpgnkndjmfcjaaW.PrintLast Go.Proofs.YtlpgnkndjmfcjaaW.PrintMore
attribute [local go_sem] max2_int min2_int max_two min_two max_three min_three max_four min_four   -- for this text's walks alone
set_option linter.unusedVariables false
set_option linter.unusedSimpArgs false
namespace Pl
/-- Nothing in it is longer than the law lets by. -/
inductive Small39 : S39 → Prop
  | mk (x : S39) (h3 : x.f3.length ≤ 1048576) (h6 : x.f6.length ≤ 1048576) (h9 : x.f9.length ≤ 1048576) (hs : ∀ y, y ∈ x.f9 → Small39 y) : Small39 x
theorem Small39.out {x : S39} (h : Small39 x) : x.f3.length ≤ 1048576 ∧ x.f6.length ≤ 1048576 ∧ x.f9.length ≤ 1048576 ∧ ∀ y ∈ x.f9, Small39 y := by
  cases h with
  | mk _ h3 h6 h9 hs => exact ⟨h3, h6, h9, hs⟩
theorem small_conv {x : S30} (h : Small30 x) : Small39 (conv x) := by
  induction h with
  | mk x h3 h6 h9 hs ih =>
    rw [conv_eq]
    refine Small39.mk _ (by simpa using h3) h6 (by simpa [convs_map] using h9) (fun y hy => ?_)
    simp only [convs_map, List.mem_map] at hy
    obtain ⟨z, hz, rfl⟩ := hy
    exact ih z hz
open Classical in
/-- Two plans are one. -/
noncomputable def same (x y : S39) : Bool := decide (x = y)
open Classical in
noncomputable def sames (x y : List S39) : Bool := decide (x = y)
theorem ext_plan {x y : S39} (h0 : x.f0 = y.f0) (h1 : x.f1 = y.f1) (h2 : x.f2 = y.f2) (h3 : x.f3 = y.f3) (h4 : x.f4 = y.f4) (h5 : x.f5 = y.f5) (h6 : x.f6 = y.f6) (h7 : x.f7 = y.f7) (h8 : x.f8 = y.f8) (h9 : x.f9 = y.f9) : x = y := by
  cases x; cases y; simp only at h0 h1 h2 h3 h4 h5 h6 h7 h8 h9; subst h0 h1 h2 h3 h4 h5 h6 h7 h8 h9; rfl
theorem same_no {x y : S39} (h : ¬ x = y) : same x y = false := by simp [same, h]
theorem same_self (x : S39) : same x x = true := by simp [same]
theorem sames_iff {x y : List S39} : sames x y = true ↔ x = y := by simp [sames]
theorem same_iff {x y : S39} : same x y = true ↔ x = y := by simp [same]
theorem sames_no {x y : List S39} (h : ¬ x = y) : sames x y = false := by simp [sames, h]
theorem same_kids {x y : S39} (h0 : x.f0 = y.f0) (h1 : x.f1 = y.f1) (h2 : x.f2 = y.f2) (h3 : x.f3 = y.f3) (h4 : x.f4 = y.f4) (h5 : x.f5 = y.f5) (h6 : x.f6 = y.f6) (h7 : x.f7 = y.f7) (h8 : x.f8 = y.f8) : same x y = sames x.f9 y.f9 := by
  rw [Bool.eq_iff_iff, same_iff, sames_iff]
  exact ⟨fun h => by rw [h], fun h9 => ext_plan h0 h1 h2 h3 h4 h5 h6 h7 h8 h9⟩
theorem sames_drop (x y : List S39) (i : Nat) (hx : i < x.length) (hy : i < y.length) : sames (x.drop i) (y.drop i) = (same x[i] y[i] && sames (x.drop (i + 1)) (y.drop (i + 1))) := by
  rw [List.drop_eq_getElem_cons hx, List.drop_eq_getElem_cons hy, Bool.eq_iff_iff, sames_iff, Bool.and_eq_true, same_iff, sames_iff]
  exact ⟨fun h => by injection h with h1 h2; exact ⟨h1, h2⟩, fun h => by rw [h.1, h.2]⟩
end Pl
/-! Two plans that came in by value, each in its box. -/
namespace Pl
structure ES (w : World) (ga gb : Nat) (ca cb : Array Value) (W : World) : Prop where
  hA : W.heap[ga]? = some (.cells ca 39 (0, 0))
  hB : W.heap[gb]? = some (.cells cb 39 (0, 0))
  bel : Below w.heap.size w W
theorem ES.call {w : World} {ga gb : Nat} {ca cb : Array Value} {W W1 : World} (h : ES w ga gb ca cb W) (hb : Below W.heap.size W W1) : ES w ga gb ca cb W1 :=
  ⟨(hb.block ga (blk_lt h.hA)).trans h.hA, (hb.block gb (blk_lt h.hB)).trans h.hB, below_step h.bel hb⟩
theorem ES.cellA {w : World} {ga gb : Nat} {ca cb : Array Value} {W : World} (h : ES w ga gb ca cb W) (j : Nat) : W.cell? ⟨ga, j, none⟩ = ca[j]? := blk_cell h.hA j
theorem ES.cellB {w : World} {ga gb : Nat} {ca cb : Array Value} {W : World} (h : ES w ga gb ca cb W) (j : Nat) : W.cell? ⟨gb, j, none⟩ = cb[j]? := blk_cell h.hB j
end Pl

end Go.Proofs.Ytlpgnkndjmfcjaa.PFnExactPlanSame
