/- The program's shaped at every plan. What the program and the given specification say of columns, cells, tests and keys. -/
import Derived.Test.YtlpgnkndjmfcjaaGreatPlOnly
namespace Go.Proofs.YtlpgnkndjmfcjaaGreat.PFnExactPlanMany
open Go.RowKit Go.Proofs.YtlpgnkndjmfcjaaGreatW.PrintWords Go.Proofs.YtlpgnkndjmfcjaaGreatW.PrintLast Go.Proofs.YtlpgnkndjmfcjaaGreatW.PrintMore
attribute [local go_sem] max2_int min2_int max_two min_two max_three min_three max_four min_four   -- for this text's walks alone
set_option linter.unusedVariables false
set_option linter.unusedSimpArgs false
namespace Pl
theorem tableKids_c (w : World) : Calls Tryz.prog 85 #[.agg #[]] w fun e w' => e = .returned (.int .i64 (0 : Nat)) ∧ Below w.heap.size w w' := by
  go_enter Tryz.func85, Tryz.ntmps85
  go_wp2_with ((with_reducible refine gate_dst (N := 1) rfl ?_); refine box_ 92 (.tmp 0) rfl rfl #[] rfl ?_; intro g hg w1 hb hB; have B1 := Aside0.mk hB; clear hg hb hB)
  go_ret
  exact ⟨rfl, B1.out⟩
theorem whereKids_c (w : World) : Calls Tryz.prog 90 #[.agg #[]] w fun e w' => e = .returned (.int .i64 (1 : Nat)) ∧ Below w.heap.size w w' := by
  go_enter Tryz.func90, Tryz.ntmps90
  go_wp2_with ((with_reducible refine gate_dst (N := 1) rfl ?_); refine box_ 93 (.tmp 0) rfl rfl #[] rfl ?_; intro g hg w1 hb hB; have B1 := Aside0.mk hB; clear hg hb hB)
  go_ret
  exact ⟨rfl, B1.out⟩
theorem mapKids_c (w : World) : Calls Tryz.prog 98 #[.agg #[]] w fun e w' => e = .returned (.int .i64 (1 : Nat)) ∧ Below w.heap.size w w' := by
  go_enter Tryz.func98, Tryz.ntmps98
  go_wp2_with ((with_reducible refine gate_dst (N := 1) rfl ?_); refine box_ 94 (.tmp 0) rfl rfl #[] rfl ?_; intro g hg w1 hb hB; have B1 := Aside0.mk hB; clear hg hb hB)
  go_ret
  exact ⟨rfl, B1.out⟩
theorem joinKids_c (w : World) : Calls Tryz.prog 106 #[.agg #[]] w fun e w' => e = .returned (.int .i64 (2 : Nat)) ∧ Below w.heap.size w w' := by
  go_enter Tryz.func106, Tryz.ntmps106
  go_wp2_with ((with_reducible refine gate_dst (N := 1) rfl ?_); refine box_ 95 (.tmp 0) rfl rfl #[] rfl ?_; intro g hg w1 hb hB; have B1 := Aside0.mk hB; clear hg hb hB)
  go_ret
  exact ⟨rfl, B1.out⟩
theorem bothKids_c (w : World) : Calls Tryz.prog 112 #[.agg #[]] w fun e w' => e = .returned (.int .i64 (2 : Nat)) ∧ Below w.heap.size w w' := by
  go_enter Tryz.func112, Tryz.ntmps112
  go_wp2_with ((with_reducible refine gate_dst (N := 1) rfl ?_); refine box_ 96 (.tmp 0) rfl rfl #[] rfl ?_; intro g hg w1 hb hB; have B1 := Aside0.mk hB; clear hg hb hB)
  go_ret
  exact ⟨rfl, B1.out⟩
theorem onceKids_c (w : World) : Calls Tryz.prog 117 #[.agg #[]] w fun e w' => e = .returned (.int .i64 (1 : Nat)) ∧ Below w.heap.size w w' := by
  go_enter Tryz.func117, Tryz.ntmps117
  go_wp2_with ((with_reducible refine gate_dst (N := 1) rfl ?_); refine box_ 97 (.tmp 0) rfl rfl #[] rfl ?_; intro g hg w1 hb hB; have B1 := Aside0.mk hB; clear hg hb hB)
  go_ret
  exact ⟨rfl, B1.out⟩
theorem groupKids_c (w : World) : Calls Tryz.prog 122 #[.agg #[]] w fun e w' => e = .returned (.int .i64 (1 : Nat)) ∧ Below w.heap.size w w' := by
  go_enter Tryz.func122, Tryz.ntmps122
  go_wp2_with ((with_reducible refine gate_dst (N := 1) rfl ?_); refine box_ 98 (.tmp 0) rfl rfl #[] rfl ?_; intro g hg w1 hb hB; have B1 := Aside0.mk hB; clear hg hb hB)
  go_ret
  exact ⟨rfl, B1.out⟩
/-- shaped -/
noncomputable def shapedB (x : S39) : Bool :=
  if x.f0 = 1 then shB x 0 tableOnly else if x.f0 = 2 then shB x 1 whereOnly else if x.f0 = 3 then shB x 1 mapOnly else if x.f0 = 4 then shB x 2 joinOnly else if x.f0 = 5 then shB x 2 bothOnly else if x.f0 = 6 then shB x 1 onceOnly else if x.f0 = 7 then shB x 1 groupOnly else false
set_option maxHeartbeats 8000000 in
set_option maxRecDepth 100000 in
theorem shaped_none (x : S39) (hp : partV x.f0 = none) (cs : List Value) (w : World) (hK : k39.K w x cs) :
    Calls Tryz.prog 47 #[.agg cs.toArray] w fun e w' => e = .returned (.bool false) ∧ Below w.heap.size w w' := by
  obtain ⟨A12, c12, A15, c15, A18, c18, hcs, l12, g12, l15, g15, l18, g18⟩ := k39_open hK
  have E0 := Aside0.mk (show cs[0]? = some (.int .i64 x.f0) by rw [hcs]; rfl)
  have HP := Aside0.mk hp
  clear hcs l12 g12 l15 g15 l18 g18 hK hp
  go_enter Tryz.func47, Tryz.ntmps47
  go_wp2_with ((with_reducible refine gate_dst (N := 1) rfl ?_); refine box_ 39 (.tmp 0) rfl rfl cs.toArray rfl ?_; intro g hg w1 hbx hB; have X1 := Aside0.mk hbx; have B1 := Aside0.mk hB; clear hbx hB hg)
  refine start_ (n := 9) (S := fun w' => w'.cell? ⟨g, 0, none⟩ = some (.int .i64 x.f0) ∧ Below w.heap.size w w') (ds := []) (zm 9 0) (by kernel_rfl) rfl rfl ⟨(cell_of_range X1.out E0.out), (below_drew B1.out)⟩ (fun hHeld => ?_)
  refine zpk 1 9 9 2 ?_
  refine ztk 2 10 9 6 ?_
  refine one_ (i := 0) (N := some 8) (zm 9 7) rfl rfl (by kernel_rfl) (by decide) (fun K hK => ?_)
  refine goes_ Tryz.func48 (by kernel_rfl) rfl #[] (by rfl) rfl rfl (by simp only [List.map_toArray, List.map_nil]) ?_
  refine (parts_c _).mono ?_
  rintro e w2 ⟨b, rfl, hm, hb⟩
  refine ⟨_, rfl, ?_⟩
  have HM := Aside0.mk hm
  clear hm
  refine hK.out _ _ ⟨(pw_cell_below hb hHeld.1), (below_step hHeld.2 hb)⟩ (fun hHeld => ?_)
  clear hK K
  refine norm_ (a' := ?_) ?_ ?_
  rotate_left
  · show Act.put _ (some 8) _ = _
    simp only [Act.put, List.setIfInBounds_toArray, List.set_cons_zero, List.set_cons_succ, i64_w, i32_w]
    rfl
  refine one_ (i := 3) (N := some 11) (zm 9 15) rfl rfl (by kernel_rfl) (by decide) (fun K hK => ?_)
  refine value_ (w1 := _) (v := .tuple #[.nilIface, .bool false]) (by rfl) rfl (zLk_ rfl rfl rfl (by have h := parts_look HM.out x.f0 true; rw [HP.out] at h; exact h)) ?_
  refine hK.out _ _ ⟨hHeld.1, hHeld.2⟩ (fun hHeld => ?_)
  clear hK K
  refine norm_ (a' := ?_) ?_ ?_
  rotate_left
  · show Act.put _ (some 11) _ = _
    simp only [Act.put, List.setIfInBounds_toArray, List.set_cons_zero, List.set_cons_succ, i64_w, i32_w]
    rfl
  refine zpk 4 7 9 31 ?_
  refine zpk 5 12 9 63 ?_
  refine zpk 6 13 9 127 ?_
  refine zpk 7 3 9 255 ?_
  refine zpk 8 4 9 511 ?_
  refine done_ (by kernel_rfl) ?_
  have B2 := Aside0.mk hHeld.2
  clear hHeld HM X1 B1
  go_wp2
  refine start_ (n := 10) (S := fun w' => Below w.heap.size w w') (ds := []) (zm 10 0) (by kernel_rfl) rfl rfl ((below_drew B2.out)) (fun hHeld => ?_)
  refine zpk 0 14 10 1 ?_
  refine zpk 1 15 10 3 ?_
  refine zpk 2 16 10 7 ?_
  refine zqk 3 17 10 15 ?_
  refine zqk 4 18 10 31 ?_
  refine zqk 5 19 10 63 ?_
  refine zqk 6 20 10 127 ?_
  refine zqk 7 21 10 255 ?_
  refine zqk 8 22 10 511 ?_
  refine zpk 9 23 10 1023 ?_
  refine done_ (by kernel_rfl) ?_
  have B3 := Aside0.mk hHeld
  clear hHeld B2
  go_wp2
  go_ret
  exact ⟨rfl, B3.out⟩
/-- **impl.shaped** -/
theorem shaped_c (x : S39) (cs : List Value) (w : World) (hK : k39.K w x cs) (hsm : Small39 x) :
    Calls Tryz.prog 47 #[.agg cs.toArray] w fun e w' => e = .returned (.bool (shapedB x)) ∧ Below w.heap.size w w' := by
  unfold shapedB
  by_cases h1 : x.f0 = 1
  · rw [if_pos h1]
    exact shaped_known 92 85 86 0 tableOnly (by decide) (fun _ => by kernel_rfl) (fun _ => by kernel_rfl) (enters_v Tryz.func85 (by kernel_rfl) rfl) (enters_v Tryz.func86 (by kernel_rfl) rfl) tableKids_c tableOnly_c x (by unfold partV; rw [if_pos h1]) cs w hK hsm
  by_cases h2 : x.f0 = 2
  · rw [if_neg h1]; rw [if_pos h2]
    exact shaped_known 93 90 91 1 whereOnly (by decide) (fun _ => by kernel_rfl) (fun _ => by kernel_rfl) (enters_v Tryz.func90 (by kernel_rfl) rfl) (enters_v Tryz.func91 (by kernel_rfl) rfl) whereKids_c whereOnly_c x (by unfold partV; rw [if_neg h1]; rw [if_pos h2]) cs w hK hsm
  by_cases h3 : x.f0 = 3
  · rw [if_neg h1]; rw [if_neg h2]; rw [if_pos h3]
    exact shaped_known 94 98 99 1 mapOnly (by decide) (fun _ => by kernel_rfl) (fun _ => by kernel_rfl) (enters_v Tryz.func98 (by kernel_rfl) rfl) (enters_v Tryz.func99 (by kernel_rfl) rfl) mapKids_c mapOnly_c x (by unfold partV; rw [if_neg h1]; rw [if_neg h2]; rw [if_pos h3]) cs w hK hsm
  by_cases h4 : x.f0 = 4
  · rw [if_neg h1]; rw [if_neg h2]; rw [if_neg h3]; rw [if_pos h4]
    exact shaped_known 95 106 107 2 joinOnly (by decide) (fun _ => by kernel_rfl) (fun _ => by kernel_rfl) (enters_v Tryz.func106 (by kernel_rfl) rfl) (enters_v Tryz.func107 (by kernel_rfl) rfl) joinKids_c joinOnly_c x (by unfold partV; rw [if_neg h1]; rw [if_neg h2]; rw [if_neg h3]; rw [if_pos h4]) cs w hK hsm
  by_cases h5 : x.f0 = 5
  · rw [if_neg h1]; rw [if_neg h2]; rw [if_neg h3]; rw [if_neg h4]; rw [if_pos h5]
    exact shaped_known 96 112 113 2 bothOnly (by decide) (fun _ => by kernel_rfl) (fun _ => by kernel_rfl) (enters_v Tryz.func112 (by kernel_rfl) rfl) (enters_v Tryz.func113 (by kernel_rfl) rfl) bothKids_c bothOnly_c x (by unfold partV; rw [if_neg h1]; rw [if_neg h2]; rw [if_neg h3]; rw [if_neg h4]; rw [if_pos h5]) cs w hK hsm
  by_cases h6 : x.f0 = 6
  · rw [if_neg h1]; rw [if_neg h2]; rw [if_neg h3]; rw [if_neg h4]; rw [if_neg h5]; rw [if_pos h6]
    exact shaped_known 97 117 118 1 onceOnly (by decide) (fun _ => by kernel_rfl) (fun _ => by kernel_rfl) (enters_v Tryz.func117 (by kernel_rfl) rfl) (enters_v Tryz.func118 (by kernel_rfl) rfl) onceKids_c onceOnly_c x (by unfold partV; rw [if_neg h1]; rw [if_neg h2]; rw [if_neg h3]; rw [if_neg h4]; rw [if_neg h5]; rw [if_pos h6]) cs w hK hsm
  by_cases h7 : x.f0 = 7
  · rw [if_neg h1]; rw [if_neg h2]; rw [if_neg h3]; rw [if_neg h4]; rw [if_neg h5]; rw [if_neg h6]; rw [if_pos h7]
    exact shaped_known 98 122 123 1 groupOnly (by decide) (fun _ => by kernel_rfl) (fun _ => by kernel_rfl) (enters_v Tryz.func122 (by kernel_rfl) rfl) (enters_v Tryz.func123 (by kernel_rfl) rfl) groupKids_c groupOnly_c x (by unfold partV; rw [if_neg h1]; rw [if_neg h2]; rw [if_neg h3]; rw [if_neg h4]; rw [if_neg h5]; rw [if_neg h6]; rw [if_pos h7]) cs w hK hsm
  rw [if_neg h1]; rw [if_neg h2]; rw [if_neg h3]; rw [if_neg h4]; rw [if_neg h5]; rw [if_neg h6]; rw [if_neg h7]
  exact shaped_none x (by unfold partV; rw [if_neg h1]; rw [if_neg h2]; rw [if_neg h3]; rw [if_neg h4]; rw [if_neg h5]; rw [if_neg h6]; rw [if_neg h7]) cs w hK
end Pl
/-! ## What the leaf functions of a plan's form tell -/
namespace Pl
/-- a column's number within the width and below six -/
def colB (a w : Int) : Bool := decide (0 ≤ a) && decide (a < w) && decide (a < 6)
/-- a cell's value within its bounds -/
def numB (n : Int) : Bool := decide (-1000000000 ≤ n) && decide (n ≤ 1000000000)
/-- what a cell's form is measured by -/
def cellB (k a b n w : Int) : Bool :=
  if k = 1 then colB a w && decide (b = 0) && decide (n = 0)
  else if k = 2 then decide (a = 0) && decide (b = 0) && numB n
  else if k = 3 then colB a w && colB b w && decide (n = 0) else false
theorem spec_l3Col_f (a w : Int) : spec_l3Col.f a w = some (colB a w) := by
  unfold spec_l3Col.f colB
  by_cases h0 : a ≥ 0 <;> by_cases h1 : a < w <;> simp [h0, h1]
theorem spec_l1Cell_f (n : Int) : spec_l1Cell.f n = some (numB n) := by
  unfold spec_l1Cell.f numB
  by_cases h0 : n ≥ -1000000000 <;> simp [h0]
theorem impl_isCell_f (n : Int) : impl_isCell.f n = some (numB n) := by
  unfold impl_isCell.f numB
  by_cases h0 : n ≥ -1000000000 <;> simp [h0]
theorem impl_isPlace_f (a w : Int) : impl_isPlace.f a w = some (colB a w) := by
  unfold impl_isPlace.f colB mn
  by_cases h0 : a ≥ 0
  · rw [if_pos h0]
    refine congrArg some ?_
    rw [Bool.eq_iff_iff]
    simp only [Bool.and_eq_true, decide_eq_true_eq]
    split <;> omega
  · rw [if_neg h0]
    refine congrArg some ?_
    rw [Bool.eq_iff_iff]
    simp only [Bool.and_eq_true, decide_eq_true_eq, Bool.false_eq_true, false_iff]
    omega
theorem beq_dec (n : Int) : (n == 0) = decide (n = 0) := by rw [Bool.eq_iff_iff]; simp
theorem spec_CellOk_f (k a b n w : Int) : spec_CellOk.f k a b n w = some (cellB k a b n w) := by
  unfold spec_CellOk.f cellB
  simp only [spec_l3Col_f, spec_l1Cell_f, Option.bind_some, beq_dec]
  by_cases k1 : k = 1
  · simp only [k1, if_true]; by_cases hc : colB a w = true <;> by_cases hb : b = 0 <;> simp [hc, hb]
  by_cases k2 : k = 2
  · subst k2; simp; by_cases hc : a = 0 <;> by_cases hb : b = 0 <;> simp [hc, hb]
  by_cases k3 : k = 3
  · subst k3; simp; by_cases hc : colB a w = true <;> by_cases hb : colB b w = true <;> simp [hc, hb]
  simp [k1, k2, k3]
theorem impl_CellOk_f (k a b n w : Int) : impl_CellOk.f k a b n w = some (cellB k a b n w) := by
  unfold impl_CellOk.f cellB impl_colReckoning_ok.f impl_numReckoning_ok.f impl_sumReckoning_ok.f
  simp only [impl_isPlace_f, impl_isCell_f, Option.bind_some]
  by_cases k1 : k = 1
  · simp only [k1, if_true]; by_cases hc : n = 0 <;> by_cases hb : b = 0 <;> simp [hc, hb]
  by_cases k2 : k = 2
  · subst k2; simp; by_cases hc : a = 0 <;> by_cases hb : b = 0 <;> simp [hc, hb]
  by_cases k3 : k = 3
  · subst k3; simp; by_cases hc : colB a w = true <;> by_cases hb : n = 0 <;> simp [hc, hb]
  simp [k1, k2, k3]
/-- what a test's form is measured by -/
def testB (k : Int) (a b c d a' b' c' d' w : Int) : Bool := (decide (k = 1) || decide (k = 2)) && cellB a b c d w && cellB a' b' c' d' w
theorem spec_TestOk_f (k : Int) (s : Bool) (a b c d a' b' c' d' w : Int) : spec_TestOk.f k s a b c d a' b' c' d' w = some (testB k a b c d a' b' c' d' w) := by
  unfold spec_TestOk.f testB
  simp only [spec_CellOk_f, Option.bind_some]
  by_cases k1 : k = 1
  · subst k1; by_cases hc : cellB a b c d w = true <;> simp [hc]
  by_cases k2 : k = 2
  · subst k2; by_cases hc : cellB a b c d w = true <;> simp [hc]
  simp [k1, k2]
theorem impl_TestOk_f (k : Int) (s : Bool) (a b c d a' b' c' d' w : Int) : impl_TestOk.f k s a b c d a' b' c' d' w = some (testB k a b c d a' b' c' d' w) := by
  unfold impl_TestOk.f testB
  simp only [impl_CellOk_f, Option.bind_some]
  by_cases k1 : k = 1
  · subst k1; by_cases hc : cellB a b c d w = true <;> simp [hc]
  by_cases k2 : k = 2
  · subst k2; by_cases hc : cellB a b c d w = true <;> simp [hc]
  simp [k1, k2]

def cellB' (x : S33) (w : Int) : Bool := cellB x.f0 x.f1 x.f2 x.f3 w
def testB' (x : S35) (w : Int) : Bool := testB x.f0 x.f2.f0 x.f2.f1 x.f2.f2 x.f2.f3 x.f3.f0 x.f3.f1 x.f3.f2 x.f3.f3 w
def cellsB (l : List S33) (w : Int) : Bool := l.all (fun x => cellB' x w) && decide (1 ≤ l.length) && decide (l.length ≤ 6)
def kidsN (q : Int) : Int := if q = 1 then 0 else if q = 2 then 1 else if q = 3 then 1 else if q = 6 then 1 else if q = 7 then 1 else if q = 4 then 2 else if q = 5 then 2 else -1
def ifW (b : Bool) (n : Int) : Int := if b then n else -1
theorem l3Col_c (a n : Int) (w : World) : Calls Tryz.prog 53 #[.int .i64 a, .int .i64 n] w fun e w' => e = .returned (.bool (colB a n)) ∧ Below w.heap.size w w' :=
  (spec_l3Col.calls a n _ w (spec_l3Col_f a n)).mono fun _ _ ⟨h, hd⟩ => ⟨h, hd.below⟩
theorem isPlace_c (a n : Int) (w : World) : Calls Tryz.prog 110 #[.int .i64 a, .int .i64 n] w fun e w' => e = .returned (.bool (colB a n)) ∧ Below w.heap.size w w' :=
  impl_isPlace.calls a n _ w (impl_isPlace_f a n)
theorem specCellOk_c (x : S33) (n : Int) (w : World) : Calls Tryz.prog 59 #[.agg (cellCells x).toArray, .int .i64 n] w fun e w' => e = .returned (.bool (cellB' x n)) ∧ Below w.heap.size w w' :=
  spec_CellOk.calls x.f0 x.f1 x.f2 x.f3 n _ w (spec_CellOk_f _ _ _ _ _)
theorem implCellOk_c (x : S33) (n : Int) (w : World) : Calls Tryz.prog 95 #[.agg (cellCells x).toArray, .int .i64 n] w fun e w' => e = .returned (.bool (cellB' x n)) ∧ Below w.heap.size w w' :=
  impl_CellOk.calls x.f0 x.f1 x.f2 x.f3 n _ w (impl_CellOk_f _ _ _ _ _)
theorem specTestOk_c (x : S35) (n : Int) (w : World) : Calls Tryz.prog 51 #[.agg (testCells x).toArray, .int .i64 n] w fun e w' => e = .returned (.bool (testB' x n)) ∧ Below w.heap.size w w' :=
  spec_TestOk.calls x.f0 x.f1 x.f2.f0 x.f2.f1 x.f2.f2 x.f2.f3 x.f3.f0 x.f3.f1 x.f3.f2 x.f3.f3 n _ w (spec_TestOk_f _ _ _ _ _ _ _ _ _ _ _)
theorem implTestOk_c (x : S35) (n : Int) (w : World) : Calls Tryz.prog 94 #[.agg (testCells x).toArray, .int .i64 n] w fun e w' => e = .returned (.bool (testB' x n)) ∧ Below w.heap.size w w' :=
  impl_TestOk.calls x.f0 x.f1 x.f2.f0 x.f2.f1 x.f2.f2 x.f2.f3 x.f3.f0 x.f3.f1 x.f3.f2 x.f3.f3 n _ w (impl_TestOk_f _ _ _ _ _ _ _ _ _ _ _)
theorem wideIf_c (b : Bool) (n : Int) (w : World) : Calls Tryz.prog 37 #[.bool b, .int .i64 n] w fun e w' => e = .returned (.int .i64 (ifW b n)) ∧ Below w.heap.size w w' :=
  (impl_wideIf.calls b n _ w (by unfold impl_wideIf.f ifW; cases b <;> rfl)).mono fun _ _ ⟨h, hd⟩ => ⟨h, hd.below⟩
theorem l4Kids_c (q : Int) (w : World) : Calls Tryz.prog 49 #[.int .i64 q] w fun e w' => e = .returned (.int .i64 (kidsN q)) ∧ Below w.heap.size w w' :=
  (spec_l4Kids.calls q _ w (by
    unfold spec_l4Kids.f kidsN
    by_cases h1 : q = 1
    · simp [h1]
    by_cases h2 : q = 2
    · simp [h2]
    by_cases h3 : q = 3
    · simp [h3]
    by_cases h6 : q = 6
    · simp [h6]
    by_cases h7 : q = 7
    · simp [h7]
    by_cases h4 : q = 4
    · simp [h4]
    by_cases h5 : q = 5
    · simp [h5]
    simp [h1, h2, h3, h4, h5, h6, h7])).mono fun _ _ ⟨h, hd⟩ => ⟨h, hd.below⟩
theorem l4Cells_c (A : Option Addr) (c : Nat) (l : List S33) (n : Int) (w : World) (hl : l.length ≤ 1048576) (hr : Kd.C k33 w A l.length l) (hc : l.length ≤ c) :
    Calls Tryz.prog 52 #[.slice A l.length c, .int .i64 n] w fun e w' => e = .returned (.bool (cellsB l n)) ∧ Below w.heap.size w w' := by
  have ev : Ev (fun k => spec_l4Cells.f k l n) (cellsB l n) := by
    have h := ev_down (fun k i => spec_l4Cells.l0 k l n (i : Int)) (fun i => (l.drop i).all (fun x => cellB' x n) && decide (1 ≤ l.length) && decide (l.length ≤ 6)) l.length ?_ ?_ 0 (by omega)
    · simpa [spec_l4Cells.f, cellsB] using h
    · refine Ev.step (fun k => spec_l4Cells.l0.eq_2 ..) (ev_neg (by omega) ?_)
      rw [drop_end l _ (Nat.le_refl _)]
      by_cases h1 : (l.length : Int) ≥ 1
      · refine ev_pos h1 (ev_now ?_)
        rw [Bool.eq_iff_iff]; simp; omega
      · refine ev_neg h1 (ev_now ?_)
        symm; simp; omega
    · intro i hi ih
      refine Ev.step (fun k => spec_l4Cells.l0.eq_2 ..) (ev_pos (by omega) (ev_pos (by omega) ?_))
      rw [rd33 l i hi, drop_at l i hi]
      refine ev_eq (spec_CellOk_f _ _ _ _ _) ?_
      by_cases h1 : cellB (l[i]).f0 (l[i]).f1 (l[i]).f2 (l[i]).f3 n = true
      · refine ev_pos h1 ?_
        rw [w64n (by omega), List.all_cons, show cellB' l[i] n = true from h1, Bool.true_and]
        exact ih
      · refine ev_neg h1 (ev_now ?_)
        rw [List.all_cons, show cellB' l[i] n = false by simpa [cellB'] using h1]; rfl
  obtain ⟨k, hk⟩ := ev.rounds
  exact spec_l4Cells.calls k A c l n _ w hr hc hk
/-! ### Keys -/
def keyP (l : List Int) (n : Int) (i : Nat) : Bool := colB (rd l i) n && !((l.take i).contains (rd l i))
def keysFrom (l : List Int) (n : Int) (i : Nat) : Bool := (List.range' i (l.length - i)).all (keyP l n)
def keysB (l : List Int) (n : Int) : Bool := decide (l.length < 6) && keysFrom l n 0
theorem keysFrom_end (l : List Int) (n : Int) : keysFrom l n l.length = true := by simp [keysFrom]
theorem keysFrom_at (l : List Int) (n : Int) (i : Nat) (h : i < l.length) : keysFrom l n i = (keyP l n i && keysFrom l n (i + 1)) := by
  unfold keysFrom
  obtain ⟨d, hd⟩ : ∃ d, l.length - i = d + 1 := ⟨l.length - i - 1, by omega⟩
  have h2 : l.length - (i + 1) = d := by omega
  rw [hd, h2, List.range'_succ, List.all_cons]
def idxL (x : Int) : List Int → Nat → Int
  | [], _ => -1
  | y :: ys, i => if x = y then (i : Int) else idxL x ys (i + 1)
theorem idxL_pos (x : Int) (l : List Int) (i : Nat) : decide (idxL x l i ≥ 0) = l.contains x := by
  induction l generalizing i with
  | nil => simp [idxL]
  | cons y ys ih =>
    unfold idxL
    by_cases h : x = y
    · subst h; rw [if_pos rfl]; simp
    · rw [if_neg h, ih]; simp [List.contains_cons, h]
theorem contains_ev (l : List Int) (x : Int) (hl : l.length < 4611686018427387904) : Ev (fun k => slices_Contains_int_int.f k l x) (l.contains x) := by
  unfold slices_Contains_int_int.f
  have h := ev_down (fun k i => slices_Index_int_int.l0 k l x (l.length : Int) (i : Int)) (fun i => idxL x (l.drop i) i) l.length ?_ ?_ 0 (by omega)
  · refine Ev.bind (a := idxL x l 0) (by simpa [slices_Index_int_int.f] using h) (ev_now (idxL_pos x l 0))
  · refine Ev.step (fun k => slices_Index_int_int.l0.eq_2 ..) (ev_neg (by omega) (ev_now ?_))
    rw [drop_end l _ (Nat.le_refl _), idxL]
  · intro i hi ih
    refine Ev.step (fun k => slices_Index_int_int.l0.eq_2 ..) (ev_pos (by omega) (ev_pos (by omega) (ev_pos (by omega) ?_)))
    rw [drop_rd l i hi, idxL]
    by_cases h1 : x = rd l (i : Int)
    · exact ev_pos h1 (ev_now (by rw [if_pos h1]))
    · refine ev_neg h1 ?_
      rw [w64n (by omega), if_neg h1]
      exact ih
theorem keysOk_c (A : Option Addr) (c : Nat) (l : List Int) (n : Int) (w : World) (hl : l.length ≤ 1048576) (hr : Kd.C (Kd.int .i64) w A l.length l) (hc : l.length ≤ c) :
    Calls Tryz.prog 126 #[.slice A l.length c, .int .i64 n] w fun e w' => e = .returned (.bool (keysB l n)) ∧ Below w.heap.size w w' := by
  have ev : Ev (fun k => impl_keysOk.f k l n) (keysB l n) := by
    unfold impl_keysOk.f keysB
    by_cases h6 : (l.length : Int) ≥ 6
    · exact ev_pos h6 (ev_now (by symm; simp; omega))
    refine ev_neg h6 ?_
    rw [show decide (l.length < 6) = true by simp; omega, Bool.true_and]
    have h := ev_down (fun k i => impl_keysOk.l0 k l n l (l.length : Int) (i : Int)) (fun i => keysFrom l n i) l.length ?_ ?_ 0 (by omega)
    · simpa using h
    · refine Ev.step (fun k => impl_keysOk.l0.eq_2 ..) (ev_neg (by omega) (ev_now ?_))
      rw [keysFrom_end]
    · intro i hi ih
      refine Ev.step (fun k => impl_keysOk.l0.eq_2 ..) (ev_pos (by omega) (ev_pos (by omega) (ev_pos (by omega) ?_)))
      refine ev_eq (impl_isPlace_f _ _) ?_
      rw [keysFrom_at l n i hi]
      unfold keyP
      by_cases h1 : colB (rd l (i : Int)) n = true
      · refine ev_pos h1 (ev_pos (by omega) ?_)
        rw [Int.toNat_natCast]
        refine Ev.bind (contains_ev (l.take i) (rd l (i : Int)) (by simp; omega)) ?_
        rw [h1, Bool.true_and]
        by_cases h2 : (l.take i).contains (rd l (i : Int)) = true
        · exact ev_pos h2 (ev_now (by rw [h2]; rfl))
        · refine ev_neg h2 ?_
          rw [w64n (by omega), show (l.take i).contains (rd l (i : Int)) = false by simpa using h2]
          simpa using ih
      · refine ev_neg h1 (ev_now ?_)
        rw [show colB (rd l (i : Int)) n = false by simpa using h1]; rfl
  obtain ⟨k, hk⟩ := ev.rounds
  exact impl_keysOk.calls k A c l n _ w hr hc hk
theorem take_drop_at (l : List Int) {i j : Nat} (h : j < i) (hi : i < l.length) : (l.take i).drop j = rd l (j : Int) :: (l.take i).drop (j + 1) := by
  have hl : j < (l.take i).length := by rw [List.length_take]; omega
  rw [List.drop_eq_getElem_cons hl]
  congr 1
  rw [List.getElem_take, rd_nat, List.getD_eq_getElem?_getD, List.getElem?_eq_getElem (by omega)]; rfl
theorem l4Keys_c (A : Option Addr) (c : Nat) (l : List Int) (n : Int) (w : World) (hl : l.length ≤ 1048576) (hr : Kd.C (Kd.int .i64) w A l.length l) (hc : l.length ≤ c) :
    Calls Tryz.prog 54 #[.slice A l.length c, .int .i64 n] w fun e w' => e = .returned (.bool (keysB l n)) ∧ Below w.heap.size w w' := by
  have ev : Ev (fun k => spec_l4Keys.f k l n) (keysB l n) := by
    have h := ev_down (fun k i => spec_l4Keys.l0 k l n (i : Int)) (fun i => decide (l.length < 6) && keysFrom l n i) l.length ?_ ?_ 0 (by omega)
    · simpa [spec_l4Keys.f, keysB] using h
    · refine Ev.step (fun k => spec_l4Keys.l0.eq_2 ..) (ev_neg (by omega) (ev_now ?_))
      rw [keysFrom_end, Bool.eq_iff_iff]; simp; omega
    · intro i hi ih
      refine Ev.step (fun k => spec_l4Keys.l0.eq_2 ..) (ev_pos (by omega) (ev_pos (by omega) ?_))
      refine ev_eq (spec_l3Col_f _ _) ?_
      rw [keysFrom_at l n i hi]
      unfold keyP
      by_cases h1 : colB (rd l (i : Int)) n = true
      · refine ev_pos h1 ?_
        rw [h1, Bool.true_and]
        have inner := ev_down (fun k j => spec_l4Keys.l1 k l n (i : Int) (j : Int)) (fun j => !((l.take i).drop j).contains (rd l (i : Int)) && (decide (l.length < 6) && keysFrom l n (i + 1))) i ?_ ?_ 0 (by omega)
        · rw [List.drop_zero] at inner
          rw [show (decide (l.length < 6) && (!(l.take i).contains (rd l (i : Int)) && keysFrom l n (i + 1))) = (!(l.take i).contains (rd l (i : Int)) && (decide (l.length < 6) && keysFrom l n (i + 1))) by
            cases decide (l.length < 6) <;> cases (l.take i).contains (rd l (i : Int)) <;> rfl]
          exact inner
        · refine Ev.step (fun k => spec_l4Keys.l1.eq_2 ..) (ev_neg (by omega) ?_)
          rw [w64n (by omega), drop_end (l.take i) i (by rw [List.length_take]; omega)]
          simpa using ih
        · intro j hj ihj
          refine Ev.step (fun k => spec_l4Keys.l1.eq_2 ..) (ev_pos (by omega) (ev_pos (by omega) (ev_pos (by omega) (ev_pos (by omega) (ev_pos (by omega) ?_)))))
          rw [take_drop_at l hj hi, List.contains_cons]
          by_cases h2 : rd l (j : Int) = rd l (i : Int)
          · refine ev_pos h2 (ev_now ?_)
            rw [h2]; simp
          · refine ev_neg h2 ?_
            rw [w64n (by omega), show (rd l (i : Int) == rd l (j : Int)) = false by simpa using fun e => h2 e.symm, Bool.false_or]
            exact ihj
      · refine ev_neg h1 (ev_now ?_)
        rw [show colB (rd l (i : Int)) n = false by simpa using h1]; simp
  obtain ⟨k, hk⟩ := ev.rounds
  exact (spec_l4Keys.calls k A c l n _ w hr hc hk).mono fun _ _ ⟨h, hd⟩ => ⟨h, hd.below⟩
end Pl

end Go.Proofs.YtlpgnkndjmfcjaaGreat.PFnExactPlanMany
