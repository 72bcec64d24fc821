/- Over whatever test and width the program's TestOk and the reference's tell the same: the law answers true. No condition beyond what the statement gives. -/
import Derived.Test.YtjajepomgbpjpaaPFnExactTestOkx3
import Derived.Test.YtjajepomgbpjpaaQ
namespace Go.Proofs.Ytjajepomgbpjpaa.Pure
open Go.RowKit Go.Proofs.Ytjajepomgbpjpaa.PFnExactTestOk Go.Proofs.YtjajepomgbpjpaaW.PrintWords Go.Proofs.YtjajepomgbpjpaaW.PrintLast Go.Proofs.YtjajepomgbpjpaaW.PrintMore Go.Proofs.Ytjajepomgbpjpaa.Q

/-- a column's number within the width and below six -/
def colB (a w : Int) : Bool := decide (0 ≤ a) && decide (a < w) && decide (a < 6)
/-- a cell's value within its bounds -/
def numB (n : Int) : Bool := decide (-1000000000 ≤ n) && decide (n ≤ 1000000000)
/-- what a cell's form is measured by -/
def cellB (k a b n w : Int) : Bool :=
  if k = 1 then colB a w && decide (b = 0) && decide (n = 0)
  else if k = 2 then decide (a = 0) && decide (b = 0) && numB n
  else if k = 3 then colB a w && colB b w && decide (n = 0) else false
theorem spec_l3Col_f (a w : Int) : spec_l3Col.f a w = some (colB a w) := by
  unfold spec_l3Col.f colB
  by_cases h0 : a ≥ 0 <;> by_cases h1 : a < w <;> simp [h0, h1]
theorem spec_l1Cell_f (n : Int) : spec_l1Cell.f n = some (numB n) := by
  unfold spec_l1Cell.f numB
  by_cases h0 : n ≥ -1000000000 <;> simp [h0]
theorem impl_isCell_f (n : Int) : impl_isCell.f n = some (numB n) := by
  unfold impl_isCell.f numB
  by_cases h0 : n ≥ -1000000000 <;> simp [h0]
theorem impl_isPlace_f (a w : Int) : impl_isPlace.f a w = some (colB a w) := by
  unfold impl_isPlace.f colB mn
  by_cases h0 : a ≥ 0
  · rw [if_pos h0]
    refine congrArg some ?_
    rw [Bool.eq_iff_iff]
    simp only [Bool.and_eq_true, decide_eq_true_eq]
    split <;> omega
  · rw [if_neg h0]
    refine congrArg some ?_
    rw [Bool.eq_iff_iff]
    simp only [Bool.and_eq_true, decide_eq_true_eq, Bool.false_eq_true, false_iff]
    omega
theorem beq_dec (n : Int) : (n == 0) = decide (n = 0) := by rw [Bool.eq_iff_iff]; simp
theorem spec_CellOk_f (k a b n w : Int) : spec_CellOk.f k a b n w = some (cellB k a b n w) := by
  unfold spec_CellOk.f cellB
  simp only [spec_l3Col_f, spec_l1Cell_f, Option.bind_some, beq_dec]
  by_cases k1 : k = 1
  · simp only [k1, if_true]; by_cases hc : colB a w = true <;> by_cases hb : b = 0 <;> simp [hc, hb]
  by_cases k2 : k = 2
  · subst k2; simp; by_cases hc : a = 0 <;> by_cases hb : b = 0 <;> simp [hc, hb]
  by_cases k3 : k = 3
  · subst k3; simp; by_cases hc : colB a w = true <;> by_cases hb : colB b w = true <;> simp [hc, hb]
  simp [k1, k2, k3]
theorem impl_CellOk_f (k a b n w : Int) : impl_CellOk.f k a b n w = some (cellB k a b n w) := by
  unfold impl_CellOk.f cellB impl_colReckoning_ok.f impl_numReckoning_ok.f impl_sumReckoning_ok.f
  simp only [impl_isPlace_f, impl_isCell_f, Option.bind_some]
  by_cases k1 : k = 1
  · simp only [k1, if_true]; by_cases hc : n = 0 <;> by_cases hb : b = 0 <;> simp [hc, hb]
  by_cases k2 : k = 2
  · subst k2; simp; by_cases hc : a = 0 <;> by_cases hb : b = 0 <;> simp [hc, hb]
  by_cases k3 : k = 3
  · subst k3; simp; by_cases hc : colB a w = true <;> by_cases hb : n = 0 <;> simp [hc, hb]
  simp [k1, k2, k3]

/-- what a test's form is measured by -/
def testB (k : Int) (a b c d a' b' c' d' w : Int) : Bool := (decide (k = 1) || decide (k = 2)) && cellB a b c d w && cellB a' b' c' d' w
theorem spec_TestOk_f (k : Int) (s : Bool) (a b c d a' b' c' d' w : Int) : spec_TestOk.f k s a b c d a' b' c' d' w = some (testB k a b c d a' b' c' d' w) := by
  unfold spec_TestOk.f testB
  simp only [spec_CellOk_f, Option.bind_some]
  by_cases k1 : k = 1
  · subst k1; by_cases hc : cellB a b c d w = true <;> simp [hc]
  by_cases k2 : k = 2
  · subst k2; by_cases hc : cellB a b c d w = true <;> simp [hc]
  simp [k1, k2]
theorem impl_TestOk_f (k : Int) (s : Bool) (a b c d a' b' c' d' w : Int) : impl_TestOk.f k s a b c d a' b' c' d' w = some (testB k a b c d a' b' c' d' w) := by
  unfold impl_TestOk.f testB
  simp only [impl_CellOk_f, Option.bind_some]
  by_cases k1 : k = 1
  · subst k1; by_cases hc : cellB a b c d w = true <;> simp [hc]
  by_cases k2 : k = 2
  · subst k2; by_cases hc : cellB a b c d w = true <;> simp [hc]
  simp [k1, k2]

theorem FnExactTestOk : laws_FnExactTestOk.Pure := by
  intro k s a b c d a' b' c' d' w _ _ _ _ _ _ _ _ _ _ _
  unfold laws_FnExactTestOk.f laws_toTest.f laws_toCell.f
  simp [spec_TestOk_f, impl_TestOk_f]

end Go.Proofs.Ytjajepomgbpjpaa.Pure
