/- What the law's measure of a plan is, in Lean, and which plans have fields that lie in their types. -/
import Derived.Test.YtlpgnkndjmfcjaaPlBase
namespace Go.Proofs.Ytlpgnkndjmfcjaa.PFnExactPlanSame
open Go.RowKit Go.Proofs.YtlpgnkndjmfcjaaW.PrintWords Go.Proofs.YtlpgnkndjmfcjaaW.PrintLast Go.Proofs.YtlpgnkndjmfcjaaW.PrintMore
attribute [local go_sem] max2_int min2_int max_two min_two max_three min_three max_four min_four   -- for this text's walks alone
set_option linter.unusedVariables false
set_option linter.unusedSimpArgs false
namespace Pl
mutual
/-- szPlan -/
def szF : S30 → Int → Int
  | ⟨_, _, _, cells, _, _, keys, _, _, ks⟩, left =>
    if left - (cells.length : Int) < 0 then -1 else
    if left - (cells.length : Int) - (keys.length : Int) < 0 then -1 else
    if left - (cells.length : Int) - (keys.length : Int) - (ks.length : Int) < 0 then -1 else
    szGo ks (left - (cells.length : Int) - (keys.length : Int) - (ks.length : Int))
def szGo : List (S30) → Int → Int
  | [], left => left
  | x :: xs, left => if szF x left < 0 then -1 else szGo xs (szF x left)
end
mutual
theorem szF_le : ∀ (x : S30) (left : Int), 0 ≤ left → -1 ≤ szF x left ∧ szF x left ≤ left
  | ⟨_, _, _, cells, _, _, keys, _, _, ks⟩, left, h => by
    simp only [szF]
    split
    · omega
    split
    · omega
    split
    · omega
    have := szGo_le ks (left - (cells.length : Int) - (keys.length : Int) - (ks.length : Int)) (by omega)
    omega
theorem szGo_le : ∀ (xs : List (S30)) (left : Int), 0 ≤ left → -1 ≤ szGo xs left ∧ szGo xs left ≤ left
  | [], left, h => by simp only [szGo]; omega
  | x :: xs, left, h => by
    have h1 := szF_le x left h
    simp only [szGo]
    split
    · omega
    have := szGo_le xs (szF x left) (by omega)
    omega
end
def szSo (xs : List (S30)) (left : Int) : Int := if left - (xs.length : Int) < 0 then -1 else szGo xs (left - (xs.length : Int))
theorem szF_eq (x : S30) (left : Int) : szF x left = if left - (x.f3.length : Int) < 0 then -1 else if left - (x.f3.length : Int) - (x.f6.length : Int) < 0 then -1 else szSo x.f9 (left - (x.f3.length : Int) - (x.f6.length : Int)) := by
  cases x; rfl
/-- A plan's numbers and lists are what can be read. -/
abbrev OkP := Ok30
end Pl
namespace Pl
def cutL (a : Int) (n : Nat) : Int := if a - (n : Int) < 0 then -1 else a - (n : Int)
theorem cutL_le (a : Int) (n : Nat) (h : 0 ≤ a) : cutL a n ≤ a := by unfold cutL; split <;> omega
theorem szF_eq2 (x : S30) (left : Int) (h : 0 ≤ left) : szF x left = if cutL left x.f3.length < 0 then -1 else if cutL (cutL left x.f3.length) x.f6.length < 0 then -1 else szSo x.f9 (cutL (cutL left x.f3.length) x.f6.length) := by
  rw [szF_eq]
  unfold cutL
  by_cases h1 : left - (x.f3.length : Int) < 0
  · simp [h1]
  by_cases h2 : left - (x.f3.length : Int) - (x.f6.length : Int) < 0
  · simp [h1, h2]
  · simp [h1, h2]
theorem szSo_ge (xs : List (S30)) (left : Int) : szSo xs left < 0 → szSo xs left = -1 := by
  intro h
  unfold szSo at h ⊢
  split
  · rfl
  next hc =>
    rw [if_neg hc] at h
    have := szGo_le xs (left - (xs.length : Int)) (by omega)
    omega
end Pl

end Go.Proofs.Ytlpgnkndjmfcjaa.PFnExactPlanSame
