/- How deep a plan goes, what the counts come to of what is not too deep, and that what the measure lets by is small and has at most 2^20 parts and one: in plain Lean. -/
import Derived.Test.YtlpgnkndjmfcjaaGreatPlKinds
namespace Go.Proofs.YtlpgnkndjmfcjaaGreat.PFnPlanUses
open Go.RowKit Go.Proofs.YtlpgnkndjmfcjaaGreatW.PrintWords Go.Proofs.YtlpgnkndjmfcjaaGreatW.PrintLast Go.Proofs.YtlpgnkndjmfcjaaGreatW.PrintMore
attribute [local go_sem] max2_int min2_int max_two min_two max_three min_three max_four min_four   -- for this text's walks alone
set_option linter.unusedVariables false
set_option linter.unusedSimpArgs false
namespace Pl
theorem kidsN_in {q : Int} {n : Nat} (h : kidsN q = n) : q = 1 ∧ n = 0 ∨ q = 2 ∧ n = 1 ∨ q = 3 ∧ n = 1 ∨ q = 4 ∧ n = 2 ∨ q = 5 ∧ n = 2 ∨ q = 6 ∧ n = 1 ∨ q = 7 ∧ n = 1 := by
  unfold kidsN at h
  omega
/-! ### impl.PlanWide and spec.PlanWide are one -/
mutual
/-- How deep a plan goes. -/
def hgt : S39 → Nat
  | ⟨_, _, _, _, _, _, _, _, _, ks⟩ => hgts ks + 1
def hgts : List S39 → Nat
  | [] => 0
  | k :: ks => max (hgt k) (hgts ks)
end
theorem hgt_eq (x : S39) : hgt x = hgts x.f9 + 1 := by cases x; rfl
theorem shaped_clean (x : S39) : shapedB x = (decide (kidsN x.f0 = x.f9.length) && cleanB x) := by
  obtain ⟨a, b, ts, cells, c, d, keys, e, f, ks⟩ := x
  rw [Bool.eq_iff_iff, Bool.and_eq_true, decide_eq_true_iff]
  unfold shapedB kidsN cleanB
  by_cases h1 : a = 1
  · subst h1; simp [shB, same_iff, noKids, tableOnly, and_assoc]; intros; cases ks with | nil => simp | cons k ks => simp; omega
  by_cases h2 : a = 2
  · subst h2; simp [shB, same_iff, noKids, whereOnly, and_assoc]; intros; omega
  by_cases h3 : a = 3
  · subst h3; simp [shB, same_iff, noKids, mapOnly, and_assoc]; intros; omega
  by_cases h4 : a = 4
  · subst h4; simp [shB, same_iff, noKids, joinOnly, and_assoc]; intros; omega
  by_cases h5 : a = 5
  · subst h5; simp [shB, same_iff, noKids, bothOnly, and_assoc]; intros; omega
  by_cases h6 : a = 6
  · subst h6; simp [shB, same_iff, noKids, onceOnly, and_assoc]; intros; omega
  by_cases h7 : a = 7
  · subst h7; simp [shB, same_iff, noKids, groupOnly, and_assoc]; intros; omega
  simp [h1, h2, h3, h4, h5, h6, h7]
  try (intros; omega)
/-- l4Many counts all of a plan that is not too deep. -/
theorem many_full : ∀ (m : Nat) (x : S39), sz39 x ≤ m → ∀ d, hgt x ≤ d + 1 → manyF x d = sz39 x := by
  intro m
  induction m with
  | zero => intro x h; have := sz39_kids x; omega
  | succ m ih =>
    intro x hm d hd
    have hk := sz39_kids x
    rw [hgt_eq] at hd
    have go : ∀ (ks : List S39), szs39 ks ≤ m → ∀ d, hgts ks ≤ d + 1 → manysF ks d = szs39 ks := by
      intro ks
      induction ks with
      | nil => intro _ d _; rfl
      | cons k ks ihk =>
        intro hs d hd
        simp only [szs39] at hs
        simp only [hgts] at hd
        rw [manysF, szs39, ih k (by omega) d (by omega), ihk (by omega) d (by omega)]
    rw [manyF_eq, hk]
    by_cases h0 : d = 0
    · rw [if_pos h0]
      have h9 : x.f9 = [] := by
        cases h : x.f9 with
        | nil => rfl
        | cons k ks => rw [h] at hd; simp only [hgts] at hd; rw [hgt_eq] at hd; omega
      rw [h9]; rfl
    · rw [if_neg h0, go x.f9 (by omega) (d - 1) (by omega)]
/-- The iterator comes to the end of what is neither too deep nor too many. -/
theorem goV_full : ∀ (m : Nat) (x : S39), sz39 x ≤ m → ∀ deep n, ((goV x deep n).2 = true ↔ hgt x + deep ≤ 6 ∧ n + sz39 x ≤ 10) ∧ ((goV x deep n).2 = true → (goV x deep n).1.length = sz39 x) := by
  intro m
  induction m with
  | zero => intro x h; have := sz39_kids x; omega
  | succ m ih =>
    intro x hm deep n
    have hk := sz39_kids x
    have hh := hgt_eq x
    have go : ∀ (ks : List S39), szs39 ks ≤ m → ∀ deep n, n ≤ 10 → deep ≤ 6 → ((goVs ks deep n).2 = true ↔ hgts ks + deep ≤ 6 ∧ n + szs39 ks ≤ 10) ∧ ((goVs ks deep n).2 = true → (goVs ks deep n).1.length = szs39 ks) := by
      intro ks
      induction ks with
      | nil => intro _ deep n h1 h2; have e0 : szs39 [] = 0 := rfl; have e1 : hgts [] = 0 := rfl; exact ⟨⟨fun _ => by omega, fun _ => by rw [goVs]⟩, fun _ => by rw [goVs]; rfl⟩
      | cons k ks ihk =>
        intro hs deep n h1 h2
        simp only [szs39] at hs
        obtain ⟨a1, a2⟩ := ih k (by omega) deep n
        simp only [hgts, szs39]
        by_cases hc : (goV k deep n).2 = true
        · have e := a2 hc
          have b := a1.1 hc
          rw [goVs_true hc, e]
          obtain ⟨c1, c2⟩ := ihk (by omega) deep (n + sz39 k) (by omega) h2
          refine ⟨?_, fun h => ?_⟩
          · simp only; rw [c1]; omega
          · simp only [List.length_append]; rw [e, c2 h]
        · rw [goVs_false (by simpa using hc)]
          refine ⟨⟨fun h => (by cases h), fun h => absurd (a1.2 (by omega)) hc⟩, fun h => (by cases h)⟩
    by_cases hc : n + 1 > 10 ∨ deep ≥ 6
    · rw [goV_stop hc]
      refine ⟨⟨fun h => (by cases h), fun h => (by omega)⟩, fun h => (by cases h)⟩
    · rw [goV_go hc]
      obtain ⟨c1, c2⟩ := go x.f9 (by omega) (deep + 1) (n + 1) (by omega) (by omega)
      refine ⟨?_, fun h => ?_⟩
      · simp only; rw [c1]; omega
      · simp only [List.length_cons]; rw [c2 h]; omega
theorem size_full (x : S39) : sizeB x = true ↔ hgt x ≤ 6 ∧ sz39 x ≤ 10 := by
  have h := (goV_full _ x (Nat.le_refl _) 0 0).1
  unfold sizeB; rw [h]; omega
end Pl

end Go.Proofs.YtlpgnkndjmfcjaaGreat.PFnPlanUses
