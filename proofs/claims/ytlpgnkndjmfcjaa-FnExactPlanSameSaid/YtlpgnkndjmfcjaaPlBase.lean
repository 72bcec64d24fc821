/- How a struct is loaded whole and boxed, its cells told as a list that is not laid open, and how many parts a plan holds. It holds of every program. -/
import Derived.Test.YtlpgnkndjmfcjaaPFnExactPlanSamex1
import Derived.Deep.MidRow
import Derived.Lib.Hide
import Derived.StillTailTactics
namespace Go.Proofs.Ytlpgnkndjmfcjaa.PFnExactPlanSame
open Go.RowKit Go.Proofs.YtlpgnkndjmfcjaaW.PrintWords Go.Proofs.YtlpgnkndjmfcjaaW.PrintLast Go.Proofs.YtlpgnkndjmfcjaaW.PrintMore
attribute [local go_sem] max2_int min2_int max_two min_two max_three min_three max_four min_four   -- for this text's walks alone
set_option linter.unusedVariables false
set_option linter.unusedSimpArgs false
/-! ## Plans: what is said of them in Lean, with no program in sight -/
namespace Pl
mutual
/-- how many parts a plan of the law's holds -/
def sz30 : S30 → Nat
  | ⟨_, _, _, _, _, _, _, _, _, ks⟩ => 1 + szs30 ks
def szs30 : List (S30) → Nat
  | [] => 0
  | x :: xs => sz30 x + szs30 xs
end
mutual
def sz39 : S39 → Nat
  | ⟨_, _, _, _, _, _, _, _, _, ks⟩ => 1 + szs39 ks
def szs39 : List (S39) → Nat
  | [] => 0
  | x :: xs => sz39 x + szs39 xs
end
theorem szs30_get {xs : List (S30)} {i : Nat} (h : i < xs.length) : sz30 (xs[i]) ≤ szs30 xs := by
  induction xs generalizing i with
  | nil => simp at h
  | cons x xs ih =>
    cases i with
    | zero => simp [szs30]
    | succ i => have := ih (i := i) (by simpa using h); simp only [List.getElem_cons_succ, szs30]; omega
theorem szs39_get {xs : List (S39)} {i : Nat} (h : i < xs.length) : sz39 (xs[i]) ≤ szs39 xs := by
  induction xs generalizing i with
  | nil => simp at h
  | cons x xs ih =>
    cases i with
    | zero => simp [szs39]
    | succ i => have := ih (i := i) (by simpa using h); simp only [List.getElem_cons_succ, szs39]; omega
theorem sz30_kids (x : S30) : sz30 x = 1 + szs30 x.f9 := by cases x; rfl
theorem sz39_kids (x : S39) : sz39 x = 1 + szs39 x.f9 := by cases x; rfl
end Pl
/-! ## The machine's side -/
namespace Pl
theorem Addr_add_add (a : Addr) (i j : Nat) : (a.add i).add j = a.add (i + j) := by
  unfold Addr.add
  repeat' split
  all_goals first | rfl | omega | (simp_all; done) | (simp_all; omega)
section
variable {P : Program} {ops : Array Oper} {rest : List Oper} {o : Oper} {a : Act} {Q : Exit → Act → World → Prop}
/-- A struct is loaded whole, its cells told as a list that is not laid open. -/
theorem load_ {W : World} (ty : TypeId) (x : Operand) (ho : o.op = .load ty x) (hgd : o.guard = none) (ad : Addr) (hx : a.eval x = .pointer (some ad)) (cs : List Value) (fs : Array Field) (hu : P.underlying ty = some (.struct fs)) (hi : (P.info? ty).map (·.size) = some cs.length)
    (hc : ∀ j v, cs[j]? = some v → W.cell? (ad.add j) = some v) (h : wpList P ops Q rest (a.put o.dst (.agg cs.toArray)) W) : wpList P ops Q (o :: rest) a W := by
  refine wpList_plain hgd fun K hK => ?_
  have hl : (loadCells ad cs.length).run P W = .ok cs.toArray W := run_loadCells_list (P := P) W ad cs hc
  have hr : (loadVar ty ad).run P W = .ok (.agg cs.toArray) W := by
    cases hq : P.info? ty with
    | none => simp [hq] at hi
    | some i =>
      have hs : i.size = cs.length := by simpa [hq] using hi
      have hagg : (isAgg ty).run P W = .ok true W := by
        unfold isAgg
        rw [Sem.run_bind, run_underlying hu W]
        simp
      simp [loadVar, Sem.run_bind, hagg, sizeOf, typeInfo, hq, hs, hl]
  unfold Oper.wp execOp
  simp only [ho, hx, Instr.loadAt, Instr.sureAddr, Sem.run_bind, Sem.run_pure, Result.andThen_ok, hr]
  exact hK _ _ h
/-- A struct that came in by value is boxed. -/
theorem box_ {W : World} (ty : TypeId) (x : Operand) (ho : o.op = .box ty x) (hgd : o.guard = none) (cs : Array Value) (hx : a.eval x = .agg cs)
    (h : ∀ g, g = W.heap.size → ∀ w1, w1.heap[g]? = some (.cells cs ty (0, 0)) → Below W.heap.size W w1 → wpList P ops Q rest (a.put o.dst (.pointer (some ⟨g, 0, none⟩))) w1) : wpList P ops Q (o :: rest) a W := by
  refine Kd.event_run hgd ?_ (h _ rfl _ (blk_new W _) (below_alloc (Below.refl _ _) _))
  unfold execOp
  simp only [ho, hx]
  go_simp
  try rfl
end
/-- An element of a row that is read: its cells as a list. -/
theorem elem_ {α : Type} {d : Kd α} {W : World} {A : Option Addr} {xs : List α} (h : Kd.C d W A xs.length xs) (i : Nat) (hi : i < xs.length) : ∃ ad c, A = some ad ∧ c.length = d.sz ∧ d.K W xs[i] c ∧ ∀ j v, c[j]? = some v → W.cell? ((ad.add (i * d.sz)).add j) = some v := by
  obtain ⟨ad, c, e, hl, hK, hc⟩ := Kd.C_get h xs[i] (i : Int) (by omega) (by omega)
  refine ⟨ad, c, e, hl, ?_, fun j v hj => ?_⟩
  · simpa [List.getD_eq_getElem?_getD, hi] using hK
  · rw [Addr_add_add]; exact hc j v hj
end Pl

end Go.Proofs.Ytlpgnkndjmfcjaa.PFnExactPlanSame
