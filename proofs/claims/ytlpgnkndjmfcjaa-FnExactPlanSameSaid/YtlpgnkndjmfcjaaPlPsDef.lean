/- What the comparison of two tests and of two rows of cells is, in Lean. -/
import Derived.Test.YtlpgnkndjmfcjaaPlEq3
namespace Go.Proofs.Ytlpgnkndjmfcjaa.PFnExactPlanSame
open Go.RowKit Go.Proofs.YtlpgnkndjmfcjaaW.PrintWords Go.Proofs.YtlpgnkndjmfcjaaW.PrintLast Go.Proofs.YtlpgnkndjmfcjaaW.PrintMore
attribute [local go_sem] max2_int min2_int max_two min_two max_three min_three max_four min_four   -- for this text's walks alone
set_option linter.unusedVariables false
set_option linter.unusedSimpArgs false
namespace Pl
theorem test_bool (x y : S35) : (x.f0 == y.f0 && (x.f1 == y.f1 && ((x.f2.f0 == y.f2.f0 && (x.f2.f1 == y.f2.f1 && (x.f2.f2 == y.f2.f2 && (x.f2.f3 == y.f2.f3)))) && ((x.f3.f0 == y.f3.f0 && (x.f3.f1 == y.f3.f1 && (x.f3.f2 == y.f3.f2 && (x.f3.f3 == y.f3.f3)))))))) = decide (x = y) := by
  rw [Bool.eq_iff_iff]
  simp only [Bool.and_eq_true, beq_iff_eq, decide_eq_true_eq]
  constructor
  · rintro ⟨h0, h1, ⟨a0, a1, a2, a3⟩, b0, b1, b2, b3⟩
    exact ext_test h0 h1 (ext_cell a0 a1 a2 a3) (ext_cell b0 b1 b2 b3)
  · rintro rfl
    exact ⟨rfl, rfl, ⟨rfl, rfl, rfl, rfl⟩, rfl, rfl, rfl, rfl⟩
theorem eqT (d : Nat) (w : World) (x y : S35) : (Op.equalIn (d + 3) 35 (.agg (testCells x).toArray) (.agg (testCells y).toArray)).run Try.prog w = .ok (decide (x = y)) w := by
  rw [← test_bool]
  exact eqA35 d w _ _ _ _ _ _ _ _ _ _ _ _ _ _ _ _ _ _ _ _
def cellCells (x : S33) : List Value := [.int .i64 x.f0, .int .i64 x.f1, .int .i64 x.f2, .int .i64 x.f3]
theorem eqC (d : Nat) (w : World) (x y : S33) : (Op.equalIn (d + 2) 33 (.agg (cellCells x).toArray) (.agg (cellCells y).toArray)).run Try.prog w = .ok (decide (x = y)) w := by
  have h : (x.f0 == y.f0 && (x.f1 == y.f1 && (x.f2 == y.f2 && (x.f3 == y.f3)))) = decide (x = y) := by
    rw [Bool.eq_iff_iff]
    simp only [Bool.and_eq_true, beq_iff_eq, decide_eq_true_eq]
    exact ⟨fun ⟨a, b, c, d⟩ => ext_cell a b c d, fun e => by rw [e]; exact ⟨rfl, rfl, rfl, rfl⟩⟩
  rw [← h]
  exact eqA33 d w _ _ _ _ _ _ _ _
section
variable {P : Program} {ops : Array Oper} {rest : List Oper} {o : Oper} {a : Act} {Q : Exit → Act → World → Prop}
/-- A struct is loaded whole, by an operation that is guarded (and let by). -/
theorem loadW_ {W : World} (ty : TypeId) (x : Operand) (ho : o.op = .load ty x) (hw : Region.wanted o (yielded ops a.tmps) = true) (ad : Addr) (hx : a.eval x = .pointer (some ad)) (cs : List Value) (fs : Array Field) (hu : P.underlying ty = some (.struct fs)) (hi : (P.info? ty).map (·.size) = some cs.length)
    (hc : ∀ j v, cs[j]? = some v → W.cell? (ad.add j) = some v) (h : wpList P ops Q rest (a.put o.dst (.agg cs.toArray)) W) : wpList P ops Q (o :: rest) a W := by
  refine wpList_step fun K hK => ?_
  rw [if_pos hw]
  have hl : (loadCells ad cs.length).run P W = .ok cs.toArray W := run_loadCells_list (P := P) W ad cs hc
  have hr : (loadVar ty ad).run P W = .ok (.agg cs.toArray) W := by
    cases hq : P.info? ty with
    | none => simp [hq] at hi
    | some i =>
      have hs : i.size = cs.length := by simpa [hq] using hi
      have hagg : (isAgg ty).run P W = .ok true W := by
        unfold isAgg
        rw [Sem.run_bind, run_underlying hu W]
        simp
      simp [loadVar, Sem.run_bind, hagg, sizeOf, typeInfo, hq, hs, hl]
  unfold Oper.wp execOp
  simp only [ho, hx, Instr.loadAt, Instr.sureAddr, Sem.run_bind, Sem.run_pure, Result.andThen_ok, hr]
  exact hK _ _ h
end
end Pl

end Go.Proofs.Ytlpgnkndjmfcjaa.PFnExactPlanSame
