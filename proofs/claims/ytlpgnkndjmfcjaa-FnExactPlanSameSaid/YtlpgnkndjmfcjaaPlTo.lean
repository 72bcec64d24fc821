/- What the copy of a plan is, in Lean, and how a new plan is allocated and its cells stored. -/
import Derived.Test.YtlpgnkndjmfcjaaPlLeaf
namespace Go.Proofs.Ytlpgnkndjmfcjaa.PFnExactPlanSame
open Go.RowKit Go.Proofs.YtlpgnkndjmfcjaaW.PrintWords Go.Proofs.YtlpgnkndjmfcjaaW.PrintLast Go.Proofs.YtlpgnkndjmfcjaaW.PrintMore
attribute [local go_sem] max2_int min2_int max_two min_two max_three min_three max_four min_four   -- for this text's walks alone
set_option linter.unusedVariables false
set_option linter.unusedSimpArgs false
namespace Pl
section
variable {P : Program} {ops : Array Oper} {rest : List Oper} {o : Oper} {a : Act} {Q : Exit → Act → World → Prop}
/-- A variable of a struct's type is laid. -/
theorem alloc_ {W : World} (ty : TypeId) (ho : o.op = .alloc ty) (hgd : o.guard = none) (z : List Value) (n b : Nat) (hi : (P.info? ty).map (fun i => (i.zero, i.size, i.bytes)) = some (some (.agg z.toArray), n, b))
    (h : ∀ g, g = W.heap.size → ∀ w1, w1.heap[g]? = some (.cells z.toArray ty (0, 0)) → Below W.heap.size W w1 → wpList P ops Q rest (a.put o.dst (.pointer (some ⟨g, 0, none⟩))) w1) : wpList P ops Q (o :: rest) a W := by
  refine Kd.event_run hgd ?_ (h _ rfl _ (blk_new W _) (below_alloc (Below.refl _ _) _))
  obtain ⟨i, hi1, hi2⟩ := Option.map_eq_some_iff.1 hi
  simp only [Prod.mk.injEq] at hi2
  obtain ⟨hz, -, -⟩ := hi2
  unfold execOp
  simp only [ho]
  simp [Instr.alloc, zeroValue, typeInfo, hi1, hz, go_sem]
/-- A store into a block of one's own: what the block is behind it. -/
theorem store_ {W : World} (t : TypeId) (p x : Operand) (ho : o.op = .store t p x) (hd : o.dst = none) (hgd : o.guard = none) (g o' : Nat) (hp : a.eval p = .pointer (some ⟨g, o', none⟩)) (u : Value) (hx : a.eval x = u) (seg : List Value) (hu : u.cells.toList = seg)
    (ht : (P.info? t).map (·.size) = some seg.length) (h1 : ∀ q ∈ seg, q.oneCell' = true) (cur : List Value) (e : TypeId) (hh : W.heap[g]? = some (.cells cur.toArray e (0, 0))) (hfit : o' + seg.length ≤ cur.length)
    (h : ∀ w1, w1.heap[g]? = some (.cells (cur.take o' ++ seg ++ cur.drop (o' + seg.length)).toArray e (0, 0)) → W.grownBy w1 (some g) → wpList P ops Q rest a w1) : wpList P ops Q (o :: rest) a W := by
  have hrun := run_store_run (P := P) t u seg hh hu ht (by simpa using hfit) h1
  obtain ⟨cur', h3, h4, h5⟩ := setCells_row seg o' W cur.toArray hh (by simpa using hfit)
  obtain ⟨s1, s2, s3, s4⟩ := setCells_same g seg o' W
  refine wpList_plain hgd fun K hK => ?_
  unfold Oper.wp execOp
  simp only [ho, hp, hx, Sem.run_bind, Sem.run_pure, Result.andThen_ok, hrun]
  show K (a.put o.dst undef) _
  rw [hd]
  refine hK a _ (h _ ?_ ⟨s1, s2, s3, by rw [s4]; exact Nat.le_refl _, fun k _ hk => setCells_far _ _ k (fun he => hk (by rw [he]))⟩)
  rw [h3]
  congr 2
  apply Array.toList_inj.1
  rw [h5]
end
mutual
def conv : S30 → S39
  | ⟨a, b, t, cells, c, d, keys, e, f, ks⟩ => ⟨a, b, cvT t, cells.map cvC, c, d, keys, e, f, convs ks⟩
def convs : List S30 → List S39
  | [] => []
  | x :: xs => conv x :: convs xs
end
theorem convs_map (xs : List S30) : convs xs = xs.map conv := by
  induction xs with
  | nil => rfl
  | cons x xs ih => rw [convs, ih]; rfl
theorem conv_eq (x : S30) : conv x = ⟨x.f0, x.f1, cvT x.f2, x.f3.map cvC, x.f4, x.f5, x.f6, x.f7, x.f8, convs x.f9⟩ := by cases x; rfl
end Pl
namespace Pl
/-- Nothing in it is longer than the law lets by. -/
inductive Small30 : S30 → Prop
  | mk (x : S30) (h3 : x.f3.length ≤ 1048576) (h6 : x.f6.length ≤ 1048576) (h9 : x.f9.length ≤ 1048576) (hs : ∀ y, y ∈ x.f9 → Small30 y) : Small30 x
theorem Small30.out {x : S30} (h : Small30 x) : x.f3.length ≤ 1048576 ∧ x.f6.length ≤ 1048576 ∧ x.f9.length ≤ 1048576 ∧ ∀ y ∈ x.f9, Small30 y := by
  cases h with
  | mk _ h3 h6 h9 hs => exact ⟨h3, h6, h9, hs⟩
end Pl

end Go.Proofs.Ytlpgnkndjmfcjaa.PFnExactPlanSame
