/- How a struct is loaded whole and boxed, its cells told as a list that is not laid open, and how many parts a plan holds. It holds of every program. What a new plan and a new cell are. What the library's comparisons of a plan's cells and keys return, told over their printed contracts. How a new plan is allocated and its cells stored. A piece of a block, and rows of the call's own beside a block that is stored into. Small plans, and what it is that two plans are the same, in Lean. What the comparison of rows of plans is at their ends, in Lean. What the comparison of two tests and of two rows of cells is, in Lean. The library's slices.EqualFunc over impl.PlanSame tells whether two rows of plans are the same, if impl.PlanSame does so for each. The program's impl.PlanSame tells whether two plans are the same, for each plan of at most 2^20 parts. -/
import Derived.Test.YtlpgnkndjmfcjaaGreatPFnPlanUsesx1
import Derived.Deep.MidRow
import Derived.Lib.Hide
import Derived.StillTailTactics
namespace Go.Proofs.YtlpgnkndjmfcjaaGreat.PFnPlanUses
open Go.RowKit Go.Proofs.YtlpgnkndjmfcjaaGreatW.PrintWords Go.Proofs.YtlpgnkndjmfcjaaGreatW.PrintLast Go.Proofs.YtlpgnkndjmfcjaaGreatW.PrintMore
attribute [local go_sem] max2_int min2_int max_two min_two max_three min_three max_four min_four   -- for this text's walks alone
set_option linter.unusedVariables false
set_option linter.unusedSimpArgs false
/-! ## Plans: what is said of them in Lean, with no program in sight -/
namespace Pl
mutual
def sz39 : S39 → Nat
  | ⟨_, _, _, _, _, _, _, _, _, ks⟩ => 1 + szs39 ks
def szs39 : List (S39) → Nat
  | [] => 0
  | x :: xs => sz39 x + szs39 xs
end
theorem szs39_get {xs : List (S39)} {i : Nat} (h : i < xs.length) : sz39 (xs[i]) ≤ szs39 xs := by
  induction xs generalizing i with
  | nil => simp at h
  | cons x xs ih =>
    cases i with
    | zero => simp [szs39]
    | succ i => have := ih (i := i) (by simpa using h); simp only [List.getElem_cons_succ, szs39]; omega
theorem sz39_kids (x : S39) : sz39 x = 1 + szs39 x.f9 := by cases x; rfl
end Pl
/-! ## The machine's side -/
namespace Pl
theorem Addr_add_add (a : Addr) (i j : Nat) : (a.add i).add j = a.add (i + j) := by
  unfold Addr.add
  repeat' split
  all_goals first | rfl | omega | (simp_all; done) | (simp_all; omega)
section
variable {P : Program} {ops : Array Oper} {rest : List Oper} {o : Oper} {a : Act} {Q : Exit → Act → World → Prop}
/-- A struct is loaded whole, its cells told as a list that is not laid open. -/
theorem load_ {W : World} (ty : TypeId) (x : Operand) (ho : o.op = .load ty x) (hgd : o.guard = none) (ad : Addr) (hx : a.eval x = .pointer (some ad)) (cs : List Value) (fs : Array Field) (hu : P.underlying ty = some (.struct fs)) (hi : (P.info? ty).map (·.size) = some cs.length)
    (hc : ∀ j v, cs[j]? = some v → W.cell? (ad.add j) = some v) (h : wpList P ops Q rest (a.put o.dst (.agg cs.toArray)) W) : wpList P ops Q (o :: rest) a W := by
  refine wpList_plain hgd fun K hK => ?_
  have hl : (loadCells ad cs.length).run P W = .ok cs.toArray W := run_loadCells_list (P := P) W ad cs hc
  have hr : (loadVar ty ad).run P W = .ok (.agg cs.toArray) W := by
    cases hq : P.info? ty with
    | none => simp [hq] at hi
    | some i =>
      have hs : i.size = cs.length := by simpa [hq] using hi
      have hagg : (isAgg ty).run P W = .ok true W := by
        unfold isAgg
        rw [Sem.run_bind, run_underlying hu W]
        simp
      simp [loadVar, Sem.run_bind, hagg, sizeOf, typeInfo, hq, hs, hl]
  unfold Oper.wp execOp
  simp only [ho, hx, Instr.loadAt, Instr.sureAddr, Sem.run_bind, Sem.run_pure, Result.andThen_ok, hr]
  exact hK _ _ h
/-- A struct that came in by value is boxed. -/
theorem box_ {W : World} (ty : TypeId) (x : Operand) (ho : o.op = .box ty x) (hgd : o.guard = none) (cs : Array Value) (hx : a.eval x = .agg cs)
    (h : ∀ g, g = W.heap.size → ∀ w1, w1.heap[g]? = some (.cells cs ty (0, 0)) → Below W.heap.size W w1 → wpList P ops Q rest (a.put o.dst (.pointer (some ⟨g, 0, none⟩))) w1) : wpList P ops Q (o :: rest) a W := by
  refine Kd.event_run hgd ?_ (h _ rfl _ (blk_new W _) (below_alloc (Below.refl _ _) _))
  unfold execOp
  simp only [ho, hx]
  go_simp
  try rfl
end
/-- An element of a row that is read: its cells as a list. -/
theorem elem_ {α : Type} {d : Kd α} {W : World} {A : Option Addr} {xs : List α} (h : Kd.C d W A xs.length xs) (i : Nat) (hi : i < xs.length) : ∃ ad c, A = some ad ∧ c.length = d.sz ∧ d.K W xs[i] c ∧ ∀ j v, c[j]? = some v → W.cell? ((ad.add (i * d.sz)).add j) = some v := by
  obtain ⟨ad, c, e, hl, hK, hc⟩ := Kd.C_get h xs[i] (i : Int) (by omega) (by omega)
  refine ⟨ad, c, e, hl, ?_, fun j v hj => ?_⟩
  · simpa [List.getD_eq_getElem?_getD, hi] using hK
  · rw [Addr_add_add]; exact hc j v hj
end Pl
theorem info39 : (Tryz.prog.info? 39).map (fun i => (i.zero, i.size, i.bytes)) = some (some (.agg #[.int .i64 0, .int .i64 0, .int .i64 0, .bool false, .int .i64 0, .int .i64 0, .int .i64 0, .int .i64 0, .int .i64 0, .int .i64 0, .int .i64 0, .int .i64 0, .slice none 0 0, .int .i64 0, .int .i64 0, .slice none 0 0, .int .i64 0, .int .i64 0, .slice none 0 0]), 19, 200) := by kernel_rfl
theorem info33 : (Tryz.prog.info? 33).map (fun i => (i.zero, i.size, i.bytes)) = some (some (.agg #[.int .i64 0, .int .i64 0, .int .i64 0, .int .i64 0]), 4, 32) := by kernel_rfl
/-! ## Leaf functions: what they come to -/
namespace Pl
theorem ev_pos {α : Type} {c : Prop} [Decidable c] {f g : Nat → Option α} {r : α} (h : c) (e : Ev f r) : Ev (fun k => if c then f k else g k) r :=
  Ev.congr (fun _ => if_pos h) e
theorem ev_neg {α : Type} {c : Prop} [Decidable c] {f g : Nat → Option α} {r : α} (h : ¬ c) (e : Ev g r) : Ev (fun k => if c then f k else g k) r :=
  Ev.congr (fun _ => if_neg h) e
theorem ev_now {α : Type} {a r : α} (h : a = r) : Ev (fun _ => some a) r := h ▸ Ev.now a
theorem ev_some {α β : Type} {f : Nat → α → Option β} {a : α} {r : β} (k : Ev (fun n => f n a) r) : Ev (fun n => (some a).bind (f n)) r :=
  Ev.congr (fun _ => rfl) k
theorem ev_eq {α β : Type} {o : Option α} {f : Nat → α → Option β} {a : α} {r : β} (h : o = some a) (k : Ev (fun n => f n a) r) : Ev (fun n => o.bind (f n)) r := by
  subst h; exact ev_some k
/-- A loop that counts up: from i on it comes to F i. -/
theorem ev_down {α : Type} (L : Nat → Nat → Option α) (F : Nat → α) (n : Nat) (last : Ev (fun k => L k n) (F n))
    (step : ∀ i, i < n → Ev (fun k => L k (i + 1)) (F (i + 1)) → Ev (fun k => L k i) (F i)) : ∀ i, i ≤ n → Ev (fun k => L k i) (F i) := by
  have go : ∀ d i, i + d = n → Ev (fun k => L k i) (F i) := by
    intro d
    induction d with
    | zero => intro i h; obtain rfl : i = n := by omega
              exact last
    | succ d ih => intro i h; exact step i (by omega) (ih (i + 1) (by omega))
  exact fun i h => go (n - i) i (by omega)

theorem w64 {x : Int} (h0 : -9223372036854775808 ≤ x) (h1 : x ≤ 9223372036854775807) : wrap64 x = x := by unfold wrap64; omega
theorem w64n {n : Nat} (h : n < 9223372036854775807) : wrap64 ((n : Int) + 1) = ((n + 1 : Nat) : Int) := by rw [w64 (by omega) (by omega)]; omega
theorem rd_nat (l : List Int) (i : Nat) : rd l (i : Int) = l.getD i 0 := rfl
theorem drop_rd (l : List Int) (i : Nat) (h : i < l.length) : l.drop i = rd l (i : Int) :: l.drop (i + 1) := by
  rw [List.drop_eq_getElem_cons h, rd_nat, List.getD_eq_getElem?_getD, List.getElem?_eq_getElem h]; rfl
theorem drop_end {α : Type} (l : List α) (i : Nat) (h : l.length ≤ i) : l.drop i = [] := List.drop_eq_nil_of_le h
theorem equal_ev (a b : List Int) (ha : a.length < 4611686018427387904) : Ev (fun k => slices_Equal_int_int.f k a b) (decide (a = b)) := by
  unfold slices_Equal_int_int.f
  by_cases hl : a.length = b.length
  · refine ev_pos (by omega) ?_
    have h := ev_down (fun k i => slices_Equal_int_int.l0 k a b (a.length : Int) (i : Int)) (fun i => decide (a.drop i = b.drop i)) a.length ?_ ?_ 0 (by omega)
    · simpa using h
    · refine Ev.step (fun k => slices_Equal_int_int.l0.eq_2 ..) (ev_neg (by omega) (ev_now ?_))
      rw [drop_end a _ (Nat.le_refl _), drop_end b _ (by omega)]; simp
    · intro i hi ih
      refine Ev.step (fun k => slices_Equal_int_int.l0.eq_2 ..) (ev_pos (by omega) (ev_pos (by omega) (ev_pos (by omega) (ev_pos (by omega) ?_))))
      rw [drop_rd a i hi, drop_rd b i (by omega)]
      by_cases h1 : rd a i = rd b i
      · refine ev_pos h1 ?_
        rw [w64n (by omega)]
        simpa [h1] using ih
      · exact ev_neg h1 (ev_now (by simp [h1]))
  · exact ev_neg (by omega) (ev_now (by symm; rw [decide_eq_false_iff_not]; intro h; exact hl (by rw [h])))
/-- l1Order -/
def ordL : List Int → List Int → Int → Int
  | [], _, d => d
  | _ :: _, [], d => d
  | a :: x, b :: y, d => if a < b then -1 else if b < a then 1 else ordL x y d

theorem ordL_zero : ∀ a b : List Int, ordL a b ((a.length : Int) - b.length) = 0 ↔ a = b := by
  have go : ∀ (a b : List Int) (d : Int), d = (a.length : Int) - b.length → (ordL a b d = 0 ↔ a = b) := by
    intro a
    induction a with
    | nil => intro b d hd; cases b <;> simp [ordL] at hd ⊢ <;> omega
    | cons x a ih =>
      intro b d hd
      cases b with
      | nil => simp [ordL] at hd ⊢; omega
      | cons y b =>
        have := ih b d (by simp at hd; omega)
        simp only [ordL]
        by_cases h1 : x < y
        · rw [if_pos h1]; simp; omega
        · rw [if_neg h1]
          by_cases h2 : y < x
          · rw [if_pos h2]; simp; omega
          · rw [if_neg h2, this]
            obtain rfl : x = y := by omega
            simp
  exact fun a b => go a b _ rfl
theorem ext_cell {x y : S33} (h0 : x.f0 = y.f0) (h1 : x.f1 = y.f1) (h2 : x.f2 = y.f2) (h3 : x.f3 = y.f3) : x = y := by cases x; cases y; simp_all
theorem ext_test {x y : S35} (h0 : x.f0 = y.f0) (h1 : x.f1 = y.f1) (h2 : x.f2 = y.f2) (h3 : x.f3 = y.f3) : x = y := by cases x; cases y; simp_all
instance decCell : DecidableEq S33 := fun x y => decidable_of_iff (x.f0 = y.f0 ∧ x.f1 = y.f1 ∧ x.f2 = y.f2 ∧ x.f3 = y.f3) ⟨fun h => ext_cell h.1 h.2.1 h.2.2.1 h.2.2.2, fun h => by rw [h]; exact ⟨rfl, rfl, rfl, rfl⟩⟩
instance decTest : DecidableEq S35 := fun x y => decidable_of_iff (x.f0 = y.f0 ∧ x.f1 = y.f1 ∧ x.f2 = y.f2 ∧ x.f3 = y.f3) ⟨fun h => ext_test h.1 h.2.1 h.2.2.1 h.2.2.2, fun h => by rw [h]; exact ⟨rfl, rfl, rfl, rfl⟩⟩
theorem rd33 (l : List S33) (i : Nat) (h : i < l.length) : rd_T33 l (i : Int) = l[i] := by
  show l.getD _ _ = _
  rw [Int.toNat_natCast, List.getD_eq_getElem?_getD, List.getElem?_eq_getElem h]; rfl
theorem drop_at {α : Type} (l : List α) (i : Nat) (h : i < l.length) : l.drop i = l[i] :: l.drop (i + 1) := List.drop_eq_getElem_cons h
theorem dec_cons_ {α : Type} [DecidableEq α] {x y : α} {s u : List α} (h : x = y) : decide (x :: s = y :: u) = decide (s = u) := by subst h; rw [decide_eq_decide]; simp
theorem dec_cons_ne_ {α : Type} [DecidableEq α] {x y : α} {s u : List α} (h : ¬ x = y) : decide (x :: s = y :: u) = false := by rw [decide_eq_false_iff_not]; intro e; injection e with e1 e2; exact h e1
theorem cell_test (x y : S33) : ((!(x.f0 == y.f0) || (!(x.f1 == y.f1) || (!(x.f2 == y.f2) || !(x.f3 == y.f3)))) = true) ↔ ¬ x = y := by
  constructor
  · intro h e; subst e; simp at h
  · intro h
    by_cases h0 : x.f0 = y.f0
    · by_cases h1 : x.f1 = y.f1
      · by_cases h2 : x.f2 = y.f2
        · by_cases h3 : x.f3 = y.f3
          · exact absurd (ext_cell h0 h1 h2 h3) h
          · simp [h3]
        · simp [h2]
      · simp [h1]
    · simp [h0]
theorem equalC_ev (a b : List S33) (ha : a.length ≤ 1048576) : Ev (fun k => slices_Equal_impl_Cell_impl_Cell.f k a b) (decide (a = b)) := by
  unfold slices_Equal_impl_Cell_impl_Cell.f
  by_cases hl : a.length = b.length
  · refine ev_pos (by omega) ?_
    have h := ev_down (fun k i => slices_Equal_impl_Cell_impl_Cell.l0 k a b (a.length : Int) (i : Int)) (fun i => decide (a.drop i = b.drop i)) a.length ?_ ?_ 0 (by omega)
    · simpa using h
    · refine Ev.step (fun k => slices_Equal_impl_Cell_impl_Cell.l0.eq_2 ..) (ev_neg (by omega) (ev_now ?_))
      rw [drop_end a _ (Nat.le_refl _), drop_end b _ (by omega)]; simp
    · intro i hi ih
      refine Ev.step (fun k => slices_Equal_impl_Cell_impl_Cell.l0.eq_2 ..) (ev_pos (by omega) (ev_pos (by omega) (ev_pos (by omega) (ev_pos (by omega) ?_))))
      rw [rd33 a i hi, rd33 b i (by omega)]
      rw [drop_at a i hi, drop_at b i (by omega)]
      by_cases h1 : a[i] = b[i]
      · refine ev_neg (fun h => (cell_test _ _).1 h h1) ?_
        rw [w64n (by omega), dec_cons_ h1]
        exact ih
      · exact ev_pos ((cell_test _ _).2 h1) (ev_now (dec_cons_ne_ h1).symm)
  · exact ev_neg (by omega) (ev_now (by symm; rw [decide_eq_false_iff_not]; intro h; exact hl (by rw [h])))
/-! contracts -/
def testCells (x : S35) : List Value := [.int .i64 x.f0, .bool x.f1, .int .i64 x.f2.f0, .int .i64 x.f2.f1, .int .i64 x.f2.f2, .int .i64 x.f2.f3, .int .i64 x.f3.f0, .int .i64 x.f3.f1, .int .i64 x.f3.f2, .int .i64 x.f3.f3]
theorem equalI_c (A : Option Addr) (c : Nat) (l : List Int) (B : Option Addr) (d : Nat) (m : List Int) (w : World) (hl : l.length ≤ 1048576) (hr : Kd.C (Kd.int .i64) w A l.length l) (hc : l.length ≤ c) (hr' : Kd.C (Kd.int .i64) w B m.length m) (hc' : m.length ≤ d) :
    Calls Tryz.prog 65 #[.slice A l.length c, .slice B m.length d] w fun e w' => e = .returned (.bool (decide (l = m))) ∧ Below w.heap.size w w' := by
  obtain ⟨k, hk⟩ := (equal_ev l m (by omega)).rounds
  exact (slices_Equal_int_int.calls k A c l B d m _ w hr hc hr' hc' hk).mono fun _ _ ⟨h, hd⟩ => ⟨h, hd.below⟩
theorem equalC_c (A : Option Addr) (c : Nat) (l : List S33) (B : Option Addr) (d : Nat) (m : List S33) (w : World) (hl : l.length ≤ 1048576) (hr : Kd.C k33 w A l.length l) (hc : l.length ≤ c) (hr' : Kd.C k33 w B m.length m) (hc' : m.length ≤ d) :
    Calls Tryz.prog 64 #[.slice A l.length c, .slice B m.length d] w fun e w' => e = .returned (.bool (decide (l = m))) ∧ Below w.heap.size w w' := by
  obtain ⟨k, hk⟩ := (equalC_ev l m (by omega)).rounds
  exact (slices_Equal_impl_Cell_impl_Cell.calls k A c l B d m _ w hr hc hr' hc' hk).mono fun _ _ ⟨h, hd⟩ => ⟨h, hd.below⟩
end Pl
namespace Pl
section
variable {P : Program} {ops : Array Oper} {rest : List Oper} {o : Oper} {a : Act} {Q : Exit → Act → World → Prop}
/-- A variable of a struct's type is laid. -/
theorem alloc_ {W : World} (ty : TypeId) (ho : o.op = .alloc ty) (hgd : o.guard = none) (z : List Value) (n b : Nat) (hi : (P.info? ty).map (fun i => (i.zero, i.size, i.bytes)) = some (some (.agg z.toArray), n, b))
    (h : ∀ g, g = W.heap.size → ∀ w1, w1.heap[g]? = some (.cells z.toArray ty (0, 0)) → Below W.heap.size W w1 → wpList P ops Q rest (a.put o.dst (.pointer (some ⟨g, 0, none⟩))) w1) : wpList P ops Q (o :: rest) a W := by
  refine Kd.event_run hgd ?_ (h _ rfl _ (blk_new W _) (below_alloc (Below.refl _ _) _))
  obtain ⟨i, hi1, hi2⟩ := Option.map_eq_some_iff.1 hi
  simp only [Prod.mk.injEq] at hi2
  obtain ⟨hz, -, -⟩ := hi2
  unfold execOp
  simp only [ho]
  simp [Instr.alloc, zeroValue, typeInfo, hi1, hz, go_sem]
/-- A store into a block of one's own: what the block is behind it. -/
theorem store_ {W : World} (t : TypeId) (p x : Operand) (ho : o.op = .store t p x) (hd : o.dst = none) (hgd : o.guard = none) (g o' : Nat) (hp : a.eval p = .pointer (some ⟨g, o', none⟩)) (u : Value) (hx : a.eval x = u) (seg : List Value) (hu : u.cells.toList = seg)
    (ht : (P.info? t).map (·.size) = some seg.length) (h1 : ∀ q ∈ seg, q.oneCell' = true) (cur : List Value) (e : TypeId) (hh : W.heap[g]? = some (.cells cur.toArray e (0, 0))) (hfit : o' + seg.length ≤ cur.length)
    (h : ∀ w1, w1.heap[g]? = some (.cells (cur.take o' ++ seg ++ cur.drop (o' + seg.length)).toArray e (0, 0)) → W.grownBy w1 (some g) → wpList P ops Q rest a w1) : wpList P ops Q (o :: rest) a W := by
  have hrun := run_store_run (P := P) t u seg hh hu ht (by simpa using hfit) h1
  obtain ⟨cur', h3, h4, h5⟩ := setCells_row seg o' W cur.toArray hh (by simpa using hfit)
  obtain ⟨s1, s2, s3, s4⟩ := setCells_same g seg o' W
  refine wpList_plain hgd fun K hK => ?_
  unfold Oper.wp execOp
  simp only [ho, hp, hx, Sem.run_bind, Sem.run_pure, Result.andThen_ok, hrun]
  show K (a.put o.dst undef) _
  rw [hd]
  refine hK a _ (h _ ?_ ⟨s1, s2, s3, by rw [s4]; exact Nat.le_refl _, fun k _ hk => setCells_far _ _ k (fun he => hk (by rw [he]))⟩)
  rw [h3]
  congr 2
  apply Array.toList_inj.1
  rw [h5]
end
end Pl
namespace Pl
end Pl
namespace Pl
theorem sub_ {W : World} {g e : Nat} {cs : Array Value} (h : W.heap[g]? = some (.cells cs e (0, 0))) (pre mid post : List Value) (hcs : cs.toList = pre ++ (mid ++ post)) : ∀ j v, mid[j]? = some v → W.cell? ((⟨g, pre.length, none⟩ : Addr).add j) = some v := by
  intro j v hj
  rw [Addr.add_mid, blk_cell h, ← Array.getElem?_toList, hcs, List.getElem?_append_right (by omega), Nat.add_sub_cancel_left, List.getElem?_append_left (List.getElem?_eq_some_iff.1 hj).1]
  exact hj
theorem R_stor {α : Type} {d : Kd α} {e base go : Nat} {W W1 : World} {v : Value} {xs : List α} {g : Nat} (h : d.R e W base (fun k => go < k) v xs) (hg : W.grownBy W1 (some g)) (hle : g ≤ go) : d.R e W1 base (fun k => go < k) v xs :=
  Kd.R_grown h hg (fun k hk e => by injection e with e; omega)
theorem R_made {α : Type} {d : Kd α} {e base go : Nat} {W W1 : World} {o : Obj} {v : Value} {xs : List α} (h : d.R e W1 W.heap.size (fun _ => True) v xs) (hb : W.heap[go]? = some o) (hbase : base ≤ W.heap.size) : d.R e W1 base (fun k => go < k) v xs :=
  Kd.R_lower (Kd.R_mono (Kd.R_bound h) (fun k hk => by have := blk_lt hb; omega)) hbase
end Pl
namespace Pl
/-- Nothing in it is longer than the law lets by. -/
inductive Small39 : S39 → Prop
  | mk (x : S39) (h3 : x.f3.length ≤ 1048576) (h6 : x.f6.length ≤ 1048576) (h9 : x.f9.length ≤ 1048576) (hs : ∀ y, y ∈ x.f9 → Small39 y) : Small39 x
theorem Small39.out {x : S39} (h : Small39 x) : x.f3.length ≤ 1048576 ∧ x.f6.length ≤ 1048576 ∧ x.f9.length ≤ 1048576 ∧ ∀ y ∈ x.f9, Small39 y := by
  cases h with
  | mk _ h3 h6 h9 hs => exact ⟨h3, h6, h9, hs⟩
open Classical in
/-- Two plans are one. -/
noncomputable def same (x y : S39) : Bool := decide (x = y)
open Classical in
noncomputable def sames (x y : List S39) : Bool := decide (x = y)
theorem ext_plan {x y : S39} (h0 : x.f0 = y.f0) (h1 : x.f1 = y.f1) (h2 : x.f2 = y.f2) (h3 : x.f3 = y.f3) (h4 : x.f4 = y.f4) (h5 : x.f5 = y.f5) (h6 : x.f6 = y.f6) (h7 : x.f7 = y.f7) (h8 : x.f8 = y.f8) (h9 : x.f9 = y.f9) : x = y := by
  cases x; cases y; simp only at h0 h1 h2 h3 h4 h5 h6 h7 h8 h9; subst h0 h1 h2 h3 h4 h5 h6 h7 h8 h9; rfl
theorem same_no {x y : S39} (h : ¬ x = y) : same x y = false := by simp [same, h]
theorem same_self (x : S39) : same x x = true := by simp [same]
theorem sames_iff {x y : List S39} : sames x y = true ↔ x = y := by simp [sames]
theorem same_iff {x y : S39} : same x y = true ↔ x = y := by simp [same]
theorem sames_no {x y : List S39} (h : ¬ x = y) : sames x y = false := by simp [sames, h]
theorem same_kids {x y : S39} (h0 : x.f0 = y.f0) (h1 : x.f1 = y.f1) (h2 : x.f2 = y.f2) (h3 : x.f3 = y.f3) (h4 : x.f4 = y.f4) (h5 : x.f5 = y.f5) (h6 : x.f6 = y.f6) (h7 : x.f7 = y.f7) (h8 : x.f8 = y.f8) : same x y = sames x.f9 y.f9 := by
  rw [Bool.eq_iff_iff, same_iff, sames_iff]
  exact ⟨fun h => by rw [h], fun h9 => ext_plan h0 h1 h2 h3 h4 h5 h6 h7 h8 h9⟩
theorem sames_drop (x y : List S39) (i : Nat) (hx : i < x.length) (hy : i < y.length) : sames (x.drop i) (y.drop i) = (same x[i] y[i] && sames (x.drop (i + 1)) (y.drop (i + 1))) := by
  rw [List.drop_eq_getElem_cons hx, List.drop_eq_getElem_cons hy, Bool.eq_iff_iff, sames_iff, Bool.and_eq_true, same_iff, sames_iff]
  exact ⟨fun h => by injection h with h1 h2; exact ⟨h1, h2⟩, fun h => by rw [h.1, h.2]⟩
end Pl
/-! Two plans that came in by value, each in its box. -/
namespace Pl
structure ES (w : World) (ga gb : Nat) (ca cb : Array Value) (W : World) : Prop where
  hA : W.heap[ga]? = some (.cells ca 39 (0, 0))
  hB : W.heap[gb]? = some (.cells cb 39 (0, 0))
  bel : Below w.heap.size w W
theorem ES.call {w : World} {ga gb : Nat} {ca cb : Array Value} {W W1 : World} (h : ES w ga gb ca cb W) (hb : Below W.heap.size W W1) : ES w ga gb ca cb W1 :=
  ⟨(hb.block ga (blk_lt h.hA)).trans h.hA, (hb.block gb (blk_lt h.hB)).trans h.hB, below_step h.bel hb⟩
theorem ES.cellA {w : World} {ga gb : Nat} {ca cb : Array Value} {W : World} (h : ES w ga gb ca cb W) (j : Nat) : W.cell? ⟨ga, j, none⟩ = ca[j]? := blk_cell h.hA j
theorem ES.cellB {w : World} {ga gb : Nat} {ca cb : Array Value} {W : World} (h : ES w ga gb ca cb W) (j : Nat) : W.cell? ⟨gb, j, none⟩ = cb[j]? := blk_cell h.hB j
end Pl
namespace Pl
section
variable {P : Program} {ops : Array Oper} {rest : List Oper} {o : Oper} {a : Act} {Q : Act → Prop}
/-- The same load in a statement that draws its order. -/
theorem still_load_ {W : World} (ty : TypeId) (x : Operand) (ho : o.op = .load ty x) (hw : Region.wanted o (yielded ops a.tmps) = true) (ad : Addr) (hx : a.eval x = .pointer (some ad)) (cs : List Value) (fs : Array Field) (hu : P.underlying ty = some (.struct fs)) (hi : (P.info? ty).map (·.size) = some cs.length)
    (hc : ∀ j v, cs[j]? = some v → W.cell? (ad.add j) = some v) (h : wpStill P ops W Q rest (a.put o.dst (.agg cs.toArray))) : wpStill P ops W Q (o :: rest) a := by
  have hl : (loadCells ad cs.length).run P W = .ok cs.toArray W := run_loadCells_list (P := P) W ad cs hc
  have hr : (loadVar ty ad).run P W = .ok (.agg cs.toArray) W := by
    cases hq : P.info? ty with
    | none => simp [hq] at hi
    | some i =>
      have hs : i.size = cs.length := by simpa [hq] using hi
      have hagg : (isAgg ty).run P W = .ok true W := by
        unfold isAgg
        rw [Sem.run_bind, run_underlying hu W]
        simp
      simp [loadVar, Sem.run_bind, hagg, sizeOf, typeInfo, hq, hs, hl]
  show if Region.wanted o (yielded ops a.tmps) = true then o.still P a W (wpStill P ops W Q rest) else _
  rw [if_pos hw]
  unfold Oper.still execOp
  simp only [ho, hx, Instr.loadAt, Instr.sureAddr, Sem.run_bind, Sem.run_pure, Result.andThen_ok, hr]
  exact ⟨rfl, h⟩
end
theorem sames_end (xs ys : List S39) (i : Nat) (h : xs.length ≤ i) (h' : ys.length ≤ i) : sames (xs.drop i) (ys.drop i) = true := by
  rw [List.drop_of_length_le h, List.drop_of_length_le h', sames_iff]
end Pl
theorem eqA35 (d:Nat) (w:World) (x0 y0:Int) (x1 y1:Bool) (x2 y2:Int) (x3 y3:Int) (x4 y4:Int) (x5 y5:Int) (x6 y6:Int) (x7 y7:Int) (x8 y8:Int) (x9 y9:Int) :
  (Op.equalIn (d + 3) 35 (.agg #[.int .i64 x0,.bool x1,.int .i64 x2,.int .i64 x3,.int .i64 x4,.int .i64 x5,.int .i64 x6,.int .i64 x7,.int .i64 x8,.int .i64 x9]) (.agg #[.int .i64 y0,.bool y1,.int .i64 y2,.int .i64 y3,.int .i64 y4,.int .i64 y5,.int .i64 y6,.int .i64 y7,.int .i64 y8,.int .i64 y9])).run Tryz.prog w=.ok (x0 == y0 && (x1 == y1 && ((x2 == y2 && (x3 == y3 && (x4 == y4 && (x5 == y5)))) && ((x6 == y6 && (x7 == y7 && (x8 == y8 && (x9 == y9)))))))) w:=by
 refine eqA_of Tryz.underlying35 (by kernel_rfl) ?_
 refine eqf_cons (by rfl) (by go_simp;rfl) (by go_simp;rfl) (by go_simp) ?_
 refine eqf_cons (by rfl) (by go_simp;rfl) (by go_simp;rfl) (by go_simp) ?_
 refine eqf_cons (by rfl) (by go_simp) (by go_simp) (eqA33 (d + 0) w _ _ _ _ _ _ _ _) ?_
 exact eqf_last (by rfl) (by go_simp) (by go_simp) (eqA33 (d + 0) w _ _ _ _ _ _ _ _)
namespace Pl
theorem test_bool (x y : S35) : (x.f0 == y.f0 && (x.f1 == y.f1 && ((x.f2.f0 == y.f2.f0 && (x.f2.f1 == y.f2.f1 && (x.f2.f2 == y.f2.f2 && (x.f2.f3 == y.f2.f3)))) && ((x.f3.f0 == y.f3.f0 && (x.f3.f1 == y.f3.f1 && (x.f3.f2 == y.f3.f2 && (x.f3.f3 == y.f3.f3)))))))) = decide (x = y) := by
  rw [Bool.eq_iff_iff]
  simp only [Bool.and_eq_true, beq_iff_eq, decide_eq_true_eq]
  constructor
  · rintro ⟨h0, h1, ⟨a0, a1, a2, a3⟩, b0, b1, b2, b3⟩
    exact ext_test h0 h1 (ext_cell a0 a1 a2 a3) (ext_cell b0 b1 b2 b3)
  · rintro rfl
    exact ⟨rfl, rfl, ⟨rfl, rfl, rfl, rfl⟩, rfl, rfl, rfl, rfl⟩
theorem eqT (d : Nat) (w : World) (x y : S35) : (Op.equalIn (d + 3) 35 (.agg (testCells x).toArray) (.agg (testCells y).toArray)).run Tryz.prog w = .ok (decide (x = y)) w := by
  rw [← test_bool]
  exact eqA35 d w _ _ _ _ _ _ _ _ _ _ _ _ _ _ _ _ _ _ _ _
def cellCells (x : S33) : List Value := [.int .i64 x.f0, .int .i64 x.f1, .int .i64 x.f2, .int .i64 x.f3]
theorem eqC (d : Nat) (w : World) (x y : S33) : (Op.equalIn (d + 2) 33 (.agg (cellCells x).toArray) (.agg (cellCells y).toArray)).run Tryz.prog w = .ok (decide (x = y)) w := by
  have h : (x.f0 == y.f0 && (x.f1 == y.f1 && (x.f2 == y.f2 && (x.f3 == y.f3)))) = decide (x = y) := by
    rw [Bool.eq_iff_iff]
    simp only [Bool.and_eq_true, beq_iff_eq, decide_eq_true_eq]
    exact ⟨fun ⟨a, b, c, d⟩ => ext_cell a b c d, fun e => by rw [e]; exact ⟨rfl, rfl, rfl, rfl⟩⟩
  rw [← h]
  exact eqA33 d w _ _ _ _ _ _ _ _
section
variable {P : Program} {ops : Array Oper} {rest : List Oper} {o : Oper} {a : Act} {Q : Exit → Act → World → Prop}
/-- A struct is loaded whole, by an operation that is guarded (and let by). -/
theorem loadW_ {W : World} (ty : TypeId) (x : Operand) (ho : o.op = .load ty x) (hw : Region.wanted o (yielded ops a.tmps) = true) (ad : Addr) (hx : a.eval x = .pointer (some ad)) (cs : List Value) (fs : Array Field) (hu : P.underlying ty = some (.struct fs)) (hi : (P.info? ty).map (·.size) = some cs.length)
    (hc : ∀ j v, cs[j]? = some v → W.cell? (ad.add j) = some v) (h : wpList P ops Q rest (a.put o.dst (.agg cs.toArray)) W) : wpList P ops Q (o :: rest) a W := by
  refine wpList_step fun K hK => ?_
  rw [if_pos hw]
  have hl : (loadCells ad cs.length).run P W = .ok cs.toArray W := run_loadCells_list (P := P) W ad cs hc
  have hr : (loadVar ty ad).run P W = .ok (.agg cs.toArray) W := by
    cases hq : P.info? ty with
    | none => simp [hq] at hi
    | some i =>
      have hs : i.size = cs.length := by simpa [hq] using hi
      have hagg : (isAgg ty).run P W = .ok true W := by
        unfold isAgg
        rw [Sem.run_bind, run_underlying hu W]
        simp
      simp [loadVar, Sem.run_bind, hagg, sizeOf, typeInfo, hq, hs, hl]
  unfold Oper.wp execOp
  simp only [ho, hx, Instr.loadAt, Instr.sureAddr, Sem.run_bind, Sem.run_pure, Result.andThen_ok, hr]
  exact hK _ _ h
end
end Pl
namespace Pl
section
variable {P : Program} {ops : Array Oper} {rest : List Oper} {o : Oper} {a : Act} {Q : Exit → Act → World → Prop}
/-- A whole struct is stored into a variable of its type. -/
theorem storeAll_ {W : World} (t : TypeId) (p x : Operand) (ho : o.op = .store t p x) (hd : o.dst = none) (hgd : o.guard = none) (g : Nat) (hp : a.eval p = .pointer (some ⟨g, 0, none⟩)) (seg : List Value) (hx : a.eval x = .agg seg.toArray)
    (ht : (P.info? t).map (·.size) = some seg.length) (h1 : ∀ q ∈ seg, q.oneCell' = true) (cur : List Value) (e : TypeId) (hh : W.heap[g]? = some (.cells cur.toArray e (0, 0))) (hfit : seg.length = cur.length)
    (h : ∀ w1, w1.heap[g]? = some (.cells seg.toArray e (0, 0)) → W.grownBy w1 (some g) → wpList P ops Q rest a w1) : wpList P ops Q (o :: rest) a W :=
  store_ t p x ho hd hgd g 0 hp (.agg seg.toArray) hx seg rfl ht h1 cur e hh (by omega) (fun w1 hb hg => h w1 (by
    have e : cur.take 0 ++ seg ++ cur.drop (0 + seg.length) = seg := by rw [List.take_zero, List.nil_append, List.drop_of_length_le (by omega), List.append_nil]
    rw [e] at hb; exact hb) hg)
/-- A struct in a variable is loaded whole. -/
theorem loadVar_ {W : World} (ty : TypeId) (x : Operand) (ho : o.op = .load ty x) (hgd : o.guard = none) (g : Nat) (hx : a.eval x = .pointer (some ⟨g, 0, none⟩)) (cs : List Value) (fs : Array Field) (hu : P.underlying ty = some (.struct fs)) (hi : (P.info? ty).map (·.size) = some cs.length)
    (e : TypeId) (hh : W.heap[g]? = some (.cells cs.toArray e (0, 0))) (h : wpList P ops Q rest (a.put o.dst (.agg cs.toArray)) W) : wpList P ops Q (o :: rest) a W :=
  load_ ty x ho hgd ⟨g, 0, none⟩ hx cs fs hu hi (sub_ hh [] cs [] (by simp)) h
end
def zero39 : List Value := [.int .i64 0, .int .i64 0, .int .i64 0, .bool false, .int .i64 0, .int .i64 0, .int .i64 0, .int .i64 0, .int .i64 0, .int .i64 0, .int .i64 0, .int .i64 0, .slice none 0 0, .int .i64 0, .int .i64 0, .slice none 0 0, .int .i64 0, .int .i64 0, .slice none 0 0]
def PsS (N : Nat) : Prop := ∀ (xs ys : List (S39)) (A B : Option Addr) (c d : Nat) (w : World), szs39 xs ≤ N → Kd.C k39 w A xs.length xs → xs.length ≤ c → Kd.C k39 w B ys.length ys → ys.length ≤ d → xs.length ≤ 1048576 → (∀ y ∈ xs, Small39 y) →
  Calls Tryz.prog 66 #[.slice A xs.length c, .slice B ys.length d, .func (.func 58) #[] #[]] w fun e w' => e = .returned (.bool (sames xs ys)) ∧ Below w.heap.size w w'
def PsP (N : Nat) : Prop := ∀ (x y : S39) (ca cb : Array Value) (w : World), sz39 x ≤ N → k39.K w x ca.toList → k39.K w y cb.toList → Small39 x →
  Calls Tryz.prog 58 #[.agg ca, .agg cb] w fun e w' => e = .returned (.bool (same x y)) ∧ Below w.heap.size w w'
set_option maxHeartbeats 8000000 in
set_option maxRecDepth 100000 in
theorem equalFunc_step (N : Nat) (hP : ∀ M, M ≤ N → PsP M) : PsS N := by
  intro xs ys A B c d w hn hr hc hr' hd hm hok
  by_cases hl : xs.length = ys.length
  rotate_left
  · have b1 : ((xs.length : Int) == (ys.length : Int)) = false := by simp; omega
    have b2 : ((xs.length : Int) != (ys.length : Int)) = true := by simp; omega
    have b3 : (xs.length == ys.length) = false := by simp; omega
    have b4 : (xs.length != ys.length) = true := by simp; omega
    have HR := Aside0.mk (sames_no (x := xs) (y := ys) (fun e => hl (by rw [e])))
    clear hl hr hr' hP hok hn
    go_enter Tryz.func66, Tryz.ntmps66
    go_wp2
    go_ret
    exact ⟨by rw [HR.out]; rfl, Below.refl _ _⟩
  have b1 : ((xs.length : Int) == (ys.length : Int)) = true := by simp; omega
  have b2 : ((xs.length : Int) != (ys.length : Int)) = false := by simp; omega
  have b3 : (xs.length == ys.length) = true := by simp; omega
  have b4 : (xs.length != ys.length) = false := by simp; omega
  have HL := Aside0.mk hl
  have HC := Aside0.mk hr
  have HD := Aside0.mk hr'
  have HN := Aside0.mk hn
  have OK := Aside0.mk hok
  have HP := Aside0.mk hP
  clear hP hn hr hr' hok hc hd hl
  go_enter Tryz.func66, Tryz.ntmps66
  go_wp2
  go_loopw [17] (fun v5 wr => ∃ (i : Nat), v5 = .int .i64 i ∧ i ≤ xs.length ∧ Aside0 (sames xs ys = sames (xs.drop i) (ys.drop i)) ∧ Aside0 (Below w.heap.size w wr)) (fun v5 _ => xs.length - (intOf v5).toNat)
  case atStart => exact ⟨0, rfl, Nat.zero_le _, ⟨rfl⟩, ⟨Below.refl _ _⟩⟩
  case round =>
    obtain ⟨i, rfl, hi, HA, HB⟩ := hrel
    by_cases hlt : i < xs.length
    · have hlt' : i < ys.length := by have := HL.out; omega
      obtain ⟨ad, c0, rfl, hcl, hK, hcell⟩ := elem_ (Kd.C_below HC.out HB.out) i hlt
      obtain ⟨bd, d0, rfl, hdl, hK', hdell⟩ := elem_ (Kd.C_below HD.out HB.out) i hlt'
      have hsz := szs39_get hlt
      have CA := Aside0.mk (fun (w' : World) (hK : k39.K w' xs[i] c0.toArray.toList) (hK' : k39.K w' ys[i] d0.toArray.toList) => HP.out (sz39 xs[i]) (by have := HN.out; omega) xs[i] ys[i] c0.toArray d0.toArray w' (Nat.le_refl _) hK hK' (OK.out _ (List.getElem_mem hlt)))
      have HK := Aside0.mk (show k39.K wr xs[i] c0.toArray.toList from hK)
      have HK' := Aside0.mk (show k39.K wr ys[i] d0.toArray.toList from hK')
      have HE := Aside0.mk hcell
      have HE' := Aside0.mk hdell
      have LC := Aside0.mk (show c0.length = 19 from hcl)
      have LD := Aside0.mk (show d0.length = 19 from hdl)
      have GD := Aside0.mk (HA.out.trans (sames_drop xs ys i hlt hlt'))
      obtain ⟨r, hr⟩ : ∃ r, r = same xs[i] ys[i] := ⟨_, rfl⟩
      rw [← hr] at CA GD
      have OC := Aside0.mk (show ∀ q ∈ c0, q.oneCell' = true from k39.K_one hK)
      have OD := Aside0.mk (show ∀ q ∈ d0, q.oneCell' = true from k39.K_one hK')
      clear hsz hK hK' hcell hdell hcl hdl HA hr
      go_wp2_with (first
        | ((with_reducible refine gate_dst (N := 21) rfl ?_); refine load_ 39 (.tmp 20) rfl rfl (ad.add (i * 19)) ?hx c0 _ Tryz.underlying39 ?hi HE.out ?_; (case hx => first | rfl | (go_simp; done) | (go_simp; rfl)); (case hi => rw [LC.out]; kernel_rfl))
        | ((with_reducible refine gate_dst (N := 8) rfl ?_); refine alloc_ 39 rfl rfl zero39 _ _ info39 ?_; intro g1 hg1 w1 hb1 hB1; have B1 := Aside0.mk hB1; have Y1 := Aside0.mk hb1; have G1 := Aside0.mk (show wr.heap.size ≤ g1 by rw [hg1]; exact Nat.le_refl _); clear hb1 hB1 hg1)
        | ((with_reducible refine gate_ (.store 39 (.tmp 8) (.tmp 21)) rfl ?_); refine storeAll_ 39 (.tmp 8) (.tmp 21) rfl rfl rfl g1 ?hp c0 ?hx2 ?ht OC.out zero39 _ Y1.out ?hf ?_; (case hp => first | rfl | (go_simp; done) | (go_simp; rfl)); (case hx2 => first | rfl | (go_simp; done) | (go_simp; rfl)); (case ht => rw [LC.out]; kernel_rfl); (case hf => rw [LC.out]; rfl); intro w2 hb2 hg2; have Y2 := Aside0.mk hb2; have B2 := Aside0.mk (B1.out.grown hg2 B1.out.size (fun k e => by injection e with e; rw [← e]; exact G1.out)); clear hb2 hg2)
        | ((with_reducible refine gate_dst (N := 25) rfl ?_); refine load_ 39 (.tmp 24) rfl rfl (bd.add (i * 19)) ?hx d0 _ Tryz.underlying39 ?hi (fun j v h => zhs B2.out (HE'.out j v h)) ?_; (case hx => first | rfl | (go_simp; done) | (go_simp; rfl)); (case hi => rw [LD.out]; kernel_rfl))
        | ((with_reducible refine gate_dst (N := 9) rfl ?_); refine alloc_ 39 rfl rfl zero39 _ _ info39 ?_; intro g3 hg3 w3 hb3 hB3; have B3 := Aside0.mk (below_step B2.out hB3); have Y3 := Aside0.mk hb3; have Z3 := Aside0.mk ((hB3.block g1 (blk_lt Y2.out)).trans Y2.out); have N3 := Aside0.mk (show g1 ≠ g3 by rw [hg3]; exact Nat.ne_of_lt (blk_lt Y2.out)); have G3 := Aside0.mk (show wr.heap.size ≤ g3 by rw [hg3]; exact B2.out.size); clear hb3 hB3 hg3)
        | ((with_reducible refine gate_ (.store 39 (.tmp 9) (.tmp 25)) rfl ?_); refine storeAll_ 39 (.tmp 9) (.tmp 25) rfl rfl rfl g3 ?hp d0 ?hx2 ?ht OD.out zero39 _ Y3.out ?hf ?_; (case hp => first | rfl | (go_simp; done) | (go_simp; rfl)); (case hx2 => first | rfl | (go_simp; done) | (go_simp; rfl)); (case ht => rw [LD.out]; kernel_rfl); (case hf => rw [LD.out]; rfl); intro w4 hb4 hg4; have Y4 := Aside0.mk hb4; have Z4 := Aside0.mk ((hg4.block g1 (blk_lt Z3.out) (fun e => N3.out (by injection e))).trans Z3.out); have B4 := Aside0.mk (B3.out.grown hg4 B3.out.size (fun k e => by injection e with e; rw [← e]; exact G3.out)); clear hb4 hg4)
        | ((with_reducible refine gate_dst (N := 27) rfl ?_); refine loadVar_ 39 (.tmp 8) rfl rfl g1 ?hx c0 _ Tryz.underlying39 ?hi _ Z4.out ?_; (case hx => first | rfl | (go_simp; done) | (go_simp; rfl)); (case hi => rw [LC.out]; kernel_rfl))
        | ((with_reducible refine gate_dst (N := 28) rfl ?_); refine loadVar_ 39 (.tmp 9) rfl rfl g3 ?hx d0 _ Tryz.underlying39 ?hi _ Y4.out ?_; (case hx => first | rfl | (go_simp; done) | (go_simp; rfl)); (case hi => rw [LD.out]; kernel_rfl))
        | ((with_reducible refine gate_dst (N := 29) rfl ?_); refine goesLv (some 29) rfl rfl Tryz.func58 (by kernel_rfl) rfl #[.agg c0.toArray, .agg d0.toArray] #[] rfl ?ht2 ?ha2 ?_; (case ht2 => first | rfl | (go_simp; done) | (go_simp; rfl)); (case ha2 => first | rfl | (go_simp; done) | (go_simp; rfl)); refine (CA.out _ (k39.K_below B4.out HK.out) (k39.K_below B4.out HK'.out)).mono ?_; rintro e w5 ⟨rfl, hB5⟩; refine ⟨_, rfl, ?_⟩; have HB5 := Aside0.mk (below_step HB.out (below_step B4.out hB5)); clear hB5))
      · go_ret
        exact ⟨by rw [GD.out]; have h : (!r) = true := (by assumption); have h2 : r = false := (by simpa using h); rw [h2]; rfl, HB5.out⟩
      · go_roundw
        case rel => exact ⟨i + 1, by go_num, by omega, ⟨by rw [GD.out]; have h : (!r) = false := (by assumption); have h2 : r = true := (by simpa using h); rw [h2]; rfl⟩, HB5⟩
        case measure => simp [intOf]; omega
    · have GE := Aside0.mk (HA.out.trans (sames_end xs ys i (by omega) (by have := HL.out; omega)))
      go_wp2
      go_ret
      exact ⟨by rw [GE.out]; rfl, HB.out⟩
end Pl
section
attribute [local go_sem high] Pl.eqT
namespace Pl
set_option maxHeartbeats 16000000 in
set_option maxRecDepth 100000 in
theorem planSame_step (N : Nat) (hS : PsS N) : PsP (N + 1) := by
  intro x y ca cb w hn hK hK' hok
  have hkids : szs39 x.f9 ≤ N := by have := sz39_kids x; omega
  obtain ⟨A12, c12, A15, c15, A18, c18, hca, l12, g12, l15, g15, l18, g18⟩ := k39_open hK
  obtain ⟨B12, d12, B15, d15, B18, d18, hcb, m12, j12, m15, j15, m18, j18⟩ := k39_open hK'
  have a0 : ca[0]? = some (.int .i64 x.f0) := by rw [← Array.getElem?_toList, hca]; rfl
  have a1 : ca[1]? = some (.int .i64 x.f1) := by rw [← Array.getElem?_toList, hca]; rfl
  have a12 : ca[12]? = some (.slice A12 x.f3.length c12) := by rw [← Array.getElem?_toList, hca]; rfl
  have a13 : ca[13]? = some (.int .i64 x.f4) := by rw [← Array.getElem?_toList, hca]; rfl
  have a14 : ca[14]? = some (.int .i64 x.f5) := by rw [← Array.getElem?_toList, hca]; rfl
  have a15 : ca[15]? = some (.slice A15 x.f6.length c15) := by rw [← Array.getElem?_toList, hca]; rfl
  have a16 : ca[16]? = some (.int .i64 x.f7) := by rw [← Array.getElem?_toList, hca]; rfl
  have a17 : ca[17]? = some (.int .i64 x.f8) := by rw [← Array.getElem?_toList, hca]; rfl
  have a18 : ca[18]? = some (.slice A18 x.f9.length c18) := by rw [← Array.getElem?_toList, hca]; rfl
  have HA := Aside0.mk (show ca.toList = [.int .i64 x.f0, .int .i64 x.f1] ++ (testCells x.f2 ++ [.slice A12 x.f3.length c12, .int .i64 x.f4, .int .i64 x.f5, .slice A15 x.f6.length c15, .int .i64 x.f7, .int .i64 x.f8, .slice A18 x.f9.length c18]) from hca)
  have b0 : cb[0]? = some (.int .i64 y.f0) := by rw [← Array.getElem?_toList, hcb]; rfl
  have b1 : cb[1]? = some (.int .i64 y.f1) := by rw [← Array.getElem?_toList, hcb]; rfl
  have b12 : cb[12]? = some (.slice B12 y.f3.length d12) := by rw [← Array.getElem?_toList, hcb]; rfl
  have b13 : cb[13]? = some (.int .i64 y.f4) := by rw [← Array.getElem?_toList, hcb]; rfl
  have b14 : cb[14]? = some (.int .i64 y.f5) := by rw [← Array.getElem?_toList, hcb]; rfl
  have b15 : cb[15]? = some (.slice B15 y.f6.length d15) := by rw [← Array.getElem?_toList, hcb]; rfl
  have b16 : cb[16]? = some (.int .i64 y.f7) := by rw [← Array.getElem?_toList, hcb]; rfl
  have b17 : cb[17]? = some (.int .i64 y.f8) := by rw [← Array.getElem?_toList, hcb]; rfl
  have b18 : cb[18]? = some (.slice B18 y.f9.length d18) := by rw [← Array.getElem?_toList, hcb]; rfl
  have HB := Aside0.mk (show cb.toList = [.int .i64 y.f0, .int .i64 y.f1] ++ (testCells y.f2 ++ [.slice B12 y.f3.length d12, .int .i64 y.f4, .int .i64 y.f5, .slice B15 y.f6.length d15, .int .i64 y.f7, .int .i64 y.f8, .slice B18 y.f9.length d18]) from hcb)
  have ok := hok.out
  have C12 := Aside0.mk (fun w hr hr' => equalC_c A12 c12 x.f3 B12 d12 y.f3 w ok.1 hr l12 hr' m12)
  have C15 := Aside0.mk (fun w hr hr' => equalI_c A15 c15 x.f6 B15 d15 y.f6 w ok.2.1 hr l15 hr' m15)
  have C18 := Aside0.mk (fun w hr hr' => hS x.f9 y.f9 A18 B18 c18 d18 w hkids hr l18 hr' m18 ok.2.2.1 ok.2.2.2)
  have G12 := Aside0.mk g12
  have G15 := Aside0.mk g15
  have G18 := Aside0.mk g18
  have J12 := Aside0.mk j12
  have J15 := Aside0.mk j15
  have J18 := Aside0.mk j18
  have T0 := Aside0.mk (Below.refl w.heap.size w)
  have KIDS := Aside0.mk (@same_kids x y)
  have NO := Aside0.mk (@same_no x y)
  clear hS l12 l15 l18 g12 g15 g18 m12 m15 m18 j12 j15 j18 ok hok hca hcb hK hK' hkids hn
  by_cases h_f0 : x.f0 = y.f0
  rotate_left
  · have q_f0 : (x.f0 == y.f0) = false := by simpa using h_f0
    have NN := Aside0.mk (NO.out (fun e => h_f0 (by rw [e])))
    clear h_f0 KIDS NO
    go_enter Tryz.func58, Tryz.ntmps58
    go_wp2_with (first
      | ((with_reducible refine gate_dst (N := 2) rfl ?_); refine box_ 39 (.tmp 0) rfl rfl ca rfl ?_; intro ga hga w1 hb1 hB1; have B1 := Aside0.mk (below_step T0.out hB1); have X1 := Aside0.mk hb1; clear hb1 hB1 hga T0)
      | ((with_reducible refine gate_dst (N := 3) rfl ?_); refine box_ 39 (.tmp 1) rfl rfl cb rfl ?_; intro gb hgb w2 hb2 hB2; have E := Aside0.mk (show ES w ga gb ca cb w2 from ⟨(hB2.block ga (blk_lt X1.out)).trans X1.out, hb2, below_step B1.out hB2⟩); have qa := E.out.cellA; have qb := E.out.cellB; clear hb2 hB2 hgb B1 X1))
    go_ret
    exact ⟨by rw [NN.out]; rfl, E.out.bel⟩
  have q_f0 : (x.f0 == y.f0) = true := by simpa using h_f0
  have e_f0 := Aside0.mk h_f0
  clear h_f0
  by_cases h_f1 : x.f1 = y.f1
  rotate_left
  · have q_f1 : (x.f1 == y.f1) = false := by simpa using h_f1
    have NN := Aside0.mk (NO.out (fun e => h_f1 (by rw [e])))
    clear h_f1 KIDS NO
    go_enter Tryz.func58, Tryz.ntmps58
    go_wp2_with (first
      | ((with_reducible refine gate_dst (N := 2) rfl ?_); refine box_ 39 (.tmp 0) rfl rfl ca rfl ?_; intro ga hga w1 hb1 hB1; have B1 := Aside0.mk (below_step T0.out hB1); have X1 := Aside0.mk hb1; clear hb1 hB1 hga T0)
      | ((with_reducible refine gate_dst (N := 3) rfl ?_); refine box_ 39 (.tmp 1) rfl rfl cb rfl ?_; intro gb hgb w2 hb2 hB2; have E := Aside0.mk (show ES w ga gb ca cb w2 from ⟨(hB2.block ga (blk_lt X1.out)).trans X1.out, hb2, below_step B1.out hB2⟩); have qa := E.out.cellA; have qb := E.out.cellB; clear hb2 hB2 hgb B1 X1))
    go_ret
    exact ⟨by rw [NN.out]; rfl, E.out.bel⟩
  have q_f1 : (x.f1 == y.f1) = true := by simpa using h_f1
  have e_f1 := Aside0.mk h_f1
  clear h_f1
  by_cases h_f2 : x.f2 = y.f2
  rotate_left
  · have q_f2 : decide (x.f2 = y.f2) = false := by simpa using h_f2
    have NN := Aside0.mk (NO.out (fun e => h_f2 (by rw [e])))
    clear h_f2 KIDS NO
    go_enter Tryz.func58, Tryz.ntmps58
    go_wp2_with (first
      | ((with_reducible refine gate_dst (N := 2) rfl ?_); refine box_ 39 (.tmp 0) rfl rfl ca rfl ?_; intro ga hga w1 hb1 hB1; have B1 := Aside0.mk (below_step T0.out hB1); have X1 := Aside0.mk hb1; clear hb1 hB1 hga T0)
      | ((with_reducible refine gate_dst (N := 3) rfl ?_); refine box_ 39 (.tmp 1) rfl rfl cb rfl ?_; intro gb hgb w2 hb2 hB2; have E := Aside0.mk (show ES w ga gb ca cb w2 from ⟨(hB2.block ga (blk_lt X1.out)).trans X1.out, hb2, below_step B1.out hB2⟩); have qa := E.out.cellA; have qb := E.out.cellB; clear hb2 hB2 hgb B1 X1)
      | ((with_reducible refine gate_dst (N := 20) rfl ?_); refine loadW_ 35 (.tmp 19) rfl ?hw ⟨ga, 2, none⟩ ?hx (testCells x.f2) _ Tryz.underlying35 ?hi (sub_ E.out.hA _ _ _ HA.out) ?_; (case hw => first | rfl | (simp [Region.wanted, yielded]; done)); (case hx => first | rfl | (go_simp; done) | (go_simp; rfl)); (case hi => kernel_rfl))
      | ((with_reducible refine gate_dst (N := 22) rfl ?_); refine loadW_ 35 (.tmp 21) rfl ?hw ⟨gb, 2, none⟩ ?hx (testCells y.f2) _ Tryz.underlying35 ?hi (sub_ E.out.hB _ _ _ HB.out) ?_; (case hw => first | rfl | (simp [Region.wanted, yielded]; done)); (case hx => first | rfl | (go_simp; done) | (go_simp; rfl)); (case hi => kernel_rfl)))
    go_ret
    exact ⟨by rw [NN.out]; rfl, E.out.bel⟩
  have q_f2 : decide (x.f2 = y.f2) = true := by simpa using h_f2
  have e_f2 := Aside0.mk h_f2
  clear h_f2
  by_cases h_f4 : x.f4 = y.f4
  rotate_left
  · have q_f4 : (x.f4 == y.f4) = false := by simpa using h_f4
    have NN := Aside0.mk (NO.out (fun e => h_f4 (by rw [e])))
    clear h_f4 KIDS NO
    go_enter Tryz.func58, Tryz.ntmps58
    go_wp2_with (first
      | ((with_reducible refine gate_dst (N := 2) rfl ?_); refine box_ 39 (.tmp 0) rfl rfl ca rfl ?_; intro ga hga w1 hb1 hB1; have B1 := Aside0.mk (below_step T0.out hB1); have X1 := Aside0.mk hb1; clear hb1 hB1 hga T0)
      | ((with_reducible refine gate_dst (N := 3) rfl ?_); refine box_ 39 (.tmp 1) rfl rfl cb rfl ?_; intro gb hgb w2 hb2 hB2; have E := Aside0.mk (show ES w ga gb ca cb w2 from ⟨(hB2.block ga (blk_lt X1.out)).trans X1.out, hb2, below_step B1.out hB2⟩); have qa := E.out.cellA; have qb := E.out.cellB; clear hb2 hB2 hgb B1 X1)
      | ((with_reducible refine gate_dst (N := 20) rfl ?_); refine loadW_ 35 (.tmp 19) rfl ?hw ⟨ga, 2, none⟩ ?hx (testCells x.f2) _ Tryz.underlying35 ?hi (sub_ E.out.hA _ _ _ HA.out) ?_; (case hw => first | rfl | (simp [Region.wanted, yielded]; done)); (case hx => first | rfl | (go_simp; done) | (go_simp; rfl)); (case hi => kernel_rfl))
      | ((with_reducible refine gate_dst (N := 22) rfl ?_); refine loadW_ 35 (.tmp 21) rfl ?hw ⟨gb, 2, none⟩ ?hx (testCells y.f2) _ Tryz.underlying35 ?hi (sub_ E.out.hB _ _ _ HB.out) ?_; (case hw => first | rfl | (simp [Region.wanted, yielded]; done)); (case hx => first | rfl | (go_simp; done) | (go_simp; rfl)); (case hi => kernel_rfl)))
    go_ret
    exact ⟨by rw [NN.out]; rfl, E.out.bel⟩
  have q_f4 : (x.f4 == y.f4) = true := by simpa using h_f4
  have e_f4 := Aside0.mk h_f4
  clear h_f4
  by_cases h_f5 : x.f5 = y.f5
  rotate_left
  · have q_f5 : (x.f5 == y.f5) = false := by simpa using h_f5
    have NN := Aside0.mk (NO.out (fun e => h_f5 (by rw [e])))
    clear h_f5 KIDS NO
    go_enter Tryz.func58, Tryz.ntmps58
    go_wp2_with (first
      | ((with_reducible refine gate_dst (N := 2) rfl ?_); refine box_ 39 (.tmp 0) rfl rfl ca rfl ?_; intro ga hga w1 hb1 hB1; have B1 := Aside0.mk (below_step T0.out hB1); have X1 := Aside0.mk hb1; clear hb1 hB1 hga T0)
      | ((with_reducible refine gate_dst (N := 3) rfl ?_); refine box_ 39 (.tmp 1) rfl rfl cb rfl ?_; intro gb hgb w2 hb2 hB2; have E := Aside0.mk (show ES w ga gb ca cb w2 from ⟨(hB2.block ga (blk_lt X1.out)).trans X1.out, hb2, below_step B1.out hB2⟩); have qa := E.out.cellA; have qb := E.out.cellB; clear hb2 hB2 hgb B1 X1)
      | ((with_reducible refine gate_dst (N := 20) rfl ?_); refine loadW_ 35 (.tmp 19) rfl ?hw ⟨ga, 2, none⟩ ?hx (testCells x.f2) _ Tryz.underlying35 ?hi (sub_ E.out.hA _ _ _ HA.out) ?_; (case hw => first | rfl | (simp [Region.wanted, yielded]; done)); (case hx => first | rfl | (go_simp; done) | (go_simp; rfl)); (case hi => kernel_rfl))
      | ((with_reducible refine gate_dst (N := 22) rfl ?_); refine loadW_ 35 (.tmp 21) rfl ?hw ⟨gb, 2, none⟩ ?hx (testCells y.f2) _ Tryz.underlying35 ?hi (sub_ E.out.hB _ _ _ HB.out) ?_; (case hw => first | rfl | (simp [Region.wanted, yielded]; done)); (case hx => first | rfl | (go_simp; done) | (go_simp; rfl)); (case hi => kernel_rfl)))
    go_ret
    exact ⟨by rw [NN.out]; rfl, E.out.bel⟩
  have q_f5 : (x.f5 == y.f5) = true := by simpa using h_f5
  have e_f5 := Aside0.mk h_f5
  clear h_f5
  by_cases h_f7 : x.f7 = y.f7
  rotate_left
  · have q_f7 : (x.f7 == y.f7) = false := by simpa using h_f7
    have NN := Aside0.mk (NO.out (fun e => h_f7 (by rw [e])))
    clear h_f7 KIDS NO
    go_enter Tryz.func58, Tryz.ntmps58
    go_wp2_with (first
      | ((with_reducible refine gate_dst (N := 2) rfl ?_); refine box_ 39 (.tmp 0) rfl rfl ca rfl ?_; intro ga hga w1 hb1 hB1; have B1 := Aside0.mk (below_step T0.out hB1); have X1 := Aside0.mk hb1; clear hb1 hB1 hga T0)
      | ((with_reducible refine gate_dst (N := 3) rfl ?_); refine box_ 39 (.tmp 1) rfl rfl cb rfl ?_; intro gb hgb w2 hb2 hB2; have E := Aside0.mk (show ES w ga gb ca cb w2 from ⟨(hB2.block ga (blk_lt X1.out)).trans X1.out, hb2, below_step B1.out hB2⟩); have qa := E.out.cellA; have qb := E.out.cellB; clear hb2 hB2 hgb B1 X1)
      | ((with_reducible refine gate_dst (N := 20) rfl ?_); refine loadW_ 35 (.tmp 19) rfl ?hw ⟨ga, 2, none⟩ ?hx (testCells x.f2) _ Tryz.underlying35 ?hi (sub_ E.out.hA _ _ _ HA.out) ?_; (case hw => first | rfl | (simp [Region.wanted, yielded]; done)); (case hx => first | rfl | (go_simp; done) | (go_simp; rfl)); (case hi => kernel_rfl))
      | ((with_reducible refine gate_dst (N := 22) rfl ?_); refine loadW_ 35 (.tmp 21) rfl ?hw ⟨gb, 2, none⟩ ?hx (testCells y.f2) _ Tryz.underlying35 ?hi (sub_ E.out.hB _ _ _ HB.out) ?_; (case hw => first | rfl | (simp [Region.wanted, yielded]; done)); (case hx => first | rfl | (go_simp; done) | (go_simp; rfl)); (case hi => kernel_rfl)))
    go_ret
    exact ⟨by rw [NN.out]; rfl, E.out.bel⟩
  have q_f7 : (x.f7 == y.f7) = true := by simpa using h_f7
  have e_f7 := Aside0.mk h_f7
  clear h_f7
  by_cases h_f8 : x.f8 = y.f8
  rotate_left
  · have q_f8 : (x.f8 == y.f8) = false := by simpa using h_f8
    have NN := Aside0.mk (NO.out (fun e => h_f8 (by rw [e])))
    clear h_f8 KIDS NO
    go_enter Tryz.func58, Tryz.ntmps58
    go_wp2_with (first
      | ((with_reducible refine gate_dst (N := 2) rfl ?_); refine box_ 39 (.tmp 0) rfl rfl ca rfl ?_; intro ga hga w1 hb1 hB1; have B1 := Aside0.mk (below_step T0.out hB1); have X1 := Aside0.mk hb1; clear hb1 hB1 hga T0)
      | ((with_reducible refine gate_dst (N := 3) rfl ?_); refine box_ 39 (.tmp 1) rfl rfl cb rfl ?_; intro gb hgb w2 hb2 hB2; have E := Aside0.mk (show ES w ga gb ca cb w2 from ⟨(hB2.block ga (blk_lt X1.out)).trans X1.out, hb2, below_step B1.out hB2⟩); have qa := E.out.cellA; have qb := E.out.cellB; clear hb2 hB2 hgb B1 X1)
      | ((with_reducible refine gate_dst (N := 20) rfl ?_); refine loadW_ 35 (.tmp 19) rfl ?hw ⟨ga, 2, none⟩ ?hx (testCells x.f2) _ Tryz.underlying35 ?hi (sub_ E.out.hA _ _ _ HA.out) ?_; (case hw => first | rfl | (simp [Region.wanted, yielded]; done)); (case hx => first | rfl | (go_simp; done) | (go_simp; rfl)); (case hi => kernel_rfl))
      | ((with_reducible refine gate_dst (N := 22) rfl ?_); refine loadW_ 35 (.tmp 21) rfl ?hw ⟨gb, 2, none⟩ ?hx (testCells y.f2) _ Tryz.underlying35 ?hi (sub_ E.out.hB _ _ _ HB.out) ?_; (case hw => first | rfl | (simp [Region.wanted, yielded]; done)); (case hx => first | rfl | (go_simp; done) | (go_simp; rfl)); (case hi => kernel_rfl)))
    go_ret
    exact ⟨by rw [NN.out]; rfl, E.out.bel⟩
  have q_f8 : (x.f8 == y.f8) = true := by simpa using h_f8
  have e_f8 := Aside0.mk h_f8
  clear h_f8
  by_cases h_f3 : x.f3 = y.f3
  rotate_left
  · have q_f3 : decide (x.f3 = y.f3) = false := by simpa using h_f3
    have NN := Aside0.mk (NO.out (fun e => h_f3 (by rw [e])))
    clear h_f3 KIDS NO
    go_enter Tryz.func58, Tryz.ntmps58
    go_wp2_with (first
      | ((with_reducible refine gate_dst (N := 2) rfl ?_); refine box_ 39 (.tmp 0) rfl rfl ca rfl ?_; intro ga hga w1 hb1 hB1; have B1 := Aside0.mk (below_step T0.out hB1); have X1 := Aside0.mk hb1; clear hb1 hB1 hga T0)
      | ((with_reducible refine gate_dst (N := 3) rfl ?_); refine box_ 39 (.tmp 1) rfl rfl cb rfl ?_; intro gb hgb w2 hb2 hB2; have E := Aside0.mk (show ES w ga gb ca cb w2 from ⟨(hB2.block ga (blk_lt X1.out)).trans X1.out, hb2, below_step B1.out hB2⟩); have qa := E.out.cellA; have qb := E.out.cellB; clear hb2 hB2 hgb B1 X1)
      | ((with_reducible refine gate_dst (N := 20) rfl ?_); refine loadW_ 35 (.tmp 19) rfl ?hw ⟨ga, 2, none⟩ ?hx (testCells x.f2) _ Tryz.underlying35 ?hi (sub_ E.out.hA _ _ _ HA.out) ?_; (case hw => first | rfl | (simp [Region.wanted, yielded]; done)); (case hx => first | rfl | (go_simp; done) | (go_simp; rfl)); (case hi => kernel_rfl))
      | ((with_reducible refine gate_dst (N := 22) rfl ?_); refine loadW_ 35 (.tmp 21) rfl ?hw ⟨gb, 2, none⟩ ?hx (testCells y.f2) _ Tryz.underlying35 ?hi (sub_ E.out.hB _ _ _ HB.out) ?_; (case hw => first | rfl | (simp [Region.wanted, yielded]; done)); (case hx => first | rfl | (go_simp; done) | (go_simp; rfl)); (case hi => kernel_rfl))
      | (go_at_call 64; refine (C12.out _ (Kd.C_below G12.out E.out.bel) (Kd.C_below J12.out E.out.bel)).mono ?_; rintro e w3 ⟨rfl, hB⟩; have E2 := Aside0.mk (E.out.call hB); clear qa qb E; have E := E2; have qa := E.out.cellA; have qb := E.out.cellB; clear hB E2))
    go_ret
    exact ⟨by rw [NN.out]; rfl, E.out.bel⟩
  have q_f3 : decide (x.f3 = y.f3) = true := by simpa using h_f3
  have e_f3 := Aside0.mk h_f3
  clear h_f3
  by_cases h_f6 : x.f6 = y.f6
  rotate_left
  · have q_f6 : decide (x.f6 = y.f6) = false := by simpa using h_f6
    have NN := Aside0.mk (NO.out (fun e => h_f6 (by rw [e])))
    clear h_f6 KIDS NO
    go_enter Tryz.func58, Tryz.ntmps58
    go_wp2_with (first
      | ((with_reducible refine gate_dst (N := 2) rfl ?_); refine box_ 39 (.tmp 0) rfl rfl ca rfl ?_; intro ga hga w1 hb1 hB1; have B1 := Aside0.mk (below_step T0.out hB1); have X1 := Aside0.mk hb1; clear hb1 hB1 hga T0)
      | ((with_reducible refine gate_dst (N := 3) rfl ?_); refine box_ 39 (.tmp 1) rfl rfl cb rfl ?_; intro gb hgb w2 hb2 hB2; have E := Aside0.mk (show ES w ga gb ca cb w2 from ⟨(hB2.block ga (blk_lt X1.out)).trans X1.out, hb2, below_step B1.out hB2⟩); have qa := E.out.cellA; have qb := E.out.cellB; clear hb2 hB2 hgb B1 X1)
      | ((with_reducible refine gate_dst (N := 20) rfl ?_); refine loadW_ 35 (.tmp 19) rfl ?hw ⟨ga, 2, none⟩ ?hx (testCells x.f2) _ Tryz.underlying35 ?hi (sub_ E.out.hA _ _ _ HA.out) ?_; (case hw => first | rfl | (simp [Region.wanted, yielded]; done)); (case hx => first | rfl | (go_simp; done) | (go_simp; rfl)); (case hi => kernel_rfl))
      | ((with_reducible refine gate_dst (N := 22) rfl ?_); refine loadW_ 35 (.tmp 21) rfl ?hw ⟨gb, 2, none⟩ ?hx (testCells y.f2) _ Tryz.underlying35 ?hi (sub_ E.out.hB _ _ _ HB.out) ?_; (case hw => first | rfl | (simp [Region.wanted, yielded]; done)); (case hx => first | rfl | (go_simp; done) | (go_simp; rfl)); (case hi => kernel_rfl))
      | (go_at_call 64; refine (C12.out _ (Kd.C_below G12.out E.out.bel) (Kd.C_below J12.out E.out.bel)).mono ?_; rintro e w3 ⟨rfl, hB⟩; have E2 := Aside0.mk (E.out.call hB); clear qa qb E; have E := E2; have qa := E.out.cellA; have qb := E.out.cellB; clear hB E2)
      | (go_at_call 65; refine (C15.out _ (Kd.C_below G15.out E.out.bel) (Kd.C_below J15.out E.out.bel)).mono ?_; rintro e w4 ⟨rfl, hB⟩; have E2 := Aside0.mk (E.out.call hB); clear qa qb E; have E := E2; have qa := E.out.cellA; have qb := E.out.cellB; clear hB E2))
    go_ret
    exact ⟨by rw [NN.out]; rfl, E.out.bel⟩
  have q_f6 : decide (x.f6 = y.f6) = true := by simpa using h_f6
  have e_f6 := Aside0.mk h_f6
  clear h_f6
  by_cases h_f9 : x.f9 = y.f9
  rotate_left
  · have q_f9 : sames x.f9 y.f9 = false := sames_no h_f9
    have NN := Aside0.mk (NO.out (fun e => h_f9 (by rw [e])))
    clear h_f9 KIDS NO
    go_enter Tryz.func58, Tryz.ntmps58
    go_wp2_with (first
      | ((with_reducible refine gate_dst (N := 2) rfl ?_); refine box_ 39 (.tmp 0) rfl rfl ca rfl ?_; intro ga hga w1 hb1 hB1; have B1 := Aside0.mk (below_step T0.out hB1); have X1 := Aside0.mk hb1; clear hb1 hB1 hga T0)
      | ((with_reducible refine gate_dst (N := 3) rfl ?_); refine box_ 39 (.tmp 1) rfl rfl cb rfl ?_; intro gb hgb w2 hb2 hB2; have E := Aside0.mk (show ES w ga gb ca cb w2 from ⟨(hB2.block ga (blk_lt X1.out)).trans X1.out, hb2, below_step B1.out hB2⟩); have qa := E.out.cellA; have qb := E.out.cellB; clear hb2 hB2 hgb B1 X1)
      | ((with_reducible refine gate_dst (N := 20) rfl ?_); refine loadW_ 35 (.tmp 19) rfl ?hw ⟨ga, 2, none⟩ ?hx (testCells x.f2) _ Tryz.underlying35 ?hi (sub_ E.out.hA _ _ _ HA.out) ?_; (case hw => first | rfl | (simp [Region.wanted, yielded]; done)); (case hx => first | rfl | (go_simp; done) | (go_simp; rfl)); (case hi => kernel_rfl))
      | ((with_reducible refine gate_dst (N := 22) rfl ?_); refine loadW_ 35 (.tmp 21) rfl ?hw ⟨gb, 2, none⟩ ?hx (testCells y.f2) _ Tryz.underlying35 ?hi (sub_ E.out.hB _ _ _ HB.out) ?_; (case hw => first | rfl | (simp [Region.wanted, yielded]; done)); (case hx => first | rfl | (go_simp; done) | (go_simp; rfl)); (case hi => kernel_rfl))
      | (go_at_call 64; refine (C12.out _ (Kd.C_below G12.out E.out.bel) (Kd.C_below J12.out E.out.bel)).mono ?_; rintro e w3 ⟨rfl, hB⟩; have E2 := Aside0.mk (E.out.call hB); clear qa qb E; have E := E2; have qa := E.out.cellA; have qb := E.out.cellB; clear hB E2)
      | (go_at_call 65; refine (C15.out _ (Kd.C_below G15.out E.out.bel) (Kd.C_below J15.out E.out.bel)).mono ?_; rintro e w4 ⟨rfl, hB⟩; have E2 := Aside0.mk (E.out.call hB); clear qa qb E; have E := E2; have qa := E.out.cellA; have qb := E.out.cellB; clear hB E2)
      | (go_at_call 66; refine (C18.out _ (Kd.C_below G18.out E.out.bel) (Kd.C_below J18.out E.out.bel)).mono ?_; rintro e w5 ⟨rfl, hB⟩; have E2 := Aside0.mk (E.out.call hB); clear qa qb E; have E := E2; have qa := E.out.cellA; have qb := E.out.cellB; clear hB E2))
    go_ret
    exact ⟨by rw [NN.out]; rfl, E.out.bel⟩
  have q_f9 : sames x.f9 y.f9 = true := sames_iff.2 h_f9
  have e_f9 := Aside0.mk h_f9
  clear h_f9
  have YY := Aside0.mk ((KIDS.out e_f0.out e_f1.out e_f2.out e_f3.out e_f4.out e_f5.out e_f6.out e_f7.out e_f8.out).trans q_f9)
  clear KIDS NO
  go_enter Tryz.func58, Tryz.ntmps58
  go_wp2_with (first
    | ((with_reducible refine gate_dst (N := 2) rfl ?_); refine box_ 39 (.tmp 0) rfl rfl ca rfl ?_; intro ga hga w1 hb1 hB1; have B1 := Aside0.mk (below_step T0.out hB1); have X1 := Aside0.mk hb1; clear hb1 hB1 hga T0)
    | ((with_reducible refine gate_dst (N := 3) rfl ?_); refine box_ 39 (.tmp 1) rfl rfl cb rfl ?_; intro gb hgb w2 hb2 hB2; have E := Aside0.mk (show ES w ga gb ca cb w2 from ⟨(hB2.block ga (blk_lt X1.out)).trans X1.out, hb2, below_step B1.out hB2⟩); have qa := E.out.cellA; have qb := E.out.cellB; clear hb2 hB2 hgb B1 X1)
    | ((with_reducible refine gate_dst (N := 20) rfl ?_); refine loadW_ 35 (.tmp 19) rfl ?hw ⟨ga, 2, none⟩ ?hx (testCells x.f2) _ Tryz.underlying35 ?hi (sub_ E.out.hA _ _ _ HA.out) ?_; (case hw => first | rfl | (simp [Region.wanted, yielded]; done)); (case hx => first | rfl | (go_simp; done) | (go_simp; rfl)); (case hi => kernel_rfl))
    | ((with_reducible refine gate_dst (N := 22) rfl ?_); refine loadW_ 35 (.tmp 21) rfl ?hw ⟨gb, 2, none⟩ ?hx (testCells y.f2) _ Tryz.underlying35 ?hi (sub_ E.out.hB _ _ _ HB.out) ?_; (case hw => first | rfl | (simp [Region.wanted, yielded]; done)); (case hx => first | rfl | (go_simp; done) | (go_simp; rfl)); (case hi => kernel_rfl))
    | (go_at_call 64; refine (C12.out _ (Kd.C_below G12.out E.out.bel) (Kd.C_below J12.out E.out.bel)).mono ?_; rintro e w3 ⟨rfl, hB⟩; have E2 := Aside0.mk (E.out.call hB); clear qa qb E; have E := E2; have qa := E.out.cellA; have qb := E.out.cellB; clear hB E2)
    | (go_at_call 65; refine (C15.out _ (Kd.C_below G15.out E.out.bel) (Kd.C_below J15.out E.out.bel)).mono ?_; rintro e w4 ⟨rfl, hB⟩; have E2 := Aside0.mk (E.out.call hB); clear qa qb E; have E := E2; have qa := E.out.cellA; have qb := E.out.cellB; clear hB E2)
    | (go_at_call 66; refine (C18.out _ (Kd.C_below G18.out E.out.bel) (Kd.C_below J18.out E.out.bel)).mono ?_; rintro e w5 ⟨rfl, hB⟩; have E2 := Aside0.mk (E.out.call hB); clear qa qb E; have E := E2; have qa := E.out.cellA; have qb := E.out.cellB; clear hB E2))
  go_ret
  exact ⟨by rw [YY.out]; rfl, E.out.bel⟩
theorem psP_all (N : Nat) : PsP N := by
  induction N using Nat.strongRecOn with
  | _ N ih =>
    cases N with
    | zero => intro x y ca cb w hn; have := sz39_kids x; omega
    | succ N => exact planSame_step N (equalFunc_step N (fun M hM => ih M (by omega)))
/-- **impl.PlanSame**: are two plans one? -/
theorem implPlanSame_c (x y : S39) (ca cb : Array Value) (w : World) (hK : k39.K w x ca.toList) (hK' : k39.K w y cb.toList) (hok : Small39 x) :
    Calls Tryz.prog 58 #[.agg ca, .agg cb] w fun e w' => e = .returned (.bool (same x y)) ∧ Below w.heap.size w w' := psP_all _ x y ca cb w (Nat.le_refl _) hK hK' hok
end Pl

end

end Go.Proofs.YtlpgnkndjmfcjaaGreat.PFnPlanUses
