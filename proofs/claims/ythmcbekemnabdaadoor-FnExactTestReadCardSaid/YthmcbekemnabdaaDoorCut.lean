/- Words for an append of a cut of a row: what its elements lead to is told without the cut row's own block. No condition of its own. -/
import Derived.Test.YthmcbekemnabdaaDoorWNEv
import Derived.Test.YthmcbekemnabdaaDoorWMore
namespace Go.Proofs.YthmcbekemnabdaaDoorW.PrintWords
open Go.RowKit
namespace Kd
section
variable {α : Type} {d : Kd α} {e base m c : Nat} {ok : Nat → Prop} {w W : World} {v : Value} {xs : List α} {A : Option Addr}
/-- A row's elements with what each leads to: none leads to the row itself. -/
theorem N_rowsK {n : Nat} (h : N d e w base ok (.slice A n c) xs) : ReadsRow (fun x cs => FK d w (fun k => ok k ∧ some k ≠ (Value.slice A n c).ownBlock) x cs) d.sz w A xs.length xs := by
  obtain ⟨_, rows, hl, hR, hf⟩ := h
  obtain ⟨hn, hc, hC⟩ := R_reads' hR
  rw [hl] at hC
  refine ⟨rfl, hC.2.1, fun hp => ?_⟩
  obtain ⟨ad, he, hcell⟩ := hC.2.2 hp
  refine ⟨ad, he, fun j p hj => ?_⟩
  have hjl : j < rows.length := by have := (List.getElem?_eq_some_iff.1 hj).1; omega
  obtain ⟨c', hcl, hK, hcc⟩ := hcell j _ (List.getElem?_eq_getElem hjl)
  have hk := hf j p _ hj (List.getElem?_eq_getElem hjl)
  refine ⟨c', hcl, ?_, hcc⟩
  rw [show c' = rows[j] from hK.1]
  exact hk
theorem rows_drop {R : α → List Value → Prop} {sz : Nat} (h : ReadsRow R sz w A xs.length xs) (hm : m ≤ xs.length) (hc : xs.length ≤ c) : ReadsRow R sz w (if c = m then A else A.map (·.add (m * sz))) (xs.drop m).length (xs.drop m) := by
  have hl : (xs.drop m).length = xs.length - m := List.length_drop
  refine ⟨rfl, by rw [hl]; have := h.2.1; omega, fun hp => ?_⟩
  rw [hl] at hp
  obtain ⟨ad, rfl, hcell⟩ := h.2.2 (by omega)
  rw [if_neg (by omega)]
  refine ⟨ad.add (m * sz), rfl, fun j p hj => ?_⟩
  rw [List.getElem?_drop] at hj
  obtain ⟨cs, h1, h2, h3⟩ := hcell (m + j) p hj
  refine ⟨cs, h1, h2, fun i u hu => ?_⟩
  rw [add_add, show m * sz + (j * sz + i) = (m + j) * sz + i by rw [Nat.add_mul]; omega]
  exact h3 i u hu
theorem rowsK_step {W1 : World} {n : Nat} {okp : Nat → Prop} {xs : List α} (h : ReadsRow (fun x cs => FK d W okp x cs) d.sz W A n xs) (hb : Below W.heap.size W W1) : ReadsRow (fun x cs => FK d W1 okp x cs) d.sz W1 A n xs :=
  ReadsRow.imp_ h hb (fun _ _ hp => FK_below hp hb)
/-- What is shared and not empty does not lie in a block that it is told apart from. -/
theorem V_away {n g : Nat} {ad : Addr} (h : V d e w base ok (.slice (some ad) n c) xs) (hok : ∀ k, ok k → k ≠ g) (hz : 0 < d.sz := by decide) (hp : (0 : Int) < n := by first | omega | exact of_decide_eq_true (by assumption)) : some g ≠ (Value.slice (some ad) n c).ownBlock := by
  obtain ⟨A', c', he, _, hF⟩ := h
  injection he with h1 h2 h3
  subst h1
  have hl : 0 < xs.length := by omega
  obtain ⟨ad', _, e', _, _, _, hin⟩ := F_get hF xs[0] 0 (by omega) (by omega)
  injection e' with e'
  subst e'
  intro hg
  simp only [Value.ownBlock, Option.some.injEq] at hg
  exact hok _ (hin hz) hg.symm
end
section
variable {P : Program} {ops : Array Oper} {rest : List Oper} {o : Oper} {a : Act} {Q : Exit → Act → World → Prop} {Kc : Act → World → Prop} {α : Type}
/-- append(v, x..): what x's elements lead to is told one by one. -/
theorem N_append_rowsK (d : Kd α) {w0 W : World} (base : Nat) (hgd : o.guard = none) (s x : Operand) (t e : TypeId) (z : Value) (bytes : Nat)
    (ho : o.op = .call { callee := .builtin .append, args := #[s, x], argTypes := #[t, t] })
    (ht : P.underlying t = some (.slice e)) (hinfo : (P.info? e).map (fun i => (i.zero, i.size, i.bytes)) = some (some z, d.sz, bytes)) (hz : z.cells.size = d.sz) (hs0 : 0 < d.sz) (hb0 : 0 < bytes)
    (v : Value) (xs ys : List α) (A : Option Addr) (m c : Nat) (ok okp : Nat → Prop) (hs : a.eval s = v) (hx : a.eval x = .slice A m c)
    (HO : N d e W base ok v xs) (HR : ReadsRow (fun x cs => FK d W okp x cs) d.sz W A m ys) (hokp : ∀ k, okp k → ok k ∧ some k ≠ v.ownBlock) (hfresh : ∀ k, W.heap.size ≤ k → ok k)
    (HB : Below base w0 W) (hbase : base ≤ W.heap.size) (hl : (xs.length + m) * bytes ≤ 140737488355328)
    (h : ∀ v1 w1, N d e w1 base ok v1 (xs ++ ys) → Below base w0 w1 → W.grownBy w1 v.ownBlock → (v1.ownBlock = v.ownBlock ∨ ∃ b, v1.ownBlock = some b ∧ W.heap.size ≤ b) → wpList P ops Q rest (a.put o.dst v1) w1) :
    wpList P ops Q (o :: rest) a W := by
  obtain ⟨h0, rows, hlr, hR, hf⟩ := HO
  obtain ⟨news, hnl, hnr, hnf⟩ := reads_raw HR (fun y c hk => ⟨d.K_len (FK_now hk), d.K_one (FK_now hk)⟩)
  refine R_append_rows (raw d.sz) base hgd s x t e z bytes ho ht hinfo hz hs0 hb0 v rows news A m c (fun _ => True) (fun _ => False) hs hx (raw_any hR) hnr (fun _ _ hk => hk) (fun _ hk => hk.elim) (fun _ _ => trivial) HB hbase (by rw [hlr]; exact hl) ?_
  intro v1 w1 hr hb hg hat
  exact h v1 w1 (N_appended h0 hlr hf hnl hnf hokp hfresh hr hg hat) hb hg hat
theorem N_append_rowsK_step (d : Kd α) {w0 W : World} (base : Nat) (hw : Region.wanted o (yielded ops a.tmps) = true) (s x : Operand) (t e : TypeId) (z : Value) (bytes : Nat)
    (ho : o.op = .call { callee := .builtin .append, args := #[s, x], argTypes := #[t, t] })
    (ht : P.underlying t = some (.slice e)) (hinfo : (P.info? e).map (fun i => (i.zero, i.size, i.bytes)) = some (some z, d.sz, bytes)) (hz : z.cells.size = d.sz) (hs0 : 0 < d.sz) (hb0 : 0 < bytes)
    (v : Value) (xs ys : List α) (A : Option Addr) (m c : Nat) (ok okp : Nat → Prop) (hs : a.eval s = v) (hx : a.eval x = .slice A m c)
    (HO : N d e W base ok v xs) (HR : ReadsRow (fun x cs => FK d W okp x cs) d.sz W A m ys) (hokp : ∀ k, okp k → ok k ∧ some k ≠ v.ownBlock) (hfresh : ∀ k, W.heap.size ≤ k → ok k)
    (HB : Below base w0 W) (hbase : base ≤ W.heap.size) (hl : (xs.length + m) * bytes ≤ 140737488355328)
    (h : ∀ v1 w1, N d e w1 base ok v1 (xs ++ ys) → Below base w0 w1 → W.grownBy w1 v.ownBlock → (v1.ownBlock = v.ownBlock ∨ ∃ b, v1.ownBlock = some b ∧ W.heap.size ≤ b) → Kc (a.put o.dst v1) w1) :
    if Region.wanted o (yielded ops a.tmps) = true then Oper.wp P o a W Kc Q else Kc (a.put o.dst undef) W := by
  obtain ⟨h0, rows, hlr, hR, hf⟩ := HO
  obtain ⟨news, hnl, hnr, hnf⟩ := reads_raw HR (fun y c hk => ⟨d.K_len (FK_now hk), d.K_one (FK_now hk)⟩)
  refine R_append_rows_step (raw d.sz) base hw s x t e z bytes ho ht hinfo hz hs0 hb0 v rows news A m c (fun _ => True) (fun _ => False) hs hx (raw_any hR) hnr (fun _ _ hk => hk) (fun _ hk => hk.elim) (fun _ _ => trivial) HB hbase (by rw [hlr]; exact hl) ?_
  intro v1 w1 hr hb hg hat
  exact h v1 w1 (N_appended h0 hlr hf hnl hnf hokp hfresh hr hg hat) hb hg hat
end
end Kd
section
variable {b B : Nat} {w0 w W W1 : World} {row : Option Nat}
theorem below_sizeB (h : Below B w W) : w.heap.size ≤ W.heap.size := h.size
theorem below_setB {g j : Nat} {v : Value} (h : Below B w W) (hg : B ≤ g) : Below B w (W.setCell ⟨g, j, none⟩ v) := h.setCell hg _
theorem grown_drewB (h : w.grownBy W row) : w.grownBy W.drew row := ⟨h.os, h.tape, h.output, h.size, h.block⟩
/-- What is handed back is what came in. -/
theorem put_same (v : Value) (hB : Below b w0 w) (hb : b ≤ w.heap.size) (HB : Below w.heap.size w W) : Below b w0 W ∧ w.grownBy W v.ownBlock ∧ (v.ownBlock = v.ownBlock ∨ ∃ k, v.ownBlock = some k ∧ w.heap.size ≤ k) :=
  ⟨hB.trans (HB.mono hb), grown_of_below HB _, .inl rfl⟩
/-- Two appends, the second onto what the first has left. -/
theorem put_twice {W2 : World} {v1 v2 : Value} {row1 : Option Nat} (hg : w.grownBy W row1) (hat : v1.ownBlock = row1 ∨ ∃ k, v1.ownBlock = some k ∧ w.heap.size ≤ k) (hs : w.heap.size ≤ W.heap.size) (hg2 : W.grownBy W2 v1.ownBlock) (hat2 : v2.ownBlock = v1.ownBlock ∨ ∃ k, v2.ownBlock = some k ∧ W.heap.size ≤ k) :
    w.grownBy W2 row1 ∧ (v2.ownBlock = row1 ∨ ∃ k, v2.ownBlock = some k ∧ w.heap.size ≤ k) := by
  refine ⟨⟨hg2.os.trans hg.os, hg2.tape.trans hg.tape, hg2.output.trans hg.output, Nat.le_trans hg.size hg2.size, fun i hi hne => (hg2.block i (Nat.lt_of_lt_of_le hi hg.size) (fun e => ?_)).trans (hg.block i hi hne)⟩, ?_⟩
  · rcases hat with h | ⟨k, h, hl⟩
    · exact hne (e.trans h)
    · rw [h] at e; injection e with e; omega
  · rcases hat2 with h2 | ⟨k, h2, hl2⟩
    · rw [h2]; exact hat
    · exact .inr ⟨k, h2, Nat.le_trans hs hl2⟩
end
end Go.Proofs.YthmcbekemnabdaaDoorW.PrintWords
