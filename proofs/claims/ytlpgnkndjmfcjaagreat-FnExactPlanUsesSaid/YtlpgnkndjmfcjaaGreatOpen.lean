/- An argument that reads as data is a value of its kind: integers, bools, strings, slices, structs. No condition of its own. -/
import Derived.ChangeArms
import Derived.DataReads
import Derived.Deep.Slices
import Derived.Test.YtlpgnkndjmfcjaaGreatWWords
namespace Go.Proofs.YtlpgnkndjmfcjaaGreat.Open
open Go.RowKit Go.Proofs.YtlpgnkndjmfcjaaGreatW.PrintWords
/-- Whatever reads as data of type t (within so many steps) is a value of kind d, and Ok holds of it. -/
def OpensB {α : Type} (P : Program) (t : TypeId) (d : Kd α) (Ok : α → Prop) (m : Nat) : Prop :=
  ∀ (H : Type) (enc : TypeId × Value → H) (w : World) (base : Nat) (spare : Nat → Bool) (held : Bool) (fuel : Nat) (cs : List Value) (x : DataW H × List MemPlace),
    fuel ≤ m → DataW.trod enc P w base spare held fuel t cs = some x → ∃ a, d.K w a cs ∧ Ok a
def Opens {α : Type} (P : Program) (t : TypeId) (d : Kd α) (Ok : α → Prop) : Prop := ∀ m, OpensB P t d Ok m
section
variable {α β : Type} {P : Program} {t e : TypeId} {d : Kd α} {d' : Kd β} {Ok : α → Prop} {Ok' : β → Prop} {m : Nat}
theorem OpensB.less {m' : Nat} (h : OpensB P t d Ok m) (hm : m' ≤ m) : OpensB P t d Ok m' := fun H enc w base spare held fuel cs x hf hx => h H enc w base spare held fuel cs x (Nat.le_trans hf hm) hx
theorem opens_int {k : IntKind} (ht : P.underlying t = some (.int k)) : Opens P t (Kd.int k) (fun n => (Lit.int k n).wf = true) := by
  intro m H enc w base spare held fuel cs x _ hx
  obtain ⟨n, rfl, _, hw⟩ := DataW.trod_int ht hx
  exact ⟨n, rfl, hw⟩
theorem opens_bool (ht : P.underlying t = some .bool) : Opens P t Kd.bool (fun _ => True) := by
  intro m H enc w base spare held fuel cs x _ hx
  obtain ⟨n, rfl, _⟩ := DataW.trod_bool ht hx
  exact ⟨n, rfl, trivial⟩
theorem opens_string (ht : P.underlying t = some .string) : Opens P t Kd.string (fun s => s.size ≤ maxLen) := by
  intro m H enc w base spare held fuel cs x _ hx
  obtain ⟨n, rfl, _, hs⟩ := DataW.trod_string ht hx
  exact ⟨n, rfl, hs⟩
theorem opensB_slice (ht : P.underlying t = some (.slice e)) (hc : P.cellsOf e = d.sz) (h : OpensB P e d Ok m) : OpensB P t (Kd.slice e d) (fun xs => xs.length ≤ maxLen ∧ ∀ x ∈ xs, Ok x) m := by
  intro H enc w base spare held fuel cs x hf hx
  rcases DataW.trod_slice ht hx with ⟨rfl, _⟩ | ⟨a, len, cap, elems, rest, n, rfl, rfl, _, _, hl, hcap, hlen, hel, _, _⟩
  · exact ⟨[], ⟨none, 0, rfl, Nat.le_refl _, ⟨rfl, by simp, fun h0 => absurd h0 (by simp)⟩⟩, by simp, by simp⟩
  · have each : ∀ i, i < len → ∃ x c, d.K w x c ∧ Ok x ∧ c.length = d.sz ∧ ∀ j u, c[j]? = some u → w.cell? (a.add (i * d.sz + j)) = some u := by
      intro i hi
      have h1 := hel i hi
      rw [List.getElem?_eq_getElem (by omega)] at h1
      obtain ⟨c, hc1, hc2⟩ := Option.bind_eq_some_iff.1 h1
      obtain ⟨_, hcl, hcc⟩ := World.cells?_some hc1
      obtain ⟨x, hx, hok⟩ := h H enc w base spare held n c _ (by omega) hc2
      have hlenc := d.K_len hx
      refine ⟨x, c, hx, hok, hlenc, fun j u hj => ?_⟩
      have hjl : j < P.cellsOf e := by rw [hc, ← hlenc]; exact (List.getElem?_eq_some_iff.1 hj).1
      have := hcc j hjl
      rw [Go.Deep.add_add, hc] at this
      rw [this, hj]
    have pick : ∀ n0, (∀ i, i < n0 → ∃ x c, d.K w x c ∧ Ok x ∧ c.length = d.sz ∧ ∀ j u, c[j]? = some u → w.cell? (a.add (i * d.sz + j)) = some u) → ∃ xs : List α, xs.length = n0 ∧ (∀ i x, xs[i]? = some x → ∃ c, c.length = d.sz ∧ d.K w x c ∧ ∀ j u, c[j]? = some u → w.cell? (a.add (i * d.sz + j)) = some u) ∧ ∀ x ∈ xs, Ok x := by
      intro n0
      induction n0 with
      | zero => exact fun _ => ⟨[], rfl, by simp, by simp⟩
      | succ n0 ih =>
        intro each
        obtain ⟨xs, hxl, hxe, hxo⟩ := ih (fun i hi => each i (by omega))
        obtain ⟨x, c, hx, hok, hcl, hcc⟩ := each n0 (by omega)
        refine ⟨xs ++ [x], by simp [hxl], fun i y hy => ?_, fun y hy => ?_⟩
        · by_cases hi : i < xs.length
          · rw [List.getElem?_append_left hi] at hy; exact hxe i y hy
          · have hlt := (List.getElem?_eq_some_iff.1 hy).1
            simp at hlt
            obtain rfl : i = n0 := by omega
            rw [List.getElem?_append_right (by omega)] at hy
            simp [hxl] at hy
            subst hy
            exact ⟨c, hcl, hx, hcc⟩
        · rcases List.mem_append.1 hy with h1 | h1
          · exact hxo y h1
          · simp at h1; subst h1; exact hok
    obtain ⟨xs, hxl, hxe, hxo⟩ := pick len each
    refine ⟨xs, ⟨some a, cap, by rw [hxl], by omega, rfl, ?_, fun _ => ⟨a, rfl, hxe⟩⟩, by omega, hxo⟩
    have : maxLen = 9223372036854775807 := rfl
    omega
theorem opens_slice (ht : P.underlying t = some (.slice e)) (hc : P.cellsOf e = d.sz) (h : Opens P e d Ok) : Opens P t (Kd.slice e d) (fun xs => xs.length ≤ maxLen ∧ ∀ x ∈ xs, Ok x) := fun m => opensB_slice ht hc (h m)
theorem opensB_iso (f : β → α) (g : α → β) (hg : ∀ a, f (g a) = a) (h : OpensB P t d Ok m) : OpensB P t (Kd.iso d f) (fun x => Ok (f x)) m := by
  intro H enc w base spare held fuel cs x hf hx
  obtain ⟨a, ha, hok⟩ := h H enc w base spare held fuel cs x hf hx
  exact ⟨g a, by show d.K w (f (g a)) cs; rw [hg]; exact ha, by show Ok (f (g a)); rw [hg]; exact hok⟩
/-- Some last fields of a struct, from cell 'off' on. -/
def OpensF {α : Type} (P : Program) (l : List Field) (off tot : Nat) (d : Kd α) (Ok : α → Prop) (m : Nat) : Prop :=
  ∀ (H : Type) (enc : TypeId × Value → H) (w : World) (base : Nat) (spare : Nat → Bool) (held : Bool) (fuel : Nat) (cs : List Value),
    fuel ≤ m → cs.length = tot → (∀ f ∈ l, ∃ y, DataW.trod enc P w base spare held fuel f.type ((cs.drop f.offset).take (P.cellsOf f.type)) = some y) → ∃ a, d.K w a (cs.drop off) ∧ Ok a
theorem opensF_one {f : Field} {off tot : Nat} (ho : f.offset = off) (hs : P.cellsOf f.type = d.sz) (htot : off + d.sz = tot) (h : OpensB P f.type d Ok m) : OpensF P [f] off tot d Ok m := by
  intro H enc w base spare held fuel cs hf hl hy
  obtain ⟨y, hy⟩ := hy f (by simp)
  rw [ho, hs, List.take_of_length_le (by simp; omega)] at hy
  exact h H enc w base spare held fuel _ y hf hy
theorem opensF_cons {f : Field} {l : List Field} {off tot : Nat} (ho : f.offset = off) (hs : P.cellsOf f.type = d.sz) (h : OpensB P f.type d Ok m) (h' : OpensF P l (off + d.sz) tot d' Ok' m) : OpensF P (f :: l) off tot (Kd.pair d d') (fun x => Ok x.1 ∧ Ok' x.2) m := by
  intro H enc w base spare held fuel cs hf hl hy
  obtain ⟨y, hy1⟩ := hy f (by simp)
  rw [ho, hs] at hy1
  obtain ⟨a, ha, hok⟩ := h H enc w base spare held fuel _ y hf hy1
  obtain ⟨b, hb, hok'⟩ := h' H enc w base spare held fuel cs hf hl (fun g hg => hy g (by simp [hg]))
  refine ⟨(a, b), ⟨(cs.drop off).take d.sz, cs.drop (off + d.sz), ?_, ha, hb⟩, hok, hok'⟩
  rw [← List.drop_drop, List.take_append_drop]
theorem opensB_struct {fs : Array Field} (ht : P.underlying t = some (.struct fs)) {l : List Field} (hl : fs.toList = l) {tot : Nat} (htot : P.cellsOf t = tot) (h : OpensF P l 0 tot d Ok m) : OpensB P t d Ok (m + 1) := by
  intro H enc w base spare held fuel cs x hf hx
  obtain ⟨xs, n, rfl, _, hcl, hxl, hfs⟩ := DataW.trod_struct ht hx
  obtain ⟨a, ha, hok⟩ := h H enc w base spare held n cs (by omega) (hcl.trans htot) (fun f hfm => by
    rw [← hl] at hfm
    obtain ⟨i, hi, he⟩ := List.getElem_of_mem hfm
    have h1 : fs[i]? = some f := by rw [← he]; simp at hi ⊢
    refine ⟨xs[i]'(by simp at hi; omega), (hfs i f h1).trans (List.getElem?_eq_getElem _)⟩)
  exact ⟨a, by simpa using ha, hok⟩
theorem opens_of {f : Nat → Nat} (h : ∀ m, OpensB P t d Ok (f m)) (hf : ∀ m, m ≤ f m) : Opens P t d Ok := fun m => (h m).less (hf m)
/-- What a law has of an argument. -/
theorem Opens.at_ (h : Opens P t d Ok) {H : Type} {enc : TypeId × Value → H} {w : World} {base : Nat} {spare : Nat → Bool} {held : Bool} {v : Value} {x : DataW H} {ps : List MemPlace} (ht : DataW.Trod enc P w base spare held t v x ps) : ∃ a, d.K w a v.cells.toList ∧ Ok a := by
  obtain ⟨fuel, hf⟩ := ht
  exact h fuel H enc w base spare held fuel _ _ (Nat.le_refl _) hf
theorem Opens.slice_ {d : Kd α} {Ok : List α → Prop} (h : Opens P t (Kd.slice e d) Ok) {H : Type} {enc : TypeId × Value → H} {w : World} {base : Nat} {spare : Nat → Bool} {held : Bool} {A : Option Addr} {n c : Nat} {x : DataW H} {ps : List MemPlace} (ht : DataW.Trod enc P w base spare held t (.slice A n c) x ps) :
    ∃ l : List α, n = l.length ∧ l.length ≤ c ∧ d.C w A l.length l ∧ Ok l := by
  obtain ⟨l, ⟨A', c', hv, hl, hC⟩, hok⟩ := h.at_ ht
  simp [Value.cells] at hv
  obtain ⟨rfl, rfl, rfl⟩ := hv
  exact ⟨l, rfl, hl, hC, hok⟩
end
end Go.Proofs.YtlpgnkndjmfcjaaGreat.Open
