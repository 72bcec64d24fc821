/- A range over a function whose own state lies in cells: its loop's law, over the kit's wpIn_rangeFunc. It holds of every program. Which parts of a plan the program's iterator comes to, in Lean, and steps inside a fence. The iterator's walk all$1$1 yields a plan's parts in order, if it does so for the plans under it. The iterator impl.all yields the parts of each plan in order, till it has come to too many or too deep. The program's sizeOk tells whether a plan is neither too deep nor too big. -/
import Derived.Test.YtlpgnkndjmfcjaaGreatPlBase
import Derived.RangeFuncNested
import Derived.RangeFuncCalls
import Derived.OwnWalkIn
import Derived.TacticsInMore
import Derived.RangeFuncBound
namespace Go.Proofs.YtlpgnkndjmfcjaaGreat.PFnPlanUses
open Go.RowKit Go.Proofs.YtlpgnkndjmfcjaaGreatW.PrintWords Go.Proofs.YtlpgnkndjmfcjaaGreatW.PrintLast Go.Proofs.YtlpgnkndjmfcjaaGreatW.PrintMore
attribute [local go_sem] max2_int min2_int max_two min_two max_three min_three max_four min_four   -- for this text's walks alone
set_option linter.unusedVariables false
set_option linter.unusedSimpArgs false
namespace Pl
/-! ### A range over a function whose iterator keeps its own state in cells -/
/-- What a round keeps: below block n all is as it was; of what lies from block M on nothing has turned. -/
structure Kp (n M : Nat) (A B : World) : Prop where
  bel : Below n A B
  own : ∀ k, M ≤ k → k < A.heap.size → B.heap[k]? = A.heap[k]?
theorem Kp.refl (n M : Nat) (A : World) : Kp n M A A := ⟨Below.refl _ _, fun _ _ _ => rfl⟩
theorem Kp.trans {n M : Nat} {A B C : World} (h : Kp n M A B) (k : Kp n M B C) : Kp n M A C :=
  ⟨h.bel.trans k.bel, fun i hM hi => (k.own i hM (Nat.lt_of_lt_of_le hi h.bel.size)).trans (h.own i hM hi)⟩
theorem Kp.of_below {n M : Nat} {A B : World} (h : Below A.heap.size A B) (hn : n ≤ A.heap.size) : Kp n M A B :=
  ⟨h.mono hn, fun k _ hk => h.block k hk⟩
theorem Kp.mono {n M M' : Nat} {A B : World} (h : Kp n M A B) (hM : M ≤ M') : Kp n M' A B :=
  ⟨h.bel, fun k hk => h.own k (Nat.le_trans hM hk)⟩
theorem below_putObj {n l : Nat} (W : World) (o : Obj) (hl : n ≤ l) : Below n W (W.putObj l o) :=
  ⟨rfl, rfl, rfl, by simp, fun k hk => World.putObj_heap_other (by omega)⟩
theorem Kp.putObj {n M l : Nat} (W : World) (o : Obj) (hl : n ≤ l) (hM : l < M) : Kp n M W (W.putObj l o) :=
  ⟨below_putObj W o hl, fun k hk _ => World.putObj_heap_other (by omega)⟩
/-- A store into a block that lies below M and at or beyond n. -/
theorem Kp.grown {n M g : Nat} {A B : World} (h : A.grownBy B (some g)) (hn : n ≤ g) (hA : n ≤ A.heap.size) (hM : g < M) : Kp n M A B :=
  ⟨⟨h.os, h.tape, h.output, h.size, fun k hk => h.block k (by omega) (by simp; omega)⟩, fun k hk hlt => h.block k hlt (by simp; omega)⟩
/-- The iterator's contract: it hands V's elements to yield, one by one, till a round says 'no more'; what it writes lies beyond what lay where it began. -/
def GivesAll {α : Type} (P : Program) (gf : Nat) (lb : Array Value) (E : α → Array Value → Prop) (V : List α) (n₀ : Nat) (w : World) : Prop :=
  ∀ (l : Nat) (J Jx : List α → World → Prop) (W : World), Below w.heap.size w W →
    (∀ s A B, J s A → Below W.heap.size A B → J s B) → (∀ s A B, Jx s A → Below W.heap.size A B → Jx s B) →
    (∀ pre x vs W1, J pre W1 → E x vs → pre ++ [x] <+: V → YieldAt Fence.wide 0 P l vs W1 fun e W' =>
      (e = .returned (.bool true) ∧ J (pre ++ [x]) W' ∧ Kp n₀ W.heap.size W1 W') ∨ (e = .returned (.bool false) ∧ Jx (pre ++ [x]) W')) →
    J [] W →
    CallsIn Fence.wide 0 P gf (#[.func (.yield l) #[] #[]] ++ lb) W fun e W' => (∃ v, e = .returned v) ∧ (J V W' ∨ ∃ pre, pre <+: V ∧ Jx pre W')
/-- How the body of a round may be left. -/
def rPost {α : Type} (n M : Nat) (I : List α → World → Prop) (Ix : Code → List α → World → Prop) (xs : List α) (W : World) : Exit → Act → World → Prop
  | .normal, _, W' => Kp n M W W' ∧ I xs W'
  | .ret, _, W' => Kp n M W W' ∧ Ix .ret xs W'
  | .exit id, _, W' => Kp n M W W' ∧ Ix (.exit id) xs W'
  | .goto t, _, W' => Kp n M W W' ∧ Ix (.goto t) xs W'
  | .panic _, _, _ => False
  | .outgrown, _, _ => False
theorem wpIn_rangeAll {α : Type} {P : Program} {E : α → Array Value → Prop} {g : Operand} {ps : Array Tmp} {assign body : Code} {Q : Exit → Act → World → Prop} {a : Act} {w : World} {gf : Nat} {lb : Array Value} {V : List α} {n₀ : Nat}
    (hg : a.eval g = .func (.func gf) #[] lb) (eg : ∀ args w, (callFunc gf args).run P w = .ok (.enter gf args) w)
    (hseq : GivesAll P gf lb E V n₀ w) (hn : n₀ ≤ w.heap.size) (hps : ∀ x vs, E x vs → vs.size = ps.size)
    (I : List α → World → Prop) (Ix : Code → List α → World → Prop) (hI : ∀ s A B, I s A → Below w.heap.size A B → I s B) (hIx : ∀ c s A B, Ix c s A → Below w.heap.size A B → Ix c s B) (h0 : I [] w)
    (hround : ∀ (l : Nat) (pre : List α) (x : α) (vs : Array Value) (W : World), w.heap.size ≤ W.heap.size → I pre W → E x vs → pre ++ [x] <+: V →
      assign.wpIn (Fence.wide.inRound l) 0 P (Exit.then (fun a₁ W1 => Kp n₀ w.heap.size W W1 ∧ I pre W1 ∧
        ∀ W2, I pre W2 → Below w.heap.size W1 W2 → W2.heap.size = W1.heap.size → (∀ (k : Nat) (o : Obj), W1.heap[k]? = some o → o.isCells = true → W2.heap[k]? = some o) →
          body.wpIn (Fence.wide.inRound l) 0 P (rPost n₀ w.heap.size I Ix (pre ++ [x]) W2) a₁ W2) (fun _ _ _ => False))
        { tmps := (ps.zip vs).foldl (fun t (p, v) => t.setIfInBounds p v) a.tmps, defers := [] } W)
    (hdone : ∀ (D : Nat) (W : World), w.heap.size ≤ D → I V W → W.heap[D]? = some (.deferred (some [])) → Q .normal { a with defers := { target := .collected D, args := #[] } :: a.defers } W)
    (hstop : ∀ (D : Nat) (c : Code) (pre : List α) (W : World), w.heap.size ≤ D → pre <+: V → Ix c pre W → W.heap[D]? = some (.deferred (some [])) → c.wpIn Fence.wide 0 P Q { a with defers := { target := .collected D, args := #[] } :: a.defers } W) :
    (Code.rangeFunc g ps assign body).wpIn Fence.wide 0 P Q a w := by
  refine wpIn_rangeFunc ?_
  intro fn hfn
  obtain ⟨rec, hrec⟩ : ∃ rec : LoopState → Option Code → Loop, rec = fun st pe => { state := st, pending := pe, fn, tmps := a.tmps, params := ps, assign, body, defers := w.heap.size } := ⟨_, rfl⟩
  obtain ⟨W1, hW1⟩ : ∃ W1, (w.alloc (.deferred (some []))).alloc (.loop (rec .ready none)) = W1 := ⟨_, rfl⟩
  have hs1 : W1.heap.size = w.heap.size + 2 := by rw [← hW1]; simp
  have hL1 : W1.heap[w.heap.size + 1]? = some (.loop (rec .ready none)) := by
    rw [← hW1]; have := World.alloc_heap_new (w.alloc (.deferred (some []))) (.loop (rec .ready none)); rwa [World.size_alloc] at this
  have hK1 : W1.heap[w.heap.size]? = some (.deferred (some [])) := by
    rw [← hW1]; exact (Below.heap_alloc _ _ _ (by simp)).trans (World.alloc_heap_new w _)
  have hb1 : Below w.heap.size w W1 := by
    rw [← hW1]; exact ((Below.refl _ w).alloc (Nat.le_refl _) _).alloc (by simp) _
  refine ⟨w.heap.size + 1, [{ target := .collected w.heap.size, args := #[] }], W1, { target := .fn (.func gf) lb, args := #[.func (.yield (w.heap.size + 1)) #[] #[]] }, W1, gf,
    #[.func (.yield (w.heap.size + 1)) #[] #[]] ++ lb, W1, ?_, ?_, ?_, ?_, fun h => by simp [Fence.wide] at h, ?_⟩
  · rw [← hW1, hrec]; exact run_enterLoop_outer _ _ _ _ _
  · simp only [resolve, hg]
    simp [go_sem]
  · intro f' hf'; trivial
  · simp [invoke, go_sem, eg]
  · have bl : ∀ {A B : World} {k : Nat} {o : Obj}, Below W1.heap.size A B → k < W1.heap.size → A.heap[k]? = some o → B.heap[k]? = some o := fun h hk ho => (h.block _ hk).trans ho
    refine (hseq (w.heap.size + 1)
      (fun pre W => I pre W ∧ w.heap.size ≤ W.heap.size ∧ W.heap[w.heap.size + 1]? = some (.loop (rec .ready none)) ∧ W.heap[w.heap.size]? = some (.deferred (some [])))
      (fun pre W => ∃ c, Ix c pre W ∧ W.heap[w.heap.size + 1]? = some (.loop (rec .done (some c))) ∧ W.heap[w.heap.size]? = some (.deferred (some [])))
      W1 hb1
      (fun s A B hs hg' => ⟨hI s A B hs.1 (hg'.mono (by omega)), Nat.le_trans hs.2.1 hg'.size, bl hg' (by omega) hs.2.2.1, bl hg' (by omega) hs.2.2.2⟩)
      (fun s A B hs hg' => by
        obtain ⟨c, hc, hl, hk⟩ := hs
        exact ⟨c, hIx c s A B hc (hg'.mono (by omega)), bl hg' (by omega) hl, bl hg' (by omega) hk⟩)
      ?_ ⟨hI _ _ _ h0 hb1, hb1.size, hL1, hK1⟩).mono ?_
    · -- one round
      rintro pre x vs W ⟨hi, hsz, hl, hk⟩ hE hpre
      have hy := run_yield (P := P) (args := vs) hl (by rw [hrec]; exact hps x vs hE)
      rw [hrec] at hy
      refine ⟨fn, _, assign, body, hy, roundIn_of_wpIn hfn ?_⟩
      refine wpIn_mono (hround (w.heap.size + 1) pre x vs W hsz hi hE hpre) ?_
      intro e a₁ W2 hp
      cases e with
      | normal =>
        obtain ⟨hkp, hi2, hbody⟩ := hp
        have hl2 : W2.heap[w.heap.size + 1]? = some (.loop (rec .ready none)) := (hkp.own _ (by omega) (Array.getElem?_eq_some_iff.1 hl).1).trans hl
        have hk2 : W2.heap[w.heap.size]? = some (.deferred (some [])) := (hkp.own _ (by omega) (Array.getElem?_eq_some_iff.1 hk).1).trans hk
        have hlt : w.heap.size + 1 < W2.heap.size := (Array.getElem?_eq_some_iff.1 hl2).1
        refine ⟨_, run_beginRound hl2 (by rw [hrec]), ?_⟩
        have hl3 : (W2.putObj (w.heap.size + 1) (.loop { rec .ready none with state := .busy })).heap[w.heap.size + 1]? = some (.loop { rec .ready none with state := .busy }) := World.putObj_heap_same hlt
        have hk3 : (W2.putObj (w.heap.size + 1) (.loop { rec .ready none with state := .busy })).heap[w.heap.size]? = some (.deferred (some [])) := (World.putObj_heap_other (by omega)).trans hk2
        have hB3 : Below w.heap.size W2 (W2.putObj (w.heap.size + 1) (.loop { rec .ready none with state := .busy })) := below_putObj _ _ (by omega)
        refine wpIn_mono (hbody _ (hI _ _ _ hi2 hB3) hB3 (by simp) (fun k o ho hc => ?_)) ?_
        · by_cases e : k = w.heap.size + 1
          · subst e; rw [hl2] at ho; cases ho; cases hc
          · exact (World.putObj_heap_other e).trans ho
        have hkq : Kp n₀ W1.heap.size W (W2.putObj (w.heap.size + 1) (.loop { rec .ready none with state := .busy })) :=
          (hkp.mono (by omega)).trans (Kp.putObj _ _ (by omega) (by omega))
        have fin : ∀ (jump : Option Code) (W3 : World), Kp n₀ w.heap.size (W2.putObj (w.heap.size + 1) (.loop { rec .ready none with state := .busy })) W3 →
            (Instr.endRound (w.heap.size + 1) jump).run P W3 = .ok (.bool jump.isNone) (W3.putObj (w.heap.size + 1) (.loop (rec (if jump.isNone then .ready else .done) jump))) ∧
            (W3.putObj (w.heap.size + 1) (.loop (rec (if jump.isNone then .ready else .done) jump))).heap[w.heap.size + 1]? = some (.loop (rec (if jump.isNone then .ready else .done) jump)) ∧
            (W3.putObj (w.heap.size + 1) (.loop (rec (if jump.isNone then .ready else .done) jump))).heap[w.heap.size]? = some (.deferred (some [])) ∧
            w.heap.size ≤ W3.heap.size ∧ Below w.heap.size W3 (W3.putObj (w.heap.size + 1) (.loop (rec (if jump.isNone then .ready else .done) jump))) ∧
            Kp n₀ W1.heap.size W (W3.putObj (w.heap.size + 1) (.loop (rec (if jump.isNone then .ready else .done) jump))) := fun jump W3 hk4 => by
          have hl4 := (hk4.own _ (by omega) (Array.getElem?_eq_some_iff.1 hl3).1).trans hl3
          have hr := run_endRound (P := P) jump hl4
          rw [hrec] at hr ⊢
          have hlt4 := (Array.getElem?_eq_some_iff.1 hl4).1
          exact ⟨hr, World.putObj_heap_same hlt4, (World.putObj_heap_other (by omega)).trans ((hk4.own _ (Nat.le_refl _) (Array.getElem?_eq_some_iff.1 hk3).1).trans hk3), by omega,
            below_putObj _ _ (by omega), by rw [hrec] at hkq hk4; exact (hkq.trans (hk4.mono (by omega))).trans (Kp.putObj _ _ (by omega) (by omega))⟩
        rintro e a3 W3 hp
        cases e with
        | normal =>
          obtain ⟨hk4, hi4⟩ := hp
          obtain ⟨hr, hl5, hk5, hs5, hb5, hq5⟩ := fin none W3 hk4
          exact ⟨_, _, hr, .inl ⟨rfl, ⟨hI _ _ _ hi4 hb5, by simpa using hs5, hl5, hk5⟩, hq5⟩⟩
        | ret =>
          obtain ⟨hk4, hi4⟩ := hp
          obtain ⟨hr, hl5, hk5, hs5, hb5, hq5⟩ := fin (some .ret) W3 hk4
          exact ⟨_, _, hr, .inr ⟨rfl, .ret, hIx _ _ _ _ hi4 hb5, hl5, hk5⟩⟩
        | exit id =>
          obtain ⟨hk4, hi4⟩ := hp
          obtain ⟨hr, hl5, hk5, hs5, hb5, hq5⟩ := fin (some (.exit id)) W3 hk4
          exact ⟨_, _, hr, .inr ⟨rfl, .exit id, hIx _ _ _ _ hi4 hb5, hl5, hk5⟩⟩
        | goto t =>
          obtain ⟨hk4, hi4⟩ := hp
          obtain ⟨hr, hl5, hk5, hs5, hb5, hq5⟩ := fin (some (.goto t)) W3 hk4
          exact ⟨_, _, hr, .inr ⟨rfl, .goto t, hIx _ _ _ _ hi4 hb5, hl5, hk5⟩⟩
        | panic ch => exact hp.elim
        | outgrown => exact hp.elim
      | ret => exact hp.elim
      | exit id => exact hp.elim
      | goto t => exact hp.elim
      | panic ch => exact hp.elim
      | outgrown => exact hp.elim
    · -- behind the iterator
      rintro e W2 ⟨⟨v, rfl⟩, (⟨hi, hsz, hl, hk⟩ | ⟨pre, hpre, c, hi, hl, hk⟩)⟩
      · exact ⟨none, _, by have := run_endLoop (P := P) hl (by rw [hrec]; simp); rw [hrec] at this; exact this, hdone _ _ (Nat.le_refl _) (hI _ _ _ hi (below_putObj _ _ (by omega))) ((World.putObj_heap_other (by omega)).trans hk)⟩
      · exact ⟨some c, _, by have := run_endLoop (P := P) hl (by rw [hrec]; simp); rw [hrec] at this; exact this, hstop _ c pre _ (Nat.le_refl _) hpre (hIx _ _ _ _ hi (below_putObj _ _ (by omega))) ((World.putObj_heap_other (by omega)).trans hk)⟩
end Pl
namespace Pl
/-! ### Which parts of a plan the iterator comes to -/
abbrev Vis := Int × S39
mutual
/-- A plan's parts from so deep on, so many having come ahead of it: those that are come to, and whether it goes on behind them. -/
def goV : S39 → Nat → Nat → List Vis × Bool
  | ⟨a, b, t, cells, c, d, keys, e, f, ks⟩, deep, n =>
    if n + 1 > 10 ∨ deep ≥ 6 then ([((deep : Int), ⟨a, b, t, cells, c, d, keys, e, f, ks⟩)], false)
    else (((deep : Int), ⟨a, b, t, cells, c, d, keys, e, f, ks⟩) :: (goVs ks (deep + 1) (n + 1)).1, (goVs ks (deep + 1) (n + 1)).2)
def goVs : List S39 → Nat → Nat → List Vis × Bool
  | [], _, _ => ([], true)
  | k :: ks, deep, n =>
    if (goV k deep n).2 = true then ((goV k deep n).1 ++ (goVs ks deep (n + (goV k deep n).1.length)).1, (goVs ks deep (n + (goV k deep n).1.length)).2)
    else ((goV k deep n).1, false)
end
theorem goV_eq (x : S39) (deep n : Nat) : goV x deep n = if n + 1 > 10 ∨ deep ≥ 6 then ([((deep : Int), x)], false) else (((deep : Int), x) :: (goVs x.f9 (deep + 1) (n + 1)).1, (goVs x.f9 (deep + 1) (n + 1)).2) := by
  cases x; rfl
theorem goV_stop {x : S39} {deep n : Nat} (h : n + 1 > 10 ∨ deep ≥ 6) : goV x deep n = ([((deep : Int), x)], false) := by rw [goV_eq, if_pos h]
theorem goV_go {x : S39} {deep n : Nat} (h : ¬ (n + 1 > 10 ∨ deep ≥ 6)) : goV x deep n = (((deep : Int), x) :: (goVs x.f9 (deep + 1) (n + 1)).1, (goVs x.f9 (deep + 1) (n + 1)).2) := by rw [goV_eq, if_neg h]
theorem goVs_true {k : S39} {ks : List S39} {deep n : Nat} (h : (goV k deep n).2 = true) : goVs (k :: ks) deep n = ((goV k deep n).1 ++ (goVs ks deep (n + (goV k deep n).1.length)).1, (goVs ks deep (n + (goV k deep n).1.length)).2) := by
  rw [goVs, if_pos h]
theorem goVs_false {k : S39} {ks : List S39} {deep n : Nat} (h : (goV k deep n).2 = false) : goVs (k :: ks) deep n = ((goV k deep n).1, false) := by
  rw [goVs, if_neg (by rw [h]; simp)]
theorem goV_pos (x : S39) (deep n : Nat) : 1 ≤ (goV x deep n).1.length := by
  rw [goV_eq]; split <;> simp
/-- Where it goes on no more than ten have come. -/
theorem goV_le : ∀ (m : Nat) (x : S39), sz39 x ≤ m → ∀ deep n, (goV x deep n).2 = true → n + (goV x deep n).1.length ≤ 10 := by
  intro m
  induction m with
  | zero => intro x h; have := sz39_kids x; omega
  | succ m ih =>
    intro x hm deep n h
    have hk := sz39_kids x
    have go : ∀ (ks : List S39), szs39 ks ≤ m → ∀ deep n, n ≤ 10 → (goVs ks deep n).2 = true → n + (goVs ks deep n).1.length ≤ 10 := by
      intro ks
      induction ks with
      | nil => intro _ deep n hn _; simpa [goVs] using hn
      | cons k ks ihk =>
        intro hs deep n hn h
        simp only [szs39] at hs
        by_cases hc : (goV k deep n).2 = true
        · rw [goVs_true hc] at h ⊢
          have h1 := ih k (by omega) deep n hc
          have h2 := ihk (by omega) deep (n + (goV k deep n).1.length) h1 h
          simp only [List.length_append]; omega
        · rw [goVs_false (by simpa using hc)] at h; cases h
    by_cases hc : n + 1 > 10 ∨ deep ≥ 6
    · rw [goV_stop hc] at h; cases h
    · rw [goV_go hc] at h ⊢
      have := go x.f9 (by omega) (deep + 1) (n + 1) (by omega) h
      simp only [List.length_cons]; omega
/-- What one part more adds. -/
theorem goVs_drop {ks : List S39} {i : Nat} (h : i < ks.length) (deep n : Nat) : goVs (ks.drop i) deep n = if (goV ks[i] deep n).2 = true then ((goV ks[i] deep n).1 ++ (goVs (ks.drop (i + 1)) deep (n + (goV ks[i] deep n).1.length)).1, (goVs (ks.drop (i + 1)) deep (n + (goV ks[i] deep n).1.length)).2) else ((goV ks[i] deep n).1, false) := by
  rw [List.drop_eq_getElem_cons h, goVs]
theorem goVs_end {ks : List S39} {i : Nat} (h : ks.length ≤ i) (deep n : Nat) : goVs (ks.drop i) deep n = ([], true) := by
  rw [List.drop_eq_nil_of_le h, goVs]
/-! ### Steps in a fence -/
section
variable {F : Fence} {n : Nat} {P : Program} {ops : Array Oper} {rest : List Oper} {o : Oper} {a : Act} {Q : Exit → Act → World → Prop}
theorem eventIn {W w1 : World} {v : Value} (hg : o.guard = none) (ha : o.about P W a.eval = none) (hnd : ∀ c, o.op ≠ .defer c) (hrun : (execOp a.eval o).run P W = .ok (.value v) w1) (h : wpListIn F n P ops Q rest (a.put o.dst v) w1) : wpListIn F n P ops Q (o :: rest) a W := by
  refine wpListIn_plain hg fun K hK => ?_
  refine ⟨fun f hf => (by rw [ha] at hf; cases hf), ?_⟩
  rw [Oper.semAt_plain F _ _ hnd, hrun]
  exact hK _ _ h
theorem gateIn {N : Tmp} (_hN : o.dst = some N) {W : World} (h : wpListIn F n P ops Q (o :: rest) a W) : wpListIn F n P ops Q (o :: rest) a W := h
theorem gateInOp {op : Op} (_ho : o.op = op) {W : World} (h : wpListIn F n P ops Q (o :: rest) a W) : wpListIn F n P ops Q (o :: rest) a W := h
/-- A struct is loaded whole. -/
theorem loadIn_ {W : World} (ty : TypeId) (x : Operand) (ho : o.op = .load ty x) (hgd : o.guard = none) (ad : Addr) (hx : a.eval x = .pointer (some ad)) (cs : List Value) (fs : Array Field) (hu : P.underlying ty = some (.struct fs)) (hi : (P.info? ty).map (·.size) = some cs.length)
    (hc : ∀ j v, cs[j]? = some v → W.cell? (ad.add j) = some v) (h : wpListIn F n P ops Q rest (a.put o.dst (.agg cs.toArray)) W) : wpListIn F n P ops Q (o :: rest) a W := by
  have hl : (loadCells ad cs.length).run P W = .ok cs.toArray W := run_loadCells_list (P := P) W ad cs hc
  have hr : (loadVar ty ad).run P W = .ok (.agg cs.toArray) W := by
    cases hq : P.info? ty with
    | none => simp [hq] at hi
    | some i =>
      have hs : i.size = cs.length := by simpa [hq] using hi
      have hagg : (isAgg ty).run P W = .ok true W := by
        unfold isAgg
        rw [Sem.run_bind, run_underlying hu W]
        simp
      simp [loadVar, Sem.run_bind, hagg, sizeOf, typeInfo, hq, hs, hl]
  refine eventIn hgd (by simp [Oper.about, ho]) (by rw [ho]; intro c e; cases e) ?_ h
  unfold execOp
  simp only [ho, hx, Instr.loadAt, Instr.sureAddr, Sem.run_bind, Sem.run_pure, Result.andThen_ok, hr]
end
end Pl
section
attribute [local go_sem] Oper.semAt_some
namespace Pl
section
variable {P : Program} {Q : Exit → Act → World → Prop} {a : Act} {W : World}
theorem gateRegion {id : Nat} {ops : Array Oper} {d : Bool} (h : (Code.region id ops d).wp P Q a W) : (Code.region id ops d).wp P Q a W := h
end
/-- The iterator's three boxes: the round's function, how many have come, the walk itself. -/
structure StW (w0 : World) (l by_ bm bw : Nat) (n : Nat) (W : World) : Prop where
  hy : W.heap[by_]? = some (.cells #[.func (.yield l) #[] #[]] 73 (0, 0))
  hm : W.heap[bm]? = some (.cells #[.int .i64 n] 3 (0, 0))
  hw : W.heap[bw]? = some (.cells #[.func (.func 42) #[] #[.pointer (some ⟨bm, 0, none⟩), .pointer (some ⟨by_, 0, none⟩), .pointer (some ⟨bw, 0, none⟩)]] 43 (0, 0))
  bel : Below w0.heap.size w0 W
theorem StW.call {w0 : World} {l by_ bm bw n : Nat} {W W1 : World} (h : StW w0 l by_ bm bw n W) (hb : Below W.heap.size W W1) : StW w0 l by_ bm bw n W1 :=
  ⟨(hb.block _ (blk_lt h.hy)).trans h.hy, (hb.block _ (blk_lt h.hm)).trans h.hm, (hb.block _ (blk_lt h.hw)).trans h.hw, below_step h.bel hb⟩
theorem StW.kept {w0 : World} {l by_ bm bw n M : Nat} {W W1 : World} (h : StW w0 l by_ bm bw n W) (hk : Kp w0.heap.size M W W1) (h1 : M ≤ by_) (h2 : M ≤ bm) (h3 : M ≤ bw) : StW w0 l by_ bm bw n W1 :=
  ⟨(hk.own _ h1 (blk_lt h.hy)).trans h.hy, (hk.own _ h2 (blk_lt h.hm)).trans h.hm, (hk.own _ h3 (blk_lt h.hw)).trans h.hw, h.bel.trans hk.bel⟩
theorem StW.set {w0 : World} {l by_ bm bw n m : Nat} {W W1 : World} (h : StW w0 l by_ bm bw n W) (hg : W.grownBy W1 (some bm)) (hb : W1.heap[bm]? = some (.cells #[.int .i64 m] 3 (0, 0))) (h1 : by_ ≠ bm) (h3 : bw ≠ bm) (h2 : w0.heap.size ≤ bm) : StW w0 l by_ bm bw m W1 :=
  ⟨(hg.block _ (blk_lt h.hy) (by simpa using h1)).trans h.hy, hb, (hg.block _ (blk_lt h.hw) (by simpa using h3)).trans h.hw, h.bel.grown hg h.bel.size (fun k e => by cases e; exact h2)⟩
/-- What the walk of a part ends in. -/
def WkR (w0 : World) (l by_ bm bw : Nat) (V : List Vis) (J Jx : List Vis → World → Prop) (pre : List Vis) (r : List Vis × Bool) (e : Ending) (W' : World) : Prop :=
  ∃ b, e = .returned (.bool b) ∧ ((b = r.2 ∧ J (pre ++ r.1) W' ∧ StW w0 l by_ bm bw (pre.length + r.1.length) W') ∨ (b = false ∧ ∃ q, q <+: V ∧ Jx q W'))
def WkP (w0 : World) (l by_ bm bw : Nat) (V : List Vis) (J Jx : List Vis → World → Prop) (N : Nat) : Prop :=
  ∀ (x : S39) (cs : List Value) (deep : Nat) (pre : List Vis) (W : World), sz39 x ≤ N → k39.K w0 x cs → deep ≤ 6 → pre.length ≤ 10 → pre ++ (goV x deep pre.length).1 <+: V → J pre W → StW w0 l by_ bm bw pre.length W →
    Calls Tryz.prog 42 #[.agg cs.toArray, .int .i64 deep, .pointer (some ⟨bm, 0, none⟩), .pointer (some ⟨by_, 0, none⟩), .pointer (some ⟨bw, 0, none⟩)] W (WkR w0 l by_ bm bw V J Jx pre (goV x deep pre.length))
set_option maxHeartbeats 4000000 in
set_option maxRecDepth 100000 in
theorem walk_step (w0 : World) (M l by_ bm bw : Nat) (V : List Vis) (J Jx : List Vis → World → Prop) (hM : w0.heap.size ≤ M) (h1 : M ≤ by_) (h2 : by_ < bm) (h3 : bm < bw)
    (hJ : ∀ s A B, J s A → Below M A B → J s B) (hJx : ∀ s A B, Jx s A → Below M A B → Jx s B)
    (hY : ∀ (pre : List Vis) (x : Vis) (cs : List Value) (W1 : World), J pre W1 → k39.K w0 x.2 cs → pre ++ [x] <+: V → YieldAt Fence.wide 0 Tryz.prog l #[.int .i64 x.1, .agg cs.toArray] W1 fun e W' =>
      (e = .returned (.bool true) ∧ J (pre ++ [x]) W' ∧ Kp w0.heap.size M W1 W') ∨ (e = .returned (.bool false) ∧ Jx (pre ++ [x]) W'))
    (N : Nat) (ih : ∀ m, m ≤ N → WkP w0 l by_ bm bw V J Jx m) : WkP w0 l by_ bm bw V J Jx (N + 1) := by
  intro x cs deep pre W hn hK hd hp hpre hJ0 hSt
  have LC := Aside0.mk (show cs.length = 19 from k39.K_len hK)
  have OC := Aside0.mk (show ∀ q ∈ cs, q.oneCell' = true from k39.K_one hK)
  obtain ⟨n, hn0⟩ : ∃ n, n = pre.length := ⟨_, rfl⟩
  have ST := Aside0.mk hSt
  rw [← hn0] at ST
  have HN0 := Aside0.mk hn0
  have J0 := Aside0.mk hJ0
  have qm : W.cell? ⟨bm, 0, none⟩ = some (.int .i64 n) := by rw [blk_cell ST.out.hm]; rfl
  have hJ' := Aside0.mk hJ
  have HJx := Aside0.mk hJx
  have hY' := Aside0.mk hY
  have hx1 : pre ++ [((deep : Int), x)] <+: V := by
    refine List.IsPrefix.trans ?_ hpre
    by_cases hc : pre.length + 1 > 10 ∨ deep ≥ 6
    · rw [goV_stop hc]; exact List.prefix_refl _
    · rw [goV_go hc]; exact ⟨_, by simp; rfl⟩
  have HX := Aside0.mk hx1
  have WN := Aside0.mk (show wrap64 ((n : Int) + 1) = (n : Int) + 1 by unfold wrap64; omega)
  clear hn0
  have PB := Aside0.mk (show w0.heap.size ≤ W.heap.size from hSt.bel.size)
  have H1 := Aside0.mk h1
  have WM := Aside0.mk (Nat.le_trans h1 (Nat.le_of_lt (blk_lt hSt.hy)))
  have NM := Aside0.mk (blk_lt hSt.hm)
  have D1 := Aside0.mk (show by_ ≠ bm by omega)
  have D2 := Aside0.mk (show bw ≠ bm by omega)
  have D3 := Aside0.mk (show w0.heap.size ≤ bm by omega)
  have D5 := Aside0.mk (show M ≤ bm by omega)
  obtain ⟨A12, c12, A15, c15, A18, c18, hcs, l12, g12, l15, g15, l18, g18⟩ := k39_open hK
  have E18 := Aside0.mk (show cs[18]? = some (.slice A18 x.f9.length c18) by rw [hcs]; rfl)
  have G18 := Aside0.mk g18
  have L18 := Aside0.mk l18
  have HK := Aside0.mk hK
  have HP := Aside0.mk hpre
  have IH := Aside0.mk ih
  have HN := Aside0.mk (show szs39 x.f9 ≤ N by have := sz39_kids x; omega)
  clear hJ hY hSt hJ0 hx1 hJx hcs l12 g12 l15 g15 l18 g18 ih hpre hn
  go_enter Tryz.func42, Tryz.ntmps42
  go_wp2_with (first
    | ((with_reducible refine gate_dst (N := 5) rfl ?_); refine box_ 39 (.tmp 0) rfl rfl cs.toArray rfl ?_; intro g hg w1 hbx hB; have X1 := Aside0.mk hbx; have S1 := Aside0.mk (ST.out.call hB); have J1 := Aside0.mk (hJ'.out _ _ _ J0.out (hB.mono WM.out)); have qm1 := zhs hB qm; have G1 := Aside0.mk (show g ≠ bm by have := NM.out; omega); have GM := Aside0.mk (show M ≤ g by rw [hg]; exact WM.out); clear hbx hB qm hg)
    | ((with_reducible refine gate_ (.store 3 (.tmp 2) (.tmp 11)) rfl ?_); refine store_ 3 (.tmp 2) (.tmp 11) rfl rfl rfl bm 0 ?hp (.int .i64 (wrap64 ((n : Int) + 1))) ?hx2 [.int .i64 (wrap64 ((n : Int) + 1))] rfl ?ht (by simp [Value.oneCell']) [.int .i64 n] _ S1.out.hm (by simp) ?_; (case hp => first | rfl | (go_simp; done) | (go_simp; rfl)); (case hx2 => first | rfl | (go_simp; done) | (go_simp; rfl)); (case ht => kernel_rfl); intro w2 hb2 hg2; rw [WN.out] at hb2; have S2 := Aside0.mk (S1.out.set (m := n + 1) hg2 hb2 D1.out D2.out D3.out); have J2 := Aside0.mk (hJ'.out _ _ _ J1.out ((Below.refl M w1).grown hg2 (Nat.le_trans H1.out (Nat.le_of_lt (blk_lt S1.out.hy))) (fun k e => by cases e; exact D5.out))); have X2 := Aside0.mk ((hg2.block g (blk_lt X1.out) (by intro e; injection e with e; exact G1.out e)).trans X1.out); clear hb2 hg2 qm1 S1 J1 X1; refine Hid.out ?_))
  refine Lib.hid ?_
  iterate 5 go_step
  have qy : w2.cell? ⟨by_, 0, none⟩ = some (.func (.yield l) #[] #[]) := by rw [blk_cell S2.out.hy]; rfl
  obtain ⟨fn, tm, as_, bo, hy, hR⟩ := hY'.out pre ((deep : Int), x) cs w2 J2.out hK HX.out
  have HR := Aside0.mk (hR.mono (R' := fun e W' => (e = .returned (.bool true) ∧ J (pre ++ [((deep : Int), x)]) W' ∧ StW w0 l by_ bm bw (n + 1) W' ∧ W'.cell? ⟨bm, 0, none⟩ = some (.int .i64 ((n : Int) + 1)) ∧ W'.heap[g]? = some (.cells cs.toArray 39 (0, 0))) ∨ (e = .returned (.bool false) ∧ Jx (pre ++ [((deep : Int), x)]) W')) (fun e W' h => h.elim (fun h => by
    obtain ⟨he, hj, hk⟩ := h
    have hS := S2.out.kept hk H1.out (by have := H1.out; omega) (by have := H1.out; omega)
    exact .inl ⟨he, hj, hS, by rw [blk_cell hS.hm]; rfl, (hk.own g GM.out (blk_lt X2.out)).trans X2.out⟩) .inr))
  clear hR
  refine (wpIn_wide (n := 0)).1 ?_
  gi_wp2_with (first
    | ((with_reducible refine gateIn (N := 14) rfl ?_); refine loadIn_ 39 (.tmp 5) rfl rfl ⟨g, 0, none⟩ ?hx cs _ Tryz.underlying39 ?hi (sub_ X2.out [] cs [] (by simp)) ?_; (case hx => first | rfl | (go_simp; done) | (go_simp; rfl)); (case hi => rw [LC.out]; kernel_rfl))
    | ((with_reducible refine And.intro (a := Fence.wide.depth = none) rfl ?_); refine HR.out.mono ?_; rintro e w3 (⟨rfl, hj3, hs3, qm3, x3⟩ | ⟨rfl, hx3⟩)))
  · have q18 := (blk_cell x3 18).trans (by simpa using E18.out)
    have HJ3 := Aside0.mk hj3
    have HS3 := Aside0.mk hs3
    clear hj3 hs3 x3 qm3 hK HR qy hy
    go_wp2
    · go_ret
      have e1 : goV x deep pre.length = ([((deep : Int), x)], false) := goV_stop (by have := HN0.out; omega)
      rw [e1]
      exact ⟨false, rfl, .inl ⟨rfl, HJ3.out, by rw [← HN0.out]; exact HS3.out⟩⟩
    go_loopw [28] (fun v28 wr => ∃ (i : Nat) (acc : List Vis), v28 = .int .i64 i ∧ i ≤ x.f9.length ∧ i ≤ acc.length ∧ n + 1 + acc.length ≤ 10 ∧ Aside0 (J (pre ++ (((deep : Int), x) :: acc)) wr) ∧ Aside0 (StW w0 l by_ bm bw (n + 1 + acc.length) wr) ∧
      Aside0 (goVs x.f9 (deep + 1) (n + 1) = (acc ++ (goVs (x.f9.drop i) (deep + 1) (n + 1 + acc.length)).1, (goVs (x.f9.drop i) (deep + 1) (n + 1 + acc.length)).2))) (fun v28 _ => x.f9.length - (intOf v28).toNat)
    case atStart => exact ⟨0, [], rfl, Nat.zero_le _, Nat.zero_le _, by simp; omega, HJ3, HS3, ⟨rfl⟩⟩
    case round =>
      obtain ⟨i, acc, rfl, hi, hia, hacc, HJ4, HS4, HG⟩ := hrel
      by_cases hlt : i < x.f9.length
      · obtain ⟨ad, c0, e18, hcl, hK0, hcell⟩ := elem_ G18.out i hlt
        obtain rfl := e18
        have hsz := szs39_get hlt
        have LD := Aside0.mk (show c0.length = 19 from hcl)
        have OD := Aside0.mk (show ∀ q ∈ c0, q.oneCell' = true from k39.K_one hK0)
        have HE := Aside0.mk hcell
        obtain ⟨r, hr⟩ : ∃ r, r = goV x.f9[i] (deep + 1) (n + 1 + acc.length) := ⟨_, rfl⟩
        have hcut : ¬ (pre.length + 1 > 10 ∨ deep ≥ 6) := by have := HN0.out; omega
        have RP := Aside0.mk (show 1 ≤ r.1.length by rw [hr]; exact goV_pos _ _ _)
        have RL := Aside0.mk (show r.2 = true → n + 1 + acc.length + r.1.length ≤ 10 by rw [hr]; exact goV_le (sz39 x.f9[i]) x.f9[i] (Nat.le_refl _) (deep + 1) (n + 1 + acc.length))
        have GD := Aside0.mk (HG.out.trans (by rw [goVs_drop hlt, ← hr]))
        have HL := Aside0.mk (show (pre ++ (((deep : Int), x) :: acc)).length = n + 1 + acc.length by have := HN0.out; simp; omega)
        have PX := Aside0.mk (show (pre ++ (((deep : Int), x) :: acc)) ++ r.1 <+: V by
          refine List.IsPrefix.trans ?_ HP.out
          rw [goV_go hcut, ← HN0.out, GD.out]
          by_cases hb : r.2 = true
          · rw [if_pos hb]; exact ⟨(goVs (x.f9.drop (i + 1)) (deep + 1) (n + 1 + acc.length + r.1.length)).1, by simp⟩
          · rw [if_neg hb]; exact ⟨[], by simp⟩)
        have GV := Aside0.mk (goV_go (x := x) hcut)
        have CA := Aside0.mk (fun (W' : World) (hj : J (pre ++ (((deep : Int), x) :: acc)) W') (hs : StW w0 l by_ bm bw (n + 1 + acc.length) W') =>
          IH.out (sz39 x.f9[i]) (by have := HN.out; omega) x.f9[i] c0 (deep + 1) (pre ++ (((deep : Int), x) :: acc)) W' (Nat.le_refl _) hK0 (by omega) (by rw [HL.out]; omega) (by rw [HL.out, ← hr]; exact PX.out) hj (by rw [HL.out]; exact hs))
        rw [HL.out, ← hr] at CA
        clear hK0 hcell hcl hr hsz hcut HG
        go_wp2_with (first
          | ((with_reducible refine gate_dst (N := 31) rfl ?_); refine load_ 39 (.tmp 30) rfl rfl (ad.add (i * 19)) ?hx c0 _ Tryz.underlying39 ?hi (fun j v h => zhs HS4.out.bel (HE.out j v h)) ?_; (case hx => first | rfl | (go_simp; done) | (go_simp; rfl)); (case hi => rw [LD.out]; kernel_rfl))
          | ((with_reducible refine gate_dst (N := 9) rfl ?_); refine alloc_ 39 rfl rfl zero39 _ _ info39 ?_; intro g4 hg4 w4 hb4 hB4; have Y4 := Aside0.mk hb4; have HS5 := Aside0.mk (HS4.out.call hB4); have HJ5 := Aside0.mk (hJ'.out _ _ _ HJ4.out (hB4.mono (Nat.le_trans H1.out (Nat.le_of_lt (blk_lt HS4.out.hy))))); have G4 := Aside0.mk (show wr.heap.size ≤ g4 by rw [hg4]; exact Nat.le_refl _); clear hb4 hB4 hg4)
          | ((with_reducible refine gate_ (.store 39 (.tmp 9) (.tmp 31)) rfl ?_); refine storeAll_ 39 (.tmp 9) (.tmp 31) rfl rfl rfl g4 ?hp c0 ?hx2 ?ht OD.out zero39 _ Y4.out ?hf ?_; (case hp => first | rfl | (go_simp; done) | (go_simp; rfl)); (case hx2 => first | rfl | (go_simp; done) | (go_simp; rfl)); (case ht => rw [LD.out]; kernel_rfl); (case hf => rw [LD.out]; rfl); intro w5 hb5 hg5; have hB5 := (show Below wr.heap.size w4 w5 from (Below.refl wr.heap.size w4).grown hg5 (by have := blk_lt Y4.out; have := G4.out; omega) (fun k e => by cases e; exact G4.out)); have Y5 := Aside0.mk hb5; have HS6 := Aside0.mk (show StW w0 l by_ bm bw (n + 1 + acc.length) w5 from ⟨(hB5.block _ (blk_lt HS4.out.hy)).trans HS5.out.hy, (hB5.block _ (blk_lt HS4.out.hm)).trans HS5.out.hm, (hB5.block _ (blk_lt HS4.out.hw)).trans HS5.out.hw, HS5.out.bel.trans (hB5.mono HS4.out.bel.size)⟩); have HJ6 := Aside0.mk (hJ'.out _ _ _ HJ5.out (hB5.mono (Nat.le_trans H1.out (Nat.le_of_lt (blk_lt HS4.out.hy))))); have qw := (show w5.cell? ⟨bw, 0, none⟩ = some (.func (.func 42) #[] #[.pointer (some ⟨bm, 0, none⟩), .pointer (some ⟨by_, 0, none⟩), .pointer (some ⟨bw, 0, none⟩)]) by rw [blk_cell HS6.out.hw]; rfl); clear hb5 hg5 hB5 HS5 HJ5 Y4)
          | ((with_reducible refine gate_dst (N := 33) rfl ?_); refine loadVar_ 39 (.tmp 9) rfl rfl g4 ?hx c0 _ Tryz.underlying39 ?hi _ Y5.out ?_; (case hx => first | rfl | (go_simp; done) | (go_simp; rfl)); (case hi => rw [LD.out]; kernel_rfl))
          | (go_at_call 42; refine (CA.out _ HJ6.out HS6.out).mono ?_; rintro e w6 ⟨b, rfl, h⟩; have HH := Aside0.mk h; clear h HS4 HS6 HJ4 HJ6 CA qw Y5))
        · go_ret
          have hb : b = false := by simpa using (by assumption : (!b) = true)
          subst hb
          rcases HH.out with ⟨hb, hj, hs⟩ | ⟨_, q, hq, hx⟩
          · refine ⟨false, rfl, .inl ?_⟩
            have e2 : goV x deep pre.length = (((deep : Int), x) :: (acc ++ r.1), false) := by
              rw [GV.out, ← HN0.out, GD.out, if_neg (by rw [← hb]; simp)]
            rw [e2]
            refine ⟨rfl, by simpa using hj, ?_⟩
            have e3 : pre.length + (((deep : Int), x) :: (acc ++ r.1)).length = (pre ++ (((deep : Int), x) :: acc)).length + r.1.length := by simp; omega
            rw [e3]; exact hs
          · exact ⟨false, rfl, .inr ⟨rfl, q, hq, hx⟩⟩
        · go_roundw
          have hb : b = true := by simpa using (by assumption : (!b) = false)
          subst hb
          case rel =>
            rcases HH.out with ⟨hb, hj, hs⟩ | ⟨hb, _⟩
            · have hl := RL.out hb.symm
              have hp1 := RP.out
              refine ⟨i + 1, acc ++ r.1, by go_num, by omega, by simp; omega, by simp; omega, ⟨by simpa using hj⟩, ⟨?_⟩, ⟨?_⟩⟩
              · have e3 : n + 1 + (acc ++ r.1).length = (pre ++ (((deep : Int), x) :: acc)).length + r.1.length := by rw [HL.out]; simp; omega
                rw [e3]; exact hs
              · rw [GD.out, if_pos hb.symm]; simp [Nat.add_assoc]
            · cases hb
          case measure => simp [intOf]; omega
      · have GE := Aside0.mk (HG.out.trans (by rw [goVs_end (by omega)]))
        have GV := Aside0.mk (goV_go (x := x) (show ¬ (pre.length + 1 > 10 ∨ deep ≥ 6) by have := HN0.out; omega))
        go_wp2
        go_ret
        refine ⟨true, rfl, .inl ?_⟩
        have e2 : goV x deep pre.length = (((deep : Int), x) :: acc, true) := by
          rw [GV.out, ← HN0.out, GE.out]; simp
        rw [e2]
        refine ⟨rfl, HJ4.out, ?_⟩
        have e3 : pre.length + (((deep : Int), x) :: acc).length = n + 1 + acc.length := by have := HN0.out; simp; omega
        rw [e3]; exact HS4.out
  · have HJ3 := Aside0.mk hj3
    have HS3 := Aside0.mk hs3
    clear hj3 hs3 x3 qm3 hK HR qy hy
    go_wp2
    go_ret
    have e1 : goV x deep pre.length = ([((deep : Int), x)], false) := goV_stop (by have := HN0.out; omega)
    rw [e1]
    exact ⟨false, rfl, .inl ⟨rfl, HJ3.out, by rw [← HN0.out]; exact HS3.out⟩⟩
  · have HJ3 := Aside0.mk hx3
    clear hx3 hK HR qy hy
    go_wp2
    go_ret
    exact ⟨false, rfl, .inr ⟨rfl, _, HX.out, HJ3.out⟩⟩
end Pl

end
namespace Pl
theorem walk_all (w0 : World) (M l by_ bm bw : Nat) (V : List Vis) (J Jx : List Vis → World → Prop) (hM : w0.heap.size ≤ M) (h1 : M ≤ by_) (h2 : by_ < bm) (h3 : bm < bw)
    (hJ : ∀ s A B, J s A → Below M A B → J s B) (hJx : ∀ s A B, Jx s A → Below M A B → Jx s B)
    (hY : ∀ (pre : List Vis) (x : Vis) (cs : List Value) (W1 : World), J pre W1 → k39.K w0 x.2 cs → pre ++ [x] <+: V → YieldAt Fence.wide 0 Tryz.prog l #[.int .i64 x.1, .agg cs.toArray] W1 fun e W' =>
      (e = .returned (.bool true) ∧ J (pre ++ [x]) W' ∧ Kp w0.heap.size M W1 W') ∨ (e = .returned (.bool false) ∧ Jx (pre ++ [x]) W'))
    (N : Nat) : WkP w0 l by_ bm bw V J Jx N := by
  induction N using Nat.strongRecOn with
  | _ N ih =>
    cases N with
    | zero => intro x cs deep pre W hn; have := sz39_kids x; omega
    | succ N => exact walk_step w0 M l by_ bm bw V J Jx hM h1 h2 h3 hJ hJx hY N (fun m hm => ih m (by omega))
section
variable {P : Program} {ops : Array Oper} {rest : List Oper} {o : Oper} {a : Act} {Q : Exit → Act → World → Prop}
/-- A value of one cell that came in is boxed. -/
theorem box1_ {W : World} (ty : TypeId) (x : Operand) (ho : o.op = .box ty x) (hgd : o.guard = none) (v : Value) (hx : a.eval x = v) (hv : v.cells = #[v])
    (h : ∀ g, g = W.heap.size → ∀ w1, w1.heap[g]? = some (.cells #[v] ty (0, 0)) → Below W.heap.size W w1 → wpList P ops Q rest (a.put o.dst (.pointer (some ⟨g, 0, none⟩))) w1) : wpList P ops Q (o :: rest) a W := by
  refine Kd.event_run hgd ?_ (h _ rfl _ (blk_new W _) (below_alloc (Below.refl _ _) _))
  unfold execOp
  simp only [ho, hx]
  go_simp
  exact congrArg (fun c => W.alloc (.cells c ty)) hv
/-- A variable of one cell is laid. -/
theorem alloc1_ {W : World} (ty : TypeId) (ho : o.op = .alloc ty) (hgd : o.guard = none) (v : Value) (hv : v.cells = #[v]) (n b : Nat) (hi : (P.info? ty).map (fun i => (i.zero, i.size, i.bytes)) = some (some v, n, b))
    (h : ∀ g, g = W.heap.size → ∀ w1, w1.heap[g]? = some (.cells #[v] ty (0, 0)) → Below W.heap.size W w1 → wpList P ops Q rest (a.put o.dst (.pointer (some ⟨g, 0, none⟩))) w1) : wpList P ops Q (o :: rest) a W := by
  refine Kd.event_run hgd ?_ (h _ rfl _ (blk_new W _) (below_alloc (Below.refl _ _) _))
  obtain ⟨i, hi1, hi2⟩ := Option.map_eq_some_iff.1 hi
  simp only [Prod.mk.injEq] at hi2
  obtain ⟨hz, -, -⟩ := hi2
  unfold execOp
  simp only [ho]
  simp [Instr.alloc, zeroValue, typeInfo, hi1, hz, go_sem]
  exact congrArg (fun c => W.alloc (.cells c ty)) hv
/-- A store of one cell into a variable of one cell. -/
theorem store1_ {W : World} (t : TypeId) (p x : Operand) (ho : o.op = .store t p x) (hd : o.dst = none) (hgd : o.guard = none) (g : Nat) (hp : a.eval p = .pointer (some ⟨g, 0, none⟩)) (u : Value) (hx : a.eval x = u) (hu : u.cells = #[u]) (h1 : u.oneCell' = true)
    (ht : (P.info? t).map (·.size) = some 1) (v : Value) (e : TypeId) (hh : W.heap[g]? = some (.cells #[v] e (0, 0)))
    (h : ∀ w1, w1.heap[g]? = some (.cells #[u] e (0, 0)) → W.grownBy w1 (some g) → wpList P ops Q rest a w1) : wpList P ops Q (o :: rest) a W :=
  store_ t p x ho hd hgd g 0 hp u hx [u] (by rw [hu]) ht (by intro q hq; simp at hq; rw [hq]; exact h1) [v] e hh (by simp) (fun w1 hb hg => h w1 (by simpa using hb) hg)
end
section
variable {F : Fence} {n : Nat} {P : Program} {ops : Array Oper} {rest : List Oper} {o : Oper} {a : Act} {Q : Exit → Act → World → Prop}
theorem store1In_ {W : World} (t : TypeId) (p x : Operand) (ho : o.op = .store t p x) (hd : o.dst = none) (hgd : o.guard = none) (g : Nat) (hp : a.eval p = .pointer (some ⟨g, 0, none⟩)) (u : Value) (hx : a.eval x = u) (hu : u.cells = #[u]) (h1 : u.oneCell' = true)
    (ht : (P.info? t).map (·.size) = some 1) (v : Value) (e : TypeId) (hh : W.heap[g]? = some (.cells #[v] e (0, 0)))
    (h : ∀ w1, w1.heap[g]? = some (.cells #[u] e (0, 0)) → W.grownBy w1 (some g) → wpListIn F n P ops Q rest a w1) : wpListIn F n P ops Q (o :: rest) a W := by
  have hrun := run_store_run (P := P) t u [u] (g := g) (o := 0) hh (by rw [hu]) ht (by simp) (by intro q hq; simp at hq; rw [hq]; exact h1)
  obtain ⟨cur', h3, h4, h5⟩ := setCells_row [u] 0 W #[v] hh (by simp)
  obtain ⟨s1, s2, s3, s4⟩ := setCells_same g [u] 0 W
  refine wpListIn_plain hgd fun K hK => ⟨fun f hf => (by simp [Oper.about, ho] at hf), ?_⟩
  rw [Oper.semAt_plain F _ _ (by rw [ho]; intro c e; cases e)]
  unfold execOp
  simp only [ho, hp, hx, Sem.run_bind, Sem.run_pure, Result.andThen_ok, hrun]
  show K (a.put o.dst undef) _
  rw [hd]
  refine hK a _ (h _ ?_ ⟨s1, s2, s3, by rw [s4]; exact Nat.le_refl _, fun k _ hk => setCells_far _ _ k (fun he => hk (by rw [he]))⟩)
  rw [h3]
  congr 2
  apply Array.toList_inj.1
  rw [h5]
  simp
end
/-- The iterator's elements, as yield is handed them. -/
def VisE (w0 : World) (v : Vis) (vs : Array Value) : Prop := ∃ cs : List Value, vs = #[.int .i64 v.1, .agg cs.toArray] ∧ k39.K w0 v.2 cs
set_option maxHeartbeats 4000000 in
set_option maxRecDepth 100000 in
/-- **impl.all's function** hands out a plan's parts, as far as the limits go. -/
theorem all1_gives (w0 : World) (x : S39) (cs : List Value) (hK : k39.K w0 x cs) (bx : Nat) (W0 : World) (hbx : W0.heap[bx]? = some (.cells cs.toArray 39 (0, 0))) (hb0 : Below w0.heap.size w0 W0) :
    GivesAll Tryz.prog 41 #[.pointer (some ⟨bx, 0, none⟩)] (VisE w0) (goV x 0 0).1 w0.heap.size W0 := by
  intro l J Jx W hW hJ hJx hY h0
  have hM : w0.heap.size ≤ W.heap.size := Nat.le_trans hb0.size hW.size
  have LC := Aside0.mk (show cs.length = 19 from k39.K_len hK)
  have WA := Aside0.mk (fun by_ bm bw h1 h2 h3 => walk_all w0 W.heap.size l by_ bm bw (goV x 0 0).1 J Jx hM h1 h2 h3 hJ hJx (fun pre v cs W1 hj hk hp => hY pre v _ W1 hj ⟨cs, rfl, hk⟩ hp) (sz39 x) x cs 0 [])
  have X0 := Aside0.mk ((hW.block _ (blk_lt hbx)).trans hbx)
  have B0 := Aside0.mk (hb0.trans (hW.mono hb0.size))
  have J0 := Aside0.mk h0
  have HJ := Aside0.mk hJ
  have HK := Aside0.mk hK
  clear hY hJx hJ h0 hbx hb0 hW hM hK
  refine callsIn_wide.2 ?_
  show Calls Tryz.prog 41 #[.func (.yield l) #[] #[], .pointer (some ⟨bx, 0, none⟩)] W _
  go_enter Tryz.func41, Tryz.ntmps41
  go_wp2_with (first
    | ((with_reducible refine gate_dst (N := 2) rfl ?_); refine box1_ 73 (.tmp 0) rfl rfl (.func (.yield l) #[] #[]) rfl rfl ?_; intro by_ hg w1 hb hB; have Y1 := Aside0.mk hb; have B1 := Aside0.mk hB; have G1 := Aside0.mk hg; clear hg hb hB)
    | ((with_reducible refine gate_dst (N := 3) rfl ?_); refine alloc1_ 3 rfl rfl (.int .i64 0) rfl 1 8 (by kernel_rfl) ?_; intro bm hg w2 hb hB; have Y2 := Aside0.mk ((hB.block _ (blk_lt Y1.out)).trans Y1.out); have M2 := Aside0.mk hb; have B2 := Aside0.mk (below_step B1.out hB); have G2 := Aside0.mk (show by_ < bm by rw [hg]; exact blk_lt Y1.out); clear hg hb hB Y1 B1)
    | ((with_reducible refine gate_ (.store 3 (.tmp 3) (.const (.int .i64 0))) rfl ?_); refine store1_ 3 (.tmp 3) (.const (.int .i64 0)) rfl rfl rfl bm rfl (.int .i64 0) rfl rfl rfl (by kernel_rfl) _ _ M2.out ?_; intro w3 hb hg; have B3 := Aside0.mk (B2.out.grown hg B2.out.size (fun k e => by cases e; have := G1.out; have := G2.out; omega)); have Y3 := Aside0.mk ((hg.block _ (blk_lt Y2.out) (by intro e; injection e with e; have := G2.out; omega)).trans Y2.out); have M3 := Aside0.mk hb; clear hb hg Y2 M2 B2)
    | ((with_reducible refine gate_dst (N := 4) rfl ?_); refine alloc1_ 43 rfl rfl .nilFunc rfl 1 8 (by kernel_rfl) ?_; intro bw hg w4 hb hB; have Y4 := Aside0.mk ((hB.block _ (blk_lt Y3.out)).trans Y3.out); have M4 := Aside0.mk ((hB.block _ (blk_lt M3.out)).trans M3.out); have W4 := Aside0.mk hb; have B4 := Aside0.mk (below_step B3.out hB); have G4 := Aside0.mk (show bm < bw by rw [hg]; exact blk_lt M3.out); clear hg hb hB Y3 M3 B3)
    | ((with_reducible refine gate_ (.store 43 (.tmp 4) (.tmp 5)) rfl ?_); refine store1_ 43 (.tmp 4) (.tmp 5) rfl rfl rfl bw ?hp (.func (.func 42) #[] #[.pointer (some ⟨bm, 0, none⟩), .pointer (some ⟨by_, 0, none⟩), .pointer (some ⟨bw, 0, none⟩)]) ?hx2 rfl rfl (by kernel_rfl) _ _ W4.out ?_; (case hp => first | rfl | (go_simp; done) | (go_simp; rfl)); (case hx2 => first | rfl | (go_simp; done) | (go_simp; rfl)); intro w5 hb hg; have B5 := Aside0.mk (B4.out.grown hg B4.out.size (fun k e => by cases e; have := G1.out; have := G2.out; have := G4.out; omega)); have Y5 := Aside0.mk ((hg.block _ (blk_lt Y4.out) (by intro e; injection e with e; have := G2.out; have := G4.out; omega)).trans Y4.out); have M5 := Aside0.mk ((hg.block _ (blk_lt M4.out) (by intro e; injection e with e; have := G4.out; omega)).trans M4.out); have W5 := Aside0.mk hb; have qw := (show w5.cell? ⟨bw, 0, none⟩ = some (.func (.func 42) #[] #[.pointer (some ⟨bm, 0, none⟩), .pointer (some ⟨by_, 0, none⟩), .pointer (some ⟨bw, 0, none⟩)]) by rw [blk_cell W5.out]; rfl); clear hb hg Y4 M4 W4 B4)
    | ((with_reducible refine gate_dst (N := 7) rfl ?_); refine loadVar_ 39 (.tmp 1) rfl rfl bx ?hx cs _ Tryz.underlying39 ?hi _ ((B5.out.block _ (blk_lt X0.out)).trans X0.out) ?_; (case hx => first | rfl | (go_simp; done) | (go_simp; rfl)); (case hi => rw [LC.out]; kernel_rfl))
    | (go_at_call 42; refine (WA.out by_ bm bw (by rw [G1.out]; exact Nat.le_refl _) G2.out G4.out w5 (Nat.le_refl _) HK.out (by omega) (by simp) (List.prefix_refl _) (HJ.out _ _ _ J0.out B5.out) ⟨Y5.out, M5.out, W5.out, B0.out.trans (B5.out.mono B0.out.size)⟩).mono ?_; rintro e w6 ⟨b, rfl, h⟩; have HH := Aside0.mk h; clear h qw))
  go_end0
  refine ⟨⟨_, rfl⟩, ?_⟩
  rcases HH.out with ⟨_, hj, _⟩ | ⟨_, q, hq, hx⟩
  · exact .inl (by simpa using hj)
  · exact .inr ⟨q, hq, hx⟩
/-- **impl.all**: its function, over the plan's box. -/
theorem all_c (cs : List Value) (w : World) : Calls Tryz.prog 25 #[.agg cs.toArray] w fun e w' => ∃ bx, e = .returned (.func (.func 41) #[] #[.pointer (some ⟨bx, 0, none⟩)]) ∧ w'.heap[bx]? = some (.cells cs.toArray 39 (0, 0)) ∧ Below w.heap.size w w' := by
  go_enter Tryz.func25, Tryz.ntmps25
  go_wp2_with ((with_reducible refine gate_dst (N := 1) rfl ?_); refine box_ 39 (.tmp 0) rfl rfl cs.toArray rfl ?_; intro g hg w1 hbx hB; have X1 := Aside0.mk hbx; have B1 := Aside0.mk hB; clear hbx hB hg)
  go_ret
  exact ⟨g, rfl, X1.out, B1.out⟩
end Pl
section
attribute [local go_sem] Oper.semAt_some
namespace Pl
/-- None of these goes beyond the limits. -/
def okV : Nat → List Vis → Prop
  | _, [] => True
  | n, v :: vs => n + 1 ≤ 10 ∧ v.1 < 6 ∧ okV (n + 1) vs
theorem okV_append (n : Nat) (a b : List Vis) : okV n (a ++ b) ↔ okV n a ∧ okV (n + a.length) b := by
  induction a generalizing n with
  | nil => simp [okV]
  | cons v vs ih => simp only [List.cons_append, okV, ih, List.length_cons, and_assoc]; rw [show n + 1 + vs.length = n + (vs.length + 1) by omega]
theorem okV_prefix {n : Nat} {a b : List Vis} (h : a <+: b) (hb : okV n b) : okV n a := by
  obtain ⟨c, rfl⟩ := h; exact ((okV_append n a c).1 hb).1
/-- It goes on to the end just if nothing goes beyond the limits. -/
theorem goV_ok : ∀ (m : Nat) (x : S39), sz39 x ≤ m → ∀ deep n, (goV x deep n).2 = true ↔ okV n (goV x deep n).1 := by
  intro m
  induction m with
  | zero => intro x h; have := sz39_kids x; omega
  | succ m ih =>
    intro x hm deep n
    have hk := sz39_kids x
    have go : ∀ (ks : List S39), szs39 ks ≤ m → ∀ deep n, (goVs ks deep n).2 = true ↔ okV n (goVs ks deep n).1 := by
      intro ks
      induction ks with
      | nil => intro _ deep n; simp [goVs, okV]
      | cons k ks ihk =>
        intro hs deep n
        simp only [szs39] at hs
        have h1 := ih k (by omega) deep n
        by_cases hc : (goV k deep n).2 = true
        · rw [goVs_true hc, okV_append]
          exact (ihk (by omega) deep _).trans ⟨fun h => ⟨h1.1 hc, h⟩, fun h => h.2⟩
        · rw [goVs_false (by simpa using hc)]
          exact ⟨fun h => (by cases h), fun h => absurd (h1.2 h) hc⟩
    by_cases hc : n + 1 > 10 ∨ deep ≥ 6
    · rw [goV_stop hc]
      simp only [okV]
      exact ⟨fun h => (by cases h), fun h => (by omega)⟩
    · rw [goV_go hc]
      simp only [okV]
      rw [go x.f9 (by omega)]
      exact ⟨fun h => ⟨by omega, by omega, h⟩, fun h => h.2.2⟩
theorem okV_le (n : Nat) (a : List Vis) (h : okV n a) : a.length ≤ 10 ∧ (a.length = 0 ∨ n + a.length ≤ 10) := by
  induction a generalizing n with
  | nil => simp
  | cons v vs ih => have := ih (n + 1) h.2.2; have := h.1; simp only [List.length_cons]; omega
theorem okV_snoc (pre : List Vis) (v : Vis) : okV 0 (pre ++ [v]) ↔ okV 0 pre ∧ pre.length + 1 ≤ 10 ∧ v.1 < 6 := by
  rw [okV_append]; simp [okV]
/-- sizeOk -/
def sizeB (x : S39) : Bool := (goV x 0 0).2
theorem sizeB_iff (x : S39) : sizeB x = true ↔ okV 0 (goV x 0 0).1 := goV_ok _ x (Nat.le_refl _) 0 0
theorem VisE_size {w0 : World} {v : Vis} {vs : Array Value} (h : VisE w0 v vs) : vs.size = 2 := by obtain ⟨cs, rfl, _⟩ := h; rfl
/-- sizeOk's boxes: its answer, how many have come. -/
structure SzW (w : World) (br bm : Nat) (n : Nat) (W : World) : Prop where
  hr : W.heap[br]? = some (.cells #[.bool false] 4 (0, 0))
  hm : W.heap[bm]? = some (.cells #[.int .i64 n] 3 (0, 0))
  bel : Below w.heap.size w W
theorem SzW.below {w : World} {br bm n m : Nat} {A B : World} (h : SzW w br bm n A) (hb : Below m A B) (h1 : br < m) (h2 : bm < m) (h3 : w.heap.size ≤ m) : SzW w br bm n B :=
  ⟨(hb.block _ h1).trans h.hr, (hb.block _ h2).trans h.hm, h.bel.trans (hb.mono h3)⟩
theorem SzW.set {w : World} {br bm n m : Nat} {A B : World} (h : SzW w br bm n A) (hg : A.grownBy B (some bm)) (hb : B.heap[bm]? = some (.cells #[.int .i64 m] 3 (0, 0))) (h1 : w.heap.size ≤ bm) (h2 : br ≠ bm) : SzW w br bm m B :=
  ⟨(hg.block _ (blk_lt h.hr) (by simpa using h2)).trans h.hr, hb, h.bel.grown hg h.bel.size (fun k e => by cases e; exact h1)⟩
theorem SzW.setR {w : World} {br bm n : Nat} {A B : World} (h : SzW w br bm n A) (hg : A.grownBy B (some br)) (hb : B.heap[br]? = some (.cells #[.bool false] 4 (0, 0))) (h1 : w.heap.size ≤ br) (h2 : br ≠ bm) : SzW w br bm n B :=
  ⟨hb, (hg.block _ (blk_lt h.hm) (by simp; omega)).trans h.hm, h.bel.grown hg h.bel.size (fun k e => by cases e; exact h1)⟩
/-- A result that lies in a cell. -/
theorem results_cell1 {P : Program} {fn : Func} {p : Tmp} {ty : TypeId} (h : fn.results = #[.cell p ty]) {tmps : Array Value} {w : World} {g : Nat} {v : Value} {e : TypeId} {d : TypeDesc} (hp : tmps.getD p undef = .pointer (some ⟨g, 0, none⟩)) (hb : w.heap[g]? = some (.cells #[v] e (0, 0)))
    (hu : P.underlying ty = some d) (hd : (match d with | .struct _ | .array _ _ => true | _ => false) = false) : (results fn tmps).run P w = .ok v w := by
  have hp' : tmps[p]?.getD undef = .pointer (some ⟨g, 0, none⟩) := by simpa using hp
  have hc : w.cell? ⟨g, 0, none⟩ = some v := by rw [blk_cell hb]; rfl
  have hagg : (isAgg ty).run P w = .ok false w := by
    unfold isAgg
    rw [Sem.run_bind, run_underlying hu w]
    cases d <;> simp_all
  simp [results, h, hp', asAddr, loadVar, Sem.run_bind, hagg, hc, go_sem]
set_option maxHeartbeats 4000000 in
set_option maxRecDepth 100000 in
/-- **impl.sizeOk** -/
theorem sizeOk_c (x : S39) (cs : List Value) (w : World) (hK : k39.K w x cs) :
    Calls Tryz.prog 34 #[.agg cs.toArray] w fun e w' => e = .returned (.bool (sizeB x)) ∧ Below w.heap.size w w' := by
  have LC := Aside0.mk (show cs.length = 19 from k39.K_len hK)
  have HK := Aside0.mk hK
  have CA := Aside0.mk (all_c cs)
  clear hK
  refine callsIn_wide (n := 0).1 ?_
  refine callsIn_of_wp_marks Tryz.func34 rfl trivial ?_ rfl
  simp only [Tryz.ntmps34, List.size_toArray, List.length_cons, List.length_nil, Nat.reduceAdd, Nat.reduceSub, Array.replicate_succ, Array.replicate_zero, List.push_toArray, List.append_toArray, List.nil_append, List.cons_append]
  refine wpIn_wide.2 ?_
  go_wp2_with (first
    | ((with_reducible refine gate_dst (N := 1) rfl ?_); refine box_ 39 (.tmp 0) rfl rfl cs.toArray rfl ?_; intro bp hg w1 hbx hB; have X1 := Aside0.mk hbx; have B1 := Aside0.mk hB; clear hbx hB hg)
    | ((with_reducible refine gate_dst (N := 2) rfl ?_); refine alloc1_ 4 rfl rfl (.bool false) rfl 1 1 (by kernel_rfl) ?_; intro br hg w2 hb hB; have X2 := Aside0.mk ((hB.block _ (blk_lt X1.out)).trans X1.out); have R2 := Aside0.mk hb; have B2 := Aside0.mk (below_step B1.out hB); have GR := Aside0.mk (show w.heap.size ≤ br by rw [hg]; exact B1.out.size); clear hg hb hB X1 B1)
    | ((with_reducible refine gate_dst (N := 3) rfl ?_); refine alloc1_ 3 rfl rfl (.int .i64 0) rfl 1 8 (by kernel_rfl) ?_; intro bm hg w3 hb hB; have X3 := Aside0.mk ((hB.block _ (blk_lt X2.out)).trans X2.out); have S3 := Aside0.mk (show SzW w br bm 0 w3 from ⟨(hB.block _ (blk_lt R2.out)).trans R2.out, hb, below_step B2.out hB⟩); have GM := Aside0.mk (show br < bm by rw [hg]; exact blk_lt R2.out); have NX := Aside0.mk (show bp ≠ bm by rw [hg]; exact Nat.ne_of_lt (blk_lt X2.out)); clear hg hb hB X2 R2 B2)
    | ((with_reducible refine gate_ (.store 3 (.tmp 3) (.const (.int .i64 0))) rfl ?_); refine store1_ 3 (.tmp 3) (.const (.int .i64 0)) rfl rfl rfl bm rfl (.int .i64 0) rfl rfl rfl (by kernel_rfl) _ _ S3.out.hm ?_; intro w4 hb hg; have S4 := Aside0.mk (show SzW w br bm 0 w4 from ⟨(hg.block _ (blk_lt S3.out.hr) (by intro e; injection e with e; have := GM.out; omega)).trans S3.out.hr, hb, S3.out.bel.grown hg S3.out.bel.size (fun k e => by cases e; have := GM.out; have := GR.out; omega)⟩); have X4 := Aside0.mk ((hg.block _ (blk_lt X3.out) (by intro e; injection e with e; exact NX.out e)).trans X3.out); clear hb hg X3 S3)
    | ((with_reducible refine gate_dst (N := 5) rfl ?_); refine loadVar_ 39 (.tmp 1) rfl rfl bp ?hx cs _ Tryz.underlying39 ?hi _ X4.out ?_; (case hx => first | rfl | (go_simp; done) | (go_simp; rfl)); (case hi => rw [LC.out]; kernel_rfl))
    | (go_at_call 25; refine (CA.out _).mono ?_; rintro e w5 ⟨bx, rfl, hbx, hB⟩; have X5 := Aside0.mk hbx; have S5 := Aside0.mk (S4.out.below hB (blk_lt S4.out.hr) (blk_lt S4.out.hm) S4.out.bel.size); clear hbx hB S4 X4))
  refine (wpIn_wide (n := 0)).1 (wpIn_rangeAll (E := VisE w) (V := (goV x 0 0).1) (n₀ := w.heap.size) rfl (enters_v Tryz.func41 (by kernel_rfl) rfl) (all1_gives w x cs HK.out bx w5 X5.out S5.out.bel) S5.out.bel.size (fun v vs h => VisE_size h)
    (fun pre W => okV 0 pre ∧ SzW w br bm pre.length W) (fun c pre W => c = .ret ∧ ¬ okV 0 pre ∧ SzW w br bm pre.length W)
    (fun s A B hs hb => ⟨hs.1, hs.2.below hb (blk_lt S5.out.hr) (blk_lt S5.out.hm) S5.out.bel.size⟩) (fun c s A B hs hb => ⟨hs.1, hs.2.1, hs.2.2.below hb (blk_lt S5.out.hr) (blk_lt S5.out.hm) S5.out.bel.size⟩) ⟨trivial, S5.out⟩ ?round ?done ?stop)
  case round =>
    rintro l pre v vs W hsz ⟨hok, hS⟩ ⟨cs', rfl, hk⟩ hpre
    have QB := S5.out.bel.size
    have LR := Aside0.mk (blk_lt S5.out.hr)
    have LM := Aside0.mk (blk_lt S5.out.hm)
    gi_wp2
    refine ⟨Kp.refl _ _ _, ⟨hok, hS⟩, ?_⟩
    rintro W2 ⟨hok2, hS2⟩ hB2 hz2 -
    obtain ⟨m, hm⟩ : ∃ m, m = pre.length := ⟨_, rfl⟩
    have MH := Aside0.mk hm
    have hm10 : m ≤ 10 := by rw [hm]; exact (okV_le 0 pre hok).1
    rw [← hm] at hS2
    have S2 := Aside0.mk hS2
    have OK := Aside0.mk hok
    have qm : W2.cell? ⟨bm, 0, none⟩ = some (.int .i64 m) := by rw [blk_cell hS2.hm]; rfl
    have WS := Aside0.mk (show w.heap.size ≤ W2.heap.size by omega)
    clear hm hok hS hk hpre hok2 hS2 hB2 hz2 hsz QB
    gi_wp2_with (first
      | ((with_reducible refine gateInOp (op := .store 3 (.tmp 3) (.tmp 10)) rfl ?_); refine store1In_ 3 (.tmp 3) (.tmp 10) rfl rfl rfl bm ?hp (.int .i64 ((m : Int) + 1)) ?hx2 rfl rfl (by kernel_rfl) _ _ S2.out.hm ?_; (case hp => first | rfl | (go_simp; done) | (go_simp; rfl)); (case hx2 => first | rfl | (go_simp; done) | (go_simp; rfl)); intro W3 hb hg; have S3 := Aside0.mk (S2.out.set (m := m + 1) hg hb (by have := GR.out; have := GM.out; omega) (by have := GM.out; omega)); have K3 := Aside0.mk (Kp.grown (M := w5.heap.size) hg (by have := GR.out; have := GM.out; omega) WS.out LM.out); have q3 := (show W3.cell? ⟨bm, 0, none⟩ = some (.int .i64 ((m : Int) + 1)) by rw [blk_cell hb]; rfl); clear hb hg qm S2)
      | ((with_reducible refine gateInOp (op := .store 4 (.tmp 2) (.const (.bool false))) rfl ?_); refine store1In_ 4 (.tmp 2) (.const (.bool false)) rfl rfl rfl br ?hp (.bool false) rfl rfl rfl (by kernel_rfl) _ _ S3.out.hr ?_; (case hp => first | rfl | (go_simp; done) | (go_simp; rfl)); intro W4 hb hg; have S4 := Aside0.mk (S3.out.setR hg hb GR.out (by have := GM.out; omega)); have K4 := Aside0.mk (K3.out.trans (Kp.grown (M := w5.heap.size) hg GR.out (Nat.le_trans WS.out K3.out.bel.size) LR.out)); clear hb hg q3 S3 K3))
    · have hn : ¬ okV 0 (pre ++ [v]) := fun h => by have := (okV_snoc pre v).1 h; have := MH.out; omega
      exact ⟨K4.out, rfl, hn, by rw [show (pre ++ [v]).length = m + 1 by simp [MH.out]]; exact S4.out⟩
    · exact ⟨K3.out, (okV_snoc pre v).2 ⟨OK.out, by have := MH.out; omega, by omega⟩, by rw [show (pre ++ [v]).length = m + 1 by simp [MH.out]]; exact S3.out⟩
    · have hn : ¬ okV 0 (pre ++ [v]) := fun h => by have := (okV_snoc pre v).1 h; have := MH.out; omega
      exact ⟨K4.out, rfl, hn, by rw [show (pre ++ [v]).length = m + 1 by simp [MH.out]]; exact S4.out⟩
  case done =>
    rintro D W hD ⟨hok, hS⟩ hK
    have ST := Aside0.mk hS
    have KD := Aside0.mk hK
    have OK := Aside0.mk hok
    clear hok hS hK
    go_wp2_with ((with_reducible refine gate_ (.store 4 (.tmp 2) (.const (.bool true))) rfl ?_); refine store1_ 4 (.tmp 2) (.const (.bool true)) rfl rfl rfl br ?hp (.bool true) rfl rfl rfl (by kernel_rfl) _ _ ST.out.hr ?_; (case hp => first | rfl | (go_simp; done) | (go_simp; rfl)); intro W4 hb hg; have B4 := Aside0.mk (ST.out.bel.grown hg ST.out.bel.size (fun k e => by cases e; exact GR.out)); have R4 := Aside0.mk hb; have D4 := Aside0.mk ((hg.block D (Array.getElem?_eq_some_iff.1 KD.out).1 (by intro e; injection e with e; have := blk_lt S5.out.hr; omega)).trans KD.out); clear hb hg ST)
    refine ⟨by simp, .inl ⟨_, _, rfl, run_takeDeferred D4.out, ?_⟩⟩
    have hb5 : Below w.heap.size W4 (W4.putObj D (.deferred none)) := below_putObj _ _ (by have := S5.out.bel.size; omega)
    refine ⟨.bool true, results_cell1 (p := 2) (ty := 4) rfl rfl ((World.putObj_heap_other (by have := blk_lt S5.out.hr; omega)).trans R4.out) Tryz.underlying4 rfl, ?_, B4.out.trans hb5⟩
    rw [(sizeB_iff x).2 OK.out]
  case stop =>
    rintro D c pre W hD hpre ⟨rfl, hok, hS⟩ hK
    have ST := Aside0.mk hS
    have KD := Aside0.mk hK
    have NO := Aside0.mk (show sizeB x = false by
      by_cases h : sizeB x = true
      · exact absurd (okV_prefix hpre ((sizeB_iff x).1 h)) hok
      · simpa using h)
    clear hok hS hK hpre
    refine wpIn_wide.2 ?_
    go_wp2
    refine ⟨by simp, .inl ⟨_, _, rfl, run_takeDeferred KD.out, ?_⟩⟩
    have hb5 : Below w.heap.size W (W.putObj D (.deferred none)) := below_putObj _ _ (by have := S5.out.bel.size; omega)
    refine ⟨.bool false, results_cell1 (p := 2) (ty := 4) rfl rfl ((World.putObj_heap_other (by have := blk_lt S5.out.hr; omega)).trans ST.out.hr) Tryz.underlying4 rfl, ?_, ST.out.bel.trans hb5⟩
    rw [NO.out]
end Pl

end

end Go.Proofs.YtlpgnkndjmfcjaaGreat.PFnPlanUses
