/- Over whatever two lists of items the program's DeltaOnce and the reference's tell the same; the result is new memory (it stays when the arguments are written, and the other way round), and a second call tells the same: the law answers true. No condition beyond what the statement gives. -/
import Derived.Test.YtaifnkapbffmaaaPFnExactDeltaOncex13
import Derived.Test.YtaifnkapbffmaaaQ
namespace Go.Proofs.Ytaifnkapbffmaaa.Pure
open Go.RowKit Go.Proofs.Ytaifnkapbffmaaa.PFnExactDeltaOnce Go.Proofs.YtaifnkapbffmaaaW.PrintWords Go.Proofs.YtaifnkapbffmaaaW.PrintLast Go.Proofs.YtaifnkapbffmaaaW.PrintMore Go.Proofs.Ytaifnkapbffmaaa.Q

theorem ext_item {x y : S54} (h0 : x.f0 = y.f0) (h1 : x.f1 = y.f1) : x = y := by cases x; cases y; simp_all
instance decItem : DecidableEq S54 := fun x y => decidable_of_iff (x.f0 = y.f0 ∧ x.f1 = y.f1) ⟨fun h => ext_item h.1 h.2, fun h => by rw [h]; exact ⟨rfl, rfl⟩⟩
theorem item_iff (a b : List Int) (v u : Int) : (⟨a, v⟩ : S54) = ⟨b, u⟩ ↔ (a = b ∧ v = u) := ⟨fun h => by injection h with h1 h2; exact ⟨h1, h2⟩, fun h => by rw [h.1, h.2]⟩
theorem dec_cons {x y : S54} {s u : List S54} (h : x = y) : decide (x :: s = y :: u) = decide (s = u) := by subst h; rw [decide_eq_decide]; simp
theorem dec_cons_ne {x y : S54} {s u : List S54} (h : ¬ x = y) : decide (x :: s = y :: u) = false := by rw [decide_eq_false_iff_not]; intro e; injection e with e1 e2; exact h e1
theorem rdI_at (l : List S54) (i : Nat) (h : i < l.length) : rd_T54 l (i : Int) = l[i] := by
  show l.getD _ _ = _
  rw [Int.toNat_natCast, List.getD_eq_getElem?_getD, List.getElem?_eq_getElem h]; rfl
theorem drop_at {α : Type} (l : List α) (i : Nat) (h : i < l.length) : l.drop i = l[i] :: l.drop (i + 1) := List.drop_eq_getElem_cons h
/-- items no longer than so, their rows too -/
structure Small (l : List S54) : Prop where
  len : l.length ≤ 1048576
  row : ∀ x ∈ l, x.f0.length ≤ 1048576

/-- the law's item, as the program's -/
def toI (x : S81) : S54 := ⟨x.f0, x.f1⟩
theorem rdL_at (l : List S81) (i : Nat) (h : i < l.length) : rd_T81 l (i : Int) = l[i] := by
  show l.getD _ _ = _
  rw [Int.toNat_natCast, List.getD_eq_getElem?_getD, List.getElem?_eq_getElem h]; rfl
theorem szInts (l : List Int) (a : Int) (hl : l.length ≤ maxLen) (ha : 0 ≤ a) (ha1 : a ≤ 1048576) : ∃ r, laws_szIntS.f l a = some r ∧ r ≤ a ∧ (0 ≤ r → (l.length : Int) ≤ a) := by
  have hm : maxLen = 9223372036854775807 := rfl
  unfold laws_szIntS.f
  rw [w64 (by omega) (by omega)]
  by_cases h : a - (l.length : Int) < 0
  · rw [if_pos h]; exact ⟨-1, rfl, by omega, by omega⟩
  · rw [if_neg h]; exact ⟨_, rfl, by omega, by omega⟩
theorem szItem (l : List Int) (v a : Int) (hl : l.length ≤ maxLen) (ha : 0 ≤ a) (ha1 : a ≤ 1048576) : ∃ r, laws_szItem.f l v a = some r ∧ r ≤ a ∧ (0 ≤ r → (l.length : Int) ≤ a) := by
  obtain ⟨r, hr, h1, h2⟩ := szInts l a hl ha ha1
  unfold laws_szItem.f
  rw [hr]
  simp only [Option.bind_some]
  by_cases h : r < 0
  · rw [if_pos h]; exact ⟨-1, rfl, by omega, by omega⟩
  · rw [if_neg h]; exact ⟨r, rfl, h1, h2⟩
theorem szItems_ev (l : List S81) (a : Int) (hl : l.length ≤ maxLen) (hr : ∀ x ∈ l, x.f0.length ≤ maxLen) (ha : 0 ≤ a) (ha1 : a ≤ 1048576) :
    ∃ r, Ev (fun k => laws_szItemS.f k l a) r ∧ r ≤ a ∧ (0 ≤ r → Small (l.map toI)) := by
  have hm : maxLen = 9223372036854775807 := rfl
  unfold laws_szItemS.f
  rw [w64 (by omega) (by omega)]
  by_cases h : a - (l.length : Int) < 0
  · exact ⟨-1, ev_pos h (ev_now rfl), by omega, by omega⟩
  have go : ∀ (d i : Nat) (b : Int), i + d = l.length → 0 ≤ b → b ≤ a → ∃ r, Ev (fun k => laws_szItemS.l0 k l b (i : Int)) r ∧ r ≤ b ∧ (0 ≤ r → ∀ x ∈ l.drop i, x.f0.length ≤ 1048576) := by
    intro d
    induction d with
    | zero =>
      intro i b hi hb _
      exact ⟨b, Ev.step (fun k => laws_szItemS.l0.eq_2 ..) (ev_neg (by omega) (ev_now rfl)), by omega, fun _ => by rw [drop_end l i (by omega)]; simp⟩
    | succ d ih =>
      intro i b hi hb hba
      have hil : i < l.length := by omega
      obtain ⟨c, hc, hc1, hc2⟩ := szItem l[i].f0 l[i].f1 b (hr _ (List.getElem_mem _)) hb (by omega)
      have hc' : laws_szItem.f (rd_T81 l (i : Int)).f0 (rd_T81 l (i : Int)).f1 b = some c := by rw [rdL_at l i hil]; exact hc
      by_cases hn : c < 0
      · exact ⟨-1, Ev.step (fun k => laws_szItemS.l0.eq_2 ..) (ev_pos (by omega) (ev_pos (by omega) (ev_eq hc' (ev_pos hn (ev_now rfl))))), by omega, by omega⟩
      · obtain ⟨r, hr1, hr2, hr3⟩ := ih (i + 1) c (by omega) (by omega) (by omega)
        refine ⟨r, Ev.step (fun k => laws_szItemS.l0.eq_2 ..) (ev_pos (by omega) (ev_pos (by omega) (ev_eq hc' (ev_neg hn ?_)))), by omega, fun h0 x hx => ?_⟩
        · rw [w64n (by omega)]; exact hr1
        · rw [drop_at l i hil] at hx
          rcases List.mem_cons.1 hx with h1 | h1
          · subst h1; have := hc2 (by omega); omega
          · exact hr3 h0 x h1
  obtain ⟨r, h1, h2, h3⟩ := go l.length 0 (a - l.length) (by omega) (by omega) (by omega)
  refine ⟨r, ev_neg h h1, by omega, fun h0 => ⟨by simp; omega, fun x hx => ?_⟩⟩
  obtain ⟨y, hy, rfl⟩ := List.mem_map.1 hx
  exact h3 h0 y (by simpa using hy)

theorem toIntS_ev (l : List Int) (hl : l.length ≤ 35184372088832) : Ev (fun k => laws_toIntS.f k l) l := by
  have h := ev_down (fun k i => laws_toIntS.l0 k l (l.take i ++ List.replicate (l.length - i) 0) (i : Int)) (fun _ => l) l.length ?_ ?_ 0 (by omega)
  · unfold laws_toIntS.f
    refine ev_pos (by omega) (ev_pos (by omega) ?_)
    simpa using h
  · refine Ev.step (fun k => laws_toIntS.l0.eq_2 ..) (ev_neg (by omega) (ev_now (by simp)))
  · intro i hi ih
    refine Ev.step (fun k => laws_toIntS.l0.eq_2 ..) (ev_pos (by omega) (ev_pos (by omega) (ev_pos (by simp; omega) ?_)))
    rw [w64n (by omega)]
    have : (l.take i ++ List.replicate (l.length - i) 0).set (i : Int).toNat (rd l (i : Int)) = l.take (i + 1) ++ List.replicate (l.length - (i + 1)) 0 := by
      obtain ⟨d, hd⟩ : ∃ d, l.length - i = d + 1 := ⟨l.length - i - 1, by omega⟩
      have h2 : l.length - (i + 1) = d := by omega
      rw [hd, h2, List.replicate_succ, Int.toNat_natCast, List.set_append_right _ _ (by simp; omega), List.length_take, Nat.min_eq_left (by omega), Nat.sub_self, List.set_cons_zero,
        List.take_succ_eq_append_getElem hi, rd_nat, List.getD_eq_getElem?_getD, List.getElem?_eq_getElem hi, List.append_assoc]
      rfl
    rw [this]
    exact ih

theorem toItem_ev (l : List Int) (v : Int) (hl : l.length ≤ 1048576) : Ev (fun k => laws_toItem.f k l v) (l, v) := by
  unfold laws_toItem.f
  exact (toIntS_ev l (by omega)).bind (ev_now rfl)
theorem toItemS_ev (l : List S81) (hs : Small (l.map toI)) : Ev (fun k => laws_toItemS.f k l) (l.map toI) := by
  have hl : l.length ≤ 1048576 := by simpa using hs.len
  have h := ev_down (fun k i => laws_toItemS.l0 k l ((l.take i).map toI ++ List.replicate (l.length - i) z54) (i : Int)) (fun _ => l.map toI) l.length ?_ ?_ 0 (by omega)
  · unfold laws_toItemS.f
    refine ev_pos (by omega) (ev_pos (by omega) ?_)
    simpa using h
  · refine Ev.step (fun k => laws_toItemS.l0.eq_2 ..) (ev_neg (by omega) (ev_now (by simp)))
  · intro i hi ih
    have ht := toItem_ev l[i].f0 l[i].f1 (by have := hs.row (toI l[i]) (List.mem_map_of_mem (List.getElem_mem _)); exact this)
    refine Ev.step (fun k => laws_toItemS.l0.eq_2 ..) (ev_pos (by omega) (ev_pos (by omega) ?_))
    rw [rdL_at l i hi]
    refine ht.bind (ev_pos (by simp; omega) ?_)
    rw [w64n (by omega)]
    have : ((l.take i).map toI ++ List.replicate (l.length - i) z54).set (i : Int).toNat (⟨l[i].f0, l[i].f1⟩ : S54) = (l.take (i + 1)).map toI ++ List.replicate (l.length - (i + 1)) z54 := by
      obtain ⟨d, hd⟩ : ∃ d, l.length - i = d + 1 := ⟨l.length - i - 1, by omega⟩
      have h2 : l.length - (i + 1) = d := by omega
      rw [hd, h2, List.replicate_succ, Int.toNat_natCast, List.set_append_right _ _ (by simp; omega), List.length_map, List.length_take, Nat.min_eq_left (by omega), Nat.sub_self, List.set_cons_zero,
        List.take_succ_eq_append_getElem hi, List.map_append, List.append_assoc]
      rfl
    rw [this]
    exact ih

theorem eqIntS_ev (a b : List Int) (ha : a.length < 4611686018427387904) : Ev (fun k => laws_eqIntS.f k a b) (decide (a = b)) := by
  unfold laws_eqIntS.f
  by_cases hl : a.length = b.length
  · refine ev_pos (by omega) ?_
    have h := ev_down (fun k i => laws_eqIntS.l0 k a b (i : Int)) (fun i => decide (a.drop i = b.drop i)) a.length ?_ ?_ 0 (by omega)
    · simpa using h
    · refine Ev.step (fun k => laws_eqIntS.l0.eq_2 ..) (ev_neg (by omega) (ev_now ?_))
      rw [drop_end a _ (Nat.le_refl _), drop_end b _ (by omega)]; simp
    · intro i hi ih
      refine Ev.step (fun k => laws_eqIntS.l0.eq_2 ..) (ev_pos (by omega) (ev_pos (by omega) (ev_pos (by omega) ?_)))
      rw [drop_rd a i hi, drop_rd b i (by omega)]
      by_cases h1 : rd a i = rd b i
      · refine ev_pos h1 ?_
        rw [w64n (by omega)]
        simpa [h1] using ih
      · exact ev_neg h1 (ev_now (by simp [h1]))
  · exact ev_neg (by omega) (ev_now (by symm; rw [decide_eq_false_iff_not]; intro h; exact hl (by rw [h])))

theorem eqItem_ev (x y : S54) (ha : x.f0.length ≤ 1048576) : Ev (fun k => laws_eqItem.f k x.f0 x.f1 y.f0 y.f1) (decide (x = y)) := by
  unfold laws_eqItem.f
  refine (eqIntS_ev x.f0 y.f0 (by omega)).bind ?_
  by_cases h : x.f0 = y.f0
  · refine ev_pos (decide_eq_true h) ?_
    by_cases h1 : x.f1 = y.f1
    · exact ev_pos h1 (ev_now (decide_eq_true (ext_item h h1)).symm)
    · exact ev_neg h1 (ev_now (decide_eq_false (fun e => h1 (by rw [e]))).symm)
  · exact ev_neg (by simp [h]) (ev_now (decide_eq_false (fun e => h (by rw [e]))).symm)
theorem eqItemS_ev (a b : List S54) (hs : Small a) : Ev (fun k => laws_eqItemS.f k a b) (decide (a = b)) := by
  have ha := hs.len
  unfold laws_eqItemS.f
  by_cases hl : a.length = b.length
  · refine ev_pos (by omega) ?_
    have h := ev_down (fun k i => laws_eqItemS.l0 k a b (i : Int)) (fun i => decide (a.drop i = b.drop i)) a.length ?_ ?_ 0 (by omega)
    · simpa using h
    · refine Ev.step (fun k => laws_eqItemS.l0.eq_2 ..) (ev_neg (by omega) (ev_now ?_))
      rw [drop_end a _ (Nat.le_refl _), drop_end b _ (by omega)]; simp
    · intro i hi ih
      have he := eqItem_ev a[i] b[i] (hs.row _ (List.getElem_mem _))
      refine Ev.step (fun k => laws_eqItemS.l0.eq_2 ..) (ev_pos (by omega) (ev_pos (by omega) (ev_pos (by omega) ?_)))
      rw [rdI_at a i hi, rdI_at b i (by omega)]
      refine he.bind ?_
      rw [drop_at a i hi, drop_at b i (by omega)]
      by_cases h1 : a[i] = b[i]
      · refine ev_pos (decide_eq_true h1) ?_
        rw [w64n (by omega), dec_cons h1]
        exact ih
      · exact ev_neg (by rw [decide_eq_true_iff]; exact h1) (ev_now (dec_cons_ne h1).symm)
  · exact ev_neg (by omega) (ev_now (by symm; rw [decide_eq_false_iff_not]; intro h; exact hl (by rw [h])))

/-- RowOk -/
def cellB (n : Int) : Bool := decide (-1000000000 ≤ n ∧ n ≤ 1000000000)
def okRow (r : List Int) : Bool := decide (1 ≤ r.length) && decide (r.length ≤ 6) && r.all cellB
theorem specCell (n : Int) : spec_l1Cell.f n = some (cellB n) := by
  unfold spec_l1Cell.f cellB
  by_cases h : n ≥ -1000000000
  · rw [if_pos h]; simp; omega
  · rw [if_neg h]; simp; omega

/-- l1Order -/
def ordL : List Int → List Int → Int → Int
  | [], _, d => d
  | _ :: _, [], d => d
  | a :: x, b :: y, d => if a < b then -1 else if b < a then 1 else ordL x y d

theorem ordL_zero : ∀ a b : List Int, ordL a b ((a.length : Int) - b.length) = 0 ↔ a = b := by
  have go : ∀ (a b : List Int) (d : Int), d = (a.length : Int) - b.length → (ordL a b d = 0 ↔ a = b) := by
    intro a
    induction a with
    | nil => intro b d hd; cases b <;> simp [ordL] at hd ⊢ <;> omega
    | cons x a ih =>
      intro b d hd
      cases b with
      | nil => simp [ordL] at hd ⊢; omega
      | cons y b =>
        have := ih b d (by simp at hd; omega)
        simp only [ordL]
        by_cases h1 : x < y
        · rw [if_pos h1]; simp; omega
        · rw [if_neg h1]
          by_cases h2 : y < x
          · rw [if_pos h2]; simp; omega
          · rw [if_neg h2, this]
            obtain rfl : x = y := by omega
            simp
  exact fun a b => go a b _ rfl

/-- slices.Compare -/
def lexc : List Int → List Int → Int
  | [], [] => 0
  | [], _ :: _ => -1
  | _ :: _, [] => 1
  | a :: x, b :: y => if a < b then -1 else if b < a then 1 else lexc x y
theorem lexc_ordL : ∀ a b : List Int, (ordL a b ((a.length : Int) - b.length) < 0 ↔ lexc a b < 0) := by
  have go : ∀ (a b : List Int) (d : Int), d = (a.length : Int) - b.length → (ordL a b d < 0 ↔ lexc a b < 0) := by
    intro a
    induction a with
    | nil => intro b d hd; cases b <;> simp [ordL, lexc] at hd ⊢ <;> omega
    | cons x a ih =>
      intro b d hd
      cases b with
      | nil => simp [ordL, lexc] at hd ⊢; omega
      | cons y b =>
        have := ih b d (by simp at hd; omega)
        simp only [ordL, lexc]
        by_cases h1 : x < y
        · rw [if_pos h1, if_pos h1]
        · rw [if_neg h1, if_neg h1]
          by_cases h2 : y < x
          · rw [if_pos h2, if_pos h2]
          · rw [if_neg h2, if_neg h2, this]
  exact fun a b => go a b _ rfl

def okW (w : Int) : Bool := decide (w ≠ 0) && (decide (-10000 ≤ w) && decide (w ≤ 10000))
/-- items in order, behind a row -/
def chain : Option (List Int) → List S54 → Bool
  | _, [] => true
  | p, x :: z => okRow x.f0 && (okW x.f1 && ((match p with | none => true | some r => decide (lexc r x.f0 < 0)) && chain (some x.f0) z))
theorem chain_nil (p : Option (List Int)) : chain p [] = true := by cases p <;> rfl
theorem chain_cons (p : Option (List Int)) (x : S54) (z : List S54) : chain p (x :: z) = (okRow x.f0 && (okW x.f1 && ((match p with | none => true | some r => decide (lexc r x.f0 < 0)) && chain (some x.f0) z))) := by cases p <;> rfl
def okZ (z : List S54) : Bool := decide (z.length ≤ 100) && chain none z
/-- the row ahead of a place -/
def ahead (z : List S54) (i : Nat) : Option (List Int) := if i = 0 then none else (z[i - 1]?).map (·.f0)
theorem ahead_succ (z : List S54) (i : Nat) (h : i < z.length) : ahead z (i + 1) = some z[i].f0 := by
  unfold ahead
  rw [if_neg (by omega), Nat.add_sub_cancel, List.getElem?_eq_getElem h]
  rfl

theorem lexc_swap : ∀ a b : List Int, lexc b a = - lexc a b := by
  intro a
  induction a with
  | nil => intro b; cases b <;> rfl
  | cons x a ih =>
    intro b
    cases b with
    | nil => rfl
    | cons y b =>
      simp only [lexc]
      by_cases h1 : x < y
      · rw [if_pos h1, if_neg (by omega), if_pos h1]; rfl
      · rw [if_neg h1]
        by_cases h2 : y < x
        · rw [if_pos h2, if_neg h1, if_pos h2]
        · rw [if_neg h2, if_neg h1, if_neg h2, ih]
theorem lexc_zero : ∀ a b : List Int, lexc a b = 0 ↔ a = b := by
  intro a
  induction a with
  | nil => intro b; cases b <;> simp [lexc]
  | cons x a ih =>
    intro b
    cases b with
    | nil => simp [lexc]
    | cons y b =>
      simp only [lexc]
      by_cases h1 : x < y
      · rw [if_pos h1]; simp; omega
      · rw [if_neg h1]
        by_cases h2 : y < x
        · rw [if_pos h2]; simp; omega
        · rw [if_neg h2, ih]
          obtain rfl : x = y := by omega
          simp
theorem lexc_trans : ∀ a b c : List Int, lexc a b < 0 → lexc b c < 0 → lexc a c < 0 := by
  intro a
  induction a with
  | nil =>
    intro b c h1 h2
    cases b with
    | nil => simp [lexc] at h1
    | cons y b =>
      cases c with
      | nil => simp [lexc] at h2
      | cons z c => simp [lexc]
  | cons x a ih =>
    intro b c h1 h2
    cases b with
    | nil => simp [lexc] at h1
    | cons y b =>
      cases c with
      | nil => simp [lexc] at h2
      | cons z c =>
        simp only [lexc] at h1 h2 ⊢
        by_cases c1 : x < z
        · rw [if_pos c1]; decide
        · rw [if_neg c1]
          by_cases d1 : x < y
          · rw [if_neg (by omega)] at h2
            rw [if_pos (by omega)] at h2
            simp at h2
          · rw [if_neg d1] at h1
            by_cases d2 : y < x
            · rw [if_pos d2] at h1; simp at h1
            · rw [if_neg d2] at h1
              obtain rfl : x = y := by omega
              rw [if_neg c1] at h2
              by_cases c2 : z < x
              · rw [if_pos c2] at h2; simp at h2
              · rw [if_neg c2] at h2 ⊢
                exact ih b c h1 h2
theorem lexc_app : ∀ a b : List Int, lexc a (a ++ b) = if b = [] then 0 else -1 := by
  intro a
  induction a with
  | nil => intro b; cases b <;> simp [lexc]
  | cons x a ih =>
    intro b
    rw [List.cons_append]
    simp only [lexc]
    rw [if_neg (by omega), if_neg (by omega), ih]

theorem okRow_iff (r : List Int) : okRow r = true ↔ (1 ≤ r.length ∧ r.length ≤ 6 ∧ ∀ x ∈ r, cellB x = true) := by
  unfold okRow; simp [and_assoc]
theorem okRow_set (r : List Int) (v : Int) (hr : 1 ≤ r.length) (hv : cellB v = false) : okRow (r.set 0 v) = false := by
  rw [Bool.eq_false_iff]
  intro h
  have := ((okRow_iff _).1 h).2.2 v (List.mem_set (by omega) v)
  rw [hv] at this
  cases this
theorem lexc_take : ∀ (r : List Int) (n : Nat), n < r.length → lexc (r.take n) r = -1 := by
  intro r
  induction r with
  | nil => intro n h; simp at h
  | cons x r ih =>
    intro n h
    cases n with
    | zero => rfl
    | succ n =>
      rw [List.take_succ_cons]
      simp only [lexc]
      rw [if_neg (by omega), if_neg (by omega)]
      exact ih n (by simpa using h)
theorem okRow_take (r : List Int) (n : Nat) (h : okRow r = true) : okRow (r.take n) = decide ((r.take n).length > 0) := by
  obtain ⟨h1, h2, h3⟩ := (okRow_iff r).1 h
  rw [Bool.eq_iff_iff, okRow_iff, decide_eq_true_iff]
  constructor
  · intro k; omega
  · intro k
    exact ⟨by omega, by rw [List.length_take]; omega, fun x hx => h3 x (List.mem_of_mem_take hx)⟩

/-- rows in order, pairwise -/
def sorted (z : List S54) : Prop := ∀ i j (hi : i < z.length) (hj : j < z.length), i < j → lexc z[i].f0 z[j].f0 < 0
theorem chain_sorted : ∀ (z : List S54) (p : Option (List Int)), chain p z = true → (∀ r, p = some r → ∀ x ∈ z, lexc r x.f0 < 0) ∧ z.Pairwise (fun x y => lexc x.f0 y.f0 < 0) ∧ ∀ x ∈ z, okRow x.f0 = true ∧ okW x.f1 = true := by
  intro z
  induction z with
  | nil => intro p _; exact ⟨by simp, .nil, by simp⟩
  | cons x z ih =>
    intro p h
    rw [chain_cons] at h
    simp only [Bool.and_eq_true] at h
    obtain ⟨h1, h2, h3, h4⟩ := h
    obtain ⟨i1, i2, i3⟩ := ih _ h4
    have i1 := i1 _ rfl
    refine ⟨fun r hr y hy => ?_, List.pairwise_cons.2 ⟨i1, i2⟩, fun y hy => ?_⟩
    · subst hr
      have h3' : lexc r x.f0 < 0 := by simpa using h3
      rcases List.mem_cons.1 hy with e | e
      · subst e; exact h3'
      · exact lexc_trans _ _ _ h3' (i1 y e)
    · rcases List.mem_cons.1 hy with e | e
      · subst e; exact ⟨h1, h2⟩
      · exact i3 y e
theorem okZ_facts {z : List S54} (h : okZ z = true) : z.length ≤ 100 ∧ z.Pairwise (fun x y => lexc x.f0 y.f0 < 0) ∧ ∀ x ∈ z, okRow x.f0 = true ∧ okW x.f1 = true := by
  unfold okZ at h
  simp only [Bool.and_eq_true, decide_eq_true_iff] at h
  obtain ⟨h1, h2⟩ := h
  obtain ⟨_, h3, h4⟩ := chain_sorted z none h2
  exact ⟨h1, h3, h4⟩
theorem pairwise_at {α : Type} {R : α → α → Prop} {z : List α} (h : z.Pairwise R) {i j : Nat} (hi : i < z.length) (hj : j < z.length) (hij : i < j) : R z[i] z[j] := List.pairwise_iff_getElem.1 h i j hi hj hij

/-- the weight of a row, or 0 -/
def wOf (r : List Int) : List S54 → Int
  | [] => 0
  | x :: z => if x.f0 = r then x.f1 else wOf r z
def getZ (z : List S54) (r : List Int) : Int := if okZ z = true then wOf r z else 0

/-! weighted lists in order -/
theorem lexc_irr (a : List Int) : lexc a a = 0 := (lexc_zero a a).2 rfl
theorem lexc_gt {a b : List Int} (h1 : ¬ lexc a b < 0) (h2 : a ≠ b) : lexc b a < 0 := by
  have := lexc_swap a b
  have h3 : lexc a b ≠ 0 := fun e => h2 ((lexc_zero a b).1 e)
  omega
/-- rows in order, and no weight of 0 -/
structure Canon (z : List S54) : Prop where
  ord : z.Pairwise (fun x y => lexc x.f0 y.f0 < 0)
  nz : ∀ x ∈ z, x.f1 ≠ 0
theorem Canon.nil : Canon [] := ⟨.nil, by simp⟩
theorem Canon.tail {x : S54} {z : List S54} (h : Canon (x :: z)) : Canon z := ⟨(List.pairwise_cons.1 h.ord).2, fun y hy => h.nz y (List.mem_cons_of_mem _ hy)⟩
theorem Canon.head {x : S54} {z : List S54} (h : Canon (x :: z)) : ∀ y ∈ z, lexc x.f0 y.f0 < 0 := (List.pairwise_cons.1 h.ord).1
theorem canon_cons {x : S54} {z : List S54} (h : Canon z) (h0 : x.f1 ≠ 0) (h1 : ∀ y ∈ z, lexc x.f0 y.f0 < 0) : Canon (x :: z) :=
  ⟨List.pairwise_cons.2 ⟨h1, h.ord⟩, fun y hy => (List.mem_cons.1 hy).elim (fun e => by rw [e]; exact h0) (fun e => h.nz y e)⟩
theorem wOf_below {r : List Int} : ∀ {z : List S54}, (∀ y ∈ z, lexc r y.f0 < 0) → wOf r z = 0 := by
  intro z
  induction z with
  | nil => intro _; rfl
  | cons x z ih =>
    intro h
    have hx := h x List.mem_cons_self
    unfold wOf
    rw [if_neg (fun e => by rw [e, lexc_irr] at hx; omega)]
    exact ih (fun y hy => h y (List.mem_cons_of_mem _ hy))
theorem wOf_mem : ∀ {z : List S54} {x : S54}, Canon z → x ∈ z → wOf x.f0 z = x.f1 := by
  intro z
  induction z with
  | nil => intro x _ h; cases h
  | cons y z ih =>
    intro x hc hx
    unfold wOf
    rcases List.mem_cons.1 hx with e | e
    · subst e; rw [if_pos rfl]
    · have := hc.head x e
      rw [if_neg (fun e2 => by rw [e2, lexc_irr] at this; omega)]
      exact ih hc.tail e
theorem wOf_ne : ∀ {z : List S54} {r : List Int}, wOf r z ≠ 0 → ∃ x ∈ z, x.f0 = r := by
  intro z
  induction z with
  | nil => intro r h; exact absurd rfl h
  | cons y z ih =>
    intro r h
    unfold wOf at h
    by_cases e : y.f0 = r
    · exact ⟨y, List.mem_cons_self, e⟩
    · rw [if_neg e] at h
      obtain ⟨x, hx, hr⟩ := ih h
      exact ⟨x, List.mem_cons_of_mem _ hx, hr⟩
theorem wOf_mem' {x y : S54} {b : List S54} (hb : Canon (y :: b)) (e : x.f0 = y.f0) : wOf x.f0 (y :: b) = y.f1 := by rw [e]; exact wOf_mem hb List.mem_cons_self
theorem canon_ext : ∀ {a b : List S54}, Canon a → Canon b → (∀ r, wOf r a = wOf r b) → a = b := by
  intro a
  induction a with
  | nil =>
    intro b _ hb h
    cases b with
    | nil => rfl
    | cons y b =>
      have := h y.f0
      rw [wOf_mem hb List.mem_cons_self] at this
      exact absurd this.symm (hb.nz y List.mem_cons_self)
  | cons x a ih =>
    intro b ha hb h
    cases b with
    | nil =>
      have := h x.f0
      rw [wOf_mem ha List.mem_cons_self] at this
      exact absurd this (ha.nz x List.mem_cons_self)
    | cons y b =>
      have hx := h x.f0
      rw [wOf_mem ha List.mem_cons_self] at hx
      have hy := h y.f0
      rw [wOf_mem hb List.mem_cons_self] at hy
      have e0 : x.f0 = y.f0 := by
        obtain ⟨u, hu, hur⟩ := wOf_ne (z := y :: b) (r := x.f0) (by rw [← hx]; exact ha.nz x List.mem_cons_self)
        obtain ⟨v, hv, hvr⟩ := wOf_ne (z := x :: a) (r := y.f0) (by rw [hy]; exact hb.nz y List.mem_cons_self)
        rcases List.mem_cons.1 hu with e | e
        · rw [← hur, e]
        · rcases List.mem_cons.1 hv with e2 | e2
          · rw [← hvr, e2]
          · have h1 := hb.head u e
            have h2 := ha.head v e2
            rw [hur] at h1
            rw [hvr] at h2
            have := lexc_swap x.f0 y.f0
            omega
      have e1 : x.f1 = y.f1 := by rw [hx, wOf_mem' hb e0]
      obtain rfl : x = y := ext_item e0 e1
      congr 1
      refine ih ha.tail hb.tail (fun r => ?_)
      have := h r
      unfold wOf at this
      by_cases e : x.f0 = r
      · subst e
        rw [wOf_below ha.head, wOf_below hb.head]
      · rw [if_neg e, if_neg e] at this
        exact this

/-- spec's l2Put -/
def putL (r : List Int) (w : Int) : List S54 → List S54
  | [] => if w = 0 then [] else [⟨r, w⟩]
  | x :: z => if lexc x.f0 r < 0 then x :: putL r w z else if x.f0 = r then (if x.f1 + w = 0 then z else ⟨x.f0, x.f1 + w⟩ :: z) else if w = 0 then x :: z else ⟨r, w⟩ :: x :: z
theorem putL_rows (r : List Int) (w : Int) : ∀ (z : List S54), ∀ y ∈ putL r w z, y.f0 = r ∨ ∃ x ∈ z, x.f0 = y.f0 := by
  intro z
  induction z with
  | nil => intro y hy; unfold putL at hy; split at hy <;> simp at hy; left; rw [hy]
  | cons x z ih =>
    intro y hy
    unfold putL at hy
    split at hy
    · rcases List.mem_cons.1 hy with e | e
      · exact .inr ⟨x, List.mem_cons_self, by rw [e]⟩
      · rcases ih y e with h | ⟨u, hu, h⟩
        · exact .inl h
        · exact .inr ⟨u, List.mem_cons_of_mem _ hu, h⟩
    · split at hy
      · split at hy
        · exact .inr ⟨y, List.mem_cons_of_mem _ hy, rfl⟩
        · rcases List.mem_cons.1 hy with e | e
          · exact .inr ⟨x, List.mem_cons_self, by rw [e]⟩
          · exact .inr ⟨y, List.mem_cons_of_mem _ e, rfl⟩
      · split at hy
        · exact .inr ⟨y, hy, rfl⟩
        · rcases List.mem_cons.1 hy with e | e
          · exact .inl (by rw [e])
          · exact .inr ⟨y, e, rfl⟩
theorem putL_canon (r : List Int) (w : Int) : ∀ (z : List S54), Canon z → Canon (putL r w z) := by
  intro z
  induction z with
  | nil => intro _; unfold putL; split
           · exact Canon.nil
           · exact ⟨.cons (by simp) .nil, by simpa using ‹¬ w = 0›⟩
  | cons x z ih =>
    intro hc
    unfold putL
    split
    · next h1 =>
      refine canon_cons (ih hc.tail) (hc.nz x List.mem_cons_self) (fun y hy => ?_)
      rcases putL_rows r w z y hy with h | ⟨u, hu, h⟩
      · rw [h]; exact h1
      · rw [← h]; exact hc.head u hu
    · next h1 =>
      split
      · split
        · exact hc.tail
        · next h3 => exact canon_cons hc.tail h3 hc.head
      · next h2 =>
        split
        · exact hc
        · next h3 =>
          have h4 := lexc_gt h1 h2
          refine canon_cons hc h3 (fun y hy => ?_)
          rcases List.mem_cons.1 hy with e | e
          · rw [e]; exact h4
          · exact lexc_trans _ _ _ h4 (hc.head y e)
theorem putL_wOf (r : List Int) (w : Int) (s : List Int) : ∀ (z : List S54), Canon z → wOf s (putL r w z) = wOf s z + if s = r then w else 0 := by
  intro z
  induction z with
  | nil =>
    intro _
    unfold putL
    split
    · next h => subst h; simp [wOf]
    · simp only [wOf]
      by_cases e : r = s
      · rw [if_pos e, if_pos e.symm]; omega
      · rw [if_neg e, if_neg (Ne.symm e)]; omega
  | cons x z ih =>
    intro hc
    unfold putL
    split
    · next h1 =>
      unfold wOf
      by_cases e : x.f0 = s
      · rw [if_pos e, if_pos e, if_neg (fun e2 => by rw [e, e2, lexc_irr] at h1; omega)]; omega
      · rw [if_neg e, if_neg e]; exact ih hc.tail
    · next h1 =>
      split
      · next h2 =>
        split
        · next h3 =>
          by_cases e : x.f0 = s
          · subst e
            rw [wOf_below hc.head, if_pos h2, wOf, if_pos rfl]; omega
          · rw [if_neg (fun e2 => e (by rw [e2, h2])), wOf, if_neg e]; omega
        · by_cases e : x.f0 = s
          · rw [wOf, wOf, if_pos e, if_pos e, if_pos (by rw [← e, h2])]
          · rw [wOf, wOf, if_neg e, if_neg e, if_neg (fun e2 => e (by rw [e2, h2]))]; omega
      · next h2 =>
        split
        · next h3 => subst h3; split <;> omega
        · next h3 =>
          have h4 := lexc_gt h1 h2
          by_cases e : s = r
          · subst e
            have : wOf s (x :: z) = 0 := wOf_below (fun y hy => by
              rcases List.mem_cons.1 hy with e | e
              · rw [e]; exact h4
              · exact lexc_trans _ _ _ h4 (hc.head y e))
            rw [this, if_pos rfl, wOf, if_pos rfl]; show w = 0 + w; omega
          · rw [if_neg e, wOf, if_neg (show ¬ (⟨r, w⟩ : S54).f0 = s from fun e2 => e e2.symm)]; omega
theorem putL_len (r : List Int) (w : Int) : ∀ (z : List S54), (putL r w z).length ≤ z.length + 1 := by
  intro z
  induction z with
  | nil => unfold putL; split <;> simp
  | cons x z ih => unfold putL; repeat' split
                   all_goals simp <;> omega
/-- many, one by one -/
def addL (a b : List S54) : List S54 := b.foldl (fun o x => putL x.f0 x.f1 o) a
theorem addL_canon : ∀ (b a : List S54), Canon a → Canon (addL a b) := by
  intro b
  induction b with
  | nil => intro a h; exact h
  | cons x b ih => intro a h; exact ih _ (putL_canon _ _ _ h)
/-- the sum of the weights of a row -/
def sumW (r : List Int) : List S54 → Int
  | [] => 0
  | x :: z => (if x.f0 = r then x.f1 else 0) + sumW r z
theorem sumW_canon (r : List Int) : ∀ (z : List S54), Canon z → sumW r z = wOf r z := by
  intro z
  induction z with
  | nil => intro _; rfl
  | cons x z ih =>
    intro h
    unfold sumW wOf
    rw [ih h.tail]
    by_cases e : x.f0 = r
    · subst e; rw [if_pos rfl, if_pos rfl, wOf_below h.head]; omega
    · rw [if_neg e, if_neg e]; omega
theorem addL_sum (r : List Int) : ∀ (b a : List S54), Canon a → wOf r (addL a b) = wOf r a + sumW r b := by
  intro b
  induction b with
  | nil => intro a _; simp [addL, sumW]
  | cons x b ih =>
    intro a h
    show wOf r (addL (putL x.f0 x.f1 a) b) = _
    rw [ih _ (putL_canon _ _ _ h), putL_wOf _ _ _ _ h, sumW]
    by_cases e : x.f0 = r
    · rw [if_pos e, if_pos e.symm]; omega
    · rw [if_neg e, if_neg (Ne.symm e)]; omega
theorem addL_wOf (r : List Int) (a b : List S54) (ha : Canon a) (hb : Canon b) : wOf r (addL a b) = wOf r a + wOf r b := by
  rw [addL_sum r b a ha, sumW_canon r b hb]
/-- impl's merged, with sums -/
def merL : List S54 → List S54 → List S54
  | [], b => b
  | x :: a, [] => x :: a
  | x :: a, y :: b => if lexc x.f0 y.f0 < 0 then x :: merL a (y :: b) else if lexc y.f0 x.f0 < 0 then y :: merL (x :: a) b else if x.f1 + y.f1 = 0 then merL a b else ⟨x.f0, x.f1 + y.f1⟩ :: merL a b
  termination_by a b => a.length + b.length
theorem merL_rows : ∀ (n : Nat) (a b : List S54), a.length + b.length ≤ n → ∀ y ∈ merL a b, (∃ x ∈ a, x.f0 = y.f0) ∨ ∃ x ∈ b, x.f0 = y.f0 := by
  intro n
  induction n with
  | zero => intro a b h y hy; cases a <;> cases b <;> simp [merL] at h hy
  | succ n ih =>
    intro a b h y hy
    cases a with
    | nil => rw [merL] at hy; exact .inr ⟨y, hy, rfl⟩
    | cons x a =>
      cases b with
      | nil => rw [merL] at hy; exact .inl ⟨y, hy, rfl⟩
      | cons u b =>
        simp only [List.length_cons] at h
        have lift : ((∃ q ∈ a, q.f0 = y.f0) ∨ ∃ q ∈ b, q.f0 = y.f0) → (∃ q ∈ x :: a, q.f0 = y.f0) ∨ ∃ q ∈ u :: b, q.f0 = y.f0 := fun h => h.imp (fun ⟨q, h1, h2⟩ => ⟨q, List.mem_cons_of_mem _ h1, h2⟩) (fun ⟨q, h1, h2⟩ => ⟨q, List.mem_cons_of_mem _ h1, h2⟩)
        rw [merL] at hy
        split at hy
        · rcases List.mem_cons.1 hy with e | e
          · exact .inl ⟨x, List.mem_cons_self, by rw [e]⟩
          · rcases ih a (u :: b) (by simp; omega) y e with ⟨q, h1, h2⟩ | h1
            · exact .inl ⟨q, List.mem_cons_of_mem _ h1, h2⟩
            · exact .inr h1
        · split at hy
          · rcases List.mem_cons.1 hy with e | e
            · exact .inr ⟨u, List.mem_cons_self, by rw [e]⟩
            · rcases ih (x :: a) b (by simp; omega) y e with h1 | ⟨q, h1, h2⟩
              · exact .inl h1
              · exact .inr ⟨q, List.mem_cons_of_mem _ h1, h2⟩
          · split at hy
            · exact lift (ih a b (by omega) y hy)
            · rcases List.mem_cons.1 hy with e | e
              · exact .inl ⟨x, List.mem_cons_self, by rw [e]⟩
              · exact lift (ih a b (by omega) y e)
theorem merL_spec : ∀ (n : Nat) (a b : List S54), a.length + b.length ≤ n → Canon a → Canon b → Canon (merL a b) ∧ ∀ r, wOf r (merL a b) = wOf r a + wOf r b := by
  intro n
  induction n with
  | zero => intro a b h _ _; cases a <;> cases b <;> simp [merL, wOf, Canon.nil] at h ⊢
  | succ n ih =>
    intro a b h ha hb
    cases a with
    | nil => rw [merL]; exact ⟨hb, fun r => by simp [wOf]⟩
    | cons x a =>
      cases b with
      | nil => rw [merL]; exact ⟨ha, fun r => by simp [wOf]⟩
      | cons u b =>
        simp only [List.length_cons] at h
        rw [merL]
        split
        · next h1 =>
          obtain ⟨c, e⟩ := ih a (u :: b) (by simp; omega) ha.tail hb
          refine ⟨canon_cons c (ha.nz x List.mem_cons_self) (fun y hy => ?_), fun r => ?_⟩
          · rcases merL_rows _ a (u :: b) (Nat.le_refl _) y hy with ⟨q, hq, h2⟩ | ⟨q, hq, h2⟩
            · rw [← h2]; exact ha.head q hq
            · rw [← h2]
              rcases List.mem_cons.1 hq with e | e
              · rw [e]; exact h1
              · exact lexc_trans _ _ _ h1 (hb.head q e)
          · rw [wOf, wOf]
            by_cases e0 : x.f0 = r
            · rw [if_pos e0, if_pos e0]
              have : wOf r (u :: b) = 0 := wOf_below (fun y hy => by
                rw [← e0]
                rcases List.mem_cons.1 hy with e | e
                · rw [e]; exact h1
                · exact lexc_trans _ _ _ h1 (hb.head y e))
              omega
            · rw [if_neg e0, if_neg e0]; exact e r
        · next h1 =>
          split
          · next h2 =>
            obtain ⟨c, e⟩ := ih (x :: a) b (by simp; omega) ha hb.tail
            refine ⟨canon_cons c (hb.nz u List.mem_cons_self) (fun y hy => ?_), fun r => ?_⟩
            · rcases merL_rows _ (x :: a) b (Nat.le_refl _) y hy with ⟨q, hq, h3⟩ | ⟨q, hq, h3⟩
              · rw [← h3]
                rcases List.mem_cons.1 hq with e | e
                · rw [e]; exact h2
                · exact lexc_trans _ _ _ h2 (ha.head q e)
              · rw [← h3]; exact hb.head q hq
            · rw [wOf, wOf.eq_2 r u b]
              by_cases e0 : u.f0 = r
              · rw [if_pos e0, if_pos e0]
                have : wOf r (x :: a) = 0 := wOf_below (fun y hy => by
                  rw [← e0]
                  rcases List.mem_cons.1 hy with e | e
                  · rw [e]; exact h2
                  · exact lexc_trans _ _ _ h2 (ha.head y e))
                omega
              · rw [if_neg e0, if_neg e0]; exact e r
          · next h2 =>
            have h3 : x.f0 = u.f0 := by
              refine (lexc_zero _ _).1 ?_
              have := lexc_swap x.f0 u.f0
              omega
            obtain ⟨c, e⟩ := ih a b (by omega) ha.tail hb.tail
            have low : ∀ y ∈ merL a b, lexc x.f0 y.f0 < 0 := fun y hy => by
              rcases merL_rows _ a b (Nat.le_refl _) y hy with ⟨q, hq, h4⟩ | ⟨q, hq, h4⟩
              · rw [← h4]; exact ha.head q hq
              · rw [← h4, h3]; exact hb.head q hq
            split
            · next h4 =>
              refine ⟨c, fun r => ?_⟩
              rw [e r, wOf.eq_2 r x a, wOf.eq_2 r u b]
              by_cases e0 : x.f0 = r
              · rw [if_pos e0, if_pos (by rw [← h3]; exact e0), ← e0, wOf_below ha.head, h3, wOf_below hb.head]; omega
              · rw [if_neg e0, if_neg (by rw [← h3]; exact e0)]
            · next h4 =>
              refine ⟨canon_cons c h4 low, fun r => ?_⟩
              rw [wOf, wOf, wOf]
              by_cases e0 : x.f0 = r
              · rw [if_pos e0, if_pos e0, if_pos (by rw [← h3]; exact e0)]
              · rw [if_neg e0, if_neg e0, if_neg (by rw [← h3]; exact e0)]; exact e r
theorem merL_addL (a b : List S54) (ha : Canon a) (hb : Canon b) : merL a b = addL a b := by
  obtain ⟨c, e⟩ := merL_spec _ a b (Nat.le_refl _) ha hb
  exact canon_ext c (addL_canon _ _ ha) (fun r => by rw [e, addL_wOf r a b ha hb])

theorem l1Order_ev (a b : List Int) (ha : a.length < 4611686018427387904) (hb : b.length < 4611686018427387904) : Ev (fun k => spec_l1Order.f k a b) (ordL a b ((a.length : Int) - b.length)) := by
  have h := ev_down (fun k i => spec_l1Order.l0 k a b (i : Int)) (fun i => ordL (a.drop i) (b.drop i) ((a.length : Int) - b.length)) a.length ?_ ?_ 0 (by omega)
  · simpa [spec_l1Order.f] using h
  · refine Ev.step (fun k => spec_l1Order.l0.eq_2 ..) (ev_neg (by omega) (ev_now ?_))
    rw [drop_end a _ (Nat.le_refl _), ordL, w64 (by omega) (by omega)]
  · intro i hi ih
    refine Ev.step (fun k => spec_l1Order.l0.eq_2 ..) (ev_pos (by omega) ?_)
    by_cases hb' : i < b.length
    · rw [drop_rd a i hi, drop_rd b i hb']
      refine ev_pos (by omega) (ev_pos (by omega) ?_)
      by_cases h1 : rd a i < rd b i
      · exact ev_pos h1 (ev_now (by rw [ordL, if_pos h1]))
      · refine ev_neg h1 ?_
        by_cases h2 : rd a i > rd b i
        · exact ev_pos h2 (ev_now (by rw [ordL, if_neg h1, if_pos h2]))
        · refine ev_neg h2 ?_
          rw [w64n (by omega), ordL, if_neg h1, if_neg h2]
          exact ih
    · refine ev_neg (by omega) (ev_now ?_)
      rw [drop_end b i (by omega), w64 (by omega) (by omega)]
      cases a.drop i <;> rfl

theorem specLess_ev (a b : List Int) (ha : a.length < 4611686018427387904) (hb : b.length < 4611686018427387904) : Ev (fun k => spec_RowLess.f k a b) (decide (lexc a b < 0)) := by
  unfold spec_RowLess.f
  refine (l1Order_ev a b ha hb).bind (ev_now ?_)
  rw [decide_eq_decide]
  exact lexc_ordL a b

theorem specSame_ev (a b : List Int) (ha : a.length < 4611686018427387904) (hb : b.length < 4611686018427387904) : Ev (fun k => spec_RowSame.f k a b) (decide (a = b)) := by
  unfold spec_RowSame.f
  refine (l1Order_ev a b ha hb).bind (ev_now ?_)
  rw [Bool.eq_iff_iff, beq_iff_eq, decide_eq_true_iff]
  exact ordL_zero a b

theorem specCopy (a : List Int) (ha : a.length < 17592186044416) : spec_l1Copy.f a = some a := by
  unfold spec_l1Copy.f
  simp only [Option.bind_some]
  rw [if_pos (by simp; omega)]
  simp

theorem erase_set {α : Type} (z : List α) (i : Nat) (x : α) : (z.set i x).eraseIdx i = z.take i ++ z.drop (i + 1) := by
  rw [List.eraseIdx_eq_take_drop_succ, List.take_set_of_le (Nat.le_refl _), List.drop_set_of_lt (by omega)]
theorem set_split {α : Type} (z : List α) (i : Nat) (x : α) (h : i < z.length) : z.set i x = z.take i ++ x :: z.drop (i + 1) := by
  rw [List.set_eq_take_append_cons_drop, if_pos h]
/-- weights far from the ends of their kind -/
def Tame (z : List S54) : Prop := ∀ x ∈ z, -1000000000000000 ≤ x.f1 ∧ x.f1 ≤ 1000000000000000
theorem specPut_ev (z : List S54) (r : List Int) (w : Int) (hs : Small z) (hr : r.length ≤ 1048576) (hw : Tame z) (hw0 : -1000000000000000 ≤ w ∧ w ≤ 1000000000000000) : Ev (fun k => spec_l2Put.f k z r w) (putL r w z) := by
  have hz := hs.len
  have h := ev_down (fun k i => spec_l2Put.l0 k z r w (i : Int)) (fun i => z.take i ++ putL r w (z.drop i)) z.length ?_ ?_ 0 (by omega)
  · simpa [spec_l2Put.f] using h
  · refine Ev.step (fun k => spec_l2Put.l0.eq_2 ..) (ev_neg (by omega) ?_)
    rw [drop_end z _ (Nat.le_refl _), List.take_length]
    by_cases h0 : w = 0
    · exact ev_pos h0 (ev_now (by simp [putL, h0]))
    · refine ev_neg h0 (ev_pos (by omega) (ev_pos (by omega) (ev_some (ev_eq (specCopy r (by omega)) (ev_pos (by simp; omega) (ev_pos (by omega) (ev_now ?_)))))))
      simp [putL, h0]
  · intro i hi ih
    have hri := hs.row _ (List.getElem_mem hi)
    refine Ev.step (fun k => spec_l2Put.l0.eq_2 ..) (ev_pos (by omega) (ev_pos (by omega) ?_))
    rw [rdI_at z i hi, drop_at z i hi]
    refine (specLess_ev z[i].f0 r (by omega) (by omega)).bind ?_
    by_cases h1 : lexc z[i].f0 r < 0
    · refine ev_pos (decide_eq_true h1) ?_
      rw [w64n (by omega), putL, if_pos h1]
      rw [List.take_succ_eq_append_getElem hi, List.append_assoc] at ih
      exact ih
    · refine ev_neg (by simpa using h1) ((specSame_ev z[i].f0 r (by omega) (by omega)).bind ?_)
      rw [putL, if_neg h1]
      by_cases h2 : z[i].f0 = r
      · refine ev_pos (decide_eq_true h2) ?_
        have hwx := hw _ (List.getElem_mem hi)
        rw [w64 (x := z[i].f1 + w) (by omega) (by omega), Int.toNat_natCast, if_pos h2]
        refine ev_some ?_
        have e1 : rd_T54 (z.set i (⟨z[i].f0, z[i].f1 + w⟩ : S54)) (i : Int) = ⟨z[i].f0, z[i].f1 + w⟩ := by rw [rdI_at _ i (by simpa using hi)]; simp
        rw [e1]
        by_cases h3 : z[i].f1 + w = 0
        · refine ev_pos h3 ?_
          rw [if_pos h3, w64n (by omega)]
          exact ev_pos (by omega) (ev_pos (by omega) (ev_pos (by omega) (ev_now (erase_set z i _))))
        · refine ev_neg h3 (ev_now ?_)
          rw [if_neg h3]
          exact set_split z i _ hi
      · refine ev_neg (by simpa using h2) ?_
        rw [if_neg h2]
        by_cases h3 : w = 0
        · refine ev_pos h3 (ev_now ?_)
          rw [if_pos h3, ← drop_at z i hi, List.take_append_drop]
        · refine ev_neg h3 (ev_pos (by omega) (ev_some (ev_eq (specCopy r (by omega)) (ev_pos (by simp; omega) (ev_pos (by omega) (ev_now ?_))))))
          rw [Int.toNat_natCast, drop_at z i hi, if_neg h3, List.append_assoc]
          rfl
theorem putL_small (r : List Int) (w : Int) (z : List S54) (hs : ∀ x ∈ z, x.f0.length ≤ 1048576) (hr : r.length ≤ 1048576) : ∀ x ∈ putL r w z, x.f0.length ≤ 1048576 := by
  intro y hy
  rcases putL_rows r w z y hy with h | ⟨u, hu, h⟩
  · rw [h]; exact hr
  · rw [← h]; exact hs u hu

theorem specRowOk_ev (r : List Int) (hr : r.length < 4611686018427387904) : Ev (fun k => spec_RowOk.f k r) (okRow r) := by
  have h := ev_down (fun k i => spec_RowOk.l0 k r (i : Int)) (fun i => (decide (1 ≤ r.length) && decide (r.length ≤ 6)) && (r.drop i).all cellB) r.length ?_ ?_ 0 (by omega)
  · simpa [spec_RowOk.f, okRow] using h
  · refine Ev.step (fun k => spec_RowOk.l0.eq_2 ..) (ev_neg (by omega) ?_)
    rw [drop_end r _ (Nat.le_refl _)]
    by_cases h : 1 ≤ r.length
    · exact ev_pos (by omega) (ev_now (by simp [h]; omega))
    · exact ev_neg (by omega) (ev_now (by simp [h]))
  · intro i hi ih
    refine Ev.step (fun k => spec_RowOk.l0.eq_2 ..) (ev_pos (by omega) (ev_pos (by omega) (ev_eq (specCell _) ?_)))
    rw [drop_rd r i hi, List.all_cons]
    cases hc : cellB (rd r i) with
    | true =>
      refine ev_pos rfl ?_
      rw [w64n (by omega), Bool.true_and]
      exact ih
    | false => exact ev_neg (by decide) (ev_now (by simp))

theorem specW (w : Int) : spec_l2W.f w = some (okW w) := by
  unfold spec_l2W.f okW
  by_cases h : w = 0
  · rw [if_pos h]; simp [h]
  · rw [if_neg h]
    by_cases h1 : w ≥ -10000
    · rw [if_pos h1]; simp [h]; omega
    · rw [if_neg h1]; simp; omega
theorem specZOk_ev (z : List S54) (hs : Small z) : Ev (fun k => spec_ZOk.f k z) (okZ z) := by
  have hz := hs.len
  unfold spec_ZOk.f okZ
  by_cases hl : (z.length : Int) > 100
  · exact ev_pos hl (ev_now (by rw [decide_eq_false (by omega)]; rfl))
  refine ev_neg hl ?_
  rw [decide_eq_true (by omega : z.length ≤ 100), Bool.true_and]
  have h := ev_down (fun k i => spec_ZOk.l0 k z (i : Int)) (fun i => chain (ahead z i) (z.drop i)) z.length ?_ ?_ 0 (by omega)
  · simpa [ahead] using h
  · refine Ev.step (fun k => spec_ZOk.l0.eq_2 ..) (ev_neg (by omega) (ev_now ?_))
    rw [drop_end z _ (Nat.le_refl _), chain_nil]
  · intro i hi ih
    have hr := hs.row _ (List.getElem_mem hi)
    refine Ev.step (fun k => spec_ZOk.l0.eq_2 ..) (ev_pos (by omega) (ev_pos (by omega) ?_))
    rw [rdI_at z i hi, drop_at z i hi, chain_cons]
    refine (specRowOk_ev z[i].f0 (by omega)).bind ?_
    cases hok : okRow z[i].f0 with
    | false => exact ev_neg (by simp) (ev_now (by simp))
    | true =>
      refine ev_pos rfl (ev_eq (specW _) ?_)
      cases hw : okW z[i].f1 with
      | false => exact ev_neg (by simp) (ev_now (by simp))
      | true =>
        refine ev_pos rfl ?_
        rw [w64n (by omega)]
        rw [ahead_succ z i hi] at ih
        by_cases h0 : (i : Int) > 0
        · have hi1 : i - 1 < z.length := by omega
          have e : wrap64 ((i : Int) - 1) = ((i - 1 : Nat) : Int) := by rw [w64 (by omega) (by omega)]; omega
          have ha : ahead z i = some z[i - 1].f0 := by unfold ahead; rw [if_neg (by omega), List.getElem?_eq_getElem hi1]; rfl
          have hr1 := hs.row _ (List.getElem_mem hi1)
          rw [e]
          refine ev_pos h0 (ev_pos (by omega) (ev_pos (by omega) ?_))
          rw [rdI_at z (i - 1) hi1, ha]
          refine (specLess_ev z[i - 1].f0 z[i].f0 (by omega) (by omega)).bind ?_
          by_cases hl : lexc z[i - 1].f0 z[i].f0 < 0
          · refine ev_pos (decide_eq_true hl) ?_
            simpa [hl] using ih
          · exact ev_neg (by simpa using hl) (ev_now (by simp [hl]))
        · have ha : ahead z i = none := by unfold ahead; rw [if_pos (by omega)]
          rw [ha]
          refine ev_neg h0 ?_
          simpa using ih

theorem clone_some (l : List Int) (h : l.length ≤ 1048576) : slices_Clone_int_int.f l = some l := by unfold slices_Clone_int_int.f; rw [if_pos (by omega)]
theorem copyItems_ev (z : List S54) (hs : Small z) : Ev (fun k => impl_copyItems.f k z) z := by
  have hz := hs.len
  have h := ev_down (fun k i => impl_copyItems.l0 k (z.take i) z (z.length : Int) (i : Int)) (fun _ => z) z.length ?_ ?_ 0 (by omega)
  · simpa [impl_copyItems.f] using h
  · exact Ev.step (fun k => impl_copyItems.l0.eq_2 ..) (ev_neg (by omega) (ev_now (by rw [List.take_length])))
  · intro i hi ih
    have hr := hs.row _ (List.getElem_mem hi)
    refine Ev.step (fun k => impl_copyItems.l0.eq_2 ..) (ev_pos (by omega) (ev_pos (by omega) (ev_pos (by omega) ?_)))
    rw [rdI_at z i hi]
    refine ev_eq (clone_some _ hr) (ev_pos (by simp; omega) ?_)
    rw [w64n (by omega)]
    rw [List.take_succ_eq_append_getElem hi] at ih
    exact ih

theorem okZ_w {z : List S54} (h : okZ z = true) : ∀ x ∈ z, -10000 ≤ x.f1 ∧ x.f1 ≤ 10000 ∧ x.f1 ≠ 0 := by
  intro x hx
  unfold okZ at h
  simp only [Bool.and_eq_true, decide_eq_true_iff] at h
  have go : ∀ (z : List S54) (p : Option (List Int)), chain p z = true → ∀ x ∈ z, okW x.f1 = true := by
    intro z
    induction z with
    | nil => intro p _ x hx; cases hx
    | cons y z ih =>
      intro p h x hx
      rw [chain_cons] at h
      simp only [Bool.and_eq_true] at h
      rcases List.mem_cons.1 hx with e | e
      · subst e; exact h.2.1
      · exact ih _ h.2.2.2 x e
  have := go z none h.2 x hx
  unfold okW at this
  simp at this
  omega

theorem chain_of : ∀ (z : List S54) (p : Option (List Int)), z.Pairwise (fun x y => lexc x.f0 y.f0 < 0) → (∀ x ∈ z, okRow x.f0 = true ∧ okW x.f1 = true) → (∀ r, p = some r → ∀ x ∈ z, lexc r x.f0 < 0) → chain p z = true := by
  intro z
  induction z with
  | nil => intro p _ _ _; exact chain_nil p
  | cons x z ih =>
    intro p h1 h2 h3
    rw [List.pairwise_cons] at h1
    have hx := h2 x List.mem_cons_self
    rw [chain_cons, hx.1, hx.2, ih (some x.f0) h1.2 (fun y hy => h2 y (List.mem_cons_of_mem _ hy)) (fun r hr y hy => by injection hr with hr; rw [← hr]; exact h1.1 y hy)]
    cases p with
    | none => rfl
    | some r => simp [h3 r rfl x List.mem_cons_self]
theorem okZ_of {z : List S54} (hl : z.length ≤ 100) (h1 : z.Pairwise (fun x y => lexc x.f0 y.f0 < 0)) (h2 : ∀ x ∈ z, okRow x.f0 = true ∧ okW x.f1 = true) : okZ z = true := by
  unfold okZ
  rw [chain_of z none h1 h2 (fun r hr => by cases hr), decide_eq_true hl]
  rfl
theorem okW_iff (w : Int) : okW w = true ↔ (w ≠ 0 ∧ -10000 ≤ w ∧ w ≤ 10000) := by unfold okW; simp
theorem okZ_canon {z : List S54} (h : okZ z = true) : Canon z := ⟨(okZ_facts h).2.1, fun x hx => (okZ_w h x hx).2.2⟩
theorem okZ_small {z : List S54} (h : okZ z = true) : Small z := ⟨by have := (okZ_facts h).1; omega, fun x hx => by
  have := ((okZ_facts h).2.2 x hx).1
  rw [okRow_iff] at this; omega⟩

theorem implCell (n : Int) : impl_isCell.f n = some (cellB n) := by
  unfold impl_isCell.f cellB
  by_cases h : n ≥ -1000000000
  · rw [if_pos h]; simp; omega
  · rw [if_neg h]; simp; omega
theorem implIndex_ev (r : List Int) (hr : r.length < 4611686018427387904) : ∃ j : Int, Ev (fun k => slices_IndexFunc_int_int__impl_RowOk_1.f k r) j ∧ (decide (j ≥ 0) = !r.all cellB) := by
  have h : ∀ i, i ≤ r.length → ∃ j : Int, Ev (fun k => slices_IndexFunc_int_int__impl_RowOk_1.l0 k r (r.length : Int) (i : Int)) j ∧ (decide (j ≥ 0) = !(r.drop i).all cellB) := by
    have go : ∀ d i, i + d = r.length → ∃ j : Int, Ev (fun k => slices_IndexFunc_int_int__impl_RowOk_1.l0 k r (r.length : Int) (i : Int)) j ∧ (decide (j ≥ 0) = !(r.drop i).all cellB) := by
      intro d
      induction d with
      | zero =>
        intro i h
        refine ⟨-1, Ev.step (fun k => slices_IndexFunc_int_int__impl_RowOk_1.l0.eq_2 ..) (ev_neg (by omega) (ev_now rfl)), ?_⟩
        rw [drop_end r i (by omega)]; rfl
      | succ d ih =>
        intro i h
        obtain ⟨j, hj, hk⟩ := ih (i + 1) (by omega)
        have e1 : impl_RowOk_1.f (rd r i) = some (!cellB (rd r i)) := by unfold impl_RowOk_1.f; rw [implCell]; rfl
        rw [drop_rd r i (by omega), List.all_cons]
        cases hc : cellB (rd r i) with
        | true =>
          refine ⟨j, Ev.step (fun k => slices_IndexFunc_int_int__impl_RowOk_1.l0.eq_2 ..) (ev_pos (by omega) (ev_pos (by omega) (ev_pos (by omega) (ev_eq e1 (ev_neg (by rw [hc]; decide) ?_))))), by simpa using hk⟩
          rw [w64n (by omega)]
          exact hj
        | false =>
          refine ⟨(i : Int), Ev.step (fun k => slices_IndexFunc_int_int__impl_RowOk_1.l0.eq_2 ..) (ev_pos (by omega) (ev_pos (by omega) (ev_pos (by omega) (ev_eq e1 (ev_pos (by rw [hc]; rfl) (ev_now rfl)))))), ?_⟩
          simp
    exact fun i hi => go (r.length - i) i (by omega)
  obtain ⟨j, hj, hk⟩ := h 0 (by omega)
  exact ⟨j, by simpa [slices_IndexFunc_int_int__impl_RowOk_1.f] using hj, by simpa using hk⟩
theorem implRowOk_ev (r : List Int) (hr : r.length < 4611686018427387904) : Ev (fun k => impl_RowOk.f k r) (okRow r) := by
  obtain ⟨j, hj, hk⟩ := implIndex_ev r hr
  have hc : Ev (fun k => slices_ContainsFunc_int_int__impl_RowOk_1.f k r) (!r.all cellB) := by
    unfold slices_ContainsFunc_int_int__impl_RowOk_1.f
    exact hj.bind (ev_now hk)
  unfold impl_RowOk.f okRow
  by_cases h1 : 1 ≤ r.length
  · refine ev_pos (by omega) ?_
    by_cases h2 : r.length ≤ 6
    · exact ev_pos (by omega) (hc.bind (ev_now (by simp [h1, h2])))
    · exact ev_neg (by omega) (ev_now (by simp [h2]))
  · exact ev_neg (by omega) (ev_now (by simp [h1]))

theorem cmpInt (a b : Int) : cmp_Compare_int.f a b = some (if a < b then -1 else if b < a then 1 else 0) := by
  unfold cmp_Compare_int.f cmp_isNaN_int.f
  simp only [bne_self_eq_false, Option.bind_some, Bool.false_eq_true, if_false]
  by_cases h1 : a < b
  · rw [if_pos h1, if_pos h1]
  · rw [if_neg h1, if_neg h1]
    by_cases h2 : b < a
    · rw [if_pos h2, if_pos h2]
    · rw [if_neg h2, if_neg h2]
theorem compare_ev (a b : List Int) (ha : a.length < 4611686018427387904) : Ev (fun k => slices_Compare_int_int.f k a b) (lexc a b) := by
  unfold slices_Compare_int_int.f
  have h := ev_down (fun k i => slices_Compare_int_int.l0 k a b a (a.length : Int) (i : Int)) (fun i => lexc (a.drop i) (b.drop i)) (min a.length b.length) ?_ ?_ 0 (by omega)
  · simpa using h
  · by_cases hb : a.length ≤ b.length
    · rw [Nat.min_eq_left hb]
      refine Ev.step (fun k => slices_Compare_int_int.l0.eq_2 ..) (ev_neg (by omega) ?_)
      rw [drop_end a _ (Nat.le_refl _)]
      by_cases h1 : a.length < b.length
      · refine ev_pos (by omega) (ev_now ?_)
        rw [drop_rd b _ h1]; rfl
      · refine ev_neg (by omega) (ev_now ?_)
        rw [drop_end b _ (by omega)]; rfl
    · rw [Nat.min_eq_right (by omega)]
      refine Ev.step (fun k => slices_Compare_int_int.l0.eq_2 ..) (ev_pos (by omega) (ev_pos (by omega) (ev_pos (by omega) (ev_pos (by omega) (ev_now ?_)))))
      rw [drop_end b _ (Nat.le_refl _), drop_rd a _ (by omega)]; rfl
  · intro i hi ih
    have h1 : i < a.length := by omega
    have h2 : i < b.length := by omega
    refine Ev.step (fun k => slices_Compare_int_int.l0.eq_2 ..) (ev_pos (by omega) (ev_pos (by omega) (ev_pos (by omega) (ev_neg (by omega) (ev_pos (by omega) (ev_eq (cmpInt _ _) ?_))))))
    rw [drop_rd a i h1, drop_rd b i h2]
    simp only [lexc]
    by_cases c1 : rd a i < rd b i
    · rw [if_pos c1]
      exact ev_neg (by decide) (ev_now (by rw [if_pos c1]))
    · rw [if_neg c1, if_neg c1]
      by_cases c2 : rd b i < rd a i
      · rw [if_pos c2]
        exact ev_neg (by decide) (ev_now (by rw [if_pos c2]))
      · rw [if_neg c2, if_neg c2]
        refine ev_pos rfl ?_
        rw [w64n (by omega)]
        exact ih

theorem implLess_ev (a b : List Int) (ha : a.length < 4611686018427387904) : Ev (fun k => impl_RowLess.f k a b) (decide (lexc a b < 0)) := by
  unfold impl_RowLess.f
  exact (compare_ev a b ha).bind (ev_now rfl)

theorem implZOk_ev (z : List S54) (hs : Small z) : Ev (fun k => impl_ZOk.f k z) (okZ z) := by
  have hz := hs.len
  unfold impl_ZOk.f okZ
  by_cases hl : (z.length : Int) > 100
  · exact ev_pos hl (ev_now (by rw [decide_eq_false (by omega)]; rfl))
  refine ev_neg hl ?_
  rw [decide_eq_true (by omega : z.length ≤ 100), Bool.true_and]
  have h := ev_down (fun k i => impl_ZOk.l0 k z z (z.length : Int) (i : Int)) (fun i => chain (ahead z i) (z.drop i)) z.length ?_ ?_ 0 (by omega)
  · simpa [ahead] using h
  · refine Ev.step (fun k => impl_ZOk.l0.eq_2 ..) (ev_neg (by omega) (ev_now ?_))
    rw [drop_end z _ (Nat.le_refl _), chain_nil]
  · intro i hi ih
    have hr := hs.row _ (List.getElem_mem hi)
    refine Ev.step (fun k => impl_ZOk.l0.eq_2 ..) (ev_pos (by omega) (ev_pos (by omega) (ev_pos (by omega) ?_)))
    rw [rdI_at z i hi, drop_at z i hi, chain_cons]
    refine (implRowOk_ev z[i].f0 (by omega)).bind ?_
    cases hok : okRow z[i].f0 with
    | false => exact ev_neg (by simp) (ev_now (by simp))
    | true =>
      refine ev_pos rfl ?_
      by_cases w1 : z[i].f1 < -10000
      · exact ev_pos w1 (ev_now (by unfold okW; simp; omega))
      refine ev_neg w1 ?_
      by_cases w2 : z[i].f1 > 10000
      · exact ev_pos w2 (ev_now (by unfold okW; simp; omega))
      refine ev_neg w2 ?_
      by_cases w3 : z[i].f1 = 0
      · exact ev_pos w3 (ev_now (by unfold okW; simp [w3]))
      refine ev_neg w3 ?_
      have hw : okW z[i].f1 = true := by unfold okW; simp [w3]; omega
      rw [hw]
      rw [w64n (by omega)]
      rw [ahead_succ z i hi] at ih
      by_cases h0 : (i : Int) > 0
      · have hi1 : i - 1 < z.length := by omega
        have e : wrap64 ((i : Int) - 1) = ((i - 1 : Nat) : Int) := by rw [w64 (by omega) (by omega)]; omega
        have ha : ahead z i = some z[i - 1].f0 := by unfold ahead; rw [if_neg (by omega), List.getElem?_eq_getElem hi1]; rfl
        have hr1 := hs.row _ (List.getElem_mem hi1)
        rw [e]
        refine ev_pos h0 (ev_pos (by omega) (ev_pos (by omega) ?_))
        rw [rdI_at z (i - 1) hi1, ha]
        refine (implLess_ev z[i - 1].f0 z[i].f0 (by omega)).bind ?_
        by_cases hl : lexc z[i - 1].f0 z[i].f0 < 0
        · refine ev_pos (decide_eq_true hl) ?_
          simpa [hl] using ih
        · exact ev_neg (by simpa using hl) (ev_now (by simp [hl]))
      · have ha : ahead z i = none := by unfold ahead; rw [if_pos (by omega)]
        rw [ha]
        refine ev_neg h0 ?_
        simpa using ih

theorem cmpItem_ev (x y : S54) (h : x.f0.length ≤ 1048576) : Ev (fun k => impl_cmpItem.f k x.f0 x.f1 y.f0 y.f1) (lexc x.f0 y.f0) := by
  unfold impl_cmpItem.f
  exact (compare_ev x.f0 y.f0 (by omega)).bind (ev_now rfl)
theorem rdI_0 (x : S54) (l : List S54) : rd_T54 (x :: l) 0 = x := rfl
theorem merged_ev : ∀ (n : Nat) (a b acc : List S54), a.length + b.length ≤ n → acc.length + n ≤ 1048576 → (∀ x ∈ a, x.f0.length ≤ 1048576) → (∀ x ∈ a, -1000000000 ≤ x.f1 ∧ x.f1 ≤ 1000000000) → (∀ x ∈ b, -1000000000 ≤ x.f1 ∧ x.f1 ≤ 1000000000) →
    Ev (fun k => impl_merged_impl_Item__impl_cmpItem_impl_together_1.l0 k a b acc) (acc ++ merL a b) := by
  intro n
  induction n with
  | zero =>
    intro a b acc h hn _ _ _
    obtain rfl : a = [] := List.length_eq_zero_iff.1 (by omega)
    obtain rfl : b = [] := List.length_eq_zero_iff.1 (by omega)
    refine Ev.step (fun k => impl_merged_impl_Item__impl_cmpItem_impl_together_1.l0.eq_2 ..) (ev_neg (by simp <;> omega) (ev_pos (by simp <;> omega) (ev_some (ev_pos (by simp <;> omega) (ev_now ?_)))))
    simp [merL]
  | succ n ih =>
    intro a b acc h hn hr hwa hwb
    cases a with
    | nil =>
      refine Ev.step (fun k => impl_merged_impl_Item__impl_cmpItem_impl_together_1.l0.eq_2 ..) (ev_neg (by simp <;> omega) (ev_pos (by simp <;> omega) (ev_some (ev_pos (by simp at h ⊢ <;> omega) (ev_now ?_)))))
      simp [merL]
    | cons x a =>
      cases b with
      | nil =>
        refine Ev.step (fun k => impl_merged_impl_Item__impl_cmpItem_impl_together_1.l0.eq_2 ..) (ev_pos (by simp <;> omega) (ev_neg (by simp <;> omega) (ev_pos (by simp at h ⊢ <;> omega) (ev_some (ev_pos (by simp at h ⊢ <;> omega) (ev_now ?_))))))
        simp [merL]
      | cons y b =>
        simp only [List.length_cons] at h
        refine Ev.step (fun k => impl_merged_impl_Item__impl_cmpItem_impl_together_1.l0.eq_2 ..) (ev_pos (by simp <;> omega) (ev_pos (by simp <;> omega) (ev_pos (by simp <;> omega) (ev_pos (by simp <;> omega) ?_))))
        rw [rdI_0, rdI_0]
        refine (cmpItem_ev x y (hr x List.mem_cons_self)).bind ?_
        have hra := fun u hu => hr u (List.mem_cons_of_mem _ hu)
        have hwa' := fun u hu => hwa u (List.mem_cons_of_mem _ hu)
        have hwb' := fun u hu => hwb u (List.mem_cons_of_mem _ hu)
        rw [merL]
        by_cases h1 : lexc x.f0 y.f0 < 0
        · rw [if_pos h1]
          refine ev_pos h1 (ev_pos (by omega) (ev_pos (by simp <;> omega) ?_))
          have := ih a (y :: b) (acc ++ [x]) (by simp <;> omega) (by simp <;> omega) hra hwa' hwb
          rw [List.append_assoc] at this
          exact this
        · rw [if_neg h1]
          have hs := lexc_swap x.f0 y.f0
          by_cases h2 : lexc y.f0 x.f0 < 0
          · rw [if_pos h2]
            refine ev_neg h1 (ev_pos (by omega) (ev_pos (by omega) (ev_pos (by simp <;> omega) ?_)))
            have := ih (x :: a) b (acc ++ [y]) (by simp <;> omega) (by simp <;> omega) hr hwa hwb'
            rw [List.append_assoc] at this
            exact this
          · rw [if_neg h2]
            have hx := hwa x List.mem_cons_self
            have hy := hwb y List.mem_cons_self
            refine ev_neg h1 (ev_neg (by omega) ?_)
            unfold impl_together_1.f
            rw [w64 (x := x.f1 + y.f1) (by omega) (by omega)]
            refine ev_some ?_
            by_cases h3 : x.f1 + y.f1 = 0
            · rw [if_pos h3]
              refine ev_neg (by simp [h3]) (ev_pos (by simp <;> omega) (ev_pos (by simp <;> omega) ?_))
              exact ih a b acc (by omega) (by omega) hra hwa' hwb'
            · rw [if_neg h3]
              refine ev_pos (by simpa using h3) (ev_pos (by omega) (ev_pos (by simp <;> omega) (ev_pos (by simp <;> omega) ?_)))
              have := ih a b (acc ++ [⟨x.f0, x.f1 + y.f1⟩]) (by omega) (by simp <;> omega) hra hwa' hwb'
              rw [List.append_assoc] at this
              exact this
theorem merL_len : ∀ (n : Nat) (a b : List S54), a.length + b.length ≤ n → (merL a b).length ≤ a.length + b.length := by
  intro n
  induction n with
  | zero => intro a b h; cases a <;> cases b <;> simp [merL] at h ⊢
  | succ n ih =>
    intro a b h
    cases a with
    | nil => simp [merL]
    | cons x a =>
      cases b with
      | nil => simp [merL]
      | cons y b =>
        simp only [List.length_cons] at h
        rw [merL]
        have h1 := ih a (y :: b) (by simp <;> omega)
        have h2 := ih (x :: a) b (by simp <;> omega)
        have h3 := ih a b (by omega)
        simp only [List.length_cons] at h1 h2 ⊢
        repeat' split
        all_goals (try simp only [List.length_cons])
        all_goals omega
theorem merL_small {a b : List S54} (ha : Small a) (hb : Small b) (hl : a.length + b.length ≤ 1048576) : Small (merL a b) :=
  ⟨by have := merL_len _ a b (Nat.le_refl _); omega, fun y hy => by
    rcases merL_rows _ a b (Nat.le_refl _) y hy with ⟨x, hx, e⟩ | ⟨x, hx, e⟩
    · rw [← e]; exact ha.row x hx
    · rw [← e]; exact hb.row x hx⟩
/-- what ZAdd tells -/
def addZ (a b : List S54) : List S54 × Bool := if okZ a = true ∧ okZ b = true ∧ okZ (addL a b) = true then (addL a b, true) else ([], false)
theorem told_ev (z : List S54) (hs : Small z) : Ev (fun k => impl_told.f k z) (if okZ z = true then (z, true) else ([], false)) := by
  unfold impl_told.f
  refine (implZOk_ev z hs).bind ?_
  by_cases h : okZ z = true
  · rw [if_pos h]
    exact ev_pos h ((copyItems_ev z hs).bind (ev_now rfl))
  · rw [if_neg h]
    exact ev_neg h (ev_now rfl)
theorem together_ev (a b : List S54) (ha : Small a) (hl : a.length + b.length ≤ 100000) (hwa : ∀ x ∈ a, -1000000000 ≤ x.f1 ∧ x.f1 ≤ 1000000000) (hwb : ∀ x ∈ b, -1000000000 ≤ x.f1 ∧ x.f1 ≤ 1000000000) : Ev (fun k => impl_together.f k a b) (merL a b) := by
  unfold impl_together.f impl_merged_impl_Item__impl_cmpItem_impl_together_1.f
  have := merged_ev (a.length + b.length) a b [] (Nat.le_refl _) (by simp <;> omega) ha.row hwa hwb
  exact this.bind (ev_now (by simp <;> omega))
theorem implZAdd_ev (a b : List S54) (ha : Small a) (hb : Small b) : Ev (fun k => impl_ZAdd.f k a b) (addZ a b) := by
  unfold impl_ZAdd.f addZ
  refine (implZOk_ev a ha).bind ?_
  by_cases h1 : okZ a = true
  · refine ev_pos h1 ((implZOk_ev b hb).bind ?_)
    by_cases h2 : okZ b = true
    · have l1 := (okZ_facts h1).1
      have l2 := (okZ_facts h2).1
      have e := merL_addL a b (okZ_canon h1) (okZ_canon h2)
      have T := told_ev _ (merL_small ha hb (by omega))
      rw [e] at T
      have E : (if okZ (addL a b) = true then (addL a b, true) else ([], false)) = (if okZ a = true ∧ okZ b = true ∧ okZ (addL a b) = true then (addL a b, true) else (([] : List S54), false)) := by
        by_cases h3 : okZ (addL a b) = true
        · rw [if_pos h3, if_pos ⟨h1, h2, h3⟩]
        · rw [if_neg h3, if_neg (fun h => h3 h.2.2)]
      rw [E] at T
      have tog := together_ev a b ha (by omega) (fun x hx => by have := okZ_w h1 x hx; omega) (fun x hx => by have := okZ_w h2 x hx; omega)
      rw [e] at tog
      refine ev_pos h2 (tog.bind ?_)
      first
        | exact T
        | exact T.bind (ev_now rfl)
    · rw [if_neg (fun h => h2 h.2.1)]
      exact ev_neg h2 (ev_now rfl)
  · rw [if_neg (fun h => h1 h.1)]
    exact ev_neg h1 (ev_now rfl)

theorem specItems_ev (z : List S54) (hs : Small z) : Ev (fun k => spec_l2Copy.f k z) z := by
  have hz := hs.len
  have h := ev_down (fun k i => spec_l2Copy.l0 k z (z.take i) (i : Int)) (fun _ => z) z.length ?_ ?_ 0 (by omega)
  · simpa [spec_l2Copy.f] using h
  · exact Ev.step (fun k => spec_l2Copy.l0.eq_2 ..) (ev_neg (by omega) (ev_now (by rw [List.take_length])))
  · intro i hi ih
    have hr := hs.row _ (List.getElem_mem hi)
    refine Ev.step (fun k => spec_l2Copy.l0.eq_2 ..) (ev_pos (by omega) (ev_pos (by omega) ?_))
    rw [rdI_at z i hi]
    refine ev_eq (specCopy _ (by omega)) (ev_pos (by simp; omega) ?_)
    rw [w64n (by omega)]
    rw [List.take_succ_eq_append_getElem hi] at ih
    exact ih
theorem putL_wb (r : List Int) (w B C : Int) (hw : -C ≤ w ∧ w ≤ C) (hB : 0 ≤ B) (hC : 0 ≤ C) : ∀ z : List S54, (∀ x ∈ z, -B ≤ x.f1 ∧ x.f1 ≤ B) → ∀ y ∈ putL r w z, -(B + C) ≤ y.f1 ∧ y.f1 ≤ B + C := by
  intro z
  induction z with
  | nil =>
    intro _ y hy
    unfold putL at hy
    split at hy
    · cases hy
    · rw [List.mem_singleton.1 hy]; dsimp only; omega
  | cons x z ih =>
    intro h y hy
    have hx := h x List.mem_cons_self
    have hz : ∀ u ∈ z, -B ≤ u.f1 ∧ u.f1 ≤ B := fun u hu => h u (List.mem_cons_of_mem _ hu)
    have old : y ∈ x :: z → -(B + C) ≤ y.f1 ∧ y.f1 ≤ B + C := fun hy => by have := h y hy; omega
    unfold putL at hy
    split at hy
    · rcases List.mem_cons.1 hy with e | e
      · rw [e]; omega
      · exact ih hz y e
    · split at hy
      · split at hy
        · exact old (List.mem_cons_of_mem _ hy)
        · rcases List.mem_cons.1 hy with e | e
          · rw [e]; dsimp only; omega
          · exact old (List.mem_cons_of_mem _ e)
      · split at hy
        · exact old hy
        · rcases List.mem_cons.1 hy with e | e
          · rw [e]; dsimp only; omega
          · exact old e
theorem specAdd_go (b : List S54) (hb : ∀ x ∈ b, x.f0.length ≤ 1048576) (hl : b.length ≤ 100000) (hwb : ∀ x ∈ b, -10000 ≤ x.f1 ∧ x.f1 ≤ 10000) : ∀ (d i : Nat) (acc : List S54), i + d = b.length → acc.length ≤ 100000 + i → (∀ x ∈ acc, x.f0.length ≤ 1048576) → (∀ x ∈ acc, -(10000 * ((i : Int) + 1)) ≤ x.f1 ∧ x.f1 ≤ 10000 * ((i : Int) + 1)) →
    Ev (fun k => spec_l2Add.l0 k b acc (i : Int)) (addL acc (b.drop i)) := by
  intro d
  induction d with
  | zero =>
    intro i acc hi _ _ _
    refine Ev.step (fun k => spec_l2Add.l0.eq_2 ..) (ev_neg (by omega) (ev_now ?_))
    rw [drop_end b _ (by omega)]; rfl
  | succ d ih =>
    intro i acc hi ha hr hw
    have hil : i < b.length := by omega
    have hbi := hb _ (List.getElem_mem hil)
    have hwi := hwb _ (List.getElem_mem hil)
    refine Ev.step (fun k => spec_l2Add.l0.eq_2 ..) (ev_pos (by omega) (ev_pos (by omega) ?_))
    rw [rdI_at b i hil, drop_at b i hil]
    refine (specPut_ev acc b[i].f0 b[i].f1 ⟨by omega, hr⟩ hbi (fun x hx => by have := hw x hx; omega) (by omega)).bind ?_
    rw [w64n (by omega)]
    refine ih (i + 1) _ (by omega) (by have := putL_len b[i].f0 b[i].f1 acc; omega) (putL_small _ _ _ hr hbi) (fun x hx => ?_)
    have := putL_wb b[i].f0 b[i].f1 (10000 * ((i : Int) + 1)) 10000 hwi (by omega) (by omega) acc hw x hx
    omega
theorem specAdd_ev (a b : List S54) (ha : Small a) (hb : Small b) (hla : a.length ≤ 100000) (hl : b.length ≤ 100000) (hwa : ∀ x ∈ a, -10000 ≤ x.f1 ∧ x.f1 ≤ 10000) (hwb : ∀ x ∈ b, -10000 ≤ x.f1 ∧ x.f1 ≤ 10000) : Ev (fun k => spec_l2Add.f k a b) (addL a b) := by
  unfold spec_l2Add.f
  refine (specItems_ev a ha).bind ?_
  have := specAdd_go b hb.row hl hwb b.length 0 a (by omega) (by omega) ha.row (fun x hx => by have := hwa x hx; omega)
  rw [List.drop_zero] at this
  first
    | exact this
    | exact this.bind (ev_now rfl)
theorem specTold_ev (z : List S54) (hs : Small z) : Ev (fun k => spec_l2Told.f k z) (if okZ z = true then (z, true) else ([], false)) := by
  unfold spec_l2Told.f
  refine (specZOk_ev z hs).bind ?_
  by_cases h : okZ z = true
  · rw [if_pos h, if_pos h]
    exact ev_now rfl
  · rw [if_neg h, if_neg h]
    exact ev_now rfl
theorem addL_small {a b : List S54} (ha : okZ a = true) (hb : okZ b = true) : Small (addL a b) := by
  rw [← merL_addL a b (okZ_canon ha) (okZ_canon hb)]
  have h1 := (okZ_facts ha).1
  have h2 := (okZ_facts hb).1
  exact merL_small (okZ_small ha) (okZ_small hb) (by omega)
theorem specZAdd_ev (a b : List S54) (ha : Small a) (hb : Small b) : Ev (fun k => spec_ZAdd.f k a b) (addZ a b) := by
  unfold spec_ZAdd.f addZ
  refine (specZOk_ev a ha).bind ?_
  by_cases h1 : okZ a = true
  · refine ev_pos h1 ((specZOk_ev b hb).bind ?_)
    by_cases h2 : okZ b = true
    · have l1 := (okZ_facts h1).1
      have l2 := (okZ_facts h2).1
      refine ev_pos h2 ((specAdd_ev a b ha hb (by omega) (by omega) (fun x hx => by have := okZ_w h1 x hx; omega) (fun x hx => by have := okZ_w h2 x hx; omega)).bind ((specTold_ev _ (addL_small h1 h2)).bind (ev_now ?_)))
      by_cases h3 : okZ (addL a b) = true
      · rw [if_pos h3, if_pos ⟨h1, h2, h3⟩]
      · rw [if_neg h3, if_neg (fun h => h3 h.2.2)]
    · rw [if_neg (fun h => h2 h.2.1)]
      exact ev_neg h2 (ev_now rfl)
  · rw [if_neg (fun h => h1 h.1)]
    exact ev_neg h1 (ev_now rfl)

def posL (z : List S54) : List S54 := (z.filter (fun x => decide (x.f1 > 0))).map (fun x => ⟨x.f0, 1⟩)
theorem posL_cons (x : S54) (z : List S54) : posL (x :: z) = if x.f1 > 0 then ⟨x.f0, 1⟩ :: posL z else posL z := by
  unfold posL
  rw [List.filter_cons]
  by_cases h : x.f1 > 0
  · rw [if_pos (decide_eq_true h), if_pos h]; rfl
  · rw [if_neg (by simpa using h), if_neg h]
theorem posL_len (z : List S54) : (posL z).length ≤ z.length := by
  unfold posL
  rw [List.length_map]
  exact List.length_filter_le _ _
theorem posL_mem {z : List S54} {y : S54} (h : y ∈ posL z) : ∃ x ∈ z, x.f0 = y.f0 ∧ x.f1 > 0 ∧ y.f1 = 1 := by
  obtain ⟨x, hx, rfl⟩ := List.mem_map.1 h
  have := List.mem_filter.1 hx
  exact ⟨x, this.1, rfl, by simpa using this.2, rfl⟩
theorem posL_small {z : List S54} (hs : Small z) : Small (posL z) := ⟨by have := posL_len z; have := hs.len; omega, fun y hy => by
  obtain ⟨x, hx, e, _⟩ := posL_mem hy
  rw [← e]; exact hs.row x hx⟩
theorem positive_ev (z : List S54) (hs : Small z) : Ev (fun k => impl_positive.f k z) (posL z) := by
  have hz := hs.len
  have go : ∀ (d i : Nat) (acc : List S54), i + d = z.length → acc.length ≤ i → Ev (fun k => impl_positive.l0 k acc z (z.length : Int) (i : Int)) (acc ++ posL (z.drop i)) := by
    intro d
    induction d with
    | zero =>
      intro i acc hi _
      refine Ev.step (fun k => impl_positive.l0.eq_2 ..) (ev_neg (by omega) (ev_now ?_))
      rw [drop_end z _ (by omega)]; simp [posL]
    | succ d ih =>
      intro i acc hi ha
      have hil : i < z.length := by omega
      refine Ev.step (fun k => impl_positive.l0.eq_2 ..) (ev_pos (by omega) (ev_pos (by omega) (ev_pos (by omega) ?_)))
      rw [rdI_at z i hil, drop_at z i hil, posL_cons, w64n (by omega)]
      by_cases h : z[i].f1 > 0
      · rw [if_pos h]
        refine ev_pos h (ev_pos (by omega) ?_)
        have := ih (i + 1) (acc ++ [⟨z[i].f0, 1⟩]) (by omega) (by simp; omega)
        rw [List.append_assoc] at this
        exact this
      · rw [if_neg h]
        exact ev_neg h (ih (i + 1) acc (by omega) (by omega))
  have := go z.length 0 [] (by omega) (by simp)
  simpa [impl_positive.f] using this

theorem specPos_ev (z : List S54) (hs : Small z) : Ev (fun k => spec_l2Pos.f k z) (posL z) := by
  have hz := hs.len
  have go : ∀ (d i : Nat) (acc : List S54), i + d = z.length → acc.length ≤ i → Ev (fun k => spec_l2Pos.l0 k z acc (i : Int)) (acc ++ posL (z.drop i)) := by
    intro d
    induction d with
    | zero =>
      intro i acc hi _
      refine Ev.step (fun k => spec_l2Pos.l0.eq_2 ..) (ev_neg (by omega) (ev_now ?_))
      rw [drop_end z _ (by omega)]; simp [posL]
    | succ d ih =>
      intro i acc hi ha
      have hil : i < z.length := by omega
      have hr := hs.row _ (List.getElem_mem hil)
      refine Ev.step (fun k => spec_l2Pos.l0.eq_2 ..) (ev_pos (by omega) (ev_pos (by omega) ?_))
      rw [rdI_at z i hil, drop_at z i hil, posL_cons, w64n (by omega)]
      by_cases h : z[i].f1 > 0
      · rw [if_pos h]
        refine ev_pos h (ev_eq (specCopy _ (by omega)) (ev_pos (by omega) ?_))
        have := ih (i + 1) (acc ++ [⟨z[i].f0, 1⟩]) (by omega) (by simp; omega)
        rw [List.append_assoc] at this
        exact this
      · rw [if_neg h]
        exact ev_neg h (ih (i + 1) acc (by omega) (by omega))
  have := go z.length 0 [] (by omega) (by simp)
  simpa [spec_l2Pos.f] using this

/-- a loop over items that appends to what it makes -/
def negL (z : List S54) : List S54 := z.map (fun x => ⟨x.f0, -x.f1⟩)
theorem take_map_succ {α β : Type} (f : α → β) (l : List α) (i : Nat) (h : i < l.length) : (l.take (i + 1)).map f = (l.take i).map f ++ [f l[i]] := by
  rw [List.take_succ_eq_append_getElem h, List.map_append]; rfl
theorem turned_ev (z : List S54) (hs : Small z) (hw : ∀ x ∈ z, -1000000000000000 ≤ x.f1 ∧ x.f1 ≤ 1000000000000000) : Ev (fun k => impl_turned.f k z) (negL z) := by
  have hz := hs.len
  have h := ev_down (fun k i => impl_turned.l0 k ((z.take i).map (fun x => (⟨x.f0, -x.f1⟩ : S54))) z (z.length : Int) (i : Int)) (fun _ => negL z) z.length ?_ ?_ 0 (by omega)
  · simpa [impl_turned.f] using h
  · exact Ev.step (fun k => impl_turned.l0.eq_2 ..) (ev_neg (by omega) (ev_now (by rw [List.take_length]; rfl)))
  · intro i hi ih
    have hwx := hw _ (List.getElem_mem hi)
    refine Ev.step (fun k => impl_turned.l0.eq_2 ..) (ev_pos (by omega) (ev_pos (by omega) (ev_pos (by omega) (ev_pos (by simp; omega) ?_))))
    rw [rdI_at z i hi, w64 (x := -z[i].f1) (by omega) (by omega), w64n (by omega)]
    rw [take_map_succ _ z i hi] at ih
    exact ih
theorem negL_small {z : List S54} (hs : Small z) : Small (negL z) := ⟨by simpa [negL] using hs.len, fun x hx => by
  obtain ⟨y, hy, rfl⟩ := List.mem_map.1 hx
  exact hs.row y hy⟩

theorem negL_mem {z : List S54} {x : S54} (h : x ∈ z) : (⟨x.f0, -x.f1⟩ : S54) ∈ negL z := List.mem_map_of_mem (f := fun x : S54 => (⟨x.f0, -x.f1⟩ : S54)) h
theorem negL_ok {z : List S54} (h : okZ z = true) : okZ (negL z) = true := by
  obtain ⟨h1, h2, h3⟩ := okZ_facts h
  refine okZ_of (by simpa [negL] using h1) (List.pairwise_map.2 h2) (fun y hy => ?_)
  obtain ⟨x, hx, rfl⟩ := List.mem_map.1 hy
  have hw := okZ_w h x hx
  exact ⟨(h3 x hx).1, (okW_iff _).2 ⟨by dsimp only; omega, by dsimp only; omega, by dsimp only; omega⟩⟩
theorem posL_ok {z : List S54} (h : okZ z = true) : okZ (posL z) = true := by
  obtain ⟨h1, h2, h3⟩ := okZ_facts h
  refine okZ_of (by have := posL_len z; omega) (List.pairwise_map.2 (h2.filter _)) (fun y hy => ?_)
  obtain ⟨x, hx, e, _, e1⟩ := posL_mem hy
  exact ⟨by rw [← e]; exact (h3 x hx).1, by rw [e1]; decide⟩
theorem negL_neg (z : List S54) : negL (negL z) = z := by
  unfold negL
  rw [List.map_map]
  conv => rhs; rw [← List.map_id z]
  refine List.map_congr_left (fun x _ => ?_)
  exact ext_item rfl (by simp)
theorem posL_pos : ∀ z : List S54, posL (posL z) = posL z := by
  intro z
  induction z with
  | nil => rfl
  | cons x z ih =>
    rw [posL_cons]
    by_cases h : x.f1 > 0
    · rw [if_pos h, posL_cons, if_pos (show (1 : Int) > 0 by decide), ih]
    · rw [if_neg h, ih]
theorem pos_neg_len : ∀ z : List S54, (∀ x ∈ z, x.f1 ≠ 0) → (posL z).length + (posL (negL z)).length = z.length := by
  intro z
  induction z with
  | nil => intro _; rfl
  | cons x z ih =>
    intro h
    have hx := h x List.mem_cons_self
    have hz := ih (fun y hy => h y (List.mem_cons_of_mem _ hy))
    rw [posL_cons, show negL (x :: z) = ⟨x.f0, -x.f1⟩ :: negL z from rfl, posL_cons]
    dsimp only
    by_cases h1 : x.f1 > 0
    · rw [if_pos h1, if_neg (by omega), List.length_cons, List.length_cons]; omega
    · rw [if_neg h1, if_pos (by omega), List.length_cons, List.length_cons]; omega
theorem getZ_mem {z : List S54} (h : okZ z = true) {x : S54} (hx : x ∈ z) : getZ z x.f0 = x.f1 := by
  unfold getZ
  rw [if_pos h, wOf_mem (okZ_canon h) hx]
theorem getZ_neg {z : List S54} (h : okZ z = true) {x : S54} (hx : x ∈ z) : getZ (negL z) x.f0 = -x.f1 := getZ_mem (negL_ok h) (negL_mem hx)
theorem getZ_pos {z : List S54} (h : okZ z = true) {x : S54} (hx : x ∈ z) : getZ (posL z) x.f0 = if x.f1 > 0 then 1 else 0 := by
  by_cases h1 : x.f1 > 0
  · rw [if_pos h1]
    refine getZ_mem (posL_ok h) (x := ⟨x.f0, 1⟩) ?_
    exact List.mem_map_of_mem (f := fun x : S54 => (⟨x.f0, 1⟩ : S54)) (List.mem_filter.2 ⟨hx, decide_eq_true h1⟩)
  · rw [if_neg h1]
    unfold getZ
    rw [if_pos (posL_ok h)]
    refine Decidable.byContradiction (fun hne => ?_)
    obtain ⟨y, hy, e⟩ := wOf_ne hne
    obtain ⟨u, hu, e0, e1, _⟩ := posL_mem hy
    have a := wOf_mem (okZ_canon h) hu
    have b := wOf_mem (okZ_canon h) hx
    rw [e0, e] at a
    omega

theorem specMinus_go (b : List S54) (hb : ∀ x ∈ b, x.f0.length ≤ 1048576) (hl : b.length ≤ 100000) (hwb : ∀ x ∈ b, -10000 ≤ x.f1 ∧ x.f1 ≤ 10000) : ∀ (d i : Nat) (acc : List S54), i + d = b.length → acc.length ≤ 100000 + i → (∀ x ∈ acc, x.f0.length ≤ 1048576) → (∀ x ∈ acc, -(10000 * ((i : Int) + 1)) ≤ x.f1 ∧ x.f1 ≤ 10000 * ((i : Int) + 1)) →
    Ev (fun k => spec_l6Minus.l0 k b acc (i : Int)) (addL acc (negL (b.drop i))) := by
  intro d
  induction d with
  | zero =>
    intro i acc hi _ _ _
    refine Ev.step (fun k => spec_l6Minus.l0.eq_2 ..) (ev_neg (by omega) (ev_now ?_))
    rw [drop_end b _ (by omega)]; rfl
  | succ d ih =>
    intro i acc hi ha hr hw
    have hil : i < b.length := by omega
    have hbi := hb _ (List.getElem_mem hil)
    have hwi := hwb _ (List.getElem_mem hil)
    refine Ev.step (fun k => spec_l6Minus.l0.eq_2 ..) (ev_pos (by omega) (ev_pos (by omega) ?_))
    rw [rdI_at b i hil, drop_at b i hil]
    rw [w64 (x := -b[i].f1) (by omega) (by omega), w64n (by omega)]
    refine (specPut_ev acc b[i].f0 (-b[i].f1) ⟨by omega, hr⟩ hbi (fun x hx => by have := hw x hx; omega) (by omega)).bind ?_
    refine ih (i + 1) _ (by omega) (by have := putL_len b[i].f0 (-b[i].f1) acc; omega) (putL_small _ _ _ hr hbi) (fun x hx => ?_)
    have := putL_wb b[i].f0 (-b[i].f1) (10000 * ((i : Int) + 1)) 10000 (by omega) (by omega) (by omega) acc hw x hx
    omega
theorem specMinus_ev (a b : List S54) (ha : Small a) (hb : Small b) (hla : a.length ≤ 100000) (hl : b.length ≤ 100000) (hwa : ∀ x ∈ a, -10000 ≤ x.f1 ∧ x.f1 ≤ 10000) (hwb : ∀ x ∈ b, -10000 ≤ x.f1 ∧ x.f1 ≤ 10000) : Ev (fun k => spec_l6Minus.f k a b) (addL a (negL b)) := by
  unfold spec_l6Minus.f
  refine (specItems_ev a ha).bind ?_
  have := specMinus_go b hb.row hl hwb b.length 0 a (by omega) (by omega) ha.row (fun x hx => by have := hwa x hx; omega)
  rw [List.drop_zero] at this
  first
    | exact this
    | exact this.bind (ev_now rfl)
/-- what DeltaOnce tells -/
def onceZ (z d : List S54) : List S54 × Bool := if (addZ z d).2 = true then (if okZ (addL (posL (addZ z d).1) (negL (posL z))) = true then (addL (posL (addZ z d).1) (negL (posL z)), true) else ([], false)) else ([], false)
theorem addZ_facts {a b : List S54} (h : (addZ a b).2 = true) : okZ a = true ∧ okZ b = true ∧ okZ (addZ a b).1 = true := by
  unfold addZ at h ⊢
  by_cases c : okZ a = true ∧ okZ b = true ∧ okZ (addL a b) = true
  · rw [if_pos c]; exact ⟨c.1, c.2.1, c.2.2⟩
  · rw [if_neg c] at h; cases h
theorem specOnce_ev (z d : List S54) (hz : Small z) (hd : Small d) : Ev (fun k => spec_DeltaOnce.f k z d) (onceZ z d) := by
  unfold spec_DeltaOnce.f onceZ
  refine (specZAdd_ev z d hz hd).bind ?_
  by_cases h : (addZ z d).2 = true
  · obtain ⟨h1, h2, h3⟩ := addZ_facts h
    have p1 := posL_ok h3
    have p2 := posL_ok h1
    have l1 := (okZ_facts p1).1
    have l2 := (okZ_facts p2).1
    refine ev_pos h ((specPos_ev _ (okZ_small h3)).bind ((specPos_ev z hz).bind ((specMinus_ev _ _ (okZ_small p1) (okZ_small p2) (by omega) (by omega) (fun x hx => by have := okZ_w p1 x hx; omega) (fun x hx => by have := okZ_w p2 x hx; omega)).bind ((specTold_ev _ (addL_small p1 (negL_ok p2))).bind (ev_now ?_)))))
    rw [if_pos h]
  · rw [if_neg h]
    exact ev_neg h (ev_now rfl)
theorem implOnce_ev (z d : List S54) (hz : Small z) (hd : Small d) : Ev (fun k => impl_DeltaOnce.f k z d) (onceZ z d) := by
  unfold impl_DeltaOnce.f onceZ
  refine (implZAdd_ev z d hz hd).bind ?_
  by_cases h : (addZ z d).2 = true
  · obtain ⟨h1, h2, h3⟩ := addZ_facts h
    have p1 := posL_ok h3
    have p2 := posL_ok h1
    have n2 := negL_ok p2
    have l1 := (okZ_facts p1).1
    have l2 := (okZ_facts n2).1
    have e := merL_addL _ _ (okZ_canon p1) (okZ_canon n2)
    have tog := together_ev _ (negL (posL z)) (okZ_small p1) (by omega) (fun x hx => by have := okZ_w p1 x hx; omega) (fun x hx => by have := okZ_w n2 x hx; omega)
    rw [e] at tog
    have wo : Ev (fun k => impl_without.f k (posL (addZ z d).1) (posL z)) (addL (posL (addZ z d).1) (negL (posL z))) := by
      unfold impl_without.f
      exact (turned_ev _ (okZ_small p2) (fun x hx => by have := okZ_w p2 x hx; omega)).bind (tog.bind (ev_now rfl))
    rw [if_pos h]
    exact ev_pos h ((positive_ev _ (okZ_small h3)).bind ((positive_ev z hz).bind (wo.bind (told_ev _ (addL_small p1 n2)))))
  · rw [if_neg h]
    exact ev_neg h (ev_now rfl)

/-- numbers counted up from k -/
def marked (k : Int) : Nat → List Int
  | 0 => []
  | n + 1 => k :: marked (k + 1) n
theorem marked_length : ∀ (n : Nat) (k : Int), (marked k n).length = n
  | 0, _ => rfl
  | n + 1, k => by rw [marked, List.length_cons, marked_length n]
theorem marked_snoc : ∀ (n : Nat) (k : Int), marked k (n + 1) = marked k n ++ [k + n]
  | 0, k => by simp [marked]
  | n + 1, k => by
    rw [marked, marked_snoc n (k + 1), marked, List.cons_append]
    congr 2
    simp; omega
theorem markInts_ev (l : List Int) (k0 : Int) (h0 : 0 ≤ k0) (h1 : k0 + l.length ≤ 4611686018427387904) : Ev (fun k => laws_markIntS.f k l k0) (k0 + l.length, marked k0 l.length) := by
  unfold laws_markIntS.f
  have h := ev_down (fun k i => laws_markIntS.l0 k (marked k0 i ++ l.drop i) (k0 + i) (i : Int)) (fun _ => (k0 + l.length, marked k0 l.length)) l.length ?_ ?_ 0 (by omega)
  · simpa [marked] using h
  · refine Ev.step (fun k => laws_markIntS.l0.eq_2 ..) (ev_neg (by simp [marked_length]) (ev_now ?_))
    rw [drop_end l _ (Nat.le_refl _), List.append_nil]
  · intro i hi ih
    refine Ev.step (fun k => laws_markIntS.l0.eq_2 ..) (ev_pos (by simp [marked_length]; omega) (ev_pos (by omega) ?_))
    rw [w64n (by omega), w64 (by omega) (by omega), drop_rd l i hi, Int.toNat_natCast, List.set_append_right _ _ (by rw [marked_length]; omega), marked_length, Nat.sub_self, List.set_cons_zero]
    have e : marked k0 i ++ (k0 + (i : Int)) :: l.drop (i + 1) = marked k0 (i + 1) ++ l.drop (i + 1) := by rw [marked_snoc, List.append_assoc]; rfl
    have e2 : k0 + (i : Int) + 1 = k0 + ((i + 1 : Nat) : Int) := by omega
    rw [e, e2]
    exact ih
theorem rd_marked : ∀ (n i : Nat) (k : Int), i < n → rd (marked k n) (i : Int) = k + i := by
  intro n
  induction n with
  | zero => intro i k h; omega
  | succ n ih =>
    intro i k h
    cases i with
    | zero => show k = k + ((0 : Nat) : Int); omega
    | succ i =>
      have := ih i (k + 1) (by omega)
      rw [rd_nat] at this ⊢
      rw [marked, List.getD_cons_succ, this]
      omega
theorem heldInts_ev (n : Nat) (k0 : Int) (h0 : 0 ≤ k0) (h1 : k0 + n ≤ 4611686018427387904) : Ev (fun k => laws_heldIntS.f k (marked k0 n) k0) (k0 + n) := by
  unfold laws_heldIntS.f
  have h := ev_down (fun k i => laws_heldIntS.l0 k (marked k0 n) (k0 + i) (i : Int)) (fun _ => k0 + n) n ?_ ?_ 0 (by omega)
  · simpa using h
  · exact Ev.step (fun k => laws_heldIntS.l0.eq_2 ..) (ev_neg (by simp [marked_length]) (ev_now rfl))
  · intro i hi ih
    refine Ev.step (fun k => laws_heldIntS.l0.eq_2 ..) (ev_pos (by simp [marked_length]; omega) (ev_pos (by omega) (ev_pos (rd_marked n i k0 hi) ?_)))
    have e2 : k0 + (i : Int) + 1 = k0 + ((i + 1 : Nat) : Int) := by omega
    rw [w64n (by omega), w64 (by omega) (by omega), e2]
    exact ih

def markZ : List S54 → Int → List S54
  | [], _ => []
  | x :: z, k => ⟨marked k x.f0.length, k + x.f0.length⟩ :: markZ z (k + x.f0.length + 1)
def endZ : List S54 → Int → Int
  | [], k => k
  | x :: z, k => endZ z (k + x.f0.length + 1)
theorem endZ_ge : ∀ (z : List S54) (k : Int), k ≤ endZ z k := by
  intro z
  induction z with
  | nil => intro k; exact Int.le_refl _
  | cons x z ih => intro k; have := ih (k + x.f0.length + 1); unfold endZ; omega
theorem endZ_le : ∀ (z : List S54) (k : Int), (∀ x ∈ z, x.f0.length ≤ 1048576) → endZ z k ≤ k + z.length * 1048577 := by
  intro z
  induction z with
  | nil => intro k _; simp [endZ]
  | cons x z ih =>
    intro k h
    have hx := h x List.mem_cons_self
    have := ih (k + x.f0.length + 1) (fun y hy => h y (List.mem_cons_of_mem _ hy))
    unfold endZ
    simp only [List.length_cons]
    omega
theorem set_mid {α : Type} (p : List α) (x y : α) (z : List α) : (p ++ x :: z).set p.length y = (p ++ [y]) ++ z := by
  rw [List.set_append_right _ _ (Nat.le_refl _), Nat.sub_self, List.set_cons_zero, List.append_assoc]; rfl
theorem rd_mid (p : List S54) (x : S54) (z : List S54) : rd_T54 (p ++ x :: z) (p.length : Int) = x := by
  rw [rdI_at _ p.length (by simp)]; simp
theorem markItems_go : ∀ (z p : List S54) (a : Int), 0 ≤ a → (p ++ z).length ≤ 1048576 → a + z.length * 1048577 ≤ 4611686018427387904 → (∀ x ∈ z, x.f0.length ≤ 1048576) → Ev (fun k => laws_markItemS.l0 k (p ++ z) a (p.length : Int)) (endZ z a, p ++ markZ z a) := by
  intro z
  induction z with
  | nil => intro p a _ _ _ _; exact Ev.step (fun k => laws_markItemS.l0.eq_2 ..) (ev_neg (by simp) (ev_now (by simp [endZ, markZ])))
  | cons x z ih =>
    intro p a h0 hl h1 hr
    have hx := hr x List.mem_cons_self
    simp only [List.length_append, List.length_cons] at hl h1
    refine Ev.step (fun k => laws_markItemS.l0.eq_2 ..) (ev_pos (by simp; omega) (ev_pos (by omega) ?_))
    rw [rd_mid]
    refine (markInts_ev x.f0 a h0 (by omega)).bind ?_
    dsimp only
    rw [Int.toNat_natCast, set_mid, w64 (x := a + x.f0.length + 1) (by omega) (by omega), w64n (by omega)]
    have := ih (p ++ [⟨marked a x.f0.length, a + x.f0.length⟩]) (a + x.f0.length + 1) (by omega) (by simp; omega) (by omega) (fun y hy => hr y (List.mem_cons_of_mem _ hy))
    rw [show ((p ++ [(⟨marked a x.f0.length, a + x.f0.length⟩ : S54)]).length : Int) = ((p.length + 1 : Nat) : Int) by simp] at this
    rw [endZ, markZ, show p ++ (⟨marked a x.f0.length, a + x.f0.length⟩ : S54) :: markZ z (a + x.f0.length + 1) = (p ++ [⟨marked a x.f0.length, a + x.f0.length⟩]) ++ markZ z (a + x.f0.length + 1) by simp]
    exact this
theorem heldItems_go : ∀ (z p : List S54) (a : Int), 0 ≤ a → (p ++ z).length ≤ 1048576 → a + z.length * 1048577 ≤ 4611686018427387904 → (∀ x ∈ z, x.f0.length ≤ 1048576) → Ev (fun k => laws_heldItemS.l0 k (p ++ markZ z a) a (p.length : Int)) (endZ z a) := by
  intro z
  induction z with
  | nil => intro p a _ _ _ _; exact Ev.step (fun k => laws_heldItemS.l0.eq_2 ..) (ev_neg (by simp [markZ]) (ev_now (by simp [endZ])))
  | cons x z ih =>
    intro p a h0 hl h1 hr
    have hx := hr x List.mem_cons_self
    simp only [List.length_append, List.length_cons] at hl h1
    rw [markZ]
    refine Ev.step (fun k => laws_heldItemS.l0.eq_2 ..) (ev_pos (by simp; omega) (ev_pos (by omega) ?_))
    rw [rd_mid]
    refine (heldInts_ev x.f0.length a h0 (by omega)).bind (ev_neg (by omega) (ev_pos rfl ?_))
    rw [w64 (x := a + x.f0.length + 1) (by omega) (by omega), w64n (by omega)]
    have := ih (p ++ [⟨marked a x.f0.length, a + x.f0.length⟩]) (a + x.f0.length + 1) (by omega) (by simp; omega) (by omega) (fun y hy => hr y (List.mem_cons_of_mem _ hy))
    rw [show ((p ++ [(⟨marked a x.f0.length, a + x.f0.length⟩ : S54)]).length : Int) = ((p.length + 1 : Nat) : Int) by simp] at this
    rw [endZ, show p ++ (⟨marked a x.f0.length, a + x.f0.length⟩ : S54) :: markZ z (a + x.f0.length + 1) = (p ++ [⟨marked a x.f0.length, a + x.f0.length⟩]) ++ markZ z (a + x.f0.length + 1) by simp]
    exact this
theorem markItems_ev (z : List S54) (hs : Small z) (a : Int) (h0 : 0 ≤ a) (h1 : a ≤ 1000000000000000) : Ev (fun k => laws_markItemS.f k z a) (endZ z a, markZ z a) := by
  have := hs.len
  have h := markItems_go z [] a h0 (by simpa using this) (by omega) hs.row
  simpa [laws_markItemS.f] using h
theorem heldItems_ev (z : List S54) (hs : Small z) (a : Int) (h0 : 0 ≤ a) (h1 : a ≤ 1000000000000000) : Ev (fun k => laws_heldItemS.f k (markZ z a) a) (endZ z a) := by
  have := hs.len
  have h := heldItems_go z [] a h0 (by simpa using this) (by omega) hs.row
  simpa [laws_heldItemS.f] using h
theorem small_nil : Small ([] : List S54) := ⟨by simp, by simp⟩

theorem FnExactDeltaOnce : laws_FnExactDeltaOnce.Pure := by
  intro a b ⟨ha, ha'⟩ ⟨hb, hb'⟩
  refine Ev.rounds ?_
  unfold laws_FnExactDeltaOnce.f
  obtain ⟨r, hr, hr1, hr2⟩ := szItems_ev a 1048576 ha (fun x hx => (ha' x hx).1.1) (by omega) (by omega)
  refine hr.bind ?_
  by_cases h1 : r < 0
  · exact ev_pos h1 (ev_now rfl)
  refine ev_neg h1 ?_
  obtain ⟨s, hs, hs1, hs2⟩ := szItems_ev b r hb (fun x hx => (hb' x hx).1.1) (by omega) (by omega)
  refine hs.bind ?_
  by_cases h2 : s < 0
  · exact ev_pos h2 (ev_now rfl)
  refine ev_neg h2 ?_
  have sa := hr2 (by omega)
  have sb := hs2 (by omega)
  have ta := toItemS_ev a sa
  have tb := toItemS_ev b sb
  have sp := specOnce_ev _ _ sa sb
  have im := implOnce_ev _ _ sa sb
  have sg : Small (onceZ (a.map toI) (b.map toI)).1 := by
    unfold onceZ
    by_cases h : (addZ (a.map toI) (b.map toI)).2 = true
    · rw [if_pos h]
      obtain ⟨h1, h2, h3⟩ := addZ_facts h
      split
      · exact addL_small (posL_ok h3) (negL_ok (posL_ok h1))
      · exact small_nil
    · rw [if_neg h]
      exact small_nil
  generalize onceZ (a.map toI) (b.map toI) = g at sp im sg
  obtain ⟨g, t⟩ := g
  dsimp only at sg
  have eg := eqItemS_ev g g sg
  have ex := eqItemS_ev _ (a.map toI) sa
  have ey := eqItemS_ev _ (b.map toI) sb
  have gx := endZ_ge (a.map toI) 1
  have lx := endZ_le (a.map toI) 1 sa.row
  have la := sa.len
  have mx := markItems_ev _ sa 1 (by omega) (by omega)
  have my := markItems_ev _ sb (endZ (a.map toI) 1) (by omega) (by omega)
  have gy := endZ_ge (b.map toI) (endZ (a.map toI) 1)
  have mg := markItems_ev g sg 1 (by omega) (by omega)
  have hg := heldItems_ev g sg 1 (by omega) (by omega)
  have gg := endZ_ge g 1
  exact ta.bind (tb.bind (sp.bind (ta.bind (tb.bind (im.bind (eg.bind (ev_pos (by simp) (ev_pos rfl (ta.bind (ex.bind (ev_pos (by simp) (tb.bind (ey.bind (ev_pos (by simp) (mx.bind (my.bind (ev_neg (by omega) (eg.bind (ev_pos (by simp) (ev_pos rfl (mg.bind (hg.bind (ev_neg (by omega) (ev_pos rfl (ta.bind (tb.bind (im.bind (eg.bind (ev_pos (by simp) (ev_pos rfl (hg.bind (ev_neg (by omega) (ev_pos rfl (ev_now rfl))))))))))))))))))))))))))))))))))

end Go.Proofs.Ytaifnkapbffmaaa.Pure
