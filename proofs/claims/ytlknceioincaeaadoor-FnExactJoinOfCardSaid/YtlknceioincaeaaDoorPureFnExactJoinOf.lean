/- Over whatever two lists of items and two places the program's JoinOf and the reference's tell the same; the result is new memory (it stays when the arguments are written, and the other way round), and a second call tells the same: the law answers true. No condition beyond what the statement gives. -/
import Derived.Test.YtlknceioincaeaaDoorPFnExactJoinOfx14
import Derived.Test.YtlknceioincaeaaDoorQ
namespace Go.Proofs.YtlknceioincaeaaDoor.Pure
open Go.RowKit Go.Proofs.YtlknceioincaeaaDoor.PFnExactJoinOf Go.Proofs.YtlknceioincaeaaDoorW.PrintWords Go.Proofs.YtlknceioincaeaaDoorW.PrintLast Go.Proofs.YtlknceioincaeaaDoorW.PrintMore Go.Proofs.YtlknceioincaeaaDoor.Q

theorem ext_item {x y : S31} (h0 : x.f0 = y.f0) (h1 : x.f1 = y.f1) : x = y := by cases x; cases y; simp_all
instance decItem : DecidableEq S31 := fun x y => decidable_of_iff (x.f0 = y.f0 ∧ x.f1 = y.f1) ⟨fun h => ext_item h.1 h.2, fun h => by rw [h]; exact ⟨rfl, rfl⟩⟩
theorem item_iff (a b : List Int) (v u : Int) : (⟨a, v⟩ : S31) = ⟨b, u⟩ ↔ (a = b ∧ v = u) := ⟨fun h => by injection h with h1 h2; exact ⟨h1, h2⟩, fun h => by rw [h.1, h.2]⟩
theorem dec_cons {x y : S31} {s u : List S31} (h : x = y) : decide (x :: s = y :: u) = decide (s = u) := by subst h; rw [decide_eq_decide]; simp
theorem dec_cons_ne {x y : S31} {s u : List S31} (h : ¬ x = y) : decide (x :: s = y :: u) = false := by rw [decide_eq_false_iff_not]; intro e; injection e with e1 e2; exact h e1
theorem rdI_at (l : List S31) (i : Nat) (h : i < l.length) : rd_T31 l (i : Int) = l[i] := by
  show l.getD _ _ = _
  rw [Int.toNat_natCast, List.getD_eq_getElem?_getD, List.getElem?_eq_getElem h]; rfl
theorem drop_at {α : Type} (l : List α) (i : Nat) (h : i < l.length) : l.drop i = l[i] :: l.drop (i + 1) := List.drop_eq_getElem_cons h
/-- items no longer than so, their rows too -/
structure Small (l : List S31) : Prop where
  len : l.length ≤ 1048576
  row : ∀ x ∈ l, x.f0.length ≤ 1048576

/-- the law's item, as the program's -/
def toI (x : S59) : S31 := ⟨x.f0, x.f1⟩
theorem rdL_at (l : List S59) (i : Nat) (h : i < l.length) : rd_T59 l (i : Int) = l[i] := by
  show l.getD _ _ = _
  rw [Int.toNat_natCast, List.getD_eq_getElem?_getD, List.getElem?_eq_getElem h]; rfl
theorem szInts (l : List Int) (a : Int) (hl : l.length ≤ maxLen) (ha : 0 ≤ a) (ha1 : a ≤ 1048576) : ∃ r, laws_szIntS.f l a = some r ∧ r ≤ a ∧ (0 ≤ r → (l.length : Int) ≤ a) := by
  have hm : maxLen = 9223372036854775807 := rfl
  unfold laws_szIntS.f
  rw [w64 (by omega) (by omega)]
  by_cases h : a - (l.length : Int) < 0
  · rw [if_pos h]; exact ⟨-1, rfl, by omega, by omega⟩
  · rw [if_neg h]; exact ⟨_, rfl, by omega, by omega⟩
theorem szItem (l : List Int) (v a : Int) (hl : l.length ≤ maxLen) (ha : 0 ≤ a) (ha1 : a ≤ 1048576) : ∃ r, laws_szItem.f l v a = some r ∧ r ≤ a ∧ (0 ≤ r → (l.length : Int) ≤ a) := by
  obtain ⟨r, hr, h1, h2⟩ := szInts l a hl ha ha1
  unfold laws_szItem.f
  rw [hr]
  simp only [Option.bind_some]
  by_cases h : r < 0
  · rw [if_pos h]; exact ⟨-1, rfl, by omega, by omega⟩
  · rw [if_neg h]; exact ⟨r, rfl, h1, h2⟩
theorem szItems_ev (l : List S59) (a : Int) (hl : l.length ≤ maxLen) (hr : ∀ x ∈ l, x.f0.length ≤ maxLen) (ha : 0 ≤ a) (ha1 : a ≤ 1048576) :
    ∃ r, Ev (fun k => laws_szItemS.f k l a) r ∧ r ≤ a ∧ (0 ≤ r → Small (l.map toI)) := by
  have hm : maxLen = 9223372036854775807 := rfl
  unfold laws_szItemS.f
  rw [w64 (by omega) (by omega)]
  by_cases h : a - (l.length : Int) < 0
  · exact ⟨-1, ev_pos h (ev_now rfl), by omega, by omega⟩
  have go : ∀ (d i : Nat) (b : Int), i + d = l.length → 0 ≤ b → b ≤ a → ∃ r, Ev (fun k => laws_szItemS.l0 k l b (i : Int)) r ∧ r ≤ b ∧ (0 ≤ r → ∀ x ∈ l.drop i, x.f0.length ≤ 1048576) := by
    intro d
    induction d with
    | zero =>
      intro i b hi hb _
      exact ⟨b, Ev.step (fun k => laws_szItemS.l0.eq_2 ..) (ev_neg (by omega) (ev_now rfl)), by omega, fun _ => by rw [drop_end l i (by omega)]; simp⟩
    | succ d ih =>
      intro i b hi hb hba
      have hil : i < l.length := by omega
      obtain ⟨c, hc, hc1, hc2⟩ := szItem l[i].f0 l[i].f1 b (hr _ (List.getElem_mem _)) hb (by omega)
      have hc' : laws_szItem.f (rd_T59 l (i : Int)).f0 (rd_T59 l (i : Int)).f1 b = some c := by rw [rdL_at l i hil]; exact hc
      by_cases hn : c < 0
      · exact ⟨-1, Ev.step (fun k => laws_szItemS.l0.eq_2 ..) (ev_pos (by omega) (ev_pos (by omega) (ev_eq hc' (ev_pos hn (ev_now rfl))))), by omega, by omega⟩
      · obtain ⟨r, hr1, hr2, hr3⟩ := ih (i + 1) c (by omega) (by omega) (by omega)
        refine ⟨r, Ev.step (fun k => laws_szItemS.l0.eq_2 ..) (ev_pos (by omega) (ev_pos (by omega) (ev_eq hc' (ev_neg hn ?_)))), by omega, fun h0 x hx => ?_⟩
        · rw [w64n (by omega)]; exact hr1
        · rw [drop_at l i hil] at hx
          rcases List.mem_cons.1 hx with h1 | h1
          · subst h1; have := hc2 (by omega); omega
          · exact hr3 h0 x h1
  obtain ⟨r, h1, h2, h3⟩ := go l.length 0 (a - l.length) (by omega) (by omega) (by omega)
  refine ⟨r, ev_neg h h1, by omega, fun h0 => ⟨by simp; omega, fun x hx => ?_⟩⟩
  obtain ⟨y, hy, rfl⟩ := List.mem_map.1 hx
  exact h3 h0 y (by simpa using hy)

theorem toIntS_ev (l : List Int) (hl : l.length ≤ 35184372088832) : Ev (fun k => laws_toIntS.f k l) l := by
  have h := ev_down (fun k i => laws_toIntS.l0 k l (l.take i ++ List.replicate (l.length - i) 0) (i : Int)) (fun _ => l) l.length ?_ ?_ 0 (by omega)
  · unfold laws_toIntS.f
    refine ev_pos (by omega) (ev_pos (by omega) ?_)
    simpa using h
  · refine Ev.step (fun k => laws_toIntS.l0.eq_2 ..) (ev_neg (by omega) (ev_now (by simp)))
  · intro i hi ih
    refine Ev.step (fun k => laws_toIntS.l0.eq_2 ..) (ev_pos (by omega) (ev_pos (by omega) (ev_pos (by simp; omega) ?_)))
    rw [w64n (by omega)]
    have : (l.take i ++ List.replicate (l.length - i) 0).set (i : Int).toNat (rd l (i : Int)) = l.take (i + 1) ++ List.replicate (l.length - (i + 1)) 0 := by
      obtain ⟨d, hd⟩ : ∃ d, l.length - i = d + 1 := ⟨l.length - i - 1, by omega⟩
      have h2 : l.length - (i + 1) = d := by omega
      rw [hd, h2, List.replicate_succ, Int.toNat_natCast, List.set_append_right _ _ (by simp; omega), List.length_take, Nat.min_eq_left (by omega), Nat.sub_self, List.set_cons_zero,
        List.take_succ_eq_append_getElem hi, rd_nat, List.getD_eq_getElem?_getD, List.getElem?_eq_getElem hi, List.append_assoc]
      rfl
    rw [this]
    exact ih

theorem toItem_ev (l : List Int) (v : Int) (hl : l.length ≤ 1048576) : Ev (fun k => laws_toItem.f k l v) (l, v) := by
  unfold laws_toItem.f
  exact (toIntS_ev l (by omega)).bind (ev_now rfl)
theorem toItemS_ev (l : List S59) (hs : Small (l.map toI)) : Ev (fun k => laws_toItemS.f k l) (l.map toI) := by
  have hl : l.length ≤ 1048576 := by simpa using hs.len
  have h := ev_down (fun k i => laws_toItemS.l0 k l ((l.take i).map toI ++ List.replicate (l.length - i) z31) (i : Int)) (fun _ => l.map toI) l.length ?_ ?_ 0 (by omega)
  · unfold laws_toItemS.f
    refine ev_pos (by omega) (ev_pos (by omega) ?_)
    simpa using h
  · refine Ev.step (fun k => laws_toItemS.l0.eq_2 ..) (ev_neg (by omega) (ev_now (by simp)))
  · intro i hi ih
    have ht := toItem_ev l[i].f0 l[i].f1 (by have := hs.row (toI l[i]) (List.mem_map_of_mem (List.getElem_mem _)); exact this)
    refine Ev.step (fun k => laws_toItemS.l0.eq_2 ..) (ev_pos (by omega) (ev_pos (by omega) ?_))
    rw [rdL_at l i hi]
    refine ht.bind (ev_pos (by simp; omega) ?_)
    rw [w64n (by omega)]
    have : ((l.take i).map toI ++ List.replicate (l.length - i) z31).set (i : Int).toNat (⟨l[i].f0, l[i].f1⟩ : S31) = (l.take (i + 1)).map toI ++ List.replicate (l.length - (i + 1)) z31 := by
      obtain ⟨d, hd⟩ : ∃ d, l.length - i = d + 1 := ⟨l.length - i - 1, by omega⟩
      have h2 : l.length - (i + 1) = d := by omega
      rw [hd, h2, List.replicate_succ, Int.toNat_natCast, List.set_append_right _ _ (by simp; omega), List.length_map, List.length_take, Nat.min_eq_left (by omega), Nat.sub_self, List.set_cons_zero,
        List.take_succ_eq_append_getElem hi, List.map_append, List.append_assoc]
      rfl
    rw [this]
    exact ih

theorem eqIntS_ev (a b : List Int) (ha : a.length < 4611686018427387904) : Ev (fun k => laws_eqIntS.f k a b) (decide (a = b)) := by
  unfold laws_eqIntS.f
  by_cases hl : a.length = b.length
  · refine ev_pos (by omega) ?_
    have h := ev_down (fun k i => laws_eqIntS.l0 k a b (i : Int)) (fun i => decide (a.drop i = b.drop i)) a.length ?_ ?_ 0 (by omega)
    · simpa using h
    · refine Ev.step (fun k => laws_eqIntS.l0.eq_2 ..) (ev_neg (by omega) (ev_now ?_))
      rw [drop_end a _ (Nat.le_refl _), drop_end b _ (by omega)]; simp
    · intro i hi ih
      refine Ev.step (fun k => laws_eqIntS.l0.eq_2 ..) (ev_pos (by omega) (ev_pos (by omega) (ev_pos (by omega) ?_)))
      rw [drop_rd a i hi, drop_rd b i (by omega)]
      by_cases h1 : rd a i = rd b i
      · refine ev_pos h1 ?_
        rw [w64n (by omega)]
        simpa [h1] using ih
      · exact ev_neg h1 (ev_now (by simp [h1]))
  · exact ev_neg (by omega) (ev_now (by symm; rw [decide_eq_false_iff_not]; intro h; exact hl (by rw [h])))

theorem eqItem_ev (x y : S31) (ha : x.f0.length ≤ 1048576) : Ev (fun k => laws_eqItem.f k x.f0 x.f1 y.f0 y.f1) (decide (x = y)) := by
  unfold laws_eqItem.f
  refine (eqIntS_ev x.f0 y.f0 (by omega)).bind ?_
  by_cases h : x.f0 = y.f0
  · refine ev_pos (decide_eq_true h) ?_
    by_cases h1 : x.f1 = y.f1
    · exact ev_pos h1 (ev_now (decide_eq_true (ext_item h h1)).symm)
    · exact ev_neg h1 (ev_now (decide_eq_false (fun e => h1 (by rw [e]))).symm)
  · exact ev_neg (by simp [h]) (ev_now (decide_eq_false (fun e => h (by rw [e]))).symm)
theorem eqItemS_ev (a b : List S31) (hs : Small a) : Ev (fun k => laws_eqItemS.f k a b) (decide (a = b)) := by
  have ha := hs.len
  unfold laws_eqItemS.f
  by_cases hl : a.length = b.length
  · refine ev_pos (by omega) ?_
    have h := ev_down (fun k i => laws_eqItemS.l0 k a b (i : Int)) (fun i => decide (a.drop i = b.drop i)) a.length ?_ ?_ 0 (by omega)
    · simpa using h
    · refine Ev.step (fun k => laws_eqItemS.l0.eq_2 ..) (ev_neg (by omega) (ev_now ?_))
      rw [drop_end a _ (Nat.le_refl _), drop_end b _ (by omega)]; simp
    · intro i hi ih
      have he := eqItem_ev a[i] b[i] (hs.row _ (List.getElem_mem _))
      refine Ev.step (fun k => laws_eqItemS.l0.eq_2 ..) (ev_pos (by omega) (ev_pos (by omega) (ev_pos (by omega) ?_)))
      rw [rdI_at a i hi, rdI_at b i (by omega)]
      refine he.bind ?_
      rw [drop_at a i hi, drop_at b i (by omega)]
      by_cases h1 : a[i] = b[i]
      · refine ev_pos (decide_eq_true h1) ?_
        rw [w64n (by omega), dec_cons h1]
        exact ih
      · exact ev_neg (by rw [decide_eq_true_iff]; exact h1) (ev_now (dec_cons_ne h1).symm)
  · exact ev_neg (by omega) (ev_now (by symm; rw [decide_eq_false_iff_not]; intro h; exact hl (by rw [h])))

theorem clone_some (l : List Int) (h : l.length ≤ 1048576) : slices_Clone_int_int.f l = some l := by unfold slices_Clone_int_int.f; rw [if_pos (by omega)]
theorem copyItems_ev (z : List S31) (hs : Small z) : Ev (fun k => impl_copyItems.f k z) z := by
  have hz := hs.len
  have h := ev_down (fun k i => impl_copyItems.l0 k (z.take i) z (z.length : Int) (i : Int)) (fun _ => z) z.length ?_ ?_ 0 (by omega)
  · simpa [impl_copyItems.f] using h
  · exact Ev.step (fun k => impl_copyItems.l0.eq_2 ..) (ev_neg (by omega) (ev_now (by rw [List.take_length])))
  · intro i hi ih
    have hr := hs.row _ (List.getElem_mem hi)
    refine Ev.step (fun k => impl_copyItems.l0.eq_2 ..) (ev_pos (by omega) (ev_pos (by omega) (ev_pos (by omega) ?_)))
    rw [rdI_at z i hi]
    refine ev_eq (clone_some _ hr) (ev_pos (by simp; omega) ?_)
    rw [w64n (by omega)]
    rw [List.take_succ_eq_append_getElem hi] at ih
    exact ih

/-- RowOk -/
def cellB (n : Int) : Bool := decide (-1000000000 ≤ n ∧ n ≤ 1000000000)
def okRow (r : List Int) : Bool := decide (1 ≤ r.length) && decide (r.length ≤ 6) && r.all cellB
theorem specCell (n : Int) : spec_l1Cell.f n = some (cellB n) := by
  unfold spec_l1Cell.f cellB
  by_cases h : n ≥ -1000000000
  · rw [if_pos h]; simp; omega
  · rw [if_neg h]; simp; omega

/-- l1Order -/
def ordL : List Int → List Int → Int → Int
  | [], _, d => d
  | _ :: _, [], d => d
  | a :: x, b :: y, d => if a < b then -1 else if b < a then 1 else ordL x y d

theorem ordL_zero : ∀ a b : List Int, ordL a b ((a.length : Int) - b.length) = 0 ↔ a = b := by
  have go : ∀ (a b : List Int) (d : Int), d = (a.length : Int) - b.length → (ordL a b d = 0 ↔ a = b) := by
    intro a
    induction a with
    | nil => intro b d hd; cases b <;> simp [ordL] at hd ⊢ <;> omega
    | cons x a ih =>
      intro b d hd
      cases b with
      | nil => simp [ordL] at hd ⊢; omega
      | cons y b =>
        have := ih b d (by simp at hd; omega)
        simp only [ordL]
        by_cases h1 : x < y
        · rw [if_pos h1]; simp; omega
        · rw [if_neg h1]
          by_cases h2 : y < x
          · rw [if_pos h2]; simp; omega
          · rw [if_neg h2, this]
            obtain rfl : x = y := by omega
            simp
  exact fun a b => go a b _ rfl

/-- slices.Compare -/
def lexc : List Int → List Int → Int
  | [], [] => 0
  | [], _ :: _ => -1
  | _ :: _, [] => 1
  | a :: x, b :: y => if a < b then -1 else if b < a then 1 else lexc x y
theorem lexc_ordL : ∀ a b : List Int, (ordL a b ((a.length : Int) - b.length) < 0 ↔ lexc a b < 0) := by
  have go : ∀ (a b : List Int) (d : Int), d = (a.length : Int) - b.length → (ordL a b d < 0 ↔ lexc a b < 0) := by
    intro a
    induction a with
    | nil => intro b d hd; cases b <;> simp [ordL, lexc] at hd ⊢ <;> omega
    | cons x a ih =>
      intro b d hd
      cases b with
      | nil => simp [ordL, lexc] at hd ⊢; omega
      | cons y b =>
        have := ih b d (by simp at hd; omega)
        simp only [ordL, lexc]
        by_cases h1 : x < y
        · rw [if_pos h1, if_pos h1]
        · rw [if_neg h1, if_neg h1]
          by_cases h2 : y < x
          · rw [if_pos h2, if_pos h2]
          · rw [if_neg h2, if_neg h2, this]
  exact fun a b => go a b _ rfl

def okW (w : Int) : Bool := decide (w ≠ 0) && (decide (-10000 ≤ w) && decide (w ≤ 10000))
/-- items in order, behind a row -/
def chain : Option (List Int) → List S31 → Bool
  | _, [] => true
  | p, x :: z => okRow x.f0 && (okW x.f1 && ((match p with | none => true | some r => decide (lexc r x.f0 < 0)) && chain (some x.f0) z))
theorem chain_nil (p : Option (List Int)) : chain p [] = true := by cases p <;> rfl
theorem chain_cons (p : Option (List Int)) (x : S31) (z : List S31) : chain p (x :: z) = (okRow x.f0 && (okW x.f1 && ((match p with | none => true | some r => decide (lexc r x.f0 < 0)) && chain (some x.f0) z))) := by cases p <;> rfl
def okZ (z : List S31) : Bool := decide (z.length ≤ 100) && chain none z
/-- the row ahead of a place -/
def ahead (z : List S31) (i : Nat) : Option (List Int) := if i = 0 then none else (z[i - 1]?).map (·.f0)
theorem ahead_succ (z : List S31) (i : Nat) (h : i < z.length) : ahead z (i + 1) = some z[i].f0 := by
  unfold ahead
  rw [if_neg (by omega), Nat.add_sub_cancel, List.getElem?_eq_getElem h]
  rfl

theorem lexc_swap : ∀ a b : List Int, lexc b a = - lexc a b := by
  intro a
  induction a with
  | nil => intro b; cases b <;> rfl
  | cons x a ih =>
    intro b
    cases b with
    | nil => rfl
    | cons y b =>
      simp only [lexc]
      by_cases h1 : x < y
      · rw [if_pos h1, if_neg (by omega), if_pos h1]; rfl
      · rw [if_neg h1]
        by_cases h2 : y < x
        · rw [if_pos h2, if_neg h1, if_pos h2]
        · rw [if_neg h2, if_neg h1, if_neg h2, ih]
theorem lexc_zero : ∀ a b : List Int, lexc a b = 0 ↔ a = b := by
  intro a
  induction a with
  | nil => intro b; cases b <;> simp [lexc]
  | cons x a ih =>
    intro b
    cases b with
    | nil => simp [lexc]
    | cons y b =>
      simp only [lexc]
      by_cases h1 : x < y
      · rw [if_pos h1]; simp; omega
      · rw [if_neg h1]
        by_cases h2 : y < x
        · rw [if_pos h2]; simp; omega
        · rw [if_neg h2, ih]
          obtain rfl : x = y := by omega
          simp
theorem lexc_trans : ∀ a b c : List Int, lexc a b < 0 → lexc b c < 0 → lexc a c < 0 := by
  intro a
  induction a with
  | nil =>
    intro b c h1 h2
    cases b with
    | nil => simp [lexc] at h1
    | cons y b =>
      cases c with
      | nil => simp [lexc] at h2
      | cons z c => simp [lexc]
  | cons x a ih =>
    intro b c h1 h2
    cases b with
    | nil => simp [lexc] at h1
    | cons y b =>
      cases c with
      | nil => simp [lexc] at h2
      | cons z c =>
        simp only [lexc] at h1 h2 ⊢
        by_cases c1 : x < z
        · rw [if_pos c1]; decide
        · rw [if_neg c1]
          by_cases d1 : x < y
          · rw [if_neg (by omega)] at h2
            rw [if_pos (by omega)] at h2
            simp at h2
          · rw [if_neg d1] at h1
            by_cases d2 : y < x
            · rw [if_pos d2] at h1; simp at h1
            · rw [if_neg d2] at h1
              obtain rfl : x = y := by omega
              rw [if_neg c1] at h2
              by_cases c2 : z < x
              · rw [if_pos c2] at h2; simp at h2
              · rw [if_neg c2] at h2 ⊢
                exact ih b c h1 h2
theorem lexc_app : ∀ a b : List Int, lexc a (a ++ b) = if b = [] then 0 else -1 := by
  intro a
  induction a with
  | nil => intro b; cases b <;> simp [lexc]
  | cons x a ih =>
    intro b
    rw [List.cons_append]
    simp only [lexc]
    rw [if_neg (by omega), if_neg (by omega), ih]

theorem okRow_iff (r : List Int) : okRow r = true ↔ (1 ≤ r.length ∧ r.length ≤ 6 ∧ ∀ x ∈ r, cellB x = true) := by
  unfold okRow; simp [and_assoc]
theorem okRow_set (r : List Int) (v : Int) (hr : 1 ≤ r.length) (hv : cellB v = false) : okRow (r.set 0 v) = false := by
  rw [Bool.eq_false_iff]
  intro h
  have := ((okRow_iff _).1 h).2.2 v (List.mem_set (by omega) v)
  rw [hv] at this
  cases this
theorem lexc_take : ∀ (r : List Int) (n : Nat), n < r.length → lexc (r.take n) r = -1 := by
  intro r
  induction r with
  | nil => intro n h; simp at h
  | cons x r ih =>
    intro n h
    cases n with
    | zero => rfl
    | succ n =>
      rw [List.take_succ_cons]
      simp only [lexc]
      rw [if_neg (by omega), if_neg (by omega)]
      exact ih n (by simpa using h)
theorem okRow_take (r : List Int) (n : Nat) (h : okRow r = true) : okRow (r.take n) = decide ((r.take n).length > 0) := by
  obtain ⟨h1, h2, h3⟩ := (okRow_iff r).1 h
  rw [Bool.eq_iff_iff, okRow_iff, decide_eq_true_iff]
  constructor
  · intro k; omega
  · intro k
    exact ⟨by omega, by rw [List.length_take]; omega, fun x hx => h3 x (List.mem_of_mem_take hx)⟩

/-- rows in order, pairwise -/
def sorted (z : List S31) : Prop := ∀ i j (hi : i < z.length) (hj : j < z.length), i < j → lexc z[i].f0 z[j].f0 < 0
theorem chain_sorted : ∀ (z : List S31) (p : Option (List Int)), chain p z = true → (∀ r, p = some r → ∀ x ∈ z, lexc r x.f0 < 0) ∧ z.Pairwise (fun x y => lexc x.f0 y.f0 < 0) ∧ ∀ x ∈ z, okRow x.f0 = true ∧ okW x.f1 = true := by
  intro z
  induction z with
  | nil => intro p _; exact ⟨by simp, .nil, by simp⟩
  | cons x z ih =>
    intro p h
    rw [chain_cons] at h
    simp only [Bool.and_eq_true] at h
    obtain ⟨h1, h2, h3, h4⟩ := h
    obtain ⟨i1, i2, i3⟩ := ih _ h4
    have i1 := i1 _ rfl
    refine ⟨fun r hr y hy => ?_, List.pairwise_cons.2 ⟨i1, i2⟩, fun y hy => ?_⟩
    · subst hr
      have h3' : lexc r x.f0 < 0 := by simpa using h3
      rcases List.mem_cons.1 hy with e | e
      · subst e; exact h3'
      · exact lexc_trans _ _ _ h3' (i1 y e)
    · rcases List.mem_cons.1 hy with e | e
      · subst e; exact ⟨h1, h2⟩
      · exact i3 y e
theorem okZ_facts {z : List S31} (h : okZ z = true) : z.length ≤ 100 ∧ z.Pairwise (fun x y => lexc x.f0 y.f0 < 0) ∧ ∀ x ∈ z, okRow x.f0 = true ∧ okW x.f1 = true := by
  unfold okZ at h
  simp only [Bool.and_eq_true, decide_eq_true_iff] at h
  obtain ⟨h1, h2⟩ := h
  obtain ⟨_, h3, h4⟩ := chain_sorted z none h2
  exact ⟨h1, h3, h4⟩
theorem pairwise_at {α : Type} {R : α → α → Prop} {z : List α} (h : z.Pairwise R) {i j : Nat} (hi : i < z.length) (hj : j < z.length) (hij : i < j) : R z[i] z[j] := List.pairwise_iff_getElem.1 h i j hi hj hij

theorem okZ_w {z : List S31} (h : okZ z = true) : ∀ x ∈ z, -10000 ≤ x.f1 ∧ x.f1 ≤ 10000 ∧ x.f1 ≠ 0 := by
  intro x hx
  unfold okZ at h
  simp only [Bool.and_eq_true, decide_eq_true_iff] at h
  have go : ∀ (z : List S31) (p : Option (List Int)), chain p z = true → ∀ x ∈ z, okW x.f1 = true := by
    intro z
    induction z with
    | nil => intro p _ x hx; cases hx
    | cons y z ih =>
      intro p h x hx
      rw [chain_cons] at h
      simp only [Bool.and_eq_true] at h
      rcases List.mem_cons.1 hx with e | e
      · subst e; exact h.2.1
      · exact ih _ h.2.2.2 x e
  have := go z none h.2 x hx
  unfold okW at this
  simp at this
  omega

/-- the weight of a row, or 0 -/
def wOf (r : List Int) : List S31 → Int
  | [] => 0
  | x :: z => if x.f0 = r then x.f1 else wOf r z
def getZ (z : List S31) (r : List Int) : Int := if okZ z = true then wOf r z else 0

/-! weighted lists in order -/
theorem lexc_irr (a : List Int) : lexc a a = 0 := (lexc_zero a a).2 rfl
theorem lexc_gt {a b : List Int} (h1 : ¬ lexc a b < 0) (h2 : a ≠ b) : lexc b a < 0 := by
  have := lexc_swap a b
  have h3 : lexc a b ≠ 0 := fun e => h2 ((lexc_zero a b).1 e)
  omega
/-- rows in order, and no weight of 0 -/
structure Canon (z : List S31) : Prop where
  ord : z.Pairwise (fun x y => lexc x.f0 y.f0 < 0)
  nz : ∀ x ∈ z, x.f1 ≠ 0
theorem Canon.nil : Canon [] := ⟨.nil, by simp⟩
theorem Canon.tail {x : S31} {z : List S31} (h : Canon (x :: z)) : Canon z := ⟨(List.pairwise_cons.1 h.ord).2, fun y hy => h.nz y (List.mem_cons_of_mem _ hy)⟩
theorem Canon.head {x : S31} {z : List S31} (h : Canon (x :: z)) : ∀ y ∈ z, lexc x.f0 y.f0 < 0 := (List.pairwise_cons.1 h.ord).1
theorem canon_cons {x : S31} {z : List S31} (h : Canon z) (h0 : x.f1 ≠ 0) (h1 : ∀ y ∈ z, lexc x.f0 y.f0 < 0) : Canon (x :: z) :=
  ⟨List.pairwise_cons.2 ⟨h1, h.ord⟩, fun y hy => (List.mem_cons.1 hy).elim (fun e => by rw [e]; exact h0) (fun e => h.nz y e)⟩
theorem wOf_below {r : List Int} : ∀ {z : List S31}, (∀ y ∈ z, lexc r y.f0 < 0) → wOf r z = 0 := by
  intro z
  induction z with
  | nil => intro _; rfl
  | cons x z ih =>
    intro h
    have hx := h x List.mem_cons_self
    unfold wOf
    rw [if_neg (fun e => by rw [e, lexc_irr] at hx; omega)]
    exact ih (fun y hy => h y (List.mem_cons_of_mem _ hy))
theorem wOf_mem : ∀ {z : List S31} {x : S31}, Canon z → x ∈ z → wOf x.f0 z = x.f1 := by
  intro z
  induction z with
  | nil => intro x _ h; cases h
  | cons y z ih =>
    intro x hc hx
    unfold wOf
    rcases List.mem_cons.1 hx with e | e
    · subst e; rw [if_pos rfl]
    · have := hc.head x e
      rw [if_neg (fun e2 => by rw [e2, lexc_irr] at this; omega)]
      exact ih hc.tail e
theorem wOf_ne : ∀ {z : List S31} {r : List Int}, wOf r z ≠ 0 → ∃ x ∈ z, x.f0 = r := by
  intro z
  induction z with
  | nil => intro r h; exact absurd rfl h
  | cons y z ih =>
    intro r h
    unfold wOf at h
    by_cases e : y.f0 = r
    · exact ⟨y, List.mem_cons_self, e⟩
    · rw [if_neg e] at h
      obtain ⟨x, hx, hr⟩ := ih h
      exact ⟨x, List.mem_cons_of_mem _ hx, hr⟩
theorem wOf_mem' {x y : S31} {b : List S31} (hb : Canon (y :: b)) (e : x.f0 = y.f0) : wOf x.f0 (y :: b) = y.f1 := by rw [e]; exact wOf_mem hb List.mem_cons_self
theorem canon_ext : ∀ {a b : List S31}, Canon a → Canon b → (∀ r, wOf r a = wOf r b) → a = b := by
  intro a
  induction a with
  | nil =>
    intro b _ hb h
    cases b with
    | nil => rfl
    | cons y b =>
      have := h y.f0
      rw [wOf_mem hb List.mem_cons_self] at this
      exact absurd this.symm (hb.nz y List.mem_cons_self)
  | cons x a ih =>
    intro b ha hb h
    cases b with
    | nil =>
      have := h x.f0
      rw [wOf_mem ha List.mem_cons_self] at this
      exact absurd this (ha.nz x List.mem_cons_self)
    | cons y b =>
      have hx := h x.f0
      rw [wOf_mem ha List.mem_cons_self] at hx
      have hy := h y.f0
      rw [wOf_mem hb List.mem_cons_self] at hy
      have e0 : x.f0 = y.f0 := by
        obtain ⟨u, hu, hur⟩ := wOf_ne (z := y :: b) (r := x.f0) (by rw [← hx]; exact ha.nz x List.mem_cons_self)
        obtain ⟨v, hv, hvr⟩ := wOf_ne (z := x :: a) (r := y.f0) (by rw [hy]; exact hb.nz y List.mem_cons_self)
        rcases List.mem_cons.1 hu with e | e
        · rw [← hur, e]
        · rcases List.mem_cons.1 hv with e2 | e2
          · rw [← hvr, e2]
          · have h1 := hb.head u e
            have h2 := ha.head v e2
            rw [hur] at h1
            rw [hvr] at h2
            have := lexc_swap x.f0 y.f0
            omega
      have e1 : x.f1 = y.f1 := by rw [hx, wOf_mem' hb e0]
      obtain rfl : x = y := ext_item e0 e1
      congr 1
      refine ih ha.tail hb.tail (fun r => ?_)
      have := h r
      unfold wOf at this
      by_cases e : x.f0 = r
      · subst e
        rw [wOf_below ha.head, wOf_below hb.head]
      · rw [if_neg e, if_neg e] at this
        exact this

theorem chain_of : ∀ (z : List S31) (p : Option (List Int)), z.Pairwise (fun x y => lexc x.f0 y.f0 < 0) → (∀ x ∈ z, okRow x.f0 = true ∧ okW x.f1 = true) → (∀ r, p = some r → ∀ x ∈ z, lexc r x.f0 < 0) → chain p z = true := by
  intro z
  induction z with
  | nil => intro p _ _ _; exact chain_nil p
  | cons x z ih =>
    intro p h1 h2 h3
    rw [List.pairwise_cons] at h1
    have hx := h2 x List.mem_cons_self
    rw [chain_cons, hx.1, hx.2, ih (some x.f0) h1.2 (fun y hy => h2 y (List.mem_cons_of_mem _ hy)) (fun r hr y hy => by injection hr with hr; rw [← hr]; exact h1.1 y hy)]
    cases p with
    | none => rfl
    | some r => simp [h3 r rfl x List.mem_cons_self]
theorem okZ_of {z : List S31} (hl : z.length ≤ 100) (h1 : z.Pairwise (fun x y => lexc x.f0 y.f0 < 0)) (h2 : ∀ x ∈ z, okRow x.f0 = true ∧ okW x.f1 = true) : okZ z = true := by
  unfold okZ
  rw [chain_of z none h1 h2 (fun r hr => by cases hr), decide_eq_true hl]
  rfl
theorem okW_iff (w : Int) : okW w = true ↔ (w ≠ 0 ∧ -10000 ≤ w ∧ w ≤ 10000) := by unfold okW; simp
theorem okZ_canon {z : List S31} (h : okZ z = true) : Canon z := ⟨(okZ_facts h).2.1, fun x hx => (okZ_w h x hx).2.2⟩
theorem okZ_small {z : List S31} (h : okZ z = true) : Small z := ⟨by have := (okZ_facts h).1; omega, fun x hx => by
  have := ((okZ_facts h).2.2 x hx).1
  rw [okRow_iff] at this; omega⟩

theorem implCell (n : Int) : impl_isCell.f n = some (cellB n) := by
  unfold impl_isCell.f cellB
  by_cases h : n ≥ -1000000000
  · rw [if_pos h]; simp; omega
  · rw [if_neg h]; simp; omega
theorem implIndex_ev (r : List Int) (hr : r.length < 4611686018427387904) : ∃ j : Int, Ev (fun k => slices_IndexFunc_int_int__impl_RowOk_1.f k r) j ∧ (decide (j ≥ 0) = !r.all cellB) := by
  have h : ∀ i, i ≤ r.length → ∃ j : Int, Ev (fun k => slices_IndexFunc_int_int__impl_RowOk_1.l0 k r (r.length : Int) (i : Int)) j ∧ (decide (j ≥ 0) = !(r.drop i).all cellB) := by
    have go : ∀ d i, i + d = r.length → ∃ j : Int, Ev (fun k => slices_IndexFunc_int_int__impl_RowOk_1.l0 k r (r.length : Int) (i : Int)) j ∧ (decide (j ≥ 0) = !(r.drop i).all cellB) := by
      intro d
      induction d with
      | zero =>
        intro i h
        refine ⟨-1, Ev.step (fun k => slices_IndexFunc_int_int__impl_RowOk_1.l0.eq_2 ..) (ev_neg (by omega) (ev_now rfl)), ?_⟩
        rw [drop_end r i (by omega)]; rfl
      | succ d ih =>
        intro i h
        obtain ⟨j, hj, hk⟩ := ih (i + 1) (by omega)
        have e1 : impl_RowOk_1.f (rd r i) = some (!cellB (rd r i)) := by unfold impl_RowOk_1.f; rw [implCell]; rfl
        rw [drop_rd r i (by omega), List.all_cons]
        cases hc : cellB (rd r i) with
        | true =>
          refine ⟨j, Ev.step (fun k => slices_IndexFunc_int_int__impl_RowOk_1.l0.eq_2 ..) (ev_pos (by omega) (ev_pos (by omega) (ev_pos (by omega) (ev_eq e1 (ev_neg (by rw [hc]; decide) ?_))))), by simpa using hk⟩
          rw [w64n (by omega)]
          exact hj
        | false =>
          refine ⟨(i : Int), Ev.step (fun k => slices_IndexFunc_int_int__impl_RowOk_1.l0.eq_2 ..) (ev_pos (by omega) (ev_pos (by omega) (ev_pos (by omega) (ev_eq e1 (ev_pos (by rw [hc]; rfl) (ev_now rfl)))))), ?_⟩
          simp
    exact fun i hi => go (r.length - i) i (by omega)
  obtain ⟨j, hj, hk⟩ := h 0 (by omega)
  exact ⟨j, by simpa [slices_IndexFunc_int_int__impl_RowOk_1.f] using hj, by simpa using hk⟩
theorem implRowOk_ev (r : List Int) (hr : r.length < 4611686018427387904) : Ev (fun k => impl_RowOk.f k r) (okRow r) := by
  obtain ⟨j, hj, hk⟩ := implIndex_ev r hr
  have hc : Ev (fun k => slices_ContainsFunc_int_int__impl_RowOk_1.f k r) (!r.all cellB) := by
    unfold slices_ContainsFunc_int_int__impl_RowOk_1.f
    exact hj.bind (ev_now hk)
  unfold impl_RowOk.f okRow
  by_cases h1 : 1 ≤ r.length
  · refine ev_pos (by omega) ?_
    by_cases h2 : r.length ≤ 6
    · exact ev_pos (by omega) (hc.bind (ev_now (by simp [h1, h2])))
    · exact ev_neg (by omega) (ev_now (by simp [h2]))
  · exact ev_neg (by omega) (ev_now (by simp [h1]))

theorem cmpInt (a b : Int) : cmp_Compare_int.f a b = some (if a < b then -1 else if b < a then 1 else 0) := by
  unfold cmp_Compare_int.f cmp_isNaN_int.f
  simp only [bne_self_eq_false, Option.bind_some, Bool.false_eq_true, if_false]
  by_cases h1 : a < b
  · rw [if_pos h1, if_pos h1]
  · rw [if_neg h1, if_neg h1]
    by_cases h2 : b < a
    · rw [if_pos h2, if_pos h2]
    · rw [if_neg h2, if_neg h2]
theorem compare_ev (a b : List Int) (ha : a.length < 4611686018427387904) : Ev (fun k => slices_Compare_int_int.f k a b) (lexc a b) := by
  unfold slices_Compare_int_int.f
  have h := ev_down (fun k i => slices_Compare_int_int.l0 k a b a (a.length : Int) (i : Int)) (fun i => lexc (a.drop i) (b.drop i)) (min a.length b.length) ?_ ?_ 0 (by omega)
  · simpa using h
  · by_cases hb : a.length ≤ b.length
    · rw [Nat.min_eq_left hb]
      refine Ev.step (fun k => slices_Compare_int_int.l0.eq_2 ..) (ev_neg (by omega) ?_)
      rw [drop_end a _ (Nat.le_refl _)]
      by_cases h1 : a.length < b.length
      · refine ev_pos (by omega) (ev_now ?_)
        rw [drop_rd b _ h1]; rfl
      · refine ev_neg (by omega) (ev_now ?_)
        rw [drop_end b _ (by omega)]; rfl
    · rw [Nat.min_eq_right (by omega)]
      refine Ev.step (fun k => slices_Compare_int_int.l0.eq_2 ..) (ev_pos (by omega) (ev_pos (by omega) (ev_pos (by omega) (ev_pos (by omega) (ev_now ?_)))))
      rw [drop_end b _ (Nat.le_refl _), drop_rd a _ (by omega)]; rfl
  · intro i hi ih
    have h1 : i < a.length := by omega
    have h2 : i < b.length := by omega
    refine Ev.step (fun k => slices_Compare_int_int.l0.eq_2 ..) (ev_pos (by omega) (ev_pos (by omega) (ev_pos (by omega) (ev_neg (by omega) (ev_pos (by omega) (ev_eq (cmpInt _ _) ?_))))))
    rw [drop_rd a i h1, drop_rd b i h2]
    simp only [lexc]
    by_cases c1 : rd a i < rd b i
    · rw [if_pos c1]
      exact ev_neg (by decide) (ev_now (by rw [if_pos c1]))
    · rw [if_neg c1, if_neg c1]
      by_cases c2 : rd b i < rd a i
      · rw [if_pos c2]
        exact ev_neg (by decide) (ev_now (by rw [if_pos c2]))
      · rw [if_neg c2, if_neg c2]
        refine ev_pos rfl ?_
        rw [w64n (by omega)]
        exact ih

theorem implLess_ev (a b : List Int) (ha : a.length < 4611686018427387904) : Ev (fun k => impl_RowLess.f k a b) (decide (lexc a b < 0)) := by
  unfold impl_RowLess.f
  exact (compare_ev a b ha).bind (ev_now rfl)

theorem implZOk_ev (z : List S31) (hs : Small z) : Ev (fun k => impl_ZOk.f k z) (okZ z) := by
  have hz := hs.len
  unfold impl_ZOk.f okZ
  by_cases hl : (z.length : Int) > 100
  · exact ev_pos hl (ev_now (by rw [decide_eq_false (by omega)]; rfl))
  refine ev_neg hl ?_
  rw [decide_eq_true (by omega : z.length ≤ 100), Bool.true_and]
  have h := ev_down (fun k i => impl_ZOk.l0 k z z (z.length : Int) (i : Int)) (fun i => chain (ahead z i) (z.drop i)) z.length ?_ ?_ 0 (by omega)
  · simpa [ahead] using h
  · refine Ev.step (fun k => impl_ZOk.l0.eq_2 ..) (ev_neg (by omega) (ev_now ?_))
    rw [drop_end z _ (Nat.le_refl _), chain_nil]
  · intro i hi ih
    have hr := hs.row _ (List.getElem_mem hi)
    refine Ev.step (fun k => impl_ZOk.l0.eq_2 ..) (ev_pos (by omega) (ev_pos (by omega) (ev_pos (by omega) ?_)))
    rw [rdI_at z i hi, drop_at z i hi, chain_cons]
    refine (implRowOk_ev z[i].f0 (by omega)).bind ?_
    cases hok : okRow z[i].f0 with
    | false => exact ev_neg (by simp) (ev_now (by simp))
    | true =>
      refine ev_pos rfl ?_
      by_cases w1 : z[i].f1 < -10000
      · exact ev_pos w1 (ev_now (by unfold okW; simp; omega))
      refine ev_neg w1 ?_
      by_cases w2 : z[i].f1 > 10000
      · exact ev_pos w2 (ev_now (by unfold okW; simp; omega))
      refine ev_neg w2 ?_
      by_cases w3 : z[i].f1 = 0
      · exact ev_pos w3 (ev_now (by unfold okW; simp [w3]))
      refine ev_neg w3 ?_
      have hw : okW z[i].f1 = true := by unfold okW; simp [w3]; omega
      rw [hw]
      rw [w64n (by omega)]
      rw [ahead_succ z i hi] at ih
      by_cases h0 : (i : Int) > 0
      · have hi1 : i - 1 < z.length := by omega
        have e : wrap64 ((i : Int) - 1) = ((i - 1 : Nat) : Int) := by rw [w64 (by omega) (by omega)]; omega
        have ha : ahead z i = some z[i - 1].f0 := by unfold ahead; rw [if_neg (by omega), List.getElem?_eq_getElem hi1]; rfl
        have hr1 := hs.row _ (List.getElem_mem hi1)
        rw [e]
        refine ev_pos h0 (ev_pos (by omega) (ev_pos (by omega) ?_))
        rw [rdI_at z (i - 1) hi1, ha]
        refine (implLess_ev z[i - 1].f0 z[i].f0 (by omega)).bind ?_
        by_cases hl : lexc z[i - 1].f0 z[i].f0 < 0
        · refine ev_pos (decide_eq_true hl) ?_
          simpa [hl] using ih
        · exact ev_neg (by simpa using hl) (ev_now (by simp [hl]))
      · have ha : ahead z i = none := by unfold ahead; rw [if_pos (by omega)]
        rw [ha]
        refine ev_neg h0 ?_
        simpa using ih

theorem told_ev (z : List S31) (hs : Small z) : Ev (fun k => impl_told.f k z) (if okZ z = true then (z, true) else ([], false)) := by
  unfold impl_told.f
  refine (implZOk_ev z hs).bind ?_
  by_cases h : okZ z = true
  · rw [if_pos h]
    exact ev_pos h ((copyItems_ev z hs).bind (ev_now rfl))
  · rw [if_neg h]
    exact ev_neg h (ev_now rfl)

theorem specRowOk_ev (r : List Int) (hr : r.length < 4611686018427387904) : Ev (fun k => spec_RowOk.f k r) (okRow r) := by
  have h := ev_down (fun k i => spec_RowOk.l0 k r (i : Int)) (fun i => (decide (1 ≤ r.length) && decide (r.length ≤ 6)) && (r.drop i).all cellB) r.length ?_ ?_ 0 (by omega)
  · simpa [spec_RowOk.f, okRow] using h
  · refine Ev.step (fun k => spec_RowOk.l0.eq_2 ..) (ev_neg (by omega) ?_)
    rw [drop_end r _ (Nat.le_refl _)]
    by_cases h : 1 ≤ r.length
    · exact ev_pos (by omega) (ev_now (by simp [h]; omega))
    · exact ev_neg (by omega) (ev_now (by simp [h]))
  · intro i hi ih
    refine Ev.step (fun k => spec_RowOk.l0.eq_2 ..) (ev_pos (by omega) (ev_pos (by omega) (ev_eq (specCell _) ?_)))
    rw [drop_rd r i hi, List.all_cons]
    cases hc : cellB (rd r i) with
    | true =>
      refine ev_pos rfl ?_
      rw [w64n (by omega), Bool.true_and]
      exact ih
    | false => exact ev_neg (by decide) (ev_now (by simp))

theorem l1Order_ev (a b : List Int) (ha : a.length < 4611686018427387904) (hb : b.length < 4611686018427387904) : Ev (fun k => spec_l1Order.f k a b) (ordL a b ((a.length : Int) - b.length)) := by
  have h := ev_down (fun k i => spec_l1Order.l0 k a b (i : Int)) (fun i => ordL (a.drop i) (b.drop i) ((a.length : Int) - b.length)) a.length ?_ ?_ 0 (by omega)
  · simpa [spec_l1Order.f] using h
  · refine Ev.step (fun k => spec_l1Order.l0.eq_2 ..) (ev_neg (by omega) (ev_now ?_))
    rw [drop_end a _ (Nat.le_refl _), ordL, w64 (by omega) (by omega)]
  · intro i hi ih
    refine Ev.step (fun k => spec_l1Order.l0.eq_2 ..) (ev_pos (by omega) ?_)
    by_cases hb' : i < b.length
    · rw [drop_rd a i hi, drop_rd b i hb']
      refine ev_pos (by omega) (ev_pos (by omega) ?_)
      by_cases h1 : rd a i < rd b i
      · exact ev_pos h1 (ev_now (by rw [ordL, if_pos h1]))
      · refine ev_neg h1 ?_
        by_cases h2 : rd a i > rd b i
        · exact ev_pos h2 (ev_now (by rw [ordL, if_neg h1, if_pos h2]))
        · refine ev_neg h2 ?_
          rw [w64n (by omega), ordL, if_neg h1, if_neg h2]
          exact ih
    · refine ev_neg (by omega) (ev_now ?_)
      rw [drop_end b i (by omega), w64 (by omega) (by omega)]
      cases a.drop i <;> rfl

theorem specLess_ev (a b : List Int) (ha : a.length < 4611686018427387904) (hb : b.length < 4611686018427387904) : Ev (fun k => spec_RowLess.f k a b) (decide (lexc a b < 0)) := by
  unfold spec_RowLess.f
  refine (l1Order_ev a b ha hb).bind (ev_now ?_)
  rw [decide_eq_decide]
  exact lexc_ordL a b

theorem specW (w : Int) : spec_l2W.f w = some (okW w) := by
  unfold spec_l2W.f okW
  by_cases h : w = 0
  · rw [if_pos h]; simp [h]
  · rw [if_neg h]
    by_cases h1 : w ≥ -10000
    · rw [if_pos h1]; simp [h]; omega
    · rw [if_neg h1]; simp; omega
theorem specZOk_ev (z : List S31) (hs : Small z) : Ev (fun k => spec_ZOk.f k z) (okZ z) := by
  have hz := hs.len
  unfold spec_ZOk.f okZ
  by_cases hl : (z.length : Int) > 100
  · exact ev_pos hl (ev_now (by rw [decide_eq_false (by omega)]; rfl))
  refine ev_neg hl ?_
  rw [decide_eq_true (by omega : z.length ≤ 100), Bool.true_and]
  have h := ev_down (fun k i => spec_ZOk.l0 k z (i : Int)) (fun i => chain (ahead z i) (z.drop i)) z.length ?_ ?_ 0 (by omega)
  · simpa [ahead] using h
  · refine Ev.step (fun k => spec_ZOk.l0.eq_2 ..) (ev_neg (by omega) (ev_now ?_))
    rw [drop_end z _ (Nat.le_refl _), chain_nil]
  · intro i hi ih
    have hr := hs.row _ (List.getElem_mem hi)
    refine Ev.step (fun k => spec_ZOk.l0.eq_2 ..) (ev_pos (by omega) (ev_pos (by omega) ?_))
    rw [rdI_at z i hi, drop_at z i hi, chain_cons]
    refine (specRowOk_ev z[i].f0 (by omega)).bind ?_
    cases hok : okRow z[i].f0 with
    | false => exact ev_neg (by simp) (ev_now (by simp))
    | true =>
      refine ev_pos rfl (ev_eq (specW _) ?_)
      cases hw : okW z[i].f1 with
      | false => exact ev_neg (by simp) (ev_now (by simp))
      | true =>
        refine ev_pos rfl ?_
        rw [w64n (by omega)]
        rw [ahead_succ z i hi] at ih
        by_cases h0 : (i : Int) > 0
        · have hi1 : i - 1 < z.length := by omega
          have e : wrap64 ((i : Int) - 1) = ((i - 1 : Nat) : Int) := by rw [w64 (by omega) (by omega)]; omega
          have ha : ahead z i = some z[i - 1].f0 := by unfold ahead; rw [if_neg (by omega), List.getElem?_eq_getElem hi1]; rfl
          have hr1 := hs.row _ (List.getElem_mem hi1)
          rw [e]
          refine ev_pos h0 (ev_pos (by omega) (ev_pos (by omega) ?_))
          rw [rdI_at z (i - 1) hi1, ha]
          refine (specLess_ev z[i - 1].f0 z[i].f0 (by omega) (by omega)).bind ?_
          by_cases hl : lexc z[i - 1].f0 z[i].f0 < 0
          · refine ev_pos (decide_eq_true hl) ?_
            simpa [hl] using ih
          · exact ev_neg (by simpa using hl) (ev_now (by simp [hl]))
        · have ha : ahead z i = none := by unfold ahead; rw [if_pos (by omega)]
          rw [ha]
          refine ev_neg h0 ?_
          simpa using ih

theorem specTold_ev (z : List S31) (hs : Small z) : Ev (fun k => spec_l2Told.f k z) (if okZ z = true then (z, true) else ([], false)) := by
  unfold spec_l2Told.f
  refine (specZOk_ev z hs).bind ?_
  by_cases h : okZ z = true
  · rw [if_pos h, if_pos h]
    exact ev_now rfl
  · rw [if_neg h, if_neg h]
    exact ev_now rfl

/-- spec's l2Put -/
def putL (r : List Int) (w : Int) : List S31 → List S31
  | [] => if w = 0 then [] else [⟨r, w⟩]
  | x :: z => if lexc x.f0 r < 0 then x :: putL r w z else if x.f0 = r then (if x.f1 + w = 0 then z else ⟨x.f0, x.f1 + w⟩ :: z) else if w = 0 then x :: z else ⟨r, w⟩ :: x :: z
theorem putL_rows (r : List Int) (w : Int) : ∀ (z : List S31), ∀ y ∈ putL r w z, y.f0 = r ∨ ∃ x ∈ z, x.f0 = y.f0 := by
  intro z
  induction z with
  | nil => intro y hy; unfold putL at hy; split at hy <;> simp at hy; left; rw [hy]
  | cons x z ih =>
    intro y hy
    unfold putL at hy
    split at hy
    · rcases List.mem_cons.1 hy with e | e
      · exact .inr ⟨x, List.mem_cons_self, by rw [e]⟩
      · rcases ih y e with h | ⟨u, hu, h⟩
        · exact .inl h
        · exact .inr ⟨u, List.mem_cons_of_mem _ hu, h⟩
    · split at hy
      · split at hy
        · exact .inr ⟨y, List.mem_cons_of_mem _ hy, rfl⟩
        · rcases List.mem_cons.1 hy with e | e
          · exact .inr ⟨x, List.mem_cons_self, by rw [e]⟩
          · exact .inr ⟨y, List.mem_cons_of_mem _ e, rfl⟩
      · split at hy
        · exact .inr ⟨y, hy, rfl⟩
        · rcases List.mem_cons.1 hy with e | e
          · exact .inl (by rw [e])
          · exact .inr ⟨y, e, rfl⟩
theorem putL_canon (r : List Int) (w : Int) : ∀ (z : List S31), Canon z → Canon (putL r w z) := by
  intro z
  induction z with
  | nil => intro _; unfold putL; split
           · exact Canon.nil
           · exact ⟨.cons (by simp) .nil, by simpa using ‹¬ w = 0›⟩
  | cons x z ih =>
    intro hc
    unfold putL
    split
    · next h1 =>
      refine canon_cons (ih hc.tail) (hc.nz x List.mem_cons_self) (fun y hy => ?_)
      rcases putL_rows r w z y hy with h | ⟨u, hu, h⟩
      · rw [h]; exact h1
      · rw [← h]; exact hc.head u hu
    · next h1 =>
      split
      · split
        · exact hc.tail
        · next h3 => exact canon_cons hc.tail h3 hc.head
      · next h2 =>
        split
        · exact hc
        · next h3 =>
          have h4 := lexc_gt h1 h2
          refine canon_cons hc h3 (fun y hy => ?_)
          rcases List.mem_cons.1 hy with e | e
          · rw [e]; exact h4
          · exact lexc_trans _ _ _ h4 (hc.head y e)
theorem putL_wOf (r : List Int) (w : Int) (s : List Int) : ∀ (z : List S31), Canon z → wOf s (putL r w z) = wOf s z + if s = r then w else 0 := by
  intro z
  induction z with
  | nil =>
    intro _
    unfold putL
    split
    · next h => subst h; simp [wOf]
    · simp only [wOf]
      by_cases e : r = s
      · rw [if_pos e, if_pos e.symm]; omega
      · rw [if_neg e, if_neg (Ne.symm e)]; omega
  | cons x z ih =>
    intro hc
    unfold putL
    split
    · next h1 =>
      unfold wOf
      by_cases e : x.f0 = s
      · rw [if_pos e, if_pos e, if_neg (fun e2 => by rw [e, e2, lexc_irr] at h1; omega)]; omega
      · rw [if_neg e, if_neg e]; exact ih hc.tail
    · next h1 =>
      split
      · next h2 =>
        split
        · next h3 =>
          by_cases e : x.f0 = s
          · subst e
            rw [wOf_below hc.head, if_pos h2, wOf, if_pos rfl]; omega
          · rw [if_neg (fun e2 => e (by rw [e2, h2])), wOf, if_neg e]; omega
        · by_cases e : x.f0 = s
          · rw [wOf, wOf, if_pos e, if_pos e, if_pos (by rw [← e, h2])]
          · rw [wOf, wOf, if_neg e, if_neg e, if_neg (fun e2 => e (by rw [e2, h2]))]; omega
      · next h2 =>
        split
        · next h3 => subst h3; split <;> omega
        · next h3 =>
          have h4 := lexc_gt h1 h2
          by_cases e : s = r
          · subst e
            have : wOf s (x :: z) = 0 := wOf_below (fun y hy => by
              rcases List.mem_cons.1 hy with e | e
              · rw [e]; exact h4
              · exact lexc_trans _ _ _ h4 (hc.head y e))
            rw [this, if_pos rfl, wOf, if_pos rfl]; show w = 0 + w; omega
          · rw [if_neg e, wOf, if_neg (show ¬ (⟨r, w⟩ : S31).f0 = s from fun e2 => e e2.symm)]; omega
theorem putL_len (r : List Int) (w : Int) : ∀ (z : List S31), (putL r w z).length ≤ z.length + 1 := by
  intro z
  induction z with
  | nil => unfold putL; split <;> simp
  | cons x z ih => unfold putL; repeat' split
                   all_goals simp <;> omega
/-- many, one by one -/
def addL (a b : List S31) : List S31 := b.foldl (fun o x => putL x.f0 x.f1 o) a
theorem addL_canon : ∀ (b a : List S31), Canon a → Canon (addL a b) := by
  intro b
  induction b with
  | nil => intro a h; exact h
  | cons x b ih => intro a h; exact ih _ (putL_canon _ _ _ h)
/-- the sum of the weights of a row -/
def sumW (r : List Int) : List S31 → Int
  | [] => 0
  | x :: z => (if x.f0 = r then x.f1 else 0) + sumW r z
theorem sumW_canon (r : List Int) : ∀ (z : List S31), Canon z → sumW r z = wOf r z := by
  intro z
  induction z with
  | nil => intro _; rfl
  | cons x z ih =>
    intro h
    unfold sumW wOf
    rw [ih h.tail]
    by_cases e : x.f0 = r
    · subst e; rw [if_pos rfl, if_pos rfl, wOf_below h.head]; omega
    · rw [if_neg e, if_neg e]; omega
theorem addL_sum (r : List Int) : ∀ (b a : List S31), Canon a → wOf r (addL a b) = wOf r a + sumW r b := by
  intro b
  induction b with
  | nil => intro a _; simp [addL, sumW]
  | cons x b ih =>
    intro a h
    show wOf r (addL (putL x.f0 x.f1 a) b) = _
    rw [ih _ (putL_canon _ _ _ h), putL_wOf _ _ _ _ h, sumW]
    by_cases e : x.f0 = r
    · rw [if_pos e, if_pos e.symm]; omega
    · rw [if_neg e, if_neg (Ne.symm e)]; omega
theorem addL_wOf (r : List Int) (a b : List S31) (ha : Canon a) (hb : Canon b) : wOf r (addL a b) = wOf r a + wOf r b := by
  rw [addL_sum r b a ha, sumW_canon r b hb]
/-- impl's merged, with sums -/
def merL : List S31 → List S31 → List S31
  | [], b => b
  | x :: a, [] => x :: a
  | x :: a, y :: b => if lexc x.f0 y.f0 < 0 then x :: merL a (y :: b) else if lexc y.f0 x.f0 < 0 then y :: merL (x :: a) b else if x.f1 + y.f1 = 0 then merL a b else ⟨x.f0, x.f1 + y.f1⟩ :: merL a b
  termination_by a b => a.length + b.length
theorem merL_rows : ∀ (n : Nat) (a b : List S31), a.length + b.length ≤ n → ∀ y ∈ merL a b, (∃ x ∈ a, x.f0 = y.f0) ∨ ∃ x ∈ b, x.f0 = y.f0 := by
  intro n
  induction n with
  | zero => intro a b h y hy; cases a <;> cases b <;> simp [merL] at h hy
  | succ n ih =>
    intro a b h y hy
    cases a with
    | nil => rw [merL] at hy; exact .inr ⟨y, hy, rfl⟩
    | cons x a =>
      cases b with
      | nil => rw [merL] at hy; exact .inl ⟨y, hy, rfl⟩
      | cons u b =>
        simp only [List.length_cons] at h
        have lift : ((∃ q ∈ a, q.f0 = y.f0) ∨ ∃ q ∈ b, q.f0 = y.f0) → (∃ q ∈ x :: a, q.f0 = y.f0) ∨ ∃ q ∈ u :: b, q.f0 = y.f0 := fun h => h.imp (fun ⟨q, h1, h2⟩ => ⟨q, List.mem_cons_of_mem _ h1, h2⟩) (fun ⟨q, h1, h2⟩ => ⟨q, List.mem_cons_of_mem _ h1, h2⟩)
        rw [merL] at hy
        split at hy
        · rcases List.mem_cons.1 hy with e | e
          · exact .inl ⟨x, List.mem_cons_self, by rw [e]⟩
          · rcases ih a (u :: b) (by simp; omega) y e with ⟨q, h1, h2⟩ | h1
            · exact .inl ⟨q, List.mem_cons_of_mem _ h1, h2⟩
            · exact .inr h1
        · split at hy
          · rcases List.mem_cons.1 hy with e | e
            · exact .inr ⟨u, List.mem_cons_self, by rw [e]⟩
            · rcases ih (x :: a) b (by simp; omega) y e with h1 | ⟨q, h1, h2⟩
              · exact .inl h1
              · exact .inr ⟨q, List.mem_cons_of_mem _ h1, h2⟩
          · split at hy
            · exact lift (ih a b (by omega) y hy)
            · rcases List.mem_cons.1 hy with e | e
              · exact .inl ⟨x, List.mem_cons_self, by rw [e]⟩
              · exact lift (ih a b (by omega) y e)
theorem merL_spec : ∀ (n : Nat) (a b : List S31), a.length + b.length ≤ n → Canon a → Canon b → Canon (merL a b) ∧ ∀ r, wOf r (merL a b) = wOf r a + wOf r b := by
  intro n
  induction n with
  | zero => intro a b h _ _; cases a <;> cases b <;> simp [merL, wOf, Canon.nil] at h ⊢
  | succ n ih =>
    intro a b h ha hb
    cases a with
    | nil => rw [merL]; exact ⟨hb, fun r => by simp [wOf]⟩
    | cons x a =>
      cases b with
      | nil => rw [merL]; exact ⟨ha, fun r => by simp [wOf]⟩
      | cons u b =>
        simp only [List.length_cons] at h
        rw [merL]
        split
        · next h1 =>
          obtain ⟨c, e⟩ := ih a (u :: b) (by simp; omega) ha.tail hb
          refine ⟨canon_cons c (ha.nz x List.mem_cons_self) (fun y hy => ?_), fun r => ?_⟩
          · rcases merL_rows _ a (u :: b) (Nat.le_refl _) y hy with ⟨q, hq, h2⟩ | ⟨q, hq, h2⟩
            · rw [← h2]; exact ha.head q hq
            · rw [← h2]
              rcases List.mem_cons.1 hq with e | e
              · rw [e]; exact h1
              · exact lexc_trans _ _ _ h1 (hb.head q e)
          · rw [wOf, wOf]
            by_cases e0 : x.f0 = r
            · rw [if_pos e0, if_pos e0]
              have : wOf r (u :: b) = 0 := wOf_below (fun y hy => by
                rw [← e0]
                rcases List.mem_cons.1 hy with e | e
                · rw [e]; exact h1
                · exact lexc_trans _ _ _ h1 (hb.head y e))
              omega
            · rw [if_neg e0, if_neg e0]; exact e r
        · next h1 =>
          split
          · next h2 =>
            obtain ⟨c, e⟩ := ih (x :: a) b (by simp; omega) ha hb.tail
            refine ⟨canon_cons c (hb.nz u List.mem_cons_self) (fun y hy => ?_), fun r => ?_⟩
            · rcases merL_rows _ (x :: a) b (Nat.le_refl _) y hy with ⟨q, hq, h3⟩ | ⟨q, hq, h3⟩
              · rw [← h3]
                rcases List.mem_cons.1 hq with e | e
                · rw [e]; exact h2
                · exact lexc_trans _ _ _ h2 (ha.head q e)
              · rw [← h3]; exact hb.head q hq
            · rw [wOf, wOf.eq_2 r u b]
              by_cases e0 : u.f0 = r
              · rw [if_pos e0, if_pos e0]
                have : wOf r (x :: a) = 0 := wOf_below (fun y hy => by
                  rw [← e0]
                  rcases List.mem_cons.1 hy with e | e
                  · rw [e]; exact h2
                  · exact lexc_trans _ _ _ h2 (ha.head y e))
                omega
              · rw [if_neg e0, if_neg e0]; exact e r
          · next h2 =>
            have h3 : x.f0 = u.f0 := by
              refine (lexc_zero _ _).1 ?_
              have := lexc_swap x.f0 u.f0
              omega
            obtain ⟨c, e⟩ := ih a b (by omega) ha.tail hb.tail
            have low : ∀ y ∈ merL a b, lexc x.f0 y.f0 < 0 := fun y hy => by
              rcases merL_rows _ a b (Nat.le_refl _) y hy with ⟨q, hq, h4⟩ | ⟨q, hq, h4⟩
              · rw [← h4]; exact ha.head q hq
              · rw [← h4, h3]; exact hb.head q hq
            split
            · next h4 =>
              refine ⟨c, fun r => ?_⟩
              rw [e r, wOf.eq_2 r x a, wOf.eq_2 r u b]
              by_cases e0 : x.f0 = r
              · rw [if_pos e0, if_pos (by rw [← h3]; exact e0), ← e0, wOf_below ha.head, h3, wOf_below hb.head]; omega
              · rw [if_neg e0, if_neg (by rw [← h3]; exact e0)]
            · next h4 =>
              refine ⟨canon_cons c h4 low, fun r => ?_⟩
              rw [wOf, wOf, wOf]
              by_cases e0 : x.f0 = r
              · rw [if_pos e0, if_pos e0, if_pos (by rw [← h3]; exact e0)]
              · rw [if_neg e0, if_neg e0, if_neg (by rw [← h3]; exact e0)]; exact e r
theorem merL_addL (a b : List S31) (ha : Canon a) (hb : Canon b) : merL a b = addL a b := by
  obtain ⟨c, e⟩ := merL_spec _ a b (Nat.le_refl _) ha hb
  exact canon_ext c (addL_canon _ _ ha) (fun r => by rw [e, addL_wOf r a b ha hb])

theorem putL_wb (r : List Int) (w B C : Int) (hw : -C ≤ w ∧ w ≤ C) (hB : 0 ≤ B) (hC : 0 ≤ C) : ∀ z : List S31, (∀ x ∈ z, -B ≤ x.f1 ∧ x.f1 ≤ B) → ∀ y ∈ putL r w z, -(B + C) ≤ y.f1 ∧ y.f1 ≤ B + C := by
  intro z
  induction z with
  | nil =>
    intro _ y hy
    unfold putL at hy
    split at hy
    · cases hy
    · rw [List.mem_singleton.1 hy]; dsimp only; omega
  | cons x z ih =>
    intro h y hy
    have hx := h x List.mem_cons_self
    have hz : ∀ u ∈ z, -B ≤ u.f1 ∧ u.f1 ≤ B := fun u hu => h u (List.mem_cons_of_mem _ hu)
    have old : y ∈ x :: z → -(B + C) ≤ y.f1 ∧ y.f1 ≤ B + C := fun hy => by have := h y hy; omega
    unfold putL at hy
    split at hy
    · rcases List.mem_cons.1 hy with e | e
      · rw [e]; omega
      · exact ih hz y e
    · split at hy
      · split at hy
        · exact old (List.mem_cons_of_mem _ hy)
        · rcases List.mem_cons.1 hy with e | e
          · rw [e]; dsimp only; omega
          · exact old (List.mem_cons_of_mem _ e)
      · split at hy
        · exact old hy
        · rcases List.mem_cons.1 hy with e | e
          · rw [e]; dsimp only; omega
          · exact old e

theorem specSame_ev (a b : List Int) (ha : a.length < 4611686018427387904) (hb : b.length < 4611686018427387904) : Ev (fun k => spec_RowSame.f k a b) (decide (a = b)) := by
  unfold spec_RowSame.f
  refine (l1Order_ev a b ha hb).bind (ev_now ?_)
  rw [Bool.eq_iff_iff, beq_iff_eq, decide_eq_true_iff]
  exact ordL_zero a b

theorem specCopy (a : List Int) (ha : a.length < 17592186044416) : spec_l1Copy.f a = some a := by
  unfold spec_l1Copy.f
  simp only [Option.bind_some]
  rw [if_pos (by simp; omega)]
  simp

theorem erase_set {α : Type} (z : List α) (i : Nat) (x : α) : (z.set i x).eraseIdx i = z.take i ++ z.drop (i + 1) := by
  rw [List.eraseIdx_eq_take_drop_succ, List.take_set_of_le (Nat.le_refl _), List.drop_set_of_lt (by omega)]
theorem set_split {α : Type} (z : List α) (i : Nat) (x : α) (h : i < z.length) : z.set i x = z.take i ++ x :: z.drop (i + 1) := by
  rw [List.set_eq_take_append_cons_drop, if_pos h]
/-- weights far from the ends of their kind -/
def Tame (z : List S31) : Prop := ∀ x ∈ z, -1000000000000000 ≤ x.f1 ∧ x.f1 ≤ 1000000000000000
theorem specPut_ev (z : List S31) (r : List Int) (w : Int) (hs : Small z) (hr : r.length ≤ 1048576) (hw : Tame z) (hw0 : -1000000000000000 ≤ w ∧ w ≤ 1000000000000000) : Ev (fun k => spec_l2Put.f k z r w) (putL r w z) := by
  have hz := hs.len
  have h := ev_down (fun k i => spec_l2Put.l0 k z r w (i : Int)) (fun i => z.take i ++ putL r w (z.drop i)) z.length ?_ ?_ 0 (by omega)
  · simpa [spec_l2Put.f] using h
  · refine Ev.step (fun k => spec_l2Put.l0.eq_2 ..) (ev_neg (by omega) ?_)
    rw [drop_end z _ (Nat.le_refl _), List.take_length]
    by_cases h0 : w = 0
    · exact ev_pos h0 (ev_now (by simp [putL, h0]))
    · refine ev_neg h0 (ev_pos (by omega) (ev_pos (by omega) (ev_some (ev_eq (specCopy r (by omega)) (ev_pos (by simp; omega) (ev_pos (by omega) (ev_now ?_)))))))
      simp [putL, h0]
  · intro i hi ih
    have hri := hs.row _ (List.getElem_mem hi)
    refine Ev.step (fun k => spec_l2Put.l0.eq_2 ..) (ev_pos (by omega) (ev_pos (by omega) ?_))
    rw [rdI_at z i hi, drop_at z i hi]
    refine (specLess_ev z[i].f0 r (by omega) (by omega)).bind ?_
    by_cases h1 : lexc z[i].f0 r < 0
    · refine ev_pos (decide_eq_true h1) ?_
      rw [w64n (by omega), putL, if_pos h1]
      rw [List.take_succ_eq_append_getElem hi, List.append_assoc] at ih
      exact ih
    · refine ev_neg (by simpa using h1) ((specSame_ev z[i].f0 r (by omega) (by omega)).bind ?_)
      rw [putL, if_neg h1]
      by_cases h2 : z[i].f0 = r
      · refine ev_pos (decide_eq_true h2) ?_
        have hwx := hw _ (List.getElem_mem hi)
        rw [w64 (x := z[i].f1 + w) (by omega) (by omega), Int.toNat_natCast, if_pos h2]
        refine ev_some ?_
        have e1 : rd_T31 (z.set i (⟨z[i].f0, z[i].f1 + w⟩ : S31)) (i : Int) = ⟨z[i].f0, z[i].f1 + w⟩ := by rw [rdI_at _ i (by simpa using hi)]; simp
        rw [e1]
        by_cases h3 : z[i].f1 + w = 0
        · refine ev_pos h3 ?_
          rw [if_pos h3, w64n (by omega)]
          exact ev_pos (by omega) (ev_pos (by omega) (ev_pos (by omega) (ev_now (erase_set z i _))))
        · refine ev_neg h3 (ev_now ?_)
          rw [if_neg h3]
          exact set_split z i _ hi
      · refine ev_neg (by simpa using h2) ?_
        rw [if_neg h2]
        by_cases h3 : w = 0
        · refine ev_pos h3 (ev_now ?_)
          rw [if_pos h3, ← drop_at z i hi, List.take_append_drop]
        · refine ev_neg h3 (ev_pos (by omega) (ev_some (ev_eq (specCopy r (by omega)) (ev_pos (by simp; omega) (ev_pos (by omega) (ev_now ?_))))))
          rw [Int.toNat_natCast, drop_at z i hi, if_neg h3, List.append_assoc]
          rfl
theorem putL_small (r : List Int) (w : Int) (z : List S31) (hs : ∀ x ∈ z, x.f0.length ≤ 1048576) (hr : r.length ≤ 1048576) : ∀ x ∈ putL r w z, x.f0.length ≤ 1048576 := by
  intro y hy
  rcases putL_rows r w z y hy with h | ⟨u, hu, h⟩
  · rw [h]; exact hr
  · rw [← h]; exact hs u hu

theorem implJoin_ev (a b : List Int) (h : a.length + b.length < 17592186044416) : Ev (fun k => impl_RowJoin.f k a b) (a ++ b) := by
  have r0 : rd_L1 [a, b] 0 = a := rfl
  have r1 : rd_L1 [a, b] 1 = b := rfl
  have w1 : wrap64 (0 + (a.length : Int)) = a.length := by rw [w64 (by omega) (by omega)]; omega
  have w2 : wrap64 ((a.length : Int) + b.length) = a.length + b.length := w64 (by omega) (by omega)
  have c1 : wrap64 (0 + 1) = 1 := w64 (by omega) (by omega)
  have c2 : wrap64 (1 + 1) = 2 := w64 (by omega) (by omega)
  have main : Ev (fun k => slices_Concat_int_int.f k [a, b]) (a ++ b) := by
    unfold slices_Concat_int_int.f
    refine Ev.step (fun k => slices_Concat_int_int.l0.eq_2 ..) (ev_pos (by simp) (ev_pos (by omega) (ev_pos (by simp) ?_)))
    rw [r0, w1, c1]
    refine ev_neg (by omega) (Ev.step (fun k => slices_Concat_int_int.l0.eq_2 ..) (ev_pos (by simp) (ev_pos (by omega) (ev_pos (by simp) ?_))))
    rw [r1, w2, c2]
    have g : slices_Grow_int_int__nil.f ((a.length : Int) + b.length) = some [] := by
      unfold slices_Grow_int_int__nil.f
      rw [if_pos (by omega), if_pos (by omega)]
    refine ev_neg (by omega) (Ev.step (fun k => slices_Concat_int_int.l0.eq_2 ..) (ev_neg (by simp) (ev_eq g ?_)))
    refine Ev.step (fun k => slices_Concat_int_int.l1.eq_2 ..) (ev_pos (by simp) (ev_pos (by omega) (ev_pos (by simp) ?_)))
    rw [r0, c1]
    refine ev_pos (by simp; omega) (Ev.step (fun k => slices_Concat_int_int.l1.eq_2 ..) (ev_pos (by simp) (ev_pos (by omega) (ev_pos (by simp) ?_))))
    rw [r1, c2]
    exact ev_pos (by simp; omega) (Ev.step (fun k => slices_Concat_int_int.l1.eq_2 ..) (ev_neg (by simp) (ev_now (by simp))))
  unfold impl_RowJoin.f
  exact main.bind (ev_now rfl)

theorem specJoin (a b : List Int) (h : a.length + b.length < 17592186044416) : spec_RowJoin.f a b = some (a ++ b) := by
  unfold spec_RowJoin.f
  rw [specCopy a (by omega)]
  simp only [Option.bind_some]
  rw [if_pos h]

/-- a text of its bytes -/
def tx (l : List UInt8) : ByteArray := ⟨l.toArray⟩
theorem tx_size (l : List UInt8) : (tx l).size = l.length := rfl
theorem tx_append (a b : List UInt8) : tx a ++ tx b = tx (a ++ b) := by
  apply ByteArray.ext
  show (tx a ++ tx b).data = _
  rw [ByteArray.data_append]
  simp [tx]
theorem tx_inj {a b : List UInt8} (h : tx a = tx b) : a = b := by
  have := congrArg (fun x => x.data.toList) h
  simpa [tx] using this

theorem tx_data (a : ByteArray) : a = tx a.data.toList := by
  apply ByteArray.ext
  simp [tx]
theorem tx_toList (l : List UInt8) : (tx l).data.toList = l := by simp [tx]
theorem tx_extract (l : List UInt8) (a b : Nat) : (tx l).extract a b = tx ((l.drop a).take (b - a)) := by
  rw [tx_data ((tx l).extract a b)]
  congr 1
  simp [tx, ByteArray.data_extract]
theorem bt_tx (l : List UInt8) (i : Nat) (h : i < l.length) : bt (tx l) (i : Int) = (l[i].toNat : Int) := by
  unfold bt
  have hs : (i : Int).toNat < (tx l).size := by rw [tx_size]; simpa using h
  rw [dif_pos hs]
  rfl
theorem dv_of (d : Nat) (h : d < 10) : Lib.digitVal (UInt8.ofNat (48 + d)) = some d := by
  rcases d with _ | _ | _ | _ | _ | _ | _ | _ | _ | _ | d
  all_goals first | rfl | omega
theorem dv_inv {c : UInt8} {d : Nat} (h : Lib.digitVal c = some d) : d < 10 ∧ c = UInt8.ofNat (48 + d) := by
  obtain ⟨h1, h2, h3⟩ := Lib.digitVal_eq h
  refine ⟨by omega, ?_⟩
  apply UInt8.toNat_inj.1
  rw [UInt8.toNat_ofNat']
  omega
theorem decFrom_snoc (l : List UInt8) (c : UInt8) : ∀ acc, Lib.decFrom acc (l ++ [c]) = (Lib.decFrom acc l).bind fun m => (Lib.digitVal c).map fun d => m * 10 + d := by
  induction l with
  | nil =>
    intro acc
    simp only [List.nil_append, Lib.decFrom, Option.bind_some]
    cases Lib.digitVal c <;> rfl
  | cons b l ih =>
    intro acc
    simp only [List.cons_append, Lib.decFrom]
    cases Lib.digitVal b with
    | none => rfl
    | some e => exact ih _
theorem dig_lt {u : Nat} (h : u < 10) : Lib.decDigits u = [UInt8.ofNat (48 + u)] := by rw [Lib.decDigits, dif_pos h]
theorem dig_ge {u : Nat} (h : ¬ u < 10) : Lib.decDigits u = Lib.decDigits (u / 10) ++ [UInt8.ofNat (48 + u % 10)] := by rw [Lib.decDigits, dif_neg h]
theorem decFrom_dig (u : Nat) : Lib.decFrom 0 (Lib.decDigits u) = some u := by
  induction u using Nat.strongRecOn with
  | ind u ih =>
    by_cases h : u < 10
    · rw [dig_lt h]
      simp only [Lib.decFrom, dv_of u h]
      simp
    · rw [dig_ge h, decFrom_snoc, ih (u / 10) (by omega), dv_of (u % 10) (by omega)]
      simp only [Option.bind_some, Option.map_some]
      congr 1
      omega
theorem dig_len (k u : Nat) (h : u < 10 ^ (k + 1)) : (Lib.decDigits u).length ≤ k + 1 := by
  induction k generalizing u with
  | zero => rw [dig_lt (by simpa using h)]; simp
  | succ k ih =>
    by_cases h1 : u < 10
    · rw [dig_lt h1]; simp
    · rw [dig_ge h1, List.length_append, List.length_singleton]
      have := ih (u / 10) (by rw [Nat.pow_succ] at h; omega)
      omega
theorem dig_head (u : Nat) : ∃ c l, Lib.decDigits u = c :: l ∧ 48 ≤ c.toNat ∧ c.toNat ≤ 57 ∧ (0 < u → c ≠ 48) := by
  induction u using Nat.strongRecOn with
  | ind u ih =>
    by_cases h : u < 10
    · rw [dig_lt h]
      refine ⟨_, _, rfl, ?_⟩
      rcases u with _ | _ | _ | _ | _ | _ | _ | _ | _ | _ | u
      all_goals first | (exfalso; omega) | decide
    · obtain ⟨c, l, h1, h2, h3, h4⟩ := ih (u / 10) (by omega)
      rw [dig_ge h, h1]
      exact ⟨c, l ++ [UInt8.ofNat (48 + u % 10)], rfl, h2, h3, fun _ => h4 (by omega)⟩
theorem dec_canon : ∀ (n : Nat) (l : List UInt8) (m : Nat), l.length = n + 1 → Lib.decFrom 0 l = some m → (l.head? ≠ some 48 ∨ l.length = 1) → Lib.decDigits m = l := by
  intro n
  induction n with
  | zero =>
    intro l m hl h _
    obtain ⟨b, rfl⟩ := List.length_eq_one_iff.1 (by omega : l.length = 1)
    simp only [Lib.decFrom] at h
    cases hb : Lib.digitVal b with
    | none => rw [hb] at h; cases h
    | some d =>
      rw [hb] at h
      obtain ⟨h1, h2⟩ := dv_inv hb
      have : m = d := by simpa using h.symm
      rw [this, dig_lt h1, h2]
  | succ n ih =>
    intro l m hl h hh
    rcases List.eq_nil_or_concat l with rfl | ⟨L, b, rfl⟩
    · simp at hl
    · rw [List.concat_eq_append] at *
      have hL : L.length = n + 1 := by simp at hl; omega
      rw [decFrom_snoc] at h
      cases hm : Lib.decFrom 0 L with
      | none => rw [hm] at h; cases h
      | some m' =>
        rw [hm, Option.bind_some] at h
        cases hb : Lib.digitVal b with
        | none => rw [hb] at h; cases h
        | some d =>
          rw [hb] at h
          obtain ⟨h1, h2⟩ := dv_inv hb
          have hmd : m = m' * 10 + d := by simpa using h.symm
          have hne : L.head? ≠ some 48 := by
            rcases hh with hh | hh
            · cases L with
              | nil => simp at hL
              | cons x L => simpa using hh
            · rw [List.length_append, List.length_singleton] at hh; omega
          have e := ih L m' hL hm (.inl hne)
          have hm1 : m' ≠ 0 := by
            intro e0
            rw [e0, dig_lt (by decide)] at e
            rw [← e] at hne
            exact hne rfl
          rw [dig_ge (by omega), show m / 10 = m' by omega, show m % 10 = d by omega, e, h2]
/-- what the reference reads as a number -/
def numM (neg : Bool) (d : List UInt8) : Int × Bool := match Lib.decFrom 0 d with | some m => (if neg = true then -(m : Int) else (m : Int), true) | none => (0, false)
def numF (l : List UInt8) : Int × Bool :=
  if l.head? = some 45 then (if l.tail = [] ∨ 17 < l.tail.length ∨ l.tail.head? = some 48 then (0, false) else numM true l.tail)
  else (if l = [] ∨ 17 < l.length ∨ (l.head? = some 48 ∧ 1 < l.length) then (0, false) else numM false l)
theorem decFrom_lt17 {d : List UInt8} {m : Nat} (h : Lib.decFrom 0 d = some m) (hl : d.length ≤ 17) : m < 100000000000000000 := by
  have h1 := Lib.decFrom_lt d 0 m h
  have h2 : 10 ^ d.length ≤ 10 ^ 17 := Nat.pow_le_pow_right (by decide) hl
  omega
theorem numF_sound {l : List UInt8} {n : Int} (h : numF l = (n, true)) : l = Lib.itoa n ∧ -100000000000000000 < n ∧ n < 100000000000000000 := by
  unfold numF at h
  by_cases h45 : l.head? = some 45
  · rw [if_pos h45] at h
    split at h
    · cases h
    · next hc =>
      have c1 : l.tail ≠ [] := fun e => hc (.inl e)
      have c2 : ¬ 17 < l.tail.length := fun e => hc (.inr (.inl e))
      have c3 : l.tail.head? ≠ some 48 := fun e => hc (.inr (.inr e))
      unfold numM at h
      cases hm : Lib.decFrom 0 l.tail with
      | none => rw [hm] at h; cases h
      | some m =>
        rw [hm] at h
        have hn : n = -(m : Int) := by simpa using h.symm
        have hb := decFrom_lt17 hm (by omega)
        obtain ⟨k, hk⟩ : ∃ k, l.tail.length = k + 1 := ⟨l.tail.length - 1, by have := List.length_pos_iff.2 c1; omega⟩
        have e := dec_canon k l.tail m hk hm (.inl c3)
        have hm0 : m ≠ 0 := by
          intro e0
          rw [e0, dig_lt (by decide)] at e
          rw [← e] at c3
          exact c3 rfl
        refine ⟨?_, by omega, by omega⟩
        unfold Lib.itoa
        rw [if_pos (by omega), show n.natAbs = m by omega, e]
        cases l with
        | nil => simp at h45
        | cons c r => simp at h45; rw [h45]; rfl
  · rw [if_neg h45] at h
    split at h
    · cases h
    · next hc =>
      have c1 : l ≠ [] := fun e => hc (.inl e)
      have c2 : ¬ 17 < l.length := fun e => hc (.inr (.inl e))
      unfold numM at h
      cases hm : Lib.decFrom 0 l with
      | none => rw [hm] at h; cases h
      | some m =>
        rw [hm] at h
        have hn : n = (m : Int) := by simpa using h.symm
        have hb := decFrom_lt17 hm (by omega)
        obtain ⟨k, hk⟩ : ∃ k, l.length = k + 1 := ⟨l.length - 1, by have := List.length_pos_iff.2 c1; omega⟩
        have e := dec_canon k l m hk hm (by
          by_cases h1 : l.head? = some 48
          · exact .inr (by
              have : ¬ 1 < l.length := fun e => hc (.inr (.inr ⟨h1, e⟩))
              omega)
          · exact .inl h1)
        refine ⟨?_, by omega, by omega⟩
        unfold Lib.itoa
        rw [if_neg (by omega), show n.toNat = m by omega, e]
theorem numF_itoa {n : Int} (h0 : -100000000000000000 < n) (h1 : n < 100000000000000000) : numF (Lib.itoa n) = (n, true) := by
  unfold Lib.itoa
  by_cases hn : n < 0
  · rw [if_pos hn]
    obtain ⟨c, l, e, h2, h3, h4⟩ := dig_head n.natAbs
    have hl := dig_len 16 n.natAbs (by have : (10 : Nat) ^ (16 + 1) = 100000000000000000 := by decide
                                       omega)
    unfold numF
    rw [if_pos (show (45 :: Lib.decDigits n.natAbs).head? = some 45 from rfl), if_neg]
    · unfold numM
      show (match Lib.decFrom 0 (Lib.decDigits n.natAbs) with | some m => (if true = true then -(m : Int) else (m : Int), true) | none => (0, false)) = _
      rw [decFrom_dig]
      simp only [if_true]
      congr 1
      omega
    · rintro (hc | hc | hc)
      · rw [List.tail_cons, e] at hc; cases hc
      · rw [List.tail_cons] at hc; omega
      · rw [List.tail_cons, e] at hc
        exact h4 (by omega) (by simpa using hc)
  · rw [if_neg hn]
    obtain ⟨c, l, e, h2, h3, h4⟩ := dig_head n.toNat
    have hl := dig_len 16 n.toNat (by have : (10 : Nat) ^ (16 + 1) = 100000000000000000 := by decide
                                      omega)
    have hc45 : c ≠ 45 := by rintro rfl; revert h2; decide
    unfold numF
    rw [if_neg (by rw [e]; simpa using hc45), if_neg]
    · unfold numM
      rw [decFrom_dig]
      simp only [Bool.false_eq_true, if_false]
      congr 1
      omega
    · rintro (hc | hc | ⟨hc, hc2⟩)
      · rw [e] at hc; cases hc
      · omega
      · by_cases hz : 0 < n.toNat
        · rw [e] at hc
          exact h4 hz (by simpa using hc)
        · rw [show n.toNat = 0 by omega, dig_lt (by decide)] at hc2
          simp at hc2
theorem atoi_itoa {n : Int} (h0 : -100000000000000000 < n) (h1 : n < 100000000000000000) : Lib.atoiAll (Lib.itoa n) = .ok n := by
  unfold Lib.itoa
  by_cases hn : n < 0
  · rw [if_pos hn]
    obtain ⟨c, l, e, h2, h3, h4⟩ := dig_head n.natAbs
    have hl := dig_len 16 n.natAbs (by have : (10 : Nat) ^ (16 + 1) = 100000000000000000 := by decide
                                       omega)
    rw [Lib.atoiAll_short _ (by rw [List.length_cons]; omega)]
    have : Lib.decNat (Lib.decDigits n.natAbs) = some n.natAbs := by
      unfold Lib.decNat
      rw [e, List.isEmpty_cons, if_neg (by decide), ← e, decFrom_dig]
    simp only [Lib.atoi, beq_self_eq_true, if_true, this, Option.map_some, Lib.NumEnd.ofOption]
    congr 1
    omega
  · rw [if_neg hn]
    obtain ⟨c, l, e, h2, h3, h4⟩ := dig_head n.toNat
    have hl := dig_len 16 n.toNat (by have : (10 : Nat) ^ (16 + 1) = 100000000000000000 := by decide
                                      omega)
    have hc45 : c ≠ 45 := by rintro rfl; revert h2; decide
    have hc43 : c ≠ 43 := by rintro rfl; revert h2; decide
    rw [Lib.atoiAll_short _ (by omega)]
    have : Lib.decNat (c :: l) = some n.toNat := by
      unfold Lib.decNat
      rw [List.isEmpty_cons, if_neg (by decide), ← e, decFrom_dig]
    rw [e]
    simp only [Lib.atoi]
    rw [if_neg (by simpa using hc45), if_neg (by simpa using hc43), this]
    simp only [Option.map_some, Lib.NumEnd.ofOption]
    congr 1
    omega

/-- the pieces of a text between bytes c -/
def cutG (c : UInt8) : List UInt8 → List UInt8 → List (List UInt8)
  | cur, [] => [cur]
  | cur, x :: l => if x = c then cur :: cutG c [] l else cutG c (cur ++ [x]) l
theorem take_one (l : List UInt8) (f i : Nat) (h : f ≤ i) (hi : i < l.length) : (l.drop f).take (i + 1 - f) = (l.drop f).take (i - f) ++ [l[i]] := by
  rw [show i + 1 - f = (i - f) + 1 by omega, List.take_add, List.drop_drop, show f + (i - f) = i by omega, List.drop_eq_getElem_cons hi]
  rfl
theorem cutG_skip (c : UInt8) : ∀ (m l cur : List UInt8), (∀ x ∈ m, x ≠ c) → cutG c cur (m ++ l) = cutG c (cur ++ m) l := by
  intro m
  induction m with
  | nil => intro l cur _; simp
  | cons x m ih =>
    intro l cur h
    rw [List.cons_append, cutG, if_neg (h x List.mem_cons_self), ih _ _ (fun y hy => h y (List.mem_cons_of_mem _ hy)), List.append_assoc]
    rfl
theorem cutG_len (c : UInt8) : ∀ (l cur : List UInt8), ∀ p ∈ cutG c cur l, p.length ≤ cur.length + l.length := by
  intro l
  induction l with
  | nil => intro cur p hp; simp [cutG] at hp; subst hp; simp
  | cons x l ih =>
    intro cur p hp
    rw [cutG] at hp
    by_cases h : x = c
    · rw [if_pos h] at hp
      rcases List.mem_cons.1 hp with rfl | hp
      · simp
      · have := ih [] p hp
        simp at this ⊢
        omega
    · rw [if_neg h] at hp
      have := ih _ p hp
      simp at this ⊢
      omega
theorem cutG_many (c : UInt8) : ∀ (l cur : List UInt8), (cutG c cur l).length ≤ l.length + 1 := by
  intro l
  induction l with
  | nil => intro cur; simp [cutG]
  | cons x l ih =>
    intro cur
    rw [cutG]
    split
    · have := ih []; simp; omega
    · have := ih (cur ++ [x]); simp; omega
/-- pieces put together again -/
def joinP (c : UInt8) : List (List UInt8) → List UInt8
  | [] => []
  | p :: ps => p ++ (ps.map (c :: ·)).flatten
theorem cutG_ne (c : UInt8) : ∀ (l cur : List UInt8), cutG c cur l ≠ [] := by
  intro l
  induction l with
  | nil => intro cur; simp [cutG]
  | cons x l ih => intro cur; rw [cutG]; split <;> simp [ih]
theorem joinP_cons (c : UInt8) (p : List UInt8) (ps : List (List UInt8)) (h : ps ≠ []) : joinP c (p :: ps) = p ++ c :: joinP c ps := by
  cases ps with
  | nil => exact absurd rfl h
  | cons q ps => simp [joinP]
theorem cutG_join (c : UInt8) : ∀ (l cur : List UInt8), joinP c (cutG c cur l) = cur ++ l := by
  intro l
  induction l with
  | nil => intro cur; simp [cutG, joinP]
  | cons x l ih =>
    intro cur
    rw [cutG]
    by_cases h : x = c
    · rw [if_pos h, joinP_cons _ _ _ (cutG_ne c l []), ih [], h]
      rfl
    · rw [if_neg h, ih, List.append_assoc]
      rfl
theorem dig_bytes (u : Nat) : ∀ c ∈ Lib.decDigits u, 48 ≤ c.toNat ∧ c.toNat ≤ 57 := by
  induction u using Nat.strongRecOn with
  | ind u ih =>
    have one : ∀ d, d < 10 → 48 ≤ (UInt8.ofNat (48 + d)).toNat ∧ (UInt8.ofNat (48 + d)).toNat ≤ 57 := by
      intro d hd
      rw [UInt8.toNat_ofNat']
      omega
    intro c hc
    by_cases h : u < 10
    · rw [dig_lt h, List.mem_singleton] at hc
      rw [hc]
      exact one u h
    · rw [dig_ge h, List.mem_append, List.mem_singleton] at hc
      rcases hc with hc | hc
      · exact ih (u / 10) (by omega) c hc
      · rw [hc]
        exact one _ (by omega)
theorem itoa_bytes (n : Int) : ∀ c ∈ Lib.itoa n, c.toNat = 45 ∨ (48 ≤ c.toNat ∧ c.toNat ≤ 57) := by
  intro c hc
  unfold Lib.itoa at hc
  split at hc
  · rcases List.mem_cons.1 hc with rfl | hc
    · exact .inl rfl
    · exact .inr (dig_bytes _ c hc)
  · exact .inr (dig_bytes _ c hc)
theorem itoa_no (n : Int) (b : UInt8) (hb : b.toNat < 45) : ∀ c ∈ Lib.itoa n, c ≠ b := by
  intro c hc e
  have := itoa_bytes n c hc
  rw [e] at this
  omega

theorem rowB_join : ∀ rs : List Int, rowB rs = joinP 44 (rs.map Lib.itoa) := by
  intro rs
  cases rs with
  | nil => rfl
  | cons x l => simp only [rowB, tailB, joinP, List.map_cons, List.map_map]; rfl
theorem cut_row : ∀ (l : List Int) (x : Int), cutG 44 [] (rowB (x :: l)) = (x :: l).map Lib.itoa := by
  intro l
  induction l with
  | nil =>
    intro x
    rw [rowB, show tailB [] = [] from rfl, cutG_skip 44 _ _ _ (itoa_no x 44 (by decide))]
    rfl
  | cons y l ih =>
    intro x
    rw [rowB, show tailB (y :: l) = 44 :: rowB (y :: l) by simp [tailB, rowB], cutG_skip 44 _ _ _ (itoa_no x 44 (by decide)), List.nil_append, cutG, if_pos rfl, ih y]
    rfl
/-- pieces read as numbers -/
def numsF : List (List UInt8) → Option (List Int)
  | [] => some []
  | p :: ps => if (numF p).2 = true then (numsF ps).map ((numF p).1 :: ·) else none
theorem numsF_sound : ∀ (ps : List (List UInt8)) (rs : List Int), numsF ps = some rs → ps = rs.map Lib.itoa ∧ ∀ x ∈ rs, -100000000000000000 < x ∧ x < 100000000000000000 := by
  intro ps
  induction ps with
  | nil => intro rs h; simp [numsF] at h; subst h; simp
  | cons p ps ih =>
    intro rs h
    rw [numsF] at h
    by_cases hp : (numF p).2 = true
    · rw [if_pos hp] at h
      cases hq : numsF ps with
      | none => rw [hq] at h; cases h
      | some r =>
        rw [hq] at h
        have hr : rs = (numF p).1 :: r := by simpa using h.symm
        obtain ⟨e1, e2⟩ := ih r hq
        obtain ⟨s1, s2, s3⟩ := numF_sound (l := p) (n := (numF p).1) (Prod.ext rfl hp)
        subst hr
        refine ⟨?_, ?_⟩
        · rw [List.map_cons, ← e1, ← s1]
        · intro x hx
          rcases List.mem_cons.1 hx with rfl | hx
          · exact ⟨s2, s3⟩
          · exact e2 x hx
    · rw [if_neg hp] at h; cases h
theorem numsF_itoa : ∀ (rs : List Int), (∀ x ∈ rs, -100000000000000000 < x ∧ x < 100000000000000000) → numsF (rs.map Lib.itoa) = some rs := by
  intro rs
  induction rs with
  | nil => intro _; rfl
  | cons x rs ih =>
    intro h
    have hx := h x List.mem_cons_self
    rw [List.map_cons, numsF, numF_itoa hx.1 hx.2, if_pos rfl, ih (fun y hy => h y (List.mem_cons_of_mem _ hy))]
    rfl
def atois : List Int → List (List UInt8) → Option (List Int)
  | rs, [] => some rs
  | rs, p :: ps => match Lib.atoiAll p with | .ok v => atois (rs ++ [v]) ps | _ => none
theorem atois_itoa : ∀ (rs acc : List Int), (∀ x ∈ rs, -100000000000000000 < x ∧ x < 100000000000000000) → atois acc (rs.map Lib.itoa) = some (acc ++ rs) := by
  intro rs
  induction rs with
  | nil => intro acc _; simp [atois]
  | cons x rs ih =>
    intro acc h
    have hx := h x List.mem_cons_self
    rw [List.map_cons, atois, atoi_itoa hx.1 hx.2]
    show atois (acc ++ [x]) (rs.map Lib.itoa) = _
    rw [ih _ (fun y hy => h y (List.mem_cons_of_mem _ hy)), List.append_assoc]
    rfl
/-- what RowRead tells -/
def readR (l : List UInt8) : List Int × Bool := if l.length > 100 then ([], false) else match numsF (cutG 44 [] l) with | some rs => (if okRow rs = true then (rs, true) else ([], false)) | none => ([], false)
theorem okRow_mem {r : List Int} (h : okRow r = true) : 1 ≤ r.length ∧ r.length ≤ 6 ∧ ∀ x ∈ r, -1000000000 ≤ x ∧ x ≤ 1000000000 := by
  unfold okRow at h
  simp only [Bool.and_eq_true, decide_eq_true_eq, List.all_eq_true] at h
  exact ⟨h.1.1, h.1.2, fun x hx => by have := h.2 x hx; unfold cellB at this; simpa using this⟩
theorem readR_len (l : List UInt8) : (readR l).1.length ≤ 6 := by
  unfold readR
  split
  · simp
  · split
    · split
      · next h => exact (okRow_mem h).2.1
      · simp
    · simp

theorem hp_lexc : ∀ a b : List Int, Hp.lexc a b = lexc a b := by
  intro a
  induction a with
  | nil => intro b; cases b <;> rfl
  | cons x a ih =>
    intro b
    cases b with
    | nil => rfl
    | cons y b => simp only [Hp.lexc, lexc, ih]
theorem hp_putL (r : List Int) (w : Int) : ∀ z : List S31, Hp.putL r w z = putL r w z := by
  intro z
  induction z with
  | nil => rfl
  | cons x z ih => simp only [Hp.putL, putL, ih, hp_lexc]
theorem hp_addL : ∀ (b a : List S31), Hp.addL a b = addL a b := by
  intro b
  induction b with
  | nil => intro a; rfl
  | cons x b ih =>
    intro a
    show Hp.addL (Hp.putL x.f0 x.f1 a) b = addL (putL x.f0 x.f1 a) b
    rw [ih, hp_putL]
theorem addL_app (a b c : List S31) : addL a (b ++ c) = addL (addL a b) c := by unfold addL; rw [List.foldl_append]
theorem addL_rows : ∀ (b a : List S31) (n : Nat), (∀ x ∈ a, x.f0.length ≤ n) → (∀ x ∈ b, x.f0.length ≤ n) → ∀ y ∈ addL a b, y.f0.length ≤ n := by
  intro b
  induction b with
  | nil => intro a n ha _; exact ha
  | cons x b ih =>
    intro a n ha hb
    refine ih _ n (fun y hy => ?_) (fun y hy => hb y (List.mem_cons_of_mem _ hy))
    rcases putL_rows x.f0 x.f1 a y hy with h | ⟨u, hu, h⟩
    · rw [h]; exact hb x List.mem_cons_self
    · rw [← h]; exact ha u hu
theorem addL_len : ∀ (b a : List S31), (addL a b).length ≤ a.length + b.length := by
  intro b
  induction b with
  | nil => intro a; exact Nat.le_refl _
  | cons x b ih =>
    intro a
    have h1 := ih (putL x.f0 x.f1 a)
    have h2 := putL_len x.f0 x.f1 a
    show (addL (putL x.f0 x.f1 a) b).length ≤ _
    rw [List.length_cons]
    omega
theorem itoa_inj {a b : Int} (h0 : -100000000000000000 < a) (h1 : a < 100000000000000000) (h2 : -100000000000000000 < b) (h3 : b < 100000000000000000) (h : Lib.itoa a = Lib.itoa b) : a = b := by
  have e1 := numsF_itoa [a] (fun x hx => by rw [List.mem_singleton.1 hx]; exact ⟨h0, h1⟩)
  have e2 := numsF_itoa [b] (fun x hx => by rw [List.mem_singleton.1 hx]; exact ⟨h2, h3⟩)
  simp only [List.map_cons, List.map_nil] at e1 e2
  rw [h, e2] at e1
  injection e1 with e1
  injection e1 with e1
  exact e1.symm
theorem rowB_inj {r s : List Int} (hr : ∀ x ∈ r, -100000000000000000 < x ∧ x < 100000000000000000) (hs : ∀ x ∈ s, -100000000000000000 < x ∧ x < 100000000000000000) (h0 : r ≠ []) (h1 : s ≠ []) (h : rowB r = rowB s) : r = s := by
  cases r with
  | nil => exact absurd rfl h0
  | cons x r =>
    cases s with
    | nil => exact absurd rfl h1
    | cons y s =>
      have e1 := cut_row r x
      have e2 := cut_row s y
      rw [h, e2] at e1
      have e3 := numsF_itoa _ hr
      have e4 := numsF_itoa _ hs
      rw [← e1, e4] at e3
      injection e3 with e3
      exact e3.symm
/-- of finitely many, all from some number of rounds on -/
theorem all_ev {α : Type} {P : α → Nat → Prop} : ∀ l : List α, (∀ x ∈ l, ∃ K, ∀ k, K ≤ k → P x k) → ∃ K, ∀ k, K ≤ k → ∀ x ∈ l, P x k := by
  intro l
  induction l with
  | nil => intro _; exact ⟨0, fun _ _ x hx => by cases hx⟩
  | cons a l ih =>
    intro h
    obtain ⟨K1, h1⟩ := h a List.mem_cons_self
    obtain ⟨K2, h2⟩ := ih (fun x hx => h x (List.mem_cons_of_mem _ hx))
    refine ⟨max K1 K2, fun k hk x hx => ?_⟩
    rcases List.mem_cons.1 hx with e | e
    · rw [e]; exact h1 k (by omega)
    · exact h2 k (by omega) x e
/-- what is right for a join: few items, short rows, small cells and weights -/
structure Jn (a : List S31) : Prop where
  len : a.length ≤ 100
  row : ∀ p ∈ a, 1 ≤ p.f0.length ∧ p.f0.length ≤ 6
  cell : ∀ p ∈ a, ∀ c ∈ p.f0, -1000000000 ≤ c ∧ c ≤ 1000000000
  w : ∀ p ∈ a, -10000 ≤ p.f1 ∧ p.f1 ≤ 10000
theorem okZ_jn {a : List S31} (h : okZ a = true) : Jn a where
  len := (okZ_facts h).1
  row p hp := by have := okRow_mem ((okZ_facts h).2.2 p hp).1; exact ⟨this.1, this.2.1⟩
  cell p hp := (okRow_mem ((okZ_facts h).2.2 p hp).1).2.2
  w p hp := by have := okZ_w h p hp; exact ⟨this.1, this.2.1⟩
theorem fineJ_ev {a b : List S31} (ha : Jn a) (hb : Jn b) : ∃ K, ∀ k, K ≤ k → fineJ k a b := by
  have cells : ∀ p ∈ a, ∀ q ∈ b, ∀ c ∈ p.f0 ++ q.f0, -100000000000000000 < c ∧ c < 100000000000000000 := by
    intro p hp q hq c hc
    rcases List.mem_append.1 hc with h | h
    · have := ha.cell p hp c h; omega
    · have := hb.cell q hq c h; omega
  have ne : ∀ p ∈ a, ∀ q ∈ b, p.f0 ++ q.f0 ≠ [] := by
    intro p hp q hq e
    have h1 := congrArg List.length e
    have h2 := (ha.row p hp).1
    rw [List.length_append, List.length_nil] at h1
    omega
  obtain ⟨K1, h1⟩ := all_ev (P := fun p k => ∀ q ∈ b, impl_RowJoin.f k p.f0 q.f0 = some (p.f0 ++ q.f0)) a (fun p hp => all_ev (P := fun q k => impl_RowJoin.f k p.f0 q.f0 = some (p.f0 ++ q.f0)) b (fun q hq => by
    have hl : p.f0.length + q.f0.length < 17592186044416 := by have := (ha.row p hp).2; have := (hb.row q hq).2; omega
    exact implJoin_ev p.f0 q.f0 hl))
  obtain ⟨K2, h2⟩ := all_ev (P := fun p k => ∀ q ∈ b, ∀ p' ∈ a, ∀ q' ∈ b, slices_Compare_int_int.f k (p.f0 ++ q.f0) (p'.f0 ++ q'.f0) = some (Hp.lexc (p.f0 ++ q.f0) (p'.f0 ++ q'.f0))) a (fun p hp =>
    all_ev (P := fun q k => ∀ p' ∈ a, ∀ q' ∈ b, slices_Compare_int_int.f k (p.f0 ++ q.f0) (p'.f0 ++ q'.f0) = some (Hp.lexc (p.f0 ++ q.f0) (p'.f0 ++ q'.f0))) b (fun q hq =>
      all_ev (P := fun p' k => ∀ q' ∈ b, slices_Compare_int_int.f k (p.f0 ++ q.f0) (p'.f0 ++ q'.f0) = some (Hp.lexc (p.f0 ++ q.f0) (p'.f0 ++ q'.f0))) a (fun p' _ =>
        all_ev (P := fun q' k => slices_Compare_int_int.f k (p.f0 ++ q.f0) (p'.f0 ++ q'.f0) = some (Hp.lexc (p.f0 ++ q.f0) (p'.f0 ++ q'.f0))) b (fun q' _ => by
          rw [hp_lexc]
          exact compare_ev _ _ (by rw [List.length_append]; have := (ha.row p hp).2; have := (hb.row q hq).2; omega)))))
  refine ⟨max K1 K2, fun k hk => ⟨ha.len, hb.len, fun p hp => ⟨(ha.row p hp).2, fun c hc => okI_iff.2 (by have := ha.cell p hp c hc; omega), ha.w p hp⟩, fun p hp => ⟨(hb.row p hp).2, fun c hc => okI_iff.2 (by have := hb.cell p hp c hc; omega), hb.w p hp⟩, fun p hp q hq => h1 k (by omega) p hp q hq, fun p hp q hq p' hp' q' hq' => ⟨h2 k (by omega) p hp q hq p' hp' q' hq', fun e => ?_⟩⟩⟩
  exact rowB_inj (cells p hp q hq) (cells p' hp' q' hq') (ne p hp q hq) (ne p' hp' q' hq') e
/-- what JoinOf tells -/
def joinZ (x y : Int) (a b : List S31) : List S31 × Bool :=
  if okZ a = true ∧ okZ b = true ∧ (0 ≤ x ∧ x < 6) ∧ (0 ≤ y ∧ y < 6) ∧ (a = [] ∨ b = [] ∨ (Hp.wideAll x a = true ∧ Hp.wideAll y b = true)) ∧ okZ (addL [] (Hp.pairsOf x y a b)) = true then (addL [] (Hp.pairsOf x y a b), true) else ([], false)
theorem pairs_small {x y : Int} {a b : List S31} (ha : Jn a) (hb : Jn b) : Small (addL [] (Hp.pairsOf x y a b)) := by
  have h1 := addL_len (Hp.pairsOf x y a b) []
  have h2 := pairsOf_len x y b a
  have h3 := Nat.mul_le_mul ha.len hb.len
  refine ⟨by simp only [List.length_nil] at h1; omega, fun u hu => ?_⟩
  refine addL_rows (Hp.pairsOf x y a b) [] 1048576 (by simp) (fun v hv => ?_) u hu
  obtain ⟨p, hp, q, hq, rfl⟩ := Hp.pairsOf_mem hv
  show (p.f0 ++ q.f0).length ≤ _
  rw [List.length_append]
  have := (ha.row p hp).2
  have := (hb.row q hq).2
  omega
theorem implJoinOf_ev (x y : Int) (a b : List S31) (ha : Small a) (hb : Small b) : Ev (fun k => impl_JoinOf.f k a b x y) (joinZ x y a b) := by
  unfold impl_JoinOf.f joinZ
  refine (implZOk_ev a ha).bind ?_
  by_cases h1 : okZ a = true
  case neg => rw [if_neg (fun h => h1 h.1)]; exact ev_neg h1 (ev_now rfl)
  refine ev_pos h1 ((implZOk_ev b hb).bind ?_)
  by_cases h2 : okZ b = true
  case neg => rw [if_neg (fun h => h2 h.2.1)]; exact ev_neg h2 (ev_now rfl)
  refine ev_pos h2 ?_
  by_cases h3 : 0 ≤ x ∧ x < 6
  case neg => rw [if_neg (fun h => h3 h.2.2.1)]; exact ev_neg h3 (ev_now rfl)
  refine ev_pos h3 ?_
  by_cases h4 : 0 ≤ y ∧ y < 6
  case neg => rw [if_neg (fun h => h4 h.2.2.2.1)]; exact ev_neg h4 (ev_now rfl)
  refine ev_pos h4 ?_
  obtain ⟨K, hK⟩ := fineJ_ev (okZ_jn h1) (okZ_jn h2)
  have F : Ev (fun k => if a = [] ∨ b = [] ∨ (Hp.wideAll x a = true ∧ Hp.wideAll y b = true) then (impl_told.f k (Hp.addL [] (Hp.pairsOf x y a b))) else some ([], false)) (if okZ a = true ∧ okZ b = true ∧ (0 ≤ x ∧ x < 6) ∧ (0 ≤ y ∧ y < 6) ∧ (a = [] ∨ b = [] ∨ (Hp.wideAll x a = true ∧ Hp.wideAll y b = true)) ∧ okZ (addL [] (Hp.pairsOf x y a b)) = true then (addL [] (Hp.pairsOf x y a b), true) else ([], false)) := by
    by_cases h5 : a = [] ∨ b = [] ∨ (Hp.wideAll x a = true ∧ Hp.wideAll y b = true)
    case neg => rw [if_neg (fun h => h5 h.2.2.2.2.1)]; exact ev_neg h5 (ev_now rfl)
    refine ev_pos h5 ?_
    rw [hp_addL]
    have T := told_ev _ (pairs_small (x := x) (y := y) (okZ_jn h1) (okZ_jn h2))
    by_cases h6 : okZ (addL [] (Hp.pairsOf x y a b)) = true
    · rw [if_pos h6] at T
      rw [if_pos ⟨h1, h2, h3, h4, h5, h6⟩]
      exact T
    · rw [if_neg h6] at T
      rw [if_neg (fun h => h6 h.2.2.2.2.2)]
      exact T
  obtain ⟨K2, hF⟩ := F
  refine ⟨max K K2, fun k hk => ?_⟩
  dsimp only
  rw [if_pos (hK k (by omega))]
  exact hF k (by omega)

theorem l3Col_ev (x : Int) : spec_l3Col.f x 6 = some (decide (0 ≤ x ∧ x < 6)) := by
  unfold spec_l3Col.f
  by_cases h : x ≥ 0
  · rw [if_pos h]
    by_cases h2 : x < 6
    · rw [if_pos h2, decide_eq_true h2, decide_eq_true ⟨h, h2⟩]
    · rw [if_neg h2, decide_eq_false (fun h3 => h2 h3.2)]
  · rw [if_neg h, decide_eq_false (fun h3 => h h3.1)]
theorem jn_mul {a b : List S31} (ha : Jn a) (hb : Jn b) {p q : S31} (hp : p ∈ a) (hq : q ∈ b) : -100000000 ≤ p.f1 * q.f1 ∧ p.f1 * q.f1 ≤ 100000000 := mul_le4 (ha.w p hp).1 (ha.w p hp).2 (hb.w q hq).1 (hb.w q hq).2
/-- what has been put so far: few, short rows, weights that m puts can make -/
structure Acc (m : Nat) (z : List S31) : Prop where
  len : z.length ≤ m
  row : ∀ x ∈ z, x.f0.length ≤ 12
  w : ∀ x ∈ z, -(100000000 * (m : Int)) ≤ x.f1 ∧ x.f1 ≤ 100000000 * (m : Int)
theorem Acc.put {m : Nat} {z : List S31} (h : Acc m z) {r : List Int} {w : Int} (hr : r.length ≤ 12) (hw : -100000000 ≤ w ∧ w ≤ 100000000) : Acc (m + 1) (putL r w z) where
  len := by have := putL_len r w z; have := h.len; omega
  row y hy := by
    rcases putL_rows r w z y hy with e | ⟨u, hu, e⟩
    · rw [e]; exact hr
    · rw [← e]; exact h.row u hu
  w y hy := by
    have := putL_wb r w (100000000 * (m : Int)) 100000000 hw (by omega) (by omega) z h.w y hy
    omega
theorem Acc.mono {m n : Nat} {z : List S31} (h : Acc m z) (hmn : m ≤ n) : Acc n z where
  len := Nat.le_trans h.len hmn
  row := h.row
  w y hy := by have := h.w y hy; omega
theorem wide_at {x : Int} {z : List S31} (h : Hp.wideAll x z = true) (i : Nat) (hi : i < z.length) : 0 ≤ x ∧ x < (z[i].f0.length : Int) := by
  have h1 := List.all_eq_true.1 h z[i] (List.getElem_mem hi)
  rw [Bool.and_eq_true, decide_eq_true_eq, decide_eq_true_eq] at h1
  exact h1
theorem mates_cons (x y : Int) (q p : S31) (b : List S31) : Hp.mates x y (q :: b) p = (if Hp.cellAt q y = Hp.cellAt p x then [q] else []) ++ Hp.mates x y b p := by
  unfold Hp.mates
  by_cases h : Hp.cellAt q y = Hp.cellAt p x
  · rw [if_pos h, List.filter_cons, if_pos (decide_eq_true h)]; rfl
  · rw [if_neg h, List.filter_cons, if_neg (by simpa using h)]; rfl
theorem specInner (x y : Int) (a b : List S31) (ha : Jn a) (hb : Jn b) (hx : Hp.wideAll x a = true) (hy : Hp.wideAll y b = true) (i : Nat) (hi : i < a.length) (R : List S31 → List S31 × Bool)
    (next : ∀ acc m, Acc m acc → m ≤ 100 * (i + 1) → Ev (fun k => spec_l5Join.l0 k a b x y acc ((i + 1 : Nat) : Int)) (R acc)) : ∀ (d j : Nat) (acc : List S31) (m : Nat), j + d = b.length → Acc m acc → m ≤ 100 * i + j →
    Ev (fun k => spec_l5Join.l1 k a b x y acc (i : Int) (j : Int)) (R (addL acc ((Hp.mates x y (b.drop j) a[i]).map (Hp.joined a[i])))) := by
  intro d
  have hla := ha.len
  have hlb := hb.len
  obtain ⟨hx0, hx1⟩ := wide_at hx i hi
  induction d with
  | zero =>
    intro j acc m hj hA hm
    refine Ev.step (fun k => spec_l5Join.l1.eq_2 ..) (ev_neg (by omega) ?_)
    rw [drop_end b _ (by omega), w64n (by omega)]
    exact next acc m hA (by omega)
  | succ d ih =>
    intro j acc m hj hA hm
    have hjl : j < b.length := by omega
    obtain ⟨hy0, hy1⟩ := wide_at hy j hjl
    have hjn := ih (j + 1)
    refine Ev.step (fun k => spec_l5Join.l1.eq_2 ..) (ev_pos (by omega) (ev_pos (by omega) (ev_pos (by omega) ?_)))
    rw [rdI_at a i hi, rdI_at b j hjl]
    refine ev_neg (by omega) (ev_pos (by omega) (ev_neg (by omega) (ev_pos hx0 (ev_pos hx1 (ev_pos hy0 (ev_pos hy1 ?_))))))
    rw [w64n (by omega), drop_at b j hjl, mates_cons]
    have hp := List.getElem_mem hi
    have hq := List.getElem_mem hjl
    by_cases e : rd a[i].f0 x = rd b[j].f0 y
    · have e2 : Hp.cellAt b[j] y = Hp.cellAt a[i] x := e.symm
      have hl : (a[i].f0 ++ b[j].f0).length ≤ 12 := by rw [List.length_append]; have := (ha.row _ hp).2; have := (hb.row _ hq).2; omega
      have hm4 := jn_mul ha hb hp hq
      refine ev_pos e (ev_eq (specJoin a[i].f0 b[j].f0 (by rw [List.length_append] at hl; omega)) ?_)
      rw [w64 (by omega) (by omega)]
      refine (specPut_ev acc _ _ ⟨by have := hA.len; omega, fun u hu => by have := hA.row u hu; omega⟩ (by omega) (fun u hu => by have := hA.w u hu; omega) (by omega)).bind ?_
      rw [if_pos e2]
      exact hjn _ (m + 1) (by omega) (hA.put hl hm4) (by omega)
    · have e2 : ¬ Hp.cellAt b[j] y = Hp.cellAt a[i] x := fun h => e h.symm
      refine ev_neg e ?_
      rw [if_neg e2]
      exact hjn acc m (by omega) hA (by omega)
theorem specOuter (x y : Int) (a b : List S31) (ha : Jn a) (hb : Jn b) (hx : Hp.wideAll x a = true) (hy : Hp.wideAll y b = true) : ∀ (d i : Nat) (acc : List S31) (m : Nat), i + d = a.length → Acc m acc → m ≤ 100 * i →
    Ev (fun k => spec_l5Join.l0 k a b x y acc (i : Int)) (addL acc (Hp.pairsOf x y (a.drop i) b), true) := by
  intro d
  have hla := ha.len
  have hlb := hb.len
  induction d with
  | zero =>
    intro i acc m hi _ _
    refine Ev.step (fun k => spec_l5Join.l0.eq_2 ..) (ev_neg (by omega) (ev_now ?_))
    rw [drop_end a _ (by omega)]
    rfl
  | succ d ih =>
    intro i acc m hi hA hm
    have hil : i < a.length := by omega
    refine Ev.step (fun k => spec_l5Join.l0.eq_2 ..) (ev_pos (by omega) ?_)
    have h1 := specInner x y a b ha hb hx hy i hil (fun acc => (addL acc (Hp.pairsOf x y (a.drop (i + 1)) b), true)) (fun acc m hA hm => ih (i + 1) acc m (by omega) hA hm) b.length 0 acc m (by omega) hA (by omega)
    rw [List.drop_zero] at h1
    have h2 : Hp.pairsOf x y (a.drop i) b = (Hp.mates x y b a[i]).map (Hp.joined a[i]) ++ Hp.pairsOf x y (a.drop (i + 1)) b := by rw [drop_at a i hil]; rfl
    rw [h2, addL_app]
    exact h1
/-- where some row is not wide enough: up to a place at which the loop ends in false -/
theorem specInnerF (x y : Int) (a b : List S31) (ha : Jn a) (hb : Jn b) (hx0 : 0 ≤ x) (hy0 : 0 ≤ y) (i : Nat) (hi : i < a.length) (e : Nat) (he : e ≤ b.length)
    (stop : ∀ acc m, Acc m acc → m ≤ 100 * i + e → ∃ g, Ev (fun k => spec_l5Join.l1 k a b x y acc (i : Int) (e : Int)) (g, false)) : ∀ (d j : Nat) (acc : List S31) (m : Nat), j + d = e → Acc m acc → m ≤ 100 * i + j →
    ∃ g, Ev (fun k => spec_l5Join.l1 k a b x y acc (i : Int) (j : Int)) (g, false) := by
  intro d
  have hla := ha.len
  have hlb := hb.len
  induction d with
  | zero =>
    intro j acc m hj hA hm
    obtain rfl : j = e := by omega
    exact stop acc m hA hm
  | succ d ih =>
    intro j acc m hj hA hm
    have hjl : j < b.length := by omega
    have hp := List.getElem_mem hi
    have hq := List.getElem_mem hjl
    by_cases hx1 : x ≥ (a[i].f0.length : Int)
    · refine ⟨acc, Ev.step (fun k => spec_l5Join.l1.eq_2 ..) (ev_pos (by omega) (ev_pos (by omega) (ev_pos (by omega) ?_)))⟩
      rw [rdI_at a i hi]
      exact ev_pos hx1 (ev_now rfl)
    by_cases hy1 : y ≥ (b[j].f0.length : Int)
    · refine ⟨acc, Ev.step (fun k => spec_l5Join.l1.eq_2 ..) (ev_pos (by omega) (ev_pos (by omega) (ev_pos (by omega) ?_)))⟩
      rw [rdI_at a i hi, rdI_at b j hjl]
      exact ev_neg hx1 (ev_pos (by omega) (ev_pos hy1 (ev_now rfl)))
    by_cases ec : rd a[i].f0 x = rd b[j].f0 y
    · have hl : (a[i].f0 ++ b[j].f0).length ≤ 12 := by rw [List.length_append]; have := (ha.row _ hp).2; have := (hb.row _ hq).2; omega
      have hm4 := jn_mul ha hb hp hq
      obtain ⟨g, hg⟩ := ih (j + 1) (putL (a[i].f0 ++ b[j].f0) (a[i].f1 * b[j].f1) acc) (m + 1) (by omega) (hA.put hl hm4) (by omega)
      refine ⟨g, Ev.step (fun k => spec_l5Join.l1.eq_2 ..) (ev_pos (by omega) (ev_pos (by omega) (ev_pos (by omega) ?_)))⟩
      rw [rdI_at a i hi, rdI_at b j hjl]
      refine ev_neg hx1 (ev_pos (by omega) (ev_neg hy1 (ev_pos hx0 (ev_pos (by omega) (ev_pos hy0 (ev_pos (by omega) (ev_pos ec (ev_eq (specJoin a[i].f0 b[j].f0 (by rw [List.length_append] at hl; omega)) ?_))))))))
      rw [w64n (by omega), w64 (by omega) (by omega)]
      exact (specPut_ev acc _ _ ⟨by have := hA.len; omega, fun u hu => by have := hA.row u hu; omega⟩ (by omega) (fun u hu => by have := hA.w u hu; omega) (by omega)).bind hg
    · obtain ⟨g, hg⟩ := ih (j + 1) acc m (by omega) hA (by omega)
      refine ⟨g, Ev.step (fun k => spec_l5Join.l1.eq_2 ..) (ev_pos (by omega) (ev_pos (by omega) (ev_pos (by omega) ?_)))⟩
      rw [rdI_at a i hi, rdI_at b j hjl]
      refine ev_neg hx1 (ev_pos (by omega) (ev_neg hy1 (ev_pos hx0 (ev_pos (by omega) (ev_pos hy0 (ev_pos (by omega) (ev_neg ec ?_)))))))
      rw [w64n (by omega)]
      exact hg
theorem wide_no {x : Int} (hx0 : 0 ≤ x) {z : List S31} (h : ¬ Hp.wideAll x z = true) : ∃ i, ∃ hi : i < z.length, x ≥ (z[i].f0.length : Int) := by
  unfold Hp.wideAll at h
  rw [List.all_eq_true] at h
  have h2 : ∃ p ∈ z, x ≥ (p.f0.length : Int) := by
    apply Classical.byContradiction
    intro hn
    refine h (fun p hp => ?_)
    rw [Bool.and_eq_true, decide_eq_true_eq, decide_eq_true_eq]
    exact ⟨hx0, Int.not_le.1 (fun e => hn ⟨p, hp, e⟩)⟩
  obtain ⟨p, hp, e⟩ := h2
  obtain ⟨i, hi, rfl⟩ := List.getElem_of_mem hp
  exact ⟨i, hi, e⟩
theorem specOuterF (x y : Int) (a b : List S31) (ha : Jn a) (hb : Jn b) (hx0 : 0 ≤ x) (hy0 : 0 ≤ y) (hbn : 0 < b.length) (i0 : Nat) (hi0 : i0 < a.length) (hbad : x ≥ (a[i0].f0.length : Int)) : ∀ (d i : Nat) (acc : List S31) (m : Nat), i + d = i0 → Acc m acc → m ≤ 100 * i →
    ∃ g, Ev (fun k => spec_l5Join.l0 k a b x y acc (i : Int)) (g, false) := by
  intro d
  have hla := ha.len
  have hlb := hb.len
  induction d with
  | zero =>
    intro i acc m hi _ _
    obtain rfl : i = i0 := by omega
    refine ⟨acc, Ev.step (fun k => spec_l5Join.l0.eq_2 ..) (ev_pos (by omega) (Ev.step (fun k => spec_l5Join.l1.eq_2 ..) (ev_pos (by omega) (ev_pos (by omega) (ev_pos (by omega) ?_)))))⟩
    rw [rdI_at a i hi0]
    exact ev_pos hbad (ev_now rfl)
  | succ d ih =>
    intro i acc m hi hA hm
    have hil : i < a.length := by omega
    obtain ⟨g, hg⟩ := specInnerF x y a b ha hb hx0 hy0 i hil b.length (Nat.le_refl _) (fun acc m hA hm => by
      obtain ⟨g, hg⟩ := ih (i + 1) acc m (by omega) hA (by omega)
      refine ⟨g, Ev.step (fun k => spec_l5Join.l1.eq_2 ..) (ev_neg (by omega) ?_)⟩
      rw [w64n (by omega)]
      exact hg) b.length 0 acc m (by omega) hA (by omega)
    exact ⟨g, Ev.step (fun k => spec_l5Join.l0.eq_2 ..) (ev_pos (by omega) hg)⟩
theorem specL5_ev (x y : Int) (a b : List S31) (ha : Jn a) (hb : Jn b) (h : a = [] ∨ b = [] ∨ (Hp.wideAll x a = true ∧ Hp.wideAll y b = true)) : Ev (fun k => spec_l5Join.f k a b x y) (addL [] (Hp.pairsOf x y a b), true) := by
  have hla := ha.len
  have hlb := hb.len
  have A0 : Acc 0 ([] : List S31) := ⟨Nat.le_refl _, by simp, by simp⟩
  unfold spec_l5Join.f
  rcases h with rfl | rfl | ⟨h1, h2⟩
  · exact Ev.step (fun k => spec_l5Join.l0.eq_2 ..) (ev_neg (by simp) (ev_now rfl))
  · have hp : Hp.pairsOf x y a [] = [] := by
      apply List.eq_nil_of_length_eq_zero
      have := pairsOf_len x y ([] : List S31) a
      simpa using this
    rw [hp]
    have go : ∀ (d i : Nat), i + d = a.length → Ev (fun k => spec_l5Join.l0 k a [] x y [] (i : Int)) (([] : List S31), true) := by
      intro d
      induction d with
      | zero => intro i hi; exact Ev.step (fun k => spec_l5Join.l0.eq_2 ..) (ev_neg (by omega) (ev_now rfl))
      | succ d ih =>
        intro i hi
        refine Ev.step (fun k => spec_l5Join.l0.eq_2 ..) (ev_pos (by omega) (Ev.step (fun k => spec_l5Join.l1.eq_2 ..) (ev_neg (by simp) ?_)))
        rw [w64n (by omega)]
        exact ih (i + 1) (by omega)
    exact go a.length 0 (by omega)
  · have := specOuter x y a b ha hb h1 h2 a.length 0 [] 0 (by omega) A0 (by omega)
    rw [List.drop_zero] at this
    exact this
theorem specL5_no (x y : Int) (a b : List S31) (ha : Jn a) (hb : Jn b) (hx0 : 0 ≤ x) (hy0 : 0 ≤ y) (h : ¬ (a = [] ∨ b = [] ∨ (Hp.wideAll x a = true ∧ Hp.wideAll y b = true))) : ∃ g, Ev (fun k => spec_l5Join.f k a b x y) (g, false) := by
  have A0 : Acc 0 ([] : List S31) := ⟨Nat.le_refl _, by simp, by simp⟩
  have ha0 : 0 < a.length := List.length_pos_iff.2 (fun e => h (.inl e))
  have hb0 : 0 < b.length := List.length_pos_iff.2 (fun e => h (.inr (.inl e)))
  unfold spec_l5Join.f
  by_cases h1 : Hp.wideAll x a = true
  · have h2 : ¬ Hp.wideAll y b = true := fun e => h (.inr (.inr ⟨h1, e⟩))
    obtain ⟨j0, hj0, hbad⟩ := wide_no hy0 h2
    obtain ⟨g, hg⟩ := specInnerF x y a b ha hb hx0 hy0 0 ha0 j0 (Nat.le_of_lt hj0) (fun acc m hA hm => by
      by_cases hx1 : x ≥ (a[0].f0.length : Int)
      · refine ⟨acc, Ev.step (fun k => spec_l5Join.l1.eq_2 ..) (ev_pos (by omega) (ev_pos (by omega) (ev_pos (by omega) ?_)))⟩
        rw [rdI_at a 0 ha0]
        exact ev_pos hx1 (ev_now rfl)
      · refine ⟨acc, Ev.step (fun k => spec_l5Join.l1.eq_2 ..) (ev_pos (by omega) (ev_pos (by omega) (ev_pos (by omega) ?_)))⟩
        rw [rdI_at a 0 ha0, rdI_at b j0 hj0]
        exact ev_neg hx1 (ev_pos (by omega) (ev_pos hbad (ev_now rfl)))) j0 0 [] 0 (by omega) A0 (by omega)
    exact ⟨g, Ev.step (fun k => spec_l5Join.l0.eq_2 ..) (ev_pos (by omega) hg)⟩
  · obtain ⟨i0, hi0, hbad⟩ := wide_no hx0 h1
    exact specOuterF x y a b ha hb hx0 hy0 hb0 i0 hi0 hbad i0 0 [] 0 (by omega) A0 (by omega)
theorem specJoinOf_ev (x y : Int) (a b : List S31) (ha : Small a) (hb : Small b) : Ev (fun k => spec_JoinOf.f k a b x y) (joinZ x y a b) := by
  unfold spec_JoinOf.f joinZ
  refine (specZOk_ev a ha).bind ?_
  by_cases h1 : okZ a = true
  case neg => rw [if_neg (fun h => h1 h.1)]; exact ev_neg h1 (ev_now rfl)
  refine ev_pos h1 ((specZOk_ev b hb).bind ?_)
  by_cases h2 : okZ b = true
  case neg => rw [if_neg (fun h => h2 h.2.1)]; exact ev_neg h2 (ev_now rfl)
  refine ev_pos h2 (ev_eq (l3Col_ev x) ?_)
  by_cases h3 : 0 ≤ x ∧ x < 6
  case neg => rw [if_neg (fun h => h3 h.2.2.1)]; exact ev_neg (by simpa using h3) (ev_now rfl)
  refine ev_pos (decide_eq_true h3) (ev_eq (l3Col_ev y) ?_)
  by_cases h4 : 0 ≤ y ∧ y < 6
  case neg => rw [if_neg (fun h => h4 h.2.2.2.1)]; exact ev_neg (by simpa using h4) (ev_now rfl)
  refine ev_pos (decide_eq_true h4) ?_
  by_cases h5 : a = [] ∨ b = [] ∨ (Hp.wideAll x a = true ∧ Hp.wideAll y b = true)
  case neg =>
    rw [if_neg (fun h => h5 h.2.2.2.2.1)]
    obtain ⟨g, hg⟩ := specL5_no x y a b (okZ_jn h1) (okZ_jn h2) h3.1 h4.1 h5
    exact hg.bind (ev_neg (by simp) (ev_now rfl))
  refine (specL5_ev x y a b (okZ_jn h1) (okZ_jn h2) h5).bind (ev_pos rfl ?_)
  have T := specTold_ev _ (pairs_small (x := x) (y := y) (okZ_jn h1) (okZ_jn h2))
  by_cases h6 : okZ (addL [] (Hp.pairsOf x y a b)) = true
  · rw [if_pos h6] at T
    rw [if_pos ⟨h1, h2, h3, h4, h5, h6⟩]
    exact T.bind (ev_now rfl)
  · rw [if_neg h6] at T
    rw [if_neg (fun h => h6 h.2.2.2.2.2)]
    exact T.bind (ev_now rfl)

/-- numbers counted up from k -/
def marked (k : Int) : Nat → List Int
  | 0 => []
  | n + 1 => k :: marked (k + 1) n
theorem marked_length : ∀ (n : Nat) (k : Int), (marked k n).length = n
  | 0, _ => rfl
  | n + 1, k => by rw [marked, List.length_cons, marked_length n]
theorem marked_snoc : ∀ (n : Nat) (k : Int), marked k (n + 1) = marked k n ++ [k + n]
  | 0, k => by simp [marked]
  | n + 1, k => by
    rw [marked, marked_snoc n (k + 1), marked, List.cons_append]
    congr 2
    simp; omega
theorem markInts_ev (l : List Int) (k0 : Int) (h0 : 0 ≤ k0) (h1 : k0 + l.length ≤ 4611686018427387904) : Ev (fun k => laws_markIntS.f k l k0) (k0 + l.length, marked k0 l.length) := by
  unfold laws_markIntS.f
  have h := ev_down (fun k i => laws_markIntS.l0 k (marked k0 i ++ l.drop i) (k0 + i) (i : Int)) (fun _ => (k0 + l.length, marked k0 l.length)) l.length ?_ ?_ 0 (by omega)
  · simpa [marked] using h
  · refine Ev.step (fun k => laws_markIntS.l0.eq_2 ..) (ev_neg (by simp [marked_length]) (ev_now ?_))
    rw [drop_end l _ (Nat.le_refl _), List.append_nil]
  · intro i hi ih
    refine Ev.step (fun k => laws_markIntS.l0.eq_2 ..) (ev_pos (by simp [marked_length]; omega) (ev_pos (by omega) ?_))
    rw [w64n (by omega), w64 (by omega) (by omega), drop_rd l i hi, Int.toNat_natCast, List.set_append_right _ _ (by rw [marked_length]; omega), marked_length, Nat.sub_self, List.set_cons_zero]
    have e : marked k0 i ++ (k0 + (i : Int)) :: l.drop (i + 1) = marked k0 (i + 1) ++ l.drop (i + 1) := by rw [marked_snoc, List.append_assoc]; rfl
    have e2 : k0 + (i : Int) + 1 = k0 + ((i + 1 : Nat) : Int) := by omega
    rw [e, e2]
    exact ih
theorem rd_marked : ∀ (n i : Nat) (k : Int), i < n → rd (marked k n) (i : Int) = k + i := by
  intro n
  induction n with
  | zero => intro i k h; omega
  | succ n ih =>
    intro i k h
    cases i with
    | zero => show k = k + ((0 : Nat) : Int); omega
    | succ i =>
      have := ih i (k + 1) (by omega)
      rw [rd_nat] at this ⊢
      rw [marked, List.getD_cons_succ, this]
      omega
theorem heldInts_ev (n : Nat) (k0 : Int) (h0 : 0 ≤ k0) (h1 : k0 + n ≤ 4611686018427387904) : Ev (fun k => laws_heldIntS.f k (marked k0 n) k0) (k0 + n) := by
  unfold laws_heldIntS.f
  have h := ev_down (fun k i => laws_heldIntS.l0 k (marked k0 n) (k0 + i) (i : Int)) (fun _ => k0 + n) n ?_ ?_ 0 (by omega)
  · simpa using h
  · exact Ev.step (fun k => laws_heldIntS.l0.eq_2 ..) (ev_neg (by simp [marked_length]) (ev_now rfl))
  · intro i hi ih
    refine Ev.step (fun k => laws_heldIntS.l0.eq_2 ..) (ev_pos (by simp [marked_length]; omega) (ev_pos (by omega) (ev_pos (rd_marked n i k0 hi) ?_)))
    have e2 : k0 + (i : Int) + 1 = k0 + ((i + 1 : Nat) : Int) := by omega
    rw [w64n (by omega), w64 (by omega) (by omega), e2]
    exact ih

def markZ : List S31 → Int → List S31
  | [], _ => []
  | x :: z, k => ⟨marked k x.f0.length, k + x.f0.length⟩ :: markZ z (k + x.f0.length + 1)
def endZ : List S31 → Int → Int
  | [], k => k
  | x :: z, k => endZ z (k + x.f0.length + 1)
theorem endZ_ge : ∀ (z : List S31) (k : Int), k ≤ endZ z k := by
  intro z
  induction z with
  | nil => intro k; exact Int.le_refl _
  | cons x z ih => intro k; have := ih (k + x.f0.length + 1); unfold endZ; omega
theorem endZ_le : ∀ (z : List S31) (k : Int), (∀ x ∈ z, x.f0.length ≤ 1048576) → endZ z k ≤ k + z.length * 1048577 := by
  intro z
  induction z with
  | nil => intro k _; simp [endZ]
  | cons x z ih =>
    intro k h
    have hx := h x List.mem_cons_self
    have := ih (k + x.f0.length + 1) (fun y hy => h y (List.mem_cons_of_mem _ hy))
    unfold endZ
    simp only [List.length_cons]
    omega
theorem set_mid {α : Type} (p : List α) (x y : α) (z : List α) : (p ++ x :: z).set p.length y = (p ++ [y]) ++ z := by
  rw [List.set_append_right _ _ (Nat.le_refl _), Nat.sub_self, List.set_cons_zero, List.append_assoc]; rfl
theorem rd_mid (p : List S31) (x : S31) (z : List S31) : rd_T31 (p ++ x :: z) (p.length : Int) = x := by
  rw [rdI_at _ p.length (by simp)]; simp
theorem markItems_go : ∀ (z p : List S31) (a : Int), 0 ≤ a → (p ++ z).length ≤ 1048576 → a + z.length * 1048577 ≤ 4611686018427387904 → (∀ x ∈ z, x.f0.length ≤ 1048576) → Ev (fun k => laws_markItemS.l0 k (p ++ z) a (p.length : Int)) (endZ z a, p ++ markZ z a) := by
  intro z
  induction z with
  | nil => intro p a _ _ _ _; exact Ev.step (fun k => laws_markItemS.l0.eq_2 ..) (ev_neg (by simp) (ev_now (by simp [endZ, markZ])))
  | cons x z ih =>
    intro p a h0 hl h1 hr
    have hx := hr x List.mem_cons_self
    simp only [List.length_append, List.length_cons] at hl h1
    refine Ev.step (fun k => laws_markItemS.l0.eq_2 ..) (ev_pos (by simp; omega) (ev_pos (by omega) ?_))
    rw [rd_mid]
    refine (markInts_ev x.f0 a h0 (by omega)).bind ?_
    dsimp only
    rw [Int.toNat_natCast, set_mid, w64 (x := a + x.f0.length + 1) (by omega) (by omega), w64n (by omega)]
    have := ih (p ++ [⟨marked a x.f0.length, a + x.f0.length⟩]) (a + x.f0.length + 1) (by omega) (by simp; omega) (by omega) (fun y hy => hr y (List.mem_cons_of_mem _ hy))
    rw [show ((p ++ [(⟨marked a x.f0.length, a + x.f0.length⟩ : S31)]).length : Int) = ((p.length + 1 : Nat) : Int) by simp] at this
    rw [endZ, markZ, show p ++ (⟨marked a x.f0.length, a + x.f0.length⟩ : S31) :: markZ z (a + x.f0.length + 1) = (p ++ [⟨marked a x.f0.length, a + x.f0.length⟩]) ++ markZ z (a + x.f0.length + 1) by simp]
    exact this
theorem heldItems_go : ∀ (z p : List S31) (a : Int), 0 ≤ a → (p ++ z).length ≤ 1048576 → a + z.length * 1048577 ≤ 4611686018427387904 → (∀ x ∈ z, x.f0.length ≤ 1048576) → Ev (fun k => laws_heldItemS.l0 k (p ++ markZ z a) a (p.length : Int)) (endZ z a) := by
  intro z
  induction z with
  | nil => intro p a _ _ _ _; exact Ev.step (fun k => laws_heldItemS.l0.eq_2 ..) (ev_neg (by simp [markZ]) (ev_now (by simp [endZ])))
  | cons x z ih =>
    intro p a h0 hl h1 hr
    have hx := hr x List.mem_cons_self
    simp only [List.length_append, List.length_cons] at hl h1
    rw [markZ]
    refine Ev.step (fun k => laws_heldItemS.l0.eq_2 ..) (ev_pos (by simp; omega) (ev_pos (by omega) ?_))
    rw [rd_mid]
    refine (heldInts_ev x.f0.length a h0 (by omega)).bind (ev_neg (by omega) (ev_pos rfl ?_))
    rw [w64 (x := a + x.f0.length + 1) (by omega) (by omega), w64n (by omega)]
    have := ih (p ++ [⟨marked a x.f0.length, a + x.f0.length⟩]) (a + x.f0.length + 1) (by omega) (by simp; omega) (by omega) (fun y hy => hr y (List.mem_cons_of_mem _ hy))
    rw [show ((p ++ [(⟨marked a x.f0.length, a + x.f0.length⟩ : S31)]).length : Int) = ((p.length + 1 : Nat) : Int) by simp] at this
    rw [endZ, show p ++ (⟨marked a x.f0.length, a + x.f0.length⟩ : S31) :: markZ z (a + x.f0.length + 1) = (p ++ [⟨marked a x.f0.length, a + x.f0.length⟩]) ++ markZ z (a + x.f0.length + 1) by simp]
    exact this
theorem markItems_ev (z : List S31) (hs : Small z) (a : Int) (h0 : 0 ≤ a) (h1 : a ≤ 1000000000000000) : Ev (fun k => laws_markItemS.f k z a) (endZ z a, markZ z a) := by
  have := hs.len
  have h := markItems_go z [] a h0 (by simpa using this) (by omega) hs.row
  simpa [laws_markItemS.f] using h
theorem heldItems_ev (z : List S31) (hs : Small z) (a : Int) (h0 : 0 ≤ a) (h1 : a ≤ 1000000000000000) : Ev (fun k => laws_heldItemS.f k (markZ z a) a) (endZ z a) := by
  have := hs.len
  have h := heldItems_go z [] a h0 (by simpa using this) (by omega) hs.row
  simpa [laws_heldItemS.f] using h
theorem small_nil : Small ([] : List S31) := ⟨by simp, by simp⟩

theorem FnExactJoinOf : laws_FnExactJoinOf.Pure := by
  intro a b x y ⟨ha, ha'⟩ ⟨hb, hb'⟩ _ _
  refine Ev.rounds ?_
  unfold laws_FnExactJoinOf.f
  obtain ⟨r, hr, hr1, hr2⟩ := szItems_ev a 1048576 ha (fun x hx => (ha' x hx).1.1) (by omega) (by omega)
  refine hr.bind ?_
  by_cases h1 : r < 0
  · exact ev_pos h1 (ev_now rfl)
  refine ev_neg h1 ?_
  obtain ⟨s, hs, hs1, hs2⟩ := szItems_ev b r hb (fun x hx => (hb' x hx).1.1) (by omega) (by omega)
  refine hs.bind ?_
  by_cases h2 : s < 0
  · exact ev_pos h2 (ev_now rfl)
  refine ev_neg h2 ?_
  have sa := hr2 (by omega)
  have sb := hs2 (by omega)
  have ta := toItemS_ev a sa
  have tb := toItemS_ev b sb
  have sp := specJoinOf_ev x y _ _ sa sb
  have im := implJoinOf_ev x y _ _ sa sb
  have sg : Small (joinZ x y (a.map toI) (b.map toI)).1 := by
    unfold joinZ
    split
    · next h => exact pairs_small (okZ_jn h.1) (okZ_jn h.2.1)
    · exact small_nil
  generalize joinZ x y (a.map toI) (b.map toI) = g at sp im sg
  obtain ⟨g, t⟩ := g
  dsimp only at sg
  have eg := eqItemS_ev g g sg
  have ex := eqItemS_ev _ (a.map toI) sa
  have ey := eqItemS_ev _ (b.map toI) sb
  have gx := endZ_ge (a.map toI) 1
  have lx := endZ_le (a.map toI) 1 sa.row
  have la := sa.len
  have mx := markItems_ev _ sa 1 (by omega) (by omega)
  have my := markItems_ev _ sb (endZ (a.map toI) 1) (by omega) (by omega)
  have gy := endZ_ge (b.map toI) (endZ (a.map toI) 1)
  have mg := markItems_ev g sg 1 (by omega) (by omega)
  have hg := heldItems_ev g sg 1 (by omega) (by omega)
  have gg := endZ_ge g 1
  exact ta.bind (tb.bind (sp.bind (ta.bind (tb.bind (im.bind (eg.bind (ev_pos (by simp) (ev_pos rfl (ta.bind (ex.bind (ev_pos (by simp) (tb.bind (ey.bind (ev_pos (by simp) (mx.bind (my.bind (ev_neg (by omega) (eg.bind (ev_pos (by simp) (ev_pos rfl (mg.bind (hg.bind (ev_neg (by omega) (ev_pos rfl (ta.bind (tb.bind (im.bind (eg.bind (ev_pos (by simp) (ev_pos rfl (hg.bind (ev_neg (by omega) (ev_pos rfl (ev_now rfl))))))))))))))))))))))))))))))))))

end Go.Proofs.YtlknceioincaeaaDoor.Pure
