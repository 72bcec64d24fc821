/- Over whatever list of items the program's ZNeg and the reference's tell the same; the result is new memory (it stays when the argument is written, and the other way round), and a second call tells the same: the law answers true. No condition beyond what the statement gives. -/
import Derived.Test.YtpbmabfodfcfmaaPFnExactZNegx8
import Derived.Test.YtpbmabfodfcfmaaQ
namespace Go.Proofs.Ytpbmabfodfcfmaa.Pure
open Go.RowKit Go.Proofs.Ytpbmabfodfcfmaa.PFnExactZNeg Go.Proofs.YtpbmabfodfcfmaaW.PrintWords Go.Proofs.YtpbmabfodfcfmaaW.PrintLast Go.Proofs.YtpbmabfodfcfmaaW.PrintMore Go.Proofs.Ytpbmabfodfcfmaa.Q

theorem ext_item {x y : S68} (h0 : x.f0 = y.f0) (h1 : x.f1 = y.f1) : x = y := by cases x; cases y; simp_all
instance decItem : DecidableEq S68 := fun x y => decidable_of_iff (x.f0 = y.f0 ∧ x.f1 = y.f1) ⟨fun h => ext_item h.1 h.2, fun h => by rw [h]; exact ⟨rfl, rfl⟩⟩
theorem item_iff (a b : List Int) (v u : Int) : (⟨a, v⟩ : S68) = ⟨b, u⟩ ↔ (a = b ∧ v = u) := ⟨fun h => by injection h with h1 h2; exact ⟨h1, h2⟩, fun h => by rw [h.1, h.2]⟩
theorem dec_cons {x y : S68} {s u : List S68} (h : x = y) : decide (x :: s = y :: u) = decide (s = u) := by subst h; rw [decide_eq_decide]; simp
theorem dec_cons_ne {x y : S68} {s u : List S68} (h : ¬ x = y) : decide (x :: s = y :: u) = false := by rw [decide_eq_false_iff_not]; intro e; injection e with e1 e2; exact h e1
theorem rdI_at (l : List S68) (i : Nat) (h : i < l.length) : rd_T68 l (i : Int) = l[i] := by
  show l.getD _ _ = _
  rw [Int.toNat_natCast, List.getD_eq_getElem?_getD, List.getElem?_eq_getElem h]; rfl
theorem drop_at {α : Type} (l : List α) (i : Nat) (h : i < l.length) : l.drop i = l[i] :: l.drop (i + 1) := List.drop_eq_getElem_cons h
/-- items no longer than so, their rows too -/
structure Small (l : List S68) : Prop where
  len : l.length ≤ 1048576
  row : ∀ x ∈ l, x.f0.length ≤ 1048576

/-- the law's item, as the program's -/
def toI (x : S78) : S68 := ⟨x.f0, x.f1⟩
theorem rdL_at (l : List S78) (i : Nat) (h : i < l.length) : rd_T78 l (i : Int) = l[i] := by
  show l.getD _ _ = _
  rw [Int.toNat_natCast, List.getD_eq_getElem?_getD, List.getElem?_eq_getElem h]; rfl
theorem szInts (l : List Int) (a : Int) (hl : l.length ≤ maxLen) (ha : 0 ≤ a) (ha1 : a ≤ 1048576) : ∃ r, laws_szIntS.f l a = some r ∧ r ≤ a ∧ (0 ≤ r → (l.length : Int) ≤ a) := by
  have hm : maxLen = 9223372036854775807 := rfl
  unfold laws_szIntS.f
  rw [w64 (by omega) (by omega)]
  by_cases h : a - (l.length : Int) < 0
  · rw [if_pos h]; exact ⟨-1, rfl, by omega, by omega⟩
  · rw [if_neg h]; exact ⟨_, rfl, by omega, by omega⟩
theorem szItem (l : List Int) (v a : Int) (hl : l.length ≤ maxLen) (ha : 0 ≤ a) (ha1 : a ≤ 1048576) : ∃ r, laws_szItem.f l v a = some r ∧ r ≤ a ∧ (0 ≤ r → (l.length : Int) ≤ a) := by
  obtain ⟨r, hr, h1, h2⟩ := szInts l a hl ha ha1
  unfold laws_szItem.f
  rw [hr]
  simp only [Option.bind_some]
  by_cases h : r < 0
  · rw [if_pos h]; exact ⟨-1, rfl, by omega, by omega⟩
  · rw [if_neg h]; exact ⟨r, rfl, h1, h2⟩
theorem szItems_ev (l : List S78) (a : Int) (hl : l.length ≤ maxLen) (hr : ∀ x ∈ l, x.f0.length ≤ maxLen) (ha : 0 ≤ a) (ha1 : a ≤ 1048576) :
    ∃ r, Ev (fun k => laws_szItemS.f k l a) r ∧ r ≤ a ∧ (0 ≤ r → Small (l.map toI)) := by
  have hm : maxLen = 9223372036854775807 := rfl
  unfold laws_szItemS.f
  rw [w64 (by omega) (by omega)]
  by_cases h : a - (l.length : Int) < 0
  · exact ⟨-1, ev_pos h (ev_now rfl), by omega, by omega⟩
  have go : ∀ (d i : Nat) (b : Int), i + d = l.length → 0 ≤ b → b ≤ a → ∃ r, Ev (fun k => laws_szItemS.l0 k l b (i : Int)) r ∧ r ≤ b ∧ (0 ≤ r → ∀ x ∈ l.drop i, x.f0.length ≤ 1048576) := by
    intro d
    induction d with
    | zero =>
      intro i b hi hb _
      exact ⟨b, Ev.step (fun k => laws_szItemS.l0.eq_2 ..) (ev_neg (by omega) (ev_now rfl)), by omega, fun _ => by rw [drop_end l i (by omega)]; simp⟩
    | succ d ih =>
      intro i b hi hb hba
      have hil : i < l.length := by omega
      obtain ⟨c, hc, hc1, hc2⟩ := szItem l[i].f0 l[i].f1 b (hr _ (List.getElem_mem _)) hb (by omega)
      have hc' : laws_szItem.f (rd_T78 l (i : Int)).f0 (rd_T78 l (i : Int)).f1 b = some c := by rw [rdL_at l i hil]; exact hc
      by_cases hn : c < 0
      · exact ⟨-1, Ev.step (fun k => laws_szItemS.l0.eq_2 ..) (ev_pos (by omega) (ev_pos (by omega) (ev_eq hc' (ev_pos hn (ev_now rfl))))), by omega, by omega⟩
      · obtain ⟨r, hr1, hr2, hr3⟩ := ih (i + 1) c (by omega) (by omega) (by omega)
        refine ⟨r, Ev.step (fun k => laws_szItemS.l0.eq_2 ..) (ev_pos (by omega) (ev_pos (by omega) (ev_eq hc' (ev_neg hn ?_)))), by omega, fun h0 x hx => ?_⟩
        · rw [w64n (by omega)]; exact hr1
        · rw [drop_at l i hil] at hx
          rcases List.mem_cons.1 hx with h1 | h1
          · subst h1; have := hc2 (by omega); omega
          · exact hr3 h0 x h1
  obtain ⟨r, h1, h2, h3⟩ := go l.length 0 (a - l.length) (by omega) (by omega) (by omega)
  refine ⟨r, ev_neg h h1, by omega, fun h0 => ⟨by simp; omega, fun x hx => ?_⟩⟩
  obtain ⟨y, hy, rfl⟩ := List.mem_map.1 hx
  exact h3 h0 y (by simpa using hy)

theorem toIntS_ev (l : List Int) (hl : l.length ≤ 35184372088832) : Ev (fun k => laws_toIntS.f k l) l := by
  have h := ev_down (fun k i => laws_toIntS.l0 k l (l.take i ++ List.replicate (l.length - i) 0) (i : Int)) (fun _ => l) l.length ?_ ?_ 0 (by omega)
  · unfold laws_toIntS.f
    refine ev_pos (by omega) (ev_pos (by omega) ?_)
    simpa using h
  · refine Ev.step (fun k => laws_toIntS.l0.eq_2 ..) (ev_neg (by omega) (ev_now (by simp)))
  · intro i hi ih
    refine Ev.step (fun k => laws_toIntS.l0.eq_2 ..) (ev_pos (by omega) (ev_pos (by omega) (ev_pos (by simp; omega) ?_)))
    rw [w64n (by omega)]
    have : (l.take i ++ List.replicate (l.length - i) 0).set (i : Int).toNat (rd l (i : Int)) = l.take (i + 1) ++ List.replicate (l.length - (i + 1)) 0 := by
      obtain ⟨d, hd⟩ : ∃ d, l.length - i = d + 1 := ⟨l.length - i - 1, by omega⟩
      have h2 : l.length - (i + 1) = d := by omega
      rw [hd, h2, List.replicate_succ, Int.toNat_natCast, List.set_append_right _ _ (by simp; omega), List.length_take, Nat.min_eq_left (by omega), Nat.sub_self, List.set_cons_zero,
        List.take_succ_eq_append_getElem hi, rd_nat, List.getD_eq_getElem?_getD, List.getElem?_eq_getElem hi, List.append_assoc]
      rfl
    rw [this]
    exact ih

theorem toItem_ev (l : List Int) (v : Int) (hl : l.length ≤ 1048576) : Ev (fun k => laws_toItem.f k l v) (l, v) := by
  unfold laws_toItem.f
  exact (toIntS_ev l (by omega)).bind (ev_now rfl)
theorem toItemS_ev (l : List S78) (hs : Small (l.map toI)) : Ev (fun k => laws_toItemS.f k l) (l.map toI) := by
  have hl : l.length ≤ 1048576 := by simpa using hs.len
  have h := ev_down (fun k i => laws_toItemS.l0 k l ((l.take i).map toI ++ List.replicate (l.length - i) z68) (i : Int)) (fun _ => l.map toI) l.length ?_ ?_ 0 (by omega)
  · unfold laws_toItemS.f
    refine ev_pos (by omega) (ev_pos (by omega) ?_)
    simpa using h
  · refine Ev.step (fun k => laws_toItemS.l0.eq_2 ..) (ev_neg (by omega) (ev_now (by simp)))
  · intro i hi ih
    have ht := toItem_ev l[i].f0 l[i].f1 (by have := hs.row (toI l[i]) (List.mem_map_of_mem (List.getElem_mem _)); exact this)
    refine Ev.step (fun k => laws_toItemS.l0.eq_2 ..) (ev_pos (by omega) (ev_pos (by omega) ?_))
    rw [rdL_at l i hi]
    refine ht.bind (ev_pos (by simp; omega) ?_)
    rw [w64n (by omega)]
    have : ((l.take i).map toI ++ List.replicate (l.length - i) z68).set (i : Int).toNat (⟨l[i].f0, l[i].f1⟩ : S68) = (l.take (i + 1)).map toI ++ List.replicate (l.length - (i + 1)) z68 := by
      obtain ⟨d, hd⟩ : ∃ d, l.length - i = d + 1 := ⟨l.length - i - 1, by omega⟩
      have h2 : l.length - (i + 1) = d := by omega
      rw [hd, h2, List.replicate_succ, Int.toNat_natCast, List.set_append_right _ _ (by simp; omega), List.length_map, List.length_take, Nat.min_eq_left (by omega), Nat.sub_self, List.set_cons_zero,
        List.take_succ_eq_append_getElem hi, List.map_append, List.append_assoc]
      rfl
    rw [this]
    exact ih

theorem eqIntS_ev (a b : List Int) (ha : a.length < 4611686018427387904) : Ev (fun k => laws_eqIntS.f k a b) (decide (a = b)) := by
  unfold laws_eqIntS.f
  by_cases hl : a.length = b.length
  · refine ev_pos (by omega) ?_
    have h := ev_down (fun k i => laws_eqIntS.l0 k a b (i : Int)) (fun i => decide (a.drop i = b.drop i)) a.length ?_ ?_ 0 (by omega)
    · simpa using h
    · refine Ev.step (fun k => laws_eqIntS.l0.eq_2 ..) (ev_neg (by omega) (ev_now ?_))
      rw [drop_end a _ (Nat.le_refl _), drop_end b _ (by omega)]; simp
    · intro i hi ih
      refine Ev.step (fun k => laws_eqIntS.l0.eq_2 ..) (ev_pos (by omega) (ev_pos (by omega) (ev_pos (by omega) ?_)))
      rw [drop_rd a i hi, drop_rd b i (by omega)]
      by_cases h1 : rd a i = rd b i
      · refine ev_pos h1 ?_
        rw [w64n (by omega)]
        simpa [h1] using ih
      · exact ev_neg h1 (ev_now (by simp [h1]))
  · exact ev_neg (by omega) (ev_now (by symm; rw [decide_eq_false_iff_not]; intro h; exact hl (by rw [h])))

theorem eqItem_ev (x y : S68) (ha : x.f0.length ≤ 1048576) : Ev (fun k => laws_eqItem.f k x.f0 x.f1 y.f0 y.f1) (decide (x = y)) := by
  unfold laws_eqItem.f
  refine (eqIntS_ev x.f0 y.f0 (by omega)).bind ?_
  by_cases h : x.f0 = y.f0
  · refine ev_pos (decide_eq_true h) ?_
    by_cases h1 : x.f1 = y.f1
    · exact ev_pos h1 (ev_now (decide_eq_true (ext_item h h1)).symm)
    · exact ev_neg h1 (ev_now (decide_eq_false (fun e => h1 (by rw [e]))).symm)
  · exact ev_neg (by simp [h]) (ev_now (decide_eq_false (fun e => h (by rw [e]))).symm)
theorem eqItemS_ev (a b : List S68) (hs : Small a) : Ev (fun k => laws_eqItemS.f k a b) (decide (a = b)) := by
  have ha := hs.len
  unfold laws_eqItemS.f
  by_cases hl : a.length = b.length
  · refine ev_pos (by omega) ?_
    have h := ev_down (fun k i => laws_eqItemS.l0 k a b (i : Int)) (fun i => decide (a.drop i = b.drop i)) a.length ?_ ?_ 0 (by omega)
    · simpa using h
    · refine Ev.step (fun k => laws_eqItemS.l0.eq_2 ..) (ev_neg (by omega) (ev_now ?_))
      rw [drop_end a _ (Nat.le_refl _), drop_end b _ (by omega)]; simp
    · intro i hi ih
      have he := eqItem_ev a[i] b[i] (hs.row _ (List.getElem_mem _))
      refine Ev.step (fun k => laws_eqItemS.l0.eq_2 ..) (ev_pos (by omega) (ev_pos (by omega) (ev_pos (by omega) ?_)))
      rw [rdI_at a i hi, rdI_at b i (by omega)]
      refine he.bind ?_
      rw [drop_at a i hi, drop_at b i (by omega)]
      by_cases h1 : a[i] = b[i]
      · refine ev_pos (decide_eq_true h1) ?_
        rw [w64n (by omega), dec_cons h1]
        exact ih
      · exact ev_neg (by rw [decide_eq_true_iff]; exact h1) (ev_now (dec_cons_ne h1).symm)
  · exact ev_neg (by omega) (ev_now (by symm; rw [decide_eq_false_iff_not]; intro h; exact hl (by rw [h])))

/-- RowOk -/
def cellB (n : Int) : Bool := decide (-1000000000 ≤ n ∧ n ≤ 1000000000)
def okRow (r : List Int) : Bool := decide (1 ≤ r.length) && decide (r.length ≤ 6) && r.all cellB
theorem specCell (n : Int) : spec_l1Cell.f n = some (cellB n) := by
  unfold spec_l1Cell.f cellB
  by_cases h : n ≥ -1000000000
  · rw [if_pos h]; simp; omega
  · rw [if_neg h]; simp; omega

/-- l1Order -/
def ordL : List Int → List Int → Int → Int
  | [], _, d => d
  | _ :: _, [], d => d
  | a :: x, b :: y, d => if a < b then -1 else if b < a then 1 else ordL x y d

theorem ordL_zero : ∀ a b : List Int, ordL a b ((a.length : Int) - b.length) = 0 ↔ a = b := by
  have go : ∀ (a b : List Int) (d : Int), d = (a.length : Int) - b.length → (ordL a b d = 0 ↔ a = b) := by
    intro a
    induction a with
    | nil => intro b d hd; cases b <;> simp [ordL] at hd ⊢ <;> omega
    | cons x a ih =>
      intro b d hd
      cases b with
      | nil => simp [ordL] at hd ⊢; omega
      | cons y b =>
        have := ih b d (by simp at hd; omega)
        simp only [ordL]
        by_cases h1 : x < y
        · rw [if_pos h1]; simp; omega
        · rw [if_neg h1]
          by_cases h2 : y < x
          · rw [if_pos h2]; simp; omega
          · rw [if_neg h2, this]
            obtain rfl : x = y := by omega
            simp
  exact fun a b => go a b _ rfl

/-- slices.Compare -/
def lexc : List Int → List Int → Int
  | [], [] => 0
  | [], _ :: _ => -1
  | _ :: _, [] => 1
  | a :: x, b :: y => if a < b then -1 else if b < a then 1 else lexc x y
theorem lexc_ordL : ∀ a b : List Int, (ordL a b ((a.length : Int) - b.length) < 0 ↔ lexc a b < 0) := by
  have go : ∀ (a b : List Int) (d : Int), d = (a.length : Int) - b.length → (ordL a b d < 0 ↔ lexc a b < 0) := by
    intro a
    induction a with
    | nil => intro b d hd; cases b <;> simp [ordL, lexc] at hd ⊢ <;> omega
    | cons x a ih =>
      intro b d hd
      cases b with
      | nil => simp [ordL, lexc] at hd ⊢; omega
      | cons y b =>
        have := ih b d (by simp at hd; omega)
        simp only [ordL, lexc]
        by_cases h1 : x < y
        · rw [if_pos h1, if_pos h1]
        · rw [if_neg h1, if_neg h1]
          by_cases h2 : y < x
          · rw [if_pos h2, if_pos h2]
          · rw [if_neg h2, if_neg h2, this]
  exact fun a b => go a b _ rfl

def okW (w : Int) : Bool := decide (w ≠ 0) && (decide (-10000 ≤ w) && decide (w ≤ 10000))
/-- items in order, behind a row -/
def chain : Option (List Int) → List S68 → Bool
  | _, [] => true
  | p, x :: z => okRow x.f0 && (okW x.f1 && ((match p with | none => true | some r => decide (lexc r x.f0 < 0)) && chain (some x.f0) z))
theorem chain_nil (p : Option (List Int)) : chain p [] = true := by cases p <;> rfl
theorem chain_cons (p : Option (List Int)) (x : S68) (z : List S68) : chain p (x :: z) = (okRow x.f0 && (okW x.f1 && ((match p with | none => true | some r => decide (lexc r x.f0 < 0)) && chain (some x.f0) z))) := by cases p <;> rfl
def okZ (z : List S68) : Bool := decide (z.length ≤ 100) && chain none z
/-- the row ahead of a place -/
def ahead (z : List S68) (i : Nat) : Option (List Int) := if i = 0 then none else (z[i - 1]?).map (·.f0)
theorem ahead_succ (z : List S68) (i : Nat) (h : i < z.length) : ahead z (i + 1) = some z[i].f0 := by
  unfold ahead
  rw [if_neg (by omega), Nat.add_sub_cancel, List.getElem?_eq_getElem h]
  rfl

theorem implCell (n : Int) : impl_isCell.f n = some (cellB n) := by
  unfold impl_isCell.f cellB
  by_cases h : n ≥ -1000000000
  · rw [if_pos h]; simp; omega
  · rw [if_neg h]; simp; omega
theorem implIndex_ev (r : List Int) (hr : r.length < 4611686018427387904) : ∃ j : Int, Ev (fun k => slices_IndexFunc_int_int__impl_RowOk_1.f k r) j ∧ (decide (j ≥ 0) = !r.all cellB) := by
  have h : ∀ i, i ≤ r.length → ∃ j : Int, Ev (fun k => slices_IndexFunc_int_int__impl_RowOk_1.l0 k r (r.length : Int) (i : Int)) j ∧ (decide (j ≥ 0) = !(r.drop i).all cellB) := by
    have go : ∀ d i, i + d = r.length → ∃ j : Int, Ev (fun k => slices_IndexFunc_int_int__impl_RowOk_1.l0 k r (r.length : Int) (i : Int)) j ∧ (decide (j ≥ 0) = !(r.drop i).all cellB) := by
      intro d
      induction d with
      | zero =>
        intro i h
        refine ⟨-1, Ev.step (fun k => slices_IndexFunc_int_int__impl_RowOk_1.l0.eq_2 ..) (ev_neg (by omega) (ev_now rfl)), ?_⟩
        rw [drop_end r i (by omega)]; rfl
      | succ d ih =>
        intro i h
        obtain ⟨j, hj, hk⟩ := ih (i + 1) (by omega)
        have e1 : impl_RowOk_1.f (rd r i) = some (!cellB (rd r i)) := by unfold impl_RowOk_1.f; rw [implCell]; rfl
        rw [drop_rd r i (by omega), List.all_cons]
        cases hc : cellB (rd r i) with
        | true =>
          refine ⟨j, Ev.step (fun k => slices_IndexFunc_int_int__impl_RowOk_1.l0.eq_2 ..) (ev_pos (by omega) (ev_pos (by omega) (ev_pos (by omega) (ev_eq e1 (ev_neg (by rw [hc]; decide) ?_))))), by simpa using hk⟩
          rw [w64n (by omega)]
          exact hj
        | false =>
          refine ⟨(i : Int), Ev.step (fun k => slices_IndexFunc_int_int__impl_RowOk_1.l0.eq_2 ..) (ev_pos (by omega) (ev_pos (by omega) (ev_pos (by omega) (ev_eq e1 (ev_pos (by rw [hc]; rfl) (ev_now rfl)))))), ?_⟩
          simp
    exact fun i hi => go (r.length - i) i (by omega)
  obtain ⟨j, hj, hk⟩ := h 0 (by omega)
  exact ⟨j, by simpa [slices_IndexFunc_int_int__impl_RowOk_1.f] using hj, by simpa using hk⟩
theorem implRowOk_ev (r : List Int) (hr : r.length < 4611686018427387904) : Ev (fun k => impl_RowOk.f k r) (okRow r) := by
  obtain ⟨j, hj, hk⟩ := implIndex_ev r hr
  have hc : Ev (fun k => slices_ContainsFunc_int_int__impl_RowOk_1.f k r) (!r.all cellB) := by
    unfold slices_ContainsFunc_int_int__impl_RowOk_1.f
    exact hj.bind (ev_now hk)
  unfold impl_RowOk.f okRow
  by_cases h1 : 1 ≤ r.length
  · refine ev_pos (by omega) ?_
    by_cases h2 : r.length ≤ 6
    · exact ev_pos (by omega) (hc.bind (ev_now (by simp [h1, h2])))
    · exact ev_neg (by omega) (ev_now (by simp [h2]))
  · exact ev_neg (by omega) (ev_now (by simp [h1]))

theorem cmpInt (a b : Int) : cmp_Compare_int.f a b = some (if a < b then -1 else if b < a then 1 else 0) := by
  unfold cmp_Compare_int.f cmp_isNaN_int.f
  simp only [bne_self_eq_false, Option.bind_some, Bool.false_eq_true, if_false]
  by_cases h1 : a < b
  · rw [if_pos h1, if_pos h1]
  · rw [if_neg h1, if_neg h1]
    by_cases h2 : b < a
    · rw [if_pos h2, if_pos h2]
    · rw [if_neg h2, if_neg h2]
theorem compare_ev (a b : List Int) (ha : a.length < 4611686018427387904) : Ev (fun k => slices_Compare_int_int.f k a b) (lexc a b) := by
  unfold slices_Compare_int_int.f
  have h := ev_down (fun k i => slices_Compare_int_int.l0 k a b a (a.length : Int) (i : Int)) (fun i => lexc (a.drop i) (b.drop i)) (min a.length b.length) ?_ ?_ 0 (by omega)
  · simpa using h
  · by_cases hb : a.length ≤ b.length
    · rw [Nat.min_eq_left hb]
      refine Ev.step (fun k => slices_Compare_int_int.l0.eq_2 ..) (ev_neg (by omega) ?_)
      rw [drop_end a _ (Nat.le_refl _)]
      by_cases h1 : a.length < b.length
      · refine ev_pos (by omega) (ev_now ?_)
        rw [drop_rd b _ h1]; rfl
      · refine ev_neg (by omega) (ev_now ?_)
        rw [drop_end b _ (by omega)]; rfl
    · rw [Nat.min_eq_right (by omega)]
      refine Ev.step (fun k => slices_Compare_int_int.l0.eq_2 ..) (ev_pos (by omega) (ev_pos (by omega) (ev_pos (by omega) (ev_pos (by omega) (ev_now ?_)))))
      rw [drop_end b _ (Nat.le_refl _), drop_rd a _ (by omega)]; rfl
  · intro i hi ih
    have h1 : i < a.length := by omega
    have h2 : i < b.length := by omega
    refine Ev.step (fun k => slices_Compare_int_int.l0.eq_2 ..) (ev_pos (by omega) (ev_pos (by omega) (ev_pos (by omega) (ev_neg (by omega) (ev_pos (by omega) (ev_eq (cmpInt _ _) ?_))))))
    rw [drop_rd a i h1, drop_rd b i h2]
    simp only [lexc]
    by_cases c1 : rd a i < rd b i
    · rw [if_pos c1]
      exact ev_neg (by decide) (ev_now (by rw [if_pos c1]))
    · rw [if_neg c1, if_neg c1]
      by_cases c2 : rd b i < rd a i
      · rw [if_pos c2]
        exact ev_neg (by decide) (ev_now (by rw [if_pos c2]))
      · rw [if_neg c2, if_neg c2]
        refine ev_pos rfl ?_
        rw [w64n (by omega)]
        exact ih

theorem implLess_ev (a b : List Int) (ha : a.length < 4611686018427387904) : Ev (fun k => impl_RowLess.f k a b) (decide (lexc a b < 0)) := by
  unfold impl_RowLess.f
  exact (compare_ev a b ha).bind (ev_now rfl)

theorem implZOk_ev (z : List S68) (hs : Small z) : Ev (fun k => impl_ZOk.f k z) (okZ z) := by
  have hz := hs.len
  unfold impl_ZOk.f okZ
  by_cases hl : (z.length : Int) > 100
  · exact ev_pos hl (ev_now (by rw [decide_eq_false (by omega)]; rfl))
  refine ev_neg hl ?_
  rw [decide_eq_true (by omega : z.length ≤ 100), Bool.true_and]
  have h := ev_down (fun k i => impl_ZOk.l0 k z z (z.length : Int) (i : Int)) (fun i => chain (ahead z i) (z.drop i)) z.length ?_ ?_ 0 (by omega)
  · simpa [ahead] using h
  · refine Ev.step (fun k => impl_ZOk.l0.eq_2 ..) (ev_neg (by omega) (ev_now ?_))
    rw [drop_end z _ (Nat.le_refl _), chain_nil]
  · intro i hi ih
    have hr := hs.row _ (List.getElem_mem hi)
    refine Ev.step (fun k => impl_ZOk.l0.eq_2 ..) (ev_pos (by omega) (ev_pos (by omega) (ev_pos (by omega) ?_)))
    rw [rdI_at z i hi, drop_at z i hi, chain_cons]
    refine (implRowOk_ev z[i].f0 (by omega)).bind ?_
    cases hok : okRow z[i].f0 with
    | false => exact ev_neg (by simp) (ev_now (by simp))
    | true =>
      refine ev_pos rfl ?_
      by_cases w1 : z[i].f1 < -10000
      · exact ev_pos w1 (ev_now (by unfold okW; simp; omega))
      refine ev_neg w1 ?_
      by_cases w2 : z[i].f1 > 10000
      · exact ev_pos w2 (ev_now (by unfold okW; simp; omega))
      refine ev_neg w2 ?_
      by_cases w3 : z[i].f1 = 0
      · exact ev_pos w3 (ev_now (by unfold okW; simp [w3]))
      refine ev_neg w3 ?_
      have hw : okW z[i].f1 = true := by unfold okW; simp [w3]; omega
      rw [hw]
      rw [w64n (by omega)]
      rw [ahead_succ z i hi] at ih
      by_cases h0 : (i : Int) > 0
      · have hi1 : i - 1 < z.length := by omega
        have e : wrap64 ((i : Int) - 1) = ((i - 1 : Nat) : Int) := by rw [w64 (by omega) (by omega)]; omega
        have ha : ahead z i = some z[i - 1].f0 := by unfold ahead; rw [if_neg (by omega), List.getElem?_eq_getElem hi1]; rfl
        have hr1 := hs.row _ (List.getElem_mem hi1)
        rw [e]
        refine ev_pos h0 (ev_pos (by omega) (ev_pos (by omega) ?_))
        rw [rdI_at z (i - 1) hi1, ha]
        refine (implLess_ev z[i - 1].f0 z[i].f0 (by omega)).bind ?_
        by_cases hl : lexc z[i - 1].f0 z[i].f0 < 0
        · refine ev_pos (decide_eq_true hl) ?_
          simpa [hl] using ih
        · exact ev_neg (by simpa using hl) (ev_now (by simp [hl]))
      · have ha : ahead z i = none := by unfold ahead; rw [if_pos (by omega)]
        rw [ha]
        refine ev_neg h0 ?_
        simpa using ih

theorem clone_some (l : List Int) (h : l.length ≤ 1048576) : slices_Clone_int_int.f l = some l := by unfold slices_Clone_int_int.f; rw [if_pos (by omega)]
theorem copyItems_ev (z : List S68) (hs : Small z) : Ev (fun k => impl_copyItems.f k z) z := by
  have hz := hs.len
  have h := ev_down (fun k i => impl_copyItems.l0 k (z.take i) z (z.length : Int) (i : Int)) (fun _ => z) z.length ?_ ?_ 0 (by omega)
  · simpa [impl_copyItems.f] using h
  · exact Ev.step (fun k => impl_copyItems.l0.eq_2 ..) (ev_neg (by omega) (ev_now (by rw [List.take_length])))
  · intro i hi ih
    have hr := hs.row _ (List.getElem_mem hi)
    refine Ev.step (fun k => impl_copyItems.l0.eq_2 ..) (ev_pos (by omega) (ev_pos (by omega) (ev_pos (by omega) ?_)))
    rw [rdI_at z i hi]
    refine ev_eq (clone_some _ hr) (ev_pos (by simp; omega) ?_)
    rw [w64n (by omega)]
    rw [List.take_succ_eq_append_getElem hi] at ih
    exact ih

theorem okZ_w {z : List S68} (h : okZ z = true) : ∀ x ∈ z, -10000 ≤ x.f1 ∧ x.f1 ≤ 10000 ∧ x.f1 ≠ 0 := by
  intro x hx
  unfold okZ at h
  simp only [Bool.and_eq_true, decide_eq_true_iff] at h
  have go : ∀ (z : List S68) (p : Option (List Int)), chain p z = true → ∀ x ∈ z, okW x.f1 = true := by
    intro z
    induction z with
    | nil => intro p _ x hx; cases hx
    | cons y z ih =>
      intro p h x hx
      rw [chain_cons] at h
      simp only [Bool.and_eq_true] at h
      rcases List.mem_cons.1 hx with e | e
      · subst e; exact h.2.1
      · exact ih _ h.2.2.2 x e
  have := go z none h.2 x hx
  unfold okW at this
  simp at this
  omega

/-- a loop over items that appends to what it makes -/
def negL (z : List S68) : List S68 := z.map (fun x => ⟨x.f0, -x.f1⟩)
theorem take_map_succ {α β : Type} (f : α → β) (l : List α) (i : Nat) (h : i < l.length) : (l.take (i + 1)).map f = (l.take i).map f ++ [f l[i]] := by
  rw [List.take_succ_eq_append_getElem h, List.map_append]; rfl
theorem turned_ev (z : List S68) (hs : Small z) (hw : ∀ x ∈ z, -1000000000000000 ≤ x.f1 ∧ x.f1 ≤ 1000000000000000) : Ev (fun k => impl_turned.f k z) (negL z) := by
  have hz := hs.len
  have h := ev_down (fun k i => impl_turned.l0 k ((z.take i).map (fun x => (⟨x.f0, -x.f1⟩ : S68))) z (z.length : Int) (i : Int)) (fun _ => negL z) z.length ?_ ?_ 0 (by omega)
  · simpa [impl_turned.f] using h
  · exact Ev.step (fun k => impl_turned.l0.eq_2 ..) (ev_neg (by omega) (ev_now (by rw [List.take_length]; rfl)))
  · intro i hi ih
    have hwx := hw _ (List.getElem_mem hi)
    refine Ev.step (fun k => impl_turned.l0.eq_2 ..) (ev_pos (by omega) (ev_pos (by omega) (ev_pos (by omega) (ev_pos (by simp; omega) ?_))))
    rw [rdI_at z i hi, w64 (x := -z[i].f1) (by omega) (by omega), w64n (by omega)]
    rw [take_map_succ _ z i hi] at ih
    exact ih
theorem negL_small {z : List S68} (hs : Small z) : Small (negL z) := ⟨by simpa [negL] using hs.len, fun x hx => by
  obtain ⟨y, hy, rfl⟩ := List.mem_map.1 hx
  exact hs.row y hy⟩
theorem implZNeg_ev (z : List S68) (hs : Small z) : Ev (fun k => impl_ZNeg.f k z) (if okZ z = true then negL z else []) := by
  unfold impl_ZNeg.f
  refine (implZOk_ev z hs).bind ?_
  by_cases h : okZ z = true
  · rw [if_pos h]
    exact ev_pos h ((turned_ev z hs (fun x hx => by have := okZ_w h x hx; omega)).bind (copyItems_ev _ (negL_small hs)))
  · rw [if_neg h]
    exact ev_neg h (ev_now rfl)

theorem specRowOk_ev (r : List Int) (hr : r.length < 4611686018427387904) : Ev (fun k => spec_RowOk.f k r) (okRow r) := by
  have h := ev_down (fun k i => spec_RowOk.l0 k r (i : Int)) (fun i => (decide (1 ≤ r.length) && decide (r.length ≤ 6)) && (r.drop i).all cellB) r.length ?_ ?_ 0 (by omega)
  · simpa [spec_RowOk.f, okRow] using h
  · refine Ev.step (fun k => spec_RowOk.l0.eq_2 ..) (ev_neg (by omega) ?_)
    rw [drop_end r _ (Nat.le_refl _)]
    by_cases h : 1 ≤ r.length
    · exact ev_pos (by omega) (ev_now (by simp [h]; omega))
    · exact ev_neg (by omega) (ev_now (by simp [h]))
  · intro i hi ih
    refine Ev.step (fun k => spec_RowOk.l0.eq_2 ..) (ev_pos (by omega) (ev_pos (by omega) (ev_eq (specCell _) ?_)))
    rw [drop_rd r i hi, List.all_cons]
    cases hc : cellB (rd r i) with
    | true =>
      refine ev_pos rfl ?_
      rw [w64n (by omega), Bool.true_and]
      exact ih
    | false => exact ev_neg (by decide) (ev_now (by simp))

theorem l1Order_ev (a b : List Int) (ha : a.length < 4611686018427387904) (hb : b.length < 4611686018427387904) : Ev (fun k => spec_l1Order.f k a b) (ordL a b ((a.length : Int) - b.length)) := by
  have h := ev_down (fun k i => spec_l1Order.l0 k a b (i : Int)) (fun i => ordL (a.drop i) (b.drop i) ((a.length : Int) - b.length)) a.length ?_ ?_ 0 (by omega)
  · simpa [spec_l1Order.f] using h
  · refine Ev.step (fun k => spec_l1Order.l0.eq_2 ..) (ev_neg (by omega) (ev_now ?_))
    rw [drop_end a _ (Nat.le_refl _), ordL, w64 (by omega) (by omega)]
  · intro i hi ih
    refine Ev.step (fun k => spec_l1Order.l0.eq_2 ..) (ev_pos (by omega) ?_)
    by_cases hb' : i < b.length
    · rw [drop_rd a i hi, drop_rd b i hb']
      refine ev_pos (by omega) (ev_pos (by omega) ?_)
      by_cases h1 : rd a i < rd b i
      · exact ev_pos h1 (ev_now (by rw [ordL, if_pos h1]))
      · refine ev_neg h1 ?_
        by_cases h2 : rd a i > rd b i
        · exact ev_pos h2 (ev_now (by rw [ordL, if_neg h1, if_pos h2]))
        · refine ev_neg h2 ?_
          rw [w64n (by omega), ordL, if_neg h1, if_neg h2]
          exact ih
    · refine ev_neg (by omega) (ev_now ?_)
      rw [drop_end b i (by omega), w64 (by omega) (by omega)]
      cases a.drop i <;> rfl

theorem specLess_ev (a b : List Int) (ha : a.length < 4611686018427387904) (hb : b.length < 4611686018427387904) : Ev (fun k => spec_RowLess.f k a b) (decide (lexc a b < 0)) := by
  unfold spec_RowLess.f
  refine (l1Order_ev a b ha hb).bind (ev_now ?_)
  rw [decide_eq_decide]
  exact lexc_ordL a b

theorem specW (w : Int) : spec_l2W.f w = some (okW w) := by
  unfold spec_l2W.f okW
  by_cases h : w = 0
  · rw [if_pos h]; simp [h]
  · rw [if_neg h]
    by_cases h1 : w ≥ -10000
    · rw [if_pos h1]; simp [h]; omega
    · rw [if_neg h1]; simp; omega
theorem specZOk_ev (z : List S68) (hs : Small z) : Ev (fun k => spec_ZOk.f k z) (okZ z) := by
  have hz := hs.len
  unfold spec_ZOk.f okZ
  by_cases hl : (z.length : Int) > 100
  · exact ev_pos hl (ev_now (by rw [decide_eq_false (by omega)]; rfl))
  refine ev_neg hl ?_
  rw [decide_eq_true (by omega : z.length ≤ 100), Bool.true_and]
  have h := ev_down (fun k i => spec_ZOk.l0 k z (i : Int)) (fun i => chain (ahead z i) (z.drop i)) z.length ?_ ?_ 0 (by omega)
  · simpa [ahead] using h
  · refine Ev.step (fun k => spec_ZOk.l0.eq_2 ..) (ev_neg (by omega) (ev_now ?_))
    rw [drop_end z _ (Nat.le_refl _), chain_nil]
  · intro i hi ih
    have hr := hs.row _ (List.getElem_mem hi)
    refine Ev.step (fun k => spec_ZOk.l0.eq_2 ..) (ev_pos (by omega) (ev_pos (by omega) ?_))
    rw [rdI_at z i hi, drop_at z i hi, chain_cons]
    refine (specRowOk_ev z[i].f0 (by omega)).bind ?_
    cases hok : okRow z[i].f0 with
    | false => exact ev_neg (by simp) (ev_now (by simp))
    | true =>
      refine ev_pos rfl (ev_eq (specW _) ?_)
      cases hw : okW z[i].f1 with
      | false => exact ev_neg (by simp) (ev_now (by simp))
      | true =>
        refine ev_pos rfl ?_
        rw [w64n (by omega)]
        rw [ahead_succ z i hi] at ih
        by_cases h0 : (i : Int) > 0
        · have hi1 : i - 1 < z.length := by omega
          have e : wrap64 ((i : Int) - 1) = ((i - 1 : Nat) : Int) := by rw [w64 (by omega) (by omega)]; omega
          have ha : ahead z i = some z[i - 1].f0 := by unfold ahead; rw [if_neg (by omega), List.getElem?_eq_getElem hi1]; rfl
          have hr1 := hs.row _ (List.getElem_mem hi1)
          rw [e]
          refine ev_pos h0 (ev_pos (by omega) (ev_pos (by omega) ?_))
          rw [rdI_at z (i - 1) hi1, ha]
          refine (specLess_ev z[i - 1].f0 z[i].f0 (by omega) (by omega)).bind ?_
          by_cases hl : lexc z[i - 1].f0 z[i].f0 < 0
          · refine ev_pos (decide_eq_true hl) ?_
            simpa [hl] using ih
          · exact ev_neg (by simpa using hl) (ev_now (by simp [hl]))
        · have ha : ahead z i = none := by unfold ahead; rw [if_pos (by omega)]
          rw [ha]
          refine ev_neg h0 ?_
          simpa using ih

theorem specCopy (a : List Int) (ha : a.length < 17592186044416) : spec_l1Copy.f a = some a := by
  unfold spec_l1Copy.f
  simp only [Option.bind_some]
  rw [if_pos (by simp; omega)]
  simp

theorem specZNeg_ev (z : List S68) (hs : Small z) : Ev (fun k => spec_ZNeg.f k z) (if okZ z = true then negL z else []) := by
  have hz := hs.len
  have ok := specZOk_ev z hs
  by_cases h : okZ z = true
  · rw [if_pos h]
    have hw := okZ_w h
    have g := ev_down (fun k i => spec_ZNeg.l0 k z ((z.take i).map (fun x => (⟨x.f0, -x.f1⟩ : S68))) (i : Int)) (fun _ => negL z) z.length ?_ ?_ 0 (by omega)
    · simpa [spec_ZNeg.f] using g
    · exact Ev.step (fun k => spec_ZNeg.l0.eq_2 ..) (ev_neg (by omega) (ev_now (by rw [List.take_length]; rfl)))
    · intro i hi ih
      have hwx := hw _ (List.getElem_mem hi)
      have hr := hs.row _ (List.getElem_mem hi)
      refine Ev.step (fun k => spec_ZNeg.l0.eq_2 ..) (ev_pos (by omega) (ok.bind (ev_pos h (ev_pos (by omega) ?_))))
      rw [rdI_at z i hi]
      refine ev_eq (specCopy _ (by omega)) (ev_pos (by simp; omega) ?_)
      rw [w64 (x := -z[i].f1) (by omega) (by omega), w64n (by omega)]
      rw [take_map_succ _ z i hi] at ih
      exact ih
  · rw [if_neg h]
    unfold spec_ZNeg.f
    by_cases h0 : z.length = 0
    · exact Ev.step (fun k => spec_ZNeg.l0.eq_2 ..) (ev_neg (by omega) (ev_now rfl))
    · exact Ev.step (fun k => spec_ZNeg.l0.eq_2 ..) (ev_pos (by omega) (ok.bind (ev_neg h (ev_now rfl))))

/-- numbers counted up from k -/
def marked (k : Int) : Nat → List Int
  | 0 => []
  | n + 1 => k :: marked (k + 1) n
theorem marked_length : ∀ (n : Nat) (k : Int), (marked k n).length = n
  | 0, _ => rfl
  | n + 1, k => by rw [marked, List.length_cons, marked_length n]
theorem marked_snoc : ∀ (n : Nat) (k : Int), marked k (n + 1) = marked k n ++ [k + n]
  | 0, k => by simp [marked]
  | n + 1, k => by
    rw [marked, marked_snoc n (k + 1), marked, List.cons_append]
    congr 2
    simp; omega
theorem markInts_ev (l : List Int) (k0 : Int) (h0 : 0 ≤ k0) (h1 : k0 + l.length ≤ 4611686018427387904) : Ev (fun k => laws_markIntS.f k l k0) (k0 + l.length, marked k0 l.length) := by
  unfold laws_markIntS.f
  have h := ev_down (fun k i => laws_markIntS.l0 k (marked k0 i ++ l.drop i) (k0 + i) (i : Int)) (fun _ => (k0 + l.length, marked k0 l.length)) l.length ?_ ?_ 0 (by omega)
  · simpa [marked] using h
  · refine Ev.step (fun k => laws_markIntS.l0.eq_2 ..) (ev_neg (by simp [marked_length]) (ev_now ?_))
    rw [drop_end l _ (Nat.le_refl _), List.append_nil]
  · intro i hi ih
    refine Ev.step (fun k => laws_markIntS.l0.eq_2 ..) (ev_pos (by simp [marked_length]; omega) (ev_pos (by omega) ?_))
    rw [w64n (by omega), w64 (by omega) (by omega), drop_rd l i hi, Int.toNat_natCast, List.set_append_right _ _ (by rw [marked_length]; omega), marked_length, Nat.sub_self, List.set_cons_zero]
    have e : marked k0 i ++ (k0 + (i : Int)) :: l.drop (i + 1) = marked k0 (i + 1) ++ l.drop (i + 1) := by rw [marked_snoc, List.append_assoc]; rfl
    have e2 : k0 + (i : Int) + 1 = k0 + ((i + 1 : Nat) : Int) := by omega
    rw [e, e2]
    exact ih
theorem rd_marked : ∀ (n i : Nat) (k : Int), i < n → rd (marked k n) (i : Int) = k + i := by
  intro n
  induction n with
  | zero => intro i k h; omega
  | succ n ih =>
    intro i k h
    cases i with
    | zero => show k = k + ((0 : Nat) : Int); omega
    | succ i =>
      have := ih i (k + 1) (by omega)
      rw [rd_nat] at this ⊢
      rw [marked, List.getD_cons_succ, this]
      omega
theorem heldInts_ev (n : Nat) (k0 : Int) (h0 : 0 ≤ k0) (h1 : k0 + n ≤ 4611686018427387904) : Ev (fun k => laws_heldIntS.f k (marked k0 n) k0) (k0 + n) := by
  unfold laws_heldIntS.f
  have h := ev_down (fun k i => laws_heldIntS.l0 k (marked k0 n) (k0 + i) (i : Int)) (fun _ => k0 + n) n ?_ ?_ 0 (by omega)
  · simpa using h
  · exact Ev.step (fun k => laws_heldIntS.l0.eq_2 ..) (ev_neg (by simp [marked_length]) (ev_now rfl))
  · intro i hi ih
    refine Ev.step (fun k => laws_heldIntS.l0.eq_2 ..) (ev_pos (by simp [marked_length]; omega) (ev_pos (by omega) (ev_pos (rd_marked n i k0 hi) ?_)))
    have e2 : k0 + (i : Int) + 1 = k0 + ((i + 1 : Nat) : Int) := by omega
    rw [w64n (by omega), w64 (by omega) (by omega), e2]
    exact ih

def markZ : List S68 → Int → List S68
  | [], _ => []
  | x :: z, k => ⟨marked k x.f0.length, k + x.f0.length⟩ :: markZ z (k + x.f0.length + 1)
def endZ : List S68 → Int → Int
  | [], k => k
  | x :: z, k => endZ z (k + x.f0.length + 1)
theorem endZ_ge : ∀ (z : List S68) (k : Int), k ≤ endZ z k := by
  intro z
  induction z with
  | nil => intro k; exact Int.le_refl _
  | cons x z ih => intro k; have := ih (k + x.f0.length + 1); unfold endZ; omega
theorem endZ_le : ∀ (z : List S68) (k : Int), (∀ x ∈ z, x.f0.length ≤ 1048576) → endZ z k ≤ k + z.length * 1048577 := by
  intro z
  induction z with
  | nil => intro k _; simp [endZ]
  | cons x z ih =>
    intro k h
    have hx := h x List.mem_cons_self
    have := ih (k + x.f0.length + 1) (fun y hy => h y (List.mem_cons_of_mem _ hy))
    unfold endZ
    simp only [List.length_cons]
    omega
theorem set_mid {α : Type} (p : List α) (x y : α) (z : List α) : (p ++ x :: z).set p.length y = (p ++ [y]) ++ z := by
  rw [List.set_append_right _ _ (Nat.le_refl _), Nat.sub_self, List.set_cons_zero, List.append_assoc]; rfl
theorem rd_mid (p : List S68) (x : S68) (z : List S68) : rd_T68 (p ++ x :: z) (p.length : Int) = x := by
  rw [rdI_at _ p.length (by simp)]; simp
theorem markItems_go : ∀ (z p : List S68) (a : Int), 0 ≤ a → (p ++ z).length ≤ 1048576 → a + z.length * 1048577 ≤ 4611686018427387904 → (∀ x ∈ z, x.f0.length ≤ 1048576) → Ev (fun k => laws_markItemS.l0 k (p ++ z) a (p.length : Int)) (endZ z a, p ++ markZ z a) := by
  intro z
  induction z with
  | nil => intro p a _ _ _ _; exact Ev.step (fun k => laws_markItemS.l0.eq_2 ..) (ev_neg (by simp) (ev_now (by simp [endZ, markZ])))
  | cons x z ih =>
    intro p a h0 hl h1 hr
    have hx := hr x List.mem_cons_self
    simp only [List.length_append, List.length_cons] at hl h1
    refine Ev.step (fun k => laws_markItemS.l0.eq_2 ..) (ev_pos (by simp; omega) (ev_pos (by omega) ?_))
    rw [rd_mid]
    refine (markInts_ev x.f0 a h0 (by omega)).bind ?_
    dsimp only
    rw [Int.toNat_natCast, set_mid, w64 (x := a + x.f0.length + 1) (by omega) (by omega), w64n (by omega)]
    have := ih (p ++ [⟨marked a x.f0.length, a + x.f0.length⟩]) (a + x.f0.length + 1) (by omega) (by simp; omega) (by omega) (fun y hy => hr y (List.mem_cons_of_mem _ hy))
    rw [show ((p ++ [(⟨marked a x.f0.length, a + x.f0.length⟩ : S68)]).length : Int) = ((p.length + 1 : Nat) : Int) by simp] at this
    rw [endZ, markZ, show p ++ (⟨marked a x.f0.length, a + x.f0.length⟩ : S68) :: markZ z (a + x.f0.length + 1) = (p ++ [⟨marked a x.f0.length, a + x.f0.length⟩]) ++ markZ z (a + x.f0.length + 1) by simp]
    exact this
theorem heldItems_go : ∀ (z p : List S68) (a : Int), 0 ≤ a → (p ++ z).length ≤ 1048576 → a + z.length * 1048577 ≤ 4611686018427387904 → (∀ x ∈ z, x.f0.length ≤ 1048576) → Ev (fun k => laws_heldItemS.l0 k (p ++ markZ z a) a (p.length : Int)) (endZ z a) := by
  intro z
  induction z with
  | nil => intro p a _ _ _ _; exact Ev.step (fun k => laws_heldItemS.l0.eq_2 ..) (ev_neg (by simp [markZ]) (ev_now (by simp [endZ])))
  | cons x z ih =>
    intro p a h0 hl h1 hr
    have hx := hr x List.mem_cons_self
    simp only [List.length_append, List.length_cons] at hl h1
    rw [markZ]
    refine Ev.step (fun k => laws_heldItemS.l0.eq_2 ..) (ev_pos (by simp; omega) (ev_pos (by omega) ?_))
    rw [rd_mid]
    refine (heldInts_ev x.f0.length a h0 (by omega)).bind (ev_neg (by omega) (ev_pos rfl ?_))
    rw [w64 (x := a + x.f0.length + 1) (by omega) (by omega), w64n (by omega)]
    have := ih (p ++ [⟨marked a x.f0.length, a + x.f0.length⟩]) (a + x.f0.length + 1) (by omega) (by simp; omega) (by omega) (fun y hy => hr y (List.mem_cons_of_mem _ hy))
    rw [show ((p ++ [(⟨marked a x.f0.length, a + x.f0.length⟩ : S68)]).length : Int) = ((p.length + 1 : Nat) : Int) by simp] at this
    rw [endZ, show p ++ (⟨marked a x.f0.length, a + x.f0.length⟩ : S68) :: markZ z (a + x.f0.length + 1) = (p ++ [⟨marked a x.f0.length, a + x.f0.length⟩]) ++ markZ z (a + x.f0.length + 1) by simp]
    exact this
theorem markItems_ev (z : List S68) (hs : Small z) (a : Int) (h0 : 0 ≤ a) (h1 : a ≤ 1000000000000000) : Ev (fun k => laws_markItemS.f k z a) (endZ z a, markZ z a) := by
  have := hs.len
  have h := markItems_go z [] a h0 (by simpa using this) (by omega) hs.row
  simpa [laws_markItemS.f] using h
theorem heldItems_ev (z : List S68) (hs : Small z) (a : Int) (h0 : 0 ≤ a) (h1 : a ≤ 1000000000000000) : Ev (fun k => laws_heldItemS.f k (markZ z a) a) (endZ z a) := by
  have := hs.len
  have h := heldItems_go z [] a h0 (by simpa using this) (by omega) hs.row
  simpa [laws_heldItemS.f] using h
theorem small_nil : Small ([] : List S68) := ⟨by simp, by simp⟩

theorem FnExactZNeg : laws_FnExactZNeg.Pure := by
  intro a ⟨ha, ha'⟩
  refine Ev.rounds ?_
  unfold laws_FnExactZNeg.f
  obtain ⟨r, hr, hr1, hr2⟩ := szItems_ev a 1048576 ha (fun x hx => (ha' x hx).1.1) (by omega) (by omega)
  refine hr.bind ?_
  by_cases h1 : r < 0
  · exact ev_pos h1 (ev_now rfl)
  refine ev_neg h1 ?_
  have sa := hr2 (by omega)
  have ta := toItemS_ev a sa
  have sp := specZNeg_ev _ sa
  have im := implZNeg_ev _ sa
  have sg : Small (if okZ (a.map toI) = true then negL (a.map toI) else []) := by
    split
    · exact negL_small sa
    · exact small_nil
  generalize (if okZ (a.map toI) = true then negL (a.map toI) else []) = g at sp im sg
  have eg := eqItemS_ev g g sg
  have ex := eqItemS_ev _ (a.map toI) sa
  have mx := markItems_ev _ sa 1 (by omega) (by omega)
  have mg := markItems_ev g sg 1 (by omega) (by omega)
  have hg := heldItems_ev g sg 1 (by omega) (by omega)
  have gx := endZ_ge (a.map toI) 1
  have gg := endZ_ge g 1
  exact ta.bind (sp.bind (ta.bind (im.bind (eg.bind (ev_pos (by simp) (ta.bind (ex.bind (ev_pos (by simp) (mx.bind (ev_neg (by omega) (eg.bind (ev_pos (by simp) (mg.bind (hg.bind (ev_neg (by omega) (ev_pos rfl (ta.bind (im.bind (eg.bind (ev_pos (by simp) (hg.bind (ev_neg (by omega) (ev_pos rfl (ev_now rfl))))))))))))))))))))))))

end Go.Proofs.Ytpbmabfodfcfmaa.Pure
