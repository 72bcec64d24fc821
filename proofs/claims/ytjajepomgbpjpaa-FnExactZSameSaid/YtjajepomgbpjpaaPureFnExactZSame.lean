/- Over whatever two lists of items, the program's ZSame and the reference's tell the same, and leave them as they were: the law answers true. No condition beyond what the statement gives. -/
import Derived.Test.YtjajepomgbpjpaaPFnExactZSamex3
import Derived.Test.YtjajepomgbpjpaaQ
namespace Go.Proofs.Ytjajepomgbpjpaa.Pure
open Go.RowKit Go.Proofs.Ytjajepomgbpjpaa.PFnExactZSame Go.Proofs.YtjajepomgbpjpaaW.PrintWords Go.Proofs.YtjajepomgbpjpaaW.PrintLast Go.Proofs.YtjajepomgbpjpaaW.PrintMore Go.Proofs.Ytjajepomgbpjpaa.Q

/-- the law's item, as the program's -/
def toI (x : S68) : S69 := ⟨x.f0, x.f1⟩
theorem ext_item {x y : S69} (h0 : x.f0 = y.f0) (h1 : x.f1 = y.f1) : x = y := by cases x; cases y; simp_all
instance decItem : DecidableEq S69 := fun x y => decidable_of_iff (x.f0 = y.f0 ∧ x.f1 = y.f1) ⟨fun h => ext_item h.1 h.2, fun h => by rw [h]; exact ⟨rfl, rfl⟩⟩
theorem item_iff (a b : List Int) (v u : Int) : (⟨a, v⟩ : S69) = ⟨b, u⟩ ↔ (a = b ∧ v = u) := ⟨fun h => by injection h with h1 h2; exact ⟨h1, h2⟩, fun h => by rw [h.1, h.2]⟩
theorem dec_cons {x y : S69} {s u : List S69} (h : x = y) : decide (x :: s = y :: u) = decide (s = u) := by subst h; rw [decide_eq_decide]; simp
theorem dec_cons_ne {x y : S69} {s u : List S69} (h : ¬ x = y) : decide (x :: s = y :: u) = false := by rw [decide_eq_false_iff_not]; intro e; injection e with e1 e2; exact h e1
theorem rdL_at (l : List S68) (i : Nat) (h : i < l.length) : rd_T68 l (i : Int) = l[i] := by
  show l.getD _ _ = _
  rw [Int.toNat_natCast, List.getD_eq_getElem?_getD, List.getElem?_eq_getElem h]; rfl
theorem rdI_at (l : List S69) (i : Nat) (h : i < l.length) : rd_T69 l (i : Int) = l[i] := by
  show l.getD _ _ = _
  rw [Int.toNat_natCast, List.getD_eq_getElem?_getD, List.getElem?_eq_getElem h]; rfl
theorem drop_at {α : Type} (l : List α) (i : Nat) (h : i < l.length) : l.drop i = l[i] :: l.drop (i + 1) := List.drop_eq_getElem_cons h
theorem szInts (l : List Int) (a : Int) (hl : l.length ≤ maxLen) (ha : 0 ≤ a) (ha1 : a ≤ 1048576) : ∃ r, laws_szIntS.f l a = some r ∧ r ≤ a ∧ (0 ≤ r → (l.length : Int) ≤ a) := by
  have hm : maxLen = 9223372036854775807 := rfl
  unfold laws_szIntS.f
  rw [w64 (by omega) (by omega)]
  by_cases h : a - (l.length : Int) < 0
  · rw [if_pos h]; exact ⟨-1, rfl, by omega, by omega⟩
  · rw [if_neg h]; exact ⟨_, rfl, by omega, by omega⟩
theorem szItem (l : List Int) (v a : Int) (hl : l.length ≤ maxLen) (ha : 0 ≤ a) (ha1 : a ≤ 1048576) : ∃ r, laws_szItem.f l v a = some r ∧ r ≤ a ∧ (0 ≤ r → (l.length : Int) ≤ a) := by
  obtain ⟨r, hr, h1, h2⟩ := szInts l a hl ha ha1
  unfold laws_szItem.f
  rw [hr]
  simp only [Option.bind_some]
  by_cases h : r < 0
  · rw [if_pos h]; exact ⟨-1, rfl, by omega, by omega⟩
  · rw [if_neg h]; exact ⟨r, rfl, h1, h2⟩
/-- items no longer than so, their rows too -/
structure Small (l : List S69) : Prop where
  len : l.length ≤ 1048576
  row : ∀ x ∈ l, x.f0.length ≤ 1048576
theorem szItems_ev (l : List S68) (a : Int) (hl : l.length ≤ maxLen) (hr : ∀ x ∈ l, x.f0.length ≤ maxLen) (ha : 0 ≤ a) (ha1 : a ≤ 1048576) :
    ∃ r, Ev (fun k => laws_szItemS.f k l a) r ∧ r ≤ a ∧ (0 ≤ r → Small (l.map toI)) := by
  have hm : maxLen = 9223372036854775807 := rfl
  unfold laws_szItemS.f
  rw [w64 (by omega) (by omega)]
  by_cases h : a - (l.length : Int) < 0
  · exact ⟨-1, ev_pos h (ev_now rfl), by omega, by omega⟩
  have go : ∀ (d i : Nat) (b : Int), i + d = l.length → 0 ≤ b → b ≤ a → ∃ r, Ev (fun k => laws_szItemS.l0 k l b (i : Int)) r ∧ r ≤ b ∧ (0 ≤ r → ∀ x ∈ l.drop i, x.f0.length ≤ 1048576) := by
    intro d
    induction d with
    | zero =>
      intro i b hi hb _
      exact ⟨b, Ev.step (fun k => laws_szItemS.l0.eq_2 ..) (ev_neg (by omega) (ev_now rfl)), by omega, fun _ => by rw [drop_end l i (by omega)]; simp⟩
    | succ d ih =>
      intro i b hi hb hba
      have hil : i < l.length := by omega
      obtain ⟨c, hc, hc1, hc2⟩ := szItem l[i].f0 l[i].f1 b (hr _ (List.getElem_mem _)) hb (by omega)
      have hc' : laws_szItem.f (rd_T68 l (i : Int)).f0 (rd_T68 l (i : Int)).f1 b = some c := by rw [rdL_at l i hil]; exact hc
      by_cases hn : c < 0
      · exact ⟨-1, Ev.step (fun k => laws_szItemS.l0.eq_2 ..) (ev_pos (by omega) (ev_pos (by omega) (ev_eq hc' (ev_pos hn (ev_now rfl))))), by omega, by omega⟩
      · obtain ⟨r, hr1, hr2, hr3⟩ := ih (i + 1) c (by omega) (by omega) (by omega)
        refine ⟨r, Ev.step (fun k => laws_szItemS.l0.eq_2 ..) (ev_pos (by omega) (ev_pos (by omega) (ev_eq hc' (ev_neg hn ?_)))), by omega, fun h0 x hx => ?_⟩
        · rw [w64n (by omega)]; exact hr1
        · rw [drop_at l i hil] at hx
          rcases List.mem_cons.1 hx with h1 | h1
          · subst h1; have := hc2 (by omega); omega
          · exact hr3 h0 x h1
  obtain ⟨r, h1, h2, h3⟩ := go l.length 0 (a - l.length) (by omega) (by omega) (by omega)
  refine ⟨r, ev_neg h h1, by omega, fun h0 => ⟨by simp; omega, fun x hx => ?_⟩⟩
  obtain ⟨y, hy, rfl⟩ := List.mem_map.1 hx
  exact h3 h0 y (by simpa using hy)

theorem toIntS_ev (l : List Int) (hl : l.length ≤ 35184372088832) : Ev (fun k => laws_toIntS.f k l) l := by
  have h := ev_down (fun k i => laws_toIntS.l0 k l (l.take i ++ List.replicate (l.length - i) 0) (i : Int)) (fun _ => l) l.length ?_ ?_ 0 (by omega)
  · unfold laws_toIntS.f
    refine ev_pos (by omega) (ev_pos (by omega) ?_)
    simpa using h
  · refine Ev.step (fun k => laws_toIntS.l0.eq_2 ..) (ev_neg (by omega) (ev_now (by simp)))
  · intro i hi ih
    refine Ev.step (fun k => laws_toIntS.l0.eq_2 ..) (ev_pos (by omega) (ev_pos (by omega) (ev_pos (by simp; omega) ?_)))
    rw [w64n (by omega)]
    have : (l.take i ++ List.replicate (l.length - i) 0).set (i : Int).toNat (rd l (i : Int)) = l.take (i + 1) ++ List.replicate (l.length - (i + 1)) 0 := by
      obtain ⟨d, hd⟩ : ∃ d, l.length - i = d + 1 := ⟨l.length - i - 1, by omega⟩
      have h2 : l.length - (i + 1) = d := by omega
      rw [hd, h2, List.replicate_succ, Int.toNat_natCast, List.set_append_right _ _ (by simp; omega), List.length_take, Nat.min_eq_left (by omega), Nat.sub_self, List.set_cons_zero,
        List.take_succ_eq_append_getElem hi, rd_nat, List.getD_eq_getElem?_getD, List.getElem?_eq_getElem hi, List.append_assoc]
      rfl
    rw [this]
    exact ih

theorem toItem_ev (l : List Int) (v : Int) (hl : l.length ≤ 1048576) : Ev (fun k => laws_toItem.f k l v) (l, v) := by
  unfold laws_toItem.f
  exact (toIntS_ev l (by omega)).bind (ev_now rfl)
theorem toItemS_ev (l : List S68) (hs : Small (l.map toI)) : Ev (fun k => laws_toItemS.f k l) (l.map toI) := by
  have hl : l.length ≤ 1048576 := by simpa using hs.len
  have h := ev_down (fun k i => laws_toItemS.l0 k l ((l.take i).map toI ++ List.replicate (l.length - i) z69) (i : Int)) (fun _ => l.map toI) l.length ?_ ?_ 0 (by omega)
  · unfold laws_toItemS.f
    refine ev_pos (by omega) (ev_pos (by omega) ?_)
    simpa using h
  · refine Ev.step (fun k => laws_toItemS.l0.eq_2 ..) (ev_neg (by omega) (ev_now (by simp)))
  · intro i hi ih
    have ht := toItem_ev l[i].f0 l[i].f1 (by have := hs.row (toI l[i]) (List.mem_map_of_mem (List.getElem_mem _)); exact this)
    refine Ev.step (fun k => laws_toItemS.l0.eq_2 ..) (ev_pos (by omega) (ev_pos (by omega) ?_))
    rw [rdL_at l i hi]
    refine ht.bind (ev_pos (by simp; omega) ?_)
    rw [w64n (by omega)]
    have : ((l.take i).map toI ++ List.replicate (l.length - i) z69).set (i : Int).toNat (⟨l[i].f0, l[i].f1⟩ : S69) = (l.take (i + 1)).map toI ++ List.replicate (l.length - (i + 1)) z69 := by
      obtain ⟨d, hd⟩ : ∃ d, l.length - i = d + 1 := ⟨l.length - i - 1, by omega⟩
      have h2 : l.length - (i + 1) = d := by omega
      rw [hd, h2, List.replicate_succ, Int.toNat_natCast, List.set_append_right _ _ (by simp; omega), List.length_map, List.length_take, Nat.min_eq_left (by omega), Nat.sub_self, List.set_cons_zero,
        List.take_succ_eq_append_getElem hi, List.map_append, List.append_assoc]
      rfl
    rw [this]
    exact ih

theorem eqIntS_ev (a b : List Int) (ha : a.length < 4611686018427387904) : Ev (fun k => laws_eqIntS.f k a b) (decide (a = b)) := by
  unfold laws_eqIntS.f
  by_cases hl : a.length = b.length
  · refine ev_pos (by omega) ?_
    have h := ev_down (fun k i => laws_eqIntS.l0 k a b (i : Int)) (fun i => decide (a.drop i = b.drop i)) a.length ?_ ?_ 0 (by omega)
    · simpa using h
    · refine Ev.step (fun k => laws_eqIntS.l0.eq_2 ..) (ev_neg (by omega) (ev_now ?_))
      rw [drop_end a _ (Nat.le_refl _), drop_end b _ (by omega)]; simp
    · intro i hi ih
      refine Ev.step (fun k => laws_eqIntS.l0.eq_2 ..) (ev_pos (by omega) (ev_pos (by omega) (ev_pos (by omega) ?_)))
      rw [drop_rd a i hi, drop_rd b i (by omega)]
      by_cases h1 : rd a i = rd b i
      · refine ev_pos h1 ?_
        rw [w64n (by omega)]
        simpa [h1] using ih
      · exact ev_neg h1 (ev_now (by simp [h1]))
  · exact ev_neg (by omega) (ev_now (by symm; rw [decide_eq_false_iff_not]; intro h; exact hl (by rw [h])))

theorem eqItem_ev (x y : S69) (ha : x.f0.length ≤ 1048576) : Ev (fun k => laws_eqItem.f k x.f0 x.f1 y.f0 y.f1) (decide (x = y)) := by
  unfold laws_eqItem.f
  refine (eqIntS_ev x.f0 y.f0 (by omega)).bind ?_
  by_cases h : x.f0 = y.f0
  · refine ev_pos (decide_eq_true h) ?_
    by_cases h1 : x.f1 = y.f1
    · exact ev_pos h1 (ev_now (decide_eq_true (ext_item h h1)).symm)
    · exact ev_neg h1 (ev_now (decide_eq_false (fun e => h1 (by rw [e]))).symm)
  · exact ev_neg (by simp [h]) (ev_now (decide_eq_false (fun e => h (by rw [e]))).symm)
theorem eqItemS_ev (a b : List S69) (hs : Small a) : Ev (fun k => laws_eqItemS.f k a b) (decide (a = b)) := by
  have ha := hs.len
  unfold laws_eqItemS.f
  by_cases hl : a.length = b.length
  · refine ev_pos (by omega) ?_
    have h := ev_down (fun k i => laws_eqItemS.l0 k a b (i : Int)) (fun i => decide (a.drop i = b.drop i)) a.length ?_ ?_ 0 (by omega)
    · simpa using h
    · refine Ev.step (fun k => laws_eqItemS.l0.eq_2 ..) (ev_neg (by omega) (ev_now ?_))
      rw [drop_end a _ (Nat.le_refl _), drop_end b _ (by omega)]; simp
    · intro i hi ih
      have he := eqItem_ev a[i] b[i] (hs.row _ (List.getElem_mem _))
      refine Ev.step (fun k => laws_eqItemS.l0.eq_2 ..) (ev_pos (by omega) (ev_pos (by omega) (ev_pos (by omega) ?_)))
      rw [rdI_at a i hi, rdI_at b i (by omega)]
      refine he.bind ?_
      rw [drop_at a i hi, drop_at b i (by omega)]
      by_cases h1 : a[i] = b[i]
      · refine ev_pos (decide_eq_true h1) ?_
        rw [w64n (by omega), dec_cons h1]
        exact ih
      · exact ev_neg (by rw [decide_eq_true_iff]; exact h1) (ev_now (dec_cons_ne h1).symm)
  · exact ev_neg (by omega) (ev_now (by symm; rw [decide_eq_false_iff_not]; intro h; exact hl (by rw [h])))

/-- l1Order -/
def ordL : List Int → List Int → Int → Int
  | [], _, d => d
  | _ :: _, [], d => d
  | a :: x, b :: y, d => if a < b then -1 else if b < a then 1 else ordL x y d

theorem ordL_zero : ∀ a b : List Int, ordL a b ((a.length : Int) - b.length) = 0 ↔ a = b := by
  have go : ∀ (a b : List Int) (d : Int), d = (a.length : Int) - b.length → (ordL a b d = 0 ↔ a = b) := by
    intro a
    induction a with
    | nil => intro b d hd; cases b <;> simp [ordL] at hd ⊢ <;> omega
    | cons x a ih =>
      intro b d hd
      cases b with
      | nil => simp [ordL] at hd ⊢; omega
      | cons y b =>
        have := ih b d (by simp at hd; omega)
        simp only [ordL]
        by_cases h1 : x < y
        · rw [if_pos h1]; simp; omega
        · rw [if_neg h1]
          by_cases h2 : y < x
          · rw [if_pos h2]; simp; omega
          · rw [if_neg h2, this]
            obtain rfl : x = y := by omega
            simp
  exact fun a b => go a b _ rfl

theorem l1Order_ev (a b : List Int) (ha : a.length < 4611686018427387904) (hb : b.length < 4611686018427387904) : Ev (fun k => spec_l1Order.f k a b) (ordL a b ((a.length : Int) - b.length)) := by
  have h := ev_down (fun k i => spec_l1Order.l0 k a b (i : Int)) (fun i => ordL (a.drop i) (b.drop i) ((a.length : Int) - b.length)) a.length ?_ ?_ 0 (by omega)
  · simpa [spec_l1Order.f] using h
  · refine Ev.step (fun k => spec_l1Order.l0.eq_2 ..) (ev_neg (by omega) (ev_now ?_))
    rw [drop_end a _ (Nat.le_refl _), ordL, w64 (by omega) (by omega)]
  · intro i hi ih
    refine Ev.step (fun k => spec_l1Order.l0.eq_2 ..) (ev_pos (by omega) ?_)
    by_cases hb' : i < b.length
    · rw [drop_rd a i hi, drop_rd b i hb']
      refine ev_pos (by omega) (ev_pos (by omega) ?_)
      by_cases h1 : rd a i < rd b i
      · exact ev_pos h1 (ev_now (by rw [ordL, if_pos h1]))
      · refine ev_neg h1 ?_
        by_cases h2 : rd a i > rd b i
        · exact ev_pos h2 (ev_now (by rw [ordL, if_neg h1, if_pos h2]))
        · refine ev_neg h2 ?_
          rw [w64n (by omega), ordL, if_neg h1, if_neg h2]
          exact ih
    · refine ev_neg (by omega) (ev_now ?_)
      rw [drop_end b i (by omega), w64 (by omega) (by omega)]
      cases a.drop i <;> rfl

theorem specSame_ev (a b : List Int) (ha : a.length < 4611686018427387904) (hb : b.length < 4611686018427387904) : Ev (fun k => spec_RowSame.f k a b) (decide (a = b)) := by
  unfold spec_RowSame.f
  refine (l1Order_ev a b ha hb).bind (ev_now ?_)
  rw [Bool.eq_iff_iff, beq_iff_eq, decide_eq_true_iff]
  exact ordL_zero a b

theorem specZSame_ev (a b : List S69) (hs : Small a) (hs' : Small b) : Ev (fun k => spec_ZSame.f k a b) (decide (a = b)) := by
  have ha := hs.len
  unfold spec_ZSame.f
  by_cases hl : a.length = b.length
  · refine ev_pos (by omega) ?_
    have h := ev_down (fun k i => spec_ZSame.l0 k a b (i : Int)) (fun i => decide (a.drop i = b.drop i)) a.length ?_ ?_ 0 (by omega)
    · simpa using h
    · refine Ev.step (fun k => spec_ZSame.l0.eq_2 ..) (ev_neg (by omega) (ev_now ?_))
      rw [drop_end a _ (Nat.le_refl _), drop_end b _ (by omega)]; simp
    · intro i hi ih
      refine Ev.step (fun k => spec_ZSame.l0.eq_2 ..) (ev_pos (by omega) (ev_pos (by omega) (ev_pos (by omega) ?_)))
      rw [rdI_at a i hi, rdI_at b i (by omega), drop_at a i hi, drop_at b i (by omega)]
      by_cases h0 : a[i].f1 = b[i].f1
      · refine ev_pos h0 ?_
        have he := specSame_ev a[i].f0 b[i].f0 (by have := hs.row _ (List.getElem_mem (h := hi)); omega) (by have := hs'.row _ (List.getElem_mem (h := (by omega : i < b.length))); omega)
        refine he.bind ?_
        by_cases h1 : a[i].f0 = b[i].f0
        · refine ev_pos (decide_eq_true h1) ?_
          rw [w64n (by omega), dec_cons (ext_item h1 h0)]
          exact ih
        · exact ev_neg (by rw [decide_eq_true_iff]; exact h1) (ev_now (dec_cons_ne (fun e => h1 (by rw [e]))).symm)
      · exact ev_neg h0 (ev_now (dec_cons_ne (fun e => h0 (by rw [e]))).symm)
  · exact ev_neg (by omega) (ev_now (by symm; rw [decide_eq_false_iff_not]; intro h; exact hl (by rw [h])))

theorem equal_ev (a b : List Int) (ha : a.length < 4611686018427387904) : Ev (fun k => slices_Equal_int_int.f k a b) (decide (a = b)) := by
  unfold slices_Equal_int_int.f
  by_cases hl : a.length = b.length
  · refine ev_pos (by omega) ?_
    have h := ev_down (fun k i => slices_Equal_int_int.l0 k a b (a.length : Int) (i : Int)) (fun i => decide (a.drop i = b.drop i)) a.length ?_ ?_ 0 (by omega)
    · simpa using h
    · refine Ev.step (fun k => slices_Equal_int_int.l0.eq_2 ..) (ev_neg (by omega) (ev_now ?_))
      rw [drop_end a _ (Nat.le_refl _), drop_end b _ (by omega)]; simp
    · intro i hi ih
      refine Ev.step (fun k => slices_Equal_int_int.l0.eq_2 ..) (ev_pos (by omega) (ev_pos (by omega) (ev_pos (by omega) (ev_pos (by omega) ?_))))
      rw [drop_rd a i hi, drop_rd b i (by omega)]
      by_cases h1 : rd a i = rd b i
      · refine ev_pos h1 ?_
        rw [w64n (by omega)]
        simpa [h1] using ih
      · exact ev_neg h1 (ev_now (by simp [h1]))
  · exact ev_neg (by omega) (ev_now (by symm; rw [decide_eq_false_iff_not]; intro h; exact hl (by rw [h])))

theorem implSame_ev (a b : List Int) (ha : a.length < 4611686018427387904) : Ev (fun k => impl_RowSame.f k a b) (decide (a = b)) := by
  unfold impl_RowSame.f
  exact (equal_ev a b ha).bind (ev_now rfl)

theorem sameItem_ev (x y : S69) (ha : x.f0.length ≤ 1048576) : Ev (fun k => impl_ZSame_1.f k x.f0 x.f1 y.f0 y.f1) (decide (x = y)) := by
  unfold impl_ZSame_1.f
  by_cases h1 : x.f1 = y.f1
  · refine ev_pos h1 ((implSame_ev x.f0 y.f0 (by omega)).bind (ev_now ?_))
    rw [decide_eq_decide]
    exact ⟨fun h => ext_item h h1, fun h => by rw [h]⟩
  · exact ev_neg h1 (ev_now (decide_eq_false (fun e => h1 (by rw [e]))).symm)
theorem implZSame_ev (a b : List S69) (hs : Small a) : Ev (fun k => impl_ZSame.f k a b) (decide (a = b)) := by
  have ha := hs.len
  have main : Ev (fun k => slices_EqualFunc_impl_Item_impl_Item_impl_Item_impl_Item__impl_ZSame_1.f k a b) (decide (a = b)) := by
    unfold slices_EqualFunc_impl_Item_impl_Item_impl_Item_impl_Item__impl_ZSame_1.f
    by_cases hl : a.length = b.length
    · refine ev_pos (by omega) ?_
      have h := ev_down (fun k i => slices_EqualFunc_impl_Item_impl_Item_impl_Item_impl_Item__impl_ZSame_1.l0 k b a (a.length : Int) (i : Int)) (fun i => decide (a.drop i = b.drop i)) a.length ?_ ?_ 0 (by omega)
      · simpa using h
      · refine Ev.step (fun k => slices_EqualFunc_impl_Item_impl_Item_impl_Item_impl_Item__impl_ZSame_1.l0.eq_2 ..) (ev_neg (by omega) (ev_now ?_))
        rw [drop_end a _ (Nat.le_refl _), drop_end b _ (by omega)]; simp
      · intro i hi ih
        have he := sameItem_ev a[i] b[i] (hs.row _ (List.getElem_mem _))
        refine Ev.step (fun k => slices_EqualFunc_impl_Item_impl_Item_impl_Item_impl_Item__impl_ZSame_1.l0.eq_2 ..) (ev_pos (by omega) (ev_pos (by omega) (ev_pos (by omega) (ev_pos (by omega) ?_))))
        rw [rdI_at a i hi, rdI_at b i (by omega)]
        refine he.bind ?_
        rw [drop_at a i hi, drop_at b i (by omega)]
        by_cases h1 : a[i] = b[i]
        · refine ev_pos (decide_eq_true h1) ?_
          rw [w64n (by omega), dec_cons h1]
          exact ih
        · exact ev_neg (by rw [decide_eq_true_iff]; exact h1) (ev_now (dec_cons_ne h1).symm)
    · exact ev_neg (by omega) (ev_now (by symm; rw [decide_eq_false_iff_not]; intro h; exact hl (by rw [h])))
  unfold impl_ZSame.f
  exact main.bind (ev_now rfl)

theorem FnExactZSame : laws_FnExactZSame.Pure := by
  intro a b ⟨ha, ha'⟩ ⟨hb, hb'⟩
  refine Ev.rounds ?_
  unfold laws_FnExactZSame.f
  obtain ⟨r, hr, hr1, hr2⟩ := szItems_ev a 1048576 ha (fun x hx => (ha' x hx).1.1) (by omega) (by omega)
  refine hr.bind ?_
  by_cases h1 : r < 0
  · exact ev_pos h1 (ev_now rfl)
  refine ev_neg h1 ?_
  obtain ⟨s, hs, hs1, hs2⟩ := szItems_ev b r hb (fun x hx => (hb' x hx).1.1) (by omega) (by omega)
  refine hs.bind ?_
  by_cases h2 : s < 0
  · exact ev_pos h2 (ev_now rfl)
  refine ev_neg h2 ?_
  have sa := hr2 (by omega)
  have sb := hs2 (by omega)
  have ta := toItemS_ev a sa
  have tb := toItemS_ev b sb
  refine ta.bind (tb.bind ((specZSame_ev _ _ sa sb).bind (ta.bind (tb.bind ((implZSame_ev _ _ sa).bind ?_)))))
  exact ev_neg (by simp) (ta.bind ((eqItemS_ev _ _ sa).bind (ev_pos (by simp) (tb.bind ((eqItemS_ev _ _ sb).bind (ev_pos (by simp) (ev_now rfl)))))))

end Go.Proofs.Ytjajepomgbpjpaa.Pure
