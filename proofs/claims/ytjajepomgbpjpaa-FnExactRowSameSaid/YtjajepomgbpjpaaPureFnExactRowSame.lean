/- Over whatever two lists of numbers, the program's RowSame and the reference's tell the same, and leave them as they were: the law answers true. No condition beyond what the statement gives (lengths, numbers of 64 bits). -/
import Derived.Test.YtjajepomgbpjpaaPFnExactRowSamex1
import Derived.Test.YtjajepomgbpjpaaQ
namespace Go.Proofs.Ytjajepomgbpjpaa.Pure
open Go.RowKit Go.Proofs.Ytjajepomgbpjpaa.PFnExactRowSame Go.Proofs.YtjajepomgbpjpaaW.PrintWords Go.Proofs.YtjajepomgbpjpaaW.PrintLast Go.Proofs.YtjajepomgbpjpaaW.PrintMore Go.Proofs.Ytjajepomgbpjpaa.Q

theorem toIntS_ev (l : List Int) (hl : l.length ≤ 35184372088832) : Ev (fun k => laws_toIntS.f k l) l := by
  have h := ev_down (fun k i => laws_toIntS.l0 k l (l.take i ++ List.replicate (l.length - i) 0) (i : Int)) (fun _ => l) l.length ?_ ?_ 0 (by omega)
  · unfold laws_toIntS.f
    refine ev_pos (by omega) (ev_pos (by omega) ?_)
    simpa using h
  · refine Ev.step (fun k => laws_toIntS.l0.eq_2 ..) (ev_neg (by omega) (ev_now (by simp)))
  · intro i hi ih
    refine Ev.step (fun k => laws_toIntS.l0.eq_2 ..) (ev_pos (by omega) (ev_pos (by omega) (ev_pos (by simp; omega) ?_)))
    rw [w64n (by omega)]
    have : (l.take i ++ List.replicate (l.length - i) 0).set (i : Int).toNat (rd l (i : Int)) = l.take (i + 1) ++ List.replicate (l.length - (i + 1)) 0 := by
      obtain ⟨d, hd⟩ : ∃ d, l.length - i = d + 1 := ⟨l.length - i - 1, by omega⟩
      have h2 : l.length - (i + 1) = d := by omega
      rw [hd, h2, List.replicate_succ, Int.toNat_natCast, List.set_append_right _ _ (by simp; omega), List.length_take, Nat.min_eq_left (by omega), Nat.sub_self, List.set_cons_zero,
        List.take_succ_eq_append_getElem hi, rd_nat, List.getD_eq_getElem?_getD, List.getElem?_eq_getElem hi, List.append_assoc]
      rfl
    rw [this]
    exact ih

theorem eqIntS_ev (a b : List Int) (ha : a.length < 4611686018427387904) : Ev (fun k => laws_eqIntS.f k a b) (decide (a = b)) := by
  unfold laws_eqIntS.f
  by_cases hl : a.length = b.length
  · refine ev_pos (by omega) ?_
    have h := ev_down (fun k i => laws_eqIntS.l0 k a b (i : Int)) (fun i => decide (a.drop i = b.drop i)) a.length ?_ ?_ 0 (by omega)
    · simpa using h
    · refine Ev.step (fun k => laws_eqIntS.l0.eq_2 ..) (ev_neg (by omega) (ev_now ?_))
      rw [drop_end a _ (Nat.le_refl _), drop_end b _ (by omega)]; simp
    · intro i hi ih
      refine Ev.step (fun k => laws_eqIntS.l0.eq_2 ..) (ev_pos (by omega) (ev_pos (by omega) (ev_pos (by omega) ?_)))
      rw [drop_rd a i hi, drop_rd b i (by omega)]
      by_cases h1 : rd a i = rd b i
      · refine ev_pos h1 ?_
        rw [w64n (by omega)]
        simpa [h1] using ih
      · exact ev_neg h1 (ev_now (by simp [h1]))
  · exact ev_neg (by omega) (ev_now (by symm; rw [decide_eq_false_iff_not]; intro h; exact hl (by rw [h])))

/-- l1Order -/
def ordL : List Int → List Int → Int → Int
  | [], _, d => d
  | _ :: _, [], d => d
  | a :: x, b :: y, d => if a < b then -1 else if b < a then 1 else ordL x y d

theorem ordL_zero : ∀ a b : List Int, ordL a b ((a.length : Int) - b.length) = 0 ↔ a = b := by
  have go : ∀ (a b : List Int) (d : Int), d = (a.length : Int) - b.length → (ordL a b d = 0 ↔ a = b) := by
    intro a
    induction a with
    | nil => intro b d hd; cases b <;> simp [ordL] at hd ⊢ <;> omega
    | cons x a ih =>
      intro b d hd
      cases b with
      | nil => simp [ordL] at hd ⊢; omega
      | cons y b =>
        have := ih b d (by simp at hd; omega)
        simp only [ordL]
        by_cases h1 : x < y
        · rw [if_pos h1]; simp; omega
        · rw [if_neg h1]
          by_cases h2 : y < x
          · rw [if_pos h2]; simp; omega
          · rw [if_neg h2, this]
            obtain rfl : x = y := by omega
            simp
  exact fun a b => go a b _ rfl

theorem l1Order_ev (a b : List Int) (ha : a.length < 4611686018427387904) (hb : b.length < 4611686018427387904) : Ev (fun k => spec_l1Order.f k a b) (ordL a b ((a.length : Int) - b.length)) := by
  have h := ev_down (fun k i => spec_l1Order.l0 k a b (i : Int)) (fun i => ordL (a.drop i) (b.drop i) ((a.length : Int) - b.length)) a.length ?_ ?_ 0 (by omega)
  · simpa [spec_l1Order.f] using h
  · refine Ev.step (fun k => spec_l1Order.l0.eq_2 ..) (ev_neg (by omega) (ev_now ?_))
    rw [drop_end a _ (Nat.le_refl _), ordL, w64 (by omega) (by omega)]
  · intro i hi ih
    refine Ev.step (fun k => spec_l1Order.l0.eq_2 ..) (ev_pos (by omega) ?_)
    by_cases hb' : i < b.length
    · rw [drop_rd a i hi, drop_rd b i hb']
      refine ev_pos (by omega) (ev_pos (by omega) ?_)
      by_cases h1 : rd a i < rd b i
      · exact ev_pos h1 (ev_now (by rw [ordL, if_pos h1]))
      · refine ev_neg h1 ?_
        by_cases h2 : rd a i > rd b i
        · exact ev_pos h2 (ev_now (by rw [ordL, if_neg h1, if_pos h2]))
        · refine ev_neg h2 ?_
          rw [w64n (by omega), ordL, if_neg h1, if_neg h2]
          exact ih
    · refine ev_neg (by omega) (ev_now ?_)
      rw [drop_end b i (by omega), w64 (by omega) (by omega)]
      cases a.drop i <;> rfl

theorem specSame_ev (a b : List Int) (ha : a.length < 4611686018427387904) (hb : b.length < 4611686018427387904) : Ev (fun k => spec_RowSame.f k a b) (decide (a = b)) := by
  unfold spec_RowSame.f
  refine (l1Order_ev a b ha hb).bind (ev_now ?_)
  rw [Bool.eq_iff_iff, beq_iff_eq, decide_eq_true_iff]
  exact ordL_zero a b

theorem equal_ev (a b : List Int) (ha : a.length < 4611686018427387904) : Ev (fun k => slices_Equal_int_int.f k a b) (decide (a = b)) := by
  unfold slices_Equal_int_int.f
  by_cases hl : a.length = b.length
  · refine ev_pos (by omega) ?_
    have h := ev_down (fun k i => slices_Equal_int_int.l0 k a b (a.length : Int) (i : Int)) (fun i => decide (a.drop i = b.drop i)) a.length ?_ ?_ 0 (by omega)
    · simpa using h
    · refine Ev.step (fun k => slices_Equal_int_int.l0.eq_2 ..) (ev_neg (by omega) (ev_now ?_))
      rw [drop_end a _ (Nat.le_refl _), drop_end b _ (by omega)]; simp
    · intro i hi ih
      refine Ev.step (fun k => slices_Equal_int_int.l0.eq_2 ..) (ev_pos (by omega) (ev_pos (by omega) (ev_pos (by omega) (ev_pos (by omega) ?_))))
      rw [drop_rd a i hi, drop_rd b i (by omega)]
      by_cases h1 : rd a i = rd b i
      · refine ev_pos h1 ?_
        rw [w64n (by omega)]
        simpa [h1] using ih
      · exact ev_neg h1 (ev_now (by simp [h1]))
  · exact ev_neg (by omega) (ev_now (by symm; rw [decide_eq_false_iff_not]; intro h; exact hl (by rw [h])))

theorem implSame_ev (a b : List Int) (ha : a.length < 4611686018427387904) : Ev (fun k => impl_RowSame.f k a b) (decide (a = b)) := by
  unfold impl_RowSame.f
  exact (equal_ev a b ha).bind (ev_now rfl)

theorem FnExactRowSame : laws_FnExactRowSame.Pure := by
  intro a b _ ha _ _ hb _
  refine Ev.rounds ?_
  unfold laws_FnExactRowSame.f
  by_cases h1 : (a.length : Int) > 1048576
  · exact ev_pos h1 (ev_now rfl)
  refine ev_neg h1 ?_
  by_cases h2 : (b.length : Int) > 1048576
  · exact ev_pos h2 (ev_now rfl)
  refine ev_neg h2 ?_
  have ta := toIntS_ev a (by omega)
  have tb := toIntS_ev b (by omega)
  refine ta.bind (tb.bind ((specSame_ev a b (by omega) (by omega)).bind (ta.bind (tb.bind ((implSame_ev a b (by omega)).bind ?_)))))
  exact ev_neg (by simp) (ta.bind ((eqIntS_ev a a (by omega)).bind (ev_pos (by simp) (tb.bind ((eqIntS_ev b b (by omega)).bind (ev_pos (by simp) (ev_now rfl)))))))

end Go.Proofs.Ytjajepomgbpjpaa.Pure
