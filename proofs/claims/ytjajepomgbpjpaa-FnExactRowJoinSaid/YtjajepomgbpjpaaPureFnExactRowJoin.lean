/- Over whatever two lists of numbers the program's RowJoin and the reference's tell the same; the result is new memory (it stays when the arguments are written, and the other way round), and a second call tells the same: the law answers true. No condition beyond what the statement gives. -/
import Derived.Test.YtjajepomgbpjpaaPFnExactRowJoinx2
import Derived.Test.YtjajepomgbpjpaaQ
namespace Go.Proofs.Ytjajepomgbpjpaa.Pure
open Go.RowKit Go.Proofs.Ytjajepomgbpjpaa.PFnExactRowJoin Go.Proofs.YtjajepomgbpjpaaW.PrintWords Go.Proofs.YtjajepomgbpjpaaW.PrintLast Go.Proofs.YtjajepomgbpjpaaW.PrintMore Go.Proofs.Ytjajepomgbpjpaa.Q

theorem toIntS_ev (l : List Int) (hl : l.length ≤ 35184372088832) : Ev (fun k => laws_toIntS.f k l) l := by
  have h := ev_down (fun k i => laws_toIntS.l0 k l (l.take i ++ List.replicate (l.length - i) 0) (i : Int)) (fun _ => l) l.length ?_ ?_ 0 (by omega)
  · unfold laws_toIntS.f
    refine ev_pos (by omega) (ev_pos (by omega) ?_)
    simpa using h
  · refine Ev.step (fun k => laws_toIntS.l0.eq_2 ..) (ev_neg (by omega) (ev_now (by simp)))
  · intro i hi ih
    refine Ev.step (fun k => laws_toIntS.l0.eq_2 ..) (ev_pos (by omega) (ev_pos (by omega) (ev_pos (by simp; omega) ?_)))
    rw [w64n (by omega)]
    have : (l.take i ++ List.replicate (l.length - i) 0).set (i : Int).toNat (rd l (i : Int)) = l.take (i + 1) ++ List.replicate (l.length - (i + 1)) 0 := by
      obtain ⟨d, hd⟩ : ∃ d, l.length - i = d + 1 := ⟨l.length - i - 1, by omega⟩
      have h2 : l.length - (i + 1) = d := by omega
      rw [hd, h2, List.replicate_succ, Int.toNat_natCast, List.set_append_right _ _ (by simp; omega), List.length_take, Nat.min_eq_left (by omega), Nat.sub_self, List.set_cons_zero,
        List.take_succ_eq_append_getElem hi, rd_nat, List.getD_eq_getElem?_getD, List.getElem?_eq_getElem hi, List.append_assoc]
      rfl
    rw [this]
    exact ih

theorem eqIntS_ev (a b : List Int) (ha : a.length < 4611686018427387904) : Ev (fun k => laws_eqIntS.f k a b) (decide (a = b)) := by
  unfold laws_eqIntS.f
  by_cases hl : a.length = b.length
  · refine ev_pos (by omega) ?_
    have h := ev_down (fun k i => laws_eqIntS.l0 k a b (i : Int)) (fun i => decide (a.drop i = b.drop i)) a.length ?_ ?_ 0 (by omega)
    · simpa using h
    · refine Ev.step (fun k => laws_eqIntS.l0.eq_2 ..) (ev_neg (by omega) (ev_now ?_))
      rw [drop_end a _ (Nat.le_refl _), drop_end b _ (by omega)]; simp
    · intro i hi ih
      refine Ev.step (fun k => laws_eqIntS.l0.eq_2 ..) (ev_pos (by omega) (ev_pos (by omega) (ev_pos (by omega) ?_)))
      rw [drop_rd a i hi, drop_rd b i (by omega)]
      by_cases h1 : rd a i = rd b i
      · refine ev_pos h1 ?_
        rw [w64n (by omega)]
        simpa [h1] using ih
      · exact ev_neg h1 (ev_now (by simp [h1]))
  · exact ev_neg (by omega) (ev_now (by symm; rw [decide_eq_false_iff_not]; intro h; exact hl (by rw [h])))

theorem specCopy (a : List Int) (ha : a.length < 17592186044416) : spec_l1Copy.f a = some a := by
  unfold spec_l1Copy.f
  simp only [Option.bind_some]
  rw [if_pos (by simp; omega)]
  simp
theorem specJoin (a b : List Int) (h : a.length + b.length < 17592186044416) : spec_RowJoin.f a b = some (a ++ b) := by
  unfold spec_RowJoin.f
  rw [specCopy a (by omega)]
  simp only [Option.bind_some]
  rw [if_pos h]

theorem implJoin_ev (a b : List Int) (h : a.length + b.length < 17592186044416) : Ev (fun k => impl_RowJoin.f k a b) (a ++ b) := by
  have r0 : rd_L1 [a, b] 0 = a := rfl
  have r1 : rd_L1 [a, b] 1 = b := rfl
  have w1 : wrap64 (0 + (a.length : Int)) = a.length := by rw [w64 (by omega) (by omega)]; omega
  have w2 : wrap64 ((a.length : Int) + b.length) = a.length + b.length := w64 (by omega) (by omega)
  have c1 : wrap64 (0 + 1) = 1 := w64 (by omega) (by omega)
  have c2 : wrap64 (1 + 1) = 2 := w64 (by omega) (by omega)
  have main : Ev (fun k => slices_Concat_int_int.f k [a, b]) (a ++ b) := by
    unfold slices_Concat_int_int.f
    refine Ev.step (fun k => slices_Concat_int_int.l0.eq_2 ..) (ev_pos (by simp) (ev_pos (by omega) (ev_pos (by simp) ?_)))
    rw [r0, w1, c1]
    refine ev_neg (by omega) (Ev.step (fun k => slices_Concat_int_int.l0.eq_2 ..) (ev_pos (by simp) (ev_pos (by omega) (ev_pos (by simp) ?_))))
    rw [r1, w2, c2]
    have g : slices_Grow_int_int__nil.f ((a.length : Int) + b.length) = some [] := by
      unfold slices_Grow_int_int__nil.f
      rw [if_pos (by omega), if_pos (by omega)]
    refine ev_neg (by omega) (Ev.step (fun k => slices_Concat_int_int.l0.eq_2 ..) (ev_neg (by simp) (ev_eq g ?_)))
    refine Ev.step (fun k => slices_Concat_int_int.l1.eq_2 ..) (ev_pos (by simp) (ev_pos (by omega) (ev_pos (by simp) ?_)))
    rw [r0, c1]
    refine ev_pos (by simp; omega) (Ev.step (fun k => slices_Concat_int_int.l1.eq_2 ..) (ev_pos (by simp) (ev_pos (by omega) (ev_pos (by simp) ?_))))
    rw [r1, c2]
    exact ev_pos (by simp; omega) (Ev.step (fun k => slices_Concat_int_int.l1.eq_2 ..) (ev_neg (by simp) (ev_now (by simp))))
  unfold impl_RowJoin.f
  exact main.bind (ev_now rfl)

/-- numbers counted up from k -/
def marked (k : Int) : Nat → List Int
  | 0 => []
  | n + 1 => k :: marked (k + 1) n
theorem marked_length : ∀ (n : Nat) (k : Int), (marked k n).length = n
  | 0, _ => rfl
  | n + 1, k => by rw [marked, List.length_cons, marked_length n]
theorem marked_snoc : ∀ (n : Nat) (k : Int), marked k (n + 1) = marked k n ++ [k + n]
  | 0, k => by simp [marked]
  | n + 1, k => by
    rw [marked, marked_snoc n (k + 1), marked, List.cons_append]
    congr 2
    simp; omega
theorem markInts_ev (l : List Int) (k0 : Int) (h0 : 0 ≤ k0) (h1 : k0 + l.length ≤ 4611686018427387904) : Ev (fun k => laws_markIntS.f k l k0) (k0 + l.length, marked k0 l.length) := by
  unfold laws_markIntS.f
  have h := ev_down (fun k i => laws_markIntS.l0 k (marked k0 i ++ l.drop i) (k0 + i) (i : Int)) (fun _ => (k0 + l.length, marked k0 l.length)) l.length ?_ ?_ 0 (by omega)
  · simpa [marked] using h
  · refine Ev.step (fun k => laws_markIntS.l0.eq_2 ..) (ev_neg (by simp [marked_length]) (ev_now ?_))
    rw [drop_end l _ (Nat.le_refl _), List.append_nil]
  · intro i hi ih
    refine Ev.step (fun k => laws_markIntS.l0.eq_2 ..) (ev_pos (by simp [marked_length]; omega) (ev_pos (by omega) ?_))
    rw [w64n (by omega), w64 (by omega) (by omega), drop_rd l i hi, Int.toNat_natCast, List.set_append_right _ _ (by rw [marked_length]; omega), marked_length, Nat.sub_self, List.set_cons_zero]
    have e : marked k0 i ++ (k0 + (i : Int)) :: l.drop (i + 1) = marked k0 (i + 1) ++ l.drop (i + 1) := by rw [marked_snoc, List.append_assoc]; rfl
    have e2 : k0 + (i : Int) + 1 = k0 + ((i + 1 : Nat) : Int) := by omega
    rw [e, e2]
    exact ih
theorem rd_marked : ∀ (n i : Nat) (k : Int), i < n → rd (marked k n) (i : Int) = k + i := by
  intro n
  induction n with
  | zero => intro i k h; omega
  | succ n ih =>
    intro i k h
    cases i with
    | zero => show k = k + ((0 : Nat) : Int); omega
    | succ i =>
      have := ih i (k + 1) (by omega)
      rw [rd_nat] at this ⊢
      rw [marked, List.getD_cons_succ, this]
      omega
theorem heldInts_ev (n : Nat) (k0 : Int) (h0 : 0 ≤ k0) (h1 : k0 + n ≤ 4611686018427387904) : Ev (fun k => laws_heldIntS.f k (marked k0 n) k0) (k0 + n) := by
  unfold laws_heldIntS.f
  have h := ev_down (fun k i => laws_heldIntS.l0 k (marked k0 n) (k0 + i) (i : Int)) (fun _ => k0 + n) n ?_ ?_ 0 (by omega)
  · simpa using h
  · exact Ev.step (fun k => laws_heldIntS.l0.eq_2 ..) (ev_neg (by simp [marked_length]) (ev_now rfl))
  · intro i hi ih
    refine Ev.step (fun k => laws_heldIntS.l0.eq_2 ..) (ev_pos (by simp [marked_length]; omega) (ev_pos (by omega) (ev_pos (rd_marked n i k0 hi) ?_)))
    have e2 : k0 + (i : Int) + 1 = k0 + ((i + 1 : Nat) : Int) := by omega
    rw [w64n (by omega), w64 (by omega) (by omega), e2]
    exact ih

theorem joinEnd (a b : List Int) (ha : a.length ≤ 1048576) (hb : b.length ≤ 1048576) : Ev (fun k => laws_FnExactRowJoin.j0 k a b (a ++ b) (a ++ b) false) true := by
  have hj : ((a ++ b).length : Int) = a.length + b.length := by simp
  have ta := toIntS_ev a (by omega)
  have tb := toIntS_ev b (by omega)
  have held := heldInts_ev (a ++ b).length 1 (by omega) (by omega)
  refine Ev.step (fun k => laws_FnExactRowJoin.j0.eq_2 ..) (ev_neg (by simp) ((markInts_ev (a ++ b) 1 (by omega) (by omega)).bind (held.bind (ev_neg (by omega) (ev_pos rfl ?_)))))
  exact ta.bind (tb.bind ((implJoin_ev a b (by omega)).bind ((eqIntS_ev (a ++ b) (a ++ b) (by omega)).bind (ev_pos (by simp) (held.bind (ev_neg (by omega) (ev_pos rfl (ev_now rfl))))))))
theorem FnExactRowJoin : laws_FnExactRowJoin.Pure := by
  intro a b _ ha _ _ hb _
  refine Ev.rounds ?_
  unfold laws_FnExactRowJoin.f
  by_cases h1 : (a.length : Int) > 1048576
  · exact ev_pos h1 (ev_now rfl)
  refine ev_neg h1 ?_
  by_cases h2 : (b.length : Int) > 1048576
  · exact ev_pos h2 (ev_now rfl)
  refine ev_neg h2 ?_
  have hj : (a ++ b).length = a.length + b.length := by simp
  have ta := toIntS_ev a (by omega)
  have tb := toIntS_ev b (by omega)
  have ej := eqIntS_ev (a ++ b) (a ++ b) (by omega)
  refine ta.bind (tb.bind (ev_eq (specJoin a b (by omega)) (ta.bind (tb.bind ((implJoin_ev a b (by omega)).bind (ej.bind (ev_pos (by simp) ?_)))))))
  refine ta.bind ((eqIntS_ev a a (by omega)).bind (ev_pos (by simp) (tb.bind ((eqIntS_ev b b (by omega)).bind (ev_pos (by simp) ?_)))))
  refine (markInts_ev a 1 (by omega) (by omega)).bind ((markInts_ev b (1 + a.length) (by omega) (by omega)).bind (ev_neg (by simp; omega) (ej.bind ?_)))
  simpa using joinEnd a b (by omega) (by omega)

end Go.Proofs.Ytjajepomgbpjpaa.Pure
