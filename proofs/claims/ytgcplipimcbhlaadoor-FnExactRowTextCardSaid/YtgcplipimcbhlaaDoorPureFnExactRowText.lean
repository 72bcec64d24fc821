/- Over whatever row the program's RowText tells the text that the reference's tells, and leaves its argument as it is: the law answers true. No condition beyond what the statement gives (the numbers are an int's). -/
import Derived.Test.YtgcplipimcbhlaaDoorPFnExactRowTextx2
import Derived.Test.YtgcplipimcbhlaaDoorQ
namespace Go.Proofs.YtgcplipimcbhlaaDoor.Pure
open Go.RowKit Go.Proofs.YtgcplipimcbhlaaDoor.PFnExactRowText Go.Proofs.YtgcplipimcbhlaaDoorW.PrintWords Go.Proofs.YtgcplipimcbhlaaDoorW.PrintLast Go.Proofs.YtgcplipimcbhlaaDoorW.PrintMore Go.Proofs.YtgcplipimcbhlaaDoor.Q

theorem toIntS_ev (l : List Int) (hl : l.length ≤ 35184372088832) : Ev (fun k => laws_toIntS.f k l) l := by
  have h := ev_down (fun k i => laws_toIntS.l0 k l (l.take i ++ List.replicate (l.length - i) 0) (i : Int)) (fun _ => l) l.length ?_ ?_ 0 (by omega)
  · unfold laws_toIntS.f
    refine ev_pos (by omega) (ev_pos (by omega) ?_)
    simpa using h
  · refine Ev.step (fun k => laws_toIntS.l0.eq_2 ..) (ev_neg (by omega) (ev_now (by simp)))
  · intro i hi ih
    refine Ev.step (fun k => laws_toIntS.l0.eq_2 ..) (ev_pos (by omega) (ev_pos (by omega) (ev_pos (by simp; omega) ?_)))
    rw [w64n (by omega)]
    have : (l.take i ++ List.replicate (l.length - i) 0).set (i : Int).toNat (rd l (i : Int)) = l.take (i + 1) ++ List.replicate (l.length - (i + 1)) 0 := by
      obtain ⟨d, hd⟩ : ∃ d, l.length - i = d + 1 := ⟨l.length - i - 1, by omega⟩
      have h2 : l.length - (i + 1) = d := by omega
      rw [hd, h2, List.replicate_succ, Int.toNat_natCast, List.set_append_right _ _ (by simp; omega), List.length_take, Nat.min_eq_left (by omega), Nat.sub_self, List.set_cons_zero,
        List.take_succ_eq_append_getElem hi, rd_nat, List.getD_eq_getElem?_getD, List.getElem?_eq_getElem hi, List.append_assoc]
      rfl
    rw [this]
    exact ih

theorem eqIntS_ev (a b : List Int) (ha : a.length < 4611686018427387904) : Ev (fun k => laws_eqIntS.f k a b) (decide (a = b)) := by
  unfold laws_eqIntS.f
  by_cases hl : a.length = b.length
  · refine ev_pos (by omega) ?_
    have h := ev_down (fun k i => laws_eqIntS.l0 k a b (i : Int)) (fun i => decide (a.drop i = b.drop i)) a.length ?_ ?_ 0 (by omega)
    · simpa using h
    · refine Ev.step (fun k => laws_eqIntS.l0.eq_2 ..) (ev_neg (by omega) (ev_now ?_))
      rw [drop_end a _ (Nat.le_refl _), drop_end b _ (by omega)]; simp
    · intro i hi ih
      refine Ev.step (fun k => laws_eqIntS.l0.eq_2 ..) (ev_pos (by omega) (ev_pos (by omega) (ev_pos (by omega) ?_)))
      rw [drop_rd a i hi, drop_rd b i (by omega)]
      by_cases h1 : rd a i = rd b i
      · refine ev_pos h1 ?_
        rw [w64n (by omega)]
        simpa [h1] using ih
      · exact ev_neg h1 (ev_now (by simp [h1]))
  · exact ev_neg (by omega) (ev_now (by symm; rw [decide_eq_false_iff_not]; intro h; exact hl (by rw [h])))

/-- a text of its bytes -/
def tx (l : List UInt8) : ByteArray := ⟨l.toArray⟩
theorem tx_size (l : List UInt8) : (tx l).size = l.length := rfl
theorem tx_append (a b : List UInt8) : tx a ++ tx b = tx (a ++ b) := by
  apply ByteArray.ext
  show (tx a ++ tx b).data = _
  rw [ByteArray.data_append]
  simp [tx]
theorem tx_inj {a b : List UInt8} (h : tx a = tx b) : a = b := by
  have := congrArg (fun x => x.data.toList) h
  simpa [tx] using this
theorem digit_tx (d : Int) (h0 : 0 ≤ d) (h1 : d < 10) : strOfNums ([(wrap64 (48 + d)) % 256] : List Int) = tx [UInt8.ofNat (48 + d.toNat)] := by
  obtain ⟨n, rfl⟩ := Int.eq_ofNat_of_zero_le h0
  have hn : n < 10 := by omega
  rw [w64 (by omega) (by omega)]
  rcases n with _ | _ | _ | _ | _ | _ | _ | _ | _ | _ | n
  all_goals first | rfl | omega
theorem l12Dec_go : ∀ (b u : Nat) (acc : List UInt8), u < 10 ^ (b + 1) → b ≤ 18 → acc.length + b ≤ 1000 → Ev (fun k => spec_l12Dec.l0 k (u : Int) (tx acc)) (tx (Lib.decDigits u ++ acc)) := by
  intro b
  induction b with
  | zero =>
    intro u acc h _ hl
    have hu : u < 10 := by simpa using h
    refine Ev.step (fun k => spec_l12Dec.l0.eq_2 ..) (ev_neg (by omega) (ev_some ?_))
    rw [digit_tx (u : Int) (by omega) (by omega), Int.toNat_natCast]
    refine ev_pos (by rw [tx_size, tx_size]; simp; omega) (ev_now ?_)
    rw [tx_append, Lib.decDigits, dif_pos hu]
  | succ b ih =>
    intro u acc h hb hl
    by_cases hu : u < 10
    · refine Ev.step (fun k => spec_l12Dec.l0.eq_2 ..) (ev_neg (by omega) (ev_some ?_))
      rw [digit_tx (u : Int) (by omega) (by omega), Int.toNat_natCast]
      refine ev_pos (by rw [tx_size, tx_size]; simp; omega) (ev_now ?_)
      rw [tx_append, Lib.decDigits, dif_pos hu]
    · have hp : u < 10 ^ 20 := Nat.lt_of_lt_of_le h (Nat.pow_le_pow_right (by decide) (by omega))
      have hq : u / 10 < 10 ^ (b + 1) := by rw [Nat.pow_succ] at h; omega
      have hlt : u / 10 < 9223372036854775808 := by
        have : 10 ^ (b + 1) ≤ 10 ^ 18 := Nat.pow_le_pow_right (by decide) (by omega)
        omega
      refine Ev.step (fun k => spec_l12Dec.l0.eq_2 ..) (ev_pos (by omega) (ev_some ?_))
      have e1 : Int.tmod (u : Int) 10 = ((u % 10 : Nat) : Int) := by rw [Int.tmod_eq_emod_of_nonneg (by omega)]; omega
      have e2 : Int.tdiv (u : Int) 10 = ((u / 10 : Nat) : Int) := by rw [Int.tdiv_eq_ediv_of_nonneg (by omega)]; omega
      rw [e1, e2, digit_tx ((u % 10 : Nat) : Int) (by omega) (by omega), Int.toNat_natCast, w64 (by omega) (by omega)]
      refine ev_pos (by rw [tx_size, tx_size]; simp; omega) ?_
      rw [tx_append]
      have := ih (u / 10) (UInt8.ofNat (48 + u % 10) :: acc) hq (by omega) (by simp; omega)
      rw [Lib.decDigits.eq_def u, dif_neg hu, List.append_assoc]
      exact this
theorem l12Dec_ev (n : Int) (h0 : -9223372036854775808 ≤ n) (h1 : n ≤ 9223372036854775807) : Ev (fun k => spec_l12Dec.f k n) (tx (Lib.itoa n)) := by
  have pos : ∀ u : Nat, u ≤ 9223372036854775807 → Ev (fun k => spec_l12Dec.f k (u : Int)) (tx (Lib.decDigits u)) := by
    intro u hu
    have := l12Dec_go 18 u [] (by omega) (by omega) (by simp)
    rw [List.append_nil] at this
    exact Ev.step (fun k => spec_l12Dec.f.eq_2 ..) (ev_neg (by omega) (ev_neg (by omega) this))
  unfold Lib.itoa
  by_cases hn : n < 0
  · rw [if_pos hn]
    by_cases hm : n < -9223372036854775807
    · obtain rfl : n = -9223372036854775808 := by omega
      exact Ev.step (fun k => spec_l12Dec.f.eq_2 ..) (ev_pos (by decide) (ev_now (by decide +kernel)))
    · refine Ev.step (fun k => spec_l12Dec.f.eq_2 ..) (ev_neg hm (ev_pos hn ?_))
      rw [w64 (by omega) (by omega), show -n = ((n.natAbs : Nat) : Int) by omega]
      have hd : (Lib.decDigits n.natAbs).length ≤ 21 := by
        have := Lib.itoa_length_le n h0 h1
        unfold Lib.itoa at this
        rw [if_pos hn, List.length_cons] at this
        omega
      exact (pos n.natAbs (by omega)).bind (ev_pos (by rw [tx_size]; omega) (ev_now (tx_append [45] _)))
  · rw [if_neg hn]
    have := pos n.toNat (by omega)
    rw [show ((n.toNat : Nat) : Int) = n by omega] at this
    exact this

theorem implRowText_ev (l : List Int) (hl : l.length ≤ 1048576) (h : ∀ x ∈ l, okI x = true) : impl_RowText.f l = some (tx (rowB l)) := by
  unfold impl_RowText.f
  rw [if_pos hl, if_pos (List.all_eq_true.2 h)]
  rfl
theorem specRowText_ev (l : List Int) (hl : l.length ≤ 1048576) (h : ∀ x ∈ l, okI x = true) : Ev (fun k => spec_RowText.f k l) (tx (rowB l)) := by
  unfold spec_RowText.f
  have go : ∀ (d i : Nat), i + d = l.length → Ev (fun k => spec_RowText.l0 k l (tx (rowB (l.take i))) (i : Int)) (tx (rowB l)) := by
    intro d
    induction d with
    | zero =>
      intro i hi
      obtain rfl : i = l.length := by omega
      exact Ev.step (fun k => spec_RowText.l0.eq_2 ..) (ev_neg (by omega) (ev_now (by rw [List.take_length])))
    | succ d ih =>
      intro i hi
      have hil : i < l.length := by omega
      have hx := okI_iff.1 (h l[i] (List.getElem_mem hil))
      have hlen := rowB_len (l.take i) (fun y hy => h y (List.mem_of_mem_take hy))
      rw [List.length_take] at hlen
      have hlen2 := Lib.itoa_length_le l[i] hx.1 hx.2
      have hrd : rd l (i : Int) = l[i] := by rw [rd_nat, List.getD_eq_getElem?_getD, List.getElem?_eq_getElem hil]; rfl
      have he := rowB_snoc (l.take i) l[i]
      rw [← List.take_succ_eq_append_getElem hil] at he
      have ih' := ih (i + 1) (by omega)
      rw [he] at ih'
      refine Ev.step (fun k => spec_RowText.l0.eq_2 ..) (ev_pos (by omega) ?_)
      rw [hrd, w64n (by omega)]
      by_cases h0 : (i : Int) > 0
      · have hne : l.take i ≠ [] := by
          intro e
          have := congrArg List.length e
          rw [List.length_take, List.length_nil] at this
          omega
        rw [if_neg hne] at ih'
        refine ev_pos h0 (ev_pos (by rw [tx_size]; omega) (ev_pos (by omega) ((l12Dec_ev l[i] hx.1 hx.2).bind ?_)))
        rw [show (⟨#[44]⟩ : ByteArray) = tx [44] from rfl, tx_append, tx_append, List.append_assoc]
        exact ev_pos (by rw [tx_size, tx_size, List.length_append]; simp; omega) ih'
      · have he0 : l.take i = [] := by rw [show i = 0 by omega]; rfl
        rw [if_pos he0] at ih'
        refine ev_neg h0 (ev_pos (by omega) ((l12Dec_ev l[i] hx.1 hx.2).bind ?_))
        rw [tx_append]
        exact ev_pos (by rw [tx_size, tx_size]; omega) ih'
  exact go l.length 0 (by omega)

theorem FnExactRowText : laws_FnExactRowText.Pure := by
  intro l ⟨_, hw⟩
  refine Ev.rounds ?_
  unfold laws_FnExactRowText.f
  by_cases h1 : (l.length : Int) > 1048576
  · exact ev_pos h1 (ev_now rfl)
  refine ev_neg h1 ?_
  have hok : ∀ x ∈ l, okI x = true := fun x hx => okI_iff.2 (by
    have := hw x hx
    simp only [Lit.wf, Bool.and_eq_true, decide_eq_true_eq] at this
    have e1 : IntKind.i64.min = -9223372036854775808 := rfl
    have e2 : IntKind.i64.max = 9223372036854775807 := rfl
    omega)
  have ti := toIntS_ev l (by omega)
  exact ti.bind ((specRowText_ev l (by omega) hok).bind (ti.bind (ev_eq (implRowText_ev l (by omega) hok) (ev_pos rfl (ti.bind ((eqIntS_ev l l (by omega)).bind (ev_pos (by simp) (ev_now rfl))))))))

end Go.Proofs.YtgcplipimcbhlaaDoor.Pure
