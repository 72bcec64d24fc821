/- Whatever items there are, the program's ZText writes the text that the reference's writes, and leaves its argument: the law answers true. No condition beyond what the statement gives (items that there can be; those too many for the law's own bound are passed over by the law itself). -/
import Derived.Test.YtgcplipimcbhlaaDoorPFnExactZTextx4
import Derived.Test.YtgcplipimcbhlaaDoorQ
namespace Go.Proofs.YtgcplipimcbhlaaDoor.Pure
open Go.RowKit Go.Proofs.YtgcplipimcbhlaaDoor.PFnExactZText Go.Proofs.YtgcplipimcbhlaaDoorW.PrintWords Go.Proofs.YtgcplipimcbhlaaDoorW.PrintLast Go.Proofs.YtgcplipimcbhlaaDoorW.PrintMore Go.Proofs.YtgcplipimcbhlaaDoor.Q

theorem ext_item {x y : S53} (h0 : x.f0 = y.f0) (h1 : x.f1 = y.f1) : x = y := by cases x; cases y; simp_all
instance decItem : DecidableEq S53 := fun x y => decidable_of_iff (x.f0 = y.f0 ∧ x.f1 = y.f1) ⟨fun h => ext_item h.1 h.2, fun h => by rw [h]; exact ⟨rfl, rfl⟩⟩
theorem item_iff (a b : List Int) (v u : Int) : (⟨a, v⟩ : S53) = ⟨b, u⟩ ↔ (a = b ∧ v = u) := ⟨fun h => by injection h with h1 h2; exact ⟨h1, h2⟩, fun h => by rw [h.1, h.2]⟩
theorem dec_cons {x y : S53} {s u : List S53} (h : x = y) : decide (x :: s = y :: u) = decide (s = u) := by subst h; rw [decide_eq_decide]; simp
theorem dec_cons_ne {x y : S53} {s u : List S53} (h : ¬ x = y) : decide (x :: s = y :: u) = false := by rw [decide_eq_false_iff_not]; intro e; injection e with e1 e2; exact h e1
theorem rdI_at (l : List S53) (i : Nat) (h : i < l.length) : rd_T53 l (i : Int) = l[i] := by
  show l.getD _ _ = _
  rw [Int.toNat_natCast, List.getD_eq_getElem?_getD, List.getElem?_eq_getElem h]; rfl
theorem drop_at {α : Type} (l : List α) (i : Nat) (h : i < l.length) : l.drop i = l[i] :: l.drop (i + 1) := List.drop_eq_getElem_cons h
/-- items no longer than so, their rows too -/
structure Small (l : List S53) : Prop where
  len : l.length ≤ 1048576
  row : ∀ x ∈ l, x.f0.length ≤ 1048576

/-- the law's item, as the program's -/
def toI (x : S67) : S53 := ⟨x.f0, x.f1⟩
theorem rdL_at (l : List S67) (i : Nat) (h : i < l.length) : rd_T67 l (i : Int) = l[i] := by
  show l.getD _ _ = _
  rw [Int.toNat_natCast, List.getD_eq_getElem?_getD, List.getElem?_eq_getElem h]; rfl
theorem szInts (l : List Int) (a : Int) (hl : l.length ≤ maxLen) (ha : 0 ≤ a) (ha1 : a ≤ 1048576) : ∃ r, laws_szIntS.f l a = some r ∧ r ≤ a ∧ (0 ≤ r → (l.length : Int) ≤ a) := by
  have hm : maxLen = 9223372036854775807 := rfl
  unfold laws_szIntS.f
  rw [w64 (by omega) (by omega)]
  by_cases h : a - (l.length : Int) < 0
  · rw [if_pos h]; exact ⟨-1, rfl, by omega, by omega⟩
  · rw [if_neg h]; exact ⟨_, rfl, by omega, by omega⟩
theorem szItem (l : List Int) (v a : Int) (hl : l.length ≤ maxLen) (ha : 0 ≤ a) (ha1 : a ≤ 1048576) : ∃ r, laws_szItem.f l v a = some r ∧ r ≤ a ∧ (0 ≤ r → (l.length : Int) ≤ a) := by
  obtain ⟨r, hr, h1, h2⟩ := szInts l a hl ha ha1
  unfold laws_szItem.f
  rw [hr]
  simp only [Option.bind_some]
  by_cases h : r < 0
  · rw [if_pos h]; exact ⟨-1, rfl, by omega, by omega⟩
  · rw [if_neg h]; exact ⟨r, rfl, h1, h2⟩
theorem szItems_ev (l : List S67) (a : Int) (hl : l.length ≤ maxLen) (hr : ∀ x ∈ l, x.f0.length ≤ maxLen) (ha : 0 ≤ a) (ha1 : a ≤ 1048576) :
    ∃ r, Ev (fun k => laws_szItemS.f k l a) r ∧ r ≤ a ∧ (0 ≤ r → Small (l.map toI)) := by
  have hm : maxLen = 9223372036854775807 := rfl
  unfold laws_szItemS.f
  rw [w64 (by omega) (by omega)]
  by_cases h : a - (l.length : Int) < 0
  · exact ⟨-1, ev_pos h (ev_now rfl), by omega, by omega⟩
  have go : ∀ (d i : Nat) (b : Int), i + d = l.length → 0 ≤ b → b ≤ a → ∃ r, Ev (fun k => laws_szItemS.l0 k l b (i : Int)) r ∧ r ≤ b ∧ (0 ≤ r → ∀ x ∈ l.drop i, x.f0.length ≤ 1048576) := by
    intro d
    induction d with
    | zero =>
      intro i b hi hb _
      exact ⟨b, Ev.step (fun k => laws_szItemS.l0.eq_2 ..) (ev_neg (by omega) (ev_now rfl)), by omega, fun _ => by rw [drop_end l i (by omega)]; simp⟩
    | succ d ih =>
      intro i b hi hb hba
      have hil : i < l.length := by omega
      obtain ⟨c, hc, hc1, hc2⟩ := szItem l[i].f0 l[i].f1 b (hr _ (List.getElem_mem _)) hb (by omega)
      have hc' : laws_szItem.f (rd_T67 l (i : Int)).f0 (rd_T67 l (i : Int)).f1 b = some c := by rw [rdL_at l i hil]; exact hc
      by_cases hn : c < 0
      · exact ⟨-1, Ev.step (fun k => laws_szItemS.l0.eq_2 ..) (ev_pos (by omega) (ev_pos (by omega) (ev_eq hc' (ev_pos hn (ev_now rfl))))), by omega, by omega⟩
      · obtain ⟨r, hr1, hr2, hr3⟩ := ih (i + 1) c (by omega) (by omega) (by omega)
        refine ⟨r, Ev.step (fun k => laws_szItemS.l0.eq_2 ..) (ev_pos (by omega) (ev_pos (by omega) (ev_eq hc' (ev_neg hn ?_)))), by omega, fun h0 x hx => ?_⟩
        · rw [w64n (by omega)]; exact hr1
        · rw [drop_at l i hil] at hx
          rcases List.mem_cons.1 hx with h1 | h1
          · subst h1; have := hc2 (by omega); omega
          · exact hr3 h0 x h1
  obtain ⟨r, h1, h2, h3⟩ := go l.length 0 (a - l.length) (by omega) (by omega) (by omega)
  refine ⟨r, ev_neg h h1, by omega, fun h0 => ⟨by simp; omega, fun x hx => ?_⟩⟩
  obtain ⟨y, hy, rfl⟩ := List.mem_map.1 hx
  exact h3 h0 y (by simpa using hy)

theorem toIntS_ev (l : List Int) (hl : l.length ≤ 35184372088832) : Ev (fun k => laws_toIntS.f k l) l := by
  have h := ev_down (fun k i => laws_toIntS.l0 k l (l.take i ++ List.replicate (l.length - i) 0) (i : Int)) (fun _ => l) l.length ?_ ?_ 0 (by omega)
  · unfold laws_toIntS.f
    refine ev_pos (by omega) (ev_pos (by omega) ?_)
    simpa using h
  · refine Ev.step (fun k => laws_toIntS.l0.eq_2 ..) (ev_neg (by omega) (ev_now (by simp)))
  · intro i hi ih
    refine Ev.step (fun k => laws_toIntS.l0.eq_2 ..) (ev_pos (by omega) (ev_pos (by omega) (ev_pos (by simp; omega) ?_)))
    rw [w64n (by omega)]
    have : (l.take i ++ List.replicate (l.length - i) 0).set (i : Int).toNat (rd l (i : Int)) = l.take (i + 1) ++ List.replicate (l.length - (i + 1)) 0 := by
      obtain ⟨d, hd⟩ : ∃ d, l.length - i = d + 1 := ⟨l.length - i - 1, by omega⟩
      have h2 : l.length - (i + 1) = d := by omega
      rw [hd, h2, List.replicate_succ, Int.toNat_natCast, List.set_append_right _ _ (by simp; omega), List.length_take, Nat.min_eq_left (by omega), Nat.sub_self, List.set_cons_zero,
        List.take_succ_eq_append_getElem hi, rd_nat, List.getD_eq_getElem?_getD, List.getElem?_eq_getElem hi, List.append_assoc]
      rfl
    rw [this]
    exact ih

theorem toItem_ev (l : List Int) (v : Int) (hl : l.length ≤ 1048576) : Ev (fun k => laws_toItem.f k l v) (l, v) := by
  unfold laws_toItem.f
  exact (toIntS_ev l (by omega)).bind (ev_now rfl)
theorem toItemS_ev (l : List S67) (hs : Small (l.map toI)) : Ev (fun k => laws_toItemS.f k l) (l.map toI) := by
  have hl : l.length ≤ 1048576 := by simpa using hs.len
  have h := ev_down (fun k i => laws_toItemS.l0 k l ((l.take i).map toI ++ List.replicate (l.length - i) z53) (i : Int)) (fun _ => l.map toI) l.length ?_ ?_ 0 (by omega)
  · unfold laws_toItemS.f
    refine ev_pos (by omega) (ev_pos (by omega) ?_)
    simpa using h
  · refine Ev.step (fun k => laws_toItemS.l0.eq_2 ..) (ev_neg (by omega) (ev_now (by simp)))
  · intro i hi ih
    have ht := toItem_ev l[i].f0 l[i].f1 (by have := hs.row (toI l[i]) (List.mem_map_of_mem (List.getElem_mem _)); exact this)
    refine Ev.step (fun k => laws_toItemS.l0.eq_2 ..) (ev_pos (by omega) (ev_pos (by omega) ?_))
    rw [rdL_at l i hi]
    refine ht.bind (ev_pos (by simp; omega) ?_)
    rw [w64n (by omega)]
    have : ((l.take i).map toI ++ List.replicate (l.length - i) z53).set (i : Int).toNat (⟨l[i].f0, l[i].f1⟩ : S53) = (l.take (i + 1)).map toI ++ List.replicate (l.length - (i + 1)) z53 := by
      obtain ⟨d, hd⟩ : ∃ d, l.length - i = d + 1 := ⟨l.length - i - 1, by omega⟩
      have h2 : l.length - (i + 1) = d := by omega
      rw [hd, h2, List.replicate_succ, Int.toNat_natCast, List.set_append_right _ _ (by simp; omega), List.length_map, List.length_take, Nat.min_eq_left (by omega), Nat.sub_self, List.set_cons_zero,
        List.take_succ_eq_append_getElem hi, List.map_append, List.append_assoc]
      rfl
    rw [this]
    exact ih

theorem eqIntS_ev (a b : List Int) (ha : a.length < 4611686018427387904) : Ev (fun k => laws_eqIntS.f k a b) (decide (a = b)) := by
  unfold laws_eqIntS.f
  by_cases hl : a.length = b.length
  · refine ev_pos (by omega) ?_
    have h := ev_down (fun k i => laws_eqIntS.l0 k a b (i : Int)) (fun i => decide (a.drop i = b.drop i)) a.length ?_ ?_ 0 (by omega)
    · simpa using h
    · refine Ev.step (fun k => laws_eqIntS.l0.eq_2 ..) (ev_neg (by omega) (ev_now ?_))
      rw [drop_end a _ (Nat.le_refl _), drop_end b _ (by omega)]; simp
    · intro i hi ih
      refine Ev.step (fun k => laws_eqIntS.l0.eq_2 ..) (ev_pos (by omega) (ev_pos (by omega) (ev_pos (by omega) ?_)))
      rw [drop_rd a i hi, drop_rd b i (by omega)]
      by_cases h1 : rd a i = rd b i
      · refine ev_pos h1 ?_
        rw [w64n (by omega)]
        simpa [h1] using ih
      · exact ev_neg h1 (ev_now (by simp [h1]))
  · exact ev_neg (by omega) (ev_now (by symm; rw [decide_eq_false_iff_not]; intro h; exact hl (by rw [h])))

theorem eqItem_ev (x y : S53) (ha : x.f0.length ≤ 1048576) : Ev (fun k => laws_eqItem.f k x.f0 x.f1 y.f0 y.f1) (decide (x = y)) := by
  unfold laws_eqItem.f
  refine (eqIntS_ev x.f0 y.f0 (by omega)).bind ?_
  by_cases h : x.f0 = y.f0
  · refine ev_pos (decide_eq_true h) ?_
    by_cases h1 : x.f1 = y.f1
    · exact ev_pos h1 (ev_now (decide_eq_true (ext_item h h1)).symm)
    · exact ev_neg h1 (ev_now (decide_eq_false (fun e => h1 (by rw [e]))).symm)
  · exact ev_neg (by simp [h]) (ev_now (decide_eq_false (fun e => h (by rw [e]))).symm)
theorem eqItemS_ev (a b : List S53) (hs : Small a) : Ev (fun k => laws_eqItemS.f k a b) (decide (a = b)) := by
  have ha := hs.len
  unfold laws_eqItemS.f
  by_cases hl : a.length = b.length
  · refine ev_pos (by omega) ?_
    have h := ev_down (fun k i => laws_eqItemS.l0 k a b (i : Int)) (fun i => decide (a.drop i = b.drop i)) a.length ?_ ?_ 0 (by omega)
    · simpa using h
    · refine Ev.step (fun k => laws_eqItemS.l0.eq_2 ..) (ev_neg (by omega) (ev_now ?_))
      rw [drop_end a _ (Nat.le_refl _), drop_end b _ (by omega)]; simp
    · intro i hi ih
      have he := eqItem_ev a[i] b[i] (hs.row _ (List.getElem_mem _))
      refine Ev.step (fun k => laws_eqItemS.l0.eq_2 ..) (ev_pos (by omega) (ev_pos (by omega) (ev_pos (by omega) ?_)))
      rw [rdI_at a i hi, rdI_at b i (by omega)]
      refine he.bind ?_
      rw [drop_at a i hi, drop_at b i (by omega)]
      by_cases h1 : a[i] = b[i]
      · refine ev_pos (decide_eq_true h1) ?_
        rw [w64n (by omega), dec_cons h1]
        exact ih
      · exact ev_neg (by rw [decide_eq_true_iff]; exact h1) (ev_now (dec_cons_ne h1).symm)
  · exact ev_neg (by omega) (ev_now (by symm; rw [decide_eq_false_iff_not]; intro h; exact hl (by rw [h])))

/-- a text of its bytes -/
def tx (l : List UInt8) : ByteArray := ⟨l.toArray⟩
theorem tx_size (l : List UInt8) : (tx l).size = l.length := rfl
theorem tx_append (a b : List UInt8) : tx a ++ tx b = tx (a ++ b) := by
  apply ByteArray.ext
  show (tx a ++ tx b).data = _
  rw [ByteArray.data_append]
  simp [tx]
theorem tx_inj {a b : List UInt8} (h : tx a = tx b) : a = b := by
  have := congrArg (fun x => x.data.toList) h
  simpa [tx] using this

theorem implRowText_ev (l : List Int) (hl : l.length ≤ 1048576) (h : ∀ x ∈ l, okI x = true) : impl_RowText.f l = some (tx (rowB l)) := by
  unfold impl_RowText.f
  rw [if_pos hl, if_pos (List.all_eq_true.2 h)]
  rfl

theorem digit_tx (d : Int) (h0 : 0 ≤ d) (h1 : d < 10) : strOfNums ([(wrap64 (48 + d)) % 256] : List Int) = tx [UInt8.ofNat (48 + d.toNat)] := by
  obtain ⟨n, rfl⟩ := Int.eq_ofNat_of_zero_le h0
  have hn : n < 10 := by omega
  rw [w64 (by omega) (by omega)]
  rcases n with _ | _ | _ | _ | _ | _ | _ | _ | _ | _ | n
  all_goals first | rfl | omega
theorem l12Dec_go : ∀ (b u : Nat) (acc : List UInt8), u < 10 ^ (b + 1) → b ≤ 18 → acc.length + b ≤ 1000 → Ev (fun k => spec_l12Dec.l0 k (u : Int) (tx acc)) (tx (Lib.decDigits u ++ acc)) := by
  intro b
  induction b with
  | zero =>
    intro u acc h _ hl
    have hu : u < 10 := by simpa using h
    refine Ev.step (fun k => spec_l12Dec.l0.eq_2 ..) (ev_neg (by omega) (ev_some ?_))
    rw [digit_tx (u : Int) (by omega) (by omega), Int.toNat_natCast]
    refine ev_pos (by rw [tx_size, tx_size]; simp; omega) (ev_now ?_)
    rw [tx_append, Lib.decDigits, dif_pos hu]
  | succ b ih =>
    intro u acc h hb hl
    by_cases hu : u < 10
    · refine Ev.step (fun k => spec_l12Dec.l0.eq_2 ..) (ev_neg (by omega) (ev_some ?_))
      rw [digit_tx (u : Int) (by omega) (by omega), Int.toNat_natCast]
      refine ev_pos (by rw [tx_size, tx_size]; simp; omega) (ev_now ?_)
      rw [tx_append, Lib.decDigits, dif_pos hu]
    · have hp : u < 10 ^ 20 := Nat.lt_of_lt_of_le h (Nat.pow_le_pow_right (by decide) (by omega))
      have hq : u / 10 < 10 ^ (b + 1) := by rw [Nat.pow_succ] at h; omega
      have hlt : u / 10 < 9223372036854775808 := by
        have : 10 ^ (b + 1) ≤ 10 ^ 18 := Nat.pow_le_pow_right (by decide) (by omega)
        omega
      refine Ev.step (fun k => spec_l12Dec.l0.eq_2 ..) (ev_pos (by omega) (ev_some ?_))
      have e1 : Int.tmod (u : Int) 10 = ((u % 10 : Nat) : Int) := by rw [Int.tmod_eq_emod_of_nonneg (by omega)]; omega
      have e2 : Int.tdiv (u : Int) 10 = ((u / 10 : Nat) : Int) := by rw [Int.tdiv_eq_ediv_of_nonneg (by omega)]; omega
      rw [e1, e2, digit_tx ((u % 10 : Nat) : Int) (by omega) (by omega), Int.toNat_natCast, w64 (by omega) (by omega)]
      refine ev_pos (by rw [tx_size, tx_size]; simp; omega) ?_
      rw [tx_append]
      have := ih (u / 10) (UInt8.ofNat (48 + u % 10) :: acc) hq (by omega) (by simp; omega)
      rw [Lib.decDigits.eq_def u, dif_neg hu, List.append_assoc]
      exact this
theorem l12Dec_ev (n : Int) (h0 : -9223372036854775808 ≤ n) (h1 : n ≤ 9223372036854775807) : Ev (fun k => spec_l12Dec.f k n) (tx (Lib.itoa n)) := by
  have pos : ∀ u : Nat, u ≤ 9223372036854775807 → Ev (fun k => spec_l12Dec.f k (u : Int)) (tx (Lib.decDigits u)) := by
    intro u hu
    have := l12Dec_go 18 u [] (by omega) (by omega) (by simp)
    rw [List.append_nil] at this
    exact Ev.step (fun k => spec_l12Dec.f.eq_2 ..) (ev_neg (by omega) (ev_neg (by omega) this))
  unfold Lib.itoa
  by_cases hn : n < 0
  · rw [if_pos hn]
    by_cases hm : n < -9223372036854775807
    · obtain rfl : n = -9223372036854775808 := by omega
      exact Ev.step (fun k => spec_l12Dec.f.eq_2 ..) (ev_pos (by decide) (ev_now (by decide +kernel)))
    · refine Ev.step (fun k => spec_l12Dec.f.eq_2 ..) (ev_neg hm (ev_pos hn ?_))
      rw [w64 (by omega) (by omega), show -n = ((n.natAbs : Nat) : Int) by omega]
      have hd : (Lib.decDigits n.natAbs).length ≤ 21 := by
        have := Lib.itoa_length_le n h0 h1
        unfold Lib.itoa at this
        rw [if_pos hn, List.length_cons] at this
        omega
      exact (pos n.natAbs (by omega)).bind (ev_pos (by rw [tx_size]; omega) (ev_now (tx_append [45] _)))
  · rw [if_neg hn]
    have := pos n.toNat (by omega)
    rw [show ((n.toNat : Nat) : Int) = n by omega] at this
    exact this

theorem specRowText_ev (l : List Int) (hl : l.length ≤ 1048576) (h : ∀ x ∈ l, okI x = true) : Ev (fun k => spec_RowText.f k l) (tx (rowB l)) := by
  unfold spec_RowText.f
  have go : ∀ (d i : Nat), i + d = l.length → Ev (fun k => spec_RowText.l0 k l (tx (rowB (l.take i))) (i : Int)) (tx (rowB l)) := by
    intro d
    induction d with
    | zero =>
      intro i hi
      obtain rfl : i = l.length := by omega
      exact Ev.step (fun k => spec_RowText.l0.eq_2 ..) (ev_neg (by omega) (ev_now (by rw [List.take_length])))
    | succ d ih =>
      intro i hi
      have hil : i < l.length := by omega
      have hx := okI_iff.1 (h l[i] (List.getElem_mem hil))
      have hlen := rowB_len (l.take i) (fun y hy => h y (List.mem_of_mem_take hy))
      rw [List.length_take] at hlen
      have hlen2 := Lib.itoa_length_le l[i] hx.1 hx.2
      have hrd : rd l (i : Int) = l[i] := by rw [rd_nat, List.getD_eq_getElem?_getD, List.getElem?_eq_getElem hil]; rfl
      have he := rowB_snoc (l.take i) l[i]
      rw [← List.take_succ_eq_append_getElem hil] at he
      have ih' := ih (i + 1) (by omega)
      rw [he] at ih'
      refine Ev.step (fun k => spec_RowText.l0.eq_2 ..) (ev_pos (by omega) ?_)
      rw [hrd, w64n (by omega)]
      by_cases h0 : (i : Int) > 0
      · have hne : l.take i ≠ [] := by
          intro e
          have := congrArg List.length e
          rw [List.length_take, List.length_nil] at this
          omega
        rw [if_neg hne] at ih'
        refine ev_pos h0 (ev_pos (by rw [tx_size]; omega) (ev_pos (by omega) ((l12Dec_ev l[i] hx.1 hx.2).bind ?_)))
        rw [show (⟨#[44]⟩ : ByteArray) = tx [44] from rfl, tx_append, tx_append, List.append_assoc]
        exact ev_pos (by rw [tx_size, tx_size, List.length_append]; simp; omega) ih'
      · have he0 : l.take i = [] := by rw [show i = 0 by omega]; rfl
        rw [if_pos he0] at ih'
        refine ev_neg h0 (ev_pos (by omega) ((l12Dec_ev l[i] hx.1 hx.2).bind ?_))
        rw [tx_append]
        exact ev_pos (by rw [tx_size, tx_size]; omega) ih'
  exact go l.length 0 (by omega)

/-- an item's text, and the text of items -/
def itemB (x : S53) : List UInt8 := rowB x.f0 ++ 42 :: Lib.itoa x.f1
def tailZ (l : List S53) : List UInt8 := (l.map (fun x => 32 :: itemB x)).flatten
def textZ : List S53 → List UInt8
  | [] => []
  | x :: l => itemB x ++ tailZ l
theorem textZ_snoc (l : List S53) (x : S53) : textZ (l ++ [x]) = textZ l ++ ((if l = [] then [] else [32]) ++ itemB x) := by
  cases l with
  | nil => simp [textZ, tailZ]
  | cons y l => simp [textZ, tailZ, List.append_assoc]
theorem textZ_join : ∀ l : List S53, Lib.join (l.map itemB) [32] = textZ l := by
  intro l
  cases l with
  | nil => rfl
  | cons x l =>
    show List.intercalate [32] ((x :: l).map itemB) = itemB x ++ tailZ l
    induction l generalizing x with
    | nil => simp [tailZ, List.intercalate]
    | cons y l ih =>
      have := ih y
      rw [List.map_cons, List.map_cons] at *
      unfold List.intercalate at *
      rw [List.intersperse_cons_cons, List.flatten_cons, List.flatten_cons, this]
      simp [tailZ]
/-- items whose numbers are numbers -/
def OkI (l : List S53) : Prop := ∀ x ∈ l, (∀ y ∈ x.f0, okI y = true) ∧ okI x.f1 = true
theorem itemB_len {x : S53} (h0 : x.f0.length ≤ 1048576) (h : (∀ y ∈ x.f0, okI y = true) ∧ okI x.f1 = true) : (itemB x).length ≤ 23068700 := by
  have h1 := rowB_len x.f0 h.1
  have h2 := Lib.itoa_length_le x.f1 (okI_iff.1 h.2).1 (okI_iff.1 h.2).2
  unfold itemB
  rw [List.length_append, List.length_cons]
  omega
theorem tailZ_len (l : List S53) (hs : ∀ x ∈ l, x.f0.length ≤ 1048576) (h : OkI l) : (tailZ l).length ≤ 23068701 * l.length := by
  induction l with
  | nil => simp [tailZ]
  | cons x l ih =>
    have h1 := ih (fun y hy => hs y (List.mem_cons_of_mem _ hy)) (fun y hy => h y (List.mem_cons_of_mem _ hy))
    have h2 := itemB_len (hs x List.mem_cons_self) (h x List.mem_cons_self)
    unfold tailZ at *
    simp only [List.map_cons, List.flatten_cons, List.length_append, List.length_cons] at *
    omega
theorem textZ_len (l : List S53) (hs : ∀ x ∈ l, x.f0.length ≤ 1048576) (h : OkI l) : (textZ l).length ≤ 23068701 * l.length := by
  cases l with
  | nil => simp [textZ]
  | cons x l =>
    have h1 := tailZ_len l (fun y hy => hs y (List.mem_cons_of_mem _ hy)) (fun y hy => h y (List.mem_cons_of_mem _ hy))
    have h2 := itemB_len (hs x List.mem_cons_self) (h x List.mem_cons_self)
    rw [textZ, List.length_append, List.length_cons]
    omega

theorem specZText_ev (l : List S53) (hs : Small l) (h : OkI l) : Ev (fun k => spec_ZText.f k l) (tx (textZ l)) := by
  have hlen := hs.len
  unfold spec_ZText.f
  have go : ∀ (d i : Nat), i + d = l.length → Ev (fun k => spec_ZText.l0 k l (tx (textZ (l.take i))) (i : Int)) (tx (textZ l)) := by
    intro d
    induction d with
    | zero =>
      intro i hi
      obtain rfl : i = l.length := by omega
      exact Ev.step (fun k => spec_ZText.l0.eq_2 ..) (ev_neg (by omega) (ev_now (by rw [List.take_length])))
    | succ d ih =>
      intro i hi
      have hil : i < l.length := by omega
      have hm := List.getElem_mem hil
      have hx := h l[i] hm
      have hx1 := okI_iff.1 hx.2
      have hrow := hs.row _ hm
      have h1 := textZ_len (l.take i) (fun y hy => hs.row y (List.mem_of_mem_take hy)) (fun y hy => h y (List.mem_of_mem_take hy))
      rw [List.length_take] at h1
      have h2 := rowB_len l[i].f0 hx.1
      have h3 := Lib.itoa_length_le l[i].f1 hx1.1 hx1.2
      have he := textZ_snoc (l.take i) l[i]
      rw [← List.take_succ_eq_append_getElem hil] at he
      have ih' := ih (i + 1) (by omega)
      rw [he] at ih'
      have rt := specRowText_ev l[i].f0 hrow hx.1
      have dt := l12Dec_ev l[i].f1 hx1.1 hx1.2
      refine Ev.step (fun k => spec_ZText.l0.eq_2 ..) (ev_pos (by omega) ?_)
      rw [rdI_at l i hil, w64n (by omega), show (⟨#[32]⟩ : ByteArray) = tx [32] from rfl, show (⟨#[42]⟩ : ByteArray) = tx [42] from rfl]
      by_cases h0 : (i : Int) > 0
      · have hne : l.take i ≠ [] := by
          intro e
          have := congrArg List.length e
          rw [List.length_take, List.length_nil] at this
          omega
        rw [if_neg hne] at ih'
        refine ev_pos h0 (ev_pos (by rw [tx_size]; omega) (ev_pos (by omega) (rt.bind ?_)))
        rw [tx_append, tx_append]
        refine ev_pos (by simp only [tx_size, List.length_append, List.length_cons, List.length_nil]; omega) (ev_pos (by simp only [tx_size, List.length_append, List.length_cons, List.length_nil]; omega) (dt.bind ?_))
        rw [tx_append, tx_append]
        refine ev_pos (by simp only [tx_size, List.length_append, List.length_cons, List.length_nil]; omega) ?_
        simpa [itemB, List.append_assoc] using ih'
      · have he0 : l.take i = [] := by rw [show i = 0 by omega]; rfl
        rw [if_pos he0] at ih'
        refine ev_neg h0 (ev_pos (by omega) (rt.bind ?_))
        rw [tx_append]
        refine ev_pos (by simp only [tx_size]; omega) (ev_pos (by simp only [tx_size, List.length_append]; omega) (dt.bind ?_))
        rw [tx_append, tx_append]
        refine ev_pos (by simp only [tx_size, List.length_append, List.length_cons, List.length_nil]; omega) ?_
        simpa [itemB, List.append_assoc] using ih'
  exact go l.length 0 (by omega)

theorem itoa_some (x : Int) (h : okI x = true) : strconv_Itoa.f x = some (tx (Lib.itoa x)) := by
  unfold strconv_Itoa.f
  rw [if_pos h]
  rfl
theorem implZText_ev (l : List S53) (hs : Small l) (h : OkI l) : Ev (fun k => impl_ZText.f k l) (tx (textZ l)) := by
  have hlen := hs.len
  have hall := textZ_len l hs.row h
  unfold impl_ZText.f
  have go : ∀ (d i : Nat), i + d = l.length → Ev (fun k => impl_ZText.l0 k ((l.take i).map (fun x => tx (itemB x))) l (l.length : Int) (i : Int)) (tx (textZ l)) := by
    intro d
    induction d with
    | zero =>
      intro i hi
      obtain rfl : i = l.length := by omega
      refine Ev.step (fun k => impl_ZText.l0.eq_2 ..) (ev_neg (by omega) ?_)
      have hj : joinF (l.map (fun x => tx (itemB x))) ⟨#[32]⟩ = textZ l := by
        unfold joinF
        rw [List.map_map, ← textZ_join]
        congr 1
      have : strings_Join.f (l.map (fun x => tx (itemB x))) ⟨#[32]⟩ = some (tx (textZ l)) := by
        unfold strings_Join.f
        rw [hj, if_pos (by rw [List.length_map]; omega), if_pos (by omega)]
        rfl
      rw [List.take_length]
      exact ev_eq this (ev_now rfl)
    | succ d ih =>
      intro i hi
      have hil : i < l.length := by omega
      have hm := List.getElem_mem hil
      have hx := h l[i] hm
      have hx1 := okI_iff.1 hx.2
      have hrow := hs.row _ hm
      have h2 := rowB_len l[i].f0 hx.1
      have h3 := Lib.itoa_length_le l[i].f1 hx1.1 hx1.2
      have ih' := ih (i + 1) (by omega)
      rw [List.take_succ_eq_append_getElem hil, List.map_append, List.map_cons, List.map_nil] at ih'
      refine Ev.step (fun k => impl_ZText.l0.eq_2 ..) (ev_pos (by omega) (ev_pos (by omega) (ev_pos (by omega) ?_)))
      rw [rdI_at l i hil, w64n (by omega), show (⟨#[42]⟩ : ByteArray) = tx [42] from rfl]
      refine ev_eq (implRowText_ev l[i].f0 hrow hx.1) (ev_pos (by rw [tx_size]; omega) (ev_eq (itoa_some l[i].f1 hx.2) ?_))
      rw [tx_append, tx_append]
      refine ev_pos (by simp only [tx_size, List.length_append, List.length_cons, List.length_nil]; omega) (ev_pos (by rw [List.length_map, List.length_take]; omega) ?_)
      simpa [itemB, List.append_assoc] using ih'
  exact go l.length 0 (by omega)

theorem wf_i64 {x : Int} (h : (Lit.int .i64 x).wf = true) : -9223372036854775808 ≤ x ∧ x ≤ 9223372036854775807 := by
  simp only [Lit.wf, Bool.and_eq_true, decide_eq_true_eq] at h
  have h1 : IntKind.i64.min = -9223372036854775808 := by decide
  have h2 : IntKind.i64.max = 9223372036854775807 := by decide
  omega
theorem FnExactZText : laws_FnExactZText.Pure := by
  intro a ⟨ha, ha'⟩
  refine Ev.rounds ?_
  unfold laws_FnExactZText.f
  obtain ⟨r, hr, hr1, hr2⟩ := szItems_ev a 1048576 ha (fun x hx => (ha' x hx).1.1) (by omega) (by omega)
  refine hr.bind ?_
  by_cases h1 : r < 0
  · exact ev_pos h1 (ev_now rfl)
  refine ev_neg h1 ?_
  have sa := hr2 (by omega)
  have ok : OkI (a.map toI) := by
    intro x hx
    obtain ⟨y, hy, rfl⟩ := List.mem_map.1 hx
    exact ⟨fun z hz => okI_iff.2 (wf_i64 ((ha' y hy).1.2 z hz)), okI_iff.2 (wf_i64 (ha' y hy).2)⟩
  have ta := toItemS_ev a sa
  have ex := eqItemS_ev (a.map toI) (a.map toI) sa
  exact ta.bind ((specZText_ev _ sa ok).bind (ta.bind ((implZText_ev _ sa ok).bind (ev_pos rfl (ta.bind (ex.bind (ev_pos (by simp) (ev_now rfl))))))))

end Go.Proofs.YtgcplipimcbhlaaDoor.Pure
