/- Whatever codes a row and a text are drawn from, the row is read back from its text if it is ok and not otherwise, and a text that is read is that of what was read: the law answers true. No condition beyond what the statement gives (bytes). -/
import Derived.Test.YtgcplipimcbhlaaDoorPFnRowx5
import Derived.Test.YtgcplipimcbhlaaDoorQ
namespace Go.Proofs.YtgcplipimcbhlaaDoor.Pure
open Go.RowKit Go.Proofs.YtgcplipimcbhlaaDoor.PFnRow Go.Proofs.YtgcplipimcbhlaaDoorW.PrintWords Go.Proofs.YtgcplipimcbhlaaDoorW.PrintLast Go.Proofs.YtgcplipimcbhlaaDoorW.PrintMore Go.Proofs.YtgcplipimcbhlaaDoor.Q

theorem equal_ev (a b : List Int) (ha : a.length < 4611686018427387904) : Ev (fun k => slices_Equal_int_int.f k a b) (decide (a = b)) := by
  unfold slices_Equal_int_int.f
  by_cases hl : a.length = b.length
  · refine ev_pos (by omega) ?_
    have h := ev_down (fun k i => slices_Equal_int_int.l0 k a b (a.length : Int) (i : Int)) (fun i => decide (a.drop i = b.drop i)) a.length ?_ ?_ 0 (by omega)
    · simpa using h
    · refine Ev.step (fun k => slices_Equal_int_int.l0.eq_2 ..) (ev_neg (by omega) (ev_now ?_))
      rw [drop_end a _ (Nat.le_refl _), drop_end b _ (by omega)]; simp
    · intro i hi ih
      refine Ev.step (fun k => slices_Equal_int_int.l0.eq_2 ..) (ev_pos (by omega) (ev_pos (by omega) (ev_pos (by omega) (ev_pos (by omega) ?_))))
      rw [drop_rd a i hi, drop_rd b i (by omega)]
      by_cases h1 : rd a i = rd b i
      · refine ev_pos h1 ?_
        rw [w64n (by omega)]
        simpa [h1] using ih
      · exact ev_neg h1 (ev_now (by simp [h1]))
  · exact ev_neg (by omega) (ev_now (by symm; rw [decide_eq_false_iff_not]; intro h; exact hl (by rw [h])))

theorem implSame_ev (a b : List Int) (ha : a.length < 4611686018427387904) : Ev (fun k => impl_RowSame.f k a b) (decide (a = b)) := by
  unfold impl_RowSame.f
  exact (equal_ev a b ha).bind (ev_now rfl)

/-- RowOk -/
def cellB (n : Int) : Bool := decide (-1000000000 ≤ n ∧ n ≤ 1000000000)
def okRow (r : List Int) : Bool := decide (1 ≤ r.length) && decide (r.length ≤ 6) && r.all cellB
theorem specCell (n : Int) : spec_l1Cell.f n = some (cellB n) := by
  unfold spec_l1Cell.f cellB
  by_cases h : n ≥ -1000000000
  · rw [if_pos h]; simp; omega
  · rw [if_neg h]; simp; omega

theorem implCell (n : Int) : impl_isCell.f n = some (cellB n) := by
  unfold impl_isCell.f cellB
  by_cases h : n ≥ -1000000000
  · rw [if_pos h]; simp; omega
  · rw [if_neg h]; simp; omega
theorem implIndex_ev (r : List Int) (hr : r.length < 4611686018427387904) : ∃ j : Int, Ev (fun k => slices_IndexFunc_int_int__impl_RowOk_1.f k r) j ∧ (decide (j ≥ 0) = !r.all cellB) := by
  have h : ∀ i, i ≤ r.length → ∃ j : Int, Ev (fun k => slices_IndexFunc_int_int__impl_RowOk_1.l0 k r (r.length : Int) (i : Int)) j ∧ (decide (j ≥ 0) = !(r.drop i).all cellB) := by
    have go : ∀ d i, i + d = r.length → ∃ j : Int, Ev (fun k => slices_IndexFunc_int_int__impl_RowOk_1.l0 k r (r.length : Int) (i : Int)) j ∧ (decide (j ≥ 0) = !(r.drop i).all cellB) := by
      intro d
      induction d with
      | zero =>
        intro i h
        refine ⟨-1, Ev.step (fun k => slices_IndexFunc_int_int__impl_RowOk_1.l0.eq_2 ..) (ev_neg (by omega) (ev_now rfl)), ?_⟩
        rw [drop_end r i (by omega)]; rfl
      | succ d ih =>
        intro i h
        obtain ⟨j, hj, hk⟩ := ih (i + 1) (by omega)
        have e1 : impl_RowOk_1.f (rd r i) = some (!cellB (rd r i)) := by unfold impl_RowOk_1.f; rw [implCell]; rfl
        rw [drop_rd r i (by omega), List.all_cons]
        cases hc : cellB (rd r i) with
        | true =>
          refine ⟨j, Ev.step (fun k => slices_IndexFunc_int_int__impl_RowOk_1.l0.eq_2 ..) (ev_pos (by omega) (ev_pos (by omega) (ev_pos (by omega) (ev_eq e1 (ev_neg (by rw [hc]; decide) ?_))))), by simpa using hk⟩
          rw [w64n (by omega)]
          exact hj
        | false =>
          refine ⟨(i : Int), Ev.step (fun k => slices_IndexFunc_int_int__impl_RowOk_1.l0.eq_2 ..) (ev_pos (by omega) (ev_pos (by omega) (ev_pos (by omega) (ev_eq e1 (ev_pos (by rw [hc]; rfl) (ev_now rfl)))))), ?_⟩
          simp
    exact fun i hi => go (r.length - i) i (by omega)
  obtain ⟨j, hj, hk⟩ := h 0 (by omega)
  exact ⟨j, by simpa [slices_IndexFunc_int_int__impl_RowOk_1.f] using hj, by simpa using hk⟩
theorem implRowOk_ev (r : List Int) (hr : r.length < 4611686018427387904) : Ev (fun k => impl_RowOk.f k r) (okRow r) := by
  obtain ⟨j, hj, hk⟩ := implIndex_ev r hr
  have hc : Ev (fun k => slices_ContainsFunc_int_int__impl_RowOk_1.f k r) (!r.all cellB) := by
    unfold slices_ContainsFunc_int_int__impl_RowOk_1.f
    exact hj.bind (ev_now hk)
  unfold impl_RowOk.f okRow
  by_cases h1 : 1 ≤ r.length
  · refine ev_pos (by omega) ?_
    by_cases h2 : r.length ≤ 6
    · exact ev_pos (by omega) (hc.bind (ev_now (by simp [h1, h2])))
    · exact ev_neg (by omega) (ev_now (by simp [h2]))
  · exact ev_neg (by omega) (ev_now (by simp [h1]))

theorem specRowOk_ev (r : List Int) (hr : r.length < 4611686018427387904) : Ev (fun k => spec_RowOk.f k r) (okRow r) := by
  have h := ev_down (fun k i => spec_RowOk.l0 k r (i : Int)) (fun i => (decide (1 ≤ r.length) && decide (r.length ≤ 6)) && (r.drop i).all cellB) r.length ?_ ?_ 0 (by omega)
  · simpa [spec_RowOk.f, okRow] using h
  · refine Ev.step (fun k => spec_RowOk.l0.eq_2 ..) (ev_neg (by omega) ?_)
    rw [drop_end r _ (Nat.le_refl _)]
    by_cases h : 1 ≤ r.length
    · exact ev_pos (by omega) (ev_now (by simp [h]; omega))
    · exact ev_neg (by omega) (ev_now (by simp [h]))
  · intro i hi ih
    refine Ev.step (fun k => spec_RowOk.l0.eq_2 ..) (ev_pos (by omega) (ev_pos (by omega) (ev_eq (specCell _) ?_)))
    rw [drop_rd r i hi, List.all_cons]
    cases hc : cellB (rd r i) with
    | true =>
      refine ev_pos rfl ?_
      rw [w64n (by omega), Bool.true_and]
      exact ih
    | false => exact ev_neg (by decide) (ev_now (by simp))

/-- a text of its bytes -/
def tx (l : List UInt8) : ByteArray := ⟨l.toArray⟩
theorem tx_size (l : List UInt8) : (tx l).size = l.length := rfl
theorem tx_append (a b : List UInt8) : tx a ++ tx b = tx (a ++ b) := by
  apply ByteArray.ext
  show (tx a ++ tx b).data = _
  rw [ByteArray.data_append]
  simp [tx]
theorem tx_inj {a b : List UInt8} (h : tx a = tx b) : a = b := by
  have := congrArg (fun x => x.data.toList) h
  simpa [tx] using this

theorem implRowText_ev (l : List Int) (hl : l.length ≤ 1048576) (h : ∀ x ∈ l, okI x = true) : impl_RowText.f l = some (tx (rowB l)) := by
  unfold impl_RowText.f
  rw [if_pos hl, if_pos (List.all_eq_true.2 h)]
  rfl

theorem digit_tx (d : Int) (h0 : 0 ≤ d) (h1 : d < 10) : strOfNums ([(wrap64 (48 + d)) % 256] : List Int) = tx [UInt8.ofNat (48 + d.toNat)] := by
  obtain ⟨n, rfl⟩ := Int.eq_ofNat_of_zero_le h0
  have hn : n < 10 := by omega
  rw [w64 (by omega) (by omega)]
  rcases n with _ | _ | _ | _ | _ | _ | _ | _ | _ | _ | n
  all_goals first | rfl | omega
theorem l12Dec_go : ∀ (b u : Nat) (acc : List UInt8), u < 10 ^ (b + 1) → b ≤ 18 → acc.length + b ≤ 1000 → Ev (fun k => spec_l12Dec.l0 k (u : Int) (tx acc)) (tx (Lib.decDigits u ++ acc)) := by
  intro b
  induction b with
  | zero =>
    intro u acc h _ hl
    have hu : u < 10 := by simpa using h
    refine Ev.step (fun k => spec_l12Dec.l0.eq_2 ..) (ev_neg (by omega) (ev_some ?_))
    rw [digit_tx (u : Int) (by omega) (by omega), Int.toNat_natCast]
    refine ev_pos (by rw [tx_size, tx_size]; simp; omega) (ev_now ?_)
    rw [tx_append, Lib.decDigits, dif_pos hu]
  | succ b ih =>
    intro u acc h hb hl
    by_cases hu : u < 10
    · refine Ev.step (fun k => spec_l12Dec.l0.eq_2 ..) (ev_neg (by omega) (ev_some ?_))
      rw [digit_tx (u : Int) (by omega) (by omega), Int.toNat_natCast]
      refine ev_pos (by rw [tx_size, tx_size]; simp; omega) (ev_now ?_)
      rw [tx_append, Lib.decDigits, dif_pos hu]
    · have hp : u < 10 ^ 20 := Nat.lt_of_lt_of_le h (Nat.pow_le_pow_right (by decide) (by omega))
      have hq : u / 10 < 10 ^ (b + 1) := by rw [Nat.pow_succ] at h; omega
      have hlt : u / 10 < 9223372036854775808 := by
        have : 10 ^ (b + 1) ≤ 10 ^ 18 := Nat.pow_le_pow_right (by decide) (by omega)
        omega
      refine Ev.step (fun k => spec_l12Dec.l0.eq_2 ..) (ev_pos (by omega) (ev_some ?_))
      have e1 : Int.tmod (u : Int) 10 = ((u % 10 : Nat) : Int) := by rw [Int.tmod_eq_emod_of_nonneg (by omega)]; omega
      have e2 : Int.tdiv (u : Int) 10 = ((u / 10 : Nat) : Int) := by rw [Int.tdiv_eq_ediv_of_nonneg (by omega)]; omega
      rw [e1, e2, digit_tx ((u % 10 : Nat) : Int) (by omega) (by omega), Int.toNat_natCast, w64 (by omega) (by omega)]
      refine ev_pos (by rw [tx_size, tx_size]; simp; omega) ?_
      rw [tx_append]
      have := ih (u / 10) (UInt8.ofNat (48 + u % 10) :: acc) hq (by omega) (by simp; omega)
      rw [Lib.decDigits.eq_def u, dif_neg hu, List.append_assoc]
      exact this
theorem l12Dec_ev (n : Int) (h0 : -9223372036854775808 ≤ n) (h1 : n ≤ 9223372036854775807) : Ev (fun k => spec_l12Dec.f k n) (tx (Lib.itoa n)) := by
  have pos : ∀ u : Nat, u ≤ 9223372036854775807 → Ev (fun k => spec_l12Dec.f k (u : Int)) (tx (Lib.decDigits u)) := by
    intro u hu
    have := l12Dec_go 18 u [] (by omega) (by omega) (by simp)
    rw [List.append_nil] at this
    exact Ev.step (fun k => spec_l12Dec.f.eq_2 ..) (ev_neg (by omega) (ev_neg (by omega) this))
  unfold Lib.itoa
  by_cases hn : n < 0
  · rw [if_pos hn]
    by_cases hm : n < -9223372036854775807
    · obtain rfl : n = -9223372036854775808 := by omega
      exact Ev.step (fun k => spec_l12Dec.f.eq_2 ..) (ev_pos (by decide) (ev_now (by decide +kernel)))
    · refine Ev.step (fun k => spec_l12Dec.f.eq_2 ..) (ev_neg hm (ev_pos hn ?_))
      rw [w64 (by omega) (by omega), show -n = ((n.natAbs : Nat) : Int) by omega]
      have hd : (Lib.decDigits n.natAbs).length ≤ 21 := by
        have := Lib.itoa_length_le n h0 h1
        unfold Lib.itoa at this
        rw [if_pos hn, List.length_cons] at this
        omega
      exact (pos n.natAbs (by omega)).bind (ev_pos (by rw [tx_size]; omega) (ev_now (tx_append [45] _)))
  · rw [if_neg hn]
    have := pos n.toNat (by omega)
    rw [show ((n.toNat : Nat) : Int) = n by omega] at this
    exact this

theorem specRowText_ev (l : List Int) (hl : l.length ≤ 1048576) (h : ∀ x ∈ l, okI x = true) : Ev (fun k => spec_RowText.f k l) (tx (rowB l)) := by
  unfold spec_RowText.f
  have go : ∀ (d i : Nat), i + d = l.length → Ev (fun k => spec_RowText.l0 k l (tx (rowB (l.take i))) (i : Int)) (tx (rowB l)) := by
    intro d
    induction d with
    | zero =>
      intro i hi
      obtain rfl : i = l.length := by omega
      exact Ev.step (fun k => spec_RowText.l0.eq_2 ..) (ev_neg (by omega) (ev_now (by rw [List.take_length])))
    | succ d ih =>
      intro i hi
      have hil : i < l.length := by omega
      have hx := okI_iff.1 (h l[i] (List.getElem_mem hil))
      have hlen := rowB_len (l.take i) (fun y hy => h y (List.mem_of_mem_take hy))
      rw [List.length_take] at hlen
      have hlen2 := Lib.itoa_length_le l[i] hx.1 hx.2
      have hrd : rd l (i : Int) = l[i] := by rw [rd_nat, List.getD_eq_getElem?_getD, List.getElem?_eq_getElem hil]; rfl
      have he := rowB_snoc (l.take i) l[i]
      rw [← List.take_succ_eq_append_getElem hil] at he
      have ih' := ih (i + 1) (by omega)
      rw [he] at ih'
      refine Ev.step (fun k => spec_RowText.l0.eq_2 ..) (ev_pos (by omega) ?_)
      rw [hrd, w64n (by omega)]
      by_cases h0 : (i : Int) > 0
      · have hne : l.take i ≠ [] := by
          intro e
          have := congrArg List.length e
          rw [List.length_take, List.length_nil] at this
          omega
        rw [if_neg hne] at ih'
        refine ev_pos h0 (ev_pos (by rw [tx_size]; omega) (ev_pos (by omega) ((l12Dec_ev l[i] hx.1 hx.2).bind ?_)))
        rw [show (⟨#[44]⟩ : ByteArray) = tx [44] from rfl, tx_append, tx_append, List.append_assoc]
        exact ev_pos (by rw [tx_size, tx_size, List.length_append]; simp; omega) ih'
      · have he0 : l.take i = [] := by rw [show i = 0 by omega]; rfl
        rw [if_pos he0] at ih'
        refine ev_neg h0 (ev_pos (by omega) ((l12Dec_ev l[i] hx.1 hx.2).bind ?_))
        rw [tx_append]
        exact ev_pos (by rw [tx_size, tx_size]; omega) ih'
  exact go l.length 0 (by omega)

theorem tx_data (a : ByteArray) : a = tx a.data.toList := by
  apply ByteArray.ext
  simp [tx]
theorem tx_toList (l : List UInt8) : (tx l).data.toList = l := by simp [tx]
theorem tx_extract (l : List UInt8) (a b : Nat) : (tx l).extract a b = tx ((l.drop a).take (b - a)) := by
  rw [tx_data ((tx l).extract a b)]
  congr 1
  simp [tx, ByteArray.data_extract]
theorem bt_tx (l : List UInt8) (i : Nat) (h : i < l.length) : bt (tx l) (i : Int) = (l[i].toNat : Int) := by
  unfold bt
  have hs : (i : Int).toNat < (tx l).size := by rw [tx_size]; simpa using h
  rw [dif_pos hs]
  rfl
theorem dv_of (d : Nat) (h : d < 10) : Lib.digitVal (UInt8.ofNat (48 + d)) = some d := by
  rcases d with _ | _ | _ | _ | _ | _ | _ | _ | _ | _ | d
  all_goals first | rfl | omega
theorem dv_inv {c : UInt8} {d : Nat} (h : Lib.digitVal c = some d) : d < 10 ∧ c = UInt8.ofNat (48 + d) := by
  obtain ⟨h1, h2, h3⟩ := Lib.digitVal_eq h
  refine ⟨by omega, ?_⟩
  apply UInt8.toNat_inj.1
  rw [UInt8.toNat_ofNat']
  omega
theorem decFrom_snoc (l : List UInt8) (c : UInt8) : ∀ acc, Lib.decFrom acc (l ++ [c]) = (Lib.decFrom acc l).bind fun m => (Lib.digitVal c).map fun d => m * 10 + d := by
  induction l with
  | nil =>
    intro acc
    simp only [List.nil_append, Lib.decFrom, Option.bind_some]
    cases Lib.digitVal c <;> rfl
  | cons b l ih =>
    intro acc
    simp only [List.cons_append, Lib.decFrom]
    cases Lib.digitVal b with
    | none => rfl
    | some e => exact ih _
theorem dig_lt {u : Nat} (h : u < 10) : Lib.decDigits u = [UInt8.ofNat (48 + u)] := by rw [Lib.decDigits, dif_pos h]
theorem dig_ge {u : Nat} (h : ¬ u < 10) : Lib.decDigits u = Lib.decDigits (u / 10) ++ [UInt8.ofNat (48 + u % 10)] := by rw [Lib.decDigits, dif_neg h]
theorem decFrom_dig (u : Nat) : Lib.decFrom 0 (Lib.decDigits u) = some u := by
  induction u using Nat.strongRecOn with
  | ind u ih =>
    by_cases h : u < 10
    · rw [dig_lt h]
      simp only [Lib.decFrom, dv_of u h]
      simp
    · rw [dig_ge h, decFrom_snoc, ih (u / 10) (by omega), dv_of (u % 10) (by omega)]
      simp only [Option.bind_some, Option.map_some]
      congr 1
      omega
theorem dig_len (k u : Nat) (h : u < 10 ^ (k + 1)) : (Lib.decDigits u).length ≤ k + 1 := by
  induction k generalizing u with
  | zero => rw [dig_lt (by simpa using h)]; simp
  | succ k ih =>
    by_cases h1 : u < 10
    · rw [dig_lt h1]; simp
    · rw [dig_ge h1, List.length_append, List.length_singleton]
      have := ih (u / 10) (by rw [Nat.pow_succ] at h; omega)
      omega
theorem dig_head (u : Nat) : ∃ c l, Lib.decDigits u = c :: l ∧ 48 ≤ c.toNat ∧ c.toNat ≤ 57 ∧ (0 < u → c ≠ 48) := by
  induction u using Nat.strongRecOn with
  | ind u ih =>
    by_cases h : u < 10
    · rw [dig_lt h]
      refine ⟨_, _, rfl, ?_⟩
      rcases u with _ | _ | _ | _ | _ | _ | _ | _ | _ | _ | u
      all_goals first | (exfalso; omega) | decide
    · obtain ⟨c, l, h1, h2, h3, h4⟩ := ih (u / 10) (by omega)
      rw [dig_ge h, h1]
      exact ⟨c, l ++ [UInt8.ofNat (48 + u % 10)], rfl, h2, h3, fun _ => h4 (by omega)⟩
theorem dec_canon : ∀ (n : Nat) (l : List UInt8) (m : Nat), l.length = n + 1 → Lib.decFrom 0 l = some m → (l.head? ≠ some 48 ∨ l.length = 1) → Lib.decDigits m = l := by
  intro n
  induction n with
  | zero =>
    intro l m hl h _
    obtain ⟨b, rfl⟩ := List.length_eq_one_iff.1 (by omega : l.length = 1)
    simp only [Lib.decFrom] at h
    cases hb : Lib.digitVal b with
    | none => rw [hb] at h; cases h
    | some d =>
      rw [hb] at h
      obtain ⟨h1, h2⟩ := dv_inv hb
      have : m = d := by simpa using h.symm
      rw [this, dig_lt h1, h2]
  | succ n ih =>
    intro l m hl h hh
    rcases List.eq_nil_or_concat l with rfl | ⟨L, b, rfl⟩
    · simp at hl
    · rw [List.concat_eq_append] at *
      have hL : L.length = n + 1 := by simp at hl; omega
      rw [decFrom_snoc] at h
      cases hm : Lib.decFrom 0 L with
      | none => rw [hm] at h; cases h
      | some m' =>
        rw [hm, Option.bind_some] at h
        cases hb : Lib.digitVal b with
        | none => rw [hb] at h; cases h
        | some d =>
          rw [hb] at h
          obtain ⟨h1, h2⟩ := dv_inv hb
          have hmd : m = m' * 10 + d := by simpa using h.symm
          have hne : L.head? ≠ some 48 := by
            rcases hh with hh | hh
            · cases L with
              | nil => simp at hL
              | cons x L => simpa using hh
            · rw [List.length_append, List.length_singleton] at hh; omega
          have e := ih L m' hL hm (.inl hne)
          have hm1 : m' ≠ 0 := by
            intro e0
            rw [e0, dig_lt (by decide)] at e
            rw [← e] at hne
            exact hne rfl
          rw [dig_ge (by omega), show m / 10 = m' by omega, show m % 10 = d by omega, e, h2]
/-- what the reference reads as a number -/
def numM (neg : Bool) (d : List UInt8) : Int × Bool := match Lib.decFrom 0 d with | some m => (if neg = true then -(m : Int) else (m : Int), true) | none => (0, false)
def numF (l : List UInt8) : Int × Bool :=
  if l.head? = some 45 then (if l.tail = [] ∨ 17 < l.tail.length ∨ l.tail.head? = some 48 then (0, false) else numM true l.tail)
  else (if l = [] ∨ 17 < l.length ∨ (l.head? = some 48 ∧ 1 < l.length) then (0, false) else numM false l)
theorem decFrom_lt17 {d : List UInt8} {m : Nat} (h : Lib.decFrom 0 d = some m) (hl : d.length ≤ 17) : m < 100000000000000000 := by
  have h1 := Lib.decFrom_lt d 0 m h
  have h2 : 10 ^ d.length ≤ 10 ^ 17 := Nat.pow_le_pow_right (by decide) hl
  omega
theorem numF_sound {l : List UInt8} {n : Int} (h : numF l = (n, true)) : l = Lib.itoa n ∧ -100000000000000000 < n ∧ n < 100000000000000000 := by
  unfold numF at h
  by_cases h45 : l.head? = some 45
  · rw [if_pos h45] at h
    split at h
    · cases h
    · next hc =>
      have c1 : l.tail ≠ [] := fun e => hc (.inl e)
      have c2 : ¬ 17 < l.tail.length := fun e => hc (.inr (.inl e))
      have c3 : l.tail.head? ≠ some 48 := fun e => hc (.inr (.inr e))
      unfold numM at h
      cases hm : Lib.decFrom 0 l.tail with
      | none => rw [hm] at h; cases h
      | some m =>
        rw [hm] at h
        have hn : n = -(m : Int) := by simpa using h.symm
        have hb := decFrom_lt17 hm (by omega)
        obtain ⟨k, hk⟩ : ∃ k, l.tail.length = k + 1 := ⟨l.tail.length - 1, by have := List.length_pos_iff.2 c1; omega⟩
        have e := dec_canon k l.tail m hk hm (.inl c3)
        have hm0 : m ≠ 0 := by
          intro e0
          rw [e0, dig_lt (by decide)] at e
          rw [← e] at c3
          exact c3 rfl
        refine ⟨?_, by omega, by omega⟩
        unfold Lib.itoa
        rw [if_pos (by omega), show n.natAbs = m by omega, e]
        cases l with
        | nil => simp at h45
        | cons c r => simp at h45; rw [h45]; rfl
  · rw [if_neg h45] at h
    split at h
    · cases h
    · next hc =>
      have c1 : l ≠ [] := fun e => hc (.inl e)
      have c2 : ¬ 17 < l.length := fun e => hc (.inr (.inl e))
      unfold numM at h
      cases hm : Lib.decFrom 0 l with
      | none => rw [hm] at h; cases h
      | some m =>
        rw [hm] at h
        have hn : n = (m : Int) := by simpa using h.symm
        have hb := decFrom_lt17 hm (by omega)
        obtain ⟨k, hk⟩ : ∃ k, l.length = k + 1 := ⟨l.length - 1, by have := List.length_pos_iff.2 c1; omega⟩
        have e := dec_canon k l m hk hm (by
          by_cases h1 : l.head? = some 48
          · exact .inr (by
              have : ¬ 1 < l.length := fun e => hc (.inr (.inr ⟨h1, e⟩))
              omega)
          · exact .inl h1)
        refine ⟨?_, by omega, by omega⟩
        unfold Lib.itoa
        rw [if_neg (by omega), show n.toNat = m by omega, e]
theorem numF_itoa {n : Int} (h0 : -100000000000000000 < n) (h1 : n < 100000000000000000) : numF (Lib.itoa n) = (n, true) := by
  unfold Lib.itoa
  by_cases hn : n < 0
  · rw [if_pos hn]
    obtain ⟨c, l, e, h2, h3, h4⟩ := dig_head n.natAbs
    have hl := dig_len 16 n.natAbs (by have : (10 : Nat) ^ (16 + 1) = 100000000000000000 := by decide
                                       omega)
    unfold numF
    rw [if_pos (show (45 :: Lib.decDigits n.natAbs).head? = some 45 from rfl), if_neg]
    · unfold numM
      show (match Lib.decFrom 0 (Lib.decDigits n.natAbs) with | some m => (if true = true then -(m : Int) else (m : Int), true) | none => (0, false)) = _
      rw [decFrom_dig]
      simp only [if_true]
      congr 1
      omega
    · rintro (hc | hc | hc)
      · rw [List.tail_cons, e] at hc; cases hc
      · rw [List.tail_cons] at hc; omega
      · rw [List.tail_cons, e] at hc
        exact h4 (by omega) (by simpa using hc)
  · rw [if_neg hn]
    obtain ⟨c, l, e, h2, h3, h4⟩ := dig_head n.toNat
    have hl := dig_len 16 n.toNat (by have : (10 : Nat) ^ (16 + 1) = 100000000000000000 := by decide
                                      omega)
    have hc45 : c ≠ 45 := by rintro rfl; revert h2; decide
    unfold numF
    rw [if_neg (by rw [e]; simpa using hc45), if_neg]
    · unfold numM
      rw [decFrom_dig]
      simp only [Bool.false_eq_true, if_false]
      congr 1
      omega
    · rintro (hc | hc | ⟨hc, hc2⟩)
      · rw [e] at hc; cases hc
      · omega
      · by_cases hz : 0 < n.toNat
        · rw [e] at hc
          exact h4 hz (by simpa using hc)
        · rw [show n.toNat = 0 by omega, dig_lt (by decide)] at hc2
          simp at hc2
theorem atoi_itoa {n : Int} (h0 : -100000000000000000 < n) (h1 : n < 100000000000000000) : Lib.atoiAll (Lib.itoa n) = .ok n := by
  unfold Lib.itoa
  by_cases hn : n < 0
  · rw [if_pos hn]
    obtain ⟨c, l, e, h2, h3, h4⟩ := dig_head n.natAbs
    have hl := dig_len 16 n.natAbs (by have : (10 : Nat) ^ (16 + 1) = 100000000000000000 := by decide
                                       omega)
    rw [Lib.atoiAll_short _ (by rw [List.length_cons]; omega)]
    have : Lib.decNat (Lib.decDigits n.natAbs) = some n.natAbs := by
      unfold Lib.decNat
      rw [e, List.isEmpty_cons, if_neg (by decide), ← e, decFrom_dig]
    simp only [Lib.atoi, beq_self_eq_true, if_true, this, Option.map_some, Lib.NumEnd.ofOption]
    congr 1
    omega
  · rw [if_neg hn]
    obtain ⟨c, l, e, h2, h3, h4⟩ := dig_head n.toNat
    have hl := dig_len 16 n.toNat (by have : (10 : Nat) ^ (16 + 1) = 100000000000000000 := by decide
                                      omega)
    have hc45 : c ≠ 45 := by rintro rfl; revert h2; decide
    have hc43 : c ≠ 43 := by rintro rfl; revert h2; decide
    rw [Lib.atoiAll_short _ (by omega)]
    have : Lib.decNat (c :: l) = some n.toNat := by
      unfold Lib.decNat
      rw [List.isEmpty_cons, if_neg (by decide), ← e, decFrom_dig]
    rw [e]
    simp only [Lib.atoi]
    rw [if_neg (by simpa using hc45), if_neg (by simpa using hc43), this]
    simp only [Option.map_some, Lib.NumEnd.ofOption]
    congr 1
    omega
theorem num_go (l : List UInt8) (neg : Bool) (hl : l.length ≤ 17) : ∀ (d i acc : Nat), i + d = l.length → acc < 10 ^ i →
    Ev (fun k => spec_l12Num.l0 k (tx l) neg (acc : Int) (i : Int)) (match Lib.decFrom acc (l.drop i) with | some m => (if neg = true then -(m : Int) else (m : Int), true) | none => (0, false)) := by
  have hp : ∀ i, i ≤ 17 → 10 ^ i ≤ 100000000000000000 := fun i hi => Nat.le_trans (Nat.pow_le_pow_right (by decide) hi) (by decide)
  intro d
  induction d with
  | zero =>
    intro i acc hi ha
    have := hp i (by omega)
    rw [drop_end l i (by omega)]
    refine Ev.step (fun k => spec_l12Num.l0.eq_2 ..) (ev_neg (by rw [tx_size]; omega) ?_)
    simp only [Lib.decFrom]
    cases neg with
    | true => exact ev_pos rfl (ev_now (by rw [w64 (by omega) (by omega)]; rfl))
    | false => exact ev_neg (by decide) (ev_now rfl)
  | succ d ih =>
    intro i acc hi ha
    have := hp i (by omega)
    have hil : i < l.length := by omega
    have hb := l[i].toNat_lt
    refine Ev.step (fun k => spec_l12Num.l0.eq_2 ..) (ev_pos (by rw [tx_size]; omega) (ev_pos (by omega) ?_))
    rw [bt_tx l i hil, List.drop_eq_getElem_cons hil]
    simp only [Lib.decFrom]
    by_cases h1 : 48 ≤ l[i].toNat ∧ l[i].toNat ≤ 57
    · have hd : Lib.digitVal l[i] = some (l[i].toNat - 48) := by unfold Lib.digitVal; rw [if_pos h1]
      rw [hd]
      refine ev_neg (by omega) (ev_neg (by omega) ?_)
      rw [w64 (x := (acc : Int) * 10) (by omega) (by omega), w64n (by omega), w64 (by omega) (by omega), show (acc : Int) * 10 + ((l[i].toNat : Int) - 48) % 256 = ((acc * 10 + (l[i].toNat - 48) : Nat) : Int) by omega]
      exact ih (i + 1) _ (by omega) (by rw [Nat.pow_succ]; omega)
    · have hd : Lib.digitVal l[i] = none := by unfold Lib.digitVal; rw [if_neg h1]
      rw [hd]
      by_cases h2 : l[i].toNat < 48
      · exact ev_pos (by omega) (ev_now rfl)
      · exact ev_neg (by omega) (ev_pos (by omega) (ev_now rfl))
theorem l12Num_ev (l : List UInt8) (hl : l.length ≤ 100000) : Ev (fun k => spec_l12Num.f k (tx l)) (numF l) := by
  unfold spec_l12Num.f numF
  rw [tx_size]
  cases l with
  | nil => exact ev_neg (by simp) (ev_pos (by simp) (ev_now (by simp)))
  | cons c r =>
    simp only [List.length_cons] at hl
    refine ev_pos (by simp <;> omega) (ev_pos (by simp <;> omega) ?_)
    have hb0 : bt (tx (c :: r)) 0 = (c.toNat : Int) := bt_tx (c :: r) 0 (by simp)
    have hx : (tx (c :: r)).extract 1 (c :: r).length = tx r := by rw [tx_extract]; congr 1; simp
    rw [hb0]
    by_cases hc : c = 45
    · subst hc
      rw [if_pos (show ((45 :: r).head? = some 45) from rfl), List.tail_cons]
      refine ev_pos rfl (ev_pos (by simp <;> omega) ?_)
      rw [hx, tx_size]
      by_cases h1 : r = []
      · subst h1
        exact ev_pos (by simp) (ev_now (by simp))
      have hr0 : 0 < r.length := List.length_pos_iff.2 h1
      refine ev_neg (by omega) ?_
      by_cases h2 : 17 < r.length
      · rw [if_pos (show r = [] ∨ 17 < r.length ∨ r.head? = some 48 from .inr (.inl h2))]
        exact ev_pos (by omega) (ev_now rfl)
      refine ev_neg (by omega) (ev_pos (by omega) ?_)
      have hb1 : bt (tx r) 0 = (r[0].toNat : Int) := bt_tx r 0 hr0
      have hh : r.head? = some r[0] := by cases r with | nil => simp at hr0 | cons x r => rfl
      rw [hb1]
      by_cases h3 : r[0] = 48
      · rw [if_pos (show r = [] ∨ 17 < r.length ∨ r.head? = some 48 from .inr (.inr (by rw [hh, h3])))]
        refine ev_pos (by rw [h3]; rfl) ?_
        by_cases h4 : (r.length : Int) > 1
        · exact ev_pos h4 (ev_now rfl)
        · exact ev_neg h4 (ev_now rfl)
      · rw [if_neg (show ¬ (r = [] ∨ 17 < r.length ∨ r.head? = some 48) by
          rintro (e | e | e)
          · exact h1 e
          · exact h2 e
          · rw [hh] at e; exact h3 (Option.some.inj e))]
        refine ev_neg (fun e => h3 (UInt8.toNat_inj.1 (by have : r[0].toNat = 48 := by omega
                                                          rw [this]; rfl))) ?_
        have := num_go r true (by omega) r.length 0 0 (by omega) (by decide)
        rw [List.drop_zero] at this
        exact this
    · have hcn : ¬ (c.toNat : Int) = 45 := fun e => hc (UInt8.toNat_inj.1 (by have : c.toNat = 45 := by omega
                                                                              rw [this]; rfl))
      have hh : (c :: r).head? = some c := rfl
      rw [if_neg (show ¬ ((c :: r).head? = some 45) by rw [hh]; intro e; exact hc (Option.some.inj e))]
      refine ev_neg hcn (ev_neg (by simp <;> omega) ?_)
      rw [List.length_cons]
      by_cases h2 : 17 < r.length + 1
      · rw [if_pos (show (c :: r = [] ∨ 17 < r.length + 1 ∨ ((c :: r).head? = some 48 ∧ 1 < r.length + 1)) from .inr (.inl h2))]
        exact ev_pos (by omega) (ev_now rfl)
      refine ev_neg (by omega) ?_
      have hneg : ((c.toNat : Int) == 45) = false := by simpa using hcn
      have go := num_go (c :: r) false (by simp <;> omega) (c :: r).length 0 0 (by omega) (by decide)
      rw [List.drop_zero] at go
      rw [hneg]
      by_cases h3 : c = 48
      · subst h3
        refine ev_pos rfl ?_
        by_cases h4 : 1 < r.length + 1
        · rw [if_pos (show ((48 : UInt8) :: r = [] ∨ 17 < r.length + 1 ∨ (((48 : UInt8) :: r).head? = some 48 ∧ 1 < r.length + 1)) from .inr (.inr ⟨rfl, h4⟩))]
          exact ev_pos (by omega) (ev_now rfl)
        · rw [if_neg (show ¬ ((48 : UInt8) :: r = [] ∨ 17 < r.length + 1 ∨ (((48 : UInt8) :: r).head? = some 48 ∧ 1 < r.length + 1)) by
            rintro (e | e | ⟨_, e⟩)
            · cases e
            · exact h2 e
            · exact h4 e)]
          exact ev_neg (by omega) go
      · rw [if_neg (show ¬ (c :: r = [] ∨ 17 < r.length + 1 ∨ ((c :: r).head? = some 48 ∧ 1 < r.length + 1)) by
          rintro (e | e | ⟨e, _⟩)
          · cases e
          · exact h2 e
          · rw [hh] at e; exact h3 (Option.some.inj e))]
        exact ev_neg (fun e => h3 (UInt8.toNat_inj.1 (by have : c.toNat = 48 := by omega
                                                         rw [this]; rfl))) go

/-- the pieces of a text between bytes c -/
def cutG (c : UInt8) : List UInt8 → List UInt8 → List (List UInt8)
  | cur, [] => [cur]
  | cur, x :: l => if x = c then cur :: cutG c [] l else cutG c (cur ++ [x]) l
theorem take_one (l : List UInt8) (f i : Nat) (h : f ≤ i) (hi : i < l.length) : (l.drop f).take (i + 1 - f) = (l.drop f).take (i - f) ++ [l[i]] := by
  rw [show i + 1 - f = (i - f) + 1 by omega, List.take_add, List.drop_drop, show f + (i - f) = i by omega, List.drop_eq_getElem_cons hi]
  rfl
theorem l12Cut_ev (l : List UInt8) (c : UInt8) (hl : l.length ≤ 4194304) : Ev (fun k => spec_l12Cut.f k (tx l) (c.toNat : Int)) ((cutG c [] l).map tx) := by
  have go : ∀ (d i f : Nat) (acc : List ByteArray), i + d = l.length → f ≤ i → acc.length ≤ i →
      Ev (fun k => spec_l12Cut.l0 k (tx l) (c.toNat : Int) acc (f : Int) (i : Int)) (acc ++ (cutG c ((l.drop f).take (i - f)) (l.drop i)).map tx) := by
    intro d
    induction d with
    | zero =>
      intro i f acc hi hf ha
      refine Ev.step (fun k => spec_l12Cut.l0.eq_2 ..) (ev_pos (by rw [tx_size]; omega) (ev_pos (by rw [tx_size]; omega) (ev_pos (by omega) (ev_pos (by omega) (ev_pos (by omega) ?_)))))
      rw [w64n (by omega)]
      refine Ev.step (fun k => spec_l12Cut.l0.eq_2 ..) (ev_neg (by rw [tx_size]; omega) (ev_now ?_))
      rw [tx_extract, Int.toNat_natCast, Int.toNat_natCast, drop_end l i (by omega)]
      rfl
    | succ d ih =>
      intro i f acc hi hf ha
      have hil : i < l.length := by omega
      refine Ev.step (fun k => spec_l12Cut.l0.eq_2 ..) (ev_pos (by rw [tx_size]; omega) (ev_neg (by rw [tx_size]; omega) (ev_pos (by omega) (ev_pos (by rw [tx_size]; omega) ?_))))
      rw [bt_tx l i hil, w64n (by omega), List.drop_eq_getElem_cons hil, cutG]
      by_cases h : l[i] = c
      · rw [if_pos h]
        refine ev_pos (by rw [h]) (ev_pos (by omega) (ev_pos (by omega) (ev_pos (by omega) ?_)))
        rw [tx_extract, Int.toNat_natCast, Int.toNat_natCast]
        have := ih (i + 1) (i + 1) (acc ++ [tx ((l.drop f).take (i - f))]) (by omega) (Nat.le_refl _) (by simp; omega)
        rw [Nat.sub_self, List.take_zero, List.append_assoc] at this
        exact this
      · rw [if_neg h]
        refine ev_neg (fun e => h (UInt8.toNat_inj.1 (by omega))) ?_
        have := ih (i + 1) f acc (by omega) (by omega) (by omega)
        rw [take_one l f i hf hil] at this
        exact this
  unfold spec_l12Cut.f
  have := go l.length 0 0 [] (by omega) (Nat.le_refl _) (Nat.le_refl _)
  simpa using this
theorem cutG_skip (c : UInt8) : ∀ (m l cur : List UInt8), (∀ x ∈ m, x ≠ c) → cutG c cur (m ++ l) = cutG c (cur ++ m) l := by
  intro m
  induction m with
  | nil => intro l cur _; simp
  | cons x m ih =>
    intro l cur h
    rw [List.cons_append, cutG, if_neg (h x List.mem_cons_self), ih _ _ (fun y hy => h y (List.mem_cons_of_mem _ hy)), List.append_assoc]
    rfl
theorem cutG_len (c : UInt8) : ∀ (l cur : List UInt8), ∀ p ∈ cutG c cur l, p.length ≤ cur.length + l.length := by
  intro l
  induction l with
  | nil => intro cur p hp; simp [cutG] at hp; subst hp; simp
  | cons x l ih =>
    intro cur p hp
    rw [cutG] at hp
    by_cases h : x = c
    · rw [if_pos h] at hp
      rcases List.mem_cons.1 hp with rfl | hp
      · simp
      · have := ih [] p hp
        simp at this ⊢
        omega
    · rw [if_neg h] at hp
      have := ih _ p hp
      simp at this ⊢
      omega
theorem cutG_many (c : UInt8) : ∀ (l cur : List UInt8), (cutG c cur l).length ≤ l.length + 1 := by
  intro l
  induction l with
  | nil => intro cur; simp [cutG]
  | cons x l ih =>
    intro cur
    rw [cutG]
    split
    · have := ih []; simp; omega
    · have := ih (cur ++ [x]); simp; omega
/-- pieces put together again -/
def joinP (c : UInt8) : List (List UInt8) → List UInt8
  | [] => []
  | p :: ps => p ++ (ps.map (c :: ·)).flatten
theorem cutG_ne (c : UInt8) : ∀ (l cur : List UInt8), cutG c cur l ≠ [] := by
  intro l
  induction l with
  | nil => intro cur; simp [cutG]
  | cons x l ih => intro cur; rw [cutG]; split <;> simp [ih]
theorem joinP_cons (c : UInt8) (p : List UInt8) (ps : List (List UInt8)) (h : ps ≠ []) : joinP c (p :: ps) = p ++ c :: joinP c ps := by
  cases ps with
  | nil => exact absurd rfl h
  | cons q ps => simp [joinP]
theorem cutG_join (c : UInt8) : ∀ (l cur : List UInt8), joinP c (cutG c cur l) = cur ++ l := by
  intro l
  induction l with
  | nil => intro cur; simp [cutG, joinP]
  | cons x l ih =>
    intro cur
    rw [cutG]
    by_cases h : x = c
    · rw [if_pos h, joinP_cons _ _ _ (cutG_ne c l []), ih [], h]
      rfl
    · rw [if_neg h, ih, List.append_assoc]
      rfl
theorem dig_bytes (u : Nat) : ∀ c ∈ Lib.decDigits u, 48 ≤ c.toNat ∧ c.toNat ≤ 57 := by
  induction u using Nat.strongRecOn with
  | ind u ih =>
    have one : ∀ d, d < 10 → 48 ≤ (UInt8.ofNat (48 + d)).toNat ∧ (UInt8.ofNat (48 + d)).toNat ≤ 57 := by
      intro d hd
      rw [UInt8.toNat_ofNat']
      omega
    intro c hc
    by_cases h : u < 10
    · rw [dig_lt h, List.mem_singleton] at hc
      rw [hc]
      exact one u h
    · rw [dig_ge h, List.mem_append, List.mem_singleton] at hc
      rcases hc with hc | hc
      · exact ih (u / 10) (by omega) c hc
      · rw [hc]
        exact one _ (by omega)
theorem itoa_bytes (n : Int) : ∀ c ∈ Lib.itoa n, c.toNat = 45 ∨ (48 ≤ c.toNat ∧ c.toNat ≤ 57) := by
  intro c hc
  unfold Lib.itoa at hc
  split at hc
  · rcases List.mem_cons.1 hc with rfl | hc
    · exact .inl rfl
    · exact .inr (dig_bytes _ c hc)
  · exact .inr (dig_bytes _ c hc)
theorem itoa_no (n : Int) (b : UInt8) (hb : b.toNat < 45) : ∀ c ∈ Lib.itoa n, c ≠ b := by
  intro c hc e
  have := itoa_bytes n c hc
  rw [e] at this
  omega

theorem rowB_join : ∀ rs : List Int, rowB rs = joinP 44 (rs.map Lib.itoa) := by
  intro rs
  cases rs with
  | nil => rfl
  | cons x l => simp only [rowB, tailB, joinP, List.map_cons, List.map_map]; rfl
theorem cut_row : ∀ (l : List Int) (x : Int), cutG 44 [] (rowB (x :: l)) = (x :: l).map Lib.itoa := by
  intro l
  induction l with
  | nil =>
    intro x
    rw [rowB, show tailB [] = [] from rfl, cutG_skip 44 _ _ _ (itoa_no x 44 (by decide))]
    rfl
  | cons y l ih =>
    intro x
    rw [rowB, show tailB (y :: l) = 44 :: rowB (y :: l) by simp [tailB, rowB], cutG_skip 44 _ _ _ (itoa_no x 44 (by decide)), List.nil_append, cutG, if_pos rfl, ih y]
    rfl
/-- pieces read as numbers -/
def numsF : List (List UInt8) → Option (List Int)
  | [] => some []
  | p :: ps => if (numF p).2 = true then (numsF ps).map ((numF p).1 :: ·) else none
theorem numsF_sound : ∀ (ps : List (List UInt8)) (rs : List Int), numsF ps = some rs → ps = rs.map Lib.itoa ∧ ∀ x ∈ rs, -100000000000000000 < x ∧ x < 100000000000000000 := by
  intro ps
  induction ps with
  | nil => intro rs h; simp [numsF] at h; subst h; simp
  | cons p ps ih =>
    intro rs h
    rw [numsF] at h
    by_cases hp : (numF p).2 = true
    · rw [if_pos hp] at h
      cases hq : numsF ps with
      | none => rw [hq] at h; cases h
      | some r =>
        rw [hq] at h
        have hr : rs = (numF p).1 :: r := by simpa using h.symm
        obtain ⟨e1, e2⟩ := ih r hq
        obtain ⟨s1, s2, s3⟩ := numF_sound (l := p) (n := (numF p).1) (Prod.ext rfl hp)
        subst hr
        refine ⟨?_, ?_⟩
        · rw [List.map_cons, ← e1, ← s1]
        · intro x hx
          rcases List.mem_cons.1 hx with rfl | hx
          · exact ⟨s2, s3⟩
          · exact e2 x hx
    · rw [if_neg hp] at h; cases h
theorem numsF_itoa : ∀ (rs : List Int), (∀ x ∈ rs, -100000000000000000 < x ∧ x < 100000000000000000) → numsF (rs.map Lib.itoa) = some rs := by
  intro rs
  induction rs with
  | nil => intro _; rfl
  | cons x rs ih =>
    intro h
    have hx := h x List.mem_cons_self
    rw [List.map_cons, numsF, numF_itoa hx.1 hx.2, if_pos rfl, ih (fun y hy => h y (List.mem_cons_of_mem _ hy))]
    rfl
def atois : List Int → List (List UInt8) → Option (List Int)
  | rs, [] => some rs
  | rs, p :: ps => match Lib.atoiAll p with | .ok v => atois (rs ++ [v]) ps | _ => none
theorem goB_atois : ∀ (l cur : List UInt8) (rs : List Int), goB cur rs (l ++ [44]) = atois rs (cutG 44 cur l) := by
  intro l
  induction l with
  | nil =>
    intro cur rs
    rw [List.nil_append, goB, if_pos rfl, cutG, atois]
    cases Lib.atoiAll cur with
    | ok v => rfl
    | range => rfl
    | _ => rfl
  | cons x l ih =>
    intro cur rs
    rw [List.cons_append, goB, cutG]
    by_cases h : x = 44
    · rw [if_pos h, if_pos h, atois]
      cases Lib.atoiAll cur with
      | ok v => exact ih [] _
      | range => rfl
      | _ => rfl
    · rw [if_neg h, if_neg h]
      exact ih _ _
theorem atois_itoa : ∀ (rs acc : List Int), (∀ x ∈ rs, -100000000000000000 < x ∧ x < 100000000000000000) → atois acc (rs.map Lib.itoa) = some (acc ++ rs) := by
  intro rs
  induction rs with
  | nil => intro acc _; simp [atois]
  | cons x rs ih =>
    intro acc h
    have hx := h x List.mem_cons_self
    rw [List.map_cons, atois, atoi_itoa hx.1 hx.2]
    show atois (acc ++ [x]) (rs.map Lib.itoa) = _
    rw [ih _ (fun y hy => h y (List.mem_cons_of_mem _ hy)), List.append_assoc]
    rfl
/-- what RowRead tells -/
def readR (l : List UInt8) : List Int × Bool := if l.length > 100 then ([], false) else match numsF (cutG 44 [] l) with | some rs => (if okRow rs = true then (rs, true) else ([], false)) | none => ([], false)
theorem okRow_mem {r : List Int} (h : okRow r = true) : 1 ≤ r.length ∧ r.length ≤ 6 ∧ ∀ x ∈ r, -1000000000 ≤ x ∧ x ≤ 1000000000 := by
  unfold okRow at h
  simp only [Bool.and_eq_true, decide_eq_true_eq, List.all_eq_true] at h
  exact ⟨h.1.1, h.1.2, fun x hx => by have := h.2 x hx; unfold cellB at this; simpa using this⟩
theorem readR_len (l : List UInt8) : (readR l).1.length ≤ 6 := by
  unfold readR
  split
  · simp
  · split
    · split
      · next h => exact (okRow_mem h).2.1
      · simp
    · simp
theorem implRead_ev (l : List UInt8) : Ev (fun k => impl_RowRead.f k (tx l)) (readR l) := by
  unfold impl_RowRead.f readR
  rw [tx_size, tx_toList]
  by_cases h0 : l.length > 100
  · rw [if_pos h0]
    exact ev_pos h0 (ev_now rfl)
  rw [if_neg h0, goB_atois]
  refine ev_neg h0 ?_
  cases hs : numsF (cutG 44 [] l) with
  | some rs =>
    obtain ⟨e1, e2⟩ := numsF_sound _ _ hs
    have ha := atois_itoa rs [] e2
    rw [← e1, List.nil_append] at ha
    rw [ha]
    have hlen : rs.length ≤ 101 := by
      have := congrArg List.length e1
      have h1 := cutG_many 44 l []
      rw [List.length_map] at this
      omega
    refine (implRowOk_ev rs (by omega)).bind ?_
    by_cases hk : okRow rs = true
    · simp only [hk, if_true]
      have hj : rowB rs = l := by
        have := cutG_join 44 l []
        rw [e1, ← rowB_join] at this
        exact this
      have ht := implRowText_ev rs (by omega) (fun x hx => okI_iff.2 (by have := (okRow_mem hk).2.2 x hx; omega))
      rw [hj] at ht
      exact ev_eq ht (ev_pos rfl (ev_now rfl))
    · simp only [hk]
      exact ev_now (by simp)
  | none =>
    cases ha : atois [] (cutG 44 [] l) with
    | none => exact ev_now rfl
    | some rs =>
      by_cases hk : okRow rs = true
      · have hm := okRow_mem hk
        have hok : ∀ x ∈ rs, okI x = true := fun x hx => okI_iff.2 (by have := hm.2.2 x hx; omega)
        have hne : rowB rs ≠ l := by
          intro e
          cases rs with
          | nil => simp at hm
          | cons x rs =>
            rw [← e, cut_row, numsF_itoa _ (fun y hy => by have := hm.2.2 y hy; omega)] at hs
            cases hs
        refine (implRowOk_ev rs (by omega)).bind ?_
        simp only [hk, if_true]
        exact ev_eq (implRowText_ev rs (by omega) hok) (ev_neg (fun e => hne (tx_inj e)) (ev_now rfl))
      · have hlen : Ev (fun k => impl_RowOk.f k rs) (okRow rs) := implRowOk_ev rs (by
          have h1 := cutG_many 44 l []
          have : ∀ (ps : List (List UInt8)) (acc r : List Int), atois acc ps = some r → r.length = acc.length + ps.length := by
            intro ps
            induction ps with
            | nil => intro acc r h; simp [atois] at h; subst h; simp
            | cons p ps ih =>
              intro acc r h
              rw [atois] at h
              cases hp : Lib.atoiAll p with
              | ok v => rw [hp] at h; have := ih _ _ h; simp at this ⊢; omega
              | range => rw [hp] at h; cases h
              | _ => rw [hp] at h; cases h
          have := this _ _ _ ha
          simp at this
          omega)
        refine hlen.bind ?_
        simp only [hk]
        exact ev_now (by simp)
theorem specRead_ev (l : List UInt8) (hl : l.length ≤ 4194304) : Ev (fun k => spec_RowRead.f k (tx l)) (readR l) := by
  unfold spec_RowRead.f readR
  rw [tx_size]
  by_cases h0 : l.length > 100
  · rw [if_pos h0]
    exact ev_pos (by omega) (ev_now rfl)
  rw [if_neg h0]
  refine ev_neg (by omega) ((l12Cut_ev l 44 hl).bind ?_)
  have hm := cutG_many 44 l []
  have hp := cutG_len 44 l []
  generalize cutG 44 [] l = ps at hm hp
  have go : ∀ (d i : Nat) (acc : List Int), i + d = ps.length → acc.length ≤ i →
      Ev (fun k => spec_RowRead.l0 k (ps.map tx) acc (i : Int)) (match numsF (ps.drop i) with | some rs => (if okRow (acc ++ rs) = true then (acc ++ rs, true) else ([], false)) | none => ([], false)) := by
    intro d
    induction d with
    | zero =>
      intro i acc hi ha
      rw [drop_end ps i (by omega)]
      simp only [numsF, List.append_nil]
      refine Ev.step (fun k => spec_RowRead.l0.eq_2 ..) (ev_neg (by rw [List.length_map]; omega) ((specRowOk_ev acc (by omega)).bind ?_))
      by_cases hk : okRow acc = true
      · exact ev_pos hk (ev_now (by rw [if_pos hk]))
      · exact ev_neg hk (ev_now (by rw [if_neg hk]))
    | succ d ih =>
      intro i acc hi ha
      have hil : i < ps.length := by omega
      have hpl := hp _ (List.getElem_mem hil)
      have hrd : rdOf ByteArray.empty (ps.map tx) (i : Int) = tx ps[i] := by
        unfold rdOf
        rw [Int.toNat_natCast, List.getD_eq_getElem?_getD, List.getElem?_map, List.getElem?_eq_getElem hil]
        rfl
      refine Ev.step (fun k => spec_RowRead.l0.eq_2 ..) (ev_pos (by rw [List.length_map]; omega) (ev_pos (by omega) ?_))
      rw [hrd, List.drop_eq_getElem_cons hil, numsF]
      refine (l12Num_ev ps[i] (by simp at hpl; omega)).bind ?_
      by_cases hn : (numF ps[i]).2 = true
      · rw [if_pos hn]
        refine ev_pos hn (ev_pos (by omega) ?_)
        rw [w64n (by omega)]
        have := ih (i + 1) (acc ++ [(numF ps[i]).1]) (by omega) (by simp; omega)
        cases hq : numsF (ps.drop (i + 1)) with
        | none => rw [hq] at this; exact this
        | some rs =>
          rw [hq] at this
          simp only [List.append_assoc, List.singleton_append] at this
          exact this
      · rw [if_neg hn]
        exact ev_neg hn (ev_now rfl)
  have := go ps.length 0 [] (by omega) (Nat.le_refl _)
  simpa using this

theorem itoa_len {x : Int} (h0 : -1000000001 ≤ x) (h1 : x ≤ 1000000001) : (Lib.itoa x).length ≤ 11 := by
  have p : (10 : Nat) ^ (9 + 1) = 10000000000 := rfl
  unfold Lib.itoa
  split
  · rw [List.length_cons]
    have := dig_len 9 x.natAbs (by omega)
    omega
  · have := dig_len 9 x.toNat (by omega)
    omega
theorem rowB_len11 : ∀ l : List Int, (∀ x ∈ l, -1000000001 ≤ x ∧ x ≤ 1000000001) → (rowB l).length ≤ 12 * l.length := by
  intro l h
  have ht : ∀ l : List Int, (∀ x ∈ l, -1000000001 ≤ x ∧ x ≤ 1000000001) → (tailB l).length ≤ 12 * l.length := by
    intro l
    induction l with
    | nil => intro _; simp [tailB]
    | cons x l ih =>
      intro h
      have := ih (fun y hy => h y (List.mem_cons_of_mem _ hy))
      have hx := h x List.mem_cons_self
      have := itoa_len hx.1 hx.2
      unfold tailB at *
      simp only [List.map_cons, List.flatten_cons, List.length_append, List.length_cons] at *
      omega
  cases l with
  | nil => simp [rowB]
  | cons x l =>
    have := ht l (fun y hy => h y (List.mem_cons_of_mem _ hy))
    have hx := h x List.mem_cons_self
    have := itoa_len hx.1 hx.2
    rw [rowB, List.length_append, List.length_cons]
    omega
/-- a row's text is read as the row, if the row is ok -/
theorem readR_rowB (r : List Int) (h : ∀ x ∈ r, -1000000001 ≤ x ∧ x ≤ 1000000001) : readR (rowB r) = if okRow r = true then (r, true) else ([], false) := by
  cases r with
  | nil => rfl
  | cons x l =>
    unfold readR
    by_cases h0 : (rowB (x :: l)).length > 100
    · rw [if_pos h0, if_neg]
      intro hk
      have := (okRow_mem hk).2.1
      have := rowB_len11 _ h
      omega
    · rw [if_neg h0, cut_row, numsF_itoa _ (fun y hy => by have := h y hy; omega)]
theorem readR_true {l : List UInt8} {y : List Int} (h : readR l = (y, true)) : rowB y = l ∧ okRow y = true := by
  unfold readR at h
  by_cases h0 : l.length > 100
  · rw [if_pos h0] at h; cases h
  rw [if_neg h0] at h
  cases hs : numsF (cutG 44 [] l) with
  | none => rw [hs] at h; cases h
  | some rs =>
    rw [hs] at h
    simp only at h
    by_cases hk : okRow rs = true
    · rw [if_pos hk] at h
      injection h with h _
      subst h
      refine ⟨?_, hk⟩
      have := cutG_join 44 l []
      rw [(numsF_sound _ _ hs).1, ← rowB_join] at this
      exact this
    · rw [if_neg hk] at h; cases h

/-! draws -/
theorem xor_pos (x y : Int) (h0 : 0 ≤ x) (h1 : x < 4611686018427387904) (h2 : 0 ≤ y) (h3 : y < 4611686018427387904) : 0 ≤ Go.bits .xor .i64 x y := by
  obtain ⟨a, rfl⟩ := Int.eq_ofNat_of_zero_le h0
  obtain ⟨b, rfl⟩ := Int.eq_ofNat_of_zero_le h2
  have ha : a < 2 ^ 62 := by omega
  have hb : b < 2 ^ 62 := by omega
  have ha' : a % 2 ^ IntKind.i64.bits = a := Nat.mod_eq_of_lt (Nat.lt_of_lt_of_le ha (by decide))
  have hb' : b % 2 ^ IntKind.i64.bits = b := Nat.mod_eq_of_lt (Nat.lt_of_lt_of_le hb (by decide))
  have hx : a ^^^ b < 2 ^ 62 := Nat.xor_lt_two_pow ha hb
  simp only [bits, BitVec.ofInt_natCast, BitVec.toNat_xor, BitVec.toNat_ofNat, ha', hb']
  rw [IntKind.wrap_i64]
  omega
/-- a code as the draws read it, and a place in it -/
structure Code_ (b : List Int) : Prop where
  len : b.length ≤ 2000
  byte : ∀ i : Int, 0 ≤ rd b i ∧ rd b i ≤ 255
def lim : Int := 1000000000
theorem tmod_lt (x n : Int) (h0 : 0 ≤ x) (hn : 0 < n) : 0 ≤ Int.tmod x n ∧ Int.tmod x n < n := by
  rw [Int.tmod_eq_emod_of_nonneg h0]
  exact ⟨Int.emod_nonneg _ (by omega), Int.emod_lt_of_pos _ hn⟩
theorem pick_some {b : List Int} (hb : Code_ b) (p n : Int) (hp : 0 ≤ p) (hp1 : p ≤ lim) (hn : 1 ≤ n) : ∃ v, spec_l12Rd_pick.f b p n = some (v, p + 1) ∧ 0 ≤ v ∧ v < n := by
  have hl := hb.len
  unfold lim at hp1
  unfold spec_l12Rd_pick.f
  have e1 : wrap64 (p + 1) = p + 1 := w64 (by omega) (by omega)
  have e2 : wrap64 (p + 1 - 1) = p := by rw [w64 (by omega) (by omega)]; omega
  rw [e1, e2, if_neg (by omega)]
  by_cases h0 : (b.length : Int) = 0
  · rw [if_pos h0]; exact ⟨0, rfl, by omega, by omega⟩
  · rw [if_neg h0]
    by_cases h1 : p < b.length
    · rw [if_pos h1, if_pos hp, if_neg (by omega)]
      have hr := hb.byte p
      rw [w64 (by omega) (by omega)]
      have := tmod_lt (rd b p) n hr.1 (by omega)
      exact ⟨_, rfl, this.1, this.2⟩
    · rw [if_neg h1]
      have hm := tmod_lt p b.length hp (by omega)
      have e3 : wrap64 (p * 7) = p * 7 := w64 (by omega) (by omega)
      have e4 : wrap64 (p * 7 + 3) = p * 7 + 3 := w64 (by omega) (by omega)
      have hm2 := tmod_lt (p * 7 + 3) b.length (by omega) (by omega)
      rw [e3, e4, if_pos hm.1, if_pos hm.2, if_pos hm2.1, if_pos hm2.2, if_neg (by omega)]
      have b1 := hb.byte (Int.tmod p b.length)
      have b2 := hb.byte (Int.tmod (p * 7 + 3) b.length)
      generalize rd b (Int.tmod p b.length) = u at b1 ⊢
      generalize rd b (Int.tmod (p * 7 + 3) b.length) = v at b2 ⊢
      have hd : 0 ≤ Int.tdiv p b.length ∧ Int.tdiv p b.length ≤ p := by
        rw [Int.tdiv_eq_ediv_of_nonneg hp]
        exact ⟨Int.ediv_nonneg hp (by omega), Int.ediv_le_self _ hp⟩
      generalize Int.tdiv p b.length = d at hd ⊢
      have f1 : wrap64 u = u := w64 (by omega) (by omega)
      have f2 : wrap64 v = v := w64 (by omega) (by omega)
      have f3 : wrap64 d = d := w64 (by omega) (by omega)
      have f4 : wrap64 (u * 131) = u * 131 := w64 (by omega) (by omega)
      have f5 : wrap64 (v * 1117) = v * 1117 := w64 (by omega) (by omega)
      have f6 : wrap64 (p * 29) = p * 29 := w64 (by omega) (by omega)
      have f7 : wrap64 (d * 53) = d * 53 := w64 (by omega) (by omega)
      have f8 : wrap64 (u * 131 + v * 1117) = u * 131 + v * 1117 := w64 (by omega) (by omega)
      have f9 : wrap64 (u * 131 + v * 1117 + p * 29) = u * 131 + v * 1117 + p * 29 := w64 (by omega) (by omega)
      have f10 : wrap64 (u * 131 + v * 1117 + p * 29 + d * 53) = u * 131 + v * 1117 + p * 29 + d * 53 := w64 (by omega) (by omega)
      rw [f1, f2, f3, f4, f5, f6, f7, f8, f9, f10]
      generalize hX : u * 131 + v * 1117 + p * 29 + d * 53 = X
      have hX0 : 0 ≤ X := by omega
      have hX1 : X < 4611686018427387904 := by omega
      have g1 : Int.tdiv X 64 = X / 64 := Int.tdiv_eq_ediv_of_nonneg hX0
      rw [g1, w64 (by omega) (by omega)]
      have := tmod_lt (Go.bits .xor .i64 X (X / 64)) n (xor_pos X (X / 64) hX0 hX1 (by omega) (by omega)) (by omega)
      exact ⟨_, rfl, this.1, this.2⟩
theorem rd_mem (l : List Int) (i : Int) (h0 : 0 ≤ i) (h1 : i < l.length) : rd l i ∈ l := by
  obtain ⟨n, rfl⟩ := Int.eq_ofNat_of_zero_le h0
  rw [show ((n : Nat) : Int) = (n : Int) from rfl, rd_nat, List.getD_eq_getElem?_getD, List.getElem?_eq_getElem (by omega)]
  exact List.getElem_mem _
theorem open_some (l : List Int) (hl : ∀ x ∈ l, (Lit.int .u8 x).wf = true) : ∃ b, spec_l12Open.f l = some (b, 0) ∧ Code_ b := by
  have hw : ∀ x ∈ l, 0 ≤ x ∧ x ≤ 255 := fun x hx => by
    have := hl x hx
    simp [Lit.wf, IntKind.min, IntKind.max, IntKind.bits, IntKind.signed] at this
    omega
  have hr : ∀ m : List Int, (∀ x ∈ m, 0 ≤ x ∧ x ≤ 255) → ∀ i : Int, 0 ≤ rd m i ∧ rd m i ≤ 255 := fun m hm i => by
    unfold rd
    rw [List.getD_eq_getElem?_getD]
    cases h : m[i.toNat]? with
    | none => simp
    | some x => exact hm x (List.mem_of_getElem? h)
  unfold spec_l12Open.f
  by_cases h : (l.length : Int) > 2000
  · rw [if_pos h, if_pos (by omega)]
    exact ⟨_, rfl, ⟨by simp; omega, hr _ (fun x hx => hw x (List.mem_of_mem_take hx))⟩⟩
  · rw [if_neg h]
    exact ⟨_, rfl, ⟨by omega, hr _ hw⟩⟩

theorem num_some {b : List Int} (hb : Code_ b) (p : Int) (l : List Int) (hp : 0 ≤ p) (hp1 : p ≤ lim) (hl : 1 ≤ l.length) : ∃ v, spec_l12Rd_num.f b p l = some (v, p + 1) ∧ v ∈ l := by
  obtain ⟨v, hv, h0, h1⟩ := pick_some hb p l.length hp hp1 (by omega)
  refine ⟨rd l v, ?_, rd_mem l v h0 h1⟩
  unfold spec_l12Rd_num.f
  rw [hv]
  simp only [Option.bind_some]
  rw [if_pos h0, if_pos h1]

def drawnCell (x : Int) : Prop := -1 ≤ x ∧ x ≤ 5
theorem row_ev {b : List Int} (hb : Code_ b) (p : Int) (wide : Nat) (hp : 0 ≤ p) (hp1 : p + wide ≤ lim) : ∃ r : List Int, Ev (fun k => spec_l1Row.f k b p wide) (r, p + wide) ∧ r.length = wide ∧ ∀ x ∈ r, drawnCell x := by
  have hlim : lim = 1000000000 := rfl
  have go : ∀ (d i : Nat) (acc : List Int), i + d = wide → acc.length = i → (∀ x ∈ acc, drawnCell x) →
      ∃ r : List Int, Ev (fun k => spec_l1Row.l0 k wide acc i b (p + i)) (r, p + wide) ∧ r.length = wide ∧ ∀ x ∈ r, drawnCell x := by
    intro d
    induction d with
    | zero =>
      intro i acc hi ha hc
      obtain rfl : i = wide := by omega
      exact ⟨acc, Ev.step (fun k => spec_l1Row.l0.eq_2 ..) (ev_neg (by omega) (ev_now rfl)), ha, hc⟩
    | succ d ih =>
      intro i acc hi ha hc
      obtain ⟨v, hv, hm⟩ := num_some hb (p + i) [0, 1, 2, 3, 1, 2, -1, 5] (by omega) (by omega) (by decide)
      have hv2 : drawnCell v := by simp at hm; unfold drawnCell; omega
      obtain ⟨r, hr, h1, h2⟩ := ih (i + 1) (acc ++ [v]) (by omega) (by simp [ha]) (fun x hx => by
        rcases List.mem_append.1 hx with h | h
        · exact hc x h
        · simp at h; subst h; exact hv2)
      refine ⟨r, Ev.step (fun k => spec_l1Row.l0.eq_2 ..) (ev_pos (by omega) (ev_eq hv (ev_pos (by omega) ?_))), h1, h2⟩
      rw [w64n (by omega)]
      have e : p + (i : Int) + 1 = p + ((i + 1 : Nat) : Int) := by omega
      simp only [e]
      exact hr
  obtain ⟨r, hr, h1, h2⟩ := go wide 0 [] (by omega) rfl (by simp)
  refine ⟨r, ?_, h1, h2⟩
  unfold spec_l1Row.f
  simpa using hr

/-- what l1Bent draws -/
def bentCell (x : Int) : Prop := -1000000001 ≤ x ∧ x ≤ 1000000001
theorem bent_ev {b : List Int} (hb : Code_ b) (p : Int) (hp : 0 ≤ p) (hp1 : p + 20 ≤ lim) : ∃ (r : List Int) (q : Int), Ev (fun k => spec_l1Bent.f k b p) (r, q) ∧ p ≤ q ∧ q ≤ p + 20 ∧ r.length ≤ 7 ∧ ∀ x ∈ r, bentCell x := by
  have hlim : lim = 1000000000 := rfl
  have hd : ∀ x, drawnCell x → bentCell x := fun x h => by unfold drawnCell at h; unfold bentCell; omega
  obtain ⟨w, hw, w0, w1⟩ := pick_some hb p 4 hp (by omega) (by omega)
  obtain ⟨n, rfl⟩ := Int.eq_ofNat_of_zero_le w0
  obtain ⟨r, hr, r1, r2⟩ := row_ev hb (p + 1) (1 + n) (by omega) (by omega)
  have e1 : wrap64 (1 + (n : Int)) = ((1 + n : Nat) : Int) := by rw [w64 (by omega) (by omega)]; omega
  obtain ⟨c, hc, c0, c1⟩ := pick_some hb (p + 1 + ((1 + n : Nat) : Int)) 30 (by omega) (by omega) (by omega)
  have start : ∀ {r' : List Int} {q' : Int}, Ev (fun k => (spec_l12Rd_pick.f b (p + 1 + ((1 + n : Nat) : Int)) 30).bind fun z => (if z.1 = 0 then (some ((([] : List Int)), z.2)) else (if z.1 = 1 then ((spec_l12Rd_num.f b z.2 (([1000000000, 1000000001, (-1000000000), (-1000000001)] : List Int))).bind fun y => (if 0 < (r.length : Int) then (some ((r.set (0 : Int).toNat y.1), y.2)) else (none))) else (if z.1 = 2 then ((spec_l12Rd_num.f b z.2 (([6, 7] : List Int))).bind fun y => ((spec_l1Row.f k b y.2 y.1).bind fun u => (some (u.1, u.2)))) else (some (r, z.2)))))) (r', q') → Ev (fun k => spec_l1Bent.f k b p) (r', q') := by
    intro r' q' h
    unfold spec_l1Bent.f
    rw [hw]
    simp only [Option.bind_some, e1]
    exact hr.bind h
  rw [hc] at start
  simp only [Option.bind_some] at start
  by_cases h0 : c = 0
  · exact ⟨[], _, start (ev_pos h0 (ev_now rfl)), by omega, by omega, by simp, by simp⟩
  by_cases h1 : c = 1
  · obtain ⟨v, hv, hm⟩ := num_some hb (p + 1 + ((1 + n : Nat) : Int) + 1) [1000000000, 1000000001, -1000000000, -1000000001] (by omega) (by omega) (by decide)
    refine ⟨r.set 0 v, _, start (ev_neg h0 (ev_pos h1 (ev_eq hv (ev_pos (by omega) (ev_now rfl))))), by omega, by omega, by simp; omega, ?_⟩
    intro x hx
    rcases List.mem_or_eq_of_mem_set hx with h | h
    · exact hd x (r2 x h)
    · subst h; simp at hm; unfold bentCell; omega
  by_cases h2 : c = 2
  · obtain ⟨v, hv, hm⟩ := num_some hb (p + 1 + ((1 + n : Nat) : Int) + 1) [6, 7] (by omega) (by omega) (by decide)
    have hv7 : 0 ≤ v ∧ v ≤ 7 := by simp at hm; omega
    obtain ⟨m, rfl⟩ := Int.eq_ofNat_of_zero_le hv7.1
    obtain ⟨s, hs, s1, s2⟩ := row_ev hb (p + 1 + ((1 + n : Nat) : Int) + 1 + 1) m (by omega) (by omega)
    exact ⟨s, _, start (ev_neg h0 (ev_neg h1 (ev_pos h2 (ev_eq hv (Ev.bind hs (ev_now rfl)))))), by omega, by omega, by omega, fun x hx => hd x (s2 x hx)⟩
  · exact ⟨r, _, start (ev_neg h0 (ev_neg h1 (ev_neg h2 (ev_now rfl)))), by omega, by omega, by omega, fun x hx => hd x (r2 x hx)⟩

theorem drawRowText_ev (code : List Int) (hw : ∀ x ∈ code, (Lit.int .u8 x).wf = true) : ∃ r : List Int, Ev (fun k => spec_DrawRowText.f k code) r ∧ r.length ≤ 7 ∧ ∀ x ∈ r, bentCell x := by
  obtain ⟨b, hb, hcode⟩ := open_some code hw
  obtain ⟨r, q, hr, _, _, hlen, hc⟩ := bent_ev hcode 0 (by omega) (by decide)
  refine ⟨r, ?_, hlen, hc⟩
  unfold spec_DrawRowText.f
  exact ev_eq hb (hr.bind (ev_now rfl))
theorem of_some {b : List Int} (hb : Code_ b) (p : Int) (l : List ByteArray) (hp : 0 ≤ p) (hp1 : p ≤ lim) (hl : 1 ≤ l.length) : ∃ v, spec_l12Rd_of.f b p l = some (v, p + 1) ∧ v ∈ l := by
  obtain ⟨v, hv, v0, v1⟩ := pick_some hb p (l.length : Int) hp hp1 (by omega)
  obtain ⟨n, rfl⟩ := Int.eq_ofNat_of_zero_le v0
  have hn : n < l.length := by omega
  refine ⟨l[n], ?_, List.getElem_mem hn⟩
  unfold spec_l12Rd_of.f
  rw [hv, Option.bind_some, if_pos (by omega), if_pos (by omega)]
  unfold rdOf
  rw [Int.toNat_natCast, List.getD_eq_getElem?_getD, List.getElem?_eq_getElem hn]
  rfl
theorem drawRowRead_ev (code : List Int) (hw : ∀ x ∈ code, (Lit.int .u8 x).wf = true) : ∃ s : ByteArray, Ev (fun k => spec_DrawRowRead.f k code) s ∧ s.size ≤ 1000 := by
  have hlim : lim = 1000000000 := rfl
  obtain ⟨b, hb, hcode⟩ := open_some code hw
  obtain ⟨r, q, hr, q0, q1, hlen, hc⟩ := bent_ev hcode 0 (by omega) (by decide)
  have hok : ∀ x ∈ r, okI x = true := fun x hx => okI_iff.2 (by have := hc x hx; unfold bentCell at this; omega)
  have hT := specRowText_ev r (by omega) hok
  have hL := rowB_len r hok
  have start : ∀ {s : ByteArray}, Ev (fun k => _) s → Ev (fun k => spec_DrawRowRead.f k code) s := fun {s} h => by
    unfold spec_DrawRowRead.f
    exact ev_eq hb (hr.bind (hT.bind h))
  have hsz : (tx (rowB r)).size = (rowB r).length := tx_size _
  generalize tx (rowB r) = t at start hsz
  by_cases h0 : (t.size : Int) = 0
  · exact ⟨t, start (ev_pos h0 (ev_now rfl)), by omega⟩
  obtain ⟨v, hv, v0, v1⟩ := pick_some hcode q 2 (by omega) (by omega) (by omega)
  by_cases h1 : v = 0
  · exact ⟨t, start (ev_neg h0 (ev_eq hv (ev_pos h1 (ev_now rfl)))), by omega⟩
  obtain ⟨c, hcc, c0, c1⟩ := pick_some hcode (q + 1) (t.size : Int) (by omega) (by omega) (by omega)
  obtain ⟨o, ho, hm⟩ := of_some hcode (q + 1 + 1) [⟨#[]⟩, ⟨#[48]⟩, ⟨#[44]⟩, ⟨#[45]⟩, ⟨#[32]⟩, ⟨#[55]⟩] (by omega) (by omega) (by decide)
  obtain ⟨d, hd, d0, d1⟩ := pick_some hcode (q + 1 + 1 + 1) 2 (by omega) (by omega) (by omega)
  have hos : o.size ≤ 1 := by
    simp only [List.mem_cons, List.not_mem_nil, or_false] at hm
    rcases hm with h | h | h | h | h | h <;> (subst h; decide)
  have s1 : (t.extract 0 c.toNat).size ≤ t.size := by rw [ByteArray.size_extract]; omega
  have s2 : (t.extract (wrap64 (c + d)).toNat t.size).size ≤ t.size := by rw [ByteArray.size_extract]; omega
  have s3 : (t.extract 0 c.toNat ++ o).size = (t.extract 0 c.toNat).size + o.size := ByteArray.size_append
  have s4 : (t.extract 0 c.toNat ++ o ++ t.extract (wrap64 (c + d)).toNat t.size).size = (t.extract 0 c.toNat ++ o).size + (t.extract (wrap64 (c + d)).toNat t.size).size := ByteArray.size_append
  have w : wrap64 (c + d) = c + d := w64 (by omega) (by omega)
  refine ⟨t.extract 0 c.toNat ++ o ++ t.extract (wrap64 (c + d)).toNat t.size, start (ev_neg h0 (ev_eq hv (ev_neg h1 (ev_eq hcc (ev_pos c0 (ev_pos (by dsimp only; omega) (ev_eq ho (ev_pos (by dsimp only; omega) (ev_eq hd (ev_pos (by dsimp only; omega) (ev_pos (by dsimp only; omega) (ev_pos (by dsimp only; omega) (ev_now rfl))))))))))))), by omega⟩

theorem row_tail (l1 : List Int) (hm : ∀ x ∈ l1, (Lit.int .u8 x).wf = true) : Ev (fun k => (spec_DrawRowRead.f k l1).bind fun t232=>((impl_RowRead.f k t232).bind fun bt233=>((spec_RowRead.f k t232).bind fun bt237=>(if (bt233.2 == bt237.2)=true then (if bt233.2=true then ((impl_RowText.f bt233.1).bind fun t241=>(if t241.toList=t232.toList then ((impl_RowOk.f k bt233.1).bind fun t242=>(some t242)) else (some false))) else (some true)) else (some false))))) true := by
  obtain ⟨s, hs, hsz⟩ := drawRowRead_ev l1 hm
  refine hs.bind ?_
  have hl : s.data.toList.length = s.size := Array.length_toList
  rw [tx_data s]
  have im := implRead_ev s.data.toList
  have sp := specRead_ev s.data.toList (by omega)
  refine im.bind (sp.bind (ev_pos (by simp) ?_))
  have hg := readR_len s.data.toList
  cases e : readR s.data.toList with
  | mk y t =>
  rw [e] at hg
  cases t with
  | false => exact ev_neg (by simp) (ev_now rfl)
  | true =>
    obtain ⟨h1, h2⟩ := readR_true e
    have hok : ∀ x ∈ y, okI x = true := fun x hx => okI_iff.2 (by have := (okRow_mem h2).2.2 x hx; omega)
    refine ev_pos rfl (ev_eq (implRowText_ev y (by simp only at hg; omega) hok) (ev_pos (by rw [h1]) ((implRowOk_ev y (by simp only at hg; omega)).bind (ev_now (by rw [h2])))))
theorem FnRow : laws_FnRow.Pure := by
  intro code more _ _ hw _ _ hm
  refine Ev.rounds ?_
  unfold laws_FnRow.f
  by_cases h1 : (code.length : Int) > 1048576
  · exact ev_pos h1 (ev_now rfl)
  by_cases h2 : (more.length : Int) > 1048576
  · exact ev_neg h1 (ev_pos h2 (ev_now rfl))
  obtain ⟨r, hr, hl, hc⟩ := drawRowText_ev code hw
  have T := row_tail more hm
  have hok : ∀ x ∈ r, okI x = true := fun x hx => okI_iff.2 (by have := hc x hx; unfold bentCell at this; omega)
  have hrd := readR_rowB r hc
  have im := implRead_ev (rowB r)
  have so := specRowOk_ev r (by omega)
  refine ev_neg h1 (ev_neg h2 (hr.bind (ev_eq (implRowText_ev r (by omega) hok) (im.bind ((specRowText_ev r (by omega) hok).bind (ev_pos rfl ((implRowOk_ev r (by omega)).bind (so.bind (ev_neg (by simp) (so.bind ?_))))))))))
  rw [hrd]
  by_cases hk : okRow r = true
  · rw [if_pos hk, hk]
    exact ev_neg (by simp) (ev_pos rfl ((implSame_ev r r (by omega)).bind (ev_pos (by simp) T)))
  · have hk' : okRow r = false := by simpa using hk
    rw [if_neg hk, hk']
    exact ev_neg (by simp) (ev_neg (by simp) T)

end Go.Proofs.YtgcplipimcbhlaaDoor.Pure
