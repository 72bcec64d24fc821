/- Whatever text there is, the program's RowRead reads the row that the reference's reads, or both none; the row is new memory (it stays when another one is read): the law answers true. No condition beyond what the statement gives (bytes). -/
import Derived.Test.YtgcplipimcbhlaaDoorPFnExactRowReadx4
import Derived.Test.YtgcplipimcbhlaaDoorQ
namespace Go.Proofs.YtgcplipimcbhlaaDoor.Pure
open Go.RowKit Go.Proofs.YtgcplipimcbhlaaDoor.PFnExactRowRead Go.Proofs.YtgcplipimcbhlaaDoorW.PrintWords Go.Proofs.YtgcplipimcbhlaaDoorW.PrintLast Go.Proofs.YtgcplipimcbhlaaDoorW.PrintMore Go.Proofs.YtgcplipimcbhlaaDoor.Q

theorem eqIntS_ev (a b : List Int) (ha : a.length < 4611686018427387904) : Ev (fun k => laws_eqIntS.f k a b) (decide (a = b)) := by
  unfold laws_eqIntS.f
  by_cases hl : a.length = b.length
  · refine ev_pos (by omega) ?_
    have h := ev_down (fun k i => laws_eqIntS.l0 k a b (i : Int)) (fun i => decide (a.drop i = b.drop i)) a.length ?_ ?_ 0 (by omega)
    · simpa using h
    · refine Ev.step (fun k => laws_eqIntS.l0.eq_2 ..) (ev_neg (by omega) (ev_now ?_))
      rw [drop_end a _ (Nat.le_refl _), drop_end b _ (by omega)]; simp
    · intro i hi ih
      refine Ev.step (fun k => laws_eqIntS.l0.eq_2 ..) (ev_pos (by omega) (ev_pos (by omega) (ev_pos (by omega) ?_)))
      rw [drop_rd a i hi, drop_rd b i (by omega)]
      by_cases h1 : rd a i = rd b i
      · refine ev_pos h1 ?_
        rw [w64n (by omega)]
        simpa [h1] using ih
      · exact ev_neg h1 (ev_now (by simp [h1]))
  · exact ev_neg (by omega) (ev_now (by symm; rw [decide_eq_false_iff_not]; intro h; exact hl (by rw [h])))

/-- numbers counted up from k -/
def marked (k : Int) : Nat → List Int
  | 0 => []
  | n + 1 => k :: marked (k + 1) n
theorem marked_length : ∀ (n : Nat) (k : Int), (marked k n).length = n
  | 0, _ => rfl
  | n + 1, k => by rw [marked, List.length_cons, marked_length n]
theorem marked_snoc : ∀ (n : Nat) (k : Int), marked k (n + 1) = marked k n ++ [k + n]
  | 0, k => by simp [marked]
  | n + 1, k => by
    rw [marked, marked_snoc n (k + 1), marked, List.cons_append]
    congr 2
    simp; omega
theorem markInts_ev (l : List Int) (k0 : Int) (h0 : 0 ≤ k0) (h1 : k0 + l.length ≤ 4611686018427387904) : Ev (fun k => laws_markIntS.f k l k0) (k0 + l.length, marked k0 l.length) := by
  unfold laws_markIntS.f
  have h := ev_down (fun k i => laws_markIntS.l0 k (marked k0 i ++ l.drop i) (k0 + i) (i : Int)) (fun _ => (k0 + l.length, marked k0 l.length)) l.length ?_ ?_ 0 (by omega)
  · simpa [marked] using h
  · refine Ev.step (fun k => laws_markIntS.l0.eq_2 ..) (ev_neg (by simp [marked_length]) (ev_now ?_))
    rw [drop_end l _ (Nat.le_refl _), List.append_nil]
  · intro i hi ih
    refine Ev.step (fun k => laws_markIntS.l0.eq_2 ..) (ev_pos (by simp [marked_length]; omega) (ev_pos (by omega) ?_))
    rw [w64n (by omega), w64 (by omega) (by omega), drop_rd l i hi, Int.toNat_natCast, List.set_append_right _ _ (by rw [marked_length]; omega), marked_length, Nat.sub_self, List.set_cons_zero]
    have e : marked k0 i ++ (k0 + (i : Int)) :: l.drop (i + 1) = marked k0 (i + 1) ++ l.drop (i + 1) := by rw [marked_snoc, List.append_assoc]; rfl
    have e2 : k0 + (i : Int) + 1 = k0 + ((i + 1 : Nat) : Int) := by omega
    rw [e, e2]
    exact ih
theorem rd_marked : ∀ (n i : Nat) (k : Int), i < n → rd (marked k n) (i : Int) = k + i := by
  intro n
  induction n with
  | zero => intro i k h; omega
  | succ n ih =>
    intro i k h
    cases i with
    | zero => show k = k + ((0 : Nat) : Int); omega
    | succ i =>
      have := ih i (k + 1) (by omega)
      rw [rd_nat] at this ⊢
      rw [marked, List.getD_cons_succ, this]
      omega
theorem heldInts_ev (n : Nat) (k0 : Int) (h0 : 0 ≤ k0) (h1 : k0 + n ≤ 4611686018427387904) : Ev (fun k => laws_heldIntS.f k (marked k0 n) k0) (k0 + n) := by
  unfold laws_heldIntS.f
  have h := ev_down (fun k i => laws_heldIntS.l0 k (marked k0 n) (k0 + i) (i : Int)) (fun _ => k0 + n) n ?_ ?_ 0 (by omega)
  · simpa using h
  · exact Ev.step (fun k => laws_heldIntS.l0.eq_2 ..) (ev_neg (by simp [marked_length]) (ev_now rfl))
  · intro i hi ih
    refine Ev.step (fun k => laws_heldIntS.l0.eq_2 ..) (ev_pos (by simp [marked_length]; omega) (ev_pos (by omega) (ev_pos (rd_marked n i k0 hi) ?_)))
    have e2 : k0 + (i : Int) + 1 = k0 + ((i + 1 : Nat) : Int) := by omega
    rw [w64n (by omega), w64 (by omega) (by omega), e2]
    exact ih

/-- a text of its bytes -/
def tx (l : List UInt8) : ByteArray := ⟨l.toArray⟩
theorem tx_size (l : List UInt8) : (tx l).size = l.length := rfl
theorem tx_append (a b : List UInt8) : tx a ++ tx b = tx (a ++ b) := by
  apply ByteArray.ext
  show (tx a ++ tx b).data = _
  rw [ByteArray.data_append]
  simp [tx]
theorem tx_inj {a b : List UInt8} (h : tx a = tx b) : a = b := by
  have := congrArg (fun x => x.data.toList) h
  simpa [tx] using this

theorem implRowText_ev (l : List Int) (hl : l.length ≤ 1048576) (h : ∀ x ∈ l, okI x = true) : impl_RowText.f l = some (tx (rowB l)) := by
  unfold impl_RowText.f
  rw [if_pos hl, if_pos (List.all_eq_true.2 h)]
  rfl

theorem tx_data (a : ByteArray) : a = tx a.data.toList := by
  apply ByteArray.ext
  simp [tx]
theorem tx_toList (l : List UInt8) : (tx l).data.toList = l := by simp [tx]
theorem tx_extract (l : List UInt8) (a b : Nat) : (tx l).extract a b = tx ((l.drop a).take (b - a)) := by
  rw [tx_data ((tx l).extract a b)]
  congr 1
  simp [tx, ByteArray.data_extract]
theorem bt_tx (l : List UInt8) (i : Nat) (h : i < l.length) : bt (tx l) (i : Int) = (l[i].toNat : Int) := by
  unfold bt
  have hs : (i : Int).toNat < (tx l).size := by rw [tx_size]; simpa using h
  rw [dif_pos hs]
  rfl
theorem dv_of (d : Nat) (h : d < 10) : Lib.digitVal (UInt8.ofNat (48 + d)) = some d := by
  rcases d with _ | _ | _ | _ | _ | _ | _ | _ | _ | _ | d
  all_goals first | rfl | omega
theorem dv_inv {c : UInt8} {d : Nat} (h : Lib.digitVal c = some d) : d < 10 ∧ c = UInt8.ofNat (48 + d) := by
  obtain ⟨h1, h2, h3⟩ := Lib.digitVal_eq h
  refine ⟨by omega, ?_⟩
  apply UInt8.toNat_inj.1
  rw [UInt8.toNat_ofNat']
  omega
theorem decFrom_snoc (l : List UInt8) (c : UInt8) : ∀ acc, Lib.decFrom acc (l ++ [c]) = (Lib.decFrom acc l).bind fun m => (Lib.digitVal c).map fun d => m * 10 + d := by
  induction l with
  | nil =>
    intro acc
    simp only [List.nil_append, Lib.decFrom, Option.bind_some]
    cases Lib.digitVal c <;> rfl
  | cons b l ih =>
    intro acc
    simp only [List.cons_append, Lib.decFrom]
    cases Lib.digitVal b with
    | none => rfl
    | some e => exact ih _
theorem dig_lt {u : Nat} (h : u < 10) : Lib.decDigits u = [UInt8.ofNat (48 + u)] := by rw [Lib.decDigits, dif_pos h]
theorem dig_ge {u : Nat} (h : ¬ u < 10) : Lib.decDigits u = Lib.decDigits (u / 10) ++ [UInt8.ofNat (48 + u % 10)] := by rw [Lib.decDigits, dif_neg h]
theorem decFrom_dig (u : Nat) : Lib.decFrom 0 (Lib.decDigits u) = some u := by
  induction u using Nat.strongRecOn with
  | ind u ih =>
    by_cases h : u < 10
    · rw [dig_lt h]
      simp only [Lib.decFrom, dv_of u h]
      simp
    · rw [dig_ge h, decFrom_snoc, ih (u / 10) (by omega), dv_of (u % 10) (by omega)]
      simp only [Option.bind_some, Option.map_some]
      congr 1
      omega
theorem dig_len (k u : Nat) (h : u < 10 ^ (k + 1)) : (Lib.decDigits u).length ≤ k + 1 := by
  induction k generalizing u with
  | zero => rw [dig_lt (by simpa using h)]; simp
  | succ k ih =>
    by_cases h1 : u < 10
    · rw [dig_lt h1]; simp
    · rw [dig_ge h1, List.length_append, List.length_singleton]
      have := ih (u / 10) (by rw [Nat.pow_succ] at h; omega)
      omega
theorem dig_head (u : Nat) : ∃ c l, Lib.decDigits u = c :: l ∧ 48 ≤ c.toNat ∧ c.toNat ≤ 57 ∧ (0 < u → c ≠ 48) := by
  induction u using Nat.strongRecOn with
  | ind u ih =>
    by_cases h : u < 10
    · rw [dig_lt h]
      refine ⟨_, _, rfl, ?_⟩
      rcases u with _ | _ | _ | _ | _ | _ | _ | _ | _ | _ | u
      all_goals first | (exfalso; omega) | decide
    · obtain ⟨c, l, h1, h2, h3, h4⟩ := ih (u / 10) (by omega)
      rw [dig_ge h, h1]
      exact ⟨c, l ++ [UInt8.ofNat (48 + u % 10)], rfl, h2, h3, fun _ => h4 (by omega)⟩
theorem dec_canon : ∀ (n : Nat) (l : List UInt8) (m : Nat), l.length = n + 1 → Lib.decFrom 0 l = some m → (l.head? ≠ some 48 ∨ l.length = 1) → Lib.decDigits m = l := by
  intro n
  induction n with
  | zero =>
    intro l m hl h _
    obtain ⟨b, rfl⟩ := List.length_eq_one_iff.1 (by omega : l.length = 1)
    simp only [Lib.decFrom] at h
    cases hb : Lib.digitVal b with
    | none => rw [hb] at h; cases h
    | some d =>
      rw [hb] at h
      obtain ⟨h1, h2⟩ := dv_inv hb
      have : m = d := by simpa using h.symm
      rw [this, dig_lt h1, h2]
  | succ n ih =>
    intro l m hl h hh
    rcases List.eq_nil_or_concat l with rfl | ⟨L, b, rfl⟩
    · simp at hl
    · rw [List.concat_eq_append] at *
      have hL : L.length = n + 1 := by simp at hl; omega
      rw [decFrom_snoc] at h
      cases hm : Lib.decFrom 0 L with
      | none => rw [hm] at h; cases h
      | some m' =>
        rw [hm, Option.bind_some] at h
        cases hb : Lib.digitVal b with
        | none => rw [hb] at h; cases h
        | some d =>
          rw [hb] at h
          obtain ⟨h1, h2⟩ := dv_inv hb
          have hmd : m = m' * 10 + d := by simpa using h.symm
          have hne : L.head? ≠ some 48 := by
            rcases hh with hh | hh
            · cases L with
              | nil => simp at hL
              | cons x L => simpa using hh
            · rw [List.length_append, List.length_singleton] at hh; omega
          have e := ih L m' hL hm (.inl hne)
          have hm1 : m' ≠ 0 := by
            intro e0
            rw [e0, dig_lt (by decide)] at e
            rw [← e] at hne
            exact hne rfl
          rw [dig_ge (by omega), show m / 10 = m' by omega, show m % 10 = d by omega, e, h2]
/-- what the reference reads as a number -/
def numM (neg : Bool) (d : List UInt8) : Int × Bool := match Lib.decFrom 0 d with | some m => (if neg = true then -(m : Int) else (m : Int), true) | none => (0, false)
def numF (l : List UInt8) : Int × Bool :=
  if l.head? = some 45 then (if l.tail = [] ∨ 17 < l.tail.length ∨ l.tail.head? = some 48 then (0, false) else numM true l.tail)
  else (if l = [] ∨ 17 < l.length ∨ (l.head? = some 48 ∧ 1 < l.length) then (0, false) else numM false l)
theorem decFrom_lt17 {d : List UInt8} {m : Nat} (h : Lib.decFrom 0 d = some m) (hl : d.length ≤ 17) : m < 100000000000000000 := by
  have h1 := Lib.decFrom_lt d 0 m h
  have h2 : 10 ^ d.length ≤ 10 ^ 17 := Nat.pow_le_pow_right (by decide) hl
  omega
theorem numF_sound {l : List UInt8} {n : Int} (h : numF l = (n, true)) : l = Lib.itoa n ∧ -100000000000000000 < n ∧ n < 100000000000000000 := by
  unfold numF at h
  by_cases h45 : l.head? = some 45
  · rw [if_pos h45] at h
    split at h
    · cases h
    · next hc =>
      have c1 : l.tail ≠ [] := fun e => hc (.inl e)
      have c2 : ¬ 17 < l.tail.length := fun e => hc (.inr (.inl e))
      have c3 : l.tail.head? ≠ some 48 := fun e => hc (.inr (.inr e))
      unfold numM at h
      cases hm : Lib.decFrom 0 l.tail with
      | none => rw [hm] at h; cases h
      | some m =>
        rw [hm] at h
        have hn : n = -(m : Int) := by simpa using h.symm
        have hb := decFrom_lt17 hm (by omega)
        obtain ⟨k, hk⟩ : ∃ k, l.tail.length = k + 1 := ⟨l.tail.length - 1, by have := List.length_pos_iff.2 c1; omega⟩
        have e := dec_canon k l.tail m hk hm (.inl c3)
        have hm0 : m ≠ 0 := by
          intro e0
          rw [e0, dig_lt (by decide)] at e
          rw [← e] at c3
          exact c3 rfl
        refine ⟨?_, by omega, by omega⟩
        unfold Lib.itoa
        rw [if_pos (by omega), show n.natAbs = m by omega, e]
        cases l with
        | nil => simp at h45
        | cons c r => simp at h45; rw [h45]; rfl
  · rw [if_neg h45] at h
    split at h
    · cases h
    · next hc =>
      have c1 : l ≠ [] := fun e => hc (.inl e)
      have c2 : ¬ 17 < l.length := fun e => hc (.inr (.inl e))
      unfold numM at h
      cases hm : Lib.decFrom 0 l with
      | none => rw [hm] at h; cases h
      | some m =>
        rw [hm] at h
        have hn : n = (m : Int) := by simpa using h.symm
        have hb := decFrom_lt17 hm (by omega)
        obtain ⟨k, hk⟩ : ∃ k, l.length = k + 1 := ⟨l.length - 1, by have := List.length_pos_iff.2 c1; omega⟩
        have e := dec_canon k l m hk hm (by
          by_cases h1 : l.head? = some 48
          · exact .inr (by
              have : ¬ 1 < l.length := fun e => hc (.inr (.inr ⟨h1, e⟩))
              omega)
          · exact .inl h1)
        refine ⟨?_, by omega, by omega⟩
        unfold Lib.itoa
        rw [if_neg (by omega), show n.toNat = m by omega, e]
theorem numF_itoa {n : Int} (h0 : -100000000000000000 < n) (h1 : n < 100000000000000000) : numF (Lib.itoa n) = (n, true) := by
  unfold Lib.itoa
  by_cases hn : n < 0
  · rw [if_pos hn]
    obtain ⟨c, l, e, h2, h3, h4⟩ := dig_head n.natAbs
    have hl := dig_len 16 n.natAbs (by have : (10 : Nat) ^ (16 + 1) = 100000000000000000 := by decide
                                       omega)
    unfold numF
    rw [if_pos (show (45 :: Lib.decDigits n.natAbs).head? = some 45 from rfl), if_neg]
    · unfold numM
      show (match Lib.decFrom 0 (Lib.decDigits n.natAbs) with | some m => (if true = true then -(m : Int) else (m : Int), true) | none => (0, false)) = _
      rw [decFrom_dig]
      simp only [if_true]
      congr 1
      omega
    · rintro (hc | hc | hc)
      · rw [List.tail_cons, e] at hc; cases hc
      · rw [List.tail_cons] at hc; omega
      · rw [List.tail_cons, e] at hc
        exact h4 (by omega) (by simpa using hc)
  · rw [if_neg hn]
    obtain ⟨c, l, e, h2, h3, h4⟩ := dig_head n.toNat
    have hl := dig_len 16 n.toNat (by have : (10 : Nat) ^ (16 + 1) = 100000000000000000 := by decide
                                      omega)
    have hc45 : c ≠ 45 := by rintro rfl; revert h2; decide
    unfold numF
    rw [if_neg (by rw [e]; simpa using hc45), if_neg]
    · unfold numM
      rw [decFrom_dig]
      simp only [Bool.false_eq_true, if_false]
      congr 1
      omega
    · rintro (hc | hc | ⟨hc, hc2⟩)
      · rw [e] at hc; cases hc
      · omega
      · by_cases hz : 0 < n.toNat
        · rw [e] at hc
          exact h4 hz (by simpa using hc)
        · rw [show n.toNat = 0 by omega, dig_lt (by decide)] at hc2
          simp at hc2
theorem atoi_itoa {n : Int} (h0 : -100000000000000000 < n) (h1 : n < 100000000000000000) : Lib.atoiAll (Lib.itoa n) = .ok n := by
  unfold Lib.itoa
  by_cases hn : n < 0
  · rw [if_pos hn]
    obtain ⟨c, l, e, h2, h3, h4⟩ := dig_head n.natAbs
    have hl := dig_len 16 n.natAbs (by have : (10 : Nat) ^ (16 + 1) = 100000000000000000 := by decide
                                       omega)
    rw [Lib.atoiAll_short _ (by rw [List.length_cons]; omega)]
    have : Lib.decNat (Lib.decDigits n.natAbs) = some n.natAbs := by
      unfold Lib.decNat
      rw [e, List.isEmpty_cons, if_neg (by decide), ← e, decFrom_dig]
    simp only [Lib.atoi, beq_self_eq_true, if_true, this, Option.map_some, Lib.NumEnd.ofOption]
    congr 1
    omega
  · rw [if_neg hn]
    obtain ⟨c, l, e, h2, h3, h4⟩ := dig_head n.toNat
    have hl := dig_len 16 n.toNat (by have : (10 : Nat) ^ (16 + 1) = 100000000000000000 := by decide
                                      omega)
    have hc45 : c ≠ 45 := by rintro rfl; revert h2; decide
    have hc43 : c ≠ 43 := by rintro rfl; revert h2; decide
    rw [Lib.atoiAll_short _ (by omega)]
    have : Lib.decNat (c :: l) = some n.toNat := by
      unfold Lib.decNat
      rw [List.isEmpty_cons, if_neg (by decide), ← e, decFrom_dig]
    rw [e]
    simp only [Lib.atoi]
    rw [if_neg (by simpa using hc45), if_neg (by simpa using hc43), this]
    simp only [Option.map_some, Lib.NumEnd.ofOption]
    congr 1
    omega
theorem num_go (l : List UInt8) (neg : Bool) (hl : l.length ≤ 17) : ∀ (d i acc : Nat), i + d = l.length → acc < 10 ^ i →
    Ev (fun k => spec_l12Num.l0 k (tx l) neg (acc : Int) (i : Int)) (match Lib.decFrom acc (l.drop i) with | some m => (if neg = true then -(m : Int) else (m : Int), true) | none => (0, false)) := by
  have hp : ∀ i, i ≤ 17 → 10 ^ i ≤ 100000000000000000 := fun i hi => Nat.le_trans (Nat.pow_le_pow_right (by decide) hi) (by decide)
  intro d
  induction d with
  | zero =>
    intro i acc hi ha
    have := hp i (by omega)
    rw [drop_end l i (by omega)]
    refine Ev.step (fun k => spec_l12Num.l0.eq_2 ..) (ev_neg (by rw [tx_size]; omega) ?_)
    simp only [Lib.decFrom]
    cases neg with
    | true => exact ev_pos rfl (ev_now (by rw [w64 (by omega) (by omega)]; rfl))
    | false => exact ev_neg (by decide) (ev_now rfl)
  | succ d ih =>
    intro i acc hi ha
    have := hp i (by omega)
    have hil : i < l.length := by omega
    have hb := l[i].toNat_lt
    refine Ev.step (fun k => spec_l12Num.l0.eq_2 ..) (ev_pos (by rw [tx_size]; omega) (ev_pos (by omega) ?_))
    rw [bt_tx l i hil, List.drop_eq_getElem_cons hil]
    simp only [Lib.decFrom]
    by_cases h1 : 48 ≤ l[i].toNat ∧ l[i].toNat ≤ 57
    · have hd : Lib.digitVal l[i] = some (l[i].toNat - 48) := by unfold Lib.digitVal; rw [if_pos h1]
      rw [hd]
      refine ev_neg (by omega) (ev_neg (by omega) ?_)
      rw [w64 (x := (acc : Int) * 10) (by omega) (by omega), w64n (by omega), w64 (by omega) (by omega), show (acc : Int) * 10 + ((l[i].toNat : Int) - 48) % 256 = ((acc * 10 + (l[i].toNat - 48) : Nat) : Int) by omega]
      exact ih (i + 1) _ (by omega) (by rw [Nat.pow_succ]; omega)
    · have hd : Lib.digitVal l[i] = none := by unfold Lib.digitVal; rw [if_neg h1]
      rw [hd]
      by_cases h2 : l[i].toNat < 48
      · exact ev_pos (by omega) (ev_now rfl)
      · exact ev_neg (by omega) (ev_pos (by omega) (ev_now rfl))
theorem l12Num_ev (l : List UInt8) (hl : l.length ≤ 100000) : Ev (fun k => spec_l12Num.f k (tx l)) (numF l) := by
  unfold spec_l12Num.f numF
  rw [tx_size]
  cases l with
  | nil => exact ev_neg (by simp) (ev_pos (by simp) (ev_now (by simp)))
  | cons c r =>
    simp only [List.length_cons] at hl
    refine ev_pos (by simp <;> omega) (ev_pos (by simp <;> omega) ?_)
    have hb0 : bt (tx (c :: r)) 0 = (c.toNat : Int) := bt_tx (c :: r) 0 (by simp)
    have hx : (tx (c :: r)).extract 1 (c :: r).length = tx r := by rw [tx_extract]; congr 1; simp
    rw [hb0]
    by_cases hc : c = 45
    · subst hc
      rw [if_pos (show ((45 :: r).head? = some 45) from rfl), List.tail_cons]
      refine ev_pos rfl (ev_pos (by simp <;> omega) ?_)
      rw [hx, tx_size]
      by_cases h1 : r = []
      · subst h1
        exact ev_pos (by simp) (ev_now (by simp))
      have hr0 : 0 < r.length := List.length_pos_iff.2 h1
      refine ev_neg (by omega) ?_
      by_cases h2 : 17 < r.length
      · rw [if_pos (show r = [] ∨ 17 < r.length ∨ r.head? = some 48 from .inr (.inl h2))]
        exact ev_pos (by omega) (ev_now rfl)
      refine ev_neg (by omega) (ev_pos (by omega) ?_)
      have hb1 : bt (tx r) 0 = (r[0].toNat : Int) := bt_tx r 0 hr0
      have hh : r.head? = some r[0] := by cases r with | nil => simp at hr0 | cons x r => rfl
      rw [hb1]
      by_cases h3 : r[0] = 48
      · rw [if_pos (show r = [] ∨ 17 < r.length ∨ r.head? = some 48 from .inr (.inr (by rw [hh, h3])))]
        refine ev_pos (by rw [h3]; rfl) ?_
        by_cases h4 : (r.length : Int) > 1
        · exact ev_pos h4 (ev_now rfl)
        · exact ev_neg h4 (ev_now rfl)
      · rw [if_neg (show ¬ (r = [] ∨ 17 < r.length ∨ r.head? = some 48) by
          rintro (e | e | e)
          · exact h1 e
          · exact h2 e
          · rw [hh] at e; exact h3 (Option.some.inj e))]
        refine ev_neg (fun e => h3 (UInt8.toNat_inj.1 (by have : r[0].toNat = 48 := by omega
                                                          rw [this]; rfl))) ?_
        have := num_go r true (by omega) r.length 0 0 (by omega) (by decide)
        rw [List.drop_zero] at this
        exact this
    · have hcn : ¬ (c.toNat : Int) = 45 := fun e => hc (UInt8.toNat_inj.1 (by have : c.toNat = 45 := by omega
                                                                              rw [this]; rfl))
      have hh : (c :: r).head? = some c := rfl
      rw [if_neg (show ¬ ((c :: r).head? = some 45) by rw [hh]; intro e; exact hc (Option.some.inj e))]
      refine ev_neg hcn (ev_neg (by simp <;> omega) ?_)
      rw [List.length_cons]
      by_cases h2 : 17 < r.length + 1
      · rw [if_pos (show (c :: r = [] ∨ 17 < r.length + 1 ∨ ((c :: r).head? = some 48 ∧ 1 < r.length + 1)) from .inr (.inl h2))]
        exact ev_pos (by omega) (ev_now rfl)
      refine ev_neg (by omega) ?_
      have hneg : ((c.toNat : Int) == 45) = false := by simpa using hcn
      have go := num_go (c :: r) false (by simp <;> omega) (c :: r).length 0 0 (by omega) (by decide)
      rw [List.drop_zero] at go
      rw [hneg]
      by_cases h3 : c = 48
      · subst h3
        refine ev_pos rfl ?_
        by_cases h4 : 1 < r.length + 1
        · rw [if_pos (show ((48 : UInt8) :: r = [] ∨ 17 < r.length + 1 ∨ (((48 : UInt8) :: r).head? = some 48 ∧ 1 < r.length + 1)) from .inr (.inr ⟨rfl, h4⟩))]
          exact ev_pos (by omega) (ev_now rfl)
        · rw [if_neg (show ¬ ((48 : UInt8) :: r = [] ∨ 17 < r.length + 1 ∨ (((48 : UInt8) :: r).head? = some 48 ∧ 1 < r.length + 1)) by
            rintro (e | e | ⟨_, e⟩)
            · cases e
            · exact h2 e
            · exact h4 e)]
          exact ev_neg (by omega) go
      · rw [if_neg (show ¬ (c :: r = [] ∨ 17 < r.length + 1 ∨ ((c :: r).head? = some 48 ∧ 1 < r.length + 1)) by
          rintro (e | e | ⟨e, _⟩)
          · cases e
          · exact h2 e
          · rw [hh] at e; exact h3 (Option.some.inj e))]
        exact ev_neg (fun e => h3 (UInt8.toNat_inj.1 (by have : c.toNat = 48 := by omega
                                                         rw [this]; rfl))) go

/-- the pieces of a text between bytes c -/
def cutG (c : UInt8) : List UInt8 → List UInt8 → List (List UInt8)
  | cur, [] => [cur]
  | cur, x :: l => if x = c then cur :: cutG c [] l else cutG c (cur ++ [x]) l
theorem take_one (l : List UInt8) (f i : Nat) (h : f ≤ i) (hi : i < l.length) : (l.drop f).take (i + 1 - f) = (l.drop f).take (i - f) ++ [l[i]] := by
  rw [show i + 1 - f = (i - f) + 1 by omega, List.take_add, List.drop_drop, show f + (i - f) = i by omega, List.drop_eq_getElem_cons hi]
  rfl
theorem l12Cut_ev (l : List UInt8) (c : UInt8) (hl : l.length ≤ 4194304) : Ev (fun k => spec_l12Cut.f k (tx l) (c.toNat : Int)) ((cutG c [] l).map tx) := by
  have go : ∀ (d i f : Nat) (acc : List ByteArray), i + d = l.length → f ≤ i → acc.length ≤ i →
      Ev (fun k => spec_l12Cut.l0 k (tx l) (c.toNat : Int) acc (f : Int) (i : Int)) (acc ++ (cutG c ((l.drop f).take (i - f)) (l.drop i)).map tx) := by
    intro d
    induction d with
    | zero =>
      intro i f acc hi hf ha
      refine Ev.step (fun k => spec_l12Cut.l0.eq_2 ..) (ev_pos (by rw [tx_size]; omega) (ev_pos (by rw [tx_size]; omega) (ev_pos (by omega) (ev_pos (by omega) (ev_pos (by omega) ?_)))))
      rw [w64n (by omega)]
      refine Ev.step (fun k => spec_l12Cut.l0.eq_2 ..) (ev_neg (by rw [tx_size]; omega) (ev_now ?_))
      rw [tx_extract, Int.toNat_natCast, Int.toNat_natCast, drop_end l i (by omega)]
      rfl
    | succ d ih =>
      intro i f acc hi hf ha
      have hil : i < l.length := by omega
      refine Ev.step (fun k => spec_l12Cut.l0.eq_2 ..) (ev_pos (by rw [tx_size]; omega) (ev_neg (by rw [tx_size]; omega) (ev_pos (by omega) (ev_pos (by rw [tx_size]; omega) ?_))))
      rw [bt_tx l i hil, w64n (by omega), List.drop_eq_getElem_cons hil, cutG]
      by_cases h : l[i] = c
      · rw [if_pos h]
        refine ev_pos (by rw [h]) (ev_pos (by omega) (ev_pos (by omega) (ev_pos (by omega) ?_)))
        rw [tx_extract, Int.toNat_natCast, Int.toNat_natCast]
        have := ih (i + 1) (i + 1) (acc ++ [tx ((l.drop f).take (i - f))]) (by omega) (Nat.le_refl _) (by simp; omega)
        rw [Nat.sub_self, List.take_zero, List.append_assoc] at this
        exact this
      · rw [if_neg h]
        refine ev_neg (fun e => h (UInt8.toNat_inj.1 (by omega))) ?_
        have := ih (i + 1) f acc (by omega) (by omega) (by omega)
        rw [take_one l f i hf hil] at this
        exact this
  unfold spec_l12Cut.f
  have := go l.length 0 0 [] (by omega) (Nat.le_refl _) (Nat.le_refl _)
  simpa using this
theorem cutG_skip (c : UInt8) : ∀ (m l cur : List UInt8), (∀ x ∈ m, x ≠ c) → cutG c cur (m ++ l) = cutG c (cur ++ m) l := by
  intro m
  induction m with
  | nil => intro l cur _; simp
  | cons x m ih =>
    intro l cur h
    rw [List.cons_append, cutG, if_neg (h x List.mem_cons_self), ih _ _ (fun y hy => h y (List.mem_cons_of_mem _ hy)), List.append_assoc]
    rfl
theorem cutG_len (c : UInt8) : ∀ (l cur : List UInt8), ∀ p ∈ cutG c cur l, p.length ≤ cur.length + l.length := by
  intro l
  induction l with
  | nil => intro cur p hp; simp [cutG] at hp; subst hp; simp
  | cons x l ih =>
    intro cur p hp
    rw [cutG] at hp
    by_cases h : x = c
    · rw [if_pos h] at hp
      rcases List.mem_cons.1 hp with rfl | hp
      · simp
      · have := ih [] p hp
        simp at this ⊢
        omega
    · rw [if_neg h] at hp
      have := ih _ p hp
      simp at this ⊢
      omega
theorem cutG_many (c : UInt8) : ∀ (l cur : List UInt8), (cutG c cur l).length ≤ l.length + 1 := by
  intro l
  induction l with
  | nil => intro cur; simp [cutG]
  | cons x l ih =>
    intro cur
    rw [cutG]
    split
    · have := ih []; simp; omega
    · have := ih (cur ++ [x]); simp; omega
/-- pieces put together again -/
def joinP (c : UInt8) : List (List UInt8) → List UInt8
  | [] => []
  | p :: ps => p ++ (ps.map (c :: ·)).flatten
theorem cutG_ne (c : UInt8) : ∀ (l cur : List UInt8), cutG c cur l ≠ [] := by
  intro l
  induction l with
  | nil => intro cur; simp [cutG]
  | cons x l ih => intro cur; rw [cutG]; split <;> simp [ih]
theorem joinP_cons (c : UInt8) (p : List UInt8) (ps : List (List UInt8)) (h : ps ≠ []) : joinP c (p :: ps) = p ++ c :: joinP c ps := by
  cases ps with
  | nil => exact absurd rfl h
  | cons q ps => simp [joinP]
theorem cutG_join (c : UInt8) : ∀ (l cur : List UInt8), joinP c (cutG c cur l) = cur ++ l := by
  intro l
  induction l with
  | nil => intro cur; simp [cutG, joinP]
  | cons x l ih =>
    intro cur
    rw [cutG]
    by_cases h : x = c
    · rw [if_pos h, joinP_cons _ _ _ (cutG_ne c l []), ih [], h]
      rfl
    · rw [if_neg h, ih, List.append_assoc]
      rfl
theorem dig_bytes (u : Nat) : ∀ c ∈ Lib.decDigits u, 48 ≤ c.toNat ∧ c.toNat ≤ 57 := by
  induction u using Nat.strongRecOn with
  | ind u ih =>
    have one : ∀ d, d < 10 → 48 ≤ (UInt8.ofNat (48 + d)).toNat ∧ (UInt8.ofNat (48 + d)).toNat ≤ 57 := by
      intro d hd
      rw [UInt8.toNat_ofNat']
      omega
    intro c hc
    by_cases h : u < 10
    · rw [dig_lt h, List.mem_singleton] at hc
      rw [hc]
      exact one u h
    · rw [dig_ge h, List.mem_append, List.mem_singleton] at hc
      rcases hc with hc | hc
      · exact ih (u / 10) (by omega) c hc
      · rw [hc]
        exact one _ (by omega)
theorem itoa_bytes (n : Int) : ∀ c ∈ Lib.itoa n, c.toNat = 45 ∨ (48 ≤ c.toNat ∧ c.toNat ≤ 57) := by
  intro c hc
  unfold Lib.itoa at hc
  split at hc
  · rcases List.mem_cons.1 hc with rfl | hc
    · exact .inl rfl
    · exact .inr (dig_bytes _ c hc)
  · exact .inr (dig_bytes _ c hc)
theorem itoa_no (n : Int) (b : UInt8) (hb : b.toNat < 45) : ∀ c ∈ Lib.itoa n, c ≠ b := by
  intro c hc e
  have := itoa_bytes n c hc
  rw [e] at this
  omega

/-- RowOk -/
def cellB (n : Int) : Bool := decide (-1000000000 ≤ n ∧ n ≤ 1000000000)
def okRow (r : List Int) : Bool := decide (1 ≤ r.length) && decide (r.length ≤ 6) && r.all cellB
theorem specCell (n : Int) : spec_l1Cell.f n = some (cellB n) := by
  unfold spec_l1Cell.f cellB
  by_cases h : n ≥ -1000000000
  · rw [if_pos h]; simp; omega
  · rw [if_neg h]; simp; omega

theorem implCell (n : Int) : impl_isCell.f n = some (cellB n) := by
  unfold impl_isCell.f cellB
  by_cases h : n ≥ -1000000000
  · rw [if_pos h]; simp; omega
  · rw [if_neg h]; simp; omega
theorem implIndex_ev (r : List Int) (hr : r.length < 4611686018427387904) : ∃ j : Int, Ev (fun k => slices_IndexFunc_int_int__impl_RowOk_1.f k r) j ∧ (decide (j ≥ 0) = !r.all cellB) := by
  have h : ∀ i, i ≤ r.length → ∃ j : Int, Ev (fun k => slices_IndexFunc_int_int__impl_RowOk_1.l0 k r (r.length : Int) (i : Int)) j ∧ (decide (j ≥ 0) = !(r.drop i).all cellB) := by
    have go : ∀ d i, i + d = r.length → ∃ j : Int, Ev (fun k => slices_IndexFunc_int_int__impl_RowOk_1.l0 k r (r.length : Int) (i : Int)) j ∧ (decide (j ≥ 0) = !(r.drop i).all cellB) := by
      intro d
      induction d with
      | zero =>
        intro i h
        refine ⟨-1, Ev.step (fun k => slices_IndexFunc_int_int__impl_RowOk_1.l0.eq_2 ..) (ev_neg (by omega) (ev_now rfl)), ?_⟩
        rw [drop_end r i (by omega)]; rfl
      | succ d ih =>
        intro i h
        obtain ⟨j, hj, hk⟩ := ih (i + 1) (by omega)
        have e1 : impl_RowOk_1.f (rd r i) = some (!cellB (rd r i)) := by unfold impl_RowOk_1.f; rw [implCell]; rfl
        rw [drop_rd r i (by omega), List.all_cons]
        cases hc : cellB (rd r i) with
        | true =>
          refine ⟨j, Ev.step (fun k => slices_IndexFunc_int_int__impl_RowOk_1.l0.eq_2 ..) (ev_pos (by omega) (ev_pos (by omega) (ev_pos (by omega) (ev_eq e1 (ev_neg (by rw [hc]; decide) ?_))))), by simpa using hk⟩
          rw [w64n (by omega)]
          exact hj
        | false =>
          refine ⟨(i : Int), Ev.step (fun k => slices_IndexFunc_int_int__impl_RowOk_1.l0.eq_2 ..) (ev_pos (by omega) (ev_pos (by omega) (ev_pos (by omega) (ev_eq e1 (ev_pos (by rw [hc]; rfl) (ev_now rfl)))))), ?_⟩
          simp
    exact fun i hi => go (r.length - i) i (by omega)
  obtain ⟨j, hj, hk⟩ := h 0 (by omega)
  exact ⟨j, by simpa [slices_IndexFunc_int_int__impl_RowOk_1.f] using hj, by simpa using hk⟩
theorem implRowOk_ev (r : List Int) (hr : r.length < 4611686018427387904) : Ev (fun k => impl_RowOk.f k r) (okRow r) := by
  obtain ⟨j, hj, hk⟩ := implIndex_ev r hr
  have hc : Ev (fun k => slices_ContainsFunc_int_int__impl_RowOk_1.f k r) (!r.all cellB) := by
    unfold slices_ContainsFunc_int_int__impl_RowOk_1.f
    exact hj.bind (ev_now hk)
  unfold impl_RowOk.f okRow
  by_cases h1 : 1 ≤ r.length
  · refine ev_pos (by omega) ?_
    by_cases h2 : r.length ≤ 6
    · exact ev_pos (by omega) (hc.bind (ev_now (by simp [h1, h2])))
    · exact ev_neg (by omega) (ev_now (by simp [h2]))
  · exact ev_neg (by omega) (ev_now (by simp [h1]))

theorem specRowOk_ev (r : List Int) (hr : r.length < 4611686018427387904) : Ev (fun k => spec_RowOk.f k r) (okRow r) := by
  have h := ev_down (fun k i => spec_RowOk.l0 k r (i : Int)) (fun i => (decide (1 ≤ r.length) && decide (r.length ≤ 6)) && (r.drop i).all cellB) r.length ?_ ?_ 0 (by omega)
  · simpa [spec_RowOk.f, okRow] using h
  · refine Ev.step (fun k => spec_RowOk.l0.eq_2 ..) (ev_neg (by omega) ?_)
    rw [drop_end r _ (Nat.le_refl _)]
    by_cases h : 1 ≤ r.length
    · exact ev_pos (by omega) (ev_now (by simp [h]; omega))
    · exact ev_neg (by omega) (ev_now (by simp [h]))
  · intro i hi ih
    refine Ev.step (fun k => spec_RowOk.l0.eq_2 ..) (ev_pos (by omega) (ev_pos (by omega) (ev_eq (specCell _) ?_)))
    rw [drop_rd r i hi, List.all_cons]
    cases hc : cellB (rd r i) with
    | true =>
      refine ev_pos rfl ?_
      rw [w64n (by omega), Bool.true_and]
      exact ih
    | false => exact ev_neg (by decide) (ev_now (by simp))

theorem rowB_join : ∀ rs : List Int, rowB rs = joinP 44 (rs.map Lib.itoa) := by
  intro rs
  cases rs with
  | nil => rfl
  | cons x l => simp only [rowB, tailB, joinP, List.map_cons, List.map_map]; rfl
theorem cut_row : ∀ (l : List Int) (x : Int), cutG 44 [] (rowB (x :: l)) = (x :: l).map Lib.itoa := by
  intro l
  induction l with
  | nil =>
    intro x
    rw [rowB, show tailB [] = [] from rfl, cutG_skip 44 _ _ _ (itoa_no x 44 (by decide))]
    rfl
  | cons y l ih =>
    intro x
    rw [rowB, show tailB (y :: l) = 44 :: rowB (y :: l) by simp [tailB, rowB], cutG_skip 44 _ _ _ (itoa_no x 44 (by decide)), List.nil_append, cutG, if_pos rfl, ih y]
    rfl
/-- pieces read as numbers -/
def numsF : List (List UInt8) → Option (List Int)
  | [] => some []
  | p :: ps => if (numF p).2 = true then (numsF ps).map ((numF p).1 :: ·) else none
theorem numsF_sound : ∀ (ps : List (List UInt8)) (rs : List Int), numsF ps = some rs → ps = rs.map Lib.itoa ∧ ∀ x ∈ rs, -100000000000000000 < x ∧ x < 100000000000000000 := by
  intro ps
  induction ps with
  | nil => intro rs h; simp [numsF] at h; subst h; simp
  | cons p ps ih =>
    intro rs h
    rw [numsF] at h
    by_cases hp : (numF p).2 = true
    · rw [if_pos hp] at h
      cases hq : numsF ps with
      | none => rw [hq] at h; cases h
      | some r =>
        rw [hq] at h
        have hr : rs = (numF p).1 :: r := by simpa using h.symm
        obtain ⟨e1, e2⟩ := ih r hq
        obtain ⟨s1, s2, s3⟩ := numF_sound (l := p) (n := (numF p).1) (Prod.ext rfl hp)
        subst hr
        refine ⟨?_, ?_⟩
        · rw [List.map_cons, ← e1, ← s1]
        · intro x hx
          rcases List.mem_cons.1 hx with rfl | hx
          · exact ⟨s2, s3⟩
          · exact e2 x hx
    · rw [if_neg hp] at h; cases h
theorem numsF_itoa : ∀ (rs : List Int), (∀ x ∈ rs, -100000000000000000 < x ∧ x < 100000000000000000) → numsF (rs.map Lib.itoa) = some rs := by
  intro rs
  induction rs with
  | nil => intro _; rfl
  | cons x rs ih =>
    intro h
    have hx := h x List.mem_cons_self
    rw [List.map_cons, numsF, numF_itoa hx.1 hx.2, if_pos rfl, ih (fun y hy => h y (List.mem_cons_of_mem _ hy))]
    rfl
def atois : List Int → List (List UInt8) → Option (List Int)
  | rs, [] => some rs
  | rs, p :: ps => match Lib.atoiAll p with | .ok v => atois (rs ++ [v]) ps | _ => none
theorem goB_atois : ∀ (l cur : List UInt8) (rs : List Int), goB cur rs (l ++ [44]) = atois rs (cutG 44 cur l) := by
  intro l
  induction l with
  | nil =>
    intro cur rs
    rw [List.nil_append, goB, if_pos rfl, cutG, atois]
    cases Lib.atoiAll cur with
    | ok v => rfl
    | range => rfl
    | _ => rfl
  | cons x l ih =>
    intro cur rs
    rw [List.cons_append, goB, cutG]
    by_cases h : x = 44
    · rw [if_pos h, if_pos h, atois]
      cases Lib.atoiAll cur with
      | ok v => exact ih [] _
      | range => rfl
      | _ => rfl
    · rw [if_neg h, if_neg h]
      exact ih _ _
theorem atois_itoa : ∀ (rs acc : List Int), (∀ x ∈ rs, -100000000000000000 < x ∧ x < 100000000000000000) → atois acc (rs.map Lib.itoa) = some (acc ++ rs) := by
  intro rs
  induction rs with
  | nil => intro acc _; simp [atois]
  | cons x rs ih =>
    intro acc h
    have hx := h x List.mem_cons_self
    rw [List.map_cons, atois, atoi_itoa hx.1 hx.2]
    show atois (acc ++ [x]) (rs.map Lib.itoa) = _
    rw [ih _ (fun y hy => h y (List.mem_cons_of_mem _ hy)), List.append_assoc]
    rfl
/-- what RowRead tells -/
def readR (l : List UInt8) : List Int × Bool := if l.length > 100 then ([], false) else match numsF (cutG 44 [] l) with | some rs => (if okRow rs = true then (rs, true) else ([], false)) | none => ([], false)
theorem okRow_mem {r : List Int} (h : okRow r = true) : 1 ≤ r.length ∧ r.length ≤ 6 ∧ ∀ x ∈ r, -1000000000 ≤ x ∧ x ≤ 1000000000 := by
  unfold okRow at h
  simp only [Bool.and_eq_true, decide_eq_true_eq, List.all_eq_true] at h
  exact ⟨h.1.1, h.1.2, fun x hx => by have := h.2 x hx; unfold cellB at this; simpa using this⟩
theorem readR_len (l : List UInt8) : (readR l).1.length ≤ 6 := by
  unfold readR
  split
  · simp
  · split
    · split
      · next h => exact (okRow_mem h).2.1
      · simp
    · simp
theorem implRead_ev (l : List UInt8) : Ev (fun k => impl_RowRead.f k (tx l)) (readR l) := by
  unfold impl_RowRead.f readR
  rw [tx_size, tx_toList]
  by_cases h0 : l.length > 100
  · rw [if_pos h0]
    exact ev_pos h0 (ev_now rfl)
  rw [if_neg h0, goB_atois]
  refine ev_neg h0 ?_
  cases hs : numsF (cutG 44 [] l) with
  | some rs =>
    obtain ⟨e1, e2⟩ := numsF_sound _ _ hs
    have ha := atois_itoa rs [] e2
    rw [← e1, List.nil_append] at ha
    rw [ha]
    have hlen : rs.length ≤ 101 := by
      have := congrArg List.length e1
      have h1 := cutG_many 44 l []
      rw [List.length_map] at this
      omega
    refine (implRowOk_ev rs (by omega)).bind ?_
    by_cases hk : okRow rs = true
    · simp only [hk, if_true]
      have hj : rowB rs = l := by
        have := cutG_join 44 l []
        rw [e1, ← rowB_join] at this
        exact this
      have ht := implRowText_ev rs (by omega) (fun x hx => okI_iff.2 (by have := (okRow_mem hk).2.2 x hx; omega))
      rw [hj] at ht
      exact ev_eq ht (ev_pos rfl (ev_now rfl))
    · simp only [hk]
      exact ev_now (by simp)
  | none =>
    cases ha : atois [] (cutG 44 [] l) with
    | none => exact ev_now rfl
    | some rs =>
      by_cases hk : okRow rs = true
      · have hm := okRow_mem hk
        have hok : ∀ x ∈ rs, okI x = true := fun x hx => okI_iff.2 (by have := hm.2.2 x hx; omega)
        have hne : rowB rs ≠ l := by
          intro e
          cases rs with
          | nil => simp at hm
          | cons x rs =>
            rw [← e, cut_row, numsF_itoa _ (fun y hy => by have := hm.2.2 y hy; omega)] at hs
            cases hs
        refine (implRowOk_ev rs (by omega)).bind ?_
        simp only [hk, if_true]
        exact ev_eq (implRowText_ev rs (by omega) hok) (ev_neg (fun e => hne (tx_inj e)) (ev_now rfl))
      · have hlen : Ev (fun k => impl_RowOk.f k rs) (okRow rs) := implRowOk_ev rs (by
          have h1 := cutG_many 44 l []
          have : ∀ (ps : List (List UInt8)) (acc r : List Int), atois acc ps = some r → r.length = acc.length + ps.length := by
            intro ps
            induction ps with
            | nil => intro acc r h; simp [atois] at h; subst h; simp
            | cons p ps ih =>
              intro acc r h
              rw [atois] at h
              cases hp : Lib.atoiAll p with
              | ok v => rw [hp] at h; have := ih _ _ h; simp at this ⊢; omega
              | range => rw [hp] at h; cases h
              | _ => rw [hp] at h; cases h
          have := this _ _ _ ha
          simp at this
          omega)
        refine hlen.bind ?_
        simp only [hk]
        exact ev_now (by simp)
theorem specRead_ev (l : List UInt8) (hl : l.length ≤ 4194304) : Ev (fun k => spec_RowRead.f k (tx l)) (readR l) := by
  unfold spec_RowRead.f readR
  rw [tx_size]
  by_cases h0 : l.length > 100
  · rw [if_pos h0]
    exact ev_pos (by omega) (ev_now rfl)
  rw [if_neg h0]
  refine ev_neg (by omega) ((l12Cut_ev l 44 hl).bind ?_)
  have hm := cutG_many 44 l []
  have hp := cutG_len 44 l []
  generalize cutG 44 [] l = ps at hm hp
  have go : ∀ (d i : Nat) (acc : List Int), i + d = ps.length → acc.length ≤ i →
      Ev (fun k => spec_RowRead.l0 k (ps.map tx) acc (i : Int)) (match numsF (ps.drop i) with | some rs => (if okRow (acc ++ rs) = true then (acc ++ rs, true) else ([], false)) | none => ([], false)) := by
    intro d
    induction d with
    | zero =>
      intro i acc hi ha
      rw [drop_end ps i (by omega)]
      simp only [numsF, List.append_nil]
      refine Ev.step (fun k => spec_RowRead.l0.eq_2 ..) (ev_neg (by rw [List.length_map]; omega) ((specRowOk_ev acc (by omega)).bind ?_))
      by_cases hk : okRow acc = true
      · exact ev_pos hk (ev_now (by rw [if_pos hk]))
      · exact ev_neg hk (ev_now (by rw [if_neg hk]))
    | succ d ih =>
      intro i acc hi ha
      have hil : i < ps.length := by omega
      have hpl := hp _ (List.getElem_mem hil)
      have hrd : rdOf ByteArray.empty (ps.map tx) (i : Int) = tx ps[i] := by
        unfold rdOf
        rw [Int.toNat_natCast, List.getD_eq_getElem?_getD, List.getElem?_map, List.getElem?_eq_getElem hil]
        rfl
      refine Ev.step (fun k => spec_RowRead.l0.eq_2 ..) (ev_pos (by rw [List.length_map]; omega) (ev_pos (by omega) ?_))
      rw [hrd, List.drop_eq_getElem_cons hil, numsF]
      refine (l12Num_ev ps[i] (by simp at hpl; omega)).bind ?_
      by_cases hn : (numF ps[i]).2 = true
      · rw [if_pos hn]
        refine ev_pos hn (ev_pos (by omega) ?_)
        rw [w64n (by omega)]
        have := ih (i + 1) (acc ++ [(numF ps[i]).1]) (by omega) (by simp; omega)
        cases hq : numsF (ps.drop (i + 1)) with
        | none => rw [hq] at this; exact this
        | some rs =>
          rw [hq] at this
          simp only [List.append_assoc, List.singleton_append] at this
          exact this
      · rw [if_neg hn]
        exact ev_neg hn (ev_now rfl)
  have := go ps.length 0 [] (by omega) (Nat.le_refl _)
  simpa using this

theorem FnExactRowRead : laws_FnExactRowRead.Pure := by
  intro a ha
  refine Ev.rounds ?_
  unfold laws_FnExactRowRead.f
  by_cases h1 : (a.size : Int) > 1048576
  · exact ev_pos h1 (ev_now rfl)
  refine ev_neg h1 ?_
  have hl : a.data.toList.length = a.size := Array.length_toList
  rw [tx_data a]
  have sp := specRead_ev a.data.toList (by omega)
  have im := implRead_ev a.data.toList
  have hg := readR_len a.data.toList
  generalize readR a.data.toList = g at sp im hg
  obtain ⟨g, t⟩ := g
  dsimp only at hg
  have eg := eqIntS_ev g g (by omega)
  have mk := markInts_ev g 1 (by omega) (by omega)
  have hd := heldInts_ev g.length 1 (by omega) (by omega)
  exact sp.bind (im.bind (eg.bind (ev_pos (by simp) (ev_neg (by simp) (mk.bind (hd.bind (ev_neg (by omega) (ev_pos rfl (im.bind (eg.bind (ev_pos (by simp) (ev_neg (by simp) (hd.bind (ev_neg (by omega) (ev_pos rfl (ev_now rfl))))))))))))))))

end Go.Proofs.YtgcplipimcbhlaaDoor.Pure
