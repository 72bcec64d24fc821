/- Whatever text there is, the program's TestRead reads the test that the reference's reads, or both none: the law answers true. No condition beyond what the statement gives (bytes). -/
import Derived.Test.YthmcbekemnabdaaDoorPFnExactTestReadx9
import Derived.Test.YthmcbekemnabdaaDoorQ
namespace Go.Proofs.YthmcbekemnabdaaDoor.Pure
open Go.RowKit Go.Proofs.YthmcbekemnabdaaDoor.PFnExactTestRead Go.Proofs.YthmcbekemnabdaaDoorW.PrintWords Go.Proofs.YthmcbekemnabdaaDoorW.PrintLast Go.Proofs.YthmcbekemnabdaaDoorW.PrintMore Go.Proofs.YthmcbekemnabdaaDoor.Q

/-- a text of its bytes -/
def tx (l : List UInt8) : ByteArray := ⟨l.toArray⟩
theorem tx_size (l : List UInt8) : (tx l).size = l.length := rfl
theorem tx_append (a b : List UInt8) : tx a ++ tx b = tx (a ++ b) := by
  apply ByteArray.ext
  show (tx a ++ tx b).data = _
  rw [ByteArray.data_append]
  simp [tx]
theorem tx_inj {a b : List UInt8} (h : tx a = tx b) : a = b := by
  have := congrArg (fun x => x.data.toList) h
  simpa [tx] using this

theorem tx_data (a : ByteArray) : a = tx a.data.toList := by
  apply ByteArray.ext
  simp [tx]
theorem tx_toList (l : List UInt8) : (tx l).data.toList = l := by simp [tx]
theorem tx_extract (l : List UInt8) (a b : Nat) : (tx l).extract a b = tx ((l.drop a).take (b - a)) := by
  rw [tx_data ((tx l).extract a b)]
  congr 1
  simp [tx, ByteArray.data_extract]
theorem bt_tx (l : List UInt8) (i : Nat) (h : i < l.length) : bt (tx l) (i : Int) = (l[i].toNat : Int) := by
  unfold bt
  have hs : (i : Int).toNat < (tx l).size := by rw [tx_size]; simpa using h
  rw [dif_pos hs]
  rfl
theorem dv_of (d : Nat) (h : d < 10) : Lib.digitVal (UInt8.ofNat (48 + d)) = some d := by
  rcases d with _ | _ | _ | _ | _ | _ | _ | _ | _ | _ | d
  all_goals first | rfl | omega
theorem dv_inv {c : UInt8} {d : Nat} (h : Lib.digitVal c = some d) : d < 10 ∧ c = UInt8.ofNat (48 + d) := by
  obtain ⟨h1, h2, h3⟩ := Lib.digitVal_eq h
  refine ⟨by omega, ?_⟩
  apply UInt8.toNat_inj.1
  rw [UInt8.toNat_ofNat']
  omega
theorem decFrom_snoc (l : List UInt8) (c : UInt8) : ∀ acc, Lib.decFrom acc (l ++ [c]) = (Lib.decFrom acc l).bind fun m => (Lib.digitVal c).map fun d => m * 10 + d := by
  induction l with
  | nil =>
    intro acc
    simp only [List.nil_append, Lib.decFrom, Option.bind_some]
    cases Lib.digitVal c <;> rfl
  | cons b l ih =>
    intro acc
    simp only [List.cons_append, Lib.decFrom]
    cases Lib.digitVal b with
    | none => rfl
    | some e => exact ih _
theorem dig_lt {u : Nat} (h : u < 10) : Lib.decDigits u = [UInt8.ofNat (48 + u)] := by rw [Lib.decDigits, dif_pos h]
theorem dig_ge {u : Nat} (h : ¬ u < 10) : Lib.decDigits u = Lib.decDigits (u / 10) ++ [UInt8.ofNat (48 + u % 10)] := by rw [Lib.decDigits, dif_neg h]
theorem decFrom_dig (u : Nat) : Lib.decFrom 0 (Lib.decDigits u) = some u := by
  induction u using Nat.strongRecOn with
  | ind u ih =>
    by_cases h : u < 10
    · rw [dig_lt h]
      simp only [Lib.decFrom, dv_of u h]
      simp
    · rw [dig_ge h, decFrom_snoc, ih (u / 10) (by omega), dv_of (u % 10) (by omega)]
      simp only [Option.bind_some, Option.map_some]
      congr 1
      omega
theorem dig_len (k u : Nat) (h : u < 10 ^ (k + 1)) : (Lib.decDigits u).length ≤ k + 1 := by
  induction k generalizing u with
  | zero => rw [dig_lt (by simpa using h)]; simp
  | succ k ih =>
    by_cases h1 : u < 10
    · rw [dig_lt h1]; simp
    · rw [dig_ge h1, List.length_append, List.length_singleton]
      have := ih (u / 10) (by rw [Nat.pow_succ] at h; omega)
      omega
theorem dig_head (u : Nat) : ∃ c l, Lib.decDigits u = c :: l ∧ 48 ≤ c.toNat ∧ c.toNat ≤ 57 ∧ (0 < u → c ≠ 48) := by
  induction u using Nat.strongRecOn with
  | ind u ih =>
    by_cases h : u < 10
    · rw [dig_lt h]
      refine ⟨_, _, rfl, ?_⟩
      rcases u with _ | _ | _ | _ | _ | _ | _ | _ | _ | _ | u
      all_goals first | (exfalso; omega) | decide
    · obtain ⟨c, l, h1, h2, h3, h4⟩ := ih (u / 10) (by omega)
      rw [dig_ge h, h1]
      exact ⟨c, l ++ [UInt8.ofNat (48 + u % 10)], rfl, h2, h3, fun _ => h4 (by omega)⟩
theorem dec_canon : ∀ (n : Nat) (l : List UInt8) (m : Nat), l.length = n + 1 → Lib.decFrom 0 l = some m → (l.head? ≠ some 48 ∨ l.length = 1) → Lib.decDigits m = l := by
  intro n
  induction n with
  | zero =>
    intro l m hl h _
    obtain ⟨b, rfl⟩ := List.length_eq_one_iff.1 (by omega : l.length = 1)
    simp only [Lib.decFrom] at h
    cases hb : Lib.digitVal b with
    | none => rw [hb] at h; cases h
    | some d =>
      rw [hb] at h
      obtain ⟨h1, h2⟩ := dv_inv hb
      have : m = d := by simpa using h.symm
      rw [this, dig_lt h1, h2]
  | succ n ih =>
    intro l m hl h hh
    rcases List.eq_nil_or_concat l with rfl | ⟨L, b, rfl⟩
    · simp at hl
    · rw [List.concat_eq_append] at *
      have hL : L.length = n + 1 := by simp at hl; omega
      rw [decFrom_snoc] at h
      cases hm : Lib.decFrom 0 L with
      | none => rw [hm] at h; cases h
      | some m' =>
        rw [hm, Option.bind_some] at h
        cases hb : Lib.digitVal b with
        | none => rw [hb] at h; cases h
        | some d =>
          rw [hb] at h
          obtain ⟨h1, h2⟩ := dv_inv hb
          have hmd : m = m' * 10 + d := by simpa using h.symm
          have hne : L.head? ≠ some 48 := by
            rcases hh with hh | hh
            · cases L with
              | nil => simp at hL
              | cons x L => simpa using hh
            · rw [List.length_append, List.length_singleton] at hh; omega
          have e := ih L m' hL hm (.inl hne)
          have hm1 : m' ≠ 0 := by
            intro e0
            rw [e0, dig_lt (by decide)] at e
            rw [← e] at hne
            exact hne rfl
          rw [dig_ge (by omega), show m / 10 = m' by omega, show m % 10 = d by omega, e, h2]
/-- what the reference reads as a number -/
def numM (neg : Bool) (d : List UInt8) : Int × Bool := match Lib.decFrom 0 d with | some m => (if neg = true then -(m : Int) else (m : Int), true) | none => (0, false)
def numF (l : List UInt8) : Int × Bool :=
  if l.head? = some 45 then (if l.tail = [] ∨ 17 < l.tail.length ∨ l.tail.head? = some 48 then (0, false) else numM true l.tail)
  else (if l = [] ∨ 17 < l.length ∨ (l.head? = some 48 ∧ 1 < l.length) then (0, false) else numM false l)
theorem decFrom_lt17 {d : List UInt8} {m : Nat} (h : Lib.decFrom 0 d = some m) (hl : d.length ≤ 17) : m < 100000000000000000 := by
  have h1 := Lib.decFrom_lt d 0 m h
  have h2 : 10 ^ d.length ≤ 10 ^ 17 := Nat.pow_le_pow_right (by decide) hl
  omega
theorem numF_sound {l : List UInt8} {n : Int} (h : numF l = (n, true)) : l = Lib.itoa n ∧ -100000000000000000 < n ∧ n < 100000000000000000 := by
  unfold numF at h
  by_cases h45 : l.head? = some 45
  · rw [if_pos h45] at h
    split at h
    · cases h
    · next hc =>
      have c1 : l.tail ≠ [] := fun e => hc (.inl e)
      have c2 : ¬ 17 < l.tail.length := fun e => hc (.inr (.inl e))
      have c3 : l.tail.head? ≠ some 48 := fun e => hc (.inr (.inr e))
      unfold numM at h
      cases hm : Lib.decFrom 0 l.tail with
      | none => rw [hm] at h; cases h
      | some m =>
        rw [hm] at h
        have hn : n = -(m : Int) := by simpa using h.symm
        have hb := decFrom_lt17 hm (by omega)
        obtain ⟨k, hk⟩ : ∃ k, l.tail.length = k + 1 := ⟨l.tail.length - 1, by have := List.length_pos_iff.2 c1; omega⟩
        have e := dec_canon k l.tail m hk hm (.inl c3)
        have hm0 : m ≠ 0 := by
          intro e0
          rw [e0, dig_lt (by decide)] at e
          rw [← e] at c3
          exact c3 rfl
        refine ⟨?_, by omega, by omega⟩
        unfold Lib.itoa
        rw [if_pos (by omega), show n.natAbs = m by omega, e]
        cases l with
        | nil => simp at h45
        | cons c r => simp at h45; rw [h45]; rfl
  · rw [if_neg h45] at h
    split at h
    · cases h
    · next hc =>
      have c1 : l ≠ [] := fun e => hc (.inl e)
      have c2 : ¬ 17 < l.length := fun e => hc (.inr (.inl e))
      unfold numM at h
      cases hm : Lib.decFrom 0 l with
      | none => rw [hm] at h; cases h
      | some m =>
        rw [hm] at h
        have hn : n = (m : Int) := by simpa using h.symm
        have hb := decFrom_lt17 hm (by omega)
        obtain ⟨k, hk⟩ : ∃ k, l.length = k + 1 := ⟨l.length - 1, by have := List.length_pos_iff.2 c1; omega⟩
        have e := dec_canon k l m hk hm (by
          by_cases h1 : l.head? = some 48
          · exact .inr (by
              have : ¬ 1 < l.length := fun e => hc (.inr (.inr ⟨h1, e⟩))
              omega)
          · exact .inl h1)
        refine ⟨?_, by omega, by omega⟩
        unfold Lib.itoa
        rw [if_neg (by omega), show n.toNat = m by omega, e]
theorem numF_itoa {n : Int} (h0 : -100000000000000000 < n) (h1 : n < 100000000000000000) : numF (Lib.itoa n) = (n, true) := by
  unfold Lib.itoa
  by_cases hn : n < 0
  · rw [if_pos hn]
    obtain ⟨c, l, e, h2, h3, h4⟩ := dig_head n.natAbs
    have hl := dig_len 16 n.natAbs (by
      have : (10 : Nat) ^ (16 + 1) = 100000000000000000 := by decide
      omega)
    unfold numF
    rw [if_pos (show (45 :: Lib.decDigits n.natAbs).head? = some 45 from rfl), if_neg]
    · unfold numM
      show (match Lib.decFrom 0 (Lib.decDigits n.natAbs) with | some m => (if true = true then -(m : Int) else (m : Int), true) | none => (0, false)) = _
      rw [decFrom_dig]
      simp only [if_true]
      congr 1
      omega
    · rintro (hc | hc | hc)
      · rw [List.tail_cons, e] at hc; cases hc
      · rw [List.tail_cons] at hc; omega
      · rw [List.tail_cons, e] at hc
        exact h4 (by omega) (by simpa using hc)
  · rw [if_neg hn]
    obtain ⟨c, l, e, h2, h3, h4⟩ := dig_head n.toNat
    have hl := dig_len 16 n.toNat (by
      have : (10 : Nat) ^ (16 + 1) = 100000000000000000 := by decide
      omega)
    have hc45 : c ≠ 45 := by rintro rfl; revert h2; decide
    unfold numF
    rw [if_neg (by rw [e]; simpa using hc45), if_neg]
    · unfold numM
      rw [decFrom_dig]
      simp only [Bool.false_eq_true, if_false]
      congr 1
      omega
    · rintro (hc | hc | ⟨hc, hc2⟩)
      · rw [e] at hc; cases hc
      · omega
      · by_cases hz : 0 < n.toNat
        · rw [e] at hc
          exact h4 hz (by simpa using hc)
        · rw [show n.toNat = 0 by omega, dig_lt (by decide)] at hc2
          simp at hc2
theorem atoi_itoa {n : Int} (h0 : -100000000000000000 < n) (h1 : n < 100000000000000000) : Lib.atoiAll (Lib.itoa n) = .ok n := by
  unfold Lib.itoa
  by_cases hn : n < 0
  · rw [if_pos hn]
    obtain ⟨c, l, e, h2, h3, h4⟩ := dig_head n.natAbs
    have hl := dig_len 16 n.natAbs (by
      have : (10 : Nat) ^ (16 + 1) = 100000000000000000 := by decide
      omega)
    rw [Lib.atoiAll_short _ (by rw [List.length_cons]; omega)]
    have : Lib.decNat (Lib.decDigits n.natAbs) = some n.natAbs := by
      unfold Lib.decNat
      rw [e, List.isEmpty_cons, if_neg (by decide), ← e, decFrom_dig]
    simp only [Lib.atoi, beq_self_eq_true, if_true, this, Option.map_some, Lib.NumEnd.ofOption]
    congr 1
    omega
  · rw [if_neg hn]
    obtain ⟨c, l, e, h2, h3, h4⟩ := dig_head n.toNat
    have hl := dig_len 16 n.toNat (by
      have : (10 : Nat) ^ (16 + 1) = 100000000000000000 := by decide
      omega)
    have hc45 : c ≠ 45 := by rintro rfl; revert h2; decide
    have hc43 : c ≠ 43 := by rintro rfl; revert h2; decide
    rw [Lib.atoiAll_short _ (by omega)]
    have : Lib.decNat (c :: l) = some n.toNat := by
      unfold Lib.decNat
      rw [List.isEmpty_cons, if_neg (by decide), ← e, decFrom_dig]
    rw [e]
    simp only [Lib.atoi]
    rw [if_neg (by simpa using hc45), if_neg (by simpa using hc43), this]
    simp only [Option.map_some, Lib.NumEnd.ofOption]
    congr 1
    omega

theorem num_go (l : List UInt8) (neg : Bool) (hl : l.length ≤ 17) : ∀ (d i acc : Nat), i + d = l.length → acc < 10 ^ i →
    Ev (fun k => spec_l12Num.l0 k (tx l) neg (acc : Int) (i : Int)) (match Lib.decFrom acc (l.drop i) with | some m => (if neg = true then -(m : Int) else (m : Int), true) | none => (0, false)) := by
  have hp : ∀ i, i ≤ 17 → 10 ^ i ≤ 100000000000000000 := fun i hi => Nat.le_trans (Nat.pow_le_pow_right (by decide) hi) (by decide)
  intro d
  induction d with
  | zero =>
    intro i acc hi ha
    have := hp i (by omega)
    rw [drop_end l i (by omega)]
    refine Ev.step (fun k => spec_l12Num.l0.eq_2 ..) (ev_neg (by rw [tx_size]; omega) ?_)
    simp only [Lib.decFrom]
    cases neg with
    | true => exact ev_pos rfl (ev_now (by rw [w64 (by omega) (by omega)]; rfl))
    | false => exact ev_neg (by decide) (ev_now rfl)
  | succ d ih =>
    intro i acc hi ha
    have := hp i (by omega)
    have hil : i < l.length := by omega
    have hb := l[i].toNat_lt
    refine Ev.step (fun k => spec_l12Num.l0.eq_2 ..) (ev_pos (by rw [tx_size]; omega) (ev_pos (by omega) ?_))
    rw [bt_tx l i hil, List.drop_eq_getElem_cons hil]
    simp only [Lib.decFrom]
    by_cases h1 : 48 ≤ l[i].toNat ∧ l[i].toNat ≤ 57
    · have hd : Lib.digitVal l[i] = some (l[i].toNat - 48) := by unfold Lib.digitVal; rw [if_pos h1]
      rw [hd]
      refine ev_neg (by omega) (ev_neg (by omega) ?_)
      rw [w64 (x := (acc : Int) * 10) (by omega) (by omega), w64n (by omega), w64 (by omega) (by omega), show (acc : Int) * 10 + ((l[i].toNat : Int) - 48) % 256 = ((acc * 10 + (l[i].toNat - 48) : Nat) : Int) by omega]
      exact ih (i + 1) _ (by omega) (by rw [Nat.pow_succ]; omega)
    · have hd : Lib.digitVal l[i] = none := by unfold Lib.digitVal; rw [if_neg h1]
      rw [hd]
      by_cases h2 : l[i].toNat < 48
      · exact ev_pos (by omega) (ev_now rfl)
      · exact ev_neg (by omega) (ev_pos (by omega) (ev_now rfl))
theorem l12Num_ev (l : List UInt8) (hl : l.length ≤ 4194304) : Ev (fun k => spec_l12Num.f k (tx l)) (numF l) := by
  unfold spec_l12Num.f numF
  rw [tx_size]
  cases l with
  | nil => exact ev_neg (by simp) (ev_pos (by simp) (ev_now (by simp)))
  | cons c r =>
    simp only [List.length_cons] at hl
    refine ev_pos (by simp <;> omega) (ev_pos (by simp <;> omega) ?_)
    have hb0 : bt (tx (c :: r)) 0 = (c.toNat : Int) := bt_tx (c :: r) 0 (by simp)
    have hx : (tx (c :: r)).extract 1 (c :: r).length = tx r := by rw [tx_extract]; congr 1; simp
    rw [hb0]
    by_cases hc : c = 45
    · subst hc
      rw [if_pos (show ((45 :: r).head? = some 45) from rfl), List.tail_cons]
      refine ev_pos rfl (ev_pos (by simp <;> omega) ?_)
      rw [hx, tx_size]
      by_cases h1 : r = []
      · subst h1
        exact ev_pos (by simp) (ev_now (by simp))
      have hr0 : 0 < r.length := List.length_pos_iff.2 h1
      refine ev_neg (by omega) ?_
      by_cases h2 : 17 < r.length
      · rw [if_pos (show r = [] ∨ 17 < r.length ∨ r.head? = some 48 from .inr (.inl h2))]
        exact ev_pos (by omega) (ev_now rfl)
      refine ev_neg (by omega) (ev_pos (by omega) ?_)
      have hb1 : bt (tx r) 0 = (r[0].toNat : Int) := bt_tx r 0 hr0
      have hh : r.head? = some r[0] := by cases r with | nil => simp at hr0 | cons x r => rfl
      rw [hb1]
      by_cases h3 : r[0] = 48
      · rw [if_pos (show r = [] ∨ 17 < r.length ∨ r.head? = some 48 from .inr (.inr (by rw [hh, h3])))]
        refine ev_pos (by rw [h3]; rfl) ?_
        by_cases h4 : (r.length : Int) > 1
        · exact ev_pos h4 (ev_now rfl)
        · exact ev_neg h4 (ev_now rfl)
      · rw [if_neg (show ¬ (r = [] ∨ 17 < r.length ∨ r.head? = some 48) by
          rintro (e | e | e)
          · exact h1 e
          · exact h2 e
          · rw [hh] at e; exact h3 (Option.some.inj e))]
        refine ev_neg (fun e => h3 (UInt8.toNat_inj.1 (by have : r[0].toNat = 48 := by omega
                                                          rw [this]; rfl))) ?_
        have := num_go r true (by omega) r.length 0 0 (by omega) (by decide)
        rw [List.drop_zero] at this
        exact this
    · have hcn : ¬ (c.toNat : Int) = 45 := fun e => hc (UInt8.toNat_inj.1 (by have : c.toNat = 45 := by omega
                                                                              rw [this]; rfl))
      have hh : (c :: r).head? = some c := rfl
      rw [if_neg (show ¬ ((c :: r).head? = some 45) by rw [hh]; intro e; exact hc (Option.some.inj e))]
      refine ev_neg hcn (ev_neg (by simp <;> omega) ?_)
      rw [List.length_cons]
      by_cases h2 : 17 < r.length + 1
      · rw [if_pos (show (c :: r = [] ∨ 17 < r.length + 1 ∨ ((c :: r).head? = some 48 ∧ 1 < r.length + 1)) from .inr (.inl h2))]
        exact ev_pos (by omega) (ev_now rfl)
      refine ev_neg (by omega) ?_
      have hneg : ((c.toNat : Int) == 45) = false := by simpa using hcn
      have go := num_go (c :: r) false (by simp <;> omega) (c :: r).length 0 0 (by omega) (by decide)
      rw [List.drop_zero] at go
      rw [hneg]
      by_cases h3 : c = 48
      · subst h3
        refine ev_pos rfl ?_
        by_cases h4 : 1 < r.length + 1
        · rw [if_pos (show ((48 : UInt8) :: r = [] ∨ 17 < r.length + 1 ∨ (((48 : UInt8) :: r).head? = some 48 ∧ 1 < r.length + 1)) from .inr (.inr ⟨rfl, h4⟩))]
          exact ev_pos (by omega) (ev_now rfl)
        · rw [if_neg (show ¬ ((48 : UInt8) :: r = [] ∨ 17 < r.length + 1 ∨ (((48 : UInt8) :: r).head? = some 48 ∧ 1 < r.length + 1)) by
            rintro (e | e | ⟨_, e⟩)
            · cases e
            · exact h2 e
            · exact h4 e)]
          exact ev_neg (by omega) go
      · rw [if_neg (show ¬ (c :: r = [] ∨ 17 < r.length + 1 ∨ ((c :: r).head? = some 48 ∧ 1 < r.length + 1)) by
          rintro (e | e | ⟨e, _⟩)
          · cases e
          · exact h2 e
          · rw [hh] at e; exact h3 (Option.some.inj e))]
        exact ev_neg (fun e => h3 (UInt8.toNat_inj.1 (by have : c.toNat = 48 := by omega
                                                         rw [this]; rfl))) go

theorem idx (c : UInt8) : ∀ l : List UInt8, (Lib.indexByte l c = -1 ∧ ∀ x ∈ l, x ≠ c) ∨ ∃ p q, l = p ++ c :: q ∧ (∀ x ∈ p, x ≠ c) ∧ Lib.indexByte l c = p.length := by
  intro l
  induction l with
  | nil => exact .inl ⟨rfl, by simp⟩
  | cons x l ih =>
    by_cases h : x = c
    · subst h
      refine .inr ⟨[], l, rfl, by simp, ?_⟩
      unfold Lib.indexByte
      simp
    · have hx : (x == c) = false := by simpa using h
      rcases ih with ⟨h1, h2⟩ | ⟨p, q, h1, h2, h3⟩
      · refine .inl ⟨?_, fun y hy => by rcases List.mem_cons.1 hy with rfl | hy; exact h; exact h2 y hy⟩
        unfold Lib.indexByte
        simp [hx, h1]
      · refine .inr ⟨x :: p, q, by rw [h1]; rfl, fun y hy => by rcases List.mem_cons.1 hy with rfl | hy; exact h; exact h2 y hy, ?_⟩
        unfold Lib.indexByte
        simp [hx, h3]
        try omega
theorem toList_tx (l : List UInt8) : (tx l).toList = l := by rw [Lib.toList_data, tx_toList]
theorem split_one (c : UInt8) : ∀ (a p b q : List UInt8), (∀ x ∈ a, x ≠ c) → (∀ x ∈ p, x ≠ c) → a ++ c :: b = p ++ c :: q → a = p ∧ b = q := by
  intro a
  induction a with
  | nil =>
    intro p b q _ hp e
    cases p with
    | nil => simpa using e
    | cons x p => simp at e; exact absurd e.1.symm (hp x List.mem_cons_self)
  | cons y a ih =>
    intro p b q ha hp e
    cases p with
    | nil => simp at e; exact absurd e.1 (ha y List.mem_cons_self)
    | cons x p =>
      simp only [List.cons_append, List.cons.injEq] at e
      obtain ⟨h1, h2⟩ := ih p b q (fun z hz => ha z (List.mem_cons_of_mem _ hz)) (fun z hz => hp z (List.mem_cons_of_mem _ hz)) e.2
      exact ⟨by rw [e.1, h1], h2⟩

/-- a column's number below six -/
def colB (a : Int) : Bool := decide (0 ≤ a) && decide (a < 6)
/-- a cell's value within its bounds -/
def numB (n : Int) : Bool := decide (-1000000000 ≤ n) && decide (n ≤ 1000000000)
theorem colB_iff {a : Int} : colB a = true ↔ 0 ≤ a ∧ a < 6 := by unfold colB; simp
theorem numB_iff {a : Int} : numB a = true ↔ -1000000000 ≤ a ∧ a ≤ 1000000000 := by unfold numB; simp
theorem spec_l1Cell_f (n : Int) : spec_l1Cell.f n = some (numB n) := by
  unfold spec_l1Cell.f numB
  by_cases h0 : n ≥ -1000000000 <;> simp [h0]
theorem impl_isCell_f (n : Int) : impl_isCell.f n = some (numB n) := by
  unfold impl_isCell.f numB
  by_cases h0 : n ≥ -1000000000 <;> simp [h0]
theorem impl_isPlace_f (a : Int) : impl_isPlace.f a 6 = some (colB a) := by
  unfold impl_isPlace.f colB mn
  by_cases h0 : a ≥ 0 <;> simp [h0]
/-- a place's text: a c and one digit below six -/
def placeF (l : List UInt8) : Int × Bool := match l with
  | [c, d] => if c = 99 ∧ 48 ≤ d.toNat ∧ d.toNat < 54 then ((d.toNat : Int) - 48, true) else (0, false)
  | _ => (0, false)
theorem place_f (l : List UInt8) : spec_l3Place.f (tx l) = some (placeF l) := by
  unfold spec_l3Place.f
  rw [tx_size]
  match l with
  | [] => rfl
  | [c] => rfl
  | c :: d :: e :: r =>
    rw [if_neg (by simp only [List.length_cons]; omega)]
    rfl
  | [c, d] =>
    have h0 : bt (tx [c, d]) 0 = (c.toNat : Int) := bt_tx [c, d] 0 (by simp)
    have h1 : bt (tx [c, d]) 1 = (d.toNat : Int) := bt_tx [c, d] 1 (by simp)
    have hd := d.toNat_lt
    rw [h0, h1, w64 (x := (d.toNat : Int)) (by omega) (by omega)]
    simp only [List.length_cons, List.length_nil, placeF]
    rw [if_pos (by omega), if_pos (by omega)]
    by_cases hc : c = 99
    · subst hc
      rw [if_pos (by rfl), if_pos (by omega)]
      by_cases h2 : (d.toNat : Int) < 48
      · rw [if_pos h2, if_neg (by omega)]
      · rw [if_neg h2]
        by_cases h3 : (d.toNat : Int) ≥ 54
        · rw [if_pos h3, if_neg (by omega)]
        · rw [if_neg h3, if_pos ⟨rfl, by omega, by omega⟩, w64 (by omega) (by omega)]
    · rw [if_neg (fun e => hc (UInt8.toNat_inj.1 (by have : c.toNat = 99 := by omega
                                                     rw [this]; rfl))), if_neg (fun e => hc e.1)]
theorem place_itoa {a : Int} (h0 : 0 ≤ a) (h1 : a < 6) : placeF (99 :: Lib.itoa a) = (a, true) := by
  obtain ⟨n, rfl⟩ := Int.eq_ofNat_of_zero_le h0
  have hn : n < 6 := by omega
  unfold Lib.itoa
  rw [if_neg (by omega), Int.toNat_natCast, dig_lt (by omega)]
  rcases n with _ | _ | _ | _ | _ | _ | n
  all_goals first | rfl | omega
theorem place_sound {l : List UInt8} (h : (placeF l).2 = true) : ∃ a : Int, placeF l = (a, true) ∧ l = 99 :: Lib.itoa a ∧ 0 ≤ a ∧ a < 6 := by
  match l with
  | [] => cases h
  | [c] => cases h
  | c :: d :: e :: r => cases h
  | [c, d] =>
    simp only [placeF] at h ⊢
    by_cases hc : c = 99 ∧ 48 ≤ d.toNat ∧ d.toNat < 54
    · rw [if_pos hc]
      refine ⟨_, rfl, ?_, by omega, by omega⟩
      unfold Lib.itoa
      rw [if_neg (by omega), dig_lt (by omega), hc.1]
      have : d = UInt8.ofNat (48 + ((d.toNat : Int) - 48).toNat) := by
        apply UInt8.toNat_inj.1
        rw [UInt8.toNat_ofNat']
        omega
      rw [← this]
    · rw [if_neg hc] at h
      cases h
theorem place_no {l : List UInt8} (h : ¬ (placeF l).2 = true) : placeF l = (0, false) := by
  match l with
  | [] => rfl
  | [c] => rfl
  | c :: d :: e :: r => rfl
  | [c, d] =>
    simp only [placeF] at h ⊢
    by_cases hc : c = 99 ∧ 48 ≤ d.toNat ∧ d.toNat < 54
    · rw [if_pos hc] at h
      exact absurd rfl h
    · rw [if_neg hc]
theorem find_ev (l : List UInt8) (c : UInt8) (hl : l.length ≤ 4194304) : Ev (fun k => spec_l12Find.f k (tx l) (c.toNat : Int)) (Lib.indexByte l c) := by
  have go : ∀ (d i : Nat), i + d = l.length → Ev (fun k => spec_l12Find.l0 k (tx l) (c.toNat : Int) (i : Int)) (if Lib.indexByte (l.drop i) c = -1 then -1 else Lib.indexByte (l.drop i) c + i) := by
    intro d
    induction d with
    | zero =>
      intro i hi
      refine Ev.step (fun k => spec_l12Find.l0.eq_2 ..) (ev_neg (by rw [tx_size]; omega) (ev_now ?_))
      rw [drop_end l i (by omega)]
      rfl
    | succ d ih =>
      intro i hi
      have hil : i < l.length := by omega
      refine Ev.step (fun k => spec_l12Find.l0.eq_2 ..) (ev_pos (by rw [tx_size]; omega) (ev_pos (by omega) ?_))
      rw [bt_tx l i hil, List.drop_eq_getElem_cons hil, w64n (by omega)]
      by_cases h : l[i] = c
      · refine ev_pos (by rw [h]) (ev_now ?_)
        unfold Lib.indexByte
        simp [h]
      · refine ev_neg (fun e => h (UInt8.toNat_inj.1 (by omega))) ?_
        have := ih (i + 1) (by omega)
        have hx : (l[i] == c) = false := by simpa using h
        have e : (if Lib.indexByte (l[i] :: l.drop (i + 1)) c = -1 then (-1 : Int) else Lib.indexByte (l[i] :: l.drop (i + 1)) c + i) = (if Lib.indexByte (l.drop (i + 1)) c = -1 then -1 else Lib.indexByte (l.drop (i + 1)) c + ((i + 1 : Nat) : Int)) := by
          rw [Lib.indexByte]
          simp only [hx, Bool.false_eq_true, if_false, beq_iff_eq]
          by_cases h1 : Lib.indexByte (l.drop (i + 1)) c = -1
          · rw [if_pos h1, if_pos rfl, if_pos h1]
          · rw [if_neg h1, if_neg h1]
            rcases idx c (l.drop (i + 1)) with ⟨a, _⟩ | ⟨p, q, _, _, a⟩
            · exact absurd a h1
            · rw [a, if_neg (by omega)]; omega
        rw [e]
        exact this
  have := go l.length 0 (by omega)
  unfold spec_l12Find.f
  rw [List.drop_zero] at this
  have e : (if Lib.indexByte l c = -1 then (-1 : Int) else Lib.indexByte l c + ((0 : Nat) : Int)) = Lib.indexByte l c := by
    by_cases h : Lib.indexByte l c = -1
    · rw [if_pos h, h]
    · rw [if_neg h]; simp
  rw [e] at this
  exact this
/-- the reference's reading of one place or two -/
def plusF (l : List UInt8) : Int × Int × Int × Int × Bool :=
  if Lib.indexByte l 43 < 0 then (if (placeF l).2 = true then (1, (placeF l).1, 0, 0, true) else (0, 0, 0, 0, false))
  else if (placeF (l.take (Lib.indexByte l 43).toNat)).2 = true then (if (placeF (l.drop ((Lib.indexByte l 43).toNat + 1))).2 = true then (3, (placeF (l.take (Lib.indexByte l 43).toNat)).1, (placeF (l.drop ((Lib.indexByte l 43).toNat + 1))).1, 0, true) else (0, 0, 0, 0, false)) else (0, 0, 0, 0, false)
theorem plus_ev (l : List UInt8) (hl : l.length ≤ 4194304) : Ev (fun k => (spec_l12Find.f k (tx l) 43).bind fun t105 => (if t105 < 0 then ((spec_l3Place.f (tx l)).bind fun bt106 => (if bt106.2 = true then (some (1, bt106.1, 0, 0, true)) else (some (0, 0, 0, 0, false)))) else (if 0 ≤ t105 then (if t105 ≤ ((tx l).size : Int) then ((spec_l3Place.f ((tx l).extract 0 (t105 : Int).toNat)).bind fun bt108 => (if 0 ≤ (wrap64 (t105 + 1)) then (if (wrap64 (t105 + 1)) ≤ ((tx l).size : Int) then ((spec_l3Place.f ((tx l).extract ((wrap64 (t105 + 1)) : Int).toNat (tx l).size)).bind fun bt110 => (if bt108.2 = true then (if bt110.2 = true then (some (3, bt108.1, bt110.1, 0, true)) else (some (0, 0, 0, 0, false))) else (some (0, 0, 0, 0, false)))) else (none)) else (none))) else (none)) else (none)))) (plusF l) := by
  refine (find_ev l 43 hl).bind ?_
  unfold plusF
  rcases idx 43 l with ⟨h1, _⟩ | ⟨p, q, h1, _, h3⟩
  · rw [h1]
    refine ev_pos (by decide) (ev_eq (place_f l) ?_)
    rw [if_pos (show (-1 : Int) < 0 by decide)]
    by_cases hp : (placeF l).2 = true
    · exact ev_pos hp (ev_now (by rw [if_pos hp]))
    · exact ev_neg hp (ev_now (by rw [if_neg hp]))
  · have hll : l.length = p.length + (q.length + 1) := by rw [h1, List.length_append, List.length_cons]
    rw [h3]
    refine ev_neg (by omega) (ev_pos (by omega) (ev_pos (by rw [tx_size]; omega) ?_))
    rw [if_neg (by omega), w64n (n := p.length) (by omega)]
    rw [tx_extract, Int.toNat_natCast, Nat.sub_zero, List.drop_zero]
    refine ev_eq (place_f _) (ev_pos (by omega) (ev_pos (by rw [tx_size]; omega) ?_))
    rw [Int.toNat_natCast, tx_extract, tx_size, List.take_of_length_le (by rw [List.length_drop]; exact Nat.le_refl _)]
    refine ev_eq (place_f _) ?_
    by_cases ha : (placeF (l.take p.length)).2 = true
    · refine ev_pos ha ?_
      rw [if_pos ha]
      by_cases hb : (placeF (l.drop (p.length + 1))).2 = true
      · exact ev_pos hb (ev_now (by rw [if_pos hb]))
      · exact ev_neg hb (ev_now (by rw [if_neg hb]))
    · exact ev_neg ha (ev_now (by rw [if_neg ha]))
/-- the reference's reading of a cell's text -/
def readC (l : List UInt8) : Int × Int × Int × Int × Bool :=
  if l.head? = some 35 then (if (numF l.tail).2 = true then (if numB (numF l.tail).1 = true then (2, 0, 0, (numF l.tail).1, true) else (0, 0, 0, 0, false)) else (0, 0, 0, 0, false)) else plusF l
theorem specCell_ev (l : List UInt8) (hl : l.length ≤ 4194304) : Ev (fun k => spec_CellRead.f k (tx l)) (readC l) := by
  unfold spec_CellRead.f
  have pl := plus_ev l hl
  cases l with
  | nil => exact ev_neg (by decide) pl
  | cons c r =>
    have h0 : bt (tx (c :: r)) 0 = (c.toNat : Int) := bt_tx (c :: r) 0 (by simp)
    rw [h0]
    by_cases hr : r = []
    · subst hr
      refine ev_neg (by rw [tx_size]; simp) ?_
      have e : readC [c] = plusF [c] := by
        by_cases hc : c = 35
        · subst hc; decide
        · unfold readC; rw [if_neg (by simpa using hc)]
      rw [e]
      exact pl
    have hr0 : 0 < r.length := List.length_pos_iff.2 hr
    simp only [List.length_cons] at hl
    refine ev_pos (by rw [tx_size, List.length_cons]; omega) (ev_pos (by rw [tx_size, List.length_cons]; omega) ?_)
    by_cases hc : c = 35
    · subst hc
      refine ev_pos (by rfl) (ev_pos (by rw [tx_size, List.length_cons]; omega) ?_)
      have hx : (tx (35 :: r)).extract 1 (tx (35 :: r)).size = tx r := by rw [tx_extract, tx_size]; congr 1; simp
      rw [hx]
      unfold readC
      rw [if_pos (by rfl), List.tail_cons]
      refine (l12Num_ev r (by omega)).bind ?_
      by_cases h1 : (numF r).2 = true
      · refine ev_pos h1 (ev_eq (spec_l1Cell_f _) ?_)
        rw [if_pos h1]
        by_cases h2 : numB (numF r).1 = true
        · exact ev_pos h2 (ev_now (by rw [if_pos h2]))
        · exact ev_neg h2 (ev_now (by rw [if_neg h2]))
      · exact ev_neg h1 (ev_now (by rw [if_neg h1]))
    · refine ev_neg (fun e => hc (UInt8.toNat_inj.1 (by have : c.toNat = 35 := by omega
                                                        rw [this]; rfl))) ?_
      have e : readC (c :: r) = plusF (c :: r) := by unfold readC; rw [if_neg (by simpa using hc)]
      rw [e]
      exact pl

theorem pre_one (c : UInt8) (l : List UInt8) : Lib.hasPrefix l [c] = true ↔ ∃ q, l = c :: q := by
  unfold Lib.hasPrefix
  cases l with
  | nil => exact ⟨(fun h => by cases h), (fun ⟨q, hq⟩ => by cases hq)⟩
  | cons x l =>
    show ((c == x) && List.isPrefixOf [] l) = true ↔ _
    rw [Bool.and_eq_true, beq_iff_eq]
    constructor
    · rintro ⟨rfl, _⟩
      exact ⟨l, rfl⟩
    · rintro ⟨q, hq⟩
      injection hq with h1 h2
      exact ⟨h1.symm, rfl⟩
theorem trim_one (c : UInt8) (q : List UInt8) : Lib.trimPrefix (c :: q) [c] = q := by
  unfold Lib.trimPrefix
  rw [if_pos ((pre_one c _).2 ⟨q, rfl⟩)]
  rfl
theorem itoaI {n : Int} (h0 : -1000000000 ≤ n) (h1 : n ≤ 1000000000) : strconv_Itoa.f n = some (tx (Lib.itoa n)) ∧ (Lib.itoa n).length ≤ 21 := by
  refine ⟨?_, Lib.itoa_length_le n (by omega) (by omega)⟩
  unfold strconv_Itoa.f
  rw [if_pos (okI_iff.2 (by omega))]
  rfl
/-- what strconv.Atoi reads, in short -/
theorem atoi_f (l : List UInt8) (hl : l.length ≤ 1048576) : ∃ n o, strconv_Atoi.f (tx l) = some (n, o) ∧ (o.isNone = true → Lib.atoiAll l = .ok n) ∧ (∀ m, Lib.atoiAll l = .ok m → n = m ∧ o.isNone = true) := by
  unfold strconv_Atoi.f
  rw [tx_size, if_pos hl, tx_toList]
  cases h : Lib.atoiAll l with
  | ok v => exact ⟨v, none, rfl, (fun _ => rfl), (fun m hm => by injection hm with hm; exact ⟨hm, rfl⟩)⟩
  | range => exact ⟨_, some 0, rfl, (fun e => by cases e), (fun m hm => by cases hm)⟩
  | _ => exact ⟨0, some 0, rfl, (fun e => by cases e), (fun m hm => by cases hm)⟩
theorem column_f (l : List UInt8) (hl : l.length ≤ 1048576) : ∃ n b, impl_column.f (tx l) = some (n, b) ∧ (b = true → ∃ q, l = 99 :: q) ∧ (∀ a : Int, 0 ≤ a → a < 6 → l = 99 :: Lib.itoa a → n = a ∧ b = true) := by
  unfold impl_column.f strings_CutPrefix.f
  rw [tx_toList, show (⟨#[99]⟩ : ByteArray).data.toList = [99] from rfl, Option.bind_some]
  obtain ⟨n, o, e, h1, h2⟩ := atoi_f (Lib.trimPrefix l [99]) (Nat.le_trans (Lib.trimPrefix_le _ _) hl)
  refine ⟨n, Lib.hasPrefix l [99] && o.isNone, ?_, ?_, ?_⟩
  · dsimp only
    rw [show (⟨(Lib.trimPrefix l [99]).toArray⟩ : ByteArray) = tx (Lib.trimPrefix l [99]) from rfl, e, Option.bind_some]
    dsimp only
    by_cases hp : Lib.hasPrefix l [99] = true
    · rw [if_pos hp, hp]
      by_cases ho : o.isNone = true
      · rw [if_pos ho, ho]; rfl
      · rw [if_neg ho, Bool.eq_false_iff.2 ho]; rfl
    · rw [if_neg hp, Bool.eq_false_iff.2 hp]; rfl
  · intro hb
    exact (pre_one 99 l).1 (by simp at hb; exact hb.1)
  · intro a h0 h6 e
    subst e
    rw [trim_one] at h2
    obtain ⟨i1, i2⟩ := h2 a (atoi_itoa (by omega) (by omega))
    exact ⟨i1, by rw [i2, (pre_one 99 _).2 ⟨_, rfl⟩]; rfl⟩
theorem cellText0 : impl_CellText.f 0 0 0 0 = some (tx []) := by
  unfold impl_CellText.f impl_CellOk.f
  rfl
theorem cellText1 (a : Int) : impl_CellText.f 1 a 0 0 = some (tx (if colB a = true then 99 :: Lib.itoa a else [])) := by
  unfold impl_CellText.f impl_CellOk.f impl_colReckoning_ok.f
  simp only [if_true, impl_isPlace_f, Option.bind_some]
  by_cases h : colB a = true
  · have h6 := colB_iff.1 h
    obtain ⟨e, hs⟩ := itoaI (n := a) (by omega) (by omega)
    rw [if_pos h, if_pos h]
    unfold impl_colReckoning_text.f
    rw [e, Option.bind_some, if_pos (by rw [tx_size]; omega)]
    exact congrArg some (tx_append [99] _)
  · rw [if_neg h, if_neg h]
    rfl
theorem cellText2 (n : Int) : impl_CellText.f 2 0 0 n = some (tx (if numB n = true then 35 :: Lib.itoa n else [])) := by
  unfold impl_CellText.f impl_CellOk.f impl_numReckoning_ok.f
  simp only [show ¬ ((2 : Int) = 1) by decide, if_true, if_false, impl_isCell_f, Option.bind_some]
  by_cases h : numB n = true
  · have h6 := numB_iff.1 h
    obtain ⟨e, hs⟩ := itoaI h6.1 h6.2
    rw [if_pos h, if_pos h]
    unfold impl_numReckoning_text.f
    rw [e, Option.bind_some, if_pos (by rw [tx_size]; omega)]
    exact congrArg some (tx_append [35] _)
  · rw [if_neg h, if_neg h]
    rfl
theorem cellText3 (a b : Int) : impl_CellText.f 3 a b 0 = some (tx (if colB a = true ∧ colB b = true then 99 :: (Lib.itoa a ++ 43 :: 99 :: Lib.itoa b) else [])) := by
  unfold impl_CellText.f impl_CellOk.f impl_sumReckoning_ok.f
  simp only [show ¬ ((3 : Int) = 1) by decide, show ¬ ((3 : Int) = 2) by decide, if_true, if_false, impl_isPlace_f, Option.bind_some]
  by_cases h : colB a = true
  · by_cases h' : colB b = true
    · have h6 := colB_iff.1 h
      have h7 := colB_iff.1 h'
      obtain ⟨e, hs⟩ := itoaI (n := a) (by omega) (by omega)
      obtain ⟨e', hs'⟩ := itoaI (n := b) (by omega) (by omega)
      rw [if_pos (show colB a = true ∧ colB b = true from ⟨h, h'⟩)]
      simp only [h, h', if_true, Option.bind_some]
      unfold impl_sumReckoning_text.f
      have x1 : (⟨#[99]⟩ : ByteArray) ++ tx (Lib.itoa a) = tx (99 :: Lib.itoa a) := tx_append [99] _
      have x2 : tx (99 :: Lib.itoa a) ++ (⟨#[43, 99]⟩ : ByteArray) = tx ((99 :: Lib.itoa a) ++ [43, 99]) := tx_append _ [43, 99]
      rw [e, Option.bind_some, if_pos (by rw [tx_size]; omega), x1, if_pos (by rw [tx_size, List.length_cons]; omega), e', Option.bind_some, x2, if_pos (by simp only [tx_size, List.length_append, List.length_cons, List.length_nil]; omega), tx_append]
      congr 2
      simp
    · rw [if_neg (fun e : colB a = true ∧ colB b = true => h' e.2)]
      simp [h, h']
      rfl
  · rw [if_neg (fun e : colB a = true ∧ colB b = true => h e.1)]
    simp [h]
    rfl
theorem itoa_no43 (n : Int) : ∀ c ∈ Lib.itoa n, c ≠ 43 := by
  intro c hc e
  have dig : ∀ u : Nat, ∀ c ∈ Lib.decDigits u, c ≠ 43 := by
    intro u
    induction u using Nat.strongRecOn with
    | ind u ih =>
      have one : ∀ d, d < 10 → UInt8.ofNat (48 + d) ≠ 43 := by
        intro d hd e
        have := congrArg UInt8.toNat e
        rw [UInt8.toNat_ofNat'] at this
        have h43 : (43 : UInt8).toNat = 43 := rfl
        omega
      intro c hc
      by_cases h : u < 10
      · rw [dig_lt h, List.mem_singleton] at hc
        rw [hc]
        exact one u h
      · rw [dig_ge h, List.mem_append, List.mem_singleton] at hc
        rcases hc with hc | hc
        · exact ih (u / 10) (by omega) c hc
        · rw [hc]
          exact one _ (by omega)
  unfold Lib.itoa at hc
  split at hc
  · rcases List.mem_cons.1 hc with rfl | hc
    · revert e; decide
    · exact dig _ c hc e
  · exact dig _ c hc e
theorem cut43 (l : List UInt8) (hl : l.length ≤ 1048576) : ∃ p q b, strings_Cut.f (tx l) (⟨#[43]⟩ : ByteArray) = some (tx p, tx q, b) ∧ p.length ≤ 1048576 ∧ q.length ≤ 1048576 ∧
    ((b = false ∧ p = l ∧ Lib.indexByte l 43 = -1 ∧ ∀ x ∈ l, x ≠ 43) ∨ (b = true ∧ l = p ++ 43 :: q ∧ (∀ x ∈ p, x ≠ 43) ∧ Lib.indexByte l 43 = p.length)) := by
  unfold strings_Cut.f cutF
  rw [tx_size, if_pos hl, tx_toList, show (⟨#[43]⟩ : ByteArray).data.toList = [43] from rfl]
  unfold Lib.cut
  rw [Lib.index_one]
  rcases idx 43 l with ⟨h1, h2⟩ | ⟨p, q, h1, h2, h3⟩
  · refine ⟨l, [], false, ?_, hl, by simp, .inl ⟨rfl, rfl, h1, h2⟩⟩
    rw [h1]
    rfl
  · have hll : l.length = p.length + (q.length + 1) := by rw [h1, List.length_append, List.length_cons]
    refine ⟨p, q, true, ?_, by omega, by omega, .inr ⟨rfl, h1, h2, h3⟩⟩
    rw [h3, if_pos (by omega), Int.toNat_natCast]
    have e1 : l.take p.length = p := by rw [h1, List.take_left]
    have e2 : l.drop (p.length + [(43 : UInt8)].length) = q := by rw [h1, ← List.drop_drop, List.drop_left]; rfl
    dsimp only
    rw [e1, e2]
    rfl
set_option maxHeartbeats 2000000 in
theorem implCell_f (l : List UInt8) (hl : l.length ≤ 1048576) : impl_CellRead.f (tx l) = some (readC l) := by
  unfold impl_CellRead.f
  obtain ⟨p, q, b, ec, hp, hq, hc⟩ := cut43 l hl
  obtain ⟨n1, b1, e1, s1, t1⟩ := column_f p hp
  obtain ⟨n2, b2, e2, s2, t2⟩ := column_f q hq
  rw [ec, Option.bind_some]
  dsimp only
  rw [e1, Option.bind_some, e2, Option.bind_some]
  dsimp only
  unfold strings_HasPrefix.f
  rw [tx_toList, show (⟨#[35]⟩ : ByteArray).data.toList = [35] from rfl, Option.bind_some]
  have no : ∀ t : List UInt8, t = [] → ∀ (x : Int × Int × Int × Int × Bool), (if (tx t).toList = (tx l).toList then some x else some ((0 : Int), (0 : Int), (0 : Int), (0 : Int), false)) = if l = [] then some x else some (0, 0, 0, 0, false) := by
    intro t ht x
    rw [ht, toList_tx, toList_tx]
    by_cases h : l = []
    · rw [if_pos h, if_pos h.symm]
    · rw [if_neg h, if_neg (fun e => h e.symm)]
  by_cases h35 : Lib.hasPrefix l [35] = true
  · rw [if_pos h35]
    obtain ⟨r, rfl⟩ := (pre_one 35 l).1 h35
    simp only [List.length_cons] at hl
    rw [if_pos (by rw [tx_size, List.length_cons]; omega)]
    have hx : (tx (35 :: r)).extract 1 (tx (35 :: r)).size = tx r := by rw [tx_extract, tx_size]; congr 1; simp
    rw [hx]
    obtain ⟨n, o, e, a1, a2⟩ := atoi_f r (by omega)
    rw [e, Option.bind_some]
    dsimp only
    unfold readC
    rw [if_pos (show (35 :: r).head? = some 35 from rfl), List.tail_cons]
    by_cases ho : o.isNone = true
    · rw [if_pos ho, if_neg (by rw [toList_tx]; simp), cellText2, Option.bind_some, toList_tx, toList_tx]
      have ha := a1 ho
      by_cases hn : numB n = true
      · rw [if_pos hn]
        have h6 := numB_iff.1 hn
        by_cases hr : Lib.itoa n = r
        · rw [if_pos (by rw [hr]), ← hr, numF_itoa (by omega) (by omega)]
          simp [hn]
        · rw [if_neg (by simpa using hr)]
          by_cases hf : (numF r).2 = true
          · obtain ⟨f1, f2, f3⟩ := numF_sound (l := r) (n := (numF r).1) (by rw [← hf])
            have h9 : Lib.atoiAll r = .ok (numF r).1 := by
              have := atoi_itoa f2 f3
              rwa [← f1] at this
            have := a2 _ h9
            exact absurd (by rw [this.1]; exact f1.symm) hr
          · rw [if_neg hf]
      · rw [if_neg hn, if_neg (by simp)]
        by_cases hf : (numF r).2 = true
        · obtain ⟨f1, f2, f3⟩ := numF_sound (l := r) (n := (numF r).1) (by rw [← hf])
          have h9 : Lib.atoiAll r = .ok (numF r).1 := by
            have := atoi_itoa f2 f3
            rwa [← f1] at this
          rw [if_pos hf, ← (a2 _ h9).1, if_neg hn]
        · rw [if_neg hf]
    · rw [if_neg ho]
      by_cases hf : (numF r).2 = true
      · obtain ⟨f1, f2, f3⟩ := numF_sound (l := r) (n := (numF r).1) (by rw [← hf])
        have h9 : Lib.atoiAll r = .ok (numF r).1 := by
          have := atoi_itoa f2 f3
          rwa [← f1] at this
        exact absurd (a2 _ h9).2 ho
      · rw [if_neg hf]
  rw [if_neg h35]
  have hr : readC l = plusF l := by
    unfold readC
    rw [if_neg]
    intro e
    cases l with
    | nil => cases e
    | cons x l => exact h35 ((pre_one 35 _).2 ⟨l, by simp at e; rw [e]⟩)
  rw [hr]
  unfold plusF
  rcases hc with ⟨rfl, rfl, h1, h2⟩ | ⟨rfl, h1, h2, h3⟩
  · rw [if_neg Bool.false_ne_true, h1, if_pos (show (-1 : Int) < 0 by decide)]
    by_cases hl0 : p = []
    · subst hl0
      have : b1 = false := by
        cases b1 with
        | false => rfl
        | true => obtain ⟨q, hq⟩ := s1 rfl; cases hq
      subst this
      rw [if_neg Bool.false_ne_true, if_pos (toList_tx []), if_neg (fun e : (placeF []).2 = true => by cases e)]
    have hne : ¬ (tx p).toList = ([] : List UInt8) := by rw [toList_tx]; exact hl0
    cases b1 with
    | false =>
      rw [if_neg Bool.false_ne_true, if_neg hne, cellText0, Option.bind_some, no [] rfl, if_neg hl0]
      rw [if_neg (fun hp => by
        obtain ⟨a, _, f2, f3, f4⟩ := place_sound hp
        exact absurd (t1 a f3 f4 f2).2 (by decide))]
    | true =>
      rw [if_pos rfl, if_neg hne, cellText1, Option.bind_some]
      by_cases hcb : colB n1 = true
      · have h6 := colB_iff.1 hcb
        rw [if_pos hcb, toList_tx, toList_tx]
        by_cases hle : 99 :: Lib.itoa n1 = p
        · rw [if_pos hle, ← hle, place_itoa h6.1 h6.2]
          rfl
        · rw [if_neg hle, if_neg (fun hp => by
            obtain ⟨a, _, f2, f3, f4⟩ := place_sound hp
            exact hle (by rw [(t1 a f3 f4 f2).1]; exact f2.symm))]
      · rw [if_neg hcb, no [] rfl, if_neg hl0, if_neg (fun hp => by
          obtain ⟨a, _, f2, f3, f4⟩ := place_sound hp
          exact hcb (by rw [(t1 a f3 f4 f2).1]; exact colB_iff.2 ⟨f3, f4⟩))]
  · have hl0 : ¬ l = [] := by rw [h1]; simp
    have hne : ¬ (tx l).toList = ([] : List UInt8) := by rw [toList_tx]; exact hl0
    have x1 : l.take p.length = p := by rw [h1, List.take_left]
    have x2 : l.drop (p.length + 1) = q := by rw [h1, ← List.drop_drop, List.drop_left]; rfl
    rw [if_pos (show true = true from rfl), h3, if_neg (show ¬ ((p.length : Nat) : Int) < 0 by omega), Int.toNat_natCast, x1, x2]
    have bad : (b1 = true → b2 = true → colB n1 = true → colB n2 = true → l ≠ 99 :: (Lib.itoa n1 ++ 43 :: 99 :: Lib.itoa n2)) → (if (placeF p).2 = true then (if (placeF q).2 = true then ((3 : Int), (placeF p).1, (placeF q).1, (0 : Int), true) else (0, 0, 0, 0, false)) else (0, 0, 0, 0, false)) = ((0 : Int), (0 : Int), (0 : Int), (0 : Int), false) := by
      intro hno
      by_cases hpp : (placeF p).2 = true
      · by_cases hqq : (placeF q).2 = true
        · obtain ⟨a, _, f2, f3, f4⟩ := place_sound hpp
          obtain ⟨c, _, g2, g3, g4⟩ := place_sound hqq
          obtain ⟨u1, u2⟩ := t1 a f3 f4 f2
          obtain ⟨v1, v2⟩ := t2 c g3 g4 g2
          exact absurd (by rw [h1, u1, v1, f2, g2]; rfl) (hno u2 v2 (by rw [u1]; exact colB_iff.2 ⟨f3, f4⟩) (by rw [v1]; exact colB_iff.2 ⟨g3, g4⟩))
        · rw [if_pos hpp, if_neg hqq]
      · rw [if_neg hpp]
    cases b1 with
    | false =>
      rw [if_neg Bool.false_ne_true, if_neg hne, cellText0, Option.bind_some, no [] rfl, if_neg hl0, bad (fun e => by cases e)]
    | true =>
      rw [if_pos rfl]
      cases b2 with
      | false =>
        rw [if_neg Bool.false_ne_true, if_neg hne, cellText0, Option.bind_some, no [] rfl, if_neg hl0, bad (fun _ e => by cases e)]
      | true =>
        rw [if_pos rfl, if_neg hne, cellText3, Option.bind_some]
        by_cases hcb : colB n1 = true ∧ colB n2 = true
        · have h6 := colB_iff.1 hcb.1
          have h7 := colB_iff.1 hcb.2
          rw [if_pos hcb, toList_tx, toList_tx]
          by_cases hle : 99 :: (Lib.itoa n1 ++ 43 :: 99 :: Lib.itoa n2) = l
          · rw [if_pos hle]
            obtain ⟨y1, y2⟩ := split_one 43 (99 :: Lib.itoa n1) p (99 :: Lib.itoa n2) q (fun x hx => by
              rcases List.mem_cons.1 hx with rfl | hx
              · decide
              · exact itoa_no43 n1 x hx) h2 (by rw [← h1, ← hle]; rfl)
            rw [← y1, ← y2, place_itoa h6.1 h6.2, place_itoa h7.1 h7.2]
            rfl
          · rw [if_neg hle, bad (fun _ _ _ _ e => hle e.symm)]
        · rw [if_neg hcb, no [] rfl, if_neg hl0, bad (fun _ _ x y => absurd ⟨x, y⟩ hcb)]

/-- no test -/
def tNo : Int × Bool × Int × Int × Int × Int × Int × Int × Int × Int × Bool := (0, false, 0, 0, 0, 0, 0, 0, 0, 0, false)
/-- the test of two texts of cells -/
def tTwo (n : Bool) (kind : Int) (p q : List UInt8) : Int × Bool × Int × Int × Int × Int × Int × Int × Int × Int × Bool :=
  if ((readC p).2.2.2.2 && (readC q).2.2.2.2) = true then (kind, n, (readC p).1, (readC p).2.1, (readC p).2.2.1, (readC p).2.2.2.1, (readC q).1, (readC q).2.1, (readC q).2.2.1, (readC q).2.2.2.1, true) else tNo
def tRest (n : Bool) (t : List UInt8) : Int × Bool × Int × Int × Int × Int × Int × Int × Int × Int × Bool :=
  if Lib.indexByte t 60 < 0 then (if Lib.indexByte t 61 < 0 then tNo else tTwo n 2 (t.take (Lib.indexByte t 61).toNat) (t.drop ((Lib.indexByte t 61).toNat + 1)))
  else tTwo n 1 (t.take (Lib.indexByte t 60).toNat) (t.drop ((Lib.indexByte t 60).toNat + 1))
def readT (l : List UInt8) : Int × Bool × Int × Int × Int × Int × Int × Int × Int × Int × Bool := if l.head? = some 33 then tRest true l.tail else tRest false l
theorem two_ev (n : Bool) (kind : Int) (t p q : List UInt8) (c : UInt8) (h : t = p ++ c :: q) (hl : t.length ≤ 4194304) : Ev (fun k => spec_TestRead.r k (tx t) n kind (p.length : Nat)) (tTwo n kind p q) := by
  have hll : t.length = p.length + (q.length + 1) := by rw [h, List.length_append, List.length_cons]
  unfold spec_TestRead.r tTwo
  refine ev_neg (by omega) (ev_pos (by rw [tx_size]; omega) (ev_pos (by omega) ?_))
  have x1 : t.take p.length = p := by rw [h, List.take_left]
  have x2 : t.drop (p.length + 1) = q := by rw [h, ← List.drop_drop, List.drop_left]; rfl
  rw [tx_extract, Int.toNat_natCast, Nat.sub_zero, List.drop_zero, x1, show ((p.length : Nat) + 1 : Int).toNat = p.length + 1 by omega, tx_extract, tx_size, x2, List.take_of_length_le (by omega)]
  refine (specCell_ev p (by omega)).bind ((specCell_ev q (by omega)).bind ?_)
  by_cases hb : ((readC p).2.2.2.2 && (readC q).2.2.2.2) = true
  · exact ev_pos hb (ev_now (by rw [if_pos hb]))
  · exact ev_neg hb (ev_now (by rw [if_neg hb]; rfl))
theorem rest_ev (n : Bool) (t : List UInt8) (hl : t.length ≤ 4194304) : Ev (fun k => spec_TestRead.g k (tx t) n) (tRest n t) := by
  unfold spec_TestRead.g tRest
  refine (find_ev t 60 hl).bind ?_
  rcases idx 60 t with ⟨h1, _⟩ | ⟨p, q, h1, _, h3⟩
  · rw [h1, if_pos (show (-1 : Int) < 0 by decide)]
    refine ev_pos (by decide) ((find_ev t 61 hl).bind ?_)
    rcases idx 61 t with ⟨g1, _⟩ | ⟨p, q, g1, _, g3⟩
    · rw [g1, if_pos (show (-1 : Int) < 0 by decide)]
      unfold spec_TestRead.r
      exact ev_pos (by decide) (ev_now rfl)
    · have hll : t.length = p.length + (q.length + 1) := by rw [g1, List.length_append, List.length_cons]
      rw [g3, if_neg (show ¬ ((p.length : Nat) : Int) < 0 by omega), Int.toNat_natCast, show t.take p.length = p by rw [g1, List.take_left], show t.drop (p.length + 1) = q by rw [g1, ← List.drop_drop, List.drop_left]; rfl]
      exact two_ev n 2 t p q 61 g1 hl
  · rw [h3, if_neg (show ¬ ((p.length : Nat) : Int) < 0 by omega), Int.toNat_natCast, show t.take p.length = p by rw [h1, List.take_left], show t.drop (p.length + 1) = q by rw [h1, ← List.drop_drop, List.drop_left]; rfl]
    exact ev_neg (by omega) (two_ev n 1 t p q 60 h1 hl)
theorem specTest_ev (l : List UInt8) (hl : l.length ≤ 4194304) : Ev (fun k => spec_TestRead.f k (tx l)) (readT l) := by
  unfold spec_TestRead.f readT
  cases l with
  | nil => exact ev_neg (by decide) (rest_ev false [] (by simp))
  | cons c r =>
    have h0 : bt (tx (c :: r)) 0 = (c.toNat : Int) := bt_tx (c :: r) 0 (by simp)
    rw [h0]
    have hl' : r.length ≤ 4194304 := by simp at hl; omega
    refine ev_pos (by rw [tx_size, List.length_cons]; omega) ?_
    by_cases hc : c = 33
    · subst hc
      rw [if_pos (show (33 :: r).head? = some 33 from rfl), List.tail_cons]
      have hx : (tx (33 :: r)).extract 1 (tx (33 :: r)).size = tx r := by rw [tx_extract, tx_size]; congr 1; simp
      rw [hx]
      exact ev_pos (by rfl) (rest_ev true r hl')
    · rw [if_neg (show ¬ (c :: r).head? = some 33 by simpa using hc)]
      exact ev_neg (fun e => hc (UInt8.toNat_inj.1 (by have : c.toNat = 33 := by omega
                                                       rw [this]; rfl))) (rest_ev false (c :: r) hl)

/-- a cell's text (nothing, if it is no cell) -/
def cellT (k a b n : Int) : List UInt8 := if k = 1 then 99 :: Lib.itoa a else if k = 2 then 35 :: Lib.itoa n else 99 :: (Lib.itoa a ++ 43 :: 99 :: Lib.itoa b)
/-- What is read as a cell is one, and its text is what was read. -/
theorem readC_ok (l : List UInt8) (h : (readC l).2.2.2.2 = true) : impl_CellOk.f (readC l).1 (readC l).2.1 (readC l).2.2.1 (readC l).2.2.2.1 6 = some true ∧ impl_CellText.f (readC l).1 (readC l).2.1 (readC l).2.2.1 (readC l).2.2.2.1 = some (tx l) := by
  by_cases h35 : l.head? = some 35
  · cases l with
    | nil => cases h35
    | cons c r =>
      obtain rfl : c = 35 := by simpa using h35
      rcases hn : numF r with ⟨m, b⟩
      have e0 : readC (35 :: r) = if b = true then (if numB m = true then (2, 0, 0, m, true) else (0, 0, 0, 0, false)) else (0, 0, 0, 0, false) := by
        unfold readC
        rw [if_pos (show (35 :: r).head? = some 35 from rfl), List.tail_cons, hn]
      rw [e0] at h ⊢
      cases b with
      | false => rw [if_neg Bool.false_ne_true] at h; cases h
      | true =>
        rw [if_pos (show true = true from rfl)] at h ⊢
        by_cases h2 : numB m = true
        · rw [if_pos h2]
          obtain ⟨f1, f2, f3⟩ := numF_sound hn
          refine ⟨?_, ?_⟩
          · unfold impl_CellOk.f impl_numReckoning_ok.f
            simp [impl_isCell_f, h2]
          · rw [cellText2, if_pos h2, ← f1]
        · rw [if_neg h2] at h
          cases h
  · have e0 : readC l = plusF l := by unfold readC; rw [if_neg h35]
    rw [e0] at h ⊢
    unfold plusF at *
    rcases idx 43 l with ⟨h1, h2⟩ | ⟨p, q, h1, h2, h3⟩
    · simp only [h1, if_pos (show (-1 : Int) < 0 by decide)] at h ⊢
      by_cases hp : (placeF l).2 = true
      · simp only [if_pos hp]
        obtain ⟨a, f1, f2, f3, f4⟩ := place_sound hp
        have hc : colB a = true := colB_iff.2 ⟨f3, f4⟩
        rw [f1]
        refine ⟨?_, ?_⟩
        · unfold impl_CellOk.f impl_colReckoning_ok.f
          simp [impl_isPlace_f, hc]
        · rw [cellText1, if_pos hc, ← f2]
      · simp only [if_neg hp] at h
        cases h
    · have x1 : l.take p.length = p := by rw [h1, List.take_left]
      have x2 : l.drop (p.length + 1) = q := by rw [h1, ← List.drop_drop, List.drop_left]; rfl
      simp only [h3, if_neg (show ¬ ((p.length : Nat) : Int) < 0 by omega), Int.toNat_natCast, x1, x2] at h ⊢
      by_cases hp : (placeF p).2 = true
      · simp only [if_pos hp] at h ⊢
        by_cases hq : (placeF q).2 = true
        · simp only [if_pos hq]
          obtain ⟨a, f1, f2, f3, f4⟩ := place_sound hp
          obtain ⟨b, g1, g2, g3, g4⟩ := place_sound hq
          have hc : colB a = true := colB_iff.2 ⟨f3, f4⟩
          have hd : colB b = true := colB_iff.2 ⟨g3, g4⟩
          rw [f1, g1]
          refine ⟨?_, ?_⟩
          · unfold impl_CellOk.f impl_sumReckoning_ok.f
            simp [impl_isPlace_f, hc, hd]
          · rw [cellText3, if_pos ⟨hc, hd⟩, h1, f2, g2]
            rfl
        · simp only [if_neg hq] at h
          cases h
      · simp only [if_neg hp] at h
        cases h
theorem cutC (c : UInt8) (l : List UInt8) (hl : l.length ≤ 1048576) : (Lib.indexByte l c = -1 ∧ strings_Cut.f (tx l) (tx [c]) = some (tx l, tx [], false)) ∨ ∃ p q, l = p ++ c :: q ∧ Lib.indexByte l c = p.length ∧ strings_Cut.f (tx l) (tx [c]) = some (tx p, tx q, true) := by
  unfold strings_Cut.f cutF
  rw [tx_size, if_pos hl, tx_toList, tx_toList]
  unfold Lib.cut
  rw [Lib.index_one]
  rcases idx c l with ⟨h1, h2⟩ | ⟨p, q, h1, h2, h3⟩
  · refine .inl ⟨h1, ?_⟩
    rw [h1]
    rfl
  · refine .inr ⟨p, q, h1, h3, ?_⟩
    rw [h3, if_pos (by omega), Int.toNat_natCast]
    have e1 : l.take p.length = p := by rw [h1, List.take_left]
    have e2 : l.drop (p.length + [c].length) = q := by rw [h1, ← List.drop_drop, List.drop_left]; rfl
    dsimp only
    rw [e1, e2]
    rfl
theorem testText_f (n : Bool) (kind : Int) (hk : kind = 1 ∨ kind = 2) (p q : List UInt8) (hp : (readC p).2.2.2.2 = true) (hq : (readC q).2.2.2.2 = true) (hl : p.length + q.length ≤ 4194304) :
    impl_TestText.f kind n (readC p).1 (readC p).2.1 (readC p).2.2.1 (readC p).2.2.2.1 (readC q).1 (readC q).2.1 (readC q).2.2.1 (readC q).2.2.2.1 = some (tx ((if n = true then [33] else []) ++ (p ++ (if kind = 2 then 61 else 60) :: q))) := by
  obtain ⟨o1, t1⟩ := readC_ok p hp
  obtain ⟨o2, t2⟩ := readC_ok q hq
  have ok : impl_TestOk.f kind n (readC p).1 (readC p).2.1 (readC p).2.2.1 (readC p).2.2.2.1 (readC q).1 (readC q).2.1 (readC q).2.2.1 (readC q).2.2.2.1 6 = some true := by
    unfold impl_TestOk.f
    rw [o1, o2]
    rcases hk with rfl | rfl <;> rfl
  unfold impl_TestText.f
  rw [ok, t1, t2, Option.bind_some, if_pos rfl]
  have y33 : (⟨#[33]⟩ : ByteArray) = tx [33] := rfl
  have y61 : (⟨#[61]⟩ : ByteArray) = tx [61] := rfl
  have y60 : (⟨#[60]⟩ : ByteArray) = tx [60] := rfl
  have y0 : (⟨#[]⟩ : ByteArray) = tx [] := rfl
  simp only [Option.bind_some, y33, y61, y60, y0, tx_append, tx_size]
  cases n
  · rw [if_neg Bool.false_ne_true]
    rcases hk with rfl | rfl
    · rw [if_neg (by decide), if_pos (by omega), if_pos (by simp only [List.length_append, List.length_nil]; omega), if_pos (by simp only [List.length_append, List.length_cons, List.length_nil]; omega)]
      congr 2
      simp
    · rw [if_pos (show (2 : Int) = 2 from rfl), if_pos (by omega), if_pos (by simp only [List.length_append, List.length_nil]; omega), if_pos (by simp only [List.length_append, List.length_cons, List.length_nil]; omega)]
      congr 2
      simp
  · rw [if_pos (show true = true from rfl)]
    rcases hk with rfl | rfl
    · rw [if_neg (by decide), if_pos (by omega), if_pos (by simp only [List.length_append, List.length_cons, List.length_nil]; omega), if_pos (by simp only [List.length_append, List.length_cons, List.length_nil]; omega)]
      congr 2
      simp
    · rw [if_pos (show (2 : Int) = 2 from rfl), if_pos (by omega), if_pos (by simp only [List.length_append, List.length_cons, List.length_nil]; omega), if_pos (by simp only [List.length_append, List.length_cons, List.length_nil]; omega)]
      congr 2
      simp
theorem implTwo (l t p q : List UInt8) (n : Bool) (kind : Int) (hk : kind = 1 ∨ kind = 2) (ht : t = p ++ (if kind = 2 then 61 else 60) :: q) (hlt : l = (if n = true then [33] else []) ++ t) (hl : l.length ≤ 1048576) :
    impl_TestRead.r (tx l) n kind (tx p) (tx q) true = some (tTwo n kind p q) := by
  have hll : l.length = (if n = true then [33] else [] : List UInt8).length + (p.length + (q.length + 1)) := by rw [hlt, ht, List.length_append, List.length_append, List.length_cons]
  unfold impl_TestRead.r tTwo
  rw [implCell_f p (by omega), Option.bind_some, implCell_f q (by omega), Option.bind_some]
  by_cases hb : ((readC p).2.2.2.2 && (readC q).2.2.2.2) = true
  · obtain ⟨h1, h2⟩ := Bool.and_eq_true_iff.1 hb
    rw [if_pos hb, if_pos (by rw [hb]; rfl), testText_f n kind hk p q h1 h2 (by omega), Option.bind_some, ← ht, ← hlt, if_pos rfl]
  · rw [if_neg hb, if_neg (by simpa using hb)]
    rfl
theorem implNone (l p q : List UInt8) (n : Bool) (kind : Int) (hp : p.length ≤ 1048576) (hq : q.length ≤ 1048576) : impl_TestRead.r (tx l) n kind (tx p) (tx q) false = some tNo := by
  unfold impl_TestRead.r
  rw [implCell_f p hp, Option.bind_some, implCell_f q hq, Option.bind_some, if_neg (by simp)]
  rfl
theorem implRest (l t : List UInt8) (n : Bool) (hlt : l = (if n = true then [33] else []) ++ t) (hl : l.length ≤ 1048576) :
    ((strings_Cut.f (tx t) (⟨#[60]⟩ : ByteArray)).bind fun c => if c.2.2 = true then impl_TestRead.r (tx l) n 1 c.1 c.2.1 true else (strings_Cut.f (tx t) (⟨#[61]⟩ : ByteArray)).bind fun d => impl_TestRead.r (tx l) n 2 d.1 d.2.1 d.2.2) = some (tRest n t) := by
  have htl : t.length ≤ 1048576 := by
    have : l.length = (if n = true then [33] else [] : List UInt8).length + t.length := by rw [hlt, List.length_append]
    omega
  unfold tRest
  rcases cutC 60 t htl with ⟨h1, e1⟩ | ⟨p, q, h1, h3, e1⟩
  · rw [show (⟨#[60]⟩ : ByteArray) = tx [60] from rfl, e1, Option.bind_some, if_neg Bool.false_ne_true, h1, if_pos (show (-1 : Int) < 0 by decide)]
    rcases cutC 61 t htl with ⟨g1, e2⟩ | ⟨p, q, g1, g3, e2⟩
    · rw [show (⟨#[61]⟩ : ByteArray) = tx [61] from rfl, e2, Option.bind_some, g1, if_pos (show (-1 : Int) < 0 by decide)]
      exact implNone l t [] n 2 htl (by simp)
    · rw [show (⟨#[61]⟩ : ByteArray) = tx [61] from rfl, e2, Option.bind_some, g3, if_neg (show ¬ ((p.length : Nat) : Int) < 0 by omega), Int.toNat_natCast, show t.take p.length = p by rw [g1, List.take_left], show t.drop (p.length + 1) = q by rw [g1, ← List.drop_drop, List.drop_left]; rfl]
      exact implTwo l t p q n 2 (.inr rfl) (by rw [g1]; rfl) hlt hl
  · rw [show (⟨#[60]⟩ : ByteArray) = tx [60] from rfl, e1, Option.bind_some, if_pos rfl, h3, if_neg (show ¬ ((p.length : Nat) : Int) < 0 by omega), Int.toNat_natCast, show t.take p.length = p by rw [h1, List.take_left], show t.drop (p.length + 1) = q by rw [h1, ← List.drop_drop, List.drop_left]; rfl]
    exact implTwo l t p q n 1 (.inl rfl) (by rw [h1]; rfl) hlt hl
theorem implTest_f (l : List UInt8) (hl : l.length ≤ 1048576) : impl_TestRead.f (tx l) = some (readT l) := by
  unfold impl_TestRead.f strings_CutPrefix.f readT
  rw [tx_toList, show (⟨#[33]⟩ : ByteArray).data.toList = [33] from rfl, Option.bind_some]
  dsimp only
  by_cases h : l.head? = some 33
  · cases l with
    | nil => cases h
    | cons c r =>
      obtain rfl : c = 33 := by simpa using h
      rw [if_pos h, trim_one, (pre_one 33 _).2 ⟨r, rfl⟩, List.tail_cons]
      exact implRest (33 :: r) r true rfl hl
  · have hp : Lib.hasPrefix l [33] = false := by
      rw [Bool.eq_false_iff]
      intro e
      obtain ⟨q, rfl⟩ := (pre_one 33 l).1 e
      exact h rfl
    have ht : Lib.trimPrefix l [33] = l := by unfold Lib.trimPrefix; rw [if_neg (by rw [hp]; exact Bool.false_ne_true)]
    rw [if_neg h, ht, hp]
    exact implRest l l false rfl hl

theorem FnExactTestRead : laws_FnExactTestRead.Pure := by
  intro a ha
  refine Ev.rounds ?_
  unfold laws_FnExactTestRead.f
  by_cases h1 : (a.size : Int) > 1048576
  · exact ev_pos h1 (ev_now rfl)
  refine ev_neg h1 ?_
  have hl : a.data.toList.length = a.size := Array.length_toList
  rw [tx_data a]
  refine (specTest_ev a.data.toList (by omega)).bind (ev_eq (implTest_f a.data.toList (by omega)) ?_)
  generalize readT a.data.toList = g
  obtain ⟨k, n, x1, x2, x3, x4, y1, y2, y3, y4, b⟩ := g
  have e : laws_eqTest.f k n x1 x2 x3 x4 y1 y2 y3 y4 k n x1 x2 x3 x4 y1 y2 y3 y4 = some true := by unfold laws_eqTest.f laws_eqCell.f; simp
  exact ev_eq e (ev_pos rfl (ev_neg (by simp) (ev_now rfl)))

end Go.Proofs.YthmcbekemnabdaaDoor.Pure
