/- Whatever text there is, the program's ZRead reads the items that the reference's reads, or both none; the items are new memory (they stay when others are read): the law answers true. No condition beyond what the statement gives (bytes). -/
import Derived.Test.YtgcplipimcbhlaaDoorPFnExactZReadx10
import Derived.Test.YtgcplipimcbhlaaDoorQ
namespace Go.Proofs.YtgcplipimcbhlaaDoor.Pure
open Go.RowKit Go.Proofs.YtgcplipimcbhlaaDoor.PFnExactZRead Go.Proofs.YtgcplipimcbhlaaDoorW.PrintWords Go.Proofs.YtgcplipimcbhlaaDoorW.PrintLast Go.Proofs.YtgcplipimcbhlaaDoorW.PrintMore Go.Proofs.YtgcplipimcbhlaaDoor.Q

theorem ext_item {x y : S53} (h0 : x.f0 = y.f0) (h1 : x.f1 = y.f1) : x = y := by cases x; cases y; simp_all
instance decItem : DecidableEq S53 := fun x y => decidable_of_iff (x.f0 = y.f0 ∧ x.f1 = y.f1) ⟨fun h => ext_item h.1 h.2, fun h => by rw [h]; exact ⟨rfl, rfl⟩⟩
theorem item_iff (a b : List Int) (v u : Int) : (⟨a, v⟩ : S53) = ⟨b, u⟩ ↔ (a = b ∧ v = u) := ⟨fun h => by injection h with h1 h2; exact ⟨h1, h2⟩, fun h => by rw [h.1, h.2]⟩
theorem dec_cons {x y : S53} {s u : List S53} (h : x = y) : decide (x :: s = y :: u) = decide (s = u) := by subst h; rw [decide_eq_decide]; simp
theorem dec_cons_ne {x y : S53} {s u : List S53} (h : ¬ x = y) : decide (x :: s = y :: u) = false := by rw [decide_eq_false_iff_not]; intro e; injection e with e1 e2; exact h e1
theorem rdI_at (l : List S53) (i : Nat) (h : i < l.length) : rd_T53 l (i : Int) = l[i] := by
  show l.getD _ _ = _
  rw [Int.toNat_natCast, List.getD_eq_getElem?_getD, List.getElem?_eq_getElem h]; rfl
theorem drop_at {α : Type} (l : List α) (i : Nat) (h : i < l.length) : l.drop i = l[i] :: l.drop (i + 1) := List.drop_eq_getElem_cons h
/-- items no longer than so, their rows too -/
structure Small (l : List S53) : Prop where
  len : l.length ≤ 1048576
  row : ∀ x ∈ l, x.f0.length ≤ 1048576

theorem eqIntS_ev (a b : List Int) (ha : a.length < 4611686018427387904) : Ev (fun k => laws_eqIntS.f k a b) (decide (a = b)) := by
  unfold laws_eqIntS.f
  by_cases hl : a.length = b.length
  · refine ev_pos (by omega) ?_
    have h := ev_down (fun k i => laws_eqIntS.l0 k a b (i : Int)) (fun i => decide (a.drop i = b.drop i)) a.length ?_ ?_ 0 (by omega)
    · simpa using h
    · refine Ev.step (fun k => laws_eqIntS.l0.eq_2 ..) (ev_neg (by omega) (ev_now ?_))
      rw [drop_end a _ (Nat.le_refl _), drop_end b _ (by omega)]; simp
    · intro i hi ih
      refine Ev.step (fun k => laws_eqIntS.l0.eq_2 ..) (ev_pos (by omega) (ev_pos (by omega) (ev_pos (by omega) ?_)))
      rw [drop_rd a i hi, drop_rd b i (by omega)]
      by_cases h1 : rd a i = rd b i
      · refine ev_pos h1 ?_
        rw [w64n (by omega)]
        simpa [h1] using ih
      · exact ev_neg h1 (ev_now (by simp [h1]))
  · exact ev_neg (by omega) (ev_now (by symm; rw [decide_eq_false_iff_not]; intro h; exact hl (by rw [h])))

theorem eqItem_ev (x y : S53) (ha : x.f0.length ≤ 1048576) : Ev (fun k => laws_eqItem.f k x.f0 x.f1 y.f0 y.f1) (decide (x = y)) := by
  unfold laws_eqItem.f
  refine (eqIntS_ev x.f0 y.f0 (by omega)).bind ?_
  by_cases h : x.f0 = y.f0
  · refine ev_pos (decide_eq_true h) ?_
    by_cases h1 : x.f1 = y.f1
    · exact ev_pos h1 (ev_now (decide_eq_true (ext_item h h1)).symm)
    · exact ev_neg h1 (ev_now (decide_eq_false (fun e => h1 (by rw [e]))).symm)
  · exact ev_neg (by simp [h]) (ev_now (decide_eq_false (fun e => h (by rw [e]))).symm)
theorem eqItemS_ev (a b : List S53) (hs : Small a) : Ev (fun k => laws_eqItemS.f k a b) (decide (a = b)) := by
  have ha := hs.len
  unfold laws_eqItemS.f
  by_cases hl : a.length = b.length
  · refine ev_pos (by omega) ?_
    have h := ev_down (fun k i => laws_eqItemS.l0 k a b (i : Int)) (fun i => decide (a.drop i = b.drop i)) a.length ?_ ?_ 0 (by omega)
    · simpa using h
    · refine Ev.step (fun k => laws_eqItemS.l0.eq_2 ..) (ev_neg (by omega) (ev_now ?_))
      rw [drop_end a _ (Nat.le_refl _), drop_end b _ (by omega)]; simp
    · intro i hi ih
      have he := eqItem_ev a[i] b[i] (hs.row _ (List.getElem_mem _))
      refine Ev.step (fun k => laws_eqItemS.l0.eq_2 ..) (ev_pos (by omega) (ev_pos (by omega) (ev_pos (by omega) ?_)))
      rw [rdI_at a i hi, rdI_at b i (by omega)]
      refine he.bind ?_
      rw [drop_at a i hi, drop_at b i (by omega)]
      by_cases h1 : a[i] = b[i]
      · refine ev_pos (decide_eq_true h1) ?_
        rw [w64n (by omega), dec_cons h1]
        exact ih
      · exact ev_neg (by rw [decide_eq_true_iff]; exact h1) (ev_now (dec_cons_ne h1).symm)
  · exact ev_neg (by omega) (ev_now (by symm; rw [decide_eq_false_iff_not]; intro h; exact hl (by rw [h])))

/-- a text of its bytes -/
def tx (l : List UInt8) : ByteArray := ⟨l.toArray⟩
theorem tx_size (l : List UInt8) : (tx l).size = l.length := rfl
theorem tx_append (a b : List UInt8) : tx a ++ tx b = tx (a ++ b) := by
  apply ByteArray.ext
  show (tx a ++ tx b).data = _
  rw [ByteArray.data_append]
  simp [tx]
theorem tx_inj {a b : List UInt8} (h : tx a = tx b) : a = b := by
  have := congrArg (fun x => x.data.toList) h
  simpa [tx] using this

theorem implRowText_ev (l : List Int) (hl : l.length ≤ 1048576) (h : ∀ x ∈ l, okI x = true) : impl_RowText.f l = some (tx (rowB l)) := by
  unfold impl_RowText.f
  rw [if_pos hl, if_pos (List.all_eq_true.2 h)]
  rfl

/-- an item's text, and the text of items -/
def itemB (x : S53) : List UInt8 := rowB x.f0 ++ 42 :: Lib.itoa x.f1
def tailZ (l : List S53) : List UInt8 := (l.map (fun x => 32 :: itemB x)).flatten
def textZ : List S53 → List UInt8
  | [] => []
  | x :: l => itemB x ++ tailZ l
theorem textZ_snoc (l : List S53) (x : S53) : textZ (l ++ [x]) = textZ l ++ ((if l = [] then [] else [32]) ++ itemB x) := by
  cases l with
  | nil => simp [textZ, tailZ]
  | cons y l => simp [textZ, tailZ, List.append_assoc]
theorem textZ_join : ∀ l : List S53, Lib.join (l.map itemB) [32] = textZ l := by
  intro l
  cases l with
  | nil => rfl
  | cons x l =>
    show List.intercalate [32] ((x :: l).map itemB) = itemB x ++ tailZ l
    induction l generalizing x with
    | nil => simp [tailZ, List.intercalate]
    | cons y l ih =>
      have := ih y
      rw [List.map_cons, List.map_cons] at *
      unfold List.intercalate at *
      rw [List.intersperse_cons_cons, List.flatten_cons, List.flatten_cons, this]
      simp [tailZ]
/-- items whose numbers are numbers -/
def OkI (l : List S53) : Prop := ∀ x ∈ l, (∀ y ∈ x.f0, okI y = true) ∧ okI x.f1 = true
theorem itemB_len {x : S53} (h0 : x.f0.length ≤ 1048576) (h : (∀ y ∈ x.f0, okI y = true) ∧ okI x.f1 = true) : (itemB x).length ≤ 23068700 := by
  have h1 := rowB_len x.f0 h.1
  have h2 := Lib.itoa_length_le x.f1 (okI_iff.1 h.2).1 (okI_iff.1 h.2).2
  unfold itemB
  rw [List.length_append, List.length_cons]
  omega
theorem tailZ_len (l : List S53) (hs : ∀ x ∈ l, x.f0.length ≤ 1048576) (h : OkI l) : (tailZ l).length ≤ 23068701 * l.length := by
  induction l with
  | nil => simp [tailZ]
  | cons x l ih =>
    have h1 := ih (fun y hy => hs y (List.mem_cons_of_mem _ hy)) (fun y hy => h y (List.mem_cons_of_mem _ hy))
    have h2 := itemB_len (hs x List.mem_cons_self) (h x List.mem_cons_self)
    unfold tailZ at *
    simp only [List.map_cons, List.flatten_cons, List.length_append, List.length_cons] at *
    omega
theorem textZ_len (l : List S53) (hs : ∀ x ∈ l, x.f0.length ≤ 1048576) (h : OkI l) : (textZ l).length ≤ 23068701 * l.length := by
  cases l with
  | nil => simp [textZ]
  | cons x l =>
    have h1 := tailZ_len l (fun y hy => hs y (List.mem_cons_of_mem _ hy)) (fun y hy => h y (List.mem_cons_of_mem _ hy))
    have h2 := itemB_len (hs x List.mem_cons_self) (h x List.mem_cons_self)
    rw [textZ, List.length_append, List.length_cons]
    omega

/-- RowOk -/
def cellB (n : Int) : Bool := decide (-1000000000 ≤ n ∧ n ≤ 1000000000)
def okRow (r : List Int) : Bool := decide (1 ≤ r.length) && decide (r.length ≤ 6) && r.all cellB
theorem specCell (n : Int) : spec_l1Cell.f n = some (cellB n) := by
  unfold spec_l1Cell.f cellB
  by_cases h : n ≥ -1000000000
  · rw [if_pos h]; simp; omega
  · rw [if_neg h]; simp; omega

/-- l1Order -/
def ordL : List Int → List Int → Int → Int
  | [], _, d => d
  | _ :: _, [], d => d
  | a :: x, b :: y, d => if a < b then -1 else if b < a then 1 else ordL x y d

theorem ordL_zero : ∀ a b : List Int, ordL a b ((a.length : Int) - b.length) = 0 ↔ a = b := by
  have go : ∀ (a b : List Int) (d : Int), d = (a.length : Int) - b.length → (ordL a b d = 0 ↔ a = b) := by
    intro a
    induction a with
    | nil => intro b d hd; cases b <;> simp [ordL] at hd ⊢ <;> omega
    | cons x a ih =>
      intro b d hd
      cases b with
      | nil => simp [ordL] at hd ⊢; omega
      | cons y b =>
        have := ih b d (by simp at hd; omega)
        simp only [ordL]
        by_cases h1 : x < y
        · rw [if_pos h1]; simp; omega
        · rw [if_neg h1]
          by_cases h2 : y < x
          · rw [if_pos h2]; simp; omega
          · rw [if_neg h2, this]
            obtain rfl : x = y := by omega
            simp
  exact fun a b => go a b _ rfl

/-- slices.Compare -/
def lexc : List Int → List Int → Int
  | [], [] => 0
  | [], _ :: _ => -1
  | _ :: _, [] => 1
  | a :: x, b :: y => if a < b then -1 else if b < a then 1 else lexc x y
theorem lexc_ordL : ∀ a b : List Int, (ordL a b ((a.length : Int) - b.length) < 0 ↔ lexc a b < 0) := by
  have go : ∀ (a b : List Int) (d : Int), d = (a.length : Int) - b.length → (ordL a b d < 0 ↔ lexc a b < 0) := by
    intro a
    induction a with
    | nil => intro b d hd; cases b <;> simp [ordL, lexc] at hd ⊢ <;> omega
    | cons x a ih =>
      intro b d hd
      cases b with
      | nil => simp [ordL, lexc] at hd ⊢; omega
      | cons y b =>
        have := ih b d (by simp at hd; omega)
        simp only [ordL, lexc]
        by_cases h1 : x < y
        · rw [if_pos h1, if_pos h1]
        · rw [if_neg h1, if_neg h1]
          by_cases h2 : y < x
          · rw [if_pos h2, if_pos h2]
          · rw [if_neg h2, if_neg h2, this]
  exact fun a b => go a b _ rfl

def okW (w : Int) : Bool := decide (w ≠ 0) && (decide (-10000 ≤ w) && decide (w ≤ 10000))
/-- items in order, behind a row -/
def chain : Option (List Int) → List S53 → Bool
  | _, [] => true
  | p, x :: z => okRow x.f0 && (okW x.f1 && ((match p with | none => true | some r => decide (lexc r x.f0 < 0)) && chain (some x.f0) z))
theorem chain_nil (p : Option (List Int)) : chain p [] = true := by cases p <;> rfl
theorem chain_cons (p : Option (List Int)) (x : S53) (z : List S53) : chain p (x :: z) = (okRow x.f0 && (okW x.f1 && ((match p with | none => true | some r => decide (lexc r x.f0 < 0)) && chain (some x.f0) z))) := by cases p <;> rfl
def okZ (z : List S53) : Bool := decide (z.length ≤ 100) && chain none z
/-- the row ahead of a place -/
def ahead (z : List S53) (i : Nat) : Option (List Int) := if i = 0 then none else (z[i - 1]?).map (·.f0)
theorem ahead_succ (z : List S53) (i : Nat) (h : i < z.length) : ahead z (i + 1) = some z[i].f0 := by
  unfold ahead
  rw [if_neg (by omega), Nat.add_sub_cancel, List.getElem?_eq_getElem h]
  rfl

theorem tx_data (a : ByteArray) : a = tx a.data.toList := by
  apply ByteArray.ext
  simp [tx]
theorem tx_toList (l : List UInt8) : (tx l).data.toList = l := by simp [tx]
theorem tx_extract (l : List UInt8) (a b : Nat) : (tx l).extract a b = tx ((l.drop a).take (b - a)) := by
  rw [tx_data ((tx l).extract a b)]
  congr 1
  simp [tx, ByteArray.data_extract]
theorem bt_tx (l : List UInt8) (i : Nat) (h : i < l.length) : bt (tx l) (i : Int) = (l[i].toNat : Int) := by
  unfold bt
  have hs : (i : Int).toNat < (tx l).size := by rw [tx_size]; simpa using h
  rw [dif_pos hs]
  rfl
theorem dv_of (d : Nat) (h : d < 10) : Lib.digitVal (UInt8.ofNat (48 + d)) = some d := by
  rcases d with _ | _ | _ | _ | _ | _ | _ | _ | _ | _ | d
  all_goals first | rfl | omega
theorem dv_inv {c : UInt8} {d : Nat} (h : Lib.digitVal c = some d) : d < 10 ∧ c = UInt8.ofNat (48 + d) := by
  obtain ⟨h1, h2, h3⟩ := Lib.digitVal_eq h
  refine ⟨by omega, ?_⟩
  apply UInt8.toNat_inj.1
  rw [UInt8.toNat_ofNat']
  omega
theorem decFrom_snoc (l : List UInt8) (c : UInt8) : ∀ acc, Lib.decFrom acc (l ++ [c]) = (Lib.decFrom acc l).bind fun m => (Lib.digitVal c).map fun d => m * 10 + d := by
  induction l with
  | nil =>
    intro acc
    simp only [List.nil_append, Lib.decFrom, Option.bind_some]
    cases Lib.digitVal c <;> rfl
  | cons b l ih =>
    intro acc
    simp only [List.cons_append, Lib.decFrom]
    cases Lib.digitVal b with
    | none => rfl
    | some e => exact ih _
theorem dig_lt {u : Nat} (h : u < 10) : Lib.decDigits u = [UInt8.ofNat (48 + u)] := by rw [Lib.decDigits, dif_pos h]
theorem dig_ge {u : Nat} (h : ¬ u < 10) : Lib.decDigits u = Lib.decDigits (u / 10) ++ [UInt8.ofNat (48 + u % 10)] := by rw [Lib.decDigits, dif_neg h]
theorem decFrom_dig (u : Nat) : Lib.decFrom 0 (Lib.decDigits u) = some u := by
  induction u using Nat.strongRecOn with
  | ind u ih =>
    by_cases h : u < 10
    · rw [dig_lt h]
      simp only [Lib.decFrom, dv_of u h]
      simp
    · rw [dig_ge h, decFrom_snoc, ih (u / 10) (by omega), dv_of (u % 10) (by omega)]
      simp only [Option.bind_some, Option.map_some]
      congr 1
      omega
theorem dig_len (k u : Nat) (h : u < 10 ^ (k + 1)) : (Lib.decDigits u).length ≤ k + 1 := by
  induction k generalizing u with
  | zero => rw [dig_lt (by simpa using h)]; simp
  | succ k ih =>
    by_cases h1 : u < 10
    · rw [dig_lt h1]; simp
    · rw [dig_ge h1, List.length_append, List.length_singleton]
      have := ih (u / 10) (by rw [Nat.pow_succ] at h; omega)
      omega
theorem dig_head (u : Nat) : ∃ c l, Lib.decDigits u = c :: l ∧ 48 ≤ c.toNat ∧ c.toNat ≤ 57 ∧ (0 < u → c ≠ 48) := by
  induction u using Nat.strongRecOn with
  | ind u ih =>
    by_cases h : u < 10
    · rw [dig_lt h]
      refine ⟨_, _, rfl, ?_⟩
      rcases u with _ | _ | _ | _ | _ | _ | _ | _ | _ | _ | u
      all_goals first | (exfalso; omega) | decide
    · obtain ⟨c, l, h1, h2, h3, h4⟩ := ih (u / 10) (by omega)
      rw [dig_ge h, h1]
      exact ⟨c, l ++ [UInt8.ofNat (48 + u % 10)], rfl, h2, h3, fun _ => h4 (by omega)⟩
theorem dec_canon : ∀ (n : Nat) (l : List UInt8) (m : Nat), l.length = n + 1 → Lib.decFrom 0 l = some m → (l.head? ≠ some 48 ∨ l.length = 1) → Lib.decDigits m = l := by
  intro n
  induction n with
  | zero =>
    intro l m hl h _
    obtain ⟨b, rfl⟩ := List.length_eq_one_iff.1 (by omega : l.length = 1)
    simp only [Lib.decFrom] at h
    cases hb : Lib.digitVal b with
    | none => rw [hb] at h; cases h
    | some d =>
      rw [hb] at h
      obtain ⟨h1, h2⟩ := dv_inv hb
      have : m = d := by simpa using h.symm
      rw [this, dig_lt h1, h2]
  | succ n ih =>
    intro l m hl h hh
    rcases List.eq_nil_or_concat l with rfl | ⟨L, b, rfl⟩
    · simp at hl
    · rw [List.concat_eq_append] at *
      have hL : L.length = n + 1 := by simp at hl; omega
      rw [decFrom_snoc] at h
      cases hm : Lib.decFrom 0 L with
      | none => rw [hm] at h; cases h
      | some m' =>
        rw [hm, Option.bind_some] at h
        cases hb : Lib.digitVal b with
        | none => rw [hb] at h; cases h
        | some d =>
          rw [hb] at h
          obtain ⟨h1, h2⟩ := dv_inv hb
          have hmd : m = m' * 10 + d := by simpa using h.symm
          have hne : L.head? ≠ some 48 := by
            rcases hh with hh | hh
            · cases L with
              | nil => simp at hL
              | cons x L => simpa using hh
            · rw [List.length_append, List.length_singleton] at hh; omega
          have e := ih L m' hL hm (.inl hne)
          have hm1 : m' ≠ 0 := by
            intro e0
            rw [e0, dig_lt (by decide)] at e
            rw [← e] at hne
            exact hne rfl
          rw [dig_ge (by omega), show m / 10 = m' by omega, show m % 10 = d by omega, e, h2]
/-- what the reference reads as a number -/
def numM (neg : Bool) (d : List UInt8) : Int × Bool := match Lib.decFrom 0 d with | some m => (if neg = true then -(m : Int) else (m : Int), true) | none => (0, false)
def numF (l : List UInt8) : Int × Bool :=
  if l.head? = some 45 then (if l.tail = [] ∨ 17 < l.tail.length ∨ l.tail.head? = some 48 then (0, false) else numM true l.tail)
  else (if l = [] ∨ 17 < l.length ∨ (l.head? = some 48 ∧ 1 < l.length) then (0, false) else numM false l)
theorem decFrom_lt17 {d : List UInt8} {m : Nat} (h : Lib.decFrom 0 d = some m) (hl : d.length ≤ 17) : m < 100000000000000000 := by
  have h1 := Lib.decFrom_lt d 0 m h
  have h2 : 10 ^ d.length ≤ 10 ^ 17 := Nat.pow_le_pow_right (by decide) hl
  omega
theorem numF_sound {l : List UInt8} {n : Int} (h : numF l = (n, true)) : l = Lib.itoa n ∧ -100000000000000000 < n ∧ n < 100000000000000000 := by
  unfold numF at h
  by_cases h45 : l.head? = some 45
  · rw [if_pos h45] at h
    split at h
    · cases h
    · next hc =>
      have c1 : l.tail ≠ [] := fun e => hc (.inl e)
      have c2 : ¬ 17 < l.tail.length := fun e => hc (.inr (.inl e))
      have c3 : l.tail.head? ≠ some 48 := fun e => hc (.inr (.inr e))
      unfold numM at h
      cases hm : Lib.decFrom 0 l.tail with
      | none => rw [hm] at h; cases h
      | some m =>
        rw [hm] at h
        have hn : n = -(m : Int) := by simpa using h.symm
        have hb := decFrom_lt17 hm (by omega)
        obtain ⟨k, hk⟩ : ∃ k, l.tail.length = k + 1 := ⟨l.tail.length - 1, by have := List.length_pos_iff.2 c1; omega⟩
        have e := dec_canon k l.tail m hk hm (.inl c3)
        have hm0 : m ≠ 0 := by
          intro e0
          rw [e0, dig_lt (by decide)] at e
          rw [← e] at c3
          exact c3 rfl
        refine ⟨?_, by omega, by omega⟩
        unfold Lib.itoa
        rw [if_pos (by omega), show n.natAbs = m by omega, e]
        cases l with
        | nil => simp at h45
        | cons c r => simp at h45; rw [h45]; rfl
  · rw [if_neg h45] at h
    split at h
    · cases h
    · next hc =>
      have c1 : l ≠ [] := fun e => hc (.inl e)
      have c2 : ¬ 17 < l.length := fun e => hc (.inr (.inl e))
      unfold numM at h
      cases hm : Lib.decFrom 0 l with
      | none => rw [hm] at h; cases h
      | some m =>
        rw [hm] at h
        have hn : n = (m : Int) := by simpa using h.symm
        have hb := decFrom_lt17 hm (by omega)
        obtain ⟨k, hk⟩ : ∃ k, l.length = k + 1 := ⟨l.length - 1, by have := List.length_pos_iff.2 c1; omega⟩
        have e := dec_canon k l m hk hm (by
          by_cases h1 : l.head? = some 48
          · exact .inr (by
              have : ¬ 1 < l.length := fun e => hc (.inr (.inr ⟨h1, e⟩))
              omega)
          · exact .inl h1)
        refine ⟨?_, by omega, by omega⟩
        unfold Lib.itoa
        rw [if_neg (by omega), show n.toNat = m by omega, e]
theorem numF_itoa {n : Int} (h0 : -100000000000000000 < n) (h1 : n < 100000000000000000) : numF (Lib.itoa n) = (n, true) := by
  unfold Lib.itoa
  by_cases hn : n < 0
  · rw [if_pos hn]
    obtain ⟨c, l, e, h2, h3, h4⟩ := dig_head n.natAbs
    have hl := dig_len 16 n.natAbs (by have : (10 : Nat) ^ (16 + 1) = 100000000000000000 := by decide
                                       omega)
    unfold numF
    rw [if_pos (show (45 :: Lib.decDigits n.natAbs).head? = some 45 from rfl), if_neg]
    · unfold numM
      show (match Lib.decFrom 0 (Lib.decDigits n.natAbs) with | some m => (if true = true then -(m : Int) else (m : Int), true) | none => (0, false)) = _
      rw [decFrom_dig]
      simp only [if_true]
      congr 1
      omega
    · rintro (hc | hc | hc)
      · rw [List.tail_cons, e] at hc; cases hc
      · rw [List.tail_cons] at hc; omega
      · rw [List.tail_cons, e] at hc
        exact h4 (by omega) (by simpa using hc)
  · rw [if_neg hn]
    obtain ⟨c, l, e, h2, h3, h4⟩ := dig_head n.toNat
    have hl := dig_len 16 n.toNat (by have : (10 : Nat) ^ (16 + 1) = 100000000000000000 := by decide
                                      omega)
    have hc45 : c ≠ 45 := by rintro rfl; revert h2; decide
    unfold numF
    rw [if_neg (by rw [e]; simpa using hc45), if_neg]
    · unfold numM
      rw [decFrom_dig]
      simp only [Bool.false_eq_true, if_false]
      congr 1
      omega
    · rintro (hc | hc | ⟨hc, hc2⟩)
      · rw [e] at hc; cases hc
      · omega
      · by_cases hz : 0 < n.toNat
        · rw [e] at hc
          exact h4 hz (by simpa using hc)
        · rw [show n.toNat = 0 by omega, dig_lt (by decide)] at hc2
          simp at hc2
theorem atoi_itoa {n : Int} (h0 : -100000000000000000 < n) (h1 : n < 100000000000000000) : Lib.atoiAll (Lib.itoa n) = .ok n := by
  unfold Lib.itoa
  by_cases hn : n < 0
  · rw [if_pos hn]
    obtain ⟨c, l, e, h2, h3, h4⟩ := dig_head n.natAbs
    have hl := dig_len 16 n.natAbs (by have : (10 : Nat) ^ (16 + 1) = 100000000000000000 := by decide
                                       omega)
    rw [Lib.atoiAll_short _ (by rw [List.length_cons]; omega)]
    have : Lib.decNat (Lib.decDigits n.natAbs) = some n.natAbs := by
      unfold Lib.decNat
      rw [e, List.isEmpty_cons, if_neg (by decide), ← e, decFrom_dig]
    simp only [Lib.atoi, beq_self_eq_true, if_true, this, Option.map_some, Lib.NumEnd.ofOption]
    congr 1
    omega
  · rw [if_neg hn]
    obtain ⟨c, l, e, h2, h3, h4⟩ := dig_head n.toNat
    have hl := dig_len 16 n.toNat (by have : (10 : Nat) ^ (16 + 1) = 100000000000000000 := by decide
                                      omega)
    have hc45 : c ≠ 45 := by rintro rfl; revert h2; decide
    have hc43 : c ≠ 43 := by rintro rfl; revert h2; decide
    rw [Lib.atoiAll_short _ (by omega)]
    have : Lib.decNat (c :: l) = some n.toNat := by
      unfold Lib.decNat
      rw [List.isEmpty_cons, if_neg (by decide), ← e, decFrom_dig]
    rw [e]
    simp only [Lib.atoi]
    rw [if_neg (by simpa using hc45), if_neg (by simpa using hc43), this]
    simp only [Option.map_some, Lib.NumEnd.ofOption]
    congr 1
    omega
theorem num_go (l : List UInt8) (neg : Bool) (hl : l.length ≤ 17) : ∀ (d i acc : Nat), i + d = l.length → acc < 10 ^ i →
    Ev (fun k => spec_l12Num.l0 k (tx l) neg (acc : Int) (i : Int)) (match Lib.decFrom acc (l.drop i) with | some m => (if neg = true then -(m : Int) else (m : Int), true) | none => (0, false)) := by
  have hp : ∀ i, i ≤ 17 → 10 ^ i ≤ 100000000000000000 := fun i hi => Nat.le_trans (Nat.pow_le_pow_right (by decide) hi) (by decide)
  intro d
  induction d with
  | zero =>
    intro i acc hi ha
    have := hp i (by omega)
    rw [drop_end l i (by omega)]
    refine Ev.step (fun k => spec_l12Num.l0.eq_2 ..) (ev_neg (by rw [tx_size]; omega) ?_)
    simp only [Lib.decFrom]
    cases neg with
    | true => exact ev_pos rfl (ev_now (by rw [w64 (by omega) (by omega)]; rfl))
    | false => exact ev_neg (by decide) (ev_now rfl)
  | succ d ih =>
    intro i acc hi ha
    have := hp i (by omega)
    have hil : i < l.length := by omega
    have hb := l[i].toNat_lt
    refine Ev.step (fun k => spec_l12Num.l0.eq_2 ..) (ev_pos (by rw [tx_size]; omega) (ev_pos (by omega) ?_))
    rw [bt_tx l i hil, List.drop_eq_getElem_cons hil]
    simp only [Lib.decFrom]
    by_cases h1 : 48 ≤ l[i].toNat ∧ l[i].toNat ≤ 57
    · have hd : Lib.digitVal l[i] = some (l[i].toNat - 48) := by unfold Lib.digitVal; rw [if_pos h1]
      rw [hd]
      refine ev_neg (by omega) (ev_neg (by omega) ?_)
      rw [w64 (x := (acc : Int) * 10) (by omega) (by omega), w64n (by omega), w64 (by omega) (by omega), show (acc : Int) * 10 + ((l[i].toNat : Int) - 48) % 256 = ((acc * 10 + (l[i].toNat - 48) : Nat) : Int) by omega]
      exact ih (i + 1) _ (by omega) (by rw [Nat.pow_succ]; omega)
    · have hd : Lib.digitVal l[i] = none := by unfold Lib.digitVal; rw [if_neg h1]
      rw [hd]
      by_cases h2 : l[i].toNat < 48
      · exact ev_pos (by omega) (ev_now rfl)
      · exact ev_neg (by omega) (ev_pos (by omega) (ev_now rfl))
theorem l12Num_ev (l : List UInt8) (hl : l.length ≤ 100000) : Ev (fun k => spec_l12Num.f k (tx l)) (numF l) := by
  unfold spec_l12Num.f numF
  rw [tx_size]
  cases l with
  | nil => exact ev_neg (by simp) (ev_pos (by simp) (ev_now (by simp)))
  | cons c r =>
    simp only [List.length_cons] at hl
    refine ev_pos (by simp <;> omega) (ev_pos (by simp <;> omega) ?_)
    have hb0 : bt (tx (c :: r)) 0 = (c.toNat : Int) := bt_tx (c :: r) 0 (by simp)
    have hx : (tx (c :: r)).extract 1 (c :: r).length = tx r := by rw [tx_extract]; congr 1; simp
    rw [hb0]
    by_cases hc : c = 45
    · subst hc
      rw [if_pos (show ((45 :: r).head? = some 45) from rfl), List.tail_cons]
      refine ev_pos rfl (ev_pos (by simp <;> omega) ?_)
      rw [hx, tx_size]
      by_cases h1 : r = []
      · subst h1
        exact ev_pos (by simp) (ev_now (by simp))
      have hr0 : 0 < r.length := List.length_pos_iff.2 h1
      refine ev_neg (by omega) ?_
      by_cases h2 : 17 < r.length
      · rw [if_pos (show r = [] ∨ 17 < r.length ∨ r.head? = some 48 from .inr (.inl h2))]
        exact ev_pos (by omega) (ev_now rfl)
      refine ev_neg (by omega) (ev_pos (by omega) ?_)
      have hb1 : bt (tx r) 0 = (r[0].toNat : Int) := bt_tx r 0 hr0
      have hh : r.head? = some r[0] := by cases r with | nil => simp at hr0 | cons x r => rfl
      rw [hb1]
      by_cases h3 : r[0] = 48
      · rw [if_pos (show r = [] ∨ 17 < r.length ∨ r.head? = some 48 from .inr (.inr (by rw [hh, h3])))]
        refine ev_pos (by rw [h3]; rfl) ?_
        by_cases h4 : (r.length : Int) > 1
        · exact ev_pos h4 (ev_now rfl)
        · exact ev_neg h4 (ev_now rfl)
      · rw [if_neg (show ¬ (r = [] ∨ 17 < r.length ∨ r.head? = some 48) by
          rintro (e | e | e)
          · exact h1 e
          · exact h2 e
          · rw [hh] at e; exact h3 (Option.some.inj e))]
        refine ev_neg (fun e => h3 (UInt8.toNat_inj.1 (by have : r[0].toNat = 48 := by omega
                                                          rw [this]; rfl))) ?_
        have := num_go r true (by omega) r.length 0 0 (by omega) (by decide)
        rw [List.drop_zero] at this
        exact this
    · have hcn : ¬ (c.toNat : Int) = 45 := fun e => hc (UInt8.toNat_inj.1 (by have : c.toNat = 45 := by omega
                                                                              rw [this]; rfl))
      have hh : (c :: r).head? = some c := rfl
      rw [if_neg (show ¬ ((c :: r).head? = some 45) by rw [hh]; intro e; exact hc (Option.some.inj e))]
      refine ev_neg hcn (ev_neg (by simp <;> omega) ?_)
      rw [List.length_cons]
      by_cases h2 : 17 < r.length + 1
      · rw [if_pos (show (c :: r = [] ∨ 17 < r.length + 1 ∨ ((c :: r).head? = some 48 ∧ 1 < r.length + 1)) from .inr (.inl h2))]
        exact ev_pos (by omega) (ev_now rfl)
      refine ev_neg (by omega) ?_
      have hneg : ((c.toNat : Int) == 45) = false := by simpa using hcn
      have go := num_go (c :: r) false (by simp <;> omega) (c :: r).length 0 0 (by omega) (by decide)
      rw [List.drop_zero] at go
      rw [hneg]
      by_cases h3 : c = 48
      · subst h3
        refine ev_pos rfl ?_
        by_cases h4 : 1 < r.length + 1
        · rw [if_pos (show ((48 : UInt8) :: r = [] ∨ 17 < r.length + 1 ∨ (((48 : UInt8) :: r).head? = some 48 ∧ 1 < r.length + 1)) from .inr (.inr ⟨rfl, h4⟩))]
          exact ev_pos (by omega) (ev_now rfl)
        · rw [if_neg (show ¬ ((48 : UInt8) :: r = [] ∨ 17 < r.length + 1 ∨ (((48 : UInt8) :: r).head? = some 48 ∧ 1 < r.length + 1)) by
            rintro (e | e | ⟨_, e⟩)
            · cases e
            · exact h2 e
            · exact h4 e)]
          exact ev_neg (by omega) go
      · rw [if_neg (show ¬ (c :: r = [] ∨ 17 < r.length + 1 ∨ ((c :: r).head? = some 48 ∧ 1 < r.length + 1)) by
          rintro (e | e | ⟨e, _⟩)
          · cases e
          · exact h2 e
          · rw [hh] at e; exact h3 (Option.some.inj e))]
        exact ev_neg (fun e => h3 (UInt8.toNat_inj.1 (by have : c.toNat = 48 := by omega
                                                         rw [this]; rfl))) go

/-- the pieces of a text between bytes c -/
def cutG (c : UInt8) : List UInt8 → List UInt8 → List (List UInt8)
  | cur, [] => [cur]
  | cur, x :: l => if x = c then cur :: cutG c [] l else cutG c (cur ++ [x]) l
theorem take_one (l : List UInt8) (f i : Nat) (h : f ≤ i) (hi : i < l.length) : (l.drop f).take (i + 1 - f) = (l.drop f).take (i - f) ++ [l[i]] := by
  rw [show i + 1 - f = (i - f) + 1 by omega, List.take_add, List.drop_drop, show f + (i - f) = i by omega, List.drop_eq_getElem_cons hi]
  rfl
theorem l12Cut_ev (l : List UInt8) (c : UInt8) (hl : l.length ≤ 4194304) : Ev (fun k => spec_l12Cut.f k (tx l) (c.toNat : Int)) ((cutG c [] l).map tx) := by
  have go : ∀ (d i f : Nat) (acc : List ByteArray), i + d = l.length → f ≤ i → acc.length ≤ i →
      Ev (fun k => spec_l12Cut.l0 k (tx l) (c.toNat : Int) acc (f : Int) (i : Int)) (acc ++ (cutG c ((l.drop f).take (i - f)) (l.drop i)).map tx) := by
    intro d
    induction d with
    | zero =>
      intro i f acc hi hf ha
      refine Ev.step (fun k => spec_l12Cut.l0.eq_2 ..) (ev_pos (by rw [tx_size]; omega) (ev_pos (by rw [tx_size]; omega) (ev_pos (by omega) (ev_pos (by omega) (ev_pos (by omega) ?_)))))
      rw [w64n (by omega)]
      refine Ev.step (fun k => spec_l12Cut.l0.eq_2 ..) (ev_neg (by rw [tx_size]; omega) (ev_now ?_))
      rw [tx_extract, Int.toNat_natCast, Int.toNat_natCast, drop_end l i (by omega)]
      rfl
    | succ d ih =>
      intro i f acc hi hf ha
      have hil : i < l.length := by omega
      refine Ev.step (fun k => spec_l12Cut.l0.eq_2 ..) (ev_pos (by rw [tx_size]; omega) (ev_neg (by rw [tx_size]; omega) (ev_pos (by omega) (ev_pos (by rw [tx_size]; omega) ?_))))
      rw [bt_tx l i hil, w64n (by omega), List.drop_eq_getElem_cons hil, cutG]
      by_cases h : l[i] = c
      · rw [if_pos h]
        refine ev_pos (by rw [h]) (ev_pos (by omega) (ev_pos (by omega) (ev_pos (by omega) ?_)))
        rw [tx_extract, Int.toNat_natCast, Int.toNat_natCast]
        have := ih (i + 1) (i + 1) (acc ++ [tx ((l.drop f).take (i - f))]) (by omega) (Nat.le_refl _) (by simp; omega)
        rw [Nat.sub_self, List.take_zero, List.append_assoc] at this
        exact this
      · rw [if_neg h]
        refine ev_neg (fun e => h (UInt8.toNat_inj.1 (by omega))) ?_
        have := ih (i + 1) f acc (by omega) (by omega) (by omega)
        rw [take_one l f i hf hil] at this
        exact this
  unfold spec_l12Cut.f
  have := go l.length 0 0 [] (by omega) (Nat.le_refl _) (Nat.le_refl _)
  simpa using this
theorem cutG_skip (c : UInt8) : ∀ (m l cur : List UInt8), (∀ x ∈ m, x ≠ c) → cutG c cur (m ++ l) = cutG c (cur ++ m) l := by
  intro m
  induction m with
  | nil => intro l cur _; simp
  | cons x m ih =>
    intro l cur h
    rw [List.cons_append, cutG, if_neg (h x List.mem_cons_self), ih _ _ (fun y hy => h y (List.mem_cons_of_mem _ hy)), List.append_assoc]
    rfl
theorem cutG_len (c : UInt8) : ∀ (l cur : List UInt8), ∀ p ∈ cutG c cur l, p.length ≤ cur.length + l.length := by
  intro l
  induction l with
  | nil => intro cur p hp; simp [cutG] at hp; subst hp; simp
  | cons x l ih =>
    intro cur p hp
    rw [cutG] at hp
    by_cases h : x = c
    · rw [if_pos h] at hp
      rcases List.mem_cons.1 hp with rfl | hp
      · simp
      · have := ih [] p hp
        simp at this ⊢
        omega
    · rw [if_neg h] at hp
      have := ih _ p hp
      simp at this ⊢
      omega
theorem cutG_many (c : UInt8) : ∀ (l cur : List UInt8), (cutG c cur l).length ≤ l.length + 1 := by
  intro l
  induction l with
  | nil => intro cur; simp [cutG]
  | cons x l ih =>
    intro cur
    rw [cutG]
    split
    · have := ih []; simp; omega
    · have := ih (cur ++ [x]); simp; omega
/-- pieces put together again -/
def joinP (c : UInt8) : List (List UInt8) → List UInt8
  | [] => []
  | p :: ps => p ++ (ps.map (c :: ·)).flatten
theorem cutG_ne (c : UInt8) : ∀ (l cur : List UInt8), cutG c cur l ≠ [] := by
  intro l
  induction l with
  | nil => intro cur; simp [cutG]
  | cons x l ih => intro cur; rw [cutG]; split <;> simp [ih]
theorem joinP_cons (c : UInt8) (p : List UInt8) (ps : List (List UInt8)) (h : ps ≠ []) : joinP c (p :: ps) = p ++ c :: joinP c ps := by
  cases ps with
  | nil => exact absurd rfl h
  | cons q ps => simp [joinP]
theorem cutG_join (c : UInt8) : ∀ (l cur : List UInt8), joinP c (cutG c cur l) = cur ++ l := by
  intro l
  induction l with
  | nil => intro cur; simp [cutG, joinP]
  | cons x l ih =>
    intro cur
    rw [cutG]
    by_cases h : x = c
    · rw [if_pos h, joinP_cons _ _ _ (cutG_ne c l []), ih [], h]
      rfl
    · rw [if_neg h, ih, List.append_assoc]
      rfl
theorem dig_bytes (u : Nat) : ∀ c ∈ Lib.decDigits u, 48 ≤ c.toNat ∧ c.toNat ≤ 57 := by
  induction u using Nat.strongRecOn with
  | ind u ih =>
    have one : ∀ d, d < 10 → 48 ≤ (UInt8.ofNat (48 + d)).toNat ∧ (UInt8.ofNat (48 + d)).toNat ≤ 57 := by
      intro d hd
      rw [UInt8.toNat_ofNat']
      omega
    intro c hc
    by_cases h : u < 10
    · rw [dig_lt h, List.mem_singleton] at hc
      rw [hc]
      exact one u h
    · rw [dig_ge h, List.mem_append, List.mem_singleton] at hc
      rcases hc with hc | hc
      · exact ih (u / 10) (by omega) c hc
      · rw [hc]
        exact one _ (by omega)
theorem itoa_bytes (n : Int) : ∀ c ∈ Lib.itoa n, c.toNat = 45 ∨ (48 ≤ c.toNat ∧ c.toNat ≤ 57) := by
  intro c hc
  unfold Lib.itoa at hc
  split at hc
  · rcases List.mem_cons.1 hc with rfl | hc
    · exact .inl rfl
    · exact .inr (dig_bytes _ c hc)
  · exact .inr (dig_bytes _ c hc)
theorem itoa_no (n : Int) (b : UInt8) (hb : b.toNat < 45) : ∀ c ∈ Lib.itoa n, c ≠ b := by
  intro c hc e
  have := itoa_bytes n c hc
  rw [e] at this
  omega

theorem implCell (n : Int) : impl_isCell.f n = some (cellB n) := by
  unfold impl_isCell.f cellB
  by_cases h : n ≥ -1000000000
  · rw [if_pos h]; simp; omega
  · rw [if_neg h]; simp; omega
theorem implIndex_ev (r : List Int) (hr : r.length < 4611686018427387904) : ∃ j : Int, Ev (fun k => slices_IndexFunc_int_int__impl_RowOk_1.f k r) j ∧ (decide (j ≥ 0) = !r.all cellB) := by
  have h : ∀ i, i ≤ r.length → ∃ j : Int, Ev (fun k => slices_IndexFunc_int_int__impl_RowOk_1.l0 k r (r.length : Int) (i : Int)) j ∧ (decide (j ≥ 0) = !(r.drop i).all cellB) := by
    have go : ∀ d i, i + d = r.length → ∃ j : Int, Ev (fun k => slices_IndexFunc_int_int__impl_RowOk_1.l0 k r (r.length : Int) (i : Int)) j ∧ (decide (j ≥ 0) = !(r.drop i).all cellB) := by
      intro d
      induction d with
      | zero =>
        intro i h
        refine ⟨-1, Ev.step (fun k => slices_IndexFunc_int_int__impl_RowOk_1.l0.eq_2 ..) (ev_neg (by omega) (ev_now rfl)), ?_⟩
        rw [drop_end r i (by omega)]; rfl
      | succ d ih =>
        intro i h
        obtain ⟨j, hj, hk⟩ := ih (i + 1) (by omega)
        have e1 : impl_RowOk_1.f (rd r i) = some (!cellB (rd r i)) := by unfold impl_RowOk_1.f; rw [implCell]; rfl
        rw [drop_rd r i (by omega), List.all_cons]
        cases hc : cellB (rd r i) with
        | true =>
          refine ⟨j, Ev.step (fun k => slices_IndexFunc_int_int__impl_RowOk_1.l0.eq_2 ..) (ev_pos (by omega) (ev_pos (by omega) (ev_pos (by omega) (ev_eq e1 (ev_neg (by rw [hc]; decide) ?_))))), by simpa using hk⟩
          rw [w64n (by omega)]
          exact hj
        | false =>
          refine ⟨(i : Int), Ev.step (fun k => slices_IndexFunc_int_int__impl_RowOk_1.l0.eq_2 ..) (ev_pos (by omega) (ev_pos (by omega) (ev_pos (by omega) (ev_eq e1 (ev_pos (by rw [hc]; rfl) (ev_now rfl)))))), ?_⟩
          simp
    exact fun i hi => go (r.length - i) i (by omega)
  obtain ⟨j, hj, hk⟩ := h 0 (by omega)
  exact ⟨j, by simpa [slices_IndexFunc_int_int__impl_RowOk_1.f] using hj, by simpa using hk⟩
theorem implRowOk_ev (r : List Int) (hr : r.length < 4611686018427387904) : Ev (fun k => impl_RowOk.f k r) (okRow r) := by
  obtain ⟨j, hj, hk⟩ := implIndex_ev r hr
  have hc : Ev (fun k => slices_ContainsFunc_int_int__impl_RowOk_1.f k r) (!r.all cellB) := by
    unfold slices_ContainsFunc_int_int__impl_RowOk_1.f
    exact hj.bind (ev_now hk)
  unfold impl_RowOk.f okRow
  by_cases h1 : 1 ≤ r.length
  · refine ev_pos (by omega) ?_
    by_cases h2 : r.length ≤ 6
    · exact ev_pos (by omega) (hc.bind (ev_now (by simp [h1, h2])))
    · exact ev_neg (by omega) (ev_now (by simp [h2]))
  · exact ev_neg (by omega) (ev_now (by simp [h1]))

theorem specRowOk_ev (r : List Int) (hr : r.length < 4611686018427387904) : Ev (fun k => spec_RowOk.f k r) (okRow r) := by
  have h := ev_down (fun k i => spec_RowOk.l0 k r (i : Int)) (fun i => (decide (1 ≤ r.length) && decide (r.length ≤ 6)) && (r.drop i).all cellB) r.length ?_ ?_ 0 (by omega)
  · simpa [spec_RowOk.f, okRow] using h
  · refine Ev.step (fun k => spec_RowOk.l0.eq_2 ..) (ev_neg (by omega) ?_)
    rw [drop_end r _ (Nat.le_refl _)]
    by_cases h : 1 ≤ r.length
    · exact ev_pos (by omega) (ev_now (by simp [h]; omega))
    · exact ev_neg (by omega) (ev_now (by simp [h]))
  · intro i hi ih
    refine Ev.step (fun k => spec_RowOk.l0.eq_2 ..) (ev_pos (by omega) (ev_pos (by omega) (ev_eq (specCell _) ?_)))
    rw [drop_rd r i hi, List.all_cons]
    cases hc : cellB (rd r i) with
    | true =>
      refine ev_pos rfl ?_
      rw [w64n (by omega), Bool.true_and]
      exact ih
    | false => exact ev_neg (by decide) (ev_now (by simp))

theorem rowB_join : ∀ rs : List Int, rowB rs = joinP 44 (rs.map Lib.itoa) := by
  intro rs
  cases rs with
  | nil => rfl
  | cons x l => simp only [rowB, tailB, joinP, List.map_cons, List.map_map]; rfl
theorem cut_row : ∀ (l : List Int) (x : Int), cutG 44 [] (rowB (x :: l)) = (x :: l).map Lib.itoa := by
  intro l
  induction l with
  | nil =>
    intro x
    rw [rowB, show tailB [] = [] from rfl, cutG_skip 44 _ _ _ (itoa_no x 44 (by decide))]
    rfl
  | cons y l ih =>
    intro x
    rw [rowB, show tailB (y :: l) = 44 :: rowB (y :: l) by simp [tailB, rowB], cutG_skip 44 _ _ _ (itoa_no x 44 (by decide)), List.nil_append, cutG, if_pos rfl, ih y]
    rfl
/-- pieces read as numbers -/
def numsF : List (List UInt8) → Option (List Int)
  | [] => some []
  | p :: ps => if (numF p).2 = true then (numsF ps).map ((numF p).1 :: ·) else none
theorem numsF_sound : ∀ (ps : List (List UInt8)) (rs : List Int), numsF ps = some rs → ps = rs.map Lib.itoa ∧ ∀ x ∈ rs, -100000000000000000 < x ∧ x < 100000000000000000 := by
  intro ps
  induction ps with
  | nil => intro rs h; simp [numsF] at h; subst h; simp
  | cons p ps ih =>
    intro rs h
    rw [numsF] at h
    by_cases hp : (numF p).2 = true
    · rw [if_pos hp] at h
      cases hq : numsF ps with
      | none => rw [hq] at h; cases h
      | some r =>
        rw [hq] at h
        have hr : rs = (numF p).1 :: r := by simpa using h.symm
        obtain ⟨e1, e2⟩ := ih r hq
        obtain ⟨s1, s2, s3⟩ := numF_sound (l := p) (n := (numF p).1) (Prod.ext rfl hp)
        subst hr
        refine ⟨?_, ?_⟩
        · rw [List.map_cons, ← e1, ← s1]
        · intro x hx
          rcases List.mem_cons.1 hx with rfl | hx
          · exact ⟨s2, s3⟩
          · exact e2 x hx
    · rw [if_neg hp] at h; cases h
theorem numsF_itoa : ∀ (rs : List Int), (∀ x ∈ rs, -100000000000000000 < x ∧ x < 100000000000000000) → numsF (rs.map Lib.itoa) = some rs := by
  intro rs
  induction rs with
  | nil => intro _; rfl
  | cons x rs ih =>
    intro h
    have hx := h x List.mem_cons_self
    rw [List.map_cons, numsF, numF_itoa hx.1 hx.2, if_pos rfl, ih (fun y hy => h y (List.mem_cons_of_mem _ hy))]
    rfl
def atois : List Int → List (List UInt8) → Option (List Int)
  | rs, [] => some rs
  | rs, p :: ps => match Lib.atoiAll p with | .ok v => atois (rs ++ [v]) ps | _ => none
theorem goB_atois : ∀ (l cur : List UInt8) (rs : List Int), goB cur rs (l ++ [44]) = atois rs (cutG 44 cur l) := by
  intro l
  induction l with
  | nil =>
    intro cur rs
    rw [List.nil_append, goB, if_pos rfl, cutG, atois]
    cases Lib.atoiAll cur with
    | ok v => rfl
    | range => rfl
    | _ => rfl
  | cons x l ih =>
    intro cur rs
    rw [List.cons_append, goB, cutG]
    by_cases h : x = 44
    · rw [if_pos h, if_pos h, atois]
      cases Lib.atoiAll cur with
      | ok v => exact ih [] _
      | range => rfl
      | _ => rfl
    · rw [if_neg h, if_neg h]
      exact ih _ _
theorem atois_itoa : ∀ (rs acc : List Int), (∀ x ∈ rs, -100000000000000000 < x ∧ x < 100000000000000000) → atois acc (rs.map Lib.itoa) = some (acc ++ rs) := by
  intro rs
  induction rs with
  | nil => intro acc _; simp [atois]
  | cons x rs ih =>
    intro acc h
    have hx := h x List.mem_cons_self
    rw [List.map_cons, atois, atoi_itoa hx.1 hx.2]
    show atois (acc ++ [x]) (rs.map Lib.itoa) = _
    rw [ih _ (fun y hy => h y (List.mem_cons_of_mem _ hy)), List.append_assoc]
    rfl
/-- what RowRead tells -/
def readR (l : List UInt8) : List Int × Bool := if l.length > 100 then ([], false) else match numsF (cutG 44 [] l) with | some rs => (if okRow rs = true then (rs, true) else ([], false)) | none => ([], false)
theorem okRow_mem {r : List Int} (h : okRow r = true) : 1 ≤ r.length ∧ r.length ≤ 6 ∧ ∀ x ∈ r, -1000000000 ≤ x ∧ x ≤ 1000000000 := by
  unfold okRow at h
  simp only [Bool.and_eq_true, decide_eq_true_eq, List.all_eq_true] at h
  exact ⟨h.1.1, h.1.2, fun x hx => by have := h.2 x hx; unfold cellB at this; simpa using this⟩
theorem readR_len (l : List UInt8) : (readR l).1.length ≤ 6 := by
  unfold readR
  split
  · simp
  · split
    · split
      · next h => exact (okRow_mem h).2.1
      · simp
    · simp
theorem implRead_ev (l : List UInt8) : Ev (fun k => impl_RowRead.f k (tx l)) (readR l) := by
  unfold impl_RowRead.f readR
  rw [tx_size, tx_toList]
  by_cases h0 : l.length > 100
  · rw [if_pos h0]
    exact ev_pos h0 (ev_now rfl)
  rw [if_neg h0, goB_atois]
  refine ev_neg h0 ?_
  cases hs : numsF (cutG 44 [] l) with
  | some rs =>
    obtain ⟨e1, e2⟩ := numsF_sound _ _ hs
    have ha := atois_itoa rs [] e2
    rw [← e1, List.nil_append] at ha
    rw [ha]
    have hlen : rs.length ≤ 101 := by
      have := congrArg List.length e1
      have h1 := cutG_many 44 l []
      rw [List.length_map] at this
      omega
    refine (implRowOk_ev rs (by omega)).bind ?_
    by_cases hk : okRow rs = true
    · simp only [hk, if_true]
      have hj : rowB rs = l := by
        have := cutG_join 44 l []
        rw [e1, ← rowB_join] at this
        exact this
      have ht := implRowText_ev rs (by omega) (fun x hx => okI_iff.2 (by have := (okRow_mem hk).2.2 x hx; omega))
      rw [hj] at ht
      exact ev_eq ht (ev_pos rfl (ev_now rfl))
    · simp only [hk]
      exact ev_now (by simp)
  | none =>
    cases ha : atois [] (cutG 44 [] l) with
    | none => exact ev_now rfl
    | some rs =>
      by_cases hk : okRow rs = true
      · have hm := okRow_mem hk
        have hok : ∀ x ∈ rs, okI x = true := fun x hx => okI_iff.2 (by have := hm.2.2 x hx; omega)
        have hne : rowB rs ≠ l := by
          intro e
          cases rs with
          | nil => simp at hm
          | cons x rs =>
            rw [← e, cut_row, numsF_itoa _ (fun y hy => by have := hm.2.2 y hy; omega)] at hs
            cases hs
        refine (implRowOk_ev rs (by omega)).bind ?_
        simp only [hk, if_true]
        exact ev_eq (implRowText_ev rs (by omega) hok) (ev_neg (fun e => hne (tx_inj e)) (ev_now rfl))
      · have hlen : Ev (fun k => impl_RowOk.f k rs) (okRow rs) := implRowOk_ev rs (by
          have h1 := cutG_many 44 l []
          have : ∀ (ps : List (List UInt8)) (acc r : List Int), atois acc ps = some r → r.length = acc.length + ps.length := by
            intro ps
            induction ps with
            | nil => intro acc r h; simp [atois] at h; subst h; simp
            | cons p ps ih =>
              intro acc r h
              rw [atois] at h
              cases hp : Lib.atoiAll p with
              | ok v => rw [hp] at h; have := ih _ _ h; simp at this ⊢; omega
              | range => rw [hp] at h; cases h
              | _ => rw [hp] at h; cases h
          have := this _ _ _ ha
          simp at this
          omega)
        refine hlen.bind ?_
        simp only [hk]
        exact ev_now (by simp)
theorem specRead_ev (l : List UInt8) (hl : l.length ≤ 4194304) : Ev (fun k => spec_RowRead.f k (tx l)) (readR l) := by
  unfold spec_RowRead.f readR
  rw [tx_size]
  by_cases h0 : l.length > 100
  · rw [if_pos h0]
    exact ev_pos (by omega) (ev_now rfl)
  rw [if_neg h0]
  refine ev_neg (by omega) ((l12Cut_ev l 44 hl).bind ?_)
  have hm := cutG_many 44 l []
  have hp := cutG_len 44 l []
  generalize cutG 44 [] l = ps at hm hp
  have go : ∀ (d i : Nat) (acc : List Int), i + d = ps.length → acc.length ≤ i →
      Ev (fun k => spec_RowRead.l0 k (ps.map tx) acc (i : Int)) (match numsF (ps.drop i) with | some rs => (if okRow (acc ++ rs) = true then (acc ++ rs, true) else ([], false)) | none => ([], false)) := by
    intro d
    induction d with
    | zero =>
      intro i acc hi ha
      rw [drop_end ps i (by omega)]
      simp only [numsF, List.append_nil]
      refine Ev.step (fun k => spec_RowRead.l0.eq_2 ..) (ev_neg (by rw [List.length_map]; omega) ((specRowOk_ev acc (by omega)).bind ?_))
      by_cases hk : okRow acc = true
      · exact ev_pos hk (ev_now (by rw [if_pos hk]))
      · exact ev_neg hk (ev_now (by rw [if_neg hk]))
    | succ d ih =>
      intro i acc hi ha
      have hil : i < ps.length := by omega
      have hpl := hp _ (List.getElem_mem hil)
      have hrd : rdOf ByteArray.empty (ps.map tx) (i : Int) = tx ps[i] := by
        unfold rdOf
        rw [Int.toNat_natCast, List.getD_eq_getElem?_getD, List.getElem?_map, List.getElem?_eq_getElem hil]
        rfl
      refine Ev.step (fun k => spec_RowRead.l0.eq_2 ..) (ev_pos (by rw [List.length_map]; omega) (ev_pos (by omega) ?_))
      rw [hrd, List.drop_eq_getElem_cons hil, numsF]
      refine (l12Num_ev ps[i] (by simp at hpl; omega)).bind ?_
      by_cases hn : (numF ps[i]).2 = true
      · rw [if_pos hn]
        refine ev_pos hn (ev_pos (by omega) ?_)
        rw [w64n (by omega)]
        have := ih (i + 1) (acc ++ [(numF ps[i]).1]) (by omega) (by simp; omega)
        cases hq : numsF (ps.drop (i + 1)) with
        | none => rw [hq] at this; exact this
        | some rs =>
          rw [hq] at this
          simp only [List.append_assoc, List.singleton_append] at this
          exact this
      · rw [if_neg hn]
        exact ev_neg hn (ev_now rfl)
  have := go ps.length 0 [] (by omega) (Nat.le_refl _)
  simpa using this

theorem itoa_len {x : Int} (h0 : -1000000001 ≤ x) (h1 : x ≤ 1000000001) : (Lib.itoa x).length ≤ 11 := by
  have p : (10 : Nat) ^ (9 + 1) = 10000000000 := rfl
  unfold Lib.itoa
  split
  · rw [List.length_cons]
    have := dig_len 9 x.natAbs (by omega)
    omega
  · have := dig_len 9 x.toNat (by omega)
    omega
theorem rowB_len11 : ∀ l : List Int, (∀ x ∈ l, -1000000001 ≤ x ∧ x ≤ 1000000001) → (rowB l).length ≤ 12 * l.length := by
  intro l h
  have ht : ∀ l : List Int, (∀ x ∈ l, -1000000001 ≤ x ∧ x ≤ 1000000001) → (tailB l).length ≤ 12 * l.length := by
    intro l
    induction l with
    | nil => intro _; simp [tailB]
    | cons x l ih =>
      intro h
      have := ih (fun y hy => h y (List.mem_cons_of_mem _ hy))
      have hx := h x List.mem_cons_self
      have := itoa_len hx.1 hx.2
      unfold tailB at *
      simp only [List.map_cons, List.flatten_cons, List.length_append, List.length_cons] at *
      omega
  cases l with
  | nil => simp [rowB]
  | cons x l =>
    have := ht l (fun y hy => h y (List.mem_cons_of_mem _ hy))
    have hx := h x List.mem_cons_self
    have := itoa_len hx.1 hx.2
    rw [rowB, List.length_append, List.length_cons]
    omega
/-- a row's text is read as the row, if the row is ok -/
theorem readR_rowB (r : List Int) (h : ∀ x ∈ r, -1000000001 ≤ x ∧ x ≤ 1000000001) : readR (rowB r) = if okRow r = true then (r, true) else ([], false) := by
  cases r with
  | nil => rfl
  | cons x l =>
    unfold readR
    by_cases h0 : (rowB (x :: l)).length > 100
    · rw [if_pos h0, if_neg]
      intro hk
      have := (okRow_mem hk).2.1
      have := rowB_len11 _ h
      omega
    · rw [if_neg h0, cut_row, numsF_itoa _ (fun y hy => by have := h y hy; omega)]
theorem readR_true {l : List UInt8} {y : List Int} (h : readR l = (y, true)) : rowB y = l ∧ okRow y = true := by
  unfold readR at h
  by_cases h0 : l.length > 100
  · rw [if_pos h0] at h; cases h
  rw [if_neg h0] at h
  cases hs : numsF (cutG 44 [] l) with
  | none => rw [hs] at h; cases h
  | some rs =>
    rw [hs] at h
    simp only at h
    by_cases hk : okRow rs = true
    · rw [if_pos hk] at h
      injection h with h _
      subst h
      refine ⟨?_, hk⟩
      have := cutG_join 44 l []
      rw [(numsF_sound _ _ hs).1, ← rowB_join] at this
      exact this
    · rw [if_neg hk] at h; cases h

/-- a word at its first star -/
def cutW : List UInt8 → Option (List UInt8 × List UInt8)
  | [] => none
  | c :: l => if c = 42 then some ([], l) else (cutW l).map fun z => (c :: z.1, z.2)
theorem cutW_some : ∀ (l p q : List UInt8), cutW l = some (p, q) → l = p ++ 42 :: q ∧ ∀ c ∈ p, c ≠ 42 := by
  intro l
  induction l with
  | nil => intro p q h; cases h
  | cons c l ih =>
    intro p q h
    rw [cutW] at h
    by_cases hc : c = 42
    · rw [if_pos hc] at h
      simp only [Option.some.injEq, Prod.mk.injEq] at h
      obtain ⟨rfl, rfl⟩ := h
      exact ⟨by rw [hc]; rfl, by simp⟩
    · rw [if_neg hc] at h
      obtain ⟨⟨p1, q1⟩, h1, h2⟩ := Option.map_eq_some_iff.1 h
      simp only [Prod.mk.injEq] at h2
      obtain ⟨rfl, rfl⟩ := h2
      obtain ⟨e1, e2⟩ := ih _ _ h1
      exact ⟨by rw [e1]; rfl, fun x hx => by rcases List.mem_cons.1 hx with rfl | hx; exact hc; exact e2 x hx⟩
theorem cutW_none : ∀ (l : List UInt8), cutW l = none → ∀ c ∈ l, c ≠ 42 := by
  intro l
  induction l with
  | nil => intro _ c h; cases h
  | cons c l ih =>
    intro h x hx
    rw [cutW] at h
    by_cases hc : c = 42
    · rw [if_pos hc] at h; cases h
    · rw [if_neg hc, Option.map_eq_none_iff] at h
      rcases List.mem_cons.1 hx with rfl | hx
      · exact hc
      · exact ih h x hx
theorem cutW_of : ∀ (p q : List UInt8), (∀ c ∈ p, c ≠ 42) → cutW (p ++ 42 :: q) = some (p, q) := by
  intro p
  induction p with
  | nil => intro q _; rw [List.nil_append, cutW, if_pos rfl]
  | cons c p ih =>
    intro q h
    rw [List.cons_append, cutW, if_neg (h c List.mem_cons_self), ih q (fun x hx => h x (List.mem_cons_of_mem _ hx))]
    rfl
/-- an item's word, read -/
def readI (w : List UInt8) : Option S53 := match cutW w with | none => none | some z => if (readR z.1).2 = true then (if (numF z.2).2 = true then some ⟨(readR z.1).1, (numF z.2).1⟩ else none) else none
def itemsF : List (List UInt8) → Option (List S53)
  | [] => some []
  | w :: ws => match readI w with | none => none | some x => (itemsF ws).map (x :: ·)
/-- what ZRead tells -/
def readZ (l : List UInt8) : List S53 × Bool := if l = [] then ([], true) else if l.length > 9000 then ([], false) else match itemsF (cutG 32 [] l) with | some z => (if okZ z = true then (z, true) else ([], false)) | none => ([], false)
theorem rowB_no (r : List Int) (b : UInt8) (hb : b.toNat < 44) : ∀ c ∈ rowB r, c ≠ b := by
  have h44 : (44 : UInt8) ≠ b := by intro e; subst e; exact absurd hb (by decide)
  have ht : ∀ l : List Int, ∀ c ∈ tailB l, c ≠ b := by
    intro l c hc
    unfold tailB at hc
    obtain ⟨s, hs, hcs⟩ := List.mem_flatten.1 hc
    obtain ⟨x, _, rfl⟩ := List.mem_map.1 hs
    rcases List.mem_cons.1 hcs with rfl | h
    · exact h44
    · exact itoa_no x b (by omega) c h
  cases r with
  | nil => intro c hc; cases hc
  | cons x l =>
    intro c hc
    rw [rowB] at hc
    rcases List.mem_append.1 hc with h | h
    · exact itoa_no x b (by omega) c h
    · exact ht l c h
/-- an item that is read back -/
def GoodI (x : S53) : Prop := okRow x.f0 = true ∧ -100000000000000000 < x.f1 ∧ x.f1 < 100000000000000000
theorem readI_itemB {x : S53} (h : GoodI x) : readI (itemB x) = some x := by
  unfold readI itemB
  rw [cutW_of _ _ (rowB_no x.f0 42 (by decide))]
  simp only
  rw [readR_rowB x.f0 (fun y hy => by have := (okRow_mem h.1).2.2 y hy; omega), if_pos h.1, numF_itoa h.2.1 h.2.2]
  rfl
theorem readI_sound {w : List UInt8} {x : S53} (h : readI w = some x) : w = itemB x ∧ GoodI x := by
  unfold readI at h
  cases hc : cutW w with
  | none => rw [hc] at h; cases h
  | some z =>
    obtain ⟨p, q⟩ := z
    rw [hc] at h
    simp only at h
    by_cases h1 : (readR p).2 = true
    · rw [if_pos h1] at h
      by_cases h2 : (numF q).2 = true
      · rw [if_pos h2] at h
        obtain rfl := Option.some.inj h
        obtain ⟨e1, e2⟩ := readR_true (l := p) (y := (readR p).1) (Prod.ext rfl h1)
        obtain ⟨s1, s2, s3⟩ := numF_sound (l := q) (n := (numF q).1) (Prod.ext rfl h2)
        refine ⟨?_, e2, s2, s3⟩
        unfold itemB
        simp only
        rw [e1, ← s1]
        exact (cutW_some _ _ _ hc).1
      · rw [if_neg h2] at h; cases h
    · rw [if_neg h1] at h; cases h
theorem itemsF_sound : ∀ (ws : List (List UInt8)) (z : List S53), itemsF ws = some z → ws = z.map itemB ∧ ∀ x ∈ z, GoodI x := by
  intro ws
  induction ws with
  | nil => intro z h; simp [itemsF] at h; subst h; simp
  | cons w ws ih =>
    intro z h
    rw [itemsF] at h
    cases hr : readI w with
    | none => rw [hr] at h; cases h
    | some x =>
      rw [hr] at h
      obtain ⟨z1, h1, rfl⟩ := Option.map_eq_some_iff.1 h
      obtain ⟨e1, e2⟩ := ih _ h1
      obtain ⟨s1, s2⟩ := readI_sound hr
      exact ⟨by rw [List.map_cons, ← e1, ← s1], fun y hy => by rcases List.mem_cons.1 hy with rfl | hy; exact s2; exact e2 y hy⟩
theorem itemsF_map : ∀ z : List S53, (∀ x ∈ z, GoodI x) → itemsF (z.map itemB) = some z := by
  intro z
  induction z with
  | nil => intro _; rfl
  | cons x z ih =>
    intro h
    rw [List.map_cons, itemsF, readI_itemB (h x List.mem_cons_self), ih (fun y hy => h y (List.mem_cons_of_mem _ hy))]
    rfl
theorem itemB_no (x : S53) : ∀ c ∈ itemB x, c ≠ 32 := by
  intro c hc
  unfold itemB at hc
  rcases List.mem_append.1 hc with h | h
  · exact rowB_no x.f0 32 (by decide) c h
  · rcases List.mem_cons.1 h with rfl | h
    · decide
    · exact itoa_no x.f1 32 (by decide) c h
theorem cutZ : ∀ (z : List S53) (x : S53), cutG 32 [] (textZ (x :: z)) = (x :: z).map itemB := by
  intro z
  induction z with
  | nil =>
    intro x
    rw [textZ, show tailZ [] = [] from rfl, cutG_skip 32 _ _ _ (itemB_no x)]
    rfl
  | cons y z ih =>
    intro x
    rw [textZ, show tailZ (y :: z) = 32 :: textZ (y :: z) by simp [tailZ, textZ], cutG_skip 32 _ _ _ (itemB_no x), List.nil_append, cutG, if_pos rfl, ih y]
    rfl
theorem textZ_joinP : ∀ z : List S53, textZ z = joinP 32 (z.map itemB) := by
  intro z
  cases z with
  | nil => rfl
  | cons x z =>
    rw [← cutZ, cutG_join]
    rfl
theorem itemsF_text {l : List UInt8} {z : List S53} (h : itemsF (cutG 32 [] l) = some z) : textZ z = l := by
  have := cutG_join 32 l []
  rw [(itemsF_sound _ _ h).1, ← textZ_joinP] at this
  exact this
theorem okZ_good {z : List S53} (h : okZ z = true) : ∀ x ∈ z, GoodI x := by
  have hw : ∀ (z : List S53) (p : Option (List Int)), chain p z = true → ∀ x ∈ z, okRow x.f0 = true ∧ okW x.f1 = true := by
    intro z
    induction z with
    | nil => intro _ _ x hx; cases hx
    | cons y z ih =>
      intro p hp x hx
      rw [chain_cons] at hp
      simp only [Bool.and_eq_true] at hp
      rcases List.mem_cons.1 hx with rfl | hx
      · exact ⟨hp.1, hp.2.1⟩
      · exact ih _ hp.2.2.2 x hx
  intro x hx
  unfold okZ at h
  simp only [Bool.and_eq_true] at h
  obtain ⟨h1, h2⟩ := hw z none h.2 x hx
  unfold okW at h2
  simp only [Bool.and_eq_true, decide_eq_true_eq] at h2
  exact ⟨h1, by omega, by omega⟩
theorem good_ok {z : List S53} (h : ∀ x ∈ z, GoodI x) : OkI z := fun x hx => ⟨fun y hy => okI_iff.2 (by have := (okRow_mem (h x hx).1).2.2 y hy; omega), okI_iff.2 (by have := (h x hx).2; omega)⟩
theorem readZ_small (l : List UInt8) : (readZ l).1.length ≤ 9001 ∧ ∀ x ∈ (readZ l).1, x.f0.length ≤ 6 := by
  unfold readZ
  split
  · exact ⟨by simp, by simp⟩
  · split
    · exact ⟨by simp, by simp⟩
    · split
      · next hs =>
        split
        · next hk =>
          have hm := cutG_many 32 l []
          obtain ⟨e1, e2⟩ := itemsF_sound _ _ hs
          rw [e1, List.length_map] at hm
          exact ⟨by simp only; omega, fun x hx => (okRow_mem (e2 x hx).1).2.1⟩
        · exact ⟨by simp, by simp⟩
      · exact ⟨by simp, by simp⟩

theorem l1Order_ev (a b : List Int) (ha : a.length < 4611686018427387904) (hb : b.length < 4611686018427387904) : Ev (fun k => spec_l1Order.f k a b) (ordL a b ((a.length : Int) - b.length)) := by
  have h := ev_down (fun k i => spec_l1Order.l0 k a b (i : Int)) (fun i => ordL (a.drop i) (b.drop i) ((a.length : Int) - b.length)) a.length ?_ ?_ 0 (by omega)
  · simpa [spec_l1Order.f] using h
  · refine Ev.step (fun k => spec_l1Order.l0.eq_2 ..) (ev_neg (by omega) (ev_now ?_))
    rw [drop_end a _ (Nat.le_refl _), ordL, w64 (by omega) (by omega)]
  · intro i hi ih
    refine Ev.step (fun k => spec_l1Order.l0.eq_2 ..) (ev_pos (by omega) ?_)
    by_cases hb' : i < b.length
    · rw [drop_rd a i hi, drop_rd b i hb']
      refine ev_pos (by omega) (ev_pos (by omega) ?_)
      by_cases h1 : rd a i < rd b i
      · exact ev_pos h1 (ev_now (by rw [ordL, if_pos h1]))
      · refine ev_neg h1 ?_
        by_cases h2 : rd a i > rd b i
        · exact ev_pos h2 (ev_now (by rw [ordL, if_neg h1, if_pos h2]))
        · refine ev_neg h2 ?_
          rw [w64n (by omega), ordL, if_neg h1, if_neg h2]
          exact ih
    · refine ev_neg (by omega) (ev_now ?_)
      rw [drop_end b i (by omega), w64 (by omega) (by omega)]
      cases a.drop i <;> rfl

theorem specLess_ev (a b : List Int) (ha : a.length < 4611686018427387904) (hb : b.length < 4611686018427387904) : Ev (fun k => spec_RowLess.f k a b) (decide (lexc a b < 0)) := by
  unfold spec_RowLess.f
  refine (l1Order_ev a b ha hb).bind (ev_now ?_)
  rw [decide_eq_decide]
  exact lexc_ordL a b

theorem specW (w : Int) : spec_l2W.f w = some (okW w) := by
  unfold spec_l2W.f okW
  by_cases h : w = 0
  · rw [if_pos h]; simp [h]
  · rw [if_neg h]
    by_cases h1 : w ≥ -10000
    · rw [if_pos h1]; simp [h]; omega
    · rw [if_neg h1]; simp; omega
theorem specZOk_ev (z : List S53) (hs : Small z) : Ev (fun k => spec_ZOk.f k z) (okZ z) := by
  have hz := hs.len
  unfold spec_ZOk.f okZ
  by_cases hl : (z.length : Int) > 100
  · exact ev_pos hl (ev_now (by rw [decide_eq_false (by omega)]; rfl))
  refine ev_neg hl ?_
  rw [decide_eq_true (by omega : z.length ≤ 100), Bool.true_and]
  have h := ev_down (fun k i => spec_ZOk.l0 k z (i : Int)) (fun i => chain (ahead z i) (z.drop i)) z.length ?_ ?_ 0 (by omega)
  · simpa [ahead] using h
  · refine Ev.step (fun k => spec_ZOk.l0.eq_2 ..) (ev_neg (by omega) (ev_now ?_))
    rw [drop_end z _ (Nat.le_refl _), chain_nil]
  · intro i hi ih
    have hr := hs.row _ (List.getElem_mem hi)
    refine Ev.step (fun k => spec_ZOk.l0.eq_2 ..) (ev_pos (by omega) (ev_pos (by omega) ?_))
    rw [rdI_at z i hi, drop_at z i hi, chain_cons]
    refine (specRowOk_ev z[i].f0 (by omega)).bind ?_
    cases hok : okRow z[i].f0 with
    | false => exact ev_neg (by simp) (ev_now (by simp))
    | true =>
      refine ev_pos rfl (ev_eq (specW _) ?_)
      cases hw : okW z[i].f1 with
      | false => exact ev_neg (by simp) (ev_now (by simp))
      | true =>
        refine ev_pos rfl ?_
        rw [w64n (by omega)]
        rw [ahead_succ z i hi] at ih
        by_cases h0 : (i : Int) > 0
        · have hi1 : i - 1 < z.length := by omega
          have e : wrap64 ((i : Int) - 1) = ((i - 1 : Nat) : Int) := by rw [w64 (by omega) (by omega)]; omega
          have ha : ahead z i = some z[i - 1].f0 := by unfold ahead; rw [if_neg (by omega), List.getElem?_eq_getElem hi1]; rfl
          have hr1 := hs.row _ (List.getElem_mem hi1)
          rw [e]
          refine ev_pos h0 (ev_pos (by omega) (ev_pos (by omega) ?_))
          rw [rdI_at z (i - 1) hi1, ha]
          refine (specLess_ev z[i - 1].f0 z[i].f0 (by omega) (by omega)).bind ?_
          by_cases hl : lexc z[i - 1].f0 z[i].f0 < 0
          · refine ev_pos (decide_eq_true hl) ?_
            simpa [hl] using ih
          · exact ev_neg (by simpa using hl) (ev_now (by simp [hl]))
        · have ha : ahead z i = none := by unfold ahead; rw [if_pos (by omega)]
          rw [ha]
          refine ev_neg h0 ?_
          simpa using ih

theorem find_ev (l : List UInt8) (hl : l.length ≤ 4194304) : Ev (fun k => spec_l12Find.f k (tx l) 42) (match cutW l with | none => -1 | some z => (z.1.length : Int)) := by
  unfold spec_l12Find.f
  have go : ∀ (d i : Nat), i + d = l.length → Ev (fun k => spec_l12Find.l0 k (tx l) 42 (i : Int)) (match cutW (l.drop i) with | none => -1 | some z => (i : Int) + (z.1.length : Int)) := by
    intro d
    induction d with
    | zero =>
      intro i hi
      rw [drop_end l i (by omega)]
      exact Ev.step (fun k => spec_l12Find.l0.eq_2 ..) (ev_neg (by rw [tx_size]; omega) (ev_now rfl))
    | succ d ih =>
      intro i hi
      have hil : i < l.length := by omega
      refine Ev.step (fun k => spec_l12Find.l0.eq_2 ..) (ev_pos (by rw [tx_size]; omega) (ev_pos (by omega) ?_))
      rw [bt_tx l i hil, List.drop_eq_getElem_cons hil, cutW]
      by_cases h : l[i] = 42
      · rw [if_pos h]
        exact ev_pos (by rw [h]; rfl) (ev_now (by simp))
      · rw [if_neg h]
        refine ev_neg (fun e => h (UInt8.toNat_inj.1 (by have : l[i].toNat = 42 := by omega
                                                         rw [this]; rfl))) ?_
        rw [w64n (by omega)]
        have := ih (i + 1) (by omega)
        cases hc : cutW (l.drop (i + 1)) with
        | none => rw [hc] at this; exact this
        | some z =>
          rw [hc] at this
          have e : ((i : Int) + (((l[i] :: z.1).length : Nat) : Int)) = ((i + 1 : Nat) : Int) + (z.1.length : Int) := by rw [List.length_cons]; omega
          simp only [Option.map_some]
          rw [e]
          exact this
  have := go l.length 0 (by omega)
  rw [List.drop_zero] at this
  cases hc : cutW l with
  | none => rw [hc] at this; exact this
  | some z =>
    rw [hc] at this
    simpa using this
theorem l2One_ev (w : List UInt8) (hw : w.length ≤ 100000) : ∃ (r : List Int) (n : Int) (b : Bool), Ev (fun k => spec_l2One.f k (tx w)) (r, n, b) ∧ readI w = (if b = true then some ⟨r, n⟩ else none) ∧ r.length ≤ 6 := by
  have hf := find_ev w (by omega)
  unfold readI
  cases hc : cutW w with
  | none =>
    rw [hc] at hf
    refine ⟨[], 0, false, ?_, rfl, by simp⟩
    unfold spec_l2One.f
    exact hf.bind (ev_pos (by decide) (ev_now rfl))
  | some z =>
    obtain ⟨p, q⟩ := z
    rw [hc] at hf
    simp only at hf
    obtain ⟨e, -⟩ := cutW_some _ _ _ hc
    have hl : w.length = p.length + (q.length + 1) := by rw [e, List.length_append, List.length_cons]
    have x1 : (tx w).extract 0 p.length = tx p := by
      rw [tx_extract, List.drop_zero, Nat.sub_zero, e, List.take_left]
    have x2 : (tx w).extract (p.length + 1) w.length = tx q := by
      rw [tx_extract, hl, e, show p.length + (q.length + 1) - (p.length + 1) = q.length by omega, ← List.drop_drop, List.drop_left, List.drop_one, List.tail_cons, List.take_length]
    have rr := specRead_ev p (by omega)
    have nn := l12Num_ev q (by omega)
    refine ⟨(readR p).1, (numF q).1, (readR p).2 && (numF q).2, ?_, ?_, readR_len p⟩
    · unfold spec_l2One.f
      refine hf.bind (ev_neg (by omega) (ev_pos (by omega) (ev_pos (by rw [tx_size]; omega) ?_)))
      rw [Int.toNat_natCast, x1]
      refine rr.bind ?_
      rw [w64n (by omega)]
      refine ev_pos (by omega) (ev_pos (by rw [tx_size]; omega) ?_)
      rw [Int.toNat_natCast, tx_size, x2]
      refine nn.bind ?_
      by_cases h : (readR p).2 = true
      · exact ev_pos h (ev_now (by simp [h]))
      · exact ev_neg h (ev_now (by simp [h]))
    · simp only
      by_cases h : (readR p).2 = true
      · by_cases h2 : (numF q).2 = true
        · simp [h, h2]
        · simp [h, h2]
      · simp [h]
theorem specZRead_ev (l : List UInt8) (hl : l.length ≤ 1048576) : Ev (fun k => spec_ZRead.f k (tx l)) (readZ l) := by
  unfold spec_ZRead.f readZ
  simp only [Option.bind_some]
  have ht : (tx l).toList = l := by rw [Lib.toList_data]; exact tx_toList l
  rw [ht, tx_size]
  by_cases h0 : l = []
  · rw [if_pos h0]
    exact ev_pos h0 (ev_now rfl)
  rw [if_neg h0]
  refine ev_neg h0 ?_
  by_cases h1 : l.length > 9000
  · rw [if_pos h1]
    exact ev_pos (by omega) (ev_now rfl)
  rw [if_neg h1]
  refine ev_neg (by omega) ((l12Cut_ev l 32 (by omega)).bind ?_)
  have hm := cutG_many 32 l []
  have hp := cutG_len 32 l []
  generalize cutG 32 [] l = ps at hm hp
  have go : ∀ (d i : Nat) (acc : List S53), i + d = ps.length → acc.length ≤ i → (∀ x ∈ acc, x.f0.length ≤ 6) →
      Ev (fun k => spec_ZRead.l0 k acc (ps.map tx) (i : Int)) (match itemsF (ps.drop i) with | some z => (if okZ (acc ++ z) = true then (acc ++ z, true) else ([], false)) | none => ([], false)) := by
    intro d
    induction d with
    | zero =>
      intro i acc hi ha hs
      rw [drop_end ps i (by omega)]
      simp only [itemsF, List.append_nil]
      refine Ev.step (fun k => spec_ZRead.l0.eq_2 ..) (ev_neg (by rw [List.length_map]; omega) ((specZOk_ev acc ⟨by omega, fun x hx => by have := hs x hx; omega⟩).bind ?_))
      by_cases hk : okZ acc = true
      · exact ev_pos hk (ev_now (by rw [if_pos hk]))
      · exact ev_neg hk (ev_now (by rw [if_neg hk]))
    | succ d ih =>
      intro i acc hi ha hs
      have hil : i < ps.length := by omega
      have hpl := hp _ (List.getElem_mem hil)
      have hrd : rdOf ByteArray.empty (ps.map tx) (i : Int) = tx ps[i] := by
        unfold rdOf
        rw [Int.toNat_natCast, List.getD_eq_getElem?_getD, List.getElem?_map, List.getElem?_eq_getElem hil]
        rfl
      refine Ev.step (fun k => spec_ZRead.l0.eq_2 ..) (ev_pos (by rw [List.length_map]; omega) (ev_pos (by omega) ?_))
      rw [hrd, List.drop_eq_getElem_cons hil, itemsF]
      obtain ⟨r, n, b, h1, h2, h3⟩ := l2One_ev ps[i] (by simp at hpl; omega)
      refine h1.bind ?_
      cases b with
      | false =>
        rw [h2]
        exact ev_neg (by simp) (ev_now rfl)
      | true =>
        rw [h2, if_pos rfl]
        refine ev_pos rfl (ev_pos (by omega) ?_)
        rw [w64n (by omega)]
        have := ih (i + 1) (acc ++ [⟨r, n⟩]) (by omega) (by simp; omega) (fun x hx => by
          rcases List.mem_append.1 hx with h | h
          · exact hs x h
          · rcases List.mem_singleton.1 h with rfl; exact h3)
        cases hq : itemsF (ps.drop (i + 1)) with
        | none => rw [hq] at this; exact this
        | some z =>
          rw [hq] at this
          simp only [List.append_assoc, List.singleton_append] at this
          exact this
  have := go ps.length 0 [] (by omega) (Nat.le_refl _) (by simp)
  simpa using this

theorem itoa_some (x : Int) (h : okI x = true) : strconv_Itoa.f x = some (tx (Lib.itoa x)) := by
  unfold strconv_Itoa.f
  rw [if_pos h]
  rfl
theorem implZText_ev (l : List S53) (hs : Small l) (h : OkI l) : Ev (fun k => impl_ZText.f k l) (tx (textZ l)) := by
  have hlen := hs.len
  have hall := textZ_len l hs.row h
  unfold impl_ZText.f
  have go : ∀ (d i : Nat), i + d = l.length → Ev (fun k => impl_ZText.l0 k ((l.take i).map (fun x => tx (itemB x))) l (l.length : Int) (i : Int)) (tx (textZ l)) := by
    intro d
    induction d with
    | zero =>
      intro i hi
      obtain rfl : i = l.length := by omega
      refine Ev.step (fun k => impl_ZText.l0.eq_2 ..) (ev_neg (by omega) ?_)
      have hj : joinF (l.map (fun x => tx (itemB x))) ⟨#[32]⟩ = textZ l := by
        unfold joinF
        rw [List.map_map, ← textZ_join]
        congr 1
      have : strings_Join.f (l.map (fun x => tx (itemB x))) ⟨#[32]⟩ = some (tx (textZ l)) := by
        unfold strings_Join.f
        rw [hj, if_pos (by rw [List.length_map]; omega), if_pos (by omega)]
        rfl
      rw [List.take_length]
      exact ev_eq this (ev_now rfl)
    | succ d ih =>
      intro i hi
      have hil : i < l.length := by omega
      have hm := List.getElem_mem hil
      have hx := h l[i] hm
      have hx1 := okI_iff.1 hx.2
      have hrow := hs.row _ hm
      have h2 := rowB_len l[i].f0 hx.1
      have h3 := Lib.itoa_length_le l[i].f1 hx1.1 hx1.2
      have ih' := ih (i + 1) (by omega)
      rw [List.take_succ_eq_append_getElem hil, List.map_append, List.map_cons, List.map_nil] at ih'
      refine Ev.step (fun k => impl_ZText.l0.eq_2 ..) (ev_pos (by omega) (ev_pos (by omega) (ev_pos (by omega) ?_)))
      rw [rdI_at l i hil, w64n (by omega), show (⟨#[42]⟩ : ByteArray) = tx [42] from rfl]
      refine ev_eq (implRowText_ev l[i].f0 hrow hx.1) (ev_pos (by rw [tx_size]; omega) (ev_eq (itoa_some l[i].f1 hx.2) ?_))
      rw [tx_append, tx_append]
      refine ev_pos (by simp only [tx_size, List.length_append, List.length_cons, List.length_nil]; omega) (ev_pos (by rw [List.length_map, List.length_take]; omega) ?_)
      simpa [itemB, List.append_assoc] using ih'
  exact go l.length 0 (by omega)

theorem cmpInt (a b : Int) : cmp_Compare_int.f a b = some (if a < b then -1 else if b < a then 1 else 0) := by
  unfold cmp_Compare_int.f cmp_isNaN_int.f
  simp only [bne_self_eq_false, Option.bind_some, Bool.false_eq_true, if_false]
  by_cases h1 : a < b
  · rw [if_pos h1, if_pos h1]
  · rw [if_neg h1, if_neg h1]
    by_cases h2 : b < a
    · rw [if_pos h2, if_pos h2]
    · rw [if_neg h2, if_neg h2]
theorem compare_ev (a b : List Int) (ha : a.length < 4611686018427387904) : Ev (fun k => slices_Compare_int_int.f k a b) (lexc a b) := by
  unfold slices_Compare_int_int.f
  have h := ev_down (fun k i => slices_Compare_int_int.l0 k a b a (a.length : Int) (i : Int)) (fun i => lexc (a.drop i) (b.drop i)) (min a.length b.length) ?_ ?_ 0 (by omega)
  · simpa using h
  · by_cases hb : a.length ≤ b.length
    · rw [Nat.min_eq_left hb]
      refine Ev.step (fun k => slices_Compare_int_int.l0.eq_2 ..) (ev_neg (by omega) ?_)
      rw [drop_end a _ (Nat.le_refl _)]
      by_cases h1 : a.length < b.length
      · refine ev_pos (by omega) (ev_now ?_)
        rw [drop_rd b _ h1]; rfl
      · refine ev_neg (by omega) (ev_now ?_)
        rw [drop_end b _ (by omega)]; rfl
    · rw [Nat.min_eq_right (by omega)]
      refine Ev.step (fun k => slices_Compare_int_int.l0.eq_2 ..) (ev_pos (by omega) (ev_pos (by omega) (ev_pos (by omega) (ev_pos (by omega) (ev_now ?_)))))
      rw [drop_end b _ (Nat.le_refl _), drop_rd a _ (by omega)]; rfl
  · intro i hi ih
    have h1 : i < a.length := by omega
    have h2 : i < b.length := by omega
    refine Ev.step (fun k => slices_Compare_int_int.l0.eq_2 ..) (ev_pos (by omega) (ev_pos (by omega) (ev_pos (by omega) (ev_neg (by omega) (ev_pos (by omega) (ev_eq (cmpInt _ _) ?_))))))
    rw [drop_rd a i h1, drop_rd b i h2]
    simp only [lexc]
    by_cases c1 : rd a i < rd b i
    · rw [if_pos c1]
      exact ev_neg (by decide) (ev_now (by rw [if_pos c1]))
    · rw [if_neg c1, if_neg c1]
      by_cases c2 : rd b i < rd a i
      · rw [if_pos c2]
        exact ev_neg (by decide) (ev_now (by rw [if_pos c2]))
      · rw [if_neg c2, if_neg c2]
        refine ev_pos rfl ?_
        rw [w64n (by omega)]
        exact ih

theorem implLess_ev (a b : List Int) (ha : a.length < 4611686018427387904) : Ev (fun k => impl_RowLess.f k a b) (decide (lexc a b < 0)) := by
  unfold impl_RowLess.f
  exact (compare_ev a b ha).bind (ev_now rfl)

theorem implZOk_ev (z : List S53) (hs : Small z) : Ev (fun k => impl_ZOk.f k z) (okZ z) := by
  have hz := hs.len
  unfold impl_ZOk.f okZ
  by_cases hl : (z.length : Int) > 100
  · exact ev_pos hl (ev_now (by rw [decide_eq_false (by omega)]; rfl))
  refine ev_neg hl ?_
  rw [decide_eq_true (by omega : z.length ≤ 100), Bool.true_and]
  have h := ev_down (fun k i => impl_ZOk.l0 k z z (z.length : Int) (i : Int)) (fun i => chain (ahead z i) (z.drop i)) z.length ?_ ?_ 0 (by omega)
  · simpa [ahead] using h
  · refine Ev.step (fun k => impl_ZOk.l0.eq_2 ..) (ev_neg (by omega) (ev_now ?_))
    rw [drop_end z _ (Nat.le_refl _), chain_nil]
  · intro i hi ih
    have hr := hs.row _ (List.getElem_mem hi)
    refine Ev.step (fun k => impl_ZOk.l0.eq_2 ..) (ev_pos (by omega) (ev_pos (by omega) (ev_pos (by omega) ?_)))
    rw [rdI_at z i hi, drop_at z i hi, chain_cons]
    refine (implRowOk_ev z[i].f0 (by omega)).bind ?_
    cases hok : okRow z[i].f0 with
    | false => exact ev_neg (by simp) (ev_now (by simp))
    | true =>
      refine ev_pos rfl ?_
      by_cases w1 : z[i].f1 < -10000
      · exact ev_pos w1 (ev_now (by unfold okW; simp; omega))
      refine ev_neg w1 ?_
      by_cases w2 : z[i].f1 > 10000
      · exact ev_pos w2 (ev_now (by unfold okW; simp; omega))
      refine ev_neg w2 ?_
      by_cases w3 : z[i].f1 = 0
      · exact ev_pos w3 (ev_now (by unfold okW; simp [w3]))
      refine ev_neg w3 ?_
      have hw : okW z[i].f1 = true := by unfold okW; simp [w3]; omega
      rw [hw]
      rw [w64n (by omega)]
      rw [ahead_succ z i hi] at ih
      by_cases h0 : (i : Int) > 0
      · have hi1 : i - 1 < z.length := by omega
        have e : wrap64 ((i : Int) - 1) = ((i - 1 : Nat) : Int) := by rw [w64 (by omega) (by omega)]; omega
        have ha : ahead z i = some z[i - 1].f0 := by unfold ahead; rw [if_neg (by omega), List.getElem?_eq_getElem hi1]; rfl
        have hr1 := hs.row _ (List.getElem_mem hi1)
        rw [e]
        refine ev_pos h0 (ev_pos (by omega) (ev_pos (by omega) ?_))
        rw [rdI_at z (i - 1) hi1, ha]
        refine (implLess_ev z[i - 1].f0 z[i].f0 (by omega)).bind ?_
        by_cases hl : lexc z[i - 1].f0 z[i].f0 < 0
        · refine ev_pos (decide_eq_true hl) ?_
          simpa [hl] using ih
        · exact ev_neg (by simpa using hl) (ev_now (by simp [hl]))
      · have ha : ahead z i = none := by unfold ahead; rw [if_pos (by omega)]
        rw [ha]
        refine ev_neg h0 ?_
        simpa using ih

theorem idx (c : UInt8) : ∀ l : List UInt8, (Lib.indexByte l c = -1 ∧ ∀ x ∈ l, x ≠ c) ∨ ∃ p q, l = p ++ c :: q ∧ (∀ x ∈ p, x ≠ c) ∧ Lib.indexByte l c = p.length := by
  intro l
  induction l with
  | nil => exact .inl ⟨rfl, by simp⟩
  | cons x l ih =>
    by_cases h : x = c
    · subst h
      refine .inr ⟨[], l, rfl, by simp, ?_⟩
      unfold Lib.indexByte
      simp
    · have hx : (x == c) = false := by simpa using h
      rcases ih with ⟨h1, h2⟩ | ⟨p, q, h1, h2, h3⟩
      · refine .inl ⟨?_, fun y hy => by rcases List.mem_cons.1 hy with rfl | hy; exact h; exact h2 y hy⟩
        unfold Lib.indexByte
        simp [hx, h1]
      · refine .inr ⟨x :: p, q, by rw [h1]; rfl, fun y hy => by rcases List.mem_cons.1 hy with rfl | hy; exact h; exact h2 y hy, ?_⟩
        unfold Lib.indexByte
        simp [hx, h3]
        try omega
theorem indexB_tx (l : List UInt8) (c : UInt8) : Lib.indexB (tx l) (tx [c]) = Lib.indexByte l c := by
  show Lib.index (tx l).data.toList (tx [c]).data.toList = _
  rw [tx_toList, tx_toList, Lib.index_one]
theorem split_tx (c : UInt8) : ∀ (n : Nat) (l : List UInt8), l.length ≤ n → Lib.splitB (tx [c]) 0 (Lib.countB (tx l) (tx [c])) (tx l) = (cutG c [] l).map tx ∧ (cutG c [] l).length = Lib.countB (tx l) (tx [c]) + 1 := by
  intro n
  induction n with
  | zero =>
    intro l hl
    have : l = [] := List.eq_nil_of_length_eq_zero (by omega)
    subst this
    have hi : Lib.indexB (tx []) (tx [c]) = -1 := by rw [indexB_tx]; rfl
    rw [Lib.countB_miss _ _ hi]
    exact ⟨rfl, rfl⟩
  | succ n ih =>
    intro l hl
    rcases idx c l with ⟨h1, h2⟩ | ⟨p, q, h1, h2, h3⟩
    · have hi : Lib.indexB (tx l) (tx [c]) = -1 := by rw [indexB_tx, h1]
      have hc : cutG c [] l = [l] := by
        have := cutG_skip c l [] [] h2
        rw [List.append_nil] at this
        rw [this]
        rfl
      rw [Lib.countB_miss _ _ hi, hc]
      exact ⟨rfl, rfl⟩
    · have hi : Lib.indexB (tx l) (tx [c]) = (p.length : Nat) := by rw [indexB_tx, h3]
      have hc : cutG c [] l = p :: cutG c [] q := by
        rw [h1, cutG_skip c p _ _ h2, List.nil_append, cutG, if_pos rfl]
      have hll : l.length = p.length + (q.length + 1) := by rw [h1, List.length_append, List.length_cons]
      have x1 : (tx l).extract 0 (p.length + 0) = tx p := by
        rw [tx_extract, List.drop_zero, Nat.sub_zero, Nat.add_zero, h1, List.take_left]
      have hs1 : (tx [c]).size = 1 := rfl
      have x2 : (tx l).extract (p.length + (tx [c]).size) (tx l).size = tx q := by
        rw [tx_extract, hs1, tx_size, hll, h1, show p.length + (q.length + 1) - (p.length + 1) = q.length by omega, ← List.drop_drop, List.drop_left, List.drop_one, List.tail_cons, List.take_length]
      obtain ⟨i1, i2⟩ := ih q (by omega)
      rw [Lib.countB_hit (tx l) (tx [c]) p.length (by rw [hs1]; omega) hi, x2, Nat.add_comm 1, Lib.splitB_hit _ _ _ _ p.length hi, x1, x2, i1, hc]
      exact ⟨rfl, by rw [List.length_cons, i2]⟩
theorem split_some (l : List UInt8) (hl : l.length ≤ 9000) : strings_Split.f (tx l) ⟨#[32]⟩ = some ((cutG 32 [] l).map tx) := by
  have e : (⟨#[32]⟩ : ByteArray) = tx [32] := rfl
  obtain ⟨h1, h2⟩ := split_tx 32 l.length l (Nat.le_refl _)
  have hm := cutG_many 32 l []
  unfold strings_Split.f splitF
  rw [e, tx_size, h1, if_pos (by omega), if_pos (by decide), if_pos (by rw [List.length_map, h2]), if_pos (by omega)]
/-- strings.Cut at a star -/
def cutI (w : List UInt8) : List UInt8 × List UInt8 := match cutW w with | some z => z | none => (w, [])
theorem cut_some (w : List UInt8) (hw : w.length ≤ 100000) : ∃ b : Bool, strings_Cut.f (tx w) ⟨#[42]⟩ = some (tx (cutI w).1, tx (cutI w).2, b) := by
  have e : (⟨#[42]⟩ : ByteArray) = tx [42] := rfl
  unfold strings_Cut.f cutF cutI
  rw [e, if_pos (by rw [tx_size]; omega)]
  rcases idx 42 w with ⟨h1, h2⟩ | ⟨p, q, h1, h2, h3⟩
  · have hi : Lib.indexB (tx w) (tx [42]) = -1 := by rw [indexB_tx, h1]
    obtain ⟨c1, c2, c3⟩ := Lib.cutB_miss _ _ hi
    rw [c1, c2, c3]
    have hc : cutW w = none := by
      cases hcw : cutW w with
      | none => rfl
      | some z =>
        obtain ⟨e1, -⟩ := cutW_some w z.1 z.2 hcw
        exact absurd rfl (h2 42 (by rw [e1]; simp))
    rw [hc]
    exact ⟨_, rfl⟩
  · have hi : Lib.indexB (tx w) (tx [42]) = (p.length : Nat) := by rw [indexB_tx, h3]
    obtain ⟨c1, c2, c3⟩ := Lib.cutB_hit _ _ p.length hi
    have hs1 : (tx [42]).size = 1 := rfl
    have hll : w.length = p.length + (q.length + 1) := by rw [h1, List.length_append, List.length_cons]
    have x1 : (tx w).extract 0 p.length = tx p := by
      rw [tx_extract, List.drop_zero, Nat.sub_zero, h1, List.take_left]
    have x2 : (tx w).extract (p.length + (tx [42]).size) (tx w).size = tx q := by
      rw [tx_extract, hs1, tx_size, hll, h1, show p.length + (q.length + 1) - (p.length + 1) = q.length by omega, ← List.drop_drop, List.drop_left, List.drop_one, List.tail_cons, List.take_length]
    rw [c1, c2, c3, x1, x2, show cutW w = some (p, q) by rw [h1]; exact cutW_of p q h2]
    exact ⟨_, rfl⟩
/-- what the program's loop reads -/
def goI : List S53 → List (List UInt8) → Option (List S53)
  | acc, [] => some acc
  | acc, w :: ws => if (readR (cutI w).1).2 = true then (match Lib.atoiAll (cutI w).2 with | .ok v => goI (acc ++ [⟨(readR (cutI w).1).1, v⟩]) ws | _ => none) else none
theorem goI_of : ∀ (ws : List (List UInt8)) (acc z : List S53), itemsF ws = some z → goI acc ws = some (acc ++ z) := by
  intro ws
  induction ws with
  | nil => intro acc z h; simp [itemsF] at h; subst h; simp [goI]
  | cons w ws ih =>
    intro acc z h
    rw [itemsF] at h
    cases hr : readI w with
    | none => rw [hr] at h; cases h
    | some x =>
      rw [hr] at h
      obtain ⟨z1, h1, rfl⟩ := Option.map_eq_some_iff.1 h
      obtain ⟨s1, s2⟩ := readI_sound hr
      have hc : cutI w = (rowB x.f0, Lib.itoa x.f1) := by
        unfold cutI
        rw [s1]
        unfold itemB
        rw [cutW_of _ _ (rowB_no x.f0 42 (by decide))]
      rw [goI, hc]
      simp only
      rw [readR_rowB x.f0 (fun y hy => by have := (okRow_mem s2.1).2.2 y hy; omega), if_pos s2.1, if_pos rfl, atoi_itoa s2.2.1 s2.2.2]
      simp only
      rw [ih _ _ h1, List.append_assoc]
      rfl
theorem atoi_f (q : List UInt8) (hq : q.length ≤ 100000) : ∃ (v : Int) (o : Option Int), strconv_Atoi.f (tx q) = some (v, o) ∧ (o.isNone = true → Lib.atoiAll q = .ok v) ∧ (¬ o.isNone = true → ∀ u, Lib.atoiAll q ≠ .ok u) := by
  unfold strconv_Atoi.f
  rw [if_pos (by rw [tx_size]; omega), tx_toList]
  cases Lib.atoiAll q with
  | ok v => exact ⟨v, none, rfl, fun _ => rfl, fun h => absurd rfl h⟩
  | range => exact ⟨_, some 0, rfl, fun h => (by cases h), fun _ u e => (by cases e)⟩
  | _ => exact ⟨_, some 0, rfl, fun h => (by cases h), fun _ u e => (by cases e)⟩
theorem implZRead_ev (l : List UInt8) : Ev (fun k => impl_ZRead.f k (tx l)) (readZ l) := by
  unfold impl_ZRead.f
  have ht : (tx l).toList = l := by rw [Lib.toList_data]; exact tx_toList l
  rw [ht, tx_size]
  by_cases h1 : l.length > 9000
  · refine ev_pos (by omega) (ev_now ?_)
    unfold readZ
    rw [if_neg (by intro e; subst e; simp at h1), if_pos h1]
  refine ev_neg (by omega) ?_
  by_cases h0 : l = []
  · refine ev_pos h0 (ev_now ?_)
    unfold readZ
    rw [if_pos h0]
  refine ev_neg h0 (ev_eq (split_some l (by omega)) ?_)
  have hm := cutG_many 32 l []
  have hp := cutG_len 32 l []
  have key : readZ l = (match goI [] (cutG 32 [] l) with | some z => (if okZ z = true then (if textZ z = l then (z, true) else ([], false)) else ([], false)) | none => ([], false)) := by
    unfold readZ
    rw [if_neg h0, if_neg h1]
    cases hs : itemsF (cutG 32 [] l) with
    | some z =>
      have := goI_of _ [] _ hs
      rw [List.nil_append] at this
      rw [this]
      simp only
      rw [itemsF_text hs, if_pos rfl]
    | none =>
      cases hg : goI [] (cutG 32 [] l) with
      | none => rfl
      | some z =>
        simp only
        by_cases hk : okZ z = true
        · rw [if_pos hk, if_neg]
          intro e
          cases z with
          | nil => exact h0 e.symm
          | cons x z =>
            rw [← e, cutZ, itemsF_map _ (okZ_good hk)] at hs
            cases hs
        · rw [if_neg hk]
  rw [key]
  clear key
  generalize cutG 32 [] l = ps at hm hp
  rw [List.length_map]
  have go : ∀ (d i : Nat) (acc : List S53), i + d = ps.length → acc.length ≤ i → (∀ x ∈ acc, x.f0.length ≤ 6) →
      Ev (fun k => impl_ZRead.l0 k (tx l) acc (ps.map tx) (ps.length : Int) (i : Int)) (match goI acc (ps.drop i) with | some z => (if okZ z = true then (if textZ z = l then (z, true) else ([], false)) else ([], false)) | none => ([], false)) := by
    intro d
    induction d with
    | zero =>
      intro i acc hi ha hs
      rw [drop_end ps i (by omega)]
      simp only [goI]
      have sm : Small acc := ⟨by omega, fun x hx => by have := hs x hx; omega⟩
      refine Ev.step (fun k => impl_ZRead.l0.eq_2 ..) (ev_neg (by omega) ((implZOk_ev acc sm).bind ?_))
      by_cases hk : okZ acc = true
      · rw [if_pos hk]
        refine ev_pos hk ((implZText_ev acc sm (good_ok (okZ_good hk))).bind ?_)
        rw [ht, show (tx (textZ acc)).toList = textZ acc by rw [Lib.toList_data]; exact tx_toList _]
        by_cases he : textZ acc = l
        · exact ev_pos he (ev_now (by rw [if_pos he]))
        · exact ev_neg he (ev_now (by rw [if_neg he]))
      · rw [if_neg hk]
        exact ev_neg hk (ev_now rfl)
    | succ d ih =>
      intro i acc hi ha hs
      have hil : i < ps.length := by omega
      have hpl := hp _ (List.getElem_mem hil)
      have hpl2 : ps[i].length ≤ 100000 := by simp at hpl; omega
      have hrd : rdOf ByteArray.empty (ps.map tx) (i : Int) = tx ps[i] := by
        unfold rdOf
        rw [Int.toNat_natCast, List.getD_eq_getElem?_getD, List.getElem?_map, List.getElem?_eq_getElem hil]
        rfl
      obtain ⟨b, hcut⟩ := cut_some ps[i] hpl2
      have hq : (cutI ps[i]).2.length ≤ 100000 := by
        unfold cutI
        cases hcw : cutW ps[i] with
        | none => simp
        | some z =>
          have := (cutW_some _ z.1 z.2 hcw).1
          have := congrArg List.length this
          rw [List.length_append, List.length_cons] at this
          simp only
          omega
      obtain ⟨v, o, ha1, ha2, ha3⟩ := atoi_f (cutI ps[i]).2 hq
      refine Ev.step (fun k => impl_ZRead.l0.eq_2 ..) (ev_pos (by omega) (ev_pos (by omega) (ev_pos (by rw [List.length_map]; omega) ?_)))
      rw [hrd, List.drop_eq_getElem_cons hil, goI]
      refine ev_eq hcut ((implRead_ev (cutI ps[i]).1).bind (ev_eq ha1 ?_))
      by_cases hr : (readR (cutI ps[i]).1).2 = true
      · rw [if_pos hr]
        refine ev_pos hr ?_
        by_cases ho : o.isNone = true
        · rw [ha2 ho]
          refine ev_pos ho (ev_pos (by omega) ?_)
          rw [w64n (by omega)]
          exact ih (i + 1) _ (by omega) (by simp; omega) (fun x hx => by
            rcases List.mem_append.1 hx with h | h
            · exact hs x h
            · rcases List.mem_singleton.1 h with rfl; exact readR_len _)
        · have := ha3 ho
          cases hat : Lib.atoiAll (cutI ps[i]).2 with
          | ok u => exact absurd hat (this u)
          | range => exact ev_neg ho (ev_now rfl)
          | _ => exact ev_neg ho (ev_now rfl)
      · rw [if_neg hr]
        exact ev_neg hr (ev_now rfl)
  have := go ps.length 0 [] (by omega) (Nat.le_refl _) (by simp)
  rw [List.drop_zero] at this
  exact this

/-- numbers counted up from k -/
def marked (k : Int) : Nat → List Int
  | 0 => []
  | n + 1 => k :: marked (k + 1) n
theorem marked_length : ∀ (n : Nat) (k : Int), (marked k n).length = n
  | 0, _ => rfl
  | n + 1, k => by rw [marked, List.length_cons, marked_length n]
theorem marked_snoc : ∀ (n : Nat) (k : Int), marked k (n + 1) = marked k n ++ [k + n]
  | 0, k => by simp [marked]
  | n + 1, k => by
    rw [marked, marked_snoc n (k + 1), marked, List.cons_append]
    congr 2
    simp; omega
theorem markInts_ev (l : List Int) (k0 : Int) (h0 : 0 ≤ k0) (h1 : k0 + l.length ≤ 4611686018427387904) : Ev (fun k => laws_markIntS.f k l k0) (k0 + l.length, marked k0 l.length) := by
  unfold laws_markIntS.f
  have h := ev_down (fun k i => laws_markIntS.l0 k (marked k0 i ++ l.drop i) (k0 + i) (i : Int)) (fun _ => (k0 + l.length, marked k0 l.length)) l.length ?_ ?_ 0 (by omega)
  · simpa [marked] using h
  · refine Ev.step (fun k => laws_markIntS.l0.eq_2 ..) (ev_neg (by simp [marked_length]) (ev_now ?_))
    rw [drop_end l _ (Nat.le_refl _), List.append_nil]
  · intro i hi ih
    refine Ev.step (fun k => laws_markIntS.l0.eq_2 ..) (ev_pos (by simp [marked_length]; omega) (ev_pos (by omega) ?_))
    rw [w64n (by omega), w64 (by omega) (by omega), drop_rd l i hi, Int.toNat_natCast, List.set_append_right _ _ (by rw [marked_length]; omega), marked_length, Nat.sub_self, List.set_cons_zero]
    have e : marked k0 i ++ (k0 + (i : Int)) :: l.drop (i + 1) = marked k0 (i + 1) ++ l.drop (i + 1) := by rw [marked_snoc, List.append_assoc]; rfl
    have e2 : k0 + (i : Int) + 1 = k0 + ((i + 1 : Nat) : Int) := by omega
    rw [e, e2]
    exact ih
theorem rd_marked : ∀ (n i : Nat) (k : Int), i < n → rd (marked k n) (i : Int) = k + i := by
  intro n
  induction n with
  | zero => intro i k h; omega
  | succ n ih =>
    intro i k h
    cases i with
    | zero => show k = k + ((0 : Nat) : Int); omega
    | succ i =>
      have := ih i (k + 1) (by omega)
      rw [rd_nat] at this ⊢
      rw [marked, List.getD_cons_succ, this]
      omega
theorem heldInts_ev (n : Nat) (k0 : Int) (h0 : 0 ≤ k0) (h1 : k0 + n ≤ 4611686018427387904) : Ev (fun k => laws_heldIntS.f k (marked k0 n) k0) (k0 + n) := by
  unfold laws_heldIntS.f
  have h := ev_down (fun k i => laws_heldIntS.l0 k (marked k0 n) (k0 + i) (i : Int)) (fun _ => k0 + n) n ?_ ?_ 0 (by omega)
  · simpa using h
  · exact Ev.step (fun k => laws_heldIntS.l0.eq_2 ..) (ev_neg (by simp [marked_length]) (ev_now rfl))
  · intro i hi ih
    refine Ev.step (fun k => laws_heldIntS.l0.eq_2 ..) (ev_pos (by simp [marked_length]; omega) (ev_pos (by omega) (ev_pos (rd_marked n i k0 hi) ?_)))
    have e2 : k0 + (i : Int) + 1 = k0 + ((i + 1 : Nat) : Int) := by omega
    rw [w64n (by omega), w64 (by omega) (by omega), e2]
    exact ih

def markZ : List S53 → Int → List S53
  | [], _ => []
  | x :: z, k => ⟨marked k x.f0.length, k + x.f0.length⟩ :: markZ z (k + x.f0.length + 1)
def endZ : List S53 → Int → Int
  | [], k => k
  | x :: z, k => endZ z (k + x.f0.length + 1)
theorem endZ_ge : ∀ (z : List S53) (k : Int), k ≤ endZ z k := by
  intro z
  induction z with
  | nil => intro k; exact Int.le_refl _
  | cons x z ih => intro k; have := ih (k + x.f0.length + 1); unfold endZ; omega
theorem endZ_le : ∀ (z : List S53) (k : Int), (∀ x ∈ z, x.f0.length ≤ 1048576) → endZ z k ≤ k + z.length * 1048577 := by
  intro z
  induction z with
  | nil => intro k _; simp [endZ]
  | cons x z ih =>
    intro k h
    have hx := h x List.mem_cons_self
    have := ih (k + x.f0.length + 1) (fun y hy => h y (List.mem_cons_of_mem _ hy))
    unfold endZ
    simp only [List.length_cons]
    omega
theorem set_mid {α : Type} (p : List α) (x y : α) (z : List α) : (p ++ x :: z).set p.length y = (p ++ [y]) ++ z := by
  rw [List.set_append_right _ _ (Nat.le_refl _), Nat.sub_self, List.set_cons_zero, List.append_assoc]; rfl
theorem rd_mid (p : List S53) (x : S53) (z : List S53) : rd_T53 (p ++ x :: z) (p.length : Int) = x := by
  rw [rdI_at _ p.length (by simp)]; simp
theorem markItems_go : ∀ (z p : List S53) (a : Int), 0 ≤ a → (p ++ z).length ≤ 1048576 → a + z.length * 1048577 ≤ 4611686018427387904 → (∀ x ∈ z, x.f0.length ≤ 1048576) → Ev (fun k => laws_markItemS.l0 k (p ++ z) a (p.length : Int)) (endZ z a, p ++ markZ z a) := by
  intro z
  induction z with
  | nil => intro p a _ _ _ _; exact Ev.step (fun k => laws_markItemS.l0.eq_2 ..) (ev_neg (by simp) (ev_now (by simp [endZ, markZ])))
  | cons x z ih =>
    intro p a h0 hl h1 hr
    have hx := hr x List.mem_cons_self
    simp only [List.length_append, List.length_cons] at hl h1
    refine Ev.step (fun k => laws_markItemS.l0.eq_2 ..) (ev_pos (by simp; omega) (ev_pos (by omega) ?_))
    rw [rd_mid]
    refine (markInts_ev x.f0 a h0 (by omega)).bind ?_
    dsimp only
    rw [Int.toNat_natCast, set_mid, w64 (x := a + x.f0.length + 1) (by omega) (by omega), w64n (by omega)]
    have := ih (p ++ [⟨marked a x.f0.length, a + x.f0.length⟩]) (a + x.f0.length + 1) (by omega) (by simp; omega) (by omega) (fun y hy => hr y (List.mem_cons_of_mem _ hy))
    rw [show ((p ++ [(⟨marked a x.f0.length, a + x.f0.length⟩ : S53)]).length : Int) = ((p.length + 1 : Nat) : Int) by simp] at this
    rw [endZ, markZ, show p ++ (⟨marked a x.f0.length, a + x.f0.length⟩ : S53) :: markZ z (a + x.f0.length + 1) = (p ++ [⟨marked a x.f0.length, a + x.f0.length⟩]) ++ markZ z (a + x.f0.length + 1) by simp]
    exact this
theorem heldItems_go : ∀ (z p : List S53) (a : Int), 0 ≤ a → (p ++ z).length ≤ 1048576 → a + z.length * 1048577 ≤ 4611686018427387904 → (∀ x ∈ z, x.f0.length ≤ 1048576) → Ev (fun k => laws_heldItemS.l0 k (p ++ markZ z a) a (p.length : Int)) (endZ z a) := by
  intro z
  induction z with
  | nil => intro p a _ _ _ _; exact Ev.step (fun k => laws_heldItemS.l0.eq_2 ..) (ev_neg (by simp [markZ]) (ev_now (by simp [endZ])))
  | cons x z ih =>
    intro p a h0 hl h1 hr
    have hx := hr x List.mem_cons_self
    simp only [List.length_append, List.length_cons] at hl h1
    rw [markZ]
    refine Ev.step (fun k => laws_heldItemS.l0.eq_2 ..) (ev_pos (by simp; omega) (ev_pos (by omega) ?_))
    rw [rd_mid]
    refine (heldInts_ev x.f0.length a h0 (by omega)).bind (ev_neg (by omega) (ev_pos rfl ?_))
    rw [w64 (x := a + x.f0.length + 1) (by omega) (by omega), w64n (by omega)]
    have := ih (p ++ [⟨marked a x.f0.length, a + x.f0.length⟩]) (a + x.f0.length + 1) (by omega) (by simp; omega) (by omega) (fun y hy => hr y (List.mem_cons_of_mem _ hy))
    rw [show ((p ++ [(⟨marked a x.f0.length, a + x.f0.length⟩ : S53)]).length : Int) = ((p.length + 1 : Nat) : Int) by simp] at this
    rw [endZ, show p ++ (⟨marked a x.f0.length, a + x.f0.length⟩ : S53) :: markZ z (a + x.f0.length + 1) = (p ++ [⟨marked a x.f0.length, a + x.f0.length⟩]) ++ markZ z (a + x.f0.length + 1) by simp]
    exact this
theorem markItems_ev (z : List S53) (hs : Small z) (a : Int) (h0 : 0 ≤ a) (h1 : a ≤ 1000000000000000) : Ev (fun k => laws_markItemS.f k z a) (endZ z a, markZ z a) := by
  have := hs.len
  have h := markItems_go z [] a h0 (by simpa using this) (by omega) hs.row
  simpa [laws_markItemS.f] using h
theorem heldItems_ev (z : List S53) (hs : Small z) (a : Int) (h0 : 0 ≤ a) (h1 : a ≤ 1000000000000000) : Ev (fun k => laws_heldItemS.f k (markZ z a) a) (endZ z a) := by
  have := hs.len
  have h := heldItems_go z [] a h0 (by simpa using this) (by omega) hs.row
  simpa [laws_heldItemS.f] using h
theorem small_nil : Small ([] : List S53) := ⟨by simp, by simp⟩

theorem FnExactZRead : laws_FnExactZRead.Pure := by
  intro a _
  refine Ev.rounds ?_
  unfold laws_FnExactZRead.f
  by_cases h1 : (a.size : Int) > 1048576
  · exact ev_pos h1 (ev_now rfl)
  refine ev_neg h1 ?_
  have hl : a.data.toList.length = a.size := Array.length_toList
  rw [tx_data a]
  have sp := specZRead_ev a.data.toList (by omega)
  have im := implZRead_ev a.data.toList
  have hg := readZ_small a.data.toList
  generalize readZ a.data.toList = g at sp im hg
  obtain ⟨g, t⟩ := g
  dsimp only at hg
  have sg : Small g := ⟨by omega, fun x hx => by have := hg.2 x hx; omega⟩
  have eg := eqItemS_ev g g sg
  have mk := markItems_ev g sg 1 (by omega) (by omega)
  have hd := heldItems_ev g sg 1 (by omega) (by omega)
  have gg := endZ_ge g 1
  exact sp.bind (im.bind (eg.bind (ev_pos (by simp) (ev_pos rfl (mk.bind (hd.bind (ev_neg (by omega) (ev_pos rfl (im.bind (eg.bind (ev_pos (by simp) (ev_pos rfl (hd.bind (ev_neg (by omega) (ev_pos rfl (ev_now rfl))))))))))))))))

end Go.Proofs.YtgcplipimcbhlaaDoor.Pure
