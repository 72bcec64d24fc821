/- Whatever codes two lists of items are drawn from: their texts, one behind the other with a space between, are read just if the last row of the first is ahead of the first row of the second, and there are not too many; it is both together: the law answers true. No condition beyond what the statement gives (bytes). -/
import Derived.Test.YtgcplipimcbhlaaGreatDoorPFnZReadx13
import Derived.Test.YtgcplipimcbhlaaGreatDoorQ
namespace Go.Proofs.YtgcplipimcbhlaaGreatDoor.Pure
open Go.RowKit Go.Proofs.YtgcplipimcbhlaaGreatDoor.PFnZRead Go.Proofs.YtgcplipimcbhlaaGreatDoorW.PrintWords Go.Proofs.YtgcplipimcbhlaaGreatDoorW.PrintLast Go.Proofs.YtgcplipimcbhlaaGreatDoorW.PrintMore Go.Proofs.YtgcplipimcbhlaaGreatDoor.Q

theorem ext_item {x y : S33} (h0 : x.f0 = y.f0) (h1 : x.f1 = y.f1) : x = y := by cases x; cases y; simp_all
instance decItem : DecidableEq S33 := fun x y => decidable_of_iff (x.f0 = y.f0 ∧ x.f1 = y.f1) ⟨fun h => ext_item h.1 h.2, fun h => by rw [h]; exact ⟨rfl, rfl⟩⟩
theorem item_iff (a b : List Int) (v u : Int) : (⟨a, v⟩ : S33) = ⟨b, u⟩ ↔ (a = b ∧ v = u) := ⟨fun h => by injection h with h1 h2; exact ⟨h1, h2⟩, fun h => by rw [h.1, h.2]⟩
theorem dec_cons {x y : S33} {s u : List S33} (h : x = y) : decide (x :: s = y :: u) = decide (s = u) := by subst h; rw [decide_eq_decide]; simp
theorem dec_cons_ne {x y : S33} {s u : List S33} (h : ¬ x = y) : decide (x :: s = y :: u) = false := by rw [decide_eq_false_iff_not]; intro e; injection e with e1 e2; exact h e1
theorem rdI_at (l : List S33) (i : Nat) (h : i < l.length) : rd_T33 l (i : Int) = l[i] := by
  show l.getD _ _ = _
  rw [Int.toNat_natCast, List.getD_eq_getElem?_getD, List.getElem?_eq_getElem h]; rfl
theorem drop_at {α : Type} (l : List α) (i : Nat) (h : i < l.length) : l.drop i = l[i] :: l.drop (i + 1) := List.drop_eq_getElem_cons h
/-- items no longer than so, their rows too -/
structure Small (l : List S33) : Prop where
  len : l.length ≤ 1048576
  row : ∀ x ∈ l, x.f0.length ≤ 1048576

theorem equal_ev (a b : List Int) (ha : a.length < 4611686018427387904) : Ev (fun k => slices_Equal_int_int.f k a b) (decide (a = b)) := by
  unfold slices_Equal_int_int.f
  by_cases hl : a.length = b.length
  · refine ev_pos (by omega) ?_
    have h := ev_down (fun k i => slices_Equal_int_int.l0 k a b (a.length : Int) (i : Int)) (fun i => decide (a.drop i = b.drop i)) a.length ?_ ?_ 0 (by omega)
    · simpa using h
    · refine Ev.step (fun k => slices_Equal_int_int.l0.eq_2 ..) (ev_neg (by omega) (ev_now ?_))
      rw [drop_end a _ (Nat.le_refl _), drop_end b _ (by omega)]; simp
    · intro i hi ih
      refine Ev.step (fun k => slices_Equal_int_int.l0.eq_2 ..) (ev_pos (by omega) (ev_pos (by omega) (ev_pos (by omega) (ev_pos (by omega) ?_))))
      rw [drop_rd a i hi, drop_rd b i (by omega)]
      by_cases h1 : rd a i = rd b i
      · refine ev_pos h1 ?_
        rw [w64n (by omega)]
        simpa [h1] using ih
      · exact ev_neg h1 (ev_now (by simp [h1]))
  · exact ev_neg (by omega) (ev_now (by symm; rw [decide_eq_false_iff_not]; intro h; exact hl (by rw [h])))

theorem implSame_ev (a b : List Int) (ha : a.length < 4611686018427387904) : Ev (fun k => impl_RowSame.f k a b) (decide (a = b)) := by
  unfold impl_RowSame.f
  exact (equal_ev a b ha).bind (ev_now rfl)

theorem sameItem_ev (x y : S33) (ha : x.f0.length ≤ 1048576) : Ev (fun k => impl_ZSame_1.f k x.f0 x.f1 y.f0 y.f1) (decide (x = y)) := by
  unfold impl_ZSame_1.f
  by_cases h1 : x.f1 = y.f1
  · refine ev_pos h1 ((implSame_ev x.f0 y.f0 (by omega)).bind (ev_now ?_))
    rw [decide_eq_decide]
    exact ⟨fun h => ext_item h h1, fun h => by rw [h]⟩
  · exact ev_neg h1 (ev_now (decide_eq_false (fun e => h1 (by rw [e]))).symm)
theorem implZSame_ev (a b : List S33) (hs : Small a) : Ev (fun k => impl_ZSame.f k a b) (decide (a = b)) := by
  have ha := hs.len
  have main : Ev (fun k => slices_EqualFunc_impl_Item_impl_Item_impl_Item_impl_Item__impl_ZSame_1.f k a b) (decide (a = b)) := by
    unfold slices_EqualFunc_impl_Item_impl_Item_impl_Item_impl_Item__impl_ZSame_1.f
    by_cases hl : a.length = b.length
    · refine ev_pos (by omega) ?_
      have h := ev_down (fun k i => slices_EqualFunc_impl_Item_impl_Item_impl_Item_impl_Item__impl_ZSame_1.l0 k b a (a.length : Int) (i : Int)) (fun i => decide (a.drop i = b.drop i)) a.length ?_ ?_ 0 (by omega)
      · simpa using h
      · refine Ev.step (fun k => slices_EqualFunc_impl_Item_impl_Item_impl_Item_impl_Item__impl_ZSame_1.l0.eq_2 ..) (ev_neg (by omega) (ev_now ?_))
        rw [drop_end a _ (Nat.le_refl _), drop_end b _ (by omega)]; simp
      · intro i hi ih
        have he := sameItem_ev a[i] b[i] (hs.row _ (List.getElem_mem _))
        refine Ev.step (fun k => slices_EqualFunc_impl_Item_impl_Item_impl_Item_impl_Item__impl_ZSame_1.l0.eq_2 ..) (ev_pos (by omega) (ev_pos (by omega) (ev_pos (by omega) (ev_pos (by omega) ?_))))
        rw [rdI_at a i hi, rdI_at b i (by omega)]
        refine he.bind ?_
        rw [drop_at a i hi, drop_at b i (by omega)]
        by_cases h1 : a[i] = b[i]
        · refine ev_pos (decide_eq_true h1) ?_
          rw [w64n (by omega), dec_cons h1]
          exact ih
        · exact ev_neg (by rw [decide_eq_true_iff]; exact h1) (ev_now (dec_cons_ne h1).symm)
    · exact ev_neg (by omega) (ev_now (by symm; rw [decide_eq_false_iff_not]; intro h; exact hl (by rw [h])))
  unfold impl_ZSame.f
  exact main.bind (ev_now rfl)

/-- RowOk -/
def cellB (n : Int) : Bool := decide (-1000000000 ≤ n ∧ n ≤ 1000000000)
def okRow (r : List Int) : Bool := decide (1 ≤ r.length) && decide (r.length ≤ 6) && r.all cellB
theorem specCell (n : Int) : spec_l1Cell.f n = some (cellB n) := by
  unfold spec_l1Cell.f cellB
  by_cases h : n ≥ -1000000000
  · rw [if_pos h]; simp; omega
  · rw [if_neg h]; simp; omega

/-- l1Order -/
def ordL : List Int → List Int → Int → Int
  | [], _, d => d
  | _ :: _, [], d => d
  | a :: x, b :: y, d => if a < b then -1 else if b < a then 1 else ordL x y d

theorem ordL_zero : ∀ a b : List Int, ordL a b ((a.length : Int) - b.length) = 0 ↔ a = b := by
  have go : ∀ (a b : List Int) (d : Int), d = (a.length : Int) - b.length → (ordL a b d = 0 ↔ a = b) := by
    intro a
    induction a with
    | nil => intro b d hd; cases b <;> simp [ordL] at hd ⊢ <;> omega
    | cons x a ih =>
      intro b d hd
      cases b with
      | nil => simp [ordL] at hd ⊢; omega
      | cons y b =>
        have := ih b d (by simp at hd; omega)
        simp only [ordL]
        by_cases h1 : x < y
        · rw [if_pos h1]; simp; omega
        · rw [if_neg h1]
          by_cases h2 : y < x
          · rw [if_pos h2]; simp; omega
          · rw [if_neg h2, this]
            obtain rfl : x = y := by omega
            simp
  exact fun a b => go a b _ rfl

/-- slices.Compare -/
def lexc : List Int → List Int → Int
  | [], [] => 0
  | [], _ :: _ => -1
  | _ :: _, [] => 1
  | a :: x, b :: y => if a < b then -1 else if b < a then 1 else lexc x y
theorem lexc_ordL : ∀ a b : List Int, (ordL a b ((a.length : Int) - b.length) < 0 ↔ lexc a b < 0) := by
  have go : ∀ (a b : List Int) (d : Int), d = (a.length : Int) - b.length → (ordL a b d < 0 ↔ lexc a b < 0) := by
    intro a
    induction a with
    | nil => intro b d hd; cases b <;> simp [ordL, lexc] at hd ⊢ <;> omega
    | cons x a ih =>
      intro b d hd
      cases b with
      | nil => simp [ordL, lexc] at hd ⊢; omega
      | cons y b =>
        have := ih b d (by simp at hd; omega)
        simp only [ordL, lexc]
        by_cases h1 : x < y
        · rw [if_pos h1, if_pos h1]
        · rw [if_neg h1, if_neg h1]
          by_cases h2 : y < x
          · rw [if_pos h2, if_pos h2]
          · rw [if_neg h2, if_neg h2, this]
  exact fun a b => go a b _ rfl

def okW (w : Int) : Bool := decide (w ≠ 0) && (decide (-10000 ≤ w) && decide (w ≤ 10000))
/-- items in order, behind a row -/
def chain : Option (List Int) → List S33 → Bool
  | _, [] => true
  | p, x :: z => okRow x.f0 && (okW x.f1 && ((match p with | none => true | some r => decide (lexc r x.f0 < 0)) && chain (some x.f0) z))
theorem chain_nil (p : Option (List Int)) : chain p [] = true := by cases p <;> rfl
theorem chain_cons (p : Option (List Int)) (x : S33) (z : List S33) : chain p (x :: z) = (okRow x.f0 && (okW x.f1 && ((match p with | none => true | some r => decide (lexc r x.f0 < 0)) && chain (some x.f0) z))) := by cases p <;> rfl
def okZ (z : List S33) : Bool := decide (z.length ≤ 100) && chain none z
/-- the row ahead of a place -/
def ahead (z : List S33) (i : Nat) : Option (List Int) := if i = 0 then none else (z[i - 1]?).map (·.f0)
theorem ahead_succ (z : List S33) (i : Nat) (h : i < z.length) : ahead z (i + 1) = some z[i].f0 := by
  unfold ahead
  rw [if_neg (by omega), Nat.add_sub_cancel, List.getElem?_eq_getElem h]
  rfl

theorem specRowOk_ev (r : List Int) (hr : r.length < 4611686018427387904) : Ev (fun k => spec_RowOk.f k r) (okRow r) := by
  have h := ev_down (fun k i => spec_RowOk.l0 k r (i : Int)) (fun i => (decide (1 ≤ r.length) && decide (r.length ≤ 6)) && (r.drop i).all cellB) r.length ?_ ?_ 0 (by omega)
  · simpa [spec_RowOk.f, okRow] using h
  · refine Ev.step (fun k => spec_RowOk.l0.eq_2 ..) (ev_neg (by omega) ?_)
    rw [drop_end r _ (Nat.le_refl _)]
    by_cases h : 1 ≤ r.length
    · exact ev_pos (by omega) (ev_now (by simp [h]; omega))
    · exact ev_neg (by omega) (ev_now (by simp [h]))
  · intro i hi ih
    refine Ev.step (fun k => spec_RowOk.l0.eq_2 ..) (ev_pos (by omega) (ev_pos (by omega) (ev_eq (specCell _) ?_)))
    rw [drop_rd r i hi, List.all_cons]
    cases hc : cellB (rd r i) with
    | true =>
      refine ev_pos rfl ?_
      rw [w64n (by omega), Bool.true_and]
      exact ih
    | false => exact ev_neg (by decide) (ev_now (by simp))

theorem l1Order_ev (a b : List Int) (ha : a.length < 4611686018427387904) (hb : b.length < 4611686018427387904) : Ev (fun k => spec_l1Order.f k a b) (ordL a b ((a.length : Int) - b.length)) := by
  have h := ev_down (fun k i => spec_l1Order.l0 k a b (i : Int)) (fun i => ordL (a.drop i) (b.drop i) ((a.length : Int) - b.length)) a.length ?_ ?_ 0 (by omega)
  · simpa [spec_l1Order.f] using h
  · refine Ev.step (fun k => spec_l1Order.l0.eq_2 ..) (ev_neg (by omega) (ev_now ?_))
    rw [drop_end a _ (Nat.le_refl _), ordL, w64 (by omega) (by omega)]
  · intro i hi ih
    refine Ev.step (fun k => spec_l1Order.l0.eq_2 ..) (ev_pos (by omega) ?_)
    by_cases hb' : i < b.length
    · rw [drop_rd a i hi, drop_rd b i hb']
      refine ev_pos (by omega) (ev_pos (by omega) ?_)
      by_cases h1 : rd a i < rd b i
      · exact ev_pos h1 (ev_now (by rw [ordL, if_pos h1]))
      · refine ev_neg h1 ?_
        by_cases h2 : rd a i > rd b i
        · exact ev_pos h2 (ev_now (by rw [ordL, if_neg h1, if_pos h2]))
        · refine ev_neg h2 ?_
          rw [w64n (by omega), ordL, if_neg h1, if_neg h2]
          exact ih
    · refine ev_neg (by omega) (ev_now ?_)
      rw [drop_end b i (by omega), w64 (by omega) (by omega)]
      cases a.drop i <;> rfl

theorem specLess_ev (a b : List Int) (ha : a.length < 4611686018427387904) (hb : b.length < 4611686018427387904) : Ev (fun k => spec_RowLess.f k a b) (decide (lexc a b < 0)) := by
  unfold spec_RowLess.f
  refine (l1Order_ev a b ha hb).bind (ev_now ?_)
  rw [decide_eq_decide]
  exact lexc_ordL a b

theorem specW (w : Int) : spec_l2W.f w = some (okW w) := by
  unfold spec_l2W.f okW
  by_cases h : w = 0
  · rw [if_pos h]; simp [h]
  · rw [if_neg h]
    by_cases h1 : w ≥ -10000
    · rw [if_pos h1]; simp [h]; omega
    · rw [if_neg h1]; simp; omega
theorem specZOk_ev (z : List S33) (hs : Small z) : Ev (fun k => spec_ZOk.f k z) (okZ z) := by
  have hz := hs.len
  unfold spec_ZOk.f okZ
  by_cases hl : (z.length : Int) > 100
  · exact ev_pos hl (ev_now (by rw [decide_eq_false (by omega)]; rfl))
  refine ev_neg hl ?_
  rw [decide_eq_true (by omega : z.length ≤ 100), Bool.true_and]
  have h := ev_down (fun k i => spec_ZOk.l0 k z (i : Int)) (fun i => chain (ahead z i) (z.drop i)) z.length ?_ ?_ 0 (by omega)
  · simpa [ahead] using h
  · refine Ev.step (fun k => spec_ZOk.l0.eq_2 ..) (ev_neg (by omega) (ev_now ?_))
    rw [drop_end z _ (Nat.le_refl _), chain_nil]
  · intro i hi ih
    have hr := hs.row _ (List.getElem_mem hi)
    refine Ev.step (fun k => spec_ZOk.l0.eq_2 ..) (ev_pos (by omega) (ev_pos (by omega) ?_))
    rw [rdI_at z i hi, drop_at z i hi, chain_cons]
    refine (specRowOk_ev z[i].f0 (by omega)).bind ?_
    cases hok : okRow z[i].f0 with
    | false => exact ev_neg (by simp) (ev_now (by simp))
    | true =>
      refine ev_pos rfl (ev_eq (specW _) ?_)
      cases hw : okW z[i].f1 with
      | false => exact ev_neg (by simp) (ev_now (by simp))
      | true =>
        refine ev_pos rfl ?_
        rw [w64n (by omega)]
        rw [ahead_succ z i hi] at ih
        by_cases h0 : (i : Int) > 0
        · have hi1 : i - 1 < z.length := by omega
          have e : wrap64 ((i : Int) - 1) = ((i - 1 : Nat) : Int) := by rw [w64 (by omega) (by omega)]; omega
          have ha : ahead z i = some z[i - 1].f0 := by unfold ahead; rw [if_neg (by omega), List.getElem?_eq_getElem hi1]; rfl
          have hr1 := hs.row _ (List.getElem_mem hi1)
          rw [e]
          refine ev_pos h0 (ev_pos (by omega) (ev_pos (by omega) ?_))
          rw [rdI_at z (i - 1) hi1, ha]
          refine (specLess_ev z[i - 1].f0 z[i].f0 (by omega) (by omega)).bind ?_
          by_cases hl : lexc z[i - 1].f0 z[i].f0 < 0
          · refine ev_pos (decide_eq_true hl) ?_
            simpa [hl] using ih
          · exact ev_neg (by simpa using hl) (ev_now (by simp [hl]))
        · have ha : ahead z i = none := by unfold ahead; rw [if_pos (by omega)]
          rw [ha]
          refine ev_neg h0 ?_
          simpa using ih

/-- a text of its bytes -/
def tx (l : List UInt8) : ByteArray := ⟨l.toArray⟩
theorem tx_size (l : List UInt8) : (tx l).size = l.length := rfl
theorem tx_append (a b : List UInt8) : tx a ++ tx b = tx (a ++ b) := by
  apply ByteArray.ext
  show (tx a ++ tx b).data = _
  rw [ByteArray.data_append]
  simp [tx]
theorem tx_inj {a b : List UInt8} (h : tx a = tx b) : a = b := by
  have := congrArg (fun x => x.data.toList) h
  simpa [tx] using this

theorem implRowText_ev (l : List Int) (hl : l.length ≤ 1048576) (h : ∀ x ∈ l, okI x = true) : impl_RowText.f l = some (tx (rowB l)) := by
  unfold impl_RowText.f
  rw [if_pos hl, if_pos (List.all_eq_true.2 h)]
  rfl

/-- an item's text, and the text of items -/
def itemB (x : S33) : List UInt8 := rowB x.f0 ++ 42 :: Lib.itoa x.f1
def tailZ (l : List S33) : List UInt8 := (l.map (fun x => 32 :: itemB x)).flatten
def textZ : List S33 → List UInt8
  | [] => []
  | x :: l => itemB x ++ tailZ l
theorem textZ_snoc (l : List S33) (x : S33) : textZ (l ++ [x]) = textZ l ++ ((if l = [] then [] else [32]) ++ itemB x) := by
  cases l with
  | nil => simp [textZ, tailZ]
  | cons y l => simp [textZ, tailZ, List.append_assoc]
theorem textZ_join : ∀ l : List S33, Lib.join (l.map itemB) [32] = textZ l := by
  intro l
  cases l with
  | nil => rfl
  | cons x l =>
    show List.intercalate [32] ((x :: l).map itemB) = itemB x ++ tailZ l
    induction l generalizing x with
    | nil => simp [tailZ, List.intercalate]
    | cons y l ih =>
      have := ih y
      rw [List.map_cons, List.map_cons] at *
      unfold List.intercalate at *
      rw [List.intersperse_cons_cons, List.flatten_cons, List.flatten_cons, this]
      simp [tailZ]
/-- items whose numbers are numbers -/
def OkI (l : List S33) : Prop := ∀ x ∈ l, (∀ y ∈ x.f0, okI y = true) ∧ okI x.f1 = true
theorem itemB_len {x : S33} (h0 : x.f0.length ≤ 1048576) (h : (∀ y ∈ x.f0, okI y = true) ∧ okI x.f1 = true) : (itemB x).length ≤ 23068700 := by
  have h1 := rowB_len x.f0 h.1
  have h2 := Lib.itoa_length_le x.f1 (okI_iff.1 h.2).1 (okI_iff.1 h.2).2
  unfold itemB
  rw [List.length_append, List.length_cons]
  omega
theorem tailZ_len (l : List S33) (hs : ∀ x ∈ l, x.f0.length ≤ 1048576) (h : OkI l) : (tailZ l).length ≤ 23068701 * l.length := by
  induction l with
  | nil => simp [tailZ]
  | cons x l ih =>
    have h1 := ih (fun y hy => hs y (List.mem_cons_of_mem _ hy)) (fun y hy => h y (List.mem_cons_of_mem _ hy))
    have h2 := itemB_len (hs x List.mem_cons_self) (h x List.mem_cons_self)
    unfold tailZ at *
    simp only [List.map_cons, List.flatten_cons, List.length_append, List.length_cons] at *
    omega
theorem textZ_len (l : List S33) (hs : ∀ x ∈ l, x.f0.length ≤ 1048576) (h : OkI l) : (textZ l).length ≤ 23068701 * l.length := by
  cases l with
  | nil => simp [textZ]
  | cons x l =>
    have h1 := tailZ_len l (fun y hy => hs y (List.mem_cons_of_mem _ hy)) (fun y hy => h y (List.mem_cons_of_mem _ hy))
    have h2 := itemB_len (hs x List.mem_cons_self) (h x List.mem_cons_self)
    rw [textZ, List.length_append, List.length_cons]
    omega

theorem itoa_some (x : Int) (h : okI x = true) : strconv_Itoa.f x = some (tx (Lib.itoa x)) := by
  unfold strconv_Itoa.f
  rw [if_pos h]
  rfl
theorem implZText_ev (l : List S33) (hs : Small l) (h : OkI l) : Ev (fun k => impl_ZText.f k l) (tx (textZ l)) := by
  have hlen := hs.len
  have hall := textZ_len l hs.row h
  unfold impl_ZText.f
  have go : ∀ (d i : Nat), i + d = l.length → Ev (fun k => impl_ZText.l0 k ((l.take i).map (fun x => tx (itemB x))) l (l.length : Int) (i : Int)) (tx (textZ l)) := by
    intro d
    induction d with
    | zero =>
      intro i hi
      obtain rfl : i = l.length := by omega
      refine Ev.step (fun k => impl_ZText.l0.eq_2 ..) (ev_neg (by omega) ?_)
      have hj : joinF (l.map (fun x => tx (itemB x))) ⟨#[32]⟩ = textZ l := by
        unfold joinF
        rw [List.map_map, ← textZ_join]
        congr 1
      have : strings_Join.f (l.map (fun x => tx (itemB x))) ⟨#[32]⟩ = some (tx (textZ l)) := by
        unfold strings_Join.f
        rw [hj, if_pos (by rw [List.length_map]; omega), if_pos (by omega)]
        rfl
      rw [List.take_length]
      exact ev_eq this (ev_now rfl)
    | succ d ih =>
      intro i hi
      have hil : i < l.length := by omega
      have hm := List.getElem_mem hil
      have hx := h l[i] hm
      have hx1 := okI_iff.1 hx.2
      have hrow := hs.row _ hm
      have h2 := rowB_len l[i].f0 hx.1
      have h3 := Lib.itoa_length_le l[i].f1 hx1.1 hx1.2
      have ih' := ih (i + 1) (by omega)
      rw [List.take_succ_eq_append_getElem hil, List.map_append, List.map_cons, List.map_nil] at ih'
      refine Ev.step (fun k => impl_ZText.l0.eq_2 ..) (ev_pos (by omega) (ev_pos (by omega) (ev_pos (by omega) ?_)))
      rw [rdI_at l i hil, w64n (by omega), show (⟨#[42]⟩ : ByteArray) = tx [42] from rfl]
      refine ev_eq (implRowText_ev l[i].f0 hrow hx.1) (ev_pos (by rw [tx_size]; omega) (ev_eq (itoa_some l[i].f1 hx.2) ?_))
      rw [tx_append, tx_append]
      refine ev_pos (by simp only [tx_size, List.length_append, List.length_cons, List.length_nil]; omega) (ev_pos (by rw [List.length_map, List.length_take]; omega) ?_)
      simpa [itemB, List.append_assoc] using ih'
  exact go l.length 0 (by omega)

/-! draws -/
theorem xor_pos (x y : Int) (h0 : 0 ≤ x) (h1 : x < 4611686018427387904) (h2 : 0 ≤ y) (h3 : y < 4611686018427387904) : 0 ≤ Go.bits .xor .i64 x y := by
  obtain ⟨a, rfl⟩ := Int.eq_ofNat_of_zero_le h0
  obtain ⟨b, rfl⟩ := Int.eq_ofNat_of_zero_le h2
  have ha : a < 2 ^ 62 := by omega
  have hb : b < 2 ^ 62 := by omega
  have ha' : a % 2 ^ IntKind.i64.bits = a := Nat.mod_eq_of_lt (Nat.lt_of_lt_of_le ha (by decide))
  have hb' : b % 2 ^ IntKind.i64.bits = b := Nat.mod_eq_of_lt (Nat.lt_of_lt_of_le hb (by decide))
  have hx : a ^^^ b < 2 ^ 62 := Nat.xor_lt_two_pow ha hb
  simp only [bits, BitVec.ofInt_natCast, BitVec.toNat_xor, BitVec.toNat_ofNat, ha', hb']
  rw [IntKind.wrap_i64]
  omega
/-- a code as the draws read it, and a place in it -/
structure Code_ (b : List Int) : Prop where
  len : b.length ≤ 2000
  byte : ∀ i : Int, 0 ≤ rd b i ∧ rd b i ≤ 255
def lim : Int := 1000000000
theorem tmod_lt (x n : Int) (h0 : 0 ≤ x) (hn : 0 < n) : 0 ≤ Int.tmod x n ∧ Int.tmod x n < n := by
  rw [Int.tmod_eq_emod_of_nonneg h0]
  exact ⟨Int.emod_nonneg _ (by omega), Int.emod_lt_of_pos _ hn⟩
theorem pick_some {b : List Int} (hb : Code_ b) (p n : Int) (hp : 0 ≤ p) (hp1 : p ≤ lim) (hn : 1 ≤ n) : ∃ v, spec_l12Rd_pick.f b p n = some (v, p + 1) ∧ 0 ≤ v ∧ v < n := by
  have hl := hb.len
  unfold lim at hp1
  unfold spec_l12Rd_pick.f
  have e1 : wrap64 (p + 1) = p + 1 := w64 (by omega) (by omega)
  have e2 : wrap64 (p + 1 - 1) = p := by rw [w64 (by omega) (by omega)]; omega
  rw [e1, e2, if_neg (by omega)]
  by_cases h0 : (b.length : Int) = 0
  · rw [if_pos h0]; exact ⟨0, rfl, by omega, by omega⟩
  · rw [if_neg h0]
    by_cases h1 : p < b.length
    · rw [if_pos h1, if_pos hp, if_neg (by omega)]
      have hr := hb.byte p
      rw [w64 (by omega) (by omega)]
      have := tmod_lt (rd b p) n hr.1 (by omega)
      exact ⟨_, rfl, this.1, this.2⟩
    · rw [if_neg h1]
      have hm := tmod_lt p b.length hp (by omega)
      have e3 : wrap64 (p * 7) = p * 7 := w64 (by omega) (by omega)
      have e4 : wrap64 (p * 7 + 3) = p * 7 + 3 := w64 (by omega) (by omega)
      have hm2 := tmod_lt (p * 7 + 3) b.length (by omega) (by omega)
      rw [e3, e4, if_pos hm.1, if_pos hm.2, if_pos hm2.1, if_pos hm2.2, if_neg (by omega)]
      have b1 := hb.byte (Int.tmod p b.length)
      have b2 := hb.byte (Int.tmod (p * 7 + 3) b.length)
      generalize rd b (Int.tmod p b.length) = u at b1 ⊢
      generalize rd b (Int.tmod (p * 7 + 3) b.length) = v at b2 ⊢
      have hd : 0 ≤ Int.tdiv p b.length ∧ Int.tdiv p b.length ≤ p := by
        rw [Int.tdiv_eq_ediv_of_nonneg hp]
        exact ⟨Int.ediv_nonneg hp (by omega), Int.ediv_le_self _ hp⟩
      generalize Int.tdiv p b.length = d at hd ⊢
      have f1 : wrap64 u = u := w64 (by omega) (by omega)
      have f2 : wrap64 v = v := w64 (by omega) (by omega)
      have f3 : wrap64 d = d := w64 (by omega) (by omega)
      have f4 : wrap64 (u * 131) = u * 131 := w64 (by omega) (by omega)
      have f5 : wrap64 (v * 1117) = v * 1117 := w64 (by omega) (by omega)
      have f6 : wrap64 (p * 29) = p * 29 := w64 (by omega) (by omega)
      have f7 : wrap64 (d * 53) = d * 53 := w64 (by omega) (by omega)
      have f8 : wrap64 (u * 131 + v * 1117) = u * 131 + v * 1117 := w64 (by omega) (by omega)
      have f9 : wrap64 (u * 131 + v * 1117 + p * 29) = u * 131 + v * 1117 + p * 29 := w64 (by omega) (by omega)
      have f10 : wrap64 (u * 131 + v * 1117 + p * 29 + d * 53) = u * 131 + v * 1117 + p * 29 + d * 53 := w64 (by omega) (by omega)
      rw [f1, f2, f3, f4, f5, f6, f7, f8, f9, f10]
      generalize hX : u * 131 + v * 1117 + p * 29 + d * 53 = X
      have hX0 : 0 ≤ X := by omega
      have hX1 : X < 4611686018427387904 := by omega
      have g1 : Int.tdiv X 64 = X / 64 := Int.tdiv_eq_ediv_of_nonneg hX0
      rw [g1, w64 (by omega) (by omega)]
      have := tmod_lt (Go.bits .xor .i64 X (X / 64)) n (xor_pos X (X / 64) hX0 hX1 (by omega) (by omega)) (by omega)
      exact ⟨_, rfl, this.1, this.2⟩
theorem rd_mem (l : List Int) (i : Int) (h0 : 0 ≤ i) (h1 : i < l.length) : rd l i ∈ l := by
  obtain ⟨n, rfl⟩ := Int.eq_ofNat_of_zero_le h0
  rw [show ((n : Nat) : Int) = (n : Int) from rfl, rd_nat, List.getD_eq_getElem?_getD, List.getElem?_eq_getElem (by omega)]
  exact List.getElem_mem _
theorem open_some (l : List Int) (hl : ∀ x ∈ l, (Lit.int .u8 x).wf = true) : ∃ b, spec_l12Open.f l = some (b, 0) ∧ Code_ b := by
  have hw : ∀ x ∈ l, 0 ≤ x ∧ x ≤ 255 := fun x hx => by
    have := hl x hx
    simp [Lit.wf, IntKind.min, IntKind.max, IntKind.bits, IntKind.signed] at this
    omega
  have hr : ∀ m : List Int, (∀ x ∈ m, 0 ≤ x ∧ x ≤ 255) → ∀ i : Int, 0 ≤ rd m i ∧ rd m i ≤ 255 := fun m hm i => by
    unfold rd
    rw [List.getD_eq_getElem?_getD]
    cases h : m[i.toNat]? with
    | none => simp
    | some x => exact hm x (List.mem_of_getElem? h)
  unfold spec_l12Open.f
  by_cases h : (l.length : Int) > 2000
  · rw [if_pos h, if_pos (by omega)]
    exact ⟨_, rfl, ⟨by simp; omega, hr _ (fun x hx => hw x (List.mem_of_mem_take hx))⟩⟩
  · rw [if_neg h]
    exact ⟨_, rfl, ⟨by omega, hr _ hw⟩⟩

theorem num_some {b : List Int} (hb : Code_ b) (p : Int) (l : List Int) (hp : 0 ≤ p) (hp1 : p ≤ lim) (hl : 1 ≤ l.length) : ∃ v, spec_l12Rd_num.f b p l = some (v, p + 1) ∧ v ∈ l := by
  obtain ⟨v, hv, h0, h1⟩ := pick_some hb p l.length hp hp1 (by omega)
  refine ⟨rd l v, ?_, rd_mem l v h0 h1⟩
  unfold spec_l12Rd_num.f
  rw [hv]
  simp only [Option.bind_some]
  rw [if_pos h0, if_pos h1]

def drawnCell (x : Int) : Prop := -1 ≤ x ∧ x ≤ 5
theorem row_ev {b : List Int} (hb : Code_ b) (p : Int) (wide : Nat) (hp : 0 ≤ p) (hp1 : p + wide ≤ lim) : ∃ r : List Int, Ev (fun k => spec_l1Row.f k b p wide) (r, p + wide) ∧ r.length = wide ∧ ∀ x ∈ r, drawnCell x := by
  have hlim : lim = 1000000000 := rfl
  have go : ∀ (d i : Nat) (acc : List Int), i + d = wide → acc.length = i → (∀ x ∈ acc, drawnCell x) →
      ∃ r : List Int, Ev (fun k => spec_l1Row.l0 k wide acc i b (p + i)) (r, p + wide) ∧ r.length = wide ∧ ∀ x ∈ r, drawnCell x := by
    intro d
    induction d with
    | zero =>
      intro i acc hi ha hc
      obtain rfl : i = wide := by omega
      exact ⟨acc, Ev.step (fun k => spec_l1Row.l0.eq_2 ..) (ev_neg (by omega) (ev_now rfl)), ha, hc⟩
    | succ d ih =>
      intro i acc hi ha hc
      obtain ⟨v, hv, hm⟩ := num_some hb (p + i) [0, 1, 2, 3, 1, 2, -1, 5] (by omega) (by omega) (by decide)
      have hv2 : drawnCell v := by simp at hm; unfold drawnCell; omega
      obtain ⟨r, hr, h1, h2⟩ := ih (i + 1) (acc ++ [v]) (by omega) (by simp [ha]) (fun x hx => by
        rcases List.mem_append.1 hx with h | h
        · exact hc x h
        · simp at h; subst h; exact hv2)
      refine ⟨r, Ev.step (fun k => spec_l1Row.l0.eq_2 ..) (ev_pos (by omega) (ev_eq hv (ev_pos (by omega) ?_))), h1, h2⟩
      rw [w64n (by omega)]
      have e : p + (i : Int) + 1 = p + ((i + 1 : Nat) : Int) := by omega
      simp only [e]
      exact hr
  obtain ⟨r, hr, h1, h2⟩ := go wide 0 [] (by omega) rfl (by simp)
  refine ⟨r, ?_, h1, h2⟩
  unfold spec_l1Row.f
  simpa using hr

theorem lexc_swap : ∀ a b : List Int, lexc b a = - lexc a b := by
  intro a
  induction a with
  | nil => intro b; cases b <;> rfl
  | cons x a ih =>
    intro b
    cases b with
    | nil => rfl
    | cons y b =>
      simp only [lexc]
      by_cases h1 : x < y
      · rw [if_pos h1, if_neg (by omega), if_pos h1]; rfl
      · rw [if_neg h1]
        by_cases h2 : y < x
        · rw [if_pos h2, if_neg h1, if_pos h2]
        · rw [if_neg h2, if_neg h1, if_neg h2, ih]
theorem lexc_zero : ∀ a b : List Int, lexc a b = 0 ↔ a = b := by
  intro a
  induction a with
  | nil => intro b; cases b <;> simp [lexc]
  | cons x a ih =>
    intro b
    cases b with
    | nil => simp [lexc]
    | cons y b =>
      simp only [lexc]
      by_cases h1 : x < y
      · rw [if_pos h1]; simp; omega
      · rw [if_neg h1]
        by_cases h2 : y < x
        · rw [if_pos h2]; simp; omega
        · rw [if_neg h2, ih]
          obtain rfl : x = y := by omega
          simp
theorem lexc_trans : ∀ a b c : List Int, lexc a b < 0 → lexc b c < 0 → lexc a c < 0 := by
  intro a
  induction a with
  | nil =>
    intro b c h1 h2
    cases b with
    | nil => simp [lexc] at h1
    | cons y b =>
      cases c with
      | nil => simp [lexc] at h2
      | cons z c => simp [lexc]
  | cons x a ih =>
    intro b c h1 h2
    cases b with
    | nil => simp [lexc] at h1
    | cons y b =>
      cases c with
      | nil => simp [lexc] at h2
      | cons z c =>
        simp only [lexc] at h1 h2 ⊢
        by_cases c1 : x < z
        · rw [if_pos c1]; decide
        · rw [if_neg c1]
          by_cases d1 : x < y
          · rw [if_neg (by omega)] at h2
            rw [if_pos (by omega)] at h2
            simp at h2
          · rw [if_neg d1] at h1
            by_cases d2 : y < x
            · rw [if_pos d2] at h1; simp at h1
            · rw [if_neg d2] at h1
              obtain rfl : x = y := by omega
              rw [if_neg c1] at h2
              by_cases c2 : z < x
              · rw [if_pos c2] at h2; simp at h2
              · rw [if_neg c2] at h2 ⊢
                exact ih b c h1 h2
theorem lexc_app : ∀ a b : List Int, lexc a (a ++ b) = if b = [] then 0 else -1 := by
  intro a
  induction a with
  | nil => intro b; cases b <;> simp [lexc]
  | cons x a ih =>
    intro b
    rw [List.cons_append]
    simp only [lexc]
    rw [if_neg (by omega), if_neg (by omega), ih]

theorem okRow_iff (r : List Int) : okRow r = true ↔ (1 ≤ r.length ∧ r.length ≤ 6 ∧ ∀ x ∈ r, cellB x = true) := by
  unfold okRow; simp [and_assoc]
theorem okRow_set (r : List Int) (v : Int) (hr : 1 ≤ r.length) (hv : cellB v = false) : okRow (r.set 0 v) = false := by
  rw [Bool.eq_false_iff]
  intro h
  have := ((okRow_iff _).1 h).2.2 v (List.mem_set (by omega) v)
  rw [hv] at this
  cases this
theorem lexc_take : ∀ (r : List Int) (n : Nat), n < r.length → lexc (r.take n) r = -1 := by
  intro r
  induction r with
  | nil => intro n h; simp at h
  | cons x r ih =>
    intro n h
    cases n with
    | zero => rfl
    | succ n =>
      rw [List.take_succ_cons]
      simp only [lexc]
      rw [if_neg (by omega), if_neg (by omega)]
      exact ih n (by simpa using h)
theorem okRow_take (r : List Int) (n : Nat) (h : okRow r = true) : okRow (r.take n) = decide ((r.take n).length > 0) := by
  obtain ⟨h1, h2, h3⟩ := (okRow_iff r).1 h
  rw [Bool.eq_iff_iff, okRow_iff, decide_eq_true_iff]
  constructor
  · intro k; omega
  · intro k
    exact ⟨by omega, by rw [List.length_take]; omega, fun x hx => h3 x (List.mem_of_mem_take hx)⟩

/-- rows in order, pairwise -/
def sorted (z : List S33) : Prop := ∀ i j (hi : i < z.length) (hj : j < z.length), i < j → lexc z[i].f0 z[j].f0 < 0
theorem chain_sorted : ∀ (z : List S33) (p : Option (List Int)), chain p z = true → (∀ r, p = some r → ∀ x ∈ z, lexc r x.f0 < 0) ∧ z.Pairwise (fun x y => lexc x.f0 y.f0 < 0) ∧ ∀ x ∈ z, okRow x.f0 = true ∧ okW x.f1 = true := by
  intro z
  induction z with
  | nil => intro p _; exact ⟨by simp, .nil, by simp⟩
  | cons x z ih =>
    intro p h
    rw [chain_cons] at h
    simp only [Bool.and_eq_true] at h
    obtain ⟨h1, h2, h3, h4⟩ := h
    obtain ⟨i1, i2, i3⟩ := ih _ h4
    have i1 := i1 _ rfl
    refine ⟨fun r hr y hy => ?_, List.pairwise_cons.2 ⟨i1, i2⟩, fun y hy => ?_⟩
    · subst hr
      have h3' : lexc r x.f0 < 0 := by simpa using h3
      rcases List.mem_cons.1 hy with e | e
      · subst e; exact h3'
      · exact lexc_trans _ _ _ h3' (i1 y e)
    · rcases List.mem_cons.1 hy with e | e
      · subst e; exact ⟨h1, h2⟩
      · exact i3 y e
theorem okZ_facts {z : List S33} (h : okZ z = true) : z.length ≤ 100 ∧ z.Pairwise (fun x y => lexc x.f0 y.f0 < 0) ∧ ∀ x ∈ z, okRow x.f0 = true ∧ okW x.f1 = true := by
  unfold okZ at h
  simp only [Bool.and_eq_true, decide_eq_true_iff] at h
  obtain ⟨h1, h2⟩ := h
  obtain ⟨_, h3, h4⟩ := chain_sorted z none h2
  exact ⟨h1, h3, h4⟩
theorem pairwise_at {α : Type} {R : α → α → Prop} {z : List α} (h : z.Pairwise R) {i j : Nat} (hi : i < z.length) (hj : j < z.length) (hij : i < j) : R z[i] z[j] := List.pairwise_iff_getElem.1 h i j hi hj hij

/-- the weight of a row, or 0 -/
def wOf (r : List Int) : List S33 → Int
  | [] => 0
  | x :: z => if x.f0 = r then x.f1 else wOf r z
def getZ (z : List S33) (r : List Int) : Int := if okZ z = true then wOf r z else 0

/-! weighted lists in order -/
theorem lexc_irr (a : List Int) : lexc a a = 0 := (lexc_zero a a).2 rfl
theorem lexc_gt {a b : List Int} (h1 : ¬ lexc a b < 0) (h2 : a ≠ b) : lexc b a < 0 := by
  have := lexc_swap a b
  have h3 : lexc a b ≠ 0 := fun e => h2 ((lexc_zero a b).1 e)
  omega
/-- rows in order, and no weight of 0 -/
structure Canon (z : List S33) : Prop where
  ord : z.Pairwise (fun x y => lexc x.f0 y.f0 < 0)
  nz : ∀ x ∈ z, x.f1 ≠ 0
theorem Canon.nil : Canon [] := ⟨.nil, by simp⟩
theorem Canon.tail {x : S33} {z : List S33} (h : Canon (x :: z)) : Canon z := ⟨(List.pairwise_cons.1 h.ord).2, fun y hy => h.nz y (List.mem_cons_of_mem _ hy)⟩
theorem Canon.head {x : S33} {z : List S33} (h : Canon (x :: z)) : ∀ y ∈ z, lexc x.f0 y.f0 < 0 := (List.pairwise_cons.1 h.ord).1
theorem canon_cons {x : S33} {z : List S33} (h : Canon z) (h0 : x.f1 ≠ 0) (h1 : ∀ y ∈ z, lexc x.f0 y.f0 < 0) : Canon (x :: z) :=
  ⟨List.pairwise_cons.2 ⟨h1, h.ord⟩, fun y hy => (List.mem_cons.1 hy).elim (fun e => by rw [e]; exact h0) (fun e => h.nz y e)⟩
theorem wOf_below {r : List Int} : ∀ {z : List S33}, (∀ y ∈ z, lexc r y.f0 < 0) → wOf r z = 0 := by
  intro z
  induction z with
  | nil => intro _; rfl
  | cons x z ih =>
    intro h
    have hx := h x List.mem_cons_self
    unfold wOf
    rw [if_neg (fun e => by rw [e, lexc_irr] at hx; omega)]
    exact ih (fun y hy => h y (List.mem_cons_of_mem _ hy))
theorem wOf_mem : ∀ {z : List S33} {x : S33}, Canon z → x ∈ z → wOf x.f0 z = x.f1 := by
  intro z
  induction z with
  | nil => intro x _ h; cases h
  | cons y z ih =>
    intro x hc hx
    unfold wOf
    rcases List.mem_cons.1 hx with e | e
    · subst e; rw [if_pos rfl]
    · have := hc.head x e
      rw [if_neg (fun e2 => by rw [e2, lexc_irr] at this; omega)]
      exact ih hc.tail e
theorem wOf_ne : ∀ {z : List S33} {r : List Int}, wOf r z ≠ 0 → ∃ x ∈ z, x.f0 = r := by
  intro z
  induction z with
  | nil => intro r h; exact absurd rfl h
  | cons y z ih =>
    intro r h
    unfold wOf at h
    by_cases e : y.f0 = r
    · exact ⟨y, List.mem_cons_self, e⟩
    · rw [if_neg e] at h
      obtain ⟨x, hx, hr⟩ := ih h
      exact ⟨x, List.mem_cons_of_mem _ hx, hr⟩
theorem wOf_mem' {x y : S33} {b : List S33} (hb : Canon (y :: b)) (e : x.f0 = y.f0) : wOf x.f0 (y :: b) = y.f1 := by rw [e]; exact wOf_mem hb List.mem_cons_self
theorem canon_ext : ∀ {a b : List S33}, Canon a → Canon b → (∀ r, wOf r a = wOf r b) → a = b := by
  intro a
  induction a with
  | nil =>
    intro b _ hb h
    cases b with
    | nil => rfl
    | cons y b =>
      have := h y.f0
      rw [wOf_mem hb List.mem_cons_self] at this
      exact absurd this.symm (hb.nz y List.mem_cons_self)
  | cons x a ih =>
    intro b ha hb h
    cases b with
    | nil =>
      have := h x.f0
      rw [wOf_mem ha List.mem_cons_self] at this
      exact absurd this (ha.nz x List.mem_cons_self)
    | cons y b =>
      have hx := h x.f0
      rw [wOf_mem ha List.mem_cons_self] at hx
      have hy := h y.f0
      rw [wOf_mem hb List.mem_cons_self] at hy
      have e0 : x.f0 = y.f0 := by
        obtain ⟨u, hu, hur⟩ := wOf_ne (z := y :: b) (r := x.f0) (by rw [← hx]; exact ha.nz x List.mem_cons_self)
        obtain ⟨v, hv, hvr⟩ := wOf_ne (z := x :: a) (r := y.f0) (by rw [hy]; exact hb.nz y List.mem_cons_self)
        rcases List.mem_cons.1 hu with e | e
        · rw [← hur, e]
        · rcases List.mem_cons.1 hv with e2 | e2
          · rw [← hvr, e2]
          · have h1 := hb.head u e
            have h2 := ha.head v e2
            rw [hur] at h1
            rw [hvr] at h2
            have := lexc_swap x.f0 y.f0
            omega
      have e1 : x.f1 = y.f1 := by rw [hx, wOf_mem' hb e0]
      obtain rfl : x = y := ext_item e0 e1
      congr 1
      refine ih ha.tail hb.tail (fun r => ?_)
      have := h r
      unfold wOf at this
      by_cases e : x.f0 = r
      · subst e
        rw [wOf_below ha.head, wOf_below hb.head]
      · rw [if_neg e, if_neg e] at this
        exact this

/-- spec's l2Put -/
def putL (r : List Int) (w : Int) : List S33 → List S33
  | [] => if w = 0 then [] else [⟨r, w⟩]
  | x :: z => if lexc x.f0 r < 0 then x :: putL r w z else if x.f0 = r then (if x.f1 + w = 0 then z else ⟨x.f0, x.f1 + w⟩ :: z) else if w = 0 then x :: z else ⟨r, w⟩ :: x :: z
theorem putL_rows (r : List Int) (w : Int) : ∀ (z : List S33), ∀ y ∈ putL r w z, y.f0 = r ∨ ∃ x ∈ z, x.f0 = y.f0 := by
  intro z
  induction z with
  | nil => intro y hy; unfold putL at hy; split at hy <;> simp at hy; left; rw [hy]
  | cons x z ih =>
    intro y hy
    unfold putL at hy
    split at hy
    · rcases List.mem_cons.1 hy with e | e
      · exact .inr ⟨x, List.mem_cons_self, by rw [e]⟩
      · rcases ih y e with h | ⟨u, hu, h⟩
        · exact .inl h
        · exact .inr ⟨u, List.mem_cons_of_mem _ hu, h⟩
    · split at hy
      · split at hy
        · exact .inr ⟨y, List.mem_cons_of_mem _ hy, rfl⟩
        · rcases List.mem_cons.1 hy with e | e
          · exact .inr ⟨x, List.mem_cons_self, by rw [e]⟩
          · exact .inr ⟨y, List.mem_cons_of_mem _ e, rfl⟩
      · split at hy
        · exact .inr ⟨y, hy, rfl⟩
        · rcases List.mem_cons.1 hy with e | e
          · exact .inl (by rw [e])
          · exact .inr ⟨y, e, rfl⟩
theorem putL_canon (r : List Int) (w : Int) : ∀ (z : List S33), Canon z → Canon (putL r w z) := by
  intro z
  induction z with
  | nil => intro _; unfold putL; split
           · exact Canon.nil
           · exact ⟨.cons (by simp) .nil, by simpa using ‹¬ w = 0›⟩
  | cons x z ih =>
    intro hc
    unfold putL
    split
    · next h1 =>
      refine canon_cons (ih hc.tail) (hc.nz x List.mem_cons_self) (fun y hy => ?_)
      rcases putL_rows r w z y hy with h | ⟨u, hu, h⟩
      · rw [h]; exact h1
      · rw [← h]; exact hc.head u hu
    · next h1 =>
      split
      · split
        · exact hc.tail
        · next h3 => exact canon_cons hc.tail h3 hc.head
      · next h2 =>
        split
        · exact hc
        · next h3 =>
          have h4 := lexc_gt h1 h2
          refine canon_cons hc h3 (fun y hy => ?_)
          rcases List.mem_cons.1 hy with e | e
          · rw [e]; exact h4
          · exact lexc_trans _ _ _ h4 (hc.head y e)
theorem putL_wOf (r : List Int) (w : Int) (s : List Int) : ∀ (z : List S33), Canon z → wOf s (putL r w z) = wOf s z + if s = r then w else 0 := by
  intro z
  induction z with
  | nil =>
    intro _
    unfold putL
    split
    · next h => subst h; simp [wOf]
    · simp only [wOf]
      by_cases e : r = s
      · rw [if_pos e, if_pos e.symm]; omega
      · rw [if_neg e, if_neg (Ne.symm e)]; omega
  | cons x z ih =>
    intro hc
    unfold putL
    split
    · next h1 =>
      unfold wOf
      by_cases e : x.f0 = s
      · rw [if_pos e, if_pos e, if_neg (fun e2 => by rw [e, e2, lexc_irr] at h1; omega)]; omega
      · rw [if_neg e, if_neg e]; exact ih hc.tail
    · next h1 =>
      split
      · next h2 =>
        split
        · next h3 =>
          by_cases e : x.f0 = s
          · subst e
            rw [wOf_below hc.head, if_pos h2, wOf, if_pos rfl]; omega
          · rw [if_neg (fun e2 => e (by rw [e2, h2])), wOf, if_neg e]; omega
        · by_cases e : x.f0 = s
          · rw [wOf, wOf, if_pos e, if_pos e, if_pos (by rw [← e, h2])]
          · rw [wOf, wOf, if_neg e, if_neg e, if_neg (fun e2 => e (by rw [e2, h2]))]; omega
      · next h2 =>
        split
        · next h3 => subst h3; split <;> omega
        · next h3 =>
          have h4 := lexc_gt h1 h2
          by_cases e : s = r
          · subst e
            have : wOf s (x :: z) = 0 := wOf_below (fun y hy => by
              rcases List.mem_cons.1 hy with e | e
              · rw [e]; exact h4
              · exact lexc_trans _ _ _ h4 (hc.head y e))
            rw [this, if_pos rfl, wOf, if_pos rfl]; show w = 0 + w; omega
          · rw [if_neg e, wOf, if_neg (show ¬ (⟨r, w⟩ : S33).f0 = s from fun e2 => e e2.symm)]; omega
theorem putL_len (r : List Int) (w : Int) : ∀ (z : List S33), (putL r w z).length ≤ z.length + 1 := by
  intro z
  induction z with
  | nil => unfold putL; split <;> simp
  | cons x z ih => unfold putL; repeat' split
                   all_goals simp <;> omega
/-- many, one by one -/
def addL (a b : List S33) : List S33 := b.foldl (fun o x => putL x.f0 x.f1 o) a
theorem addL_canon : ∀ (b a : List S33), Canon a → Canon (addL a b) := by
  intro b
  induction b with
  | nil => intro a h; exact h
  | cons x b ih => intro a h; exact ih _ (putL_canon _ _ _ h)
/-- the sum of the weights of a row -/
def sumW (r : List Int) : List S33 → Int
  | [] => 0
  | x :: z => (if x.f0 = r then x.f1 else 0) + sumW r z
theorem sumW_canon (r : List Int) : ∀ (z : List S33), Canon z → sumW r z = wOf r z := by
  intro z
  induction z with
  | nil => intro _; rfl
  | cons x z ih =>
    intro h
    unfold sumW wOf
    rw [ih h.tail]
    by_cases e : x.f0 = r
    · subst e; rw [if_pos rfl, if_pos rfl, wOf_below h.head]; omega
    · rw [if_neg e, if_neg e]; omega
theorem addL_sum (r : List Int) : ∀ (b a : List S33), Canon a → wOf r (addL a b) = wOf r a + sumW r b := by
  intro b
  induction b with
  | nil => intro a _; simp [addL, sumW]
  | cons x b ih =>
    intro a h
    show wOf r (addL (putL x.f0 x.f1 a) b) = _
    rw [ih _ (putL_canon _ _ _ h), putL_wOf _ _ _ _ h, sumW]
    by_cases e : x.f0 = r
    · rw [if_pos e, if_pos e.symm]; omega
    · rw [if_neg e, if_neg (Ne.symm e)]; omega
theorem addL_wOf (r : List Int) (a b : List S33) (ha : Canon a) (hb : Canon b) : wOf r (addL a b) = wOf r a + wOf r b := by
  rw [addL_sum r b a ha, sumW_canon r b hb]
/-- impl's merged, with sums -/
def merL : List S33 → List S33 → List S33
  | [], b => b
  | x :: a, [] => x :: a
  | x :: a, y :: b => if lexc x.f0 y.f0 < 0 then x :: merL a (y :: b) else if lexc y.f0 x.f0 < 0 then y :: merL (x :: a) b else if x.f1 + y.f1 = 0 then merL a b else ⟨x.f0, x.f1 + y.f1⟩ :: merL a b
  termination_by a b => a.length + b.length
theorem merL_rows : ∀ (n : Nat) (a b : List S33), a.length + b.length ≤ n → ∀ y ∈ merL a b, (∃ x ∈ a, x.f0 = y.f0) ∨ ∃ x ∈ b, x.f0 = y.f0 := by
  intro n
  induction n with
  | zero => intro a b h y hy; cases a <;> cases b <;> simp [merL] at h hy
  | succ n ih =>
    intro a b h y hy
    cases a with
    | nil => rw [merL] at hy; exact .inr ⟨y, hy, rfl⟩
    | cons x a =>
      cases b with
      | nil => rw [merL] at hy; exact .inl ⟨y, hy, rfl⟩
      | cons u b =>
        simp only [List.length_cons] at h
        have lift : ((∃ q ∈ a, q.f0 = y.f0) ∨ ∃ q ∈ b, q.f0 = y.f0) → (∃ q ∈ x :: a, q.f0 = y.f0) ∨ ∃ q ∈ u :: b, q.f0 = y.f0 := fun h => h.imp (fun ⟨q, h1, h2⟩ => ⟨q, List.mem_cons_of_mem _ h1, h2⟩) (fun ⟨q, h1, h2⟩ => ⟨q, List.mem_cons_of_mem _ h1, h2⟩)
        rw [merL] at hy
        split at hy
        · rcases List.mem_cons.1 hy with e | e
          · exact .inl ⟨x, List.mem_cons_self, by rw [e]⟩
          · rcases ih a (u :: b) (by simp; omega) y e with ⟨q, h1, h2⟩ | h1
            · exact .inl ⟨q, List.mem_cons_of_mem _ h1, h2⟩
            · exact .inr h1
        · split at hy
          · rcases List.mem_cons.1 hy with e | e
            · exact .inr ⟨u, List.mem_cons_self, by rw [e]⟩
            · rcases ih (x :: a) b (by simp; omega) y e with h1 | ⟨q, h1, h2⟩
              · exact .inl h1
              · exact .inr ⟨q, List.mem_cons_of_mem _ h1, h2⟩
          · split at hy
            · exact lift (ih a b (by omega) y hy)
            · rcases List.mem_cons.1 hy with e | e
              · exact .inl ⟨x, List.mem_cons_self, by rw [e]⟩
              · exact lift (ih a b (by omega) y e)
theorem merL_spec : ∀ (n : Nat) (a b : List S33), a.length + b.length ≤ n → Canon a → Canon b → Canon (merL a b) ∧ ∀ r, wOf r (merL a b) = wOf r a + wOf r b := by
  intro n
  induction n with
  | zero => intro a b h _ _; cases a <;> cases b <;> simp [merL, wOf, Canon.nil] at h ⊢
  | succ n ih =>
    intro a b h ha hb
    cases a with
    | nil => rw [merL]; exact ⟨hb, fun r => by simp [wOf]⟩
    | cons x a =>
      cases b with
      | nil => rw [merL]; exact ⟨ha, fun r => by simp [wOf]⟩
      | cons u b =>
        simp only [List.length_cons] at h
        rw [merL]
        split
        · next h1 =>
          obtain ⟨c, e⟩ := ih a (u :: b) (by simp; omega) ha.tail hb
          refine ⟨canon_cons c (ha.nz x List.mem_cons_self) (fun y hy => ?_), fun r => ?_⟩
          · rcases merL_rows _ a (u :: b) (Nat.le_refl _) y hy with ⟨q, hq, h2⟩ | ⟨q, hq, h2⟩
            · rw [← h2]; exact ha.head q hq
            · rw [← h2]
              rcases List.mem_cons.1 hq with e | e
              · rw [e]; exact h1
              · exact lexc_trans _ _ _ h1 (hb.head q e)
          · rw [wOf, wOf]
            by_cases e0 : x.f0 = r
            · rw [if_pos e0, if_pos e0]
              have : wOf r (u :: b) = 0 := wOf_below (fun y hy => by
                rw [← e0]
                rcases List.mem_cons.1 hy with e | e
                · rw [e]; exact h1
                · exact lexc_trans _ _ _ h1 (hb.head y e))
              omega
            · rw [if_neg e0, if_neg e0]; exact e r
        · next h1 =>
          split
          · next h2 =>
            obtain ⟨c, e⟩ := ih (x :: a) b (by simp; omega) ha hb.tail
            refine ⟨canon_cons c (hb.nz u List.mem_cons_self) (fun y hy => ?_), fun r => ?_⟩
            · rcases merL_rows _ (x :: a) b (Nat.le_refl _) y hy with ⟨q, hq, h3⟩ | ⟨q, hq, h3⟩
              · rw [← h3]
                rcases List.mem_cons.1 hq with e | e
                · rw [e]; exact h2
                · exact lexc_trans _ _ _ h2 (ha.head q e)
              · rw [← h3]; exact hb.head q hq
            · rw [wOf, wOf.eq_2 r u b]
              by_cases e0 : u.f0 = r
              · rw [if_pos e0, if_pos e0]
                have : wOf r (x :: a) = 0 := wOf_below (fun y hy => by
                  rw [← e0]
                  rcases List.mem_cons.1 hy with e | e
                  · rw [e]; exact h2
                  · exact lexc_trans _ _ _ h2 (ha.head y e))
                omega
              · rw [if_neg e0, if_neg e0]; exact e r
          · next h2 =>
            have h3 : x.f0 = u.f0 := by
              refine (lexc_zero _ _).1 ?_
              have := lexc_swap x.f0 u.f0
              omega
            obtain ⟨c, e⟩ := ih a b (by omega) ha.tail hb.tail
            have low : ∀ y ∈ merL a b, lexc x.f0 y.f0 < 0 := fun y hy => by
              rcases merL_rows _ a b (Nat.le_refl _) y hy with ⟨q, hq, h4⟩ | ⟨q, hq, h4⟩
              · rw [← h4]; exact ha.head q hq
              · rw [← h4, h3]; exact hb.head q hq
            split
            · next h4 =>
              refine ⟨c, fun r => ?_⟩
              rw [e r, wOf.eq_2 r x a, wOf.eq_2 r u b]
              by_cases e0 : x.f0 = r
              · rw [if_pos e0, if_pos (by rw [← h3]; exact e0), ← e0, wOf_below ha.head, h3, wOf_below hb.head]; omega
              · rw [if_neg e0, if_neg (by rw [← h3]; exact e0)]
            · next h4 =>
              refine ⟨canon_cons c h4 low, fun r => ?_⟩
              rw [wOf, wOf, wOf]
              by_cases e0 : x.f0 = r
              · rw [if_pos e0, if_pos e0, if_pos (by rw [← h3]; exact e0)]
              · rw [if_neg e0, if_neg e0, if_neg (by rw [← h3]; exact e0)]; exact e r
theorem merL_addL (a b : List S33) (ha : Canon a) (hb : Canon b) : merL a b = addL a b := by
  obtain ⟨c, e⟩ := merL_spec _ a b (Nat.le_refl _) ha hb
  exact canon_ext c (addL_canon _ _ ha) (fun r => by rw [e, addL_wOf r a b ha hb])

theorem specSame_ev (a b : List Int) (ha : a.length < 4611686018427387904) (hb : b.length < 4611686018427387904) : Ev (fun k => spec_RowSame.f k a b) (decide (a = b)) := by
  unfold spec_RowSame.f
  refine (l1Order_ev a b ha hb).bind (ev_now ?_)
  rw [Bool.eq_iff_iff, beq_iff_eq, decide_eq_true_iff]
  exact ordL_zero a b

theorem specCopy (a : List Int) (ha : a.length < 17592186044416) : spec_l1Copy.f a = some a := by
  unfold spec_l1Copy.f
  simp only [Option.bind_some]
  rw [if_pos (by simp; omega)]
  simp

theorem erase_set {α : Type} (z : List α) (i : Nat) (x : α) : (z.set i x).eraseIdx i = z.take i ++ z.drop (i + 1) := by
  rw [List.eraseIdx_eq_take_drop_succ, List.take_set_of_le (Nat.le_refl _), List.drop_set_of_lt (by omega)]
theorem set_split {α : Type} (z : List α) (i : Nat) (x : α) (h : i < z.length) : z.set i x = z.take i ++ x :: z.drop (i + 1) := by
  rw [List.set_eq_take_append_cons_drop, if_pos h]
/-- weights far from the ends of their kind -/
def Tame (z : List S33) : Prop := ∀ x ∈ z, -1000000000000000 ≤ x.f1 ∧ x.f1 ≤ 1000000000000000
theorem specPut_ev (z : List S33) (r : List Int) (w : Int) (hs : Small z) (hr : r.length ≤ 1048576) (hw : Tame z) (hw0 : -1000000000000000 ≤ w ∧ w ≤ 1000000000000000) : Ev (fun k => spec_l2Put.f k z r w) (putL r w z) := by
  have hz := hs.len
  have h := ev_down (fun k i => spec_l2Put.l0 k z r w (i : Int)) (fun i => z.take i ++ putL r w (z.drop i)) z.length ?_ ?_ 0 (by omega)
  · simpa [spec_l2Put.f] using h
  · refine Ev.step (fun k => spec_l2Put.l0.eq_2 ..) (ev_neg (by omega) ?_)
    rw [drop_end z _ (Nat.le_refl _), List.take_length]
    by_cases h0 : w = 0
    · exact ev_pos h0 (ev_now (by simp [putL, h0]))
    · refine ev_neg h0 (ev_pos (by omega) (ev_pos (by omega) (ev_some (ev_eq (specCopy r (by omega)) (ev_pos (by simp; omega) (ev_pos (by omega) (ev_now ?_)))))))
      simp [putL, h0]
  · intro i hi ih
    have hri := hs.row _ (List.getElem_mem hi)
    refine Ev.step (fun k => spec_l2Put.l0.eq_2 ..) (ev_pos (by omega) (ev_pos (by omega) ?_))
    rw [rdI_at z i hi, drop_at z i hi]
    refine (specLess_ev z[i].f0 r (by omega) (by omega)).bind ?_
    by_cases h1 : lexc z[i].f0 r < 0
    · refine ev_pos (decide_eq_true h1) ?_
      rw [w64n (by omega), putL, if_pos h1]
      rw [List.take_succ_eq_append_getElem hi, List.append_assoc] at ih
      exact ih
    · refine ev_neg (by simpa using h1) ((specSame_ev z[i].f0 r (by omega) (by omega)).bind ?_)
      rw [putL, if_neg h1]
      by_cases h2 : z[i].f0 = r
      · refine ev_pos (decide_eq_true h2) ?_
        have hwx := hw _ (List.getElem_mem hi)
        rw [w64 (x := z[i].f1 + w) (by omega) (by omega), Int.toNat_natCast, if_pos h2]
        refine ev_some ?_
        have e1 : rd_T33 (z.set i (⟨z[i].f0, z[i].f1 + w⟩ : S33)) (i : Int) = ⟨z[i].f0, z[i].f1 + w⟩ := by rw [rdI_at _ i (by simpa using hi)]; simp
        rw [e1]
        by_cases h3 : z[i].f1 + w = 0
        · refine ev_pos h3 ?_
          rw [if_pos h3, w64n (by omega)]
          exact ev_pos (by omega) (ev_pos (by omega) (ev_pos (by omega) (ev_now (erase_set z i _))))
        · refine ev_neg h3 (ev_now ?_)
          rw [if_neg h3]
          exact set_split z i _ hi
      · refine ev_neg (by simpa using h2) ?_
        rw [if_neg h2]
        by_cases h3 : w = 0
        · refine ev_pos h3 (ev_now ?_)
          rw [if_pos h3, ← drop_at z i hi, List.take_append_drop]
        · refine ev_neg h3 (ev_pos (by omega) (ev_some (ev_eq (specCopy r (by omega)) (ev_pos (by simp; omega) (ev_pos (by omega) (ev_now ?_))))))
          rw [Int.toNat_natCast, drop_at z i hi, if_neg h3, List.append_assoc]
          rfl
theorem putL_small (r : List Int) (w : Int) (z : List S33) (hs : ∀ x ∈ z, x.f0.length ≤ 1048576) (hr : r.length ≤ 1048576) : ∀ x ∈ putL r w z, x.f0.length ≤ 1048576 := by
  intro y hy
  rcases putL_rows r w z y hy with h | ⟨u, hu, h⟩
  · rw [h]; exact hr
  · rw [← h]; exact hs u hu

/-- what the draws of items yield -/
structure Drawn_ (m : Nat) (B : Int) (z : List S33) : Prop where
  len : z.length ≤ m
  row : ∀ x ∈ z, x.f0.length ≤ 7
  w : ∀ x ∈ z, -B ≤ x.f1 ∧ x.f1 ≤ B
  cell : ∀ x ∈ z, ∀ y ∈ x.f0, -1000000001 ≤ y ∧ y ≤ 1000000001
theorem Drawn_.small {m : Nat} {B : Int} {z : List S33} (h : Drawn_ m B z) (hm : m ≤ 1000) : Small z := ⟨by have := h.len; omega, fun x hx => by have := h.row x hx; omega⟩
theorem Drawn_.tame {m : Nat} {B : Int} {z : List S33} (h : Drawn_ m B z) (hB : B ≤ 1000000) : Tame z := fun x hx => by have := h.w x hx; omega
theorem putL_w (r : List Int) (w B C : Int) (hB : 0 ≤ B) (hw : -C ≤ w ∧ w ≤ C) : ∀ (z : List S33), (∀ x ∈ z, -B ≤ x.f1 ∧ x.f1 ≤ B) → ∀ y ∈ putL r w z, -(B + C) ≤ y.f1 ∧ y.f1 ≤ B + C := by
  intro z
  induction z with
  | nil => intro _ y hy; unfold putL at hy; split at hy <;> simp at hy; subst hy; simp; omega
  | cons x z ih =>
    intro h y hy
    have hx := h x List.mem_cons_self
    have hz := fun u hu => h u (List.mem_cons_of_mem _ hu)
    have old : ∀ u ∈ x :: z, -(B + C) ≤ u.f1 ∧ u.f1 ≤ B + C := fun u hu => by have := h u hu; omega
    unfold putL at hy
    split at hy
    · rcases List.mem_cons.1 hy with e | e
      · subst e; omega
      · exact ih hz y e
    · split at hy
      · split at hy
        · exact old y (List.mem_cons_of_mem _ hy)
        · rcases List.mem_cons.1 hy with e | e
          · subst e; dsimp only; omega
          · exact old y (List.mem_cons_of_mem _ e)
      · split at hy
        · exact old y hy
        · rcases List.mem_cons.1 hy with e | e
          · subst e; dsimp only; omega
          · exact old y e
theorem put_drawn {m : Nat} {B C : Int} {z : List S33} (h : Drawn_ m B z) (r : List Int) (w : Int) (hB : 0 ≤ B) (hr : r.length ≤ 7) (hw : -C ≤ w ∧ w ≤ C) (hc : ∀ y ∈ r, -1000000001 ≤ y ∧ y ≤ 1000000001) : Drawn_ (m + 1) (B + C) (putL r w z) :=
  ⟨by have := putL_len r w z; have := h.len; omega, fun y hy => by
    rcases putL_rows r w z y hy with e | ⟨u, hu, e⟩
    · rw [e]; exact hr
    · rw [← e]; exact h.row u hu, putL_w r w B C hB hw z h.w, fun y hy => by
    rcases putL_rows r w z y hy with e | ⟨u, hu, e⟩
    · rw [e]; exact hc
    · rw [← e]; exact h.cell u hu⟩
theorem put_drawn_ev {m : Nat} {B : Int} {z : List S33} (h : Drawn_ m B z) (hm : m ≤ 1000) (hB1 : B ≤ 1000000) (r : List Int) (w : Int) (hr : r.length ≤ 7) (hw : -1000000 ≤ w ∧ w ≤ 1000000) : Ev (fun k => spec_l2Put.f k z r w) (putL r w z) :=
  specPut_ev z r w (h.small hm) (by omega) (h.tame hB1) (by omega)
theorem l2Z_ev {b : List Int} (hb : Code_ b) (p : Int) (wide most : Nat) (hp : 0 ≤ p) (hp1 : p + 1000 ≤ lim) (hw : wide ≤ 7) (hm : most ≤ 50) :
    ∃ (z : List S33) (q : Int), Ev (fun k => spec_l2Z.f k b p wide most) (z, q) ∧ p ≤ q ∧ q ≤ p + 1000 ∧ Drawn_ most 150 z ∧ Canon z := by
  have hlim : lim = 1000000000 := rfl
  have go : ∀ (d m : Nat) (z : List S33) (p : Int), m + d ≤ 50 → 0 ≤ p → p + d * 8 ≤ lim → Drawn_ m (3 * m) z → Canon z →
      ∃ (z' : List S33) (q : Int), Ev (fun k => spec_l2Z.l0 k wide z (d : Int) b p) (z', q) ∧ p ≤ q ∧ q ≤ p + d * 8 ∧ Drawn_ (m + d) 150 z' ∧ Canon z' := by
    intro d
    induction d with
    | zero =>
      intro m z p hmd hp hp1 hz hc
      exact ⟨z, p, Ev.step (fun k => spec_l2Z.l0.eq_2 ..) (ev_neg (by simp) (ev_now rfl)), by omega, by omega, ⟨hz.len, hz.row, fun x hx => by have := hz.w x hx; omega, hz.cell⟩, hc⟩
    | succ d ih =>
      intro m z p hmd hp hp1 hz hc
      obtain ⟨r, hr, r1, r2⟩ := row_ev hb p wide hp (by omega)
      obtain ⟨w, hw1, hm⟩ := num_some hb (p + wide) [1, 1, 1, 2, -1, 3, -2] (by omega) (by omega) (by decide)
      have hw2 : -3 ≤ w ∧ w ≤ 3 := by simp at hm; omega
      have hput := put_drawn_ev hz (by omega) (by omega) r w (by omega) (by omega)
      have hz' := put_drawn hz r w (by omega) (by omega) hw2 (fun y hy => by have := r2 y hy; unfold drawnCell at this; omega)
      obtain ⟨z', q, h1, h2, h3, h4, h5⟩ := ih (m + 1) (putL r w z) (p + wide + 1) (by omega) (by omega) (by omega) (by rw [show (3 * ((m + 1 : Nat) : Int)) = 3 * (m : Int) + 3 by omega]; exact hz') (putL_canon _ _ _ hc)
      refine ⟨z', q, Ev.step (fun k => spec_l2Z.l0.eq_2 ..) (ev_pos (by omega) (hr.bind (ev_eq hw1 (hput.bind ?_)))), by omega, by omega, by rw [show m + (d + 1) = m + 1 + d by omega]; exact h4, h5⟩
      rw [w64 (x := ((d + 1 : Nat) : Int) - 1) (by omega) (by omega), show ((d + 1 : Nat) : Int) - 1 = (d : Int) by omega]
      exact h1
  obtain ⟨v, hv, v0, v1⟩ := pick_some hb p (most + 1) hp (by omega) (by omega)
  obtain ⟨n, rfl⟩ := Int.eq_ofNat_of_zero_le v0
  obtain ⟨z, q, h1, h2, h3, h4, h5⟩ := go n 0 [] (p + 1) (by omega) (by omega) (by omega) ⟨by simp, by simp, by simp, by simp⟩ Canon.nil
  refine ⟨z, q, ?_, by omega, by omega, ⟨by have := h4.len; omega, h4.row, h4.w, h4.cell⟩, h5⟩
  unfold spec_l2Z.f
  rw [w64 (x := (most : Int) + 1) (by omega) (by omega)]
  exact ev_eq hv h1
theorem bentLoop_ev (b : List Int) (p : Int) : ∀ (d i m : Nat) (z : List S33), i + d = 101 → m + d ≤ 900 → Drawn_ m (200 + i) z →
    ∃ z' : List S33, Ev (fun k => spec_l2Bent.l0 k z (i : Int) b p) (z', p) ∧ Drawn_ (m + d) 20000 z' := by
  intro d
  induction d with
  | zero =>
    intro i m z hi hm hz
    exact ⟨z, Ev.step (fun k => spec_l2Bent.l0.eq_2 ..) (ev_neg (by omega) (ev_now rfl)), ⟨hz.len, hz.row, fun x hx => by have := hz.w x hx; omega, hz.cell⟩⟩
  | succ d ih =>
    intro i m z hi hm hz
    have hput := put_drawn_ev hz (by omega) (by omega) [wrap64 (10 + (i : Int))] 1 (by simp) (by omega)
    have hz' := put_drawn (C := 1) hz [wrap64 (10 + (i : Int))] 1 (by omega) (by simp) (by omega) (fun y hy => by
      rcases List.mem_singleton.1 hy with rfl
      rw [w64 (by omega) (by omega)]
      omega)
    obtain ⟨z', h1, h2⟩ := ih (i + 1) (m + 1) _ (by omega) (by omega) (by rw [show (200 + ((i + 1 : Nat) : Int)) = 200 + (i : Int) + 1 by omega]; exact hz')
    refine ⟨z', Ev.step (fun k => spec_l2Bent.l0.eq_2 ..) (ev_pos (by omega) (hput.bind ?_)), by rw [show m + (d + 1) = m + 1 + d by omega]; exact h2⟩
    rw [w64n (by omega)]
    exact h1
theorem set_drawn {m : Nat} {B : Int} {z : List S33} (h : Drawn_ m B z) (i : Nat) (y : S33) (h0 : y.f0.length ≤ 7) (h1 : -B ≤ y.f1 ∧ y.f1 ≤ B) (h2 : ∀ v ∈ y.f0, -1000000001 ≤ v ∧ v ≤ 1000000001) : Drawn_ m B (z.set i y) :=
  ⟨by rw [List.length_set]; exact h.len, fun x hx => (List.mem_or_eq_of_mem_set hx).elim (h.row x) (fun e => by rw [e]; exact h0), fun x hx => (List.mem_or_eq_of_mem_set hx).elim (h.w x) (fun e => by rw [e]; exact h1), fun x hx => (List.mem_or_eq_of_mem_set hx).elim (h.cell x) (fun e => by rw [e]; exact h2)⟩
theorem l2Bent_ev {b : List Int} (hb : Code_ b) (p : Int) (hp : 0 ≤ p) (hp1 : p + 2000 ≤ lim) :
    ∃ (z : List S33) (q : Int), Ev (fun k => spec_l2Bent.f k b p) (z, q) ∧ p ≤ q ∧ q ≤ p + 2000 ∧ Drawn_ 110 20000 z := by
  have hlim : lim = 1000000000 := rfl
  obtain ⟨v, hv, v0, v1⟩ := pick_some hb p 3 hp (by omega) (by omega)
  obtain ⟨n, rfl⟩ := Int.eq_ofNat_of_zero_le v0
  obtain ⟨z, q, h1, h2, h3, h4, _⟩ := l2Z_ev hb (p + 1) (1 + n) 6 (by omega) (by omega) (by omega) (by omega)
  have e1 : wrap64 (1 + (n : Int)) = ((1 + n : Nat) : Int) := by rw [w64 (by omega) (by omega)]; omega
  have wide : Drawn_ 110 20000 z := ⟨by have := h4.len; omega, h4.row, fun x hx => by have := h4.w x hx; omega, h4.cell⟩
  have start : ∀ {z' : List S33} {q' : Int}, Ev (fun k => (if (z.length : Int) = 0 then (some (z, q)) else ((spec_l12Rd_pick.f b q (z.length : Int)).bind fun t => ((spec_l12Rd_pick.f b t.2 40).bind fun u => (if u.1 = 0 then ((spec_l12Rd_num.f b u.2 (([0, 10000, 10001, (-10000)] : List Int))).bind fun y => (if 0 ≤ t.1 then (if t.1 < (z.length : Int) then (some ((z.set (t.1 : Int).toNat (⟨(rd_T33 z t.1).f0, y.1⟩ : S33)), y.2)) else (none)) else (none))) else (if u.1 = 1 then (if 0 ≤ t.1 then (if t.1 < (z.length : Int) then (some ((z.set (t.1 : Int).toNat (⟨(([] : List Int)), (rd_T33 z t.1).f1⟩ : S33)), u.2)) else (none)) else (none)) else (if u.1 = 2 then (if 0 < (z.length : Int) then (if z.length < 4398046511104 then (some ((z ++ [(⟨(rd_T33 z 0).f0, (rd_T33 z 0).f1⟩ : S33)]), u.2)) else (none)) else (none)) else (if u.1 = 3 then (spec_l2Bent.l0 k z 0 b u.2) else (some (z, u.2)))))))))) (z', q') → Ev (fun k => spec_l2Bent.f k b p) (z', q') := by
    intro z' q' h
    unfold spec_l2Bent.f
    refine ev_eq hv ?_
    rw [e1]
    exact h1.bind h
  by_cases h0 : (z.length : Int) = 0
  · exact ⟨z, q, start (ev_pos h0 (ev_now rfl)), by omega, by omega, wide⟩
  obtain ⟨t, ht, t0, t1⟩ := pick_some hb q z.length (by omega) (by omega) (by omega)
  obtain ⟨i, rfl⟩ := Int.eq_ofNat_of_zero_le t0
  obtain ⟨u, hu, u0, u1⟩ := pick_some hb (q + 1) 40 (by omega) (by omega) (by omega)
  have hil : i < z.length := by omega
  by_cases c0 : u = 0
  · obtain ⟨y, hy, hm⟩ := num_some hb (q + 1 + 1) [0, 10000, 10001, -10000] (by omega) (by omega) (by decide)
    have hy2 : -20000 ≤ y ∧ y ≤ 20000 := by simp at hm; omega
    refine ⟨_, _, start (ev_neg h0 (ev_eq ht (ev_eq hu (ev_pos c0 (ev_eq hy (ev_pos t0 (ev_pos t1 (ev_now rfl)))))))), by omega, by omega, set_drawn wide _ _ ?_ hy2 ?_⟩
    · rw [rdI_at z i hil]; exact (show z[i].f0.length ≤ 7 from wide.row _ (List.getElem_mem hil))
    · rw [rdI_at z i hil]; exact wide.cell z[i] (List.getElem_mem hil)
  by_cases c1 : u = 1
  · refine ⟨_, _, start (ev_neg h0 (ev_eq ht (ev_eq hu (ev_neg c0 (ev_pos c1 (ev_pos t0 (ev_pos t1 (ev_now rfl)))))))), by omega, by omega, set_drawn wide _ _ (by simp) ?_ (by simp)⟩
    rw [rdI_at z i hil]; exact (show -20000 ≤ z[i].f1 ∧ z[i].f1 ≤ 20000 from wide.w _ (List.getElem_mem hil))
  by_cases c2 : u = 2
  · have hl := h4.len
    refine ⟨_, _, start (ev_neg h0 (ev_eq ht (ev_eq hu (ev_neg c0 (ev_neg c1 (ev_pos c2 (ev_pos (by omega) (ev_pos (by omega) (ev_now rfl))))))))), by omega, by omega, ⟨by simp; omega, fun x hx => ?_, fun x hx => ?_, fun x hx => ?_⟩⟩
    · rcases List.mem_append.1 hx with e | e
      · exact wide.row x e
      · simp at e; subst e; have := rdI_at z 0 (by omega); rw [show ((0 : Nat) : Int) = 0 from rfl] at this; dsimp only; rw [this]; exact wide.row _ (List.getElem_mem _)
    · rcases List.mem_append.1 hx with e | e
      · exact wide.w x e
      · simp at e; subst e; have := rdI_at z 0 (by omega); rw [show ((0 : Nat) : Int) = 0 from rfl] at this; dsimp only; rw [this]; exact wide.w _ (List.getElem_mem _)
    · rcases List.mem_append.1 hx with e | e
      · exact wide.cell x e
      · simp at e; subst e; have := rdI_at z 0 (by omega); rw [show ((0 : Nat) : Int) = 0 from rfl] at this; dsimp only; rw [this]; exact wide.cell _ (List.getElem_mem _)
  by_cases c3 : u = 3
  · obtain ⟨z', hz1, hz2⟩ := bentLoop_ev b (q + 1 + 1) 101 0 6 z (by omega) (by omega) ⟨h4.len, h4.row, fun x hx => by have := h4.w x hx; omega, h4.cell⟩
    exact ⟨z', _, start (ev_neg h0 (ev_eq ht (ev_eq hu (ev_neg c0 (ev_neg c1 (ev_neg c2 (ev_pos c3 hz1))))))), by omega, by omega, ⟨by have := hz2.len; omega, hz2.row, hz2.w, hz2.cell⟩⟩
  · exact ⟨z, _, start (ev_neg h0 (ev_eq ht (ev_eq hu (ev_neg c0 (ev_neg c1 (ev_neg c2 (ev_neg c3 (ev_now rfl)))))))), by omega, by omega, wide⟩

theorem Drawn_.okI {m : Nat} {B : Int} {z : List S33} (h : Drawn_ m B z) (hB : B ≤ 1000000) : OkI z := fun x hx => ⟨fun y hy => okI_iff.2 (by have := h.cell x hx y hy; omega), okI_iff.2 (by have := h.w x hx; omega)⟩

theorem drawZText_ev (code : List Int) (hw : ∀ x ∈ code, (Lit.int .u8 x).wf = true) : ∃ z : List S33, Ev (fun k => spec_DrawZText.f k code) z ∧ Drawn_ 110 20000 z := by
  obtain ⟨b, hb, hcode⟩ := open_some code hw
  obtain ⟨z, q, hz, _, _, hd⟩ := l2Bent_ev hcode 0 (by omega) (by decide)
  refine ⟨z, ?_, hd⟩
  unfold spec_DrawZText.f
  exact ev_eq hb (hz.bind (ev_now rfl))

theorem tx_data (a : ByteArray) : a = tx a.data.toList := by
  apply ByteArray.ext
  simp [tx]
theorem tx_toList (l : List UInt8) : (tx l).data.toList = l := by simp [tx]
theorem tx_extract (l : List UInt8) (a b : Nat) : (tx l).extract a b = tx ((l.drop a).take (b - a)) := by
  rw [tx_data ((tx l).extract a b)]
  congr 1
  simp [tx, ByteArray.data_extract]
theorem bt_tx (l : List UInt8) (i : Nat) (h : i < l.length) : bt (tx l) (i : Int) = (l[i].toNat : Int) := by
  unfold bt
  have hs : (i : Int).toNat < (tx l).size := by rw [tx_size]; simpa using h
  rw [dif_pos hs]
  rfl
theorem dv_of (d : Nat) (h : d < 10) : Lib.digitVal (UInt8.ofNat (48 + d)) = some d := by
  rcases d with _ | _ | _ | _ | _ | _ | _ | _ | _ | _ | d
  all_goals first | rfl | omega
theorem dv_inv {c : UInt8} {d : Nat} (h : Lib.digitVal c = some d) : d < 10 ∧ c = UInt8.ofNat (48 + d) := by
  obtain ⟨h1, h2, h3⟩ := Lib.digitVal_eq h
  refine ⟨by omega, ?_⟩
  apply UInt8.toNat_inj.1
  rw [UInt8.toNat_ofNat']
  omega
theorem decFrom_snoc (l : List UInt8) (c : UInt8) : ∀ acc, Lib.decFrom acc (l ++ [c]) = (Lib.decFrom acc l).bind fun m => (Lib.digitVal c).map fun d => m * 10 + d := by
  induction l with
  | nil =>
    intro acc
    simp only [List.nil_append, Lib.decFrom, Option.bind_some]
    cases Lib.digitVal c <;> rfl
  | cons b l ih =>
    intro acc
    simp only [List.cons_append, Lib.decFrom]
    cases Lib.digitVal b with
    | none => rfl
    | some e => exact ih _
theorem dig_lt {u : Nat} (h : u < 10) : Lib.decDigits u = [UInt8.ofNat (48 + u)] := by rw [Lib.decDigits, dif_pos h]
theorem dig_ge {u : Nat} (h : ¬ u < 10) : Lib.decDigits u = Lib.decDigits (u / 10) ++ [UInt8.ofNat (48 + u % 10)] := by rw [Lib.decDigits, dif_neg h]
theorem decFrom_dig (u : Nat) : Lib.decFrom 0 (Lib.decDigits u) = some u := by
  induction u using Nat.strongRecOn with
  | ind u ih =>
    by_cases h : u < 10
    · rw [dig_lt h]
      simp only [Lib.decFrom, dv_of u h]
      simp
    · rw [dig_ge h, decFrom_snoc, ih (u / 10) (by omega), dv_of (u % 10) (by omega)]
      simp only [Option.bind_some, Option.map_some]
      congr 1
      omega
theorem dig_len (k u : Nat) (h : u < 10 ^ (k + 1)) : (Lib.decDigits u).length ≤ k + 1 := by
  induction k generalizing u with
  | zero => rw [dig_lt (by simpa using h)]; simp
  | succ k ih =>
    by_cases h1 : u < 10
    · rw [dig_lt h1]; simp
    · rw [dig_ge h1, List.length_append, List.length_singleton]
      have := ih (u / 10) (by rw [Nat.pow_succ] at h; omega)
      omega
theorem dig_head (u : Nat) : ∃ c l, Lib.decDigits u = c :: l ∧ 48 ≤ c.toNat ∧ c.toNat ≤ 57 ∧ (0 < u → c ≠ 48) := by
  induction u using Nat.strongRecOn with
  | ind u ih =>
    by_cases h : u < 10
    · rw [dig_lt h]
      refine ⟨_, _, rfl, ?_⟩
      rcases u with _ | _ | _ | _ | _ | _ | _ | _ | _ | _ | u
      all_goals first | (exfalso; omega) | decide
    · obtain ⟨c, l, h1, h2, h3, h4⟩ := ih (u / 10) (by omega)
      rw [dig_ge h, h1]
      exact ⟨c, l ++ [UInt8.ofNat (48 + u % 10)], rfl, h2, h3, fun _ => h4 (by omega)⟩
theorem dec_canon : ∀ (n : Nat) (l : List UInt8) (m : Nat), l.length = n + 1 → Lib.decFrom 0 l = some m → (l.head? ≠ some 48 ∨ l.length = 1) → Lib.decDigits m = l := by
  intro n
  induction n with
  | zero =>
    intro l m hl h _
    obtain ⟨b, rfl⟩ := List.length_eq_one_iff.1 (by omega : l.length = 1)
    simp only [Lib.decFrom] at h
    cases hb : Lib.digitVal b with
    | none => rw [hb] at h; cases h
    | some d =>
      rw [hb] at h
      obtain ⟨h1, h2⟩ := dv_inv hb
      have : m = d := by simpa using h.symm
      rw [this, dig_lt h1, h2]
  | succ n ih =>
    intro l m hl h hh
    rcases List.eq_nil_or_concat l with rfl | ⟨L, b, rfl⟩
    · simp at hl
    · rw [List.concat_eq_append] at *
      have hL : L.length = n + 1 := by simp at hl; omega
      rw [decFrom_snoc] at h
      cases hm : Lib.decFrom 0 L with
      | none => rw [hm] at h; cases h
      | some m' =>
        rw [hm, Option.bind_some] at h
        cases hb : Lib.digitVal b with
        | none => rw [hb] at h; cases h
        | some d =>
          rw [hb] at h
          obtain ⟨h1, h2⟩ := dv_inv hb
          have hmd : m = m' * 10 + d := by simpa using h.symm
          have hne : L.head? ≠ some 48 := by
            rcases hh with hh | hh
            · cases L with
              | nil => simp at hL
              | cons x L => simpa using hh
            · rw [List.length_append, List.length_singleton] at hh; omega
          have e := ih L m' hL hm (.inl hne)
          have hm1 : m' ≠ 0 := by
            intro e0
            rw [e0, dig_lt (by decide)] at e
            rw [← e] at hne
            exact hne rfl
          rw [dig_ge (by omega), show m / 10 = m' by omega, show m % 10 = d by omega, e, h2]
/-- what the reference reads as a number -/
def numM (neg : Bool) (d : List UInt8) : Int × Bool := match Lib.decFrom 0 d with | some m => (if neg = true then -(m : Int) else (m : Int), true) | none => (0, false)
def numF (l : List UInt8) : Int × Bool :=
  if l.head? = some 45 then (if l.tail = [] ∨ 17 < l.tail.length ∨ l.tail.head? = some 48 then (0, false) else numM true l.tail)
  else (if l = [] ∨ 17 < l.length ∨ (l.head? = some 48 ∧ 1 < l.length) then (0, false) else numM false l)
theorem decFrom_lt17 {d : List UInt8} {m : Nat} (h : Lib.decFrom 0 d = some m) (hl : d.length ≤ 17) : m < 100000000000000000 := by
  have h1 := Lib.decFrom_lt d 0 m h
  have h2 : 10 ^ d.length ≤ 10 ^ 17 := Nat.pow_le_pow_right (by decide) hl
  omega
theorem numF_sound {l : List UInt8} {n : Int} (h : numF l = (n, true)) : l = Lib.itoa n ∧ -100000000000000000 < n ∧ n < 100000000000000000 := by
  unfold numF at h
  by_cases h45 : l.head? = some 45
  · rw [if_pos h45] at h
    split at h
    · cases h
    · next hc =>
      have c1 : l.tail ≠ [] := fun e => hc (.inl e)
      have c2 : ¬ 17 < l.tail.length := fun e => hc (.inr (.inl e))
      have c3 : l.tail.head? ≠ some 48 := fun e => hc (.inr (.inr e))
      unfold numM at h
      cases hm : Lib.decFrom 0 l.tail with
      | none => rw [hm] at h; cases h
      | some m =>
        rw [hm] at h
        have hn : n = -(m : Int) := by simpa using h.symm
        have hb := decFrom_lt17 hm (by omega)
        obtain ⟨k, hk⟩ : ∃ k, l.tail.length = k + 1 := ⟨l.tail.length - 1, by have := List.length_pos_iff.2 c1; omega⟩
        have e := dec_canon k l.tail m hk hm (.inl c3)
        have hm0 : m ≠ 0 := by
          intro e0
          rw [e0, dig_lt (by decide)] at e
          rw [← e] at c3
          exact c3 rfl
        refine ⟨?_, by omega, by omega⟩
        unfold Lib.itoa
        rw [if_pos (by omega), show n.natAbs = m by omega, e]
        cases l with
        | nil => simp at h45
        | cons c r => simp at h45; rw [h45]; rfl
  · rw [if_neg h45] at h
    split at h
    · cases h
    · next hc =>
      have c1 : l ≠ [] := fun e => hc (.inl e)
      have c2 : ¬ 17 < l.length := fun e => hc (.inr (.inl e))
      unfold numM at h
      cases hm : Lib.decFrom 0 l with
      | none => rw [hm] at h; cases h
      | some m =>
        rw [hm] at h
        have hn : n = (m : Int) := by simpa using h.symm
        have hb := decFrom_lt17 hm (by omega)
        obtain ⟨k, hk⟩ : ∃ k, l.length = k + 1 := ⟨l.length - 1, by have := List.length_pos_iff.2 c1; omega⟩
        have e := dec_canon k l m hk hm (by
          by_cases h1 : l.head? = some 48
          · exact .inr (by
              have : ¬ 1 < l.length := fun e => hc (.inr (.inr ⟨h1, e⟩))
              omega)
          · exact .inl h1)
        refine ⟨?_, by omega, by omega⟩
        unfold Lib.itoa
        rw [if_neg (by omega), show n.toNat = m by omega, e]
theorem numF_itoa {n : Int} (h0 : -100000000000000000 < n) (h1 : n < 100000000000000000) : numF (Lib.itoa n) = (n, true) := by
  unfold Lib.itoa
  by_cases hn : n < 0
  · rw [if_pos hn]
    obtain ⟨c, l, e, h2, h3, h4⟩ := dig_head n.natAbs
    have hl := dig_len 16 n.natAbs (by have : (10 : Nat) ^ (16 + 1) = 100000000000000000 := by decide
                                       omega)
    unfold numF
    rw [if_pos (show (45 :: Lib.decDigits n.natAbs).head? = some 45 from rfl), if_neg]
    · unfold numM
      show (match Lib.decFrom 0 (Lib.decDigits n.natAbs) with | some m => (if true = true then -(m : Int) else (m : Int), true) | none => (0, false)) = _
      rw [decFrom_dig]
      simp only [if_true]
      congr 1
      omega
    · rintro (hc | hc | hc)
      · rw [List.tail_cons, e] at hc; cases hc
      · rw [List.tail_cons] at hc; omega
      · rw [List.tail_cons, e] at hc
        exact h4 (by omega) (by simpa using hc)
  · rw [if_neg hn]
    obtain ⟨c, l, e, h2, h3, h4⟩ := dig_head n.toNat
    have hl := dig_len 16 n.toNat (by have : (10 : Nat) ^ (16 + 1) = 100000000000000000 := by decide
                                      omega)
    have hc45 : c ≠ 45 := by rintro rfl; revert h2; decide
    unfold numF
    rw [if_neg (by rw [e]; simpa using hc45), if_neg]
    · unfold numM
      rw [decFrom_dig]
      simp only [Bool.false_eq_true, if_false]
      congr 1
      omega
    · rintro (hc | hc | ⟨hc, hc2⟩)
      · rw [e] at hc; cases hc
      · omega
      · by_cases hz : 0 < n.toNat
        · rw [e] at hc
          exact h4 hz (by simpa using hc)
        · rw [show n.toNat = 0 by omega, dig_lt (by decide)] at hc2
          simp at hc2
theorem atoi_itoa {n : Int} (h0 : -100000000000000000 < n) (h1 : n < 100000000000000000) : Lib.atoiAll (Lib.itoa n) = .ok n := by
  unfold Lib.itoa
  by_cases hn : n < 0
  · rw [if_pos hn]
    obtain ⟨c, l, e, h2, h3, h4⟩ := dig_head n.natAbs
    have hl := dig_len 16 n.natAbs (by have : (10 : Nat) ^ (16 + 1) = 100000000000000000 := by decide
                                       omega)
    rw [Lib.atoiAll_short _ (by rw [List.length_cons]; omega)]
    have : Lib.decNat (Lib.decDigits n.natAbs) = some n.natAbs := by
      unfold Lib.decNat
      rw [e, List.isEmpty_cons, if_neg (by decide), ← e, decFrom_dig]
    simp only [Lib.atoi, beq_self_eq_true, if_true, this, Option.map_some, Lib.NumEnd.ofOption]
    congr 1
    omega
  · rw [if_neg hn]
    obtain ⟨c, l, e, h2, h3, h4⟩ := dig_head n.toNat
    have hl := dig_len 16 n.toNat (by have : (10 : Nat) ^ (16 + 1) = 100000000000000000 := by decide
                                      omega)
    have hc45 : c ≠ 45 := by rintro rfl; revert h2; decide
    have hc43 : c ≠ 43 := by rintro rfl; revert h2; decide
    rw [Lib.atoiAll_short _ (by omega)]
    have : Lib.decNat (c :: l) = some n.toNat := by
      unfold Lib.decNat
      rw [List.isEmpty_cons, if_neg (by decide), ← e, decFrom_dig]
    rw [e]
    simp only [Lib.atoi]
    rw [if_neg (by simpa using hc45), if_neg (by simpa using hc43), this]
    simp only [Option.map_some, Lib.NumEnd.ofOption]
    congr 1
    omega

/-- the pieces of a text between bytes c -/
def cutG (c : UInt8) : List UInt8 → List UInt8 → List (List UInt8)
  | cur, [] => [cur]
  | cur, x :: l => if x = c then cur :: cutG c [] l else cutG c (cur ++ [x]) l
theorem take_one (l : List UInt8) (f i : Nat) (h : f ≤ i) (hi : i < l.length) : (l.drop f).take (i + 1 - f) = (l.drop f).take (i - f) ++ [l[i]] := by
  rw [show i + 1 - f = (i - f) + 1 by omega, List.take_add, List.drop_drop, show f + (i - f) = i by omega, List.drop_eq_getElem_cons hi]
  rfl
theorem cutG_skip (c : UInt8) : ∀ (m l cur : List UInt8), (∀ x ∈ m, x ≠ c) → cutG c cur (m ++ l) = cutG c (cur ++ m) l := by
  intro m
  induction m with
  | nil => intro l cur _; simp
  | cons x m ih =>
    intro l cur h
    rw [List.cons_append, cutG, if_neg (h x List.mem_cons_self), ih _ _ (fun y hy => h y (List.mem_cons_of_mem _ hy)), List.append_assoc]
    rfl
theorem cutG_len (c : UInt8) : ∀ (l cur : List UInt8), ∀ p ∈ cutG c cur l, p.length ≤ cur.length + l.length := by
  intro l
  induction l with
  | nil => intro cur p hp; simp [cutG] at hp; subst hp; simp
  | cons x l ih =>
    intro cur p hp
    rw [cutG] at hp
    by_cases h : x = c
    · rw [if_pos h] at hp
      rcases List.mem_cons.1 hp with rfl | hp
      · simp
      · have := ih [] p hp
        simp at this ⊢
        omega
    · rw [if_neg h] at hp
      have := ih _ p hp
      simp at this ⊢
      omega
theorem cutG_many (c : UInt8) : ∀ (l cur : List UInt8), (cutG c cur l).length ≤ l.length + 1 := by
  intro l
  induction l with
  | nil => intro cur; simp [cutG]
  | cons x l ih =>
    intro cur
    rw [cutG]
    split
    · have := ih []; simp; omega
    · have := ih (cur ++ [x]); simp; omega
/-- pieces put together again -/
def joinP (c : UInt8) : List (List UInt8) → List UInt8
  | [] => []
  | p :: ps => p ++ (ps.map (c :: ·)).flatten
theorem cutG_ne (c : UInt8) : ∀ (l cur : List UInt8), cutG c cur l ≠ [] := by
  intro l
  induction l with
  | nil => intro cur; simp [cutG]
  | cons x l ih => intro cur; rw [cutG]; split <;> simp [ih]
theorem joinP_cons (c : UInt8) (p : List UInt8) (ps : List (List UInt8)) (h : ps ≠ []) : joinP c (p :: ps) = p ++ c :: joinP c ps := by
  cases ps with
  | nil => exact absurd rfl h
  | cons q ps => simp [joinP]
theorem cutG_join (c : UInt8) : ∀ (l cur : List UInt8), joinP c (cutG c cur l) = cur ++ l := by
  intro l
  induction l with
  | nil => intro cur; simp [cutG, joinP]
  | cons x l ih =>
    intro cur
    rw [cutG]
    by_cases h : x = c
    · rw [if_pos h, joinP_cons _ _ _ (cutG_ne c l []), ih [], h]
      rfl
    · rw [if_neg h, ih, List.append_assoc]
      rfl
theorem dig_bytes (u : Nat) : ∀ c ∈ Lib.decDigits u, 48 ≤ c.toNat ∧ c.toNat ≤ 57 := by
  induction u using Nat.strongRecOn with
  | ind u ih =>
    have one : ∀ d, d < 10 → 48 ≤ (UInt8.ofNat (48 + d)).toNat ∧ (UInt8.ofNat (48 + d)).toNat ≤ 57 := by
      intro d hd
      rw [UInt8.toNat_ofNat']
      omega
    intro c hc
    by_cases h : u < 10
    · rw [dig_lt h, List.mem_singleton] at hc
      rw [hc]
      exact one u h
    · rw [dig_ge h, List.mem_append, List.mem_singleton] at hc
      rcases hc with hc | hc
      · exact ih (u / 10) (by omega) c hc
      · rw [hc]
        exact one _ (by omega)
theorem itoa_bytes (n : Int) : ∀ c ∈ Lib.itoa n, c.toNat = 45 ∨ (48 ≤ c.toNat ∧ c.toNat ≤ 57) := by
  intro c hc
  unfold Lib.itoa at hc
  split at hc
  · rcases List.mem_cons.1 hc with rfl | hc
    · exact .inl rfl
    · exact .inr (dig_bytes _ c hc)
  · exact .inr (dig_bytes _ c hc)
theorem itoa_no (n : Int) (b : UInt8) (hb : b.toNat < 45) : ∀ c ∈ Lib.itoa n, c ≠ b := by
  intro c hc e
  have := itoa_bytes n c hc
  rw [e] at this
  omega

theorem rowB_join : ∀ rs : List Int, rowB rs = joinP 44 (rs.map Lib.itoa) := by
  intro rs
  cases rs with
  | nil => rfl
  | cons x l => simp only [rowB, tailB, joinP, List.map_cons, List.map_map]; rfl
theorem cut_row : ∀ (l : List Int) (x : Int), cutG 44 [] (rowB (x :: l)) = (x :: l).map Lib.itoa := by
  intro l
  induction l with
  | nil =>
    intro x
    rw [rowB, show tailB [] = [] from rfl, cutG_skip 44 _ _ _ (itoa_no x 44 (by decide))]
    rfl
  | cons y l ih =>
    intro x
    rw [rowB, show tailB (y :: l) = 44 :: rowB (y :: l) by simp [tailB, rowB], cutG_skip 44 _ _ _ (itoa_no x 44 (by decide)), List.nil_append, cutG, if_pos rfl, ih y]
    rfl
/-- pieces read as numbers -/
def numsF : List (List UInt8) → Option (List Int)
  | [] => some []
  | p :: ps => if (numF p).2 = true then (numsF ps).map ((numF p).1 :: ·) else none
theorem numsF_sound : ∀ (ps : List (List UInt8)) (rs : List Int), numsF ps = some rs → ps = rs.map Lib.itoa ∧ ∀ x ∈ rs, -100000000000000000 < x ∧ x < 100000000000000000 := by
  intro ps
  induction ps with
  | nil => intro rs h; simp [numsF] at h; subst h; simp
  | cons p ps ih =>
    intro rs h
    rw [numsF] at h
    by_cases hp : (numF p).2 = true
    · rw [if_pos hp] at h
      cases hq : numsF ps with
      | none => rw [hq] at h; cases h
      | some r =>
        rw [hq] at h
        have hr : rs = (numF p).1 :: r := by simpa using h.symm
        obtain ⟨e1, e2⟩ := ih r hq
        obtain ⟨s1, s2, s3⟩ := numF_sound (l := p) (n := (numF p).1) (Prod.ext rfl hp)
        subst hr
        refine ⟨?_, ?_⟩
        · rw [List.map_cons, ← e1, ← s1]
        · intro x hx
          rcases List.mem_cons.1 hx with rfl | hx
          · exact ⟨s2, s3⟩
          · exact e2 x hx
    · rw [if_neg hp] at h; cases h
theorem numsF_itoa : ∀ (rs : List Int), (∀ x ∈ rs, -100000000000000000 < x ∧ x < 100000000000000000) → numsF (rs.map Lib.itoa) = some rs := by
  intro rs
  induction rs with
  | nil => intro _; rfl
  | cons x rs ih =>
    intro h
    have hx := h x List.mem_cons_self
    rw [List.map_cons, numsF, numF_itoa hx.1 hx.2, if_pos rfl, ih (fun y hy => h y (List.mem_cons_of_mem _ hy))]
    rfl
def atois : List Int → List (List UInt8) → Option (List Int)
  | rs, [] => some rs
  | rs, p :: ps => match Lib.atoiAll p with | .ok v => atois (rs ++ [v]) ps | _ => none
theorem atois_itoa : ∀ (rs acc : List Int), (∀ x ∈ rs, -100000000000000000 < x ∧ x < 100000000000000000) → atois acc (rs.map Lib.itoa) = some (acc ++ rs) := by
  intro rs
  induction rs with
  | nil => intro acc _; simp [atois]
  | cons x rs ih =>
    intro acc h
    have hx := h x List.mem_cons_self
    rw [List.map_cons, atois, atoi_itoa hx.1 hx.2]
    show atois (acc ++ [x]) (rs.map Lib.itoa) = _
    rw [ih _ (fun y hy => h y (List.mem_cons_of_mem _ hy)), List.append_assoc]
    rfl
/-- what RowRead tells -/
def readR (l : List UInt8) : List Int × Bool := if l.length > 100 then ([], false) else match numsF (cutG 44 [] l) with | some rs => (if okRow rs = true then (rs, true) else ([], false)) | none => ([], false)
theorem okRow_mem {r : List Int} (h : okRow r = true) : 1 ≤ r.length ∧ r.length ≤ 6 ∧ ∀ x ∈ r, -1000000000 ≤ x ∧ x ≤ 1000000000 := by
  unfold okRow at h
  simp only [Bool.and_eq_true, decide_eq_true_eq, List.all_eq_true] at h
  exact ⟨h.1.1, h.1.2, fun x hx => by have := h.2 x hx; unfold cellB at this; simpa using this⟩
theorem readR_len (l : List UInt8) : (readR l).1.length ≤ 6 := by
  unfold readR
  split
  · simp
  · split
    · split
      · next h => exact (okRow_mem h).2.1
      · simp
    · simp

theorem itoa_len {x : Int} (h0 : -1000000001 ≤ x) (h1 : x ≤ 1000000001) : (Lib.itoa x).length ≤ 11 := by
  have p : (10 : Nat) ^ (9 + 1) = 10000000000 := rfl
  unfold Lib.itoa
  split
  · rw [List.length_cons]
    have := dig_len 9 x.natAbs (by omega)
    omega
  · have := dig_len 9 x.toNat (by omega)
    omega
theorem rowB_len11 : ∀ l : List Int, (∀ x ∈ l, -1000000001 ≤ x ∧ x ≤ 1000000001) → (rowB l).length ≤ 12 * l.length := by
  intro l h
  have ht : ∀ l : List Int, (∀ x ∈ l, -1000000001 ≤ x ∧ x ≤ 1000000001) → (tailB l).length ≤ 12 * l.length := by
    intro l
    induction l with
    | nil => intro _; simp [tailB]
    | cons x l ih =>
      intro h
      have := ih (fun y hy => h y (List.mem_cons_of_mem _ hy))
      have hx := h x List.mem_cons_self
      have := itoa_len hx.1 hx.2
      unfold tailB at *
      simp only [List.map_cons, List.flatten_cons, List.length_append, List.length_cons] at *
      omega
  cases l with
  | nil => simp [rowB]
  | cons x l =>
    have := ht l (fun y hy => h y (List.mem_cons_of_mem _ hy))
    have hx := h x List.mem_cons_self
    have := itoa_len hx.1 hx.2
    rw [rowB, List.length_append, List.length_cons]
    omega
/-- a row's text is read as the row, if the row is ok -/
theorem readR_rowB (r : List Int) (h : ∀ x ∈ r, -1000000001 ≤ x ∧ x ≤ 1000000001) : readR (rowB r) = if okRow r = true then (r, true) else ([], false) := by
  cases r with
  | nil => rfl
  | cons x l =>
    unfold readR
    by_cases h0 : (rowB (x :: l)).length > 100
    · rw [if_pos h0, if_neg]
      intro hk
      have := (okRow_mem hk).2.1
      have := rowB_len11 _ h
      omega
    · rw [if_neg h0, cut_row, numsF_itoa _ (fun y hy => by have := h y hy; omega)]
theorem readR_true {l : List UInt8} {y : List Int} (h : readR l = (y, true)) : rowB y = l ∧ okRow y = true := by
  unfold readR at h
  by_cases h0 : l.length > 100
  · rw [if_pos h0] at h; cases h
  rw [if_neg h0] at h
  cases hs : numsF (cutG 44 [] l) with
  | none => rw [hs] at h; cases h
  | some rs =>
    rw [hs] at h
    simp only at h
    by_cases hk : okRow rs = true
    · rw [if_pos hk] at h
      injection h with h _
      subst h
      refine ⟨?_, hk⟩
      have := cutG_join 44 l []
      rw [(numsF_sound _ _ hs).1, ← rowB_join] at this
      exact this
    · rw [if_neg hk] at h; cases h

/-- a word at its first star -/
def cutW : List UInt8 → Option (List UInt8 × List UInt8)
  | [] => none
  | c :: l => if c = 42 then some ([], l) else (cutW l).map fun z => (c :: z.1, z.2)
theorem cutW_some : ∀ (l p q : List UInt8), cutW l = some (p, q) → l = p ++ 42 :: q ∧ ∀ c ∈ p, c ≠ 42 := by
  intro l
  induction l with
  | nil => intro p q h; cases h
  | cons c l ih =>
    intro p q h
    rw [cutW] at h
    by_cases hc : c = 42
    · rw [if_pos hc] at h
      simp only [Option.some.injEq, Prod.mk.injEq] at h
      obtain ⟨rfl, rfl⟩ := h
      exact ⟨by rw [hc]; rfl, by simp⟩
    · rw [if_neg hc] at h
      obtain ⟨⟨p1, q1⟩, h1, h2⟩ := Option.map_eq_some_iff.1 h
      simp only [Prod.mk.injEq] at h2
      obtain ⟨rfl, rfl⟩ := h2
      obtain ⟨e1, e2⟩ := ih _ _ h1
      exact ⟨by rw [e1]; rfl, fun x hx => by rcases List.mem_cons.1 hx with rfl | hx; exact hc; exact e2 x hx⟩
theorem cutW_none : ∀ (l : List UInt8), cutW l = none → ∀ c ∈ l, c ≠ 42 := by
  intro l
  induction l with
  | nil => intro _ c h; cases h
  | cons c l ih =>
    intro h x hx
    rw [cutW] at h
    by_cases hc : c = 42
    · rw [if_pos hc] at h; cases h
    · rw [if_neg hc, Option.map_eq_none_iff] at h
      rcases List.mem_cons.1 hx with rfl | hx
      · exact hc
      · exact ih h x hx
theorem cutW_of : ∀ (p q : List UInt8), (∀ c ∈ p, c ≠ 42) → cutW (p ++ 42 :: q) = some (p, q) := by
  intro p
  induction p with
  | nil => intro q _; rw [List.nil_append, cutW, if_pos rfl]
  | cons c p ih =>
    intro q h
    rw [List.cons_append, cutW, if_neg (h c List.mem_cons_self), ih q (fun x hx => h x (List.mem_cons_of_mem _ hx))]
    rfl
/-- an item's word, read -/
def readI (w : List UInt8) : Option S33 := match cutW w with | none => none | some z => if (readR z.1).2 = true then (if (numF z.2).2 = true then some ⟨(readR z.1).1, (numF z.2).1⟩ else none) else none
def itemsF : List (List UInt8) → Option (List S33)
  | [] => some []
  | w :: ws => match readI w with | none => none | some x => (itemsF ws).map (x :: ·)
/-- what ZRead tells -/
def readZ (l : List UInt8) : List S33 × Bool := if l = [] then ([], true) else if l.length > 9000 then ([], false) else match itemsF (cutG 32 [] l) with | some z => (if okZ z = true then (z, true) else ([], false)) | none => ([], false)
theorem rowB_no (r : List Int) (b : UInt8) (hb : b.toNat < 44) : ∀ c ∈ rowB r, c ≠ b := by
  have h44 : (44 : UInt8) ≠ b := by intro e; subst e; exact absurd hb (by decide)
  have ht : ∀ l : List Int, ∀ c ∈ tailB l, c ≠ b := by
    intro l c hc
    unfold tailB at hc
    obtain ⟨s, hs, hcs⟩ := List.mem_flatten.1 hc
    obtain ⟨x, _, rfl⟩ := List.mem_map.1 hs
    rcases List.mem_cons.1 hcs with rfl | h
    · exact h44
    · exact itoa_no x b (by omega) c h
  cases r with
  | nil => intro c hc; cases hc
  | cons x l =>
    intro c hc
    rw [rowB] at hc
    rcases List.mem_append.1 hc with h | h
    · exact itoa_no x b (by omega) c h
    · exact ht l c h
/-- an item that is read back -/
def GoodI (x : S33) : Prop := okRow x.f0 = true ∧ -100000000000000000 < x.f1 ∧ x.f1 < 100000000000000000
theorem readI_itemB {x : S33} (h : GoodI x) : readI (itemB x) = some x := by
  unfold readI itemB
  rw [cutW_of _ _ (rowB_no x.f0 42 (by decide))]
  simp only
  rw [readR_rowB x.f0 (fun y hy => by have := (okRow_mem h.1).2.2 y hy; omega), if_pos h.1, numF_itoa h.2.1 h.2.2]
  rfl
theorem readI_sound {w : List UInt8} {x : S33} (h : readI w = some x) : w = itemB x ∧ GoodI x := by
  unfold readI at h
  cases hc : cutW w with
  | none => rw [hc] at h; cases h
  | some z =>
    obtain ⟨p, q⟩ := z
    rw [hc] at h
    simp only at h
    by_cases h1 : (readR p).2 = true
    · rw [if_pos h1] at h
      by_cases h2 : (numF q).2 = true
      · rw [if_pos h2] at h
        obtain rfl := Option.some.inj h
        obtain ⟨e1, e2⟩ := readR_true (l := p) (y := (readR p).1) (Prod.ext rfl h1)
        obtain ⟨s1, s2, s3⟩ := numF_sound (l := q) (n := (numF q).1) (Prod.ext rfl h2)
        refine ⟨?_, e2, s2, s3⟩
        unfold itemB
        simp only
        rw [e1, ← s1]
        exact (cutW_some _ _ _ hc).1
      · rw [if_neg h2] at h; cases h
    · rw [if_neg h1] at h; cases h
theorem itemsF_sound : ∀ (ws : List (List UInt8)) (z : List S33), itemsF ws = some z → ws = z.map itemB ∧ ∀ x ∈ z, GoodI x := by
  intro ws
  induction ws with
  | nil => intro z h; simp [itemsF] at h; subst h; simp
  | cons w ws ih =>
    intro z h
    rw [itemsF] at h
    cases hr : readI w with
    | none => rw [hr] at h; cases h
    | some x =>
      rw [hr] at h
      obtain ⟨z1, h1, rfl⟩ := Option.map_eq_some_iff.1 h
      obtain ⟨e1, e2⟩ := ih _ h1
      obtain ⟨s1, s2⟩ := readI_sound hr
      exact ⟨by rw [List.map_cons, ← e1, ← s1], fun y hy => by rcases List.mem_cons.1 hy with rfl | hy; exact s2; exact e2 y hy⟩
theorem itemsF_map : ∀ z : List S33, (∀ x ∈ z, GoodI x) → itemsF (z.map itemB) = some z := by
  intro z
  induction z with
  | nil => intro _; rfl
  | cons x z ih =>
    intro h
    rw [List.map_cons, itemsF, readI_itemB (h x List.mem_cons_self), ih (fun y hy => h y (List.mem_cons_of_mem _ hy))]
    rfl
theorem itemB_no (x : S33) : ∀ c ∈ itemB x, c ≠ 32 := by
  intro c hc
  unfold itemB at hc
  rcases List.mem_append.1 hc with h | h
  · exact rowB_no x.f0 32 (by decide) c h
  · rcases List.mem_cons.1 h with rfl | h
    · decide
    · exact itoa_no x.f1 32 (by decide) c h
theorem cutZ : ∀ (z : List S33) (x : S33), cutG 32 [] (textZ (x :: z)) = (x :: z).map itemB := by
  intro z
  induction z with
  | nil =>
    intro x
    rw [textZ, show tailZ [] = [] from rfl, cutG_skip 32 _ _ _ (itemB_no x)]
    rfl
  | cons y z ih =>
    intro x
    rw [textZ, show tailZ (y :: z) = 32 :: textZ (y :: z) by simp [tailZ, textZ], cutG_skip 32 _ _ _ (itemB_no x), List.nil_append, cutG, if_pos rfl, ih y]
    rfl
theorem textZ_joinP : ∀ z : List S33, textZ z = joinP 32 (z.map itemB) := by
  intro z
  cases z with
  | nil => rfl
  | cons x z =>
    rw [← cutZ, cutG_join]
    rfl
theorem itemsF_text {l : List UInt8} {z : List S33} (h : itemsF (cutG 32 [] l) = some z) : textZ z = l := by
  have := cutG_join 32 l []
  rw [(itemsF_sound _ _ h).1, ← textZ_joinP] at this
  exact this
theorem okZ_good {z : List S33} (h : okZ z = true) : ∀ x ∈ z, GoodI x := by
  have hw : ∀ (z : List S33) (p : Option (List Int)), chain p z = true → ∀ x ∈ z, okRow x.f0 = true ∧ okW x.f1 = true := by
    intro z
    induction z with
    | nil => intro _ _ x hx; cases hx
    | cons y z ih =>
      intro p hp x hx
      rw [chain_cons] at hp
      simp only [Bool.and_eq_true] at hp
      rcases List.mem_cons.1 hx with rfl | hx
      · exact ⟨hp.1, hp.2.1⟩
      · exact ih _ hp.2.2.2 x hx
  intro x hx
  unfold okZ at h
  simp only [Bool.and_eq_true] at h
  obtain ⟨h1, h2⟩ := hw z none h.2 x hx
  unfold okW at h2
  simp only [Bool.and_eq_true, decide_eq_true_eq] at h2
  exact ⟨h1, by omega, by omega⟩
theorem good_ok {z : List S33} (h : ∀ x ∈ z, GoodI x) : OkI z := fun x hx => ⟨fun y hy => okI_iff.2 (by have := (okRow_mem (h x hx).1).2.2 y hy; omega), okI_iff.2 (by have := (h x hx).2; omega)⟩
theorem readZ_small (l : List UInt8) : (readZ l).1.length ≤ 9001 ∧ ∀ x ∈ (readZ l).1, x.f0.length ≤ 6 := by
  unfold readZ
  split
  · exact ⟨by simp, by simp⟩
  · split
    · exact ⟨by simp, by simp⟩
    · split
      · next hs =>
        split
        · next hk =>
          have hm := cutG_many 32 l []
          obtain ⟨e1, e2⟩ := itemsF_sound _ _ hs
          rw [e1, List.length_map] at hm
          exact ⟨by simp only; omega, fun x hx => (okRow_mem (e2 x hx).1).2.1⟩
        · exact ⟨by simp, by simp⟩
      · exact ⟨by simp, by simp⟩

theorem implCell (n : Int) : impl_isCell.f n = some (cellB n) := by
  unfold impl_isCell.f cellB
  by_cases h : n ≥ -1000000000
  · rw [if_pos h]; simp; omega
  · rw [if_neg h]; simp; omega
theorem implIndex_ev (r : List Int) (hr : r.length < 4611686018427387904) : ∃ j : Int, Ev (fun k => slices_IndexFunc_int_int__impl_RowOk_1.f k r) j ∧ (decide (j ≥ 0) = !r.all cellB) := by
  have h : ∀ i, i ≤ r.length → ∃ j : Int, Ev (fun k => slices_IndexFunc_int_int__impl_RowOk_1.l0 k r (r.length : Int) (i : Int)) j ∧ (decide (j ≥ 0) = !(r.drop i).all cellB) := by
    have go : ∀ d i, i + d = r.length → ∃ j : Int, Ev (fun k => slices_IndexFunc_int_int__impl_RowOk_1.l0 k r (r.length : Int) (i : Int)) j ∧ (decide (j ≥ 0) = !(r.drop i).all cellB) := by
      intro d
      induction d with
      | zero =>
        intro i h
        refine ⟨-1, Ev.step (fun k => slices_IndexFunc_int_int__impl_RowOk_1.l0.eq_2 ..) (ev_neg (by omega) (ev_now rfl)), ?_⟩
        rw [drop_end r i (by omega)]; rfl
      | succ d ih =>
        intro i h
        obtain ⟨j, hj, hk⟩ := ih (i + 1) (by omega)
        have e1 : impl_RowOk_1.f (rd r i) = some (!cellB (rd r i)) := by unfold impl_RowOk_1.f; rw [implCell]; rfl
        rw [drop_rd r i (by omega), List.all_cons]
        cases hc : cellB (rd r i) with
        | true =>
          refine ⟨j, Ev.step (fun k => slices_IndexFunc_int_int__impl_RowOk_1.l0.eq_2 ..) (ev_pos (by omega) (ev_pos (by omega) (ev_pos (by omega) (ev_eq e1 (ev_neg (by rw [hc]; decide) ?_))))), by simpa using hk⟩
          rw [w64n (by omega)]
          exact hj
        | false =>
          refine ⟨(i : Int), Ev.step (fun k => slices_IndexFunc_int_int__impl_RowOk_1.l0.eq_2 ..) (ev_pos (by omega) (ev_pos (by omega) (ev_pos (by omega) (ev_eq e1 (ev_pos (by rw [hc]; rfl) (ev_now rfl)))))), ?_⟩
          simp
    exact fun i hi => go (r.length - i) i (by omega)
  obtain ⟨j, hj, hk⟩ := h 0 (by omega)
  exact ⟨j, by simpa [slices_IndexFunc_int_int__impl_RowOk_1.f] using hj, by simpa using hk⟩
theorem implRowOk_ev (r : List Int) (hr : r.length < 4611686018427387904) : Ev (fun k => impl_RowOk.f k r) (okRow r) := by
  obtain ⟨j, hj, hk⟩ := implIndex_ev r hr
  have hc : Ev (fun k => slices_ContainsFunc_int_int__impl_RowOk_1.f k r) (!r.all cellB) := by
    unfold slices_ContainsFunc_int_int__impl_RowOk_1.f
    exact hj.bind (ev_now hk)
  unfold impl_RowOk.f okRow
  by_cases h1 : 1 ≤ r.length
  · refine ev_pos (by omega) ?_
    by_cases h2 : r.length ≤ 6
    · exact ev_pos (by omega) (hc.bind (ev_now (by simp [h1, h2])))
    · exact ev_neg (by omega) (ev_now (by simp [h2]))
  · exact ev_neg (by omega) (ev_now (by simp [h1]))

theorem cmpInt (a b : Int) : cmp_Compare_int.f a b = some (if a < b then -1 else if b < a then 1 else 0) := by
  unfold cmp_Compare_int.f cmp_isNaN_int.f
  simp only [bne_self_eq_false, Option.bind_some, Bool.false_eq_true, if_false]
  by_cases h1 : a < b
  · rw [if_pos h1, if_pos h1]
  · rw [if_neg h1, if_neg h1]
    by_cases h2 : b < a
    · rw [if_pos h2, if_pos h2]
    · rw [if_neg h2, if_neg h2]
theorem compare_ev (a b : List Int) (ha : a.length < 4611686018427387904) : Ev (fun k => slices_Compare_int_int.f k a b) (lexc a b) := by
  unfold slices_Compare_int_int.f
  have h := ev_down (fun k i => slices_Compare_int_int.l0 k a b a (a.length : Int) (i : Int)) (fun i => lexc (a.drop i) (b.drop i)) (min a.length b.length) ?_ ?_ 0 (by omega)
  · simpa using h
  · by_cases hb : a.length ≤ b.length
    · rw [Nat.min_eq_left hb]
      refine Ev.step (fun k => slices_Compare_int_int.l0.eq_2 ..) (ev_neg (by omega) ?_)
      rw [drop_end a _ (Nat.le_refl _)]
      by_cases h1 : a.length < b.length
      · refine ev_pos (by omega) (ev_now ?_)
        rw [drop_rd b _ h1]; rfl
      · refine ev_neg (by omega) (ev_now ?_)
        rw [drop_end b _ (by omega)]; rfl
    · rw [Nat.min_eq_right (by omega)]
      refine Ev.step (fun k => slices_Compare_int_int.l0.eq_2 ..) (ev_pos (by omega) (ev_pos (by omega) (ev_pos (by omega) (ev_pos (by omega) (ev_now ?_)))))
      rw [drop_end b _ (Nat.le_refl _), drop_rd a _ (by omega)]; rfl
  · intro i hi ih
    have h1 : i < a.length := by omega
    have h2 : i < b.length := by omega
    refine Ev.step (fun k => slices_Compare_int_int.l0.eq_2 ..) (ev_pos (by omega) (ev_pos (by omega) (ev_pos (by omega) (ev_neg (by omega) (ev_pos (by omega) (ev_eq (cmpInt _ _) ?_))))))
    rw [drop_rd a i h1, drop_rd b i h2]
    simp only [lexc]
    by_cases c1 : rd a i < rd b i
    · rw [if_pos c1]
      exact ev_neg (by decide) (ev_now (by rw [if_pos c1]))
    · rw [if_neg c1, if_neg c1]
      by_cases c2 : rd b i < rd a i
      · rw [if_pos c2]
        exact ev_neg (by decide) (ev_now (by rw [if_pos c2]))
      · rw [if_neg c2, if_neg c2]
        refine ev_pos rfl ?_
        rw [w64n (by omega)]
        exact ih

theorem implLess_ev (a b : List Int) (ha : a.length < 4611686018427387904) : Ev (fun k => impl_RowLess.f k a b) (decide (lexc a b < 0)) := by
  unfold impl_RowLess.f
  exact (compare_ev a b ha).bind (ev_now rfl)

theorem implZOk_ev (z : List S33) (hs : Small z) : Ev (fun k => impl_ZOk.f k z) (okZ z) := by
  have hz := hs.len
  unfold impl_ZOk.f okZ
  by_cases hl : (z.length : Int) > 100
  · exact ev_pos hl (ev_now (by rw [decide_eq_false (by omega)]; rfl))
  refine ev_neg hl ?_
  rw [decide_eq_true (by omega : z.length ≤ 100), Bool.true_and]
  have h := ev_down (fun k i => impl_ZOk.l0 k z z (z.length : Int) (i : Int)) (fun i => chain (ahead z i) (z.drop i)) z.length ?_ ?_ 0 (by omega)
  · simpa [ahead] using h
  · refine Ev.step (fun k => impl_ZOk.l0.eq_2 ..) (ev_neg (by omega) (ev_now ?_))
    rw [drop_end z _ (Nat.le_refl _), chain_nil]
  · intro i hi ih
    have hr := hs.row _ (List.getElem_mem hi)
    refine Ev.step (fun k => impl_ZOk.l0.eq_2 ..) (ev_pos (by omega) (ev_pos (by omega) (ev_pos (by omega) ?_)))
    rw [rdI_at z i hi, drop_at z i hi, chain_cons]
    refine (implRowOk_ev z[i].f0 (by omega)).bind ?_
    cases hok : okRow z[i].f0 with
    | false => exact ev_neg (by simp) (ev_now (by simp))
    | true =>
      refine ev_pos rfl ?_
      by_cases w1 : z[i].f1 < -10000
      · exact ev_pos w1 (ev_now (by unfold okW; simp; omega))
      refine ev_neg w1 ?_
      by_cases w2 : z[i].f1 > 10000
      · exact ev_pos w2 (ev_now (by unfold okW; simp; omega))
      refine ev_neg w2 ?_
      by_cases w3 : z[i].f1 = 0
      · exact ev_pos w3 (ev_now (by unfold okW; simp [w3]))
      refine ev_neg w3 ?_
      have hw : okW z[i].f1 = true := by unfold okW; simp [w3]; omega
      rw [hw]
      rw [w64n (by omega)]
      rw [ahead_succ z i hi] at ih
      by_cases h0 : (i : Int) > 0
      · have hi1 : i - 1 < z.length := by omega
        have e : wrap64 ((i : Int) - 1) = ((i - 1 : Nat) : Int) := by rw [w64 (by omega) (by omega)]; omega
        have ha : ahead z i = some z[i - 1].f0 := by unfold ahead; rw [if_neg (by omega), List.getElem?_eq_getElem hi1]; rfl
        have hr1 := hs.row _ (List.getElem_mem hi1)
        rw [e]
        refine ev_pos h0 (ev_pos (by omega) (ev_pos (by omega) ?_))
        rw [rdI_at z (i - 1) hi1, ha]
        refine (implLess_ev z[i - 1].f0 z[i].f0 (by omega)).bind ?_
        by_cases hl : lexc z[i - 1].f0 z[i].f0 < 0
        · refine ev_pos (decide_eq_true hl) ?_
          simpa [hl] using ih
        · exact ev_neg (by simpa using hl) (ev_now (by simp [hl]))
      · have ha : ahead z i = none := by unfold ahead; rw [if_pos (by omega)]
        rw [ha]
        refine ev_neg h0 ?_
        simpa using ih

theorem goB_atois : ∀ (l cur : List UInt8) (rs : List Int), goB cur rs (l ++ [44]) = atois rs (cutG 44 cur l) := by
  intro l
  induction l with
  | nil =>
    intro cur rs
    rw [List.nil_append, goB, if_pos rfl, cutG, atois]
    cases Lib.atoiAll cur with
    | ok v => rfl
    | range => rfl
    | _ => rfl
  | cons x l ih =>
    intro cur rs
    rw [List.cons_append, goB, cutG]
    by_cases h : x = 44
    · rw [if_pos h, if_pos h, atois]
      cases Lib.atoiAll cur with
      | ok v => exact ih [] _
      | range => rfl
      | _ => rfl
    · rw [if_neg h, if_neg h]
      exact ih _ _
theorem implRead_ev (l : List UInt8) : Ev (fun k => impl_RowRead.f k (tx l)) (readR l) := by
  unfold impl_RowRead.f readR
  rw [tx_size, tx_toList]
  by_cases h0 : l.length > 100
  · rw [if_pos h0]
    exact ev_pos h0 (ev_now rfl)
  rw [if_neg h0, goB_atois]
  refine ev_neg h0 ?_
  cases hs : numsF (cutG 44 [] l) with
  | some rs =>
    obtain ⟨e1, e2⟩ := numsF_sound _ _ hs
    have ha := atois_itoa rs [] e2
    rw [← e1, List.nil_append] at ha
    rw [ha]
    have hlen : rs.length ≤ 101 := by
      have := congrArg List.length e1
      have h1 := cutG_many 44 l []
      rw [List.length_map] at this
      omega
    refine (implRowOk_ev rs (by omega)).bind ?_
    by_cases hk : okRow rs = true
    · simp only [hk, if_true]
      have hj : rowB rs = l := by
        have := cutG_join 44 l []
        rw [e1, ← rowB_join] at this
        exact this
      have ht := implRowText_ev rs (by omega) (fun x hx => okI_iff.2 (by have := (okRow_mem hk).2.2 x hx; omega))
      rw [hj] at ht
      exact ev_eq ht (ev_pos rfl (ev_now rfl))
    · simp only [hk]
      exact ev_now (by simp)
  | none =>
    cases ha : atois [] (cutG 44 [] l) with
    | none => exact ev_now rfl
    | some rs =>
      by_cases hk : okRow rs = true
      · have hm := okRow_mem hk
        have hok : ∀ x ∈ rs, okI x = true := fun x hx => okI_iff.2 (by have := hm.2.2 x hx; omega)
        have hne : rowB rs ≠ l := by
          intro e
          cases rs with
          | nil => simp at hm
          | cons x rs =>
            rw [← e, cut_row, numsF_itoa _ (fun y hy => by have := hm.2.2 y hy; omega)] at hs
            cases hs
        refine (implRowOk_ev rs (by omega)).bind ?_
        simp only [hk, if_true]
        exact ev_eq (implRowText_ev rs (by omega) hok) (ev_neg (fun e => hne (tx_inj e)) (ev_now rfl))
      · have hlen : Ev (fun k => impl_RowOk.f k rs) (okRow rs) := implRowOk_ev rs (by
          have h1 := cutG_many 44 l []
          have : ∀ (ps : List (List UInt8)) (acc r : List Int), atois acc ps = some r → r.length = acc.length + ps.length := by
            intro ps
            induction ps with
            | nil => intro acc r h; simp [atois] at h; subst h; simp
            | cons p ps ih =>
              intro acc r h
              rw [atois] at h
              cases hp : Lib.atoiAll p with
              | ok v => rw [hp] at h; have := ih _ _ h; simp at this ⊢; omega
              | range => rw [hp] at h; cases h
              | _ => rw [hp] at h; cases h
          have := this _ _ _ ha
          simp at this
          omega)
        refine hlen.bind ?_
        simp only [hk]
        exact ev_now (by simp)

theorem idx (c : UInt8) : ∀ l : List UInt8, (Lib.indexByte l c = -1 ∧ ∀ x ∈ l, x ≠ c) ∨ ∃ p q, l = p ++ c :: q ∧ (∀ x ∈ p, x ≠ c) ∧ Lib.indexByte l c = p.length := by
  intro l
  induction l with
  | nil => exact .inl ⟨rfl, by simp⟩
  | cons x l ih =>
    by_cases h : x = c
    · subst h
      refine .inr ⟨[], l, rfl, by simp, ?_⟩
      unfold Lib.indexByte
      simp
    · have hx : (x == c) = false := by simpa using h
      rcases ih with ⟨h1, h2⟩ | ⟨p, q, h1, h2, h3⟩
      · refine .inl ⟨?_, fun y hy => by rcases List.mem_cons.1 hy with rfl | hy; exact h; exact h2 y hy⟩
        unfold Lib.indexByte
        simp [hx, h1]
      · refine .inr ⟨x :: p, q, by rw [h1]; rfl, fun y hy => by rcases List.mem_cons.1 hy with rfl | hy; exact h; exact h2 y hy, ?_⟩
        unfold Lib.indexByte
        simp [hx, h3]
        try omega
theorem indexB_tx (l : List UInt8) (c : UInt8) : Lib.indexB (tx l) (tx [c]) = Lib.indexByte l c := by
  show Lib.index (tx l).data.toList (tx [c]).data.toList = _
  rw [tx_toList, tx_toList, Lib.index_one]
theorem split_tx (c : UInt8) : ∀ (n : Nat) (l : List UInt8), l.length ≤ n → Lib.splitB (tx [c]) 0 (Lib.countB (tx l) (tx [c])) (tx l) = (cutG c [] l).map tx ∧ (cutG c [] l).length = Lib.countB (tx l) (tx [c]) + 1 := by
  intro n
  induction n with
  | zero =>
    intro l hl
    have : l = [] := List.eq_nil_of_length_eq_zero (by omega)
    subst this
    have hi : Lib.indexB (tx []) (tx [c]) = -1 := by rw [indexB_tx]; rfl
    rw [Lib.countB_miss _ _ hi]
    exact ⟨rfl, rfl⟩
  | succ n ih =>
    intro l hl
    rcases idx c l with ⟨h1, h2⟩ | ⟨p, q, h1, h2, h3⟩
    · have hi : Lib.indexB (tx l) (tx [c]) = -1 := by rw [indexB_tx, h1]
      have hc : cutG c [] l = [l] := by
        have := cutG_skip c l [] [] h2
        rw [List.append_nil] at this
        rw [this]
        rfl
      rw [Lib.countB_miss _ _ hi, hc]
      exact ⟨rfl, rfl⟩
    · have hi : Lib.indexB (tx l) (tx [c]) = (p.length : Nat) := by rw [indexB_tx, h3]
      have hc : cutG c [] l = p :: cutG c [] q := by
        rw [h1, cutG_skip c p _ _ h2, List.nil_append, cutG, if_pos rfl]
      have hll : l.length = p.length + (q.length + 1) := by rw [h1, List.length_append, List.length_cons]
      have x1 : (tx l).extract 0 (p.length + 0) = tx p := by
        rw [tx_extract, List.drop_zero, Nat.sub_zero, Nat.add_zero, h1, List.take_left]
      have hs1 : (tx [c]).size = 1 := rfl
      have x2 : (tx l).extract (p.length + (tx [c]).size) (tx l).size = tx q := by
        rw [tx_extract, hs1, tx_size, hll, h1, show p.length + (q.length + 1) - (p.length + 1) = q.length by omega, ← List.drop_drop, List.drop_left, List.drop_one, List.tail_cons, List.take_length]
      obtain ⟨i1, i2⟩ := ih q (by omega)
      rw [Lib.countB_hit (tx l) (tx [c]) p.length (by rw [hs1]; omega) hi, x2, Nat.add_comm 1, Lib.splitB_hit _ _ _ _ p.length hi, x1, x2, i1, hc]
      exact ⟨rfl, by rw [List.length_cons, i2]⟩
theorem split_some (l : List UInt8) (hl : l.length ≤ 9000) : strings_Split.f (tx l) ⟨#[32]⟩ = some ((cutG 32 [] l).map tx) := by
  have e : (⟨#[32]⟩ : ByteArray) = tx [32] := rfl
  obtain ⟨h1, h2⟩ := split_tx 32 l.length l (Nat.le_refl _)
  have hm := cutG_many 32 l []
  unfold strings_Split.f splitF
  rw [e, tx_size, h1, if_pos (by omega), if_pos (by decide), if_pos (by rw [List.length_map, h2]), if_pos (by omega)]
/-- strings.Cut at a star -/
def cutI (w : List UInt8) : List UInt8 × List UInt8 := match cutW w with | some z => z | none => (w, [])
theorem cut_some (w : List UInt8) (hw : w.length ≤ 100000) : ∃ b : Bool, strings_Cut.f (tx w) ⟨#[42]⟩ = some (tx (cutI w).1, tx (cutI w).2, b) := by
  have e : (⟨#[42]⟩ : ByteArray) = tx [42] := rfl
  unfold strings_Cut.f cutF cutI
  rw [e, if_pos (by rw [tx_size]; omega)]
  rcases idx 42 w with ⟨h1, h2⟩ | ⟨p, q, h1, h2, h3⟩
  · have hi : Lib.indexB (tx w) (tx [42]) = -1 := by rw [indexB_tx, h1]
    obtain ⟨c1, c2, c3⟩ := Lib.cutB_miss _ _ hi
    rw [c1, c2, c3]
    have hc : cutW w = none := by
      cases hcw : cutW w with
      | none => rfl
      | some z =>
        obtain ⟨e1, -⟩ := cutW_some w z.1 z.2 hcw
        exact absurd rfl (h2 42 (by rw [e1]; simp))
    rw [hc]
    exact ⟨_, rfl⟩
  · have hi : Lib.indexB (tx w) (tx [42]) = (p.length : Nat) := by rw [indexB_tx, h3]
    obtain ⟨c1, c2, c3⟩ := Lib.cutB_hit _ _ p.length hi
    have hs1 : (tx [42]).size = 1 := rfl
    have hll : w.length = p.length + (q.length + 1) := by rw [h1, List.length_append, List.length_cons]
    have x1 : (tx w).extract 0 p.length = tx p := by
      rw [tx_extract, List.drop_zero, Nat.sub_zero, h1, List.take_left]
    have x2 : (tx w).extract (p.length + (tx [42]).size) (tx w).size = tx q := by
      rw [tx_extract, hs1, tx_size, hll, h1, show p.length + (q.length + 1) - (p.length + 1) = q.length by omega, ← List.drop_drop, List.drop_left, List.drop_one, List.tail_cons, List.take_length]
    rw [c1, c2, c3, x1, x2, show cutW w = some (p, q) by rw [h1]; exact cutW_of p q h2]
    exact ⟨_, rfl⟩
/-- what the program's loop reads -/
def goI : List S33 → List (List UInt8) → Option (List S33)
  | acc, [] => some acc
  | acc, w :: ws => if (readR (cutI w).1).2 = true then (match Lib.atoiAll (cutI w).2 with | .ok v => goI (acc ++ [⟨(readR (cutI w).1).1, v⟩]) ws | _ => none) else none
theorem goI_of : ∀ (ws : List (List UInt8)) (acc z : List S33), itemsF ws = some z → goI acc ws = some (acc ++ z) := by
  intro ws
  induction ws with
  | nil => intro acc z h; simp [itemsF] at h; subst h; simp [goI]
  | cons w ws ih =>
    intro acc z h
    rw [itemsF] at h
    cases hr : readI w with
    | none => rw [hr] at h; cases h
    | some x =>
      rw [hr] at h
      obtain ⟨z1, h1, rfl⟩ := Option.map_eq_some_iff.1 h
      obtain ⟨s1, s2⟩ := readI_sound hr
      have hc : cutI w = (rowB x.f0, Lib.itoa x.f1) := by
        unfold cutI
        rw [s1]
        unfold itemB
        rw [cutW_of _ _ (rowB_no x.f0 42 (by decide))]
      rw [goI, hc]
      simp only
      rw [readR_rowB x.f0 (fun y hy => by have := (okRow_mem s2.1).2.2 y hy; omega), if_pos s2.1, if_pos rfl, atoi_itoa s2.2.1 s2.2.2]
      simp only
      rw [ih _ _ h1, List.append_assoc]
      rfl
theorem atoi_f (q : List UInt8) (hq : q.length ≤ 100000) : ∃ (v : Int) (o : Option Int), strconv_Atoi.f (tx q) = some (v, o) ∧ (o.isNone = true → Lib.atoiAll q = .ok v) ∧ (¬ o.isNone = true → ∀ u, Lib.atoiAll q ≠ .ok u) := by
  unfold strconv_Atoi.f
  rw [if_pos (by rw [tx_size]; omega), tx_toList]
  cases Lib.atoiAll q with
  | ok v => exact ⟨v, none, rfl, fun _ => rfl, fun h => absurd rfl h⟩
  | range => exact ⟨_, some 0, rfl, fun h => (by cases h), fun _ u e => (by cases e)⟩
  | _ => exact ⟨_, some 0, rfl, fun h => (by cases h), fun _ u e => (by cases e)⟩
theorem implZRead_ev (l : List UInt8) : Ev (fun k => impl_ZRead.f k (tx l)) (readZ l) := by
  unfold impl_ZRead.f
  have ht : (tx l).toList = l := by rw [Lib.toList_data]; exact tx_toList l
  rw [ht, tx_size]
  by_cases h1 : l.length > 9000
  · refine ev_pos (by omega) (ev_now ?_)
    unfold readZ
    rw [if_neg (by intro e; subst e; simp at h1), if_pos h1]
  refine ev_neg (by omega) ?_
  by_cases h0 : l = []
  · refine ev_pos h0 (ev_now ?_)
    unfold readZ
    rw [if_pos h0]
  refine ev_neg h0 (ev_eq (split_some l (by omega)) ?_)
  have hm := cutG_many 32 l []
  have hp := cutG_len 32 l []
  have key : readZ l = (match goI [] (cutG 32 [] l) with | some z => (if okZ z = true then (if textZ z = l then (z, true) else ([], false)) else ([], false)) | none => ([], false)) := by
    unfold readZ
    rw [if_neg h0, if_neg h1]
    cases hs : itemsF (cutG 32 [] l) with
    | some z =>
      have := goI_of _ [] _ hs
      rw [List.nil_append] at this
      rw [this]
      simp only
      rw [itemsF_text hs, if_pos rfl]
    | none =>
      cases hg : goI [] (cutG 32 [] l) with
      | none => rfl
      | some z =>
        simp only
        by_cases hk : okZ z = true
        · rw [if_pos hk, if_neg]
          intro e
          cases z with
          | nil => exact h0 e.symm
          | cons x z =>
            rw [← e, cutZ, itemsF_map _ (okZ_good hk)] at hs
            cases hs
        · rw [if_neg hk]
  rw [key]
  clear key
  generalize cutG 32 [] l = ps at hm hp
  rw [List.length_map]
  have go : ∀ (d i : Nat) (acc : List S33), i + d = ps.length → acc.length ≤ i → (∀ x ∈ acc, x.f0.length ≤ 6) →
      Ev (fun k => impl_ZRead.l0 k (tx l) acc (ps.map tx) (ps.length : Int) (i : Int)) (match goI acc (ps.drop i) with | some z => (if okZ z = true then (if textZ z = l then (z, true) else ([], false)) else ([], false)) | none => ([], false)) := by
    intro d
    induction d with
    | zero =>
      intro i acc hi ha hs
      rw [drop_end ps i (by omega)]
      simp only [goI]
      have sm : Small acc := ⟨by omega, fun x hx => by have := hs x hx; omega⟩
      refine Ev.step (fun k => impl_ZRead.l0.eq_2 ..) (ev_neg (by omega) ((implZOk_ev acc sm).bind ?_))
      by_cases hk : okZ acc = true
      · rw [if_pos hk]
        refine ev_pos hk ((implZText_ev acc sm (good_ok (okZ_good hk))).bind ?_)
        rw [ht, show (tx (textZ acc)).toList = textZ acc by rw [Lib.toList_data]; exact tx_toList _]
        by_cases he : textZ acc = l
        · exact ev_pos he (ev_now (by rw [if_pos he]))
        · exact ev_neg he (ev_now (by rw [if_neg he]))
      · rw [if_neg hk]
        exact ev_neg hk (ev_now rfl)
    | succ d ih =>
      intro i acc hi ha hs
      have hil : i < ps.length := by omega
      have hpl := hp _ (List.getElem_mem hil)
      have hpl2 : ps[i].length ≤ 100000 := by simp at hpl; omega
      have hrd : rdOf ByteArray.empty (ps.map tx) (i : Int) = tx ps[i] := by
        unfold rdOf
        rw [Int.toNat_natCast, List.getD_eq_getElem?_getD, List.getElem?_map, List.getElem?_eq_getElem hil]
        rfl
      obtain ⟨b, hcut⟩ := cut_some ps[i] hpl2
      have hq : (cutI ps[i]).2.length ≤ 100000 := by
        unfold cutI
        cases hcw : cutW ps[i] with
        | none => simp
        | some z =>
          have := (cutW_some _ z.1 z.2 hcw).1
          have := congrArg List.length this
          rw [List.length_append, List.length_cons] at this
          simp only
          omega
      obtain ⟨v, o, ha1, ha2, ha3⟩ := atoi_f (cutI ps[i]).2 hq
      refine Ev.step (fun k => impl_ZRead.l0.eq_2 ..) (ev_pos (by omega) (ev_pos (by omega) (ev_pos (by rw [List.length_map]; omega) ?_)))
      rw [hrd, List.drop_eq_getElem_cons hil, goI]
      refine ev_eq hcut ((implRead_ev (cutI ps[i]).1).bind (ev_eq ha1 ?_))
      by_cases hr : (readR (cutI ps[i]).1).2 = true
      · rw [if_pos hr]
        refine ev_pos hr ?_
        by_cases ho : o.isNone = true
        · rw [ha2 ho]
          refine ev_pos ho (ev_pos (by omega) ?_)
          rw [w64n (by omega)]
          exact ih (i + 1) _ (by omega) (by simp; omega) (fun x hx => by
            rcases List.mem_append.1 hx with h | h
            · exact hs x h
            · rcases List.mem_singleton.1 h with rfl; exact readR_len _)
        · have := ha3 ho
          cases hat : Lib.atoiAll (cutI ps[i]).2 with
          | ok u => exact absurd hat (this u)
          | range => exact ev_neg ho (ev_now rfl)
          | _ => exact ev_neg ho (ev_now rfl)
      · rw [if_neg hr]
        exact ev_neg hr (ev_now rfl)
  have := go ps.length 0 [] (by omega) (Nat.le_refl _) (by simp)
  rw [List.drop_zero] at this
  exact this

theorem okZ_w {z : List S33} (h : okZ z = true) : ∀ x ∈ z, -10000 ≤ x.f1 ∧ x.f1 ≤ 10000 ∧ x.f1 ≠ 0 := by
  intro x hx
  unfold okZ at h
  simp only [Bool.and_eq_true, decide_eq_true_iff] at h
  have go : ∀ (z : List S33) (p : Option (List Int)), chain p z = true → ∀ x ∈ z, okW x.f1 = true := by
    intro z
    induction z with
    | nil => intro p _ x hx; cases hx
    | cons y z ih =>
      intro p h x hx
      rw [chain_cons] at h
      simp only [Bool.and_eq_true] at h
      rcases List.mem_cons.1 hx with e | e
      · subst e; exact h.2.1
      · exact ih _ h.2.2.2 x e
  have := go z none h.2 x hx
  unfold okW at this
  simp at this
  omega

theorem chain_of : ∀ (z : List S33) (p : Option (List Int)), z.Pairwise (fun x y => lexc x.f0 y.f0 < 0) → (∀ x ∈ z, okRow x.f0 = true ∧ okW x.f1 = true) → (∀ r, p = some r → ∀ x ∈ z, lexc r x.f0 < 0) → chain p z = true := by
  intro z
  induction z with
  | nil => intro p _ _ _; exact chain_nil p
  | cons x z ih =>
    intro p h1 h2 h3
    rw [List.pairwise_cons] at h1
    have hx := h2 x List.mem_cons_self
    rw [chain_cons, hx.1, hx.2, ih (some x.f0) h1.2 (fun y hy => h2 y (List.mem_cons_of_mem _ hy)) (fun r hr y hy => by injection hr with hr; rw [← hr]; exact h1.1 y hy)]
    cases p with
    | none => rfl
    | some r => simp [h3 r rfl x List.mem_cons_self]
theorem okZ_of {z : List S33} (hl : z.length ≤ 100) (h1 : z.Pairwise (fun x y => lexc x.f0 y.f0 < 0)) (h2 : ∀ x ∈ z, okRow x.f0 = true ∧ okW x.f1 = true) : okZ z = true := by
  unfold okZ
  rw [chain_of z none h1 h2 (fun r hr => by cases hr), decide_eq_true hl]
  rfl
theorem okW_iff (w : Int) : okW w = true ↔ (w ≠ 0 ∧ -10000 ≤ w ∧ w ≤ 10000) := by unfold okW; simp
theorem okZ_canon {z : List S33} (h : okZ z = true) : Canon z := ⟨(okZ_facts h).2.1, fun x hx => (okZ_w h x hx).2.2⟩
theorem okZ_small {z : List S33} (h : okZ z = true) : Small z := ⟨by have := (okZ_facts h).1; omega, fun x hx => by
  have := ((okZ_facts h).2.2 x hx).1
  rw [okRow_iff] at this; omega⟩

theorem textZ_append {a b : List S33} (ha : a ≠ []) (hb : b ≠ []) : textZ (a ++ b) = textZ a ++ 32 :: textZ b := by
  cases a with
  | nil => exact absurd rfl ha
  | cons x a =>
    cases b with
    | nil => exact absurd rfl hb
    | cons y b => simp [textZ, tailZ, List.append_assoc]
theorem itemB_len79 {x : S33} (h0 : okRow x.f0 = true) (h1 : okW x.f1 = true) : (itemB x).length ≤ 79 := by
  have hm := okRow_mem h0
  have h2 := rowB_len11 x.f0 (fun y hy => by have := hm.2.2 y hy; omega)
  have p : (10 : Nat) ^ (4 + 1) = 100000 := rfl
  unfold okW at h1
  simp only [Bool.and_eq_true, decide_eq_true_eq] at h1
  have h3 : (Lib.itoa x.f1).length ≤ 6 := by
    unfold Lib.itoa
    split
    · rw [List.length_cons]
      have := dig_len 4 x.f1.natAbs (by omega)
      omega
    · have := dig_len 4 x.f1.toNat (by omega)
      omega
  unfold itemB
  rw [List.length_append, List.length_cons]
  omega
theorem textZ_len80 (z : List S33) (h : ∀ x ∈ z, okRow x.f0 = true ∧ okW x.f1 = true) : (textZ z).length ≤ 80 * z.length := by
  have ht : ∀ l : List S33, (∀ x ∈ l, okRow x.f0 = true ∧ okW x.f1 = true) → (tailZ l).length ≤ 80 * l.length := by
    intro l
    induction l with
    | nil => intro _; simp [tailZ]
    | cons x l ih =>
      intro h
      have h1 := ih (fun y hy => h y (List.mem_cons_of_mem _ hy))
      have hx := h x List.mem_cons_self
      have h2 := itemB_len79 hx.1 hx.2
      unfold tailZ at *
      simp only [List.map_cons, List.flatten_cons, List.length_append, List.length_cons] at *
      omega
  cases z with
  | nil => simp [textZ]
  | cons x l =>
    have h1 := ht l (fun y hy => h y (List.mem_cons_of_mem _ hy))
    have hx := h x List.mem_cons_self
    have h2 := itemB_len79 hx.1 hx.2
    rw [textZ, List.length_append, List.length_cons]
    omega
/-- items whose text can be read are read back, if they are ok -/
theorem readZ_text {z : List S33} (h : ∀ x ∈ z, GoodI x) : readZ (textZ z) = if okZ z = true then (z, true) else ([], false) := by
  cases z with
  | nil => rfl
  | cons x z =>
    unfold readZ
    rw [if_neg (by intro e; unfold textZ itemB at e; simp at e)]
    by_cases h9 : (textZ (x :: z)).length > 9000
    · rw [if_pos h9, if_neg]
      intro hk
      obtain ⟨f1, -, f3⟩ := okZ_facts hk
      have := textZ_len80 _ f3
      omega
    · rw [if_neg h9, cutZ, itemsF_map _ h]
theorem readZ_true {l : List UInt8} {y : List S33} (h : readZ l = (y, true)) : textZ y = l ∧ okZ y = true := by
  unfold readZ at h
  by_cases h0 : l = []
  · rw [if_pos h0] at h
    simp only [Prod.mk.injEq, and_true] at h
    subst h
    exact ⟨h0.symm, by unfold okZ; rw [chain_nil]; rfl⟩
  rw [if_neg h0] at h
  by_cases h9 : l.length > 9000
  · rw [if_pos h9] at h; cases h
  rw [if_neg h9] at h
  cases hs : itemsF (cutG 32 [] l) with
  | none => rw [hs] at h; cases h
  | some z =>
    rw [hs] at h
    simp only at h
    by_cases hk : okZ z = true
    · rw [if_pos hk] at h
      simp only [Prod.mk.injEq, and_true] at h
      subst h
      exact ⟨itemsF_text hs, hk⟩
    · rw [if_neg hk] at h; cases h
/-- items that are ok stand together just if the last of the first is ahead of the first of the second, and there are not too many -/
theorem okZ_both {a b : List S33} (ha : okZ a = true) (hb : okZ b = true) (na : 0 < a.length) (nb : 0 < b.length) :
    okZ (a ++ b) = (decide (lexc a[a.length - 1].f0 b[0].f0 < 0) && decide (a.length + b.length ≤ 100)) := by
  obtain ⟨a1, a2, a3⟩ := okZ_facts ha
  obtain ⟨b1, b2, b3⟩ := okZ_facts hb
  by_cases hl : a.length + b.length ≤ 100
  · by_cases hx : lexc a[a.length - 1].f0 b[0].f0 < 0
    · rw [decide_eq_true hl, decide_eq_true hx]
      refine okZ_of (by rw [List.length_append]; exact hl) (List.pairwise_append.2 ⟨a2, b2, fun x hx' y hy => ?_⟩) (fun x hx' => by
        rcases List.mem_append.1 hx' with h | h
        · exact a3 x h
        · exact b3 x h)
      obtain ⟨i, hi, rfl⟩ := List.getElem_of_mem hx'
      obtain ⟨j, hj, rfl⟩ := List.getElem_of_mem hy
      have h1 : lexc a[i].f0 b[0].f0 < 0 := by
        by_cases e : i = a.length - 1
        · subst e; exact hx
        · exact lexc_trans _ _ _ (pairwise_at a2 hi (by omega) (by omega)) hx
      by_cases e : j = 0
      · subst e; exact h1
      · exact lexc_trans _ _ _ h1 (pairwise_at b2 nb hj (by omega))
    · rw [decide_eq_false hx, Bool.false_and]
      cases hk : okZ (a ++ b) with
      | false => rfl
      | true =>
        obtain ⟨-, c2, -⟩ := okZ_facts hk
        exact absurd ((List.pairwise_append.1 c2).2.2 _ (List.getElem_mem (by omega)) _ (List.getElem_mem nb)) hx
  · rw [decide_eq_false hl, Bool.and_false]
    cases hk : okZ (a ++ b) with
    | false => rfl
    | true =>
      obtain ⟨c1, -, -⟩ := okZ_facts hk
      rw [List.length_append] at c1
      exact absurd c1 hl

theorem clone_some (l : List Int) (h : l.length ≤ 1048576) : slices_Clone_int_int.f l = some l := by unfold slices_Clone_int_int.f; rw [if_pos (by omega)]
theorem copyItems_ev (z : List S33) (hs : Small z) : Ev (fun k => impl_copyItems.f k z) z := by
  have hz := hs.len
  have h := ev_down (fun k i => impl_copyItems.l0 k (z.take i) z (z.length : Int) (i : Int)) (fun _ => z) z.length ?_ ?_ 0 (by omega)
  · simpa [impl_copyItems.f] using h
  · exact Ev.step (fun k => impl_copyItems.l0.eq_2 ..) (ev_neg (by omega) (ev_now (by rw [List.take_length])))
  · intro i hi ih
    have hr := hs.row _ (List.getElem_mem hi)
    refine Ev.step (fun k => impl_copyItems.l0.eq_2 ..) (ev_pos (by omega) (ev_pos (by omega) (ev_pos (by omega) ?_)))
    rw [rdI_at z i hi]
    refine ev_eq (clone_some _ hr) (ev_pos (by simp; omega) ?_)
    rw [w64n (by omega)]
    rw [List.take_succ_eq_append_getElem hi] at ih
    exact ih

theorem cmpItem_ev (x y : S33) (h : x.f0.length ≤ 1048576) : Ev (fun k => impl_cmpItem.f k x.f0 x.f1 y.f0 y.f1) (lexc x.f0 y.f0) := by
  unfold impl_cmpItem.f
  exact (compare_ev x.f0 y.f0 (by omega)).bind (ev_now rfl)
theorem rdI_0 (x : S33) (l : List S33) : rd_T33 (x :: l) 0 = x := rfl
theorem merged_ev : ∀ (n : Nat) (a b acc : List S33), a.length + b.length ≤ n → acc.length + n ≤ 1048576 → (∀ x ∈ a, x.f0.length ≤ 1048576) → (∀ x ∈ a, -1000000000 ≤ x.f1 ∧ x.f1 ≤ 1000000000) → (∀ x ∈ b, -1000000000 ≤ x.f1 ∧ x.f1 ≤ 1000000000) →
    Ev (fun k => impl_merged_impl_Item__impl_cmpItem_impl_together_1.l0 k a b acc) (acc ++ merL a b) := by
  intro n
  induction n with
  | zero =>
    intro a b acc h hn _ _ _
    obtain rfl : a = [] := List.length_eq_zero_iff.1 (by omega)
    obtain rfl : b = [] := List.length_eq_zero_iff.1 (by omega)
    refine Ev.step (fun k => impl_merged_impl_Item__impl_cmpItem_impl_together_1.l0.eq_2 ..) (ev_neg (by simp <;> omega) (ev_pos (by simp <;> omega) (ev_some (ev_pos (by simp <;> omega) (ev_now ?_)))))
    simp [merL]
  | succ n ih =>
    intro a b acc h hn hr hwa hwb
    cases a with
    | nil =>
      refine Ev.step (fun k => impl_merged_impl_Item__impl_cmpItem_impl_together_1.l0.eq_2 ..) (ev_neg (by simp <;> omega) (ev_pos (by simp <;> omega) (ev_some (ev_pos (by simp at h ⊢ <;> omega) (ev_now ?_)))))
      simp [merL]
    | cons x a =>
      cases b with
      | nil =>
        refine Ev.step (fun k => impl_merged_impl_Item__impl_cmpItem_impl_together_1.l0.eq_2 ..) (ev_pos (by simp <;> omega) (ev_neg (by simp <;> omega) (ev_pos (by simp at h ⊢ <;> omega) (ev_some (ev_pos (by simp at h ⊢ <;> omega) (ev_now ?_))))))
        simp [merL]
      | cons y b =>
        simp only [List.length_cons] at h
        refine Ev.step (fun k => impl_merged_impl_Item__impl_cmpItem_impl_together_1.l0.eq_2 ..) (ev_pos (by simp <;> omega) (ev_pos (by simp <;> omega) (ev_pos (by simp <;> omega) (ev_pos (by simp <;> omega) ?_))))
        rw [rdI_0, rdI_0]
        refine (cmpItem_ev x y (hr x List.mem_cons_self)).bind ?_
        have hra := fun u hu => hr u (List.mem_cons_of_mem _ hu)
        have hwa' := fun u hu => hwa u (List.mem_cons_of_mem _ hu)
        have hwb' := fun u hu => hwb u (List.mem_cons_of_mem _ hu)
        rw [merL]
        by_cases h1 : lexc x.f0 y.f0 < 0
        · rw [if_pos h1]
          refine ev_pos h1 (ev_pos (by omega) (ev_pos (by simp <;> omega) ?_))
          have := ih a (y :: b) (acc ++ [x]) (by simp <;> omega) (by simp <;> omega) hra hwa' hwb
          rw [List.append_assoc] at this
          exact this
        · rw [if_neg h1]
          have hs := lexc_swap x.f0 y.f0
          by_cases h2 : lexc y.f0 x.f0 < 0
          · rw [if_pos h2]
            refine ev_neg h1 (ev_pos (by omega) (ev_pos (by omega) (ev_pos (by simp <;> omega) ?_)))
            have := ih (x :: a) b (acc ++ [y]) (by simp <;> omega) (by simp <;> omega) hr hwa hwb'
            rw [List.append_assoc] at this
            exact this
          · rw [if_neg h2]
            have hx := hwa x List.mem_cons_self
            have hy := hwb y List.mem_cons_self
            refine ev_neg h1 (ev_neg (by omega) ?_)
            unfold impl_together_1.f
            rw [w64 (x := x.f1 + y.f1) (by omega) (by omega)]
            refine ev_some ?_
            by_cases h3 : x.f1 + y.f1 = 0
            · rw [if_pos h3]
              refine ev_neg (by simp [h3]) (ev_pos (by simp <;> omega) (ev_pos (by simp <;> omega) ?_))
              exact ih a b acc (by omega) (by omega) hra hwa' hwb'
            · rw [if_neg h3]
              refine ev_pos (by simpa using h3) (ev_pos (by omega) (ev_pos (by simp <;> omega) (ev_pos (by simp <;> omega) ?_)))
              have := ih a b (acc ++ [⟨x.f0, x.f1 + y.f1⟩]) (by omega) (by simp <;> omega) hra hwa' hwb'
              rw [List.append_assoc] at this
              exact this
theorem merL_len : ∀ (n : Nat) (a b : List S33), a.length + b.length ≤ n → (merL a b).length ≤ a.length + b.length := by
  intro n
  induction n with
  | zero => intro a b h; cases a <;> cases b <;> simp [merL] at h ⊢
  | succ n ih =>
    intro a b h
    cases a with
    | nil => simp [merL]
    | cons x a =>
      cases b with
      | nil => simp [merL]
      | cons y b =>
        simp only [List.length_cons] at h
        rw [merL]
        have h1 := ih a (y :: b) (by simp <;> omega)
        have h2 := ih (x :: a) b (by simp <;> omega)
        have h3 := ih a b (by omega)
        simp only [List.length_cons] at h1 h2 ⊢
        repeat' split
        all_goals (try simp only [List.length_cons])
        all_goals omega
theorem merL_small {a b : List S33} (ha : Small a) (hb : Small b) (hl : a.length + b.length ≤ 1048576) : Small (merL a b) :=
  ⟨by have := merL_len _ a b (Nat.le_refl _); omega, fun y hy => by
    rcases merL_rows _ a b (Nat.le_refl _) y hy with ⟨x, hx, e⟩ | ⟨x, hx, e⟩
    · rw [← e]; exact ha.row x hx
    · rw [← e]; exact hb.row x hx⟩
/-- what ZAdd tells -/
def addZ (a b : List S33) : List S33 × Bool := if okZ a = true ∧ okZ b = true ∧ okZ (addL a b) = true then (addL a b, true) else ([], false)
theorem told_ev (z : List S33) (hs : Small z) : Ev (fun k => impl_told.f k z) (if okZ z = true then (z, true) else ([], false)) := by
  unfold impl_told.f
  refine (implZOk_ev z hs).bind ?_
  by_cases h : okZ z = true
  · rw [if_pos h]
    exact ev_pos h ((copyItems_ev z hs).bind (ev_now rfl))
  · rw [if_neg h]
    exact ev_neg h (ev_now rfl)
theorem together_ev (a b : List S33) (ha : Small a) (hl : a.length + b.length ≤ 100000) (hwa : ∀ x ∈ a, -1000000000 ≤ x.f1 ∧ x.f1 ≤ 1000000000) (hwb : ∀ x ∈ b, -1000000000 ≤ x.f1 ∧ x.f1 ≤ 1000000000) : Ev (fun k => impl_together.f k a b) (merL a b) := by
  unfold impl_together.f impl_merged_impl_Item__impl_cmpItem_impl_together_1.f
  have := merged_ev (a.length + b.length) a b [] (Nat.le_refl _) (by simp <;> omega) ha.row hwa hwb
  exact this.bind (ev_now (by simp <;> omega))
theorem implZAdd_ev (a b : List S33) (ha : Small a) (hb : Small b) : Ev (fun k => impl_ZAdd.f k a b) (addZ a b) := by
  unfold impl_ZAdd.f addZ
  refine (implZOk_ev a ha).bind ?_
  by_cases h1 : okZ a = true
  · refine ev_pos h1 ((implZOk_ev b hb).bind ?_)
    by_cases h2 : okZ b = true
    · have l1 := (okZ_facts h1).1
      have l2 := (okZ_facts h2).1
      have e := merL_addL a b (okZ_canon h1) (okZ_canon h2)
      have T := told_ev _ (merL_small ha hb (by omega))
      rw [e] at T
      have E : (if okZ (addL a b) = true then (addL a b, true) else ([], false)) = (if okZ a = true ∧ okZ b = true ∧ okZ (addL a b) = true then (addL a b, true) else (([] : List S33), false)) := by
        by_cases h3 : okZ (addL a b) = true
        · rw [if_pos h3, if_pos ⟨h1, h2, h3⟩]
        · rw [if_neg h3, if_neg (fun h => h3 h.2.2)]
      rw [E] at T
      have tog := together_ev a b ha (by omega) (fun x hx => by have := okZ_w h1 x hx; omega) (fun x hx => by have := okZ_w h2 x hx; omega)
      rw [e] at tog
      refine ev_pos h2 (tog.bind ?_)
      first
        | exact T
        | exact T.bind (ev_now rfl)
    · rw [if_neg (fun h => h2 h.2.1)]
      exact ev_neg h2 (ev_now rfl)
  · rw [if_neg (fun h => h1 h.1)]
    exact ev_neg h1 (ev_now rfl)

theorem sumW_append (r : List Int) : ∀ (a b : List S33), sumW r (a ++ b) = sumW r a + sumW r b := by
  intro a b
  induction a with
  | nil => simp [sumW]
  | cons x a ih => simp only [List.cons_append, sumW, ih]; omega
theorem canon_sub {z w : List S33} (h : Canon z) (hs : w.Sublist z) : Canon w := ⟨h.ord.sublist hs, fun x hx => h.nz x (hs.subset hx)⟩
theorem okZ_sub {z w : List S33} (h : okZ z = true) (hs : w.Sublist z) : okZ w = true := by
  obtain ⟨h1, h2, h3⟩ := okZ_facts h
  exact okZ_of (by have := hs.length_le; omega) (h2.sublist hs) (fun x hx => h3 x (hs.subset hx))
/-- what stands in order is added by standing side by side -/
theorem addL_app {a b : List S33} (h : Canon (a ++ b)) : addL a b = a ++ b := by
  have ha := canon_sub h (List.sublist_append_left a b)
  have hb := canon_sub h (List.sublist_append_right a b)
  exact canon_ext (addL_canon _ _ ha) h (fun r => by rw [addL_wOf r a b ha hb, ← sumW_canon r _ h, sumW_append, sumW_canon r a ha, sumW_canon r b hb])
theorem addZ_app {a b : List S33} (h : okZ (a ++ b) = true) : addZ a b = (a ++ b, true) := by
  unfold addZ
  rw [addL_app (okZ_canon h), if_pos ⟨okZ_sub h (List.sublist_append_left a b), okZ_sub h (List.sublist_append_right a b), h⟩]

theorem zread_early (a : List S33) (sa : Small a) : Ev (fun k => (impl_ZOk.f k a).bind fun k3 => ((spec_ZOk.f k a).bind fun k4 => ((if k3 = k4 then some true else some false)))) true :=
  (implZOk_ev a sa).bind ((specZOk_ev a sa).bind (ev_pos rfl (ev_now rfl)))
theorem FnZRead : laws_FnZRead.Pure := by
  intro code more ⟨_, hw⟩ ⟨_, hm⟩
  refine Ev.rounds ?_
  unfold laws_FnZRead.f
  by_cases h1 : (code.length : Int) > 1048576
  · exact ev_pos h1 (ev_now rfl)
  by_cases h2 : (more.length : Int) > 1048576
  · exact ev_neg h1 (ev_pos h2 (ev_now rfl))
  obtain ⟨a, hda, da⟩ := drawZText_ev code hw
  obtain ⟨b, hdb, db⟩ := drawZText_ev more hm
  have sa := da.small (by omega)
  have sb := db.small (by omega)
  have la := da.len
  have lb := db.len
  have oka := da.okI (by omega)
  have okb := db.okI (by omega)
  have E := zread_early a sa
  refine ev_neg h1 (ev_neg h2 (hda.bind (hdb.bind ((implZOk_ev a sa).bind ((specZOk_ev a sa).bind (ev_pos rfl ((specZOk_ev a sa).bind ?_)))))))
  by_cases ka : okZ a = true
  case neg => exact ev_neg ka E
  refine ev_pos ka ((specZOk_ev b sb).bind ?_)
  by_cases kb : okZ b = true
  case neg => exact ev_neg kb E
  refine ev_pos kb ?_
  by_cases na : (a.length : Int) = 0
  · exact ev_pos na E
  refine ev_neg na ?_
  by_cases nb : (b.length : Int) = 0
  · exact ev_pos nb E
  refine ev_neg nb ?_
  have ta := textZ_len80 a (okZ_facts ka).2.2
  have tb := textZ_len80 b (okZ_facts kb).2.2
  have ha0 : 0 < a.length := by omega
  have hb0 : 0 < b.length := by omega
  have hcat : tx (textZ a) ++ (⟨#[32]⟩ : ByteArray) ++ tx (textZ b) = tx (textZ (a ++ b)) := by
    rw [show (⟨#[32]⟩ : ByteArray) = tx [32] from rfl, tx_append, tx_append, textZ_append (fun e => by subst e; simp at ha0) (fun e => by subst e; simp at hb0)]
    simp
  have good : ∀ x ∈ a ++ b, GoodI x := fun x hx => by
    rcases List.mem_append.1 hx with h | h
    · exact okZ_good ka x h
    · exact okZ_good kb x h
  have rd := implZRead_ev (textZ (a ++ b))
  rw [readZ_text good] at rd
  have both := okZ_both ka kb ha0 hb0
  have w : wrap64 ((a.length : Int) - 1) = ((a.length - 1 : Nat) : Int) := by rw [w64 (by omega) (by omega)]; omega
  have ra : rd_T33 a (wrap64 ((a.length : Int) - 1)) = a[a.length - 1] := by rw [w]; exact rdI_at a (a.length - 1) (by omega)
  have rb : rd_T33 b 0 = b[0] := rdI_at b 0 hb0
  have lt := implLess_ev a[a.length - 1].f0 b[0].f0 (by have := sa.row _ (List.getElem_mem (show a.length - 1 < a.length by omega)); omega)
  refine (implZText_ev a sa oka).bind (ev_pos (by rw [tx_size]; omega) ((implZText_ev b sb okb).bind (ev_pos (by rw [tx_size, tx_size]; omega) ?_)))
  rw [hcat]
  refine rd.bind ((implZAdd_ev a b sa sb).bind (ev_pos ⟨by omega, by omega⟩ ?_))
  rw [ra, rb]
  refine lt.bind ?_
  by_cases hx : lexc a[a.length - 1].f0 b[0].f0 < 0
  · refine ev_pos (decide_eq_true hx) ?_
    by_cases hl : a.length + b.length ≤ 100
    · have hk : okZ (a ++ b) = true := by rw [both, decide_eq_true hx, decide_eq_true hl]; rfl
      refine ev_pos (by omega) ?_
      rw [if_pos hk, addZ_app hk]
      exact ev_pos rfl (ev_pos rfl ((implZSame_ev _ _ (okZ_small hk)).bind (ev_pos (by simp) (ev_now rfl))))
    · have hk : ¬ okZ (a ++ b) = true := by rw [both, decide_eq_false hl, Bool.and_false]; simp
      refine ev_neg (by omega) ?_
      rw [if_neg hk]
      exact ev_neg (by simp) (ev_now rfl)
  · have hk : ¬ okZ (a ++ b) = true := by rw [both, decide_eq_false hx, Bool.false_and]; simp
    refine ev_neg (by simpa using hx) ?_
    rw [if_neg hk]
    exact ev_neg (by simp) (ev_now rfl)

end Go.Proofs.YtgcplipimcbhlaaGreatDoor.Pure
