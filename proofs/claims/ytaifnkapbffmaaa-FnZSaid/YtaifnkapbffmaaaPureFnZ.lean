/- Whatever codes the items and the row are drawn from, items together are in any order and any grouping the same, what takes them away leaves nothing, and each row is there as often as in both: the law answers true. No condition beyond what the statement gives (bytes). -/
import Derived.Test.YtaifnkapbffmaaaPFnZx13
import Derived.Test.YtaifnkapbffmaaaQ
namespace Go.Proofs.Ytaifnkapbffmaaa.Pure
open Go.RowKit Go.Proofs.Ytaifnkapbffmaaa.PFnZ Go.Proofs.YtaifnkapbffmaaaW.PrintWords Go.Proofs.YtaifnkapbffmaaaW.PrintLast Go.Proofs.YtaifnkapbffmaaaW.PrintMore Go.Proofs.Ytaifnkapbffmaaa.Q

/-! draws -/
theorem xor_pos (x y : Int) (h0 : 0 ≤ x) (h1 : x < 4611686018427387904) (h2 : 0 ≤ y) (h3 : y < 4611686018427387904) : 0 ≤ Go.bits .xor .i64 x y := by
  obtain ⟨a, rfl⟩ := Int.eq_ofNat_of_zero_le h0
  obtain ⟨b, rfl⟩ := Int.eq_ofNat_of_zero_le h2
  have ha : a < 2 ^ 62 := by omega
  have hb : b < 2 ^ 62 := by omega
  have ha' : a % 2 ^ IntKind.i64.bits = a := Nat.mod_eq_of_lt (Nat.lt_of_lt_of_le ha (by decide))
  have hb' : b % 2 ^ IntKind.i64.bits = b := Nat.mod_eq_of_lt (Nat.lt_of_lt_of_le hb (by decide))
  have hx : a ^^^ b < 2 ^ 62 := Nat.xor_lt_two_pow ha hb
  simp only [bits, BitVec.ofInt_natCast, BitVec.toNat_xor, BitVec.toNat_ofNat, ha', hb']
  rw [IntKind.wrap_i64]
  omega
/-- a code as the draws read it, and a place in it -/
structure Code_ (b : List Int) : Prop where
  len : b.length ≤ 2000
  byte : ∀ i : Int, 0 ≤ rd b i ∧ rd b i ≤ 255
def lim : Int := 1000000000
theorem tmod_lt (x n : Int) (h0 : 0 ≤ x) (hn : 0 < n) : 0 ≤ Int.tmod x n ∧ Int.tmod x n < n := by
  rw [Int.tmod_eq_emod_of_nonneg h0]
  exact ⟨Int.emod_nonneg _ (by omega), Int.emod_lt_of_pos _ hn⟩
theorem pick_some {b : List Int} (hb : Code_ b) (p n : Int) (hp : 0 ≤ p) (hp1 : p ≤ lim) (hn : 1 ≤ n) : ∃ v, spec_l12Rd_pick.f b p n = some (v, p + 1) ∧ 0 ≤ v ∧ v < n := by
  have hl := hb.len
  unfold lim at hp1
  unfold spec_l12Rd_pick.f
  have e1 : wrap64 (p + 1) = p + 1 := w64 (by omega) (by omega)
  have e2 : wrap64 (p + 1 - 1) = p := by rw [w64 (by omega) (by omega)]; omega
  rw [e1, e2, if_neg (by omega)]
  by_cases h0 : (b.length : Int) = 0
  · rw [if_pos h0]; exact ⟨0, rfl, by omega, by omega⟩
  · rw [if_neg h0]
    by_cases h1 : p < b.length
    · rw [if_pos h1, if_pos hp, if_neg (by omega)]
      have hr := hb.byte p
      rw [w64 (by omega) (by omega)]
      have := tmod_lt (rd b p) n hr.1 (by omega)
      exact ⟨_, rfl, this.1, this.2⟩
    · rw [if_neg h1]
      have hm := tmod_lt p b.length hp (by omega)
      have e3 : wrap64 (p * 7) = p * 7 := w64 (by omega) (by omega)
      have e4 : wrap64 (p * 7 + 3) = p * 7 + 3 := w64 (by omega) (by omega)
      have hm2 := tmod_lt (p * 7 + 3) b.length (by omega) (by omega)
      rw [e3, e4, if_pos hm.1, if_pos hm.2, if_pos hm2.1, if_pos hm2.2, if_neg (by omega)]
      have b1 := hb.byte (Int.tmod p b.length)
      have b2 := hb.byte (Int.tmod (p * 7 + 3) b.length)
      generalize rd b (Int.tmod p b.length) = u at b1 ⊢
      generalize rd b (Int.tmod (p * 7 + 3) b.length) = v at b2 ⊢
      have hd : 0 ≤ Int.tdiv p b.length ∧ Int.tdiv p b.length ≤ p := by
        rw [Int.tdiv_eq_ediv_of_nonneg hp]
        exact ⟨Int.ediv_nonneg hp (by omega), Int.ediv_le_self _ hp⟩
      generalize Int.tdiv p b.length = d at hd ⊢
      have f1 : wrap64 u = u := w64 (by omega) (by omega)
      have f2 : wrap64 v = v := w64 (by omega) (by omega)
      have f3 : wrap64 d = d := w64 (by omega) (by omega)
      have f4 : wrap64 (u * 131) = u * 131 := w64 (by omega) (by omega)
      have f5 : wrap64 (v * 1117) = v * 1117 := w64 (by omega) (by omega)
      have f6 : wrap64 (p * 29) = p * 29 := w64 (by omega) (by omega)
      have f7 : wrap64 (d * 53) = d * 53 := w64 (by omega) (by omega)
      have f8 : wrap64 (u * 131 + v * 1117) = u * 131 + v * 1117 := w64 (by omega) (by omega)
      have f9 : wrap64 (u * 131 + v * 1117 + p * 29) = u * 131 + v * 1117 + p * 29 := w64 (by omega) (by omega)
      have f10 : wrap64 (u * 131 + v * 1117 + p * 29 + d * 53) = u * 131 + v * 1117 + p * 29 + d * 53 := w64 (by omega) (by omega)
      rw [f1, f2, f3, f4, f5, f6, f7, f8, f9, f10]
      generalize hX : u * 131 + v * 1117 + p * 29 + d * 53 = X
      have hX0 : 0 ≤ X := by omega
      have hX1 : X < 4611686018427387904 := by omega
      have g1 : Int.tdiv X 64 = X / 64 := Int.tdiv_eq_ediv_of_nonneg hX0
      rw [g1, w64 (by omega) (by omega)]
      have := tmod_lt (Go.bits .xor .i64 X (X / 64)) n (xor_pos X (X / 64) hX0 hX1 (by omega) (by omega)) (by omega)
      exact ⟨_, rfl, this.1, this.2⟩
theorem rd_mem (l : List Int) (i : Int) (h0 : 0 ≤ i) (h1 : i < l.length) : rd l i ∈ l := by
  obtain ⟨n, rfl⟩ := Int.eq_ofNat_of_zero_le h0
  rw [show ((n : Nat) : Int) = (n : Int) from rfl, rd_nat, List.getD_eq_getElem?_getD, List.getElem?_eq_getElem (by omega)]
  exact List.getElem_mem _
theorem open_some (l : List Int) (hl : ∀ x ∈ l, (Lit.int .u8 x).wf = true) : ∃ b, spec_l12Open.f l = some (b, 0) ∧ Code_ b := by
  have hw : ∀ x ∈ l, 0 ≤ x ∧ x ≤ 255 := fun x hx => by
    have := hl x hx
    simp [Lit.wf, IntKind.min, IntKind.max, IntKind.bits, IntKind.signed] at this
    omega
  have hr : ∀ m : List Int, (∀ x ∈ m, 0 ≤ x ∧ x ≤ 255) → ∀ i : Int, 0 ≤ rd m i ∧ rd m i ≤ 255 := fun m hm i => by
    unfold rd
    rw [List.getD_eq_getElem?_getD]
    cases h : m[i.toNat]? with
    | none => simp
    | some x => exact hm x (List.mem_of_getElem? h)
  unfold spec_l12Open.f
  by_cases h : (l.length : Int) > 2000
  · rw [if_pos h, if_pos (by omega)]
    exact ⟨_, rfl, ⟨by simp; omega, hr _ (fun x hx => hw x (List.mem_of_mem_take hx))⟩⟩
  · rw [if_neg h]
    exact ⟨_, rfl, ⟨by omega, hr _ hw⟩⟩

theorem num_some {b : List Int} (hb : Code_ b) (p : Int) (l : List Int) (hp : 0 ≤ p) (hp1 : p ≤ lim) (hl : 1 ≤ l.length) : ∃ v, spec_l12Rd_num.f b p l = some (v, p + 1) ∧ v ∈ l := by
  obtain ⟨v, hv, h0, h1⟩ := pick_some hb p l.length hp hp1 (by omega)
  refine ⟨rd l v, ?_, rd_mem l v h0 h1⟩
  unfold spec_l12Rd_num.f
  rw [hv]
  simp only [Option.bind_some]
  rw [if_pos h0, if_pos h1]

def drawnCell (x : Int) : Prop := -1 ≤ x ∧ x ≤ 5
theorem row_ev {b : List Int} (hb : Code_ b) (p : Int) (wide : Nat) (hp : 0 ≤ p) (hp1 : p + wide ≤ lim) : ∃ r : List Int, Ev (fun k => spec_l1Row.f k b p wide) (r, p + wide) ∧ r.length = wide ∧ ∀ x ∈ r, drawnCell x := by
  have hlim : lim = 1000000000 := rfl
  have go : ∀ (d i : Nat) (acc : List Int), i + d = wide → acc.length = i → (∀ x ∈ acc, drawnCell x) →
      ∃ r : List Int, Ev (fun k => spec_l1Row.l0 k wide acc i b (p + i)) (r, p + wide) ∧ r.length = wide ∧ ∀ x ∈ r, drawnCell x := by
    intro d
    induction d with
    | zero =>
      intro i acc hi ha hc
      obtain rfl : i = wide := by omega
      exact ⟨acc, Ev.step (fun k => spec_l1Row.l0.eq_2 ..) (ev_neg (by omega) (ev_now rfl)), ha, hc⟩
    | succ d ih =>
      intro i acc hi ha hc
      obtain ⟨v, hv, hm⟩ := num_some hb (p + i) [0, 1, 2, 3, 1, 2, -1, 5] (by omega) (by omega) (by decide)
      have hv2 : drawnCell v := by simp at hm; unfold drawnCell; omega
      obtain ⟨r, hr, h1, h2⟩ := ih (i + 1) (acc ++ [v]) (by omega) (by simp [ha]) (fun x hx => by
        rcases List.mem_append.1 hx with h | h
        · exact hc x h
        · simp at h; subst h; exact hv2)
      refine ⟨r, Ev.step (fun k => spec_l1Row.l0.eq_2 ..) (ev_pos (by omega) (ev_eq hv (ev_pos (by omega) ?_))), h1, h2⟩
      rw [w64n (by omega)]
      have e : p + (i : Int) + 1 = p + ((i + 1 : Nat) : Int) := by omega
      simp only [e]
      exact hr
  obtain ⟨r, hr, h1, h2⟩ := go wide 0 [] (by omega) rfl (by simp)
  refine ⟨r, ?_, h1, h2⟩
  unfold spec_l1Row.f
  simpa using hr

theorem ext_item {x y : S54} (h0 : x.f0 = y.f0) (h1 : x.f1 = y.f1) : x = y := by cases x; cases y; simp_all
instance decItem : DecidableEq S54 := fun x y => decidable_of_iff (x.f0 = y.f0 ∧ x.f1 = y.f1) ⟨fun h => ext_item h.1 h.2, fun h => by rw [h]; exact ⟨rfl, rfl⟩⟩
theorem item_iff (a b : List Int) (v u : Int) : (⟨a, v⟩ : S54) = ⟨b, u⟩ ↔ (a = b ∧ v = u) := ⟨fun h => by injection h with h1 h2; exact ⟨h1, h2⟩, fun h => by rw [h.1, h.2]⟩
theorem dec_cons {x y : S54} {s u : List S54} (h : x = y) : decide (x :: s = y :: u) = decide (s = u) := by subst h; rw [decide_eq_decide]; simp
theorem dec_cons_ne {x y : S54} {s u : List S54} (h : ¬ x = y) : decide (x :: s = y :: u) = false := by rw [decide_eq_false_iff_not]; intro e; injection e with e1 e2; exact h e1
theorem rdI_at (l : List S54) (i : Nat) (h : i < l.length) : rd_T54 l (i : Int) = l[i] := by
  show l.getD _ _ = _
  rw [Int.toNat_natCast, List.getD_eq_getElem?_getD, List.getElem?_eq_getElem h]; rfl
theorem drop_at {α : Type} (l : List α) (i : Nat) (h : i < l.length) : l.drop i = l[i] :: l.drop (i + 1) := List.drop_eq_getElem_cons h
/-- items no longer than so, their rows too -/
structure Small (l : List S54) : Prop where
  len : l.length ≤ 1048576
  row : ∀ x ∈ l, x.f0.length ≤ 1048576

/-- RowOk -/
def cellB (n : Int) : Bool := decide (-1000000000 ≤ n ∧ n ≤ 1000000000)
def okRow (r : List Int) : Bool := decide (1 ≤ r.length) && decide (r.length ≤ 6) && r.all cellB
theorem specCell (n : Int) : spec_l1Cell.f n = some (cellB n) := by
  unfold spec_l1Cell.f cellB
  by_cases h : n ≥ -1000000000
  · rw [if_pos h]; simp; omega
  · rw [if_neg h]; simp; omega

/-- l1Order -/
def ordL : List Int → List Int → Int → Int
  | [], _, d => d
  | _ :: _, [], d => d
  | a :: x, b :: y, d => if a < b then -1 else if b < a then 1 else ordL x y d

theorem ordL_zero : ∀ a b : List Int, ordL a b ((a.length : Int) - b.length) = 0 ↔ a = b := by
  have go : ∀ (a b : List Int) (d : Int), d = (a.length : Int) - b.length → (ordL a b d = 0 ↔ a = b) := by
    intro a
    induction a with
    | nil => intro b d hd; cases b <;> simp [ordL] at hd ⊢ <;> omega
    | cons x a ih =>
      intro b d hd
      cases b with
      | nil => simp [ordL] at hd ⊢; omega
      | cons y b =>
        have := ih b d (by simp at hd; omega)
        simp only [ordL]
        by_cases h1 : x < y
        · rw [if_pos h1]; simp; omega
        · rw [if_neg h1]
          by_cases h2 : y < x
          · rw [if_pos h2]; simp; omega
          · rw [if_neg h2, this]
            obtain rfl : x = y := by omega
            simp
  exact fun a b => go a b _ rfl

/-- slices.Compare -/
def lexc : List Int → List Int → Int
  | [], [] => 0
  | [], _ :: _ => -1
  | _ :: _, [] => 1
  | a :: x, b :: y => if a < b then -1 else if b < a then 1 else lexc x y
theorem lexc_ordL : ∀ a b : List Int, (ordL a b ((a.length : Int) - b.length) < 0 ↔ lexc a b < 0) := by
  have go : ∀ (a b : List Int) (d : Int), d = (a.length : Int) - b.length → (ordL a b d < 0 ↔ lexc a b < 0) := by
    intro a
    induction a with
    | nil => intro b d hd; cases b <;> simp [ordL, lexc] at hd ⊢ <;> omega
    | cons x a ih =>
      intro b d hd
      cases b with
      | nil => simp [ordL, lexc] at hd ⊢; omega
      | cons y b =>
        have := ih b d (by simp at hd; omega)
        simp only [ordL, lexc]
        by_cases h1 : x < y
        · rw [if_pos h1, if_pos h1]
        · rw [if_neg h1, if_neg h1]
          by_cases h2 : y < x
          · rw [if_pos h2, if_pos h2]
          · rw [if_neg h2, if_neg h2, this]
  exact fun a b => go a b _ rfl

def okW (w : Int) : Bool := decide (w ≠ 0) && (decide (-10000 ≤ w) && decide (w ≤ 10000))
/-- items in order, behind a row -/
def chain : Option (List Int) → List S54 → Bool
  | _, [] => true
  | p, x :: z => okRow x.f0 && (okW x.f1 && ((match p with | none => true | some r => decide (lexc r x.f0 < 0)) && chain (some x.f0) z))
theorem chain_nil (p : Option (List Int)) : chain p [] = true := by cases p <;> rfl
theorem chain_cons (p : Option (List Int)) (x : S54) (z : List S54) : chain p (x :: z) = (okRow x.f0 && (okW x.f1 && ((match p with | none => true | some r => decide (lexc r x.f0 < 0)) && chain (some x.f0) z))) := by cases p <;> rfl
def okZ (z : List S54) : Bool := decide (z.length ≤ 100) && chain none z
/-- the row ahead of a place -/
def ahead (z : List S54) (i : Nat) : Option (List Int) := if i = 0 then none else (z[i - 1]?).map (·.f0)
theorem ahead_succ (z : List S54) (i : Nat) (h : i < z.length) : ahead z (i + 1) = some z[i].f0 := by
  unfold ahead
  rw [if_neg (by omega), Nat.add_sub_cancel, List.getElem?_eq_getElem h]
  rfl

theorem lexc_swap : ∀ a b : List Int, lexc b a = - lexc a b := by
  intro a
  induction a with
  | nil => intro b; cases b <;> rfl
  | cons x a ih =>
    intro b
    cases b with
    | nil => rfl
    | cons y b =>
      simp only [lexc]
      by_cases h1 : x < y
      · rw [if_pos h1, if_neg (by omega), if_pos h1]; rfl
      · rw [if_neg h1]
        by_cases h2 : y < x
        · rw [if_pos h2, if_neg h1, if_pos h2]
        · rw [if_neg h2, if_neg h1, if_neg h2, ih]
theorem lexc_zero : ∀ a b : List Int, lexc a b = 0 ↔ a = b := by
  intro a
  induction a with
  | nil => intro b; cases b <;> simp [lexc]
  | cons x a ih =>
    intro b
    cases b with
    | nil => simp [lexc]
    | cons y b =>
      simp only [lexc]
      by_cases h1 : x < y
      · rw [if_pos h1]; simp; omega
      · rw [if_neg h1]
        by_cases h2 : y < x
        · rw [if_pos h2]; simp; omega
        · rw [if_neg h2, ih]
          obtain rfl : x = y := by omega
          simp
theorem lexc_trans : ∀ a b c : List Int, lexc a b < 0 → lexc b c < 0 → lexc a c < 0 := by
  intro a
  induction a with
  | nil =>
    intro b c h1 h2
    cases b with
    | nil => simp [lexc] at h1
    | cons y b =>
      cases c with
      | nil => simp [lexc] at h2
      | cons z c => simp [lexc]
  | cons x a ih =>
    intro b c h1 h2
    cases b with
    | nil => simp [lexc] at h1
    | cons y b =>
      cases c with
      | nil => simp [lexc] at h2
      | cons z c =>
        simp only [lexc] at h1 h2 ⊢
        by_cases c1 : x < z
        · rw [if_pos c1]; decide
        · rw [if_neg c1]
          by_cases d1 : x < y
          · rw [if_neg (by omega)] at h2
            rw [if_pos (by omega)] at h2
            simp at h2
          · rw [if_neg d1] at h1
            by_cases d2 : y < x
            · rw [if_pos d2] at h1; simp at h1
            · rw [if_neg d2] at h1
              obtain rfl : x = y := by omega
              rw [if_neg c1] at h2
              by_cases c2 : z < x
              · rw [if_pos c2] at h2; simp at h2
              · rw [if_neg c2] at h2 ⊢
                exact ih b c h1 h2
theorem lexc_app : ∀ a b : List Int, lexc a (a ++ b) = if b = [] then 0 else -1 := by
  intro a
  induction a with
  | nil => intro b; cases b <;> simp [lexc]
  | cons x a ih =>
    intro b
    rw [List.cons_append]
    simp only [lexc]
    rw [if_neg (by omega), if_neg (by omega), ih]

theorem okRow_iff (r : List Int) : okRow r = true ↔ (1 ≤ r.length ∧ r.length ≤ 6 ∧ ∀ x ∈ r, cellB x = true) := by
  unfold okRow; simp [and_assoc]
theorem okRow_set (r : List Int) (v : Int) (hr : 1 ≤ r.length) (hv : cellB v = false) : okRow (r.set 0 v) = false := by
  rw [Bool.eq_false_iff]
  intro h
  have := ((okRow_iff _).1 h).2.2 v (List.mem_set (by omega) v)
  rw [hv] at this
  cases this
theorem lexc_take : ∀ (r : List Int) (n : Nat), n < r.length → lexc (r.take n) r = -1 := by
  intro r
  induction r with
  | nil => intro n h; simp at h
  | cons x r ih =>
    intro n h
    cases n with
    | zero => rfl
    | succ n =>
      rw [List.take_succ_cons]
      simp only [lexc]
      rw [if_neg (by omega), if_neg (by omega)]
      exact ih n (by simpa using h)
theorem okRow_take (r : List Int) (n : Nat) (h : okRow r = true) : okRow (r.take n) = decide ((r.take n).length > 0) := by
  obtain ⟨h1, h2, h3⟩ := (okRow_iff r).1 h
  rw [Bool.eq_iff_iff, okRow_iff, decide_eq_true_iff]
  constructor
  · intro k; omega
  · intro k
    exact ⟨by omega, by rw [List.length_take]; omega, fun x hx => h3 x (List.mem_of_mem_take hx)⟩

/-- rows in order, pairwise -/
def sorted (z : List S54) : Prop := ∀ i j (hi : i < z.length) (hj : j < z.length), i < j → lexc z[i].f0 z[j].f0 < 0
theorem chain_sorted : ∀ (z : List S54) (p : Option (List Int)), chain p z = true → (∀ r, p = some r → ∀ x ∈ z, lexc r x.f0 < 0) ∧ z.Pairwise (fun x y => lexc x.f0 y.f0 < 0) ∧ ∀ x ∈ z, okRow x.f0 = true ∧ okW x.f1 = true := by
  intro z
  induction z with
  | nil => intro p _; exact ⟨by simp, .nil, by simp⟩
  | cons x z ih =>
    intro p h
    rw [chain_cons] at h
    simp only [Bool.and_eq_true] at h
    obtain ⟨h1, h2, h3, h4⟩ := h
    obtain ⟨i1, i2, i3⟩ := ih _ h4
    have i1 := i1 _ rfl
    refine ⟨fun r hr y hy => ?_, List.pairwise_cons.2 ⟨i1, i2⟩, fun y hy => ?_⟩
    · subst hr
      have h3' : lexc r x.f0 < 0 := by simpa using h3
      rcases List.mem_cons.1 hy with e | e
      · subst e; exact h3'
      · exact lexc_trans _ _ _ h3' (i1 y e)
    · rcases List.mem_cons.1 hy with e | e
      · subst e; exact ⟨h1, h2⟩
      · exact i3 y e
theorem okZ_facts {z : List S54} (h : okZ z = true) : z.length ≤ 100 ∧ z.Pairwise (fun x y => lexc x.f0 y.f0 < 0) ∧ ∀ x ∈ z, okRow x.f0 = true ∧ okW x.f1 = true := by
  unfold okZ at h
  simp only [Bool.and_eq_true, decide_eq_true_iff] at h
  obtain ⟨h1, h2⟩ := h
  obtain ⟨_, h3, h4⟩ := chain_sorted z none h2
  exact ⟨h1, h3, h4⟩
theorem pairwise_at {α : Type} {R : α → α → Prop} {z : List α} (h : z.Pairwise R) {i j : Nat} (hi : i < z.length) (hj : j < z.length) (hij : i < j) : R z[i] z[j] := List.pairwise_iff_getElem.1 h i j hi hj hij

/-- the weight of a row, or 0 -/
def wOf (r : List Int) : List S54 → Int
  | [] => 0
  | x :: z => if x.f0 = r then x.f1 else wOf r z
def getZ (z : List S54) (r : List Int) : Int := if okZ z = true then wOf r z else 0

/-! weighted lists in order -/
theorem lexc_irr (a : List Int) : lexc a a = 0 := (lexc_zero a a).2 rfl
theorem lexc_gt {a b : List Int} (h1 : ¬ lexc a b < 0) (h2 : a ≠ b) : lexc b a < 0 := by
  have := lexc_swap a b
  have h3 : lexc a b ≠ 0 := fun e => h2 ((lexc_zero a b).1 e)
  omega
/-- rows in order, and no weight of 0 -/
structure Canon (z : List S54) : Prop where
  ord : z.Pairwise (fun x y => lexc x.f0 y.f0 < 0)
  nz : ∀ x ∈ z, x.f1 ≠ 0
theorem Canon.nil : Canon [] := ⟨.nil, by simp⟩
theorem Canon.tail {x : S54} {z : List S54} (h : Canon (x :: z)) : Canon z := ⟨(List.pairwise_cons.1 h.ord).2, fun y hy => h.nz y (List.mem_cons_of_mem _ hy)⟩
theorem Canon.head {x : S54} {z : List S54} (h : Canon (x :: z)) : ∀ y ∈ z, lexc x.f0 y.f0 < 0 := (List.pairwise_cons.1 h.ord).1
theorem canon_cons {x : S54} {z : List S54} (h : Canon z) (h0 : x.f1 ≠ 0) (h1 : ∀ y ∈ z, lexc x.f0 y.f0 < 0) : Canon (x :: z) :=
  ⟨List.pairwise_cons.2 ⟨h1, h.ord⟩, fun y hy => (List.mem_cons.1 hy).elim (fun e => by rw [e]; exact h0) (fun e => h.nz y e)⟩
theorem wOf_below {r : List Int} : ∀ {z : List S54}, (∀ y ∈ z, lexc r y.f0 < 0) → wOf r z = 0 := by
  intro z
  induction z with
  | nil => intro _; rfl
  | cons x z ih =>
    intro h
    have hx := h x List.mem_cons_self
    unfold wOf
    rw [if_neg (fun e => by rw [e, lexc_irr] at hx; omega)]
    exact ih (fun y hy => h y (List.mem_cons_of_mem _ hy))
theorem wOf_mem : ∀ {z : List S54} {x : S54}, Canon z → x ∈ z → wOf x.f0 z = x.f1 := by
  intro z
  induction z with
  | nil => intro x _ h; cases h
  | cons y z ih =>
    intro x hc hx
    unfold wOf
    rcases List.mem_cons.1 hx with e | e
    · subst e; rw [if_pos rfl]
    · have := hc.head x e
      rw [if_neg (fun e2 => by rw [e2, lexc_irr] at this; omega)]
      exact ih hc.tail e
theorem wOf_ne : ∀ {z : List S54} {r : List Int}, wOf r z ≠ 0 → ∃ x ∈ z, x.f0 = r := by
  intro z
  induction z with
  | nil => intro r h; exact absurd rfl h
  | cons y z ih =>
    intro r h
    unfold wOf at h
    by_cases e : y.f0 = r
    · exact ⟨y, List.mem_cons_self, e⟩
    · rw [if_neg e] at h
      obtain ⟨x, hx, hr⟩ := ih h
      exact ⟨x, List.mem_cons_of_mem _ hx, hr⟩
theorem wOf_mem' {x y : S54} {b : List S54} (hb : Canon (y :: b)) (e : x.f0 = y.f0) : wOf x.f0 (y :: b) = y.f1 := by rw [e]; exact wOf_mem hb List.mem_cons_self
theorem canon_ext : ∀ {a b : List S54}, Canon a → Canon b → (∀ r, wOf r a = wOf r b) → a = b := by
  intro a
  induction a with
  | nil =>
    intro b _ hb h
    cases b with
    | nil => rfl
    | cons y b =>
      have := h y.f0
      rw [wOf_mem hb List.mem_cons_self] at this
      exact absurd this.symm (hb.nz y List.mem_cons_self)
  | cons x a ih =>
    intro b ha hb h
    cases b with
    | nil =>
      have := h x.f0
      rw [wOf_mem ha List.mem_cons_self] at this
      exact absurd this (ha.nz x List.mem_cons_self)
    | cons y b =>
      have hx := h x.f0
      rw [wOf_mem ha List.mem_cons_self] at hx
      have hy := h y.f0
      rw [wOf_mem hb List.mem_cons_self] at hy
      have e0 : x.f0 = y.f0 := by
        obtain ⟨u, hu, hur⟩ := wOf_ne (z := y :: b) (r := x.f0) (by rw [← hx]; exact ha.nz x List.mem_cons_self)
        obtain ⟨v, hv, hvr⟩ := wOf_ne (z := x :: a) (r := y.f0) (by rw [hy]; exact hb.nz y List.mem_cons_self)
        rcases List.mem_cons.1 hu with e | e
        · rw [← hur, e]
        · rcases List.mem_cons.1 hv with e2 | e2
          · rw [← hvr, e2]
          · have h1 := hb.head u e
            have h2 := ha.head v e2
            rw [hur] at h1
            rw [hvr] at h2
            have := lexc_swap x.f0 y.f0
            omega
      have e1 : x.f1 = y.f1 := by rw [hx, wOf_mem' hb e0]
      obtain rfl : x = y := ext_item e0 e1
      congr 1
      refine ih ha.tail hb.tail (fun r => ?_)
      have := h r
      unfold wOf at this
      by_cases e : x.f0 = r
      · subst e
        rw [wOf_below ha.head, wOf_below hb.head]
      · rw [if_neg e, if_neg e] at this
        exact this

/-- spec's l2Put -/
def putL (r : List Int) (w : Int) : List S54 → List S54
  | [] => if w = 0 then [] else [⟨r, w⟩]
  | x :: z => if lexc x.f0 r < 0 then x :: putL r w z else if x.f0 = r then (if x.f1 + w = 0 then z else ⟨x.f0, x.f1 + w⟩ :: z) else if w = 0 then x :: z else ⟨r, w⟩ :: x :: z
theorem putL_rows (r : List Int) (w : Int) : ∀ (z : List S54), ∀ y ∈ putL r w z, y.f0 = r ∨ ∃ x ∈ z, x.f0 = y.f0 := by
  intro z
  induction z with
  | nil => intro y hy; unfold putL at hy; split at hy <;> simp at hy; left; rw [hy]
  | cons x z ih =>
    intro y hy
    unfold putL at hy
    split at hy
    · rcases List.mem_cons.1 hy with e | e
      · exact .inr ⟨x, List.mem_cons_self, by rw [e]⟩
      · rcases ih y e with h | ⟨u, hu, h⟩
        · exact .inl h
        · exact .inr ⟨u, List.mem_cons_of_mem _ hu, h⟩
    · split at hy
      · split at hy
        · exact .inr ⟨y, List.mem_cons_of_mem _ hy, rfl⟩
        · rcases List.mem_cons.1 hy with e | e
          · exact .inr ⟨x, List.mem_cons_self, by rw [e]⟩
          · exact .inr ⟨y, List.mem_cons_of_mem _ e, rfl⟩
      · split at hy
        · exact .inr ⟨y, hy, rfl⟩
        · rcases List.mem_cons.1 hy with e | e
          · exact .inl (by rw [e])
          · exact .inr ⟨y, e, rfl⟩
theorem putL_canon (r : List Int) (w : Int) : ∀ (z : List S54), Canon z → Canon (putL r w z) := by
  intro z
  induction z with
  | nil => intro _; unfold putL; split
           · exact Canon.nil
           · exact ⟨.cons (by simp) .nil, by simpa using ‹¬ w = 0›⟩
  | cons x z ih =>
    intro hc
    unfold putL
    split
    · next h1 =>
      refine canon_cons (ih hc.tail) (hc.nz x List.mem_cons_self) (fun y hy => ?_)
      rcases putL_rows r w z y hy with h | ⟨u, hu, h⟩
      · rw [h]; exact h1
      · rw [← h]; exact hc.head u hu
    · next h1 =>
      split
      · split
        · exact hc.tail
        · next h3 => exact canon_cons hc.tail h3 hc.head
      · next h2 =>
        split
        · exact hc
        · next h3 =>
          have h4 := lexc_gt h1 h2
          refine canon_cons hc h3 (fun y hy => ?_)
          rcases List.mem_cons.1 hy with e | e
          · rw [e]; exact h4
          · exact lexc_trans _ _ _ h4 (hc.head y e)
theorem putL_wOf (r : List Int) (w : Int) (s : List Int) : ∀ (z : List S54), Canon z → wOf s (putL r w z) = wOf s z + if s = r then w else 0 := by
  intro z
  induction z with
  | nil =>
    intro _
    unfold putL
    split
    · next h => subst h; simp [wOf]
    · simp only [wOf]
      by_cases e : r = s
      · rw [if_pos e, if_pos e.symm]; omega
      · rw [if_neg e, if_neg (Ne.symm e)]; omega
  | cons x z ih =>
    intro hc
    unfold putL
    split
    · next h1 =>
      unfold wOf
      by_cases e : x.f0 = s
      · rw [if_pos e, if_pos e, if_neg (fun e2 => by rw [e, e2, lexc_irr] at h1; omega)]; omega
      · rw [if_neg e, if_neg e]; exact ih hc.tail
    · next h1 =>
      split
      · next h2 =>
        split
        · next h3 =>
          by_cases e : x.f0 = s
          · subst e
            rw [wOf_below hc.head, if_pos h2, wOf, if_pos rfl]; omega
          · rw [if_neg (fun e2 => e (by rw [e2, h2])), wOf, if_neg e]; omega
        · by_cases e : x.f0 = s
          · rw [wOf, wOf, if_pos e, if_pos e, if_pos (by rw [← e, h2])]
          · rw [wOf, wOf, if_neg e, if_neg e, if_neg (fun e2 => e (by rw [e2, h2]))]; omega
      · next h2 =>
        split
        · next h3 => subst h3; split <;> omega
        · next h3 =>
          have h4 := lexc_gt h1 h2
          by_cases e : s = r
          · subst e
            have : wOf s (x :: z) = 0 := wOf_below (fun y hy => by
              rcases List.mem_cons.1 hy with e | e
              · rw [e]; exact h4
              · exact lexc_trans _ _ _ h4 (hc.head y e))
            rw [this, if_pos rfl, wOf, if_pos rfl]; show w = 0 + w; omega
          · rw [if_neg e, wOf, if_neg (show ¬ (⟨r, w⟩ : S54).f0 = s from fun e2 => e e2.symm)]; omega
theorem putL_len (r : List Int) (w : Int) : ∀ (z : List S54), (putL r w z).length ≤ z.length + 1 := by
  intro z
  induction z with
  | nil => unfold putL; split <;> simp
  | cons x z ih => unfold putL; repeat' split
                   all_goals simp <;> omega
/-- many, one by one -/
def addL (a b : List S54) : List S54 := b.foldl (fun o x => putL x.f0 x.f1 o) a
theorem addL_canon : ∀ (b a : List S54), Canon a → Canon (addL a b) := by
  intro b
  induction b with
  | nil => intro a h; exact h
  | cons x b ih => intro a h; exact ih _ (putL_canon _ _ _ h)
/-- the sum of the weights of a row -/
def sumW (r : List Int) : List S54 → Int
  | [] => 0
  | x :: z => (if x.f0 = r then x.f1 else 0) + sumW r z
theorem sumW_canon (r : List Int) : ∀ (z : List S54), Canon z → sumW r z = wOf r z := by
  intro z
  induction z with
  | nil => intro _; rfl
  | cons x z ih =>
    intro h
    unfold sumW wOf
    rw [ih h.tail]
    by_cases e : x.f0 = r
    · subst e; rw [if_pos rfl, if_pos rfl, wOf_below h.head]; omega
    · rw [if_neg e, if_neg e]; omega
theorem addL_sum (r : List Int) : ∀ (b a : List S54), Canon a → wOf r (addL a b) = wOf r a + sumW r b := by
  intro b
  induction b with
  | nil => intro a _; simp [addL, sumW]
  | cons x b ih =>
    intro a h
    show wOf r (addL (putL x.f0 x.f1 a) b) = _
    rw [ih _ (putL_canon _ _ _ h), putL_wOf _ _ _ _ h, sumW]
    by_cases e : x.f0 = r
    · rw [if_pos e, if_pos e.symm]; omega
    · rw [if_neg e, if_neg (Ne.symm e)]; omega
theorem addL_wOf (r : List Int) (a b : List S54) (ha : Canon a) (hb : Canon b) : wOf r (addL a b) = wOf r a + wOf r b := by
  rw [addL_sum r b a ha, sumW_canon r b hb]
/-- impl's merged, with sums -/
def merL : List S54 → List S54 → List S54
  | [], b => b
  | x :: a, [] => x :: a
  | x :: a, y :: b => if lexc x.f0 y.f0 < 0 then x :: merL a (y :: b) else if lexc y.f0 x.f0 < 0 then y :: merL (x :: a) b else if x.f1 + y.f1 = 0 then merL a b else ⟨x.f0, x.f1 + y.f1⟩ :: merL a b
  termination_by a b => a.length + b.length
theorem merL_rows : ∀ (n : Nat) (a b : List S54), a.length + b.length ≤ n → ∀ y ∈ merL a b, (∃ x ∈ a, x.f0 = y.f0) ∨ ∃ x ∈ b, x.f0 = y.f0 := by
  intro n
  induction n with
  | zero => intro a b h y hy; cases a <;> cases b <;> simp [merL] at h hy
  | succ n ih =>
    intro a b h y hy
    cases a with
    | nil => rw [merL] at hy; exact .inr ⟨y, hy, rfl⟩
    | cons x a =>
      cases b with
      | nil => rw [merL] at hy; exact .inl ⟨y, hy, rfl⟩
      | cons u b =>
        simp only [List.length_cons] at h
        have lift : ((∃ q ∈ a, q.f0 = y.f0) ∨ ∃ q ∈ b, q.f0 = y.f0) → (∃ q ∈ x :: a, q.f0 = y.f0) ∨ ∃ q ∈ u :: b, q.f0 = y.f0 := fun h => h.imp (fun ⟨q, h1, h2⟩ => ⟨q, List.mem_cons_of_mem _ h1, h2⟩) (fun ⟨q, h1, h2⟩ => ⟨q, List.mem_cons_of_mem _ h1, h2⟩)
        rw [merL] at hy
        split at hy
        · rcases List.mem_cons.1 hy with e | e
          · exact .inl ⟨x, List.mem_cons_self, by rw [e]⟩
          · rcases ih a (u :: b) (by simp; omega) y e with ⟨q, h1, h2⟩ | h1
            · exact .inl ⟨q, List.mem_cons_of_mem _ h1, h2⟩
            · exact .inr h1
        · split at hy
          · rcases List.mem_cons.1 hy with e | e
            · exact .inr ⟨u, List.mem_cons_self, by rw [e]⟩
            · rcases ih (x :: a) b (by simp; omega) y e with h1 | ⟨q, h1, h2⟩
              · exact .inl h1
              · exact .inr ⟨q, List.mem_cons_of_mem _ h1, h2⟩
          · split at hy
            · exact lift (ih a b (by omega) y hy)
            · rcases List.mem_cons.1 hy with e | e
              · exact .inl ⟨x, List.mem_cons_self, by rw [e]⟩
              · exact lift (ih a b (by omega) y e)
theorem merL_spec : ∀ (n : Nat) (a b : List S54), a.length + b.length ≤ n → Canon a → Canon b → Canon (merL a b) ∧ ∀ r, wOf r (merL a b) = wOf r a + wOf r b := by
  intro n
  induction n with
  | zero => intro a b h _ _; cases a <;> cases b <;> simp [merL, wOf, Canon.nil] at h ⊢
  | succ n ih =>
    intro a b h ha hb
    cases a with
    | nil => rw [merL]; exact ⟨hb, fun r => by simp [wOf]⟩
    | cons x a =>
      cases b with
      | nil => rw [merL]; exact ⟨ha, fun r => by simp [wOf]⟩
      | cons u b =>
        simp only [List.length_cons] at h
        rw [merL]
        split
        · next h1 =>
          obtain ⟨c, e⟩ := ih a (u :: b) (by simp; omega) ha.tail hb
          refine ⟨canon_cons c (ha.nz x List.mem_cons_self) (fun y hy => ?_), fun r => ?_⟩
          · rcases merL_rows _ a (u :: b) (Nat.le_refl _) y hy with ⟨q, hq, h2⟩ | ⟨q, hq, h2⟩
            · rw [← h2]; exact ha.head q hq
            · rw [← h2]
              rcases List.mem_cons.1 hq with e | e
              · rw [e]; exact h1
              · exact lexc_trans _ _ _ h1 (hb.head q e)
          · rw [wOf, wOf]
            by_cases e0 : x.f0 = r
            · rw [if_pos e0, if_pos e0]
              have : wOf r (u :: b) = 0 := wOf_below (fun y hy => by
                rw [← e0]
                rcases List.mem_cons.1 hy with e | e
                · rw [e]; exact h1
                · exact lexc_trans _ _ _ h1 (hb.head y e))
              omega
            · rw [if_neg e0, if_neg e0]; exact e r
        · next h1 =>
          split
          · next h2 =>
            obtain ⟨c, e⟩ := ih (x :: a) b (by simp; omega) ha hb.tail
            refine ⟨canon_cons c (hb.nz u List.mem_cons_self) (fun y hy => ?_), fun r => ?_⟩
            · rcases merL_rows _ (x :: a) b (Nat.le_refl _) y hy with ⟨q, hq, h3⟩ | ⟨q, hq, h3⟩
              · rw [← h3]
                rcases List.mem_cons.1 hq with e | e
                · rw [e]; exact h2
                · exact lexc_trans _ _ _ h2 (ha.head q e)
              · rw [← h3]; exact hb.head q hq
            · rw [wOf, wOf.eq_2 r u b]
              by_cases e0 : u.f0 = r
              · rw [if_pos e0, if_pos e0]
                have : wOf r (x :: a) = 0 := wOf_below (fun y hy => by
                  rw [← e0]
                  rcases List.mem_cons.1 hy with e | e
                  · rw [e]; exact h2
                  · exact lexc_trans _ _ _ h2 (ha.head y e))
                omega
              · rw [if_neg e0, if_neg e0]; exact e r
          · next h2 =>
            have h3 : x.f0 = u.f0 := by
              refine (lexc_zero _ _).1 ?_
              have := lexc_swap x.f0 u.f0
              omega
            obtain ⟨c, e⟩ := ih a b (by omega) ha.tail hb.tail
            have low : ∀ y ∈ merL a b, lexc x.f0 y.f0 < 0 := fun y hy => by
              rcases merL_rows _ a b (Nat.le_refl _) y hy with ⟨q, hq, h4⟩ | ⟨q, hq, h4⟩
              · rw [← h4]; exact ha.head q hq
              · rw [← h4, h3]; exact hb.head q hq
            split
            · next h4 =>
              refine ⟨c, fun r => ?_⟩
              rw [e r, wOf.eq_2 r x a, wOf.eq_2 r u b]
              by_cases e0 : x.f0 = r
              · rw [if_pos e0, if_pos (by rw [← h3]; exact e0), ← e0, wOf_below ha.head, h3, wOf_below hb.head]; omega
              · rw [if_neg e0, if_neg (by rw [← h3]; exact e0)]
            · next h4 =>
              refine ⟨canon_cons c h4 low, fun r => ?_⟩
              rw [wOf, wOf, wOf]
              by_cases e0 : x.f0 = r
              · rw [if_pos e0, if_pos e0, if_pos (by rw [← h3]; exact e0)]
              · rw [if_neg e0, if_neg e0, if_neg (by rw [← h3]; exact e0)]; exact e r
theorem merL_addL (a b : List S54) (ha : Canon a) (hb : Canon b) : merL a b = addL a b := by
  obtain ⟨c, e⟩ := merL_spec _ a b (Nat.le_refl _) ha hb
  exact canon_ext c (addL_canon _ _ ha) (fun r => by rw [e, addL_wOf r a b ha hb])

theorem l1Order_ev (a b : List Int) (ha : a.length < 4611686018427387904) (hb : b.length < 4611686018427387904) : Ev (fun k => spec_l1Order.f k a b) (ordL a b ((a.length : Int) - b.length)) := by
  have h := ev_down (fun k i => spec_l1Order.l0 k a b (i : Int)) (fun i => ordL (a.drop i) (b.drop i) ((a.length : Int) - b.length)) a.length ?_ ?_ 0 (by omega)
  · simpa [spec_l1Order.f] using h
  · refine Ev.step (fun k => spec_l1Order.l0.eq_2 ..) (ev_neg (by omega) (ev_now ?_))
    rw [drop_end a _ (Nat.le_refl _), ordL, w64 (by omega) (by omega)]
  · intro i hi ih
    refine Ev.step (fun k => spec_l1Order.l0.eq_2 ..) (ev_pos (by omega) ?_)
    by_cases hb' : i < b.length
    · rw [drop_rd a i hi, drop_rd b i hb']
      refine ev_pos (by omega) (ev_pos (by omega) ?_)
      by_cases h1 : rd a i < rd b i
      · exact ev_pos h1 (ev_now (by rw [ordL, if_pos h1]))
      · refine ev_neg h1 ?_
        by_cases h2 : rd a i > rd b i
        · exact ev_pos h2 (ev_now (by rw [ordL, if_neg h1, if_pos h2]))
        · refine ev_neg h2 ?_
          rw [w64n (by omega), ordL, if_neg h1, if_neg h2]
          exact ih
    · refine ev_neg (by omega) (ev_now ?_)
      rw [drop_end b i (by omega), w64 (by omega) (by omega)]
      cases a.drop i <;> rfl

theorem specLess_ev (a b : List Int) (ha : a.length < 4611686018427387904) (hb : b.length < 4611686018427387904) : Ev (fun k => spec_RowLess.f k a b) (decide (lexc a b < 0)) := by
  unfold spec_RowLess.f
  refine (l1Order_ev a b ha hb).bind (ev_now ?_)
  rw [decide_eq_decide]
  exact lexc_ordL a b

theorem specSame_ev (a b : List Int) (ha : a.length < 4611686018427387904) (hb : b.length < 4611686018427387904) : Ev (fun k => spec_RowSame.f k a b) (decide (a = b)) := by
  unfold spec_RowSame.f
  refine (l1Order_ev a b ha hb).bind (ev_now ?_)
  rw [Bool.eq_iff_iff, beq_iff_eq, decide_eq_true_iff]
  exact ordL_zero a b

theorem specCopy (a : List Int) (ha : a.length < 17592186044416) : spec_l1Copy.f a = some a := by
  unfold spec_l1Copy.f
  simp only [Option.bind_some]
  rw [if_pos (by simp; omega)]
  simp

theorem erase_set {α : Type} (z : List α) (i : Nat) (x : α) : (z.set i x).eraseIdx i = z.take i ++ z.drop (i + 1) := by
  rw [List.eraseIdx_eq_take_drop_succ, List.take_set_of_le (Nat.le_refl _), List.drop_set_of_lt (by omega)]
theorem set_split {α : Type} (z : List α) (i : Nat) (x : α) (h : i < z.length) : z.set i x = z.take i ++ x :: z.drop (i + 1) := by
  rw [List.set_eq_take_append_cons_drop, if_pos h]
/-- weights far from the ends of their kind -/
def Tame (z : List S54) : Prop := ∀ x ∈ z, -1000000000000000 ≤ x.f1 ∧ x.f1 ≤ 1000000000000000
theorem specPut_ev (z : List S54) (r : List Int) (w : Int) (hs : Small z) (hr : r.length ≤ 1048576) (hw : Tame z) (hw0 : -1000000000000000 ≤ w ∧ w ≤ 1000000000000000) : Ev (fun k => spec_l2Put.f k z r w) (putL r w z) := by
  have hz := hs.len
  have h := ev_down (fun k i => spec_l2Put.l0 k z r w (i : Int)) (fun i => z.take i ++ putL r w (z.drop i)) z.length ?_ ?_ 0 (by omega)
  · simpa [spec_l2Put.f] using h
  · refine Ev.step (fun k => spec_l2Put.l0.eq_2 ..) (ev_neg (by omega) ?_)
    rw [drop_end z _ (Nat.le_refl _), List.take_length]
    by_cases h0 : w = 0
    · exact ev_pos h0 (ev_now (by simp [putL, h0]))
    · refine ev_neg h0 (ev_pos (by omega) (ev_pos (by omega) (ev_some (ev_eq (specCopy r (by omega)) (ev_pos (by simp; omega) (ev_pos (by omega) (ev_now ?_)))))))
      simp [putL, h0]
  · intro i hi ih
    have hri := hs.row _ (List.getElem_mem hi)
    refine Ev.step (fun k => spec_l2Put.l0.eq_2 ..) (ev_pos (by omega) (ev_pos (by omega) ?_))
    rw [rdI_at z i hi, drop_at z i hi]
    refine (specLess_ev z[i].f0 r (by omega) (by omega)).bind ?_
    by_cases h1 : lexc z[i].f0 r < 0
    · refine ev_pos (decide_eq_true h1) ?_
      rw [w64n (by omega), putL, if_pos h1]
      rw [List.take_succ_eq_append_getElem hi, List.append_assoc] at ih
      exact ih
    · refine ev_neg (by simpa using h1) ((specSame_ev z[i].f0 r (by omega) (by omega)).bind ?_)
      rw [putL, if_neg h1]
      by_cases h2 : z[i].f0 = r
      · refine ev_pos (decide_eq_true h2) ?_
        have hwx := hw _ (List.getElem_mem hi)
        rw [w64 (x := z[i].f1 + w) (by omega) (by omega), Int.toNat_natCast, if_pos h2]
        refine ev_some ?_
        have e1 : rd_T54 (z.set i (⟨z[i].f0, z[i].f1 + w⟩ : S54)) (i : Int) = ⟨z[i].f0, z[i].f1 + w⟩ := by rw [rdI_at _ i (by simpa using hi)]; simp
        rw [e1]
        by_cases h3 : z[i].f1 + w = 0
        · refine ev_pos h3 ?_
          rw [if_pos h3, w64n (by omega)]
          exact ev_pos (by omega) (ev_pos (by omega) (ev_pos (by omega) (ev_now (erase_set z i _))))
        · refine ev_neg h3 (ev_now ?_)
          rw [if_neg h3]
          exact set_split z i _ hi
      · refine ev_neg (by simpa using h2) ?_
        rw [if_neg h2]
        by_cases h3 : w = 0
        · refine ev_pos h3 (ev_now ?_)
          rw [if_pos h3, ← drop_at z i hi, List.take_append_drop]
        · refine ev_neg h3 (ev_pos (by omega) (ev_some (ev_eq (specCopy r (by omega)) (ev_pos (by simp; omega) (ev_pos (by omega) (ev_now ?_))))))
          rw [Int.toNat_natCast, drop_at z i hi, if_neg h3, List.append_assoc]
          rfl
theorem putL_small (r : List Int) (w : Int) (z : List S54) (hs : ∀ x ∈ z, x.f0.length ≤ 1048576) (hr : r.length ≤ 1048576) : ∀ x ∈ putL r w z, x.f0.length ≤ 1048576 := by
  intro y hy
  rcases putL_rows r w z y hy with h | ⟨u, hu, h⟩
  · rw [h]; exact hr
  · rw [← h]; exact hs u hu

/-- what the draws of items yield -/
structure Drawn_ (m : Nat) (B : Int) (z : List S54) : Prop where
  len : z.length ≤ m
  row : ∀ x ∈ z, x.f0.length ≤ 7
  w : ∀ x ∈ z, -B ≤ x.f1 ∧ x.f1 ≤ B
theorem Drawn_.small {m : Nat} {B : Int} {z : List S54} (h : Drawn_ m B z) (hm : m ≤ 1000) : Small z := ⟨by have := h.len; omega, fun x hx => by have := h.row x hx; omega⟩
theorem Drawn_.tame {m : Nat} {B : Int} {z : List S54} (h : Drawn_ m B z) (hB : B ≤ 1000000) : Tame z := fun x hx => by have := h.w x hx; omega
theorem putL_w (r : List Int) (w B C : Int) (hB : 0 ≤ B) (hw : -C ≤ w ∧ w ≤ C) : ∀ (z : List S54), (∀ x ∈ z, -B ≤ x.f1 ∧ x.f1 ≤ B) → ∀ y ∈ putL r w z, -(B + C) ≤ y.f1 ∧ y.f1 ≤ B + C := by
  intro z
  induction z with
  | nil => intro _ y hy; unfold putL at hy; split at hy <;> simp at hy; subst hy; simp; omega
  | cons x z ih =>
    intro h y hy
    have hx := h x List.mem_cons_self
    have hz := fun u hu => h u (List.mem_cons_of_mem _ hu)
    have old : ∀ u ∈ x :: z, -(B + C) ≤ u.f1 ∧ u.f1 ≤ B + C := fun u hu => by have := h u hu; omega
    unfold putL at hy
    split at hy
    · rcases List.mem_cons.1 hy with e | e
      · subst e; omega
      · exact ih hz y e
    · split at hy
      · split at hy
        · exact old y (List.mem_cons_of_mem _ hy)
        · rcases List.mem_cons.1 hy with e | e
          · subst e; dsimp only; omega
          · exact old y (List.mem_cons_of_mem _ e)
      · split at hy
        · exact old y hy
        · rcases List.mem_cons.1 hy with e | e
          · subst e; dsimp only; omega
          · exact old y e
theorem put_drawn {m : Nat} {B C : Int} {z : List S54} (h : Drawn_ m B z) (r : List Int) (w : Int) (hB : 0 ≤ B) (hr : r.length ≤ 7) (hw : -C ≤ w ∧ w ≤ C) : Drawn_ (m + 1) (B + C) (putL r w z) :=
  ⟨by have := putL_len r w z; have := h.len; omega, fun y hy => by
    rcases putL_rows r w z y hy with e | ⟨u, hu, e⟩
    · rw [e]; exact hr
    · rw [← e]; exact h.row u hu, putL_w r w B C hB hw z h.w⟩
theorem put_drawn_ev {m : Nat} {B : Int} {z : List S54} (h : Drawn_ m B z) (hm : m ≤ 1000) (hB1 : B ≤ 1000000) (r : List Int) (w : Int) (hr : r.length ≤ 7) (hw : -1000000 ≤ w ∧ w ≤ 1000000) : Ev (fun k => spec_l2Put.f k z r w) (putL r w z) :=
  specPut_ev z r w (h.small hm) (by omega) (h.tame hB1) (by omega)
theorem l2Z_ev {b : List Int} (hb : Code_ b) (p : Int) (wide most : Nat) (hp : 0 ≤ p) (hp1 : p + 1000 ≤ lim) (hw : wide ≤ 7) (hm : most ≤ 50) :
    ∃ (z : List S54) (q : Int), Ev (fun k => spec_l2Z.f k b p wide most) (z, q) ∧ p ≤ q ∧ q ≤ p + 1000 ∧ Drawn_ most 150 z ∧ Canon z := by
  have hlim : lim = 1000000000 := rfl
  have go : ∀ (d m : Nat) (z : List S54) (p : Int), m + d ≤ 50 → 0 ≤ p → p + d * 8 ≤ lim → Drawn_ m (3 * m) z → Canon z →
      ∃ (z' : List S54) (q : Int), Ev (fun k => spec_l2Z.l0 k wide z (d : Int) b p) (z', q) ∧ p ≤ q ∧ q ≤ p + d * 8 ∧ Drawn_ (m + d) 150 z' ∧ Canon z' := by
    intro d
    induction d with
    | zero =>
      intro m z p hmd hp hp1 hz hc
      exact ⟨z, p, Ev.step (fun k => spec_l2Z.l0.eq_2 ..) (ev_neg (by simp) (ev_now rfl)), by omega, by omega, ⟨hz.len, hz.row, fun x hx => by have := hz.w x hx; omega⟩, hc⟩
    | succ d ih =>
      intro m z p hmd hp hp1 hz hc
      obtain ⟨r, hr, r1, r2⟩ := row_ev hb p wide hp (by omega)
      obtain ⟨w, hw1, hm⟩ := num_some hb (p + wide) [1, 1, 1, 2, -1, 3, -2] (by omega) (by omega) (by decide)
      have hw2 : -3 ≤ w ∧ w ≤ 3 := by simp at hm; omega
      have hput := put_drawn_ev hz (by omega) (by omega) r w (by omega) (by omega)
      have hz' := put_drawn hz r w (by omega) (by omega) hw2
      obtain ⟨z', q, h1, h2, h3, h4, h5⟩ := ih (m + 1) (putL r w z) (p + wide + 1) (by omega) (by omega) (by omega) (by rw [show (3 * ((m + 1 : Nat) : Int)) = 3 * (m : Int) + 3 by omega]; exact hz') (putL_canon _ _ _ hc)
      refine ⟨z', q, Ev.step (fun k => spec_l2Z.l0.eq_2 ..) (ev_pos (by omega) (hr.bind (ev_eq hw1 (hput.bind ?_)))), by omega, by omega, by rw [show m + (d + 1) = m + 1 + d by omega]; exact h4, h5⟩
      rw [w64 (x := ((d + 1 : Nat) : Int) - 1) (by omega) (by omega), show ((d + 1 : Nat) : Int) - 1 = (d : Int) by omega]
      exact h1
  obtain ⟨v, hv, v0, v1⟩ := pick_some hb p (most + 1) hp (by omega) (by omega)
  obtain ⟨n, rfl⟩ := Int.eq_ofNat_of_zero_le v0
  obtain ⟨z, q, h1, h2, h3, h4, h5⟩ := go n 0 [] (p + 1) (by omega) (by omega) (by omega) ⟨by simp, by simp, by simp⟩ Canon.nil
  refine ⟨z, q, ?_, by omega, by omega, ⟨by have := h4.len; omega, h4.row, h4.w⟩, h5⟩
  unfold spec_l2Z.f
  rw [w64 (x := (most : Int) + 1) (by omega) (by omega)]
  exact ev_eq hv h1
theorem bentLoop_ev (b : List Int) (p : Int) : ∀ (d i m : Nat) (z : List S54), i + d = 101 → m + d ≤ 900 → Drawn_ m (200 + i) z →
    ∃ z' : List S54, Ev (fun k => spec_l2Bent.l0 k z (i : Int) b p) (z', p) ∧ Drawn_ (m + d) 20000 z' := by
  intro d
  induction d with
  | zero =>
    intro i m z hi hm hz
    exact ⟨z, Ev.step (fun k => spec_l2Bent.l0.eq_2 ..) (ev_neg (by omega) (ev_now rfl)), ⟨hz.len, hz.row, fun x hx => by have := hz.w x hx; omega⟩⟩
  | succ d ih =>
    intro i m z hi hm hz
    have hput := put_drawn_ev hz (by omega) (by omega) [wrap64 (10 + (i : Int))] 1 (by simp) (by omega)
    have hz' := put_drawn (C := 1) hz [wrap64 (10 + (i : Int))] 1 (by omega) (by simp) (by omega)
    obtain ⟨z', h1, h2⟩ := ih (i + 1) (m + 1) _ (by omega) (by omega) (by rw [show (200 + ((i + 1 : Nat) : Int)) = 200 + (i : Int) + 1 by omega]; exact hz')
    refine ⟨z', Ev.step (fun k => spec_l2Bent.l0.eq_2 ..) (ev_pos (by omega) (hput.bind ?_)), by rw [show m + (d + 1) = m + 1 + d by omega]; exact h2⟩
    rw [w64n (by omega)]
    exact h1
theorem set_drawn {m : Nat} {B : Int} {z : List S54} (h : Drawn_ m B z) (i : Nat) (y : S54) (h0 : y.f0.length ≤ 7) (h1 : -B ≤ y.f1 ∧ y.f1 ≤ B) : Drawn_ m B (z.set i y) :=
  ⟨by rw [List.length_set]; exact h.len, fun x hx => (List.mem_or_eq_of_mem_set hx).elim (h.row x) (fun e => by rw [e]; exact h0), fun x hx => (List.mem_or_eq_of_mem_set hx).elim (h.w x) (fun e => by rw [e]; exact h1)⟩
theorem l2Bent_ev {b : List Int} (hb : Code_ b) (p : Int) (hp : 0 ≤ p) (hp1 : p + 2000 ≤ lim) :
    ∃ (z : List S54) (q : Int), Ev (fun k => spec_l2Bent.f k b p) (z, q) ∧ p ≤ q ∧ q ≤ p + 2000 ∧ Drawn_ 110 20000 z := by
  have hlim : lim = 1000000000 := rfl
  obtain ⟨v, hv, v0, v1⟩ := pick_some hb p 3 hp (by omega) (by omega)
  obtain ⟨n, rfl⟩ := Int.eq_ofNat_of_zero_le v0
  obtain ⟨z, q, h1, h2, h3, h4, _⟩ := l2Z_ev hb (p + 1) (1 + n) 6 (by omega) (by omega) (by omega) (by omega)
  have e1 : wrap64 (1 + (n : Int)) = ((1 + n : Nat) : Int) := by rw [w64 (by omega) (by omega)]; omega
  have wide : Drawn_ 110 20000 z := ⟨by have := h4.len; omega, h4.row, fun x hx => by have := h4.w x hx; omega⟩
  have start : ∀ {z' : List S54} {q' : Int}, Ev (fun k => (if (z.length : Int) = 0 then (some (z, q)) else ((spec_l12Rd_pick.f b q (z.length : Int)).bind fun t => ((spec_l12Rd_pick.f b t.2 40).bind fun u => (if u.1 = 0 then ((spec_l12Rd_num.f b u.2 (([0, 10000, 10001, (-10000)] : List Int))).bind fun y => (if 0 ≤ t.1 then (if t.1 < (z.length : Int) then (some ((z.set (t.1 : Int).toNat (⟨(rd_T54 z t.1).f0, y.1⟩ : S54)), y.2)) else (none)) else (none))) else (if u.1 = 1 then (if 0 ≤ t.1 then (if t.1 < (z.length : Int) then (some ((z.set (t.1 : Int).toNat (⟨(([] : List Int)), (rd_T54 z t.1).f1⟩ : S54)), u.2)) else (none)) else (none)) else (if u.1 = 2 then (if 0 < (z.length : Int) then (if z.length < 4398046511104 then (some ((z ++ [(⟨(rd_T54 z 0).f0, (rd_T54 z 0).f1⟩ : S54)]), u.2)) else (none)) else (none)) else (if u.1 = 3 then (spec_l2Bent.l0 k z 0 b u.2) else (some (z, u.2)))))))))) (z', q') → Ev (fun k => spec_l2Bent.f k b p) (z', q') := by
    intro z' q' h
    unfold spec_l2Bent.f
    refine ev_eq hv ?_
    rw [e1]
    exact h1.bind h
  by_cases h0 : (z.length : Int) = 0
  · exact ⟨z, q, start (ev_pos h0 (ev_now rfl)), by omega, by omega, wide⟩
  obtain ⟨t, ht, t0, t1⟩ := pick_some hb q z.length (by omega) (by omega) (by omega)
  obtain ⟨i, rfl⟩ := Int.eq_ofNat_of_zero_le t0
  obtain ⟨u, hu, u0, u1⟩ := pick_some hb (q + 1) 40 (by omega) (by omega) (by omega)
  have hil : i < z.length := by omega
  by_cases c0 : u = 0
  · obtain ⟨y, hy, hm⟩ := num_some hb (q + 1 + 1) [0, 10000, 10001, -10000] (by omega) (by omega) (by decide)
    have hy2 : -20000 ≤ y ∧ y ≤ 20000 := by simp at hm; omega
    refine ⟨_, _, start (ev_neg h0 (ev_eq ht (ev_eq hu (ev_pos c0 (ev_eq hy (ev_pos t0 (ev_pos t1 (ev_now rfl)))))))), by omega, by omega, set_drawn wide _ _ ?_ hy2⟩
    rw [rdI_at z i hil]; exact (show z[i].f0.length ≤ 7 from wide.row _ (List.getElem_mem hil))
  by_cases c1 : u = 1
  · refine ⟨_, _, start (ev_neg h0 (ev_eq ht (ev_eq hu (ev_neg c0 (ev_pos c1 (ev_pos t0 (ev_pos t1 (ev_now rfl)))))))), by omega, by omega, set_drawn wide _ _ (by simp) ?_⟩
    rw [rdI_at z i hil]; exact (show -20000 ≤ z[i].f1 ∧ z[i].f1 ≤ 20000 from wide.w _ (List.getElem_mem hil))
  by_cases c2 : u = 2
  · have hl := h4.len
    refine ⟨_, _, start (ev_neg h0 (ev_eq ht (ev_eq hu (ev_neg c0 (ev_neg c1 (ev_pos c2 (ev_pos (by omega) (ev_pos (by omega) (ev_now rfl))))))))), by omega, by omega, ⟨by simp; omega, fun x hx => ?_, fun x hx => ?_⟩⟩
    · rcases List.mem_append.1 hx with e | e
      · exact wide.row x e
      · simp at e; subst e; have := rdI_at z 0 (by omega); rw [show ((0 : Nat) : Int) = 0 from rfl] at this; dsimp only; rw [this]; exact wide.row _ (List.getElem_mem _)
    · rcases List.mem_append.1 hx with e | e
      · exact wide.w x e
      · simp at e; subst e; have := rdI_at z 0 (by omega); rw [show ((0 : Nat) : Int) = 0 from rfl] at this; dsimp only; rw [this]; exact wide.w _ (List.getElem_mem _)
  by_cases c3 : u = 3
  · obtain ⟨z', hz1, hz2⟩ := bentLoop_ev b (q + 1 + 1) 101 0 6 z (by omega) (by omega) ⟨h4.len, h4.row, fun x hx => by have := h4.w x hx; omega⟩
    exact ⟨z', _, start (ev_neg h0 (ev_eq ht (ev_eq hu (ev_neg c0 (ev_neg c1 (ev_neg c2 (ev_pos c3 hz1))))))), by omega, by omega, ⟨by have := hz2.len; omega, hz2.row, hz2.w⟩⟩
  · exact ⟨z, _, start (ev_neg h0 (ev_eq ht (ev_eq hu (ev_neg c0 (ev_neg c1 (ev_neg c2 (ev_neg c3 (ev_now rfl)))))))), by omega, by omega, wide⟩

theorem specRowOk_ev (r : List Int) (hr : r.length < 4611686018427387904) : Ev (fun k => spec_RowOk.f k r) (okRow r) := by
  have h := ev_down (fun k i => spec_RowOk.l0 k r (i : Int)) (fun i => (decide (1 ≤ r.length) && decide (r.length ≤ 6)) && (r.drop i).all cellB) r.length ?_ ?_ 0 (by omega)
  · simpa [spec_RowOk.f, okRow] using h
  · refine Ev.step (fun k => spec_RowOk.l0.eq_2 ..) (ev_neg (by omega) ?_)
    rw [drop_end r _ (Nat.le_refl _)]
    by_cases h : 1 ≤ r.length
    · exact ev_pos (by omega) (ev_now (by simp [h]; omega))
    · exact ev_neg (by omega) (ev_now (by simp [h]))
  · intro i hi ih
    refine Ev.step (fun k => spec_RowOk.l0.eq_2 ..) (ev_pos (by omega) (ev_pos (by omega) (ev_eq (specCell _) ?_)))
    rw [drop_rd r i hi, List.all_cons]
    cases hc : cellB (rd r i) with
    | true =>
      refine ev_pos rfl ?_
      rw [w64n (by omega), Bool.true_and]
      exact ih
    | false => exact ev_neg (by decide) (ev_now (by simp))

theorem specW (w : Int) : spec_l2W.f w = some (okW w) := by
  unfold spec_l2W.f okW
  by_cases h : w = 0
  · rw [if_pos h]; simp [h]
  · rw [if_neg h]
    by_cases h1 : w ≥ -10000
    · rw [if_pos h1]; simp [h]; omega
    · rw [if_neg h1]; simp; omega
theorem specZOk_ev (z : List S54) (hs : Small z) : Ev (fun k => spec_ZOk.f k z) (okZ z) := by
  have hz := hs.len
  unfold spec_ZOk.f okZ
  by_cases hl : (z.length : Int) > 100
  · exact ev_pos hl (ev_now (by rw [decide_eq_false (by omega)]; rfl))
  refine ev_neg hl ?_
  rw [decide_eq_true (by omega : z.length ≤ 100), Bool.true_and]
  have h := ev_down (fun k i => spec_ZOk.l0 k z (i : Int)) (fun i => chain (ahead z i) (z.drop i)) z.length ?_ ?_ 0 (by omega)
  · simpa [ahead] using h
  · refine Ev.step (fun k => spec_ZOk.l0.eq_2 ..) (ev_neg (by omega) (ev_now ?_))
    rw [drop_end z _ (Nat.le_refl _), chain_nil]
  · intro i hi ih
    have hr := hs.row _ (List.getElem_mem hi)
    refine Ev.step (fun k => spec_ZOk.l0.eq_2 ..) (ev_pos (by omega) (ev_pos (by omega) ?_))
    rw [rdI_at z i hi, drop_at z i hi, chain_cons]
    refine (specRowOk_ev z[i].f0 (by omega)).bind ?_
    cases hok : okRow z[i].f0 with
    | false => exact ev_neg (by simp) (ev_now (by simp))
    | true =>
      refine ev_pos rfl (ev_eq (specW _) ?_)
      cases hw : okW z[i].f1 with
      | false => exact ev_neg (by simp) (ev_now (by simp))
      | true =>
        refine ev_pos rfl ?_
        rw [w64n (by omega)]
        rw [ahead_succ z i hi] at ih
        by_cases h0 : (i : Int) > 0
        · have hi1 : i - 1 < z.length := by omega
          have e : wrap64 ((i : Int) - 1) = ((i - 1 : Nat) : Int) := by rw [w64 (by omega) (by omega)]; omega
          have ha : ahead z i = some z[i - 1].f0 := by unfold ahead; rw [if_neg (by omega), List.getElem?_eq_getElem hi1]; rfl
          have hr1 := hs.row _ (List.getElem_mem hi1)
          rw [e]
          refine ev_pos h0 (ev_pos (by omega) (ev_pos (by omega) ?_))
          rw [rdI_at z (i - 1) hi1, ha]
          refine (specLess_ev z[i - 1].f0 z[i].f0 (by omega) (by omega)).bind ?_
          by_cases hl : lexc z[i - 1].f0 z[i].f0 < 0
          · refine ev_pos (decide_eq_true hl) ?_
            simpa [hl] using ih
          · exact ev_neg (by simpa using hl) (ev_now (by simp [hl]))
        · have ha : ahead z i = none := by unfold ahead; rw [if_pos (by omega)]
          rw [ha]
          refine ev_neg h0 ?_
          simpa using ih

theorem clone_some (l : List Int) (h : l.length ≤ 1048576) : slices_Clone_int_int.f l = some l := by unfold slices_Clone_int_int.f; rw [if_pos (by omega)]
theorem copyItems_ev (z : List S54) (hs : Small z) : Ev (fun k => impl_copyItems.f k z) z := by
  have hz := hs.len
  have h := ev_down (fun k i => impl_copyItems.l0 k (z.take i) z (z.length : Int) (i : Int)) (fun _ => z) z.length ?_ ?_ 0 (by omega)
  · simpa [impl_copyItems.f] using h
  · exact Ev.step (fun k => impl_copyItems.l0.eq_2 ..) (ev_neg (by omega) (ev_now (by rw [List.take_length])))
  · intro i hi ih
    have hr := hs.row _ (List.getElem_mem hi)
    refine Ev.step (fun k => impl_copyItems.l0.eq_2 ..) (ev_pos (by omega) (ev_pos (by omega) (ev_pos (by omega) ?_)))
    rw [rdI_at z i hi]
    refine ev_eq (clone_some _ hr) (ev_pos (by simp; omega) ?_)
    rw [w64n (by omega)]
    rw [List.take_succ_eq_append_getElem hi] at ih
    exact ih

theorem okZ_w {z : List S54} (h : okZ z = true) : ∀ x ∈ z, -10000 ≤ x.f1 ∧ x.f1 ≤ 10000 ∧ x.f1 ≠ 0 := by
  intro x hx
  unfold okZ at h
  simp only [Bool.and_eq_true, decide_eq_true_iff] at h
  have go : ∀ (z : List S54) (p : Option (List Int)), chain p z = true → ∀ x ∈ z, okW x.f1 = true := by
    intro z
    induction z with
    | nil => intro p _ x hx; cases hx
    | cons y z ih =>
      intro p h x hx
      rw [chain_cons] at h
      simp only [Bool.and_eq_true] at h
      rcases List.mem_cons.1 hx with e | e
      · subst e; exact h.2.1
      · exact ih _ h.2.2.2 x e
  have := go z none h.2 x hx
  unfold okW at this
  simp at this
  omega

theorem chain_of : ∀ (z : List S54) (p : Option (List Int)), z.Pairwise (fun x y => lexc x.f0 y.f0 < 0) → (∀ x ∈ z, okRow x.f0 = true ∧ okW x.f1 = true) → (∀ r, p = some r → ∀ x ∈ z, lexc r x.f0 < 0) → chain p z = true := by
  intro z
  induction z with
  | nil => intro p _ _ _; exact chain_nil p
  | cons x z ih =>
    intro p h1 h2 h3
    rw [List.pairwise_cons] at h1
    have hx := h2 x List.mem_cons_self
    rw [chain_cons, hx.1, hx.2, ih (some x.f0) h1.2 (fun y hy => h2 y (List.mem_cons_of_mem _ hy)) (fun r hr y hy => by injection hr with hr; rw [← hr]; exact h1.1 y hy)]
    cases p with
    | none => rfl
    | some r => simp [h3 r rfl x List.mem_cons_self]
theorem okZ_of {z : List S54} (hl : z.length ≤ 100) (h1 : z.Pairwise (fun x y => lexc x.f0 y.f0 < 0)) (h2 : ∀ x ∈ z, okRow x.f0 = true ∧ okW x.f1 = true) : okZ z = true := by
  unfold okZ
  rw [chain_of z none h1 h2 (fun r hr => by cases hr), decide_eq_true hl]
  rfl
theorem okW_iff (w : Int) : okW w = true ↔ (w ≠ 0 ∧ -10000 ≤ w ∧ w ≤ 10000) := by unfold okW; simp
theorem okZ_canon {z : List S54} (h : okZ z = true) : Canon z := ⟨(okZ_facts h).2.1, fun x hx => (okZ_w h x hx).2.2⟩
theorem okZ_small {z : List S54} (h : okZ z = true) : Small z := ⟨by have := (okZ_facts h).1; omega, fun x hx => by
  have := ((okZ_facts h).2.2 x hx).1
  rw [okRow_iff] at this; omega⟩

theorem implCell (n : Int) : impl_isCell.f n = some (cellB n) := by
  unfold impl_isCell.f cellB
  by_cases h : n ≥ -1000000000
  · rw [if_pos h]; simp; omega
  · rw [if_neg h]; simp; omega
theorem implIndex_ev (r : List Int) (hr : r.length < 4611686018427387904) : ∃ j : Int, Ev (fun k => slices_IndexFunc_int_int__impl_RowOk_1.f k r) j ∧ (decide (j ≥ 0) = !r.all cellB) := by
  have h : ∀ i, i ≤ r.length → ∃ j : Int, Ev (fun k => slices_IndexFunc_int_int__impl_RowOk_1.l0 k r (r.length : Int) (i : Int)) j ∧ (decide (j ≥ 0) = !(r.drop i).all cellB) := by
    have go : ∀ d i, i + d = r.length → ∃ j : Int, Ev (fun k => slices_IndexFunc_int_int__impl_RowOk_1.l0 k r (r.length : Int) (i : Int)) j ∧ (decide (j ≥ 0) = !(r.drop i).all cellB) := by
      intro d
      induction d with
      | zero =>
        intro i h
        refine ⟨-1, Ev.step (fun k => slices_IndexFunc_int_int__impl_RowOk_1.l0.eq_2 ..) (ev_neg (by omega) (ev_now rfl)), ?_⟩
        rw [drop_end r i (by omega)]; rfl
      | succ d ih =>
        intro i h
        obtain ⟨j, hj, hk⟩ := ih (i + 1) (by omega)
        have e1 : impl_RowOk_1.f (rd r i) = some (!cellB (rd r i)) := by unfold impl_RowOk_1.f; rw [implCell]; rfl
        rw [drop_rd r i (by omega), List.all_cons]
        cases hc : cellB (rd r i) with
        | true =>
          refine ⟨j, Ev.step (fun k => slices_IndexFunc_int_int__impl_RowOk_1.l0.eq_2 ..) (ev_pos (by omega) (ev_pos (by omega) (ev_pos (by omega) (ev_eq e1 (ev_neg (by rw [hc]; decide) ?_))))), by simpa using hk⟩
          rw [w64n (by omega)]
          exact hj
        | false =>
          refine ⟨(i : Int), Ev.step (fun k => slices_IndexFunc_int_int__impl_RowOk_1.l0.eq_2 ..) (ev_pos (by omega) (ev_pos (by omega) (ev_pos (by omega) (ev_eq e1 (ev_pos (by rw [hc]; rfl) (ev_now rfl)))))), ?_⟩
          simp
    exact fun i hi => go (r.length - i) i (by omega)
  obtain ⟨j, hj, hk⟩ := h 0 (by omega)
  exact ⟨j, by simpa [slices_IndexFunc_int_int__impl_RowOk_1.f] using hj, by simpa using hk⟩
theorem implRowOk_ev (r : List Int) (hr : r.length < 4611686018427387904) : Ev (fun k => impl_RowOk.f k r) (okRow r) := by
  obtain ⟨j, hj, hk⟩ := implIndex_ev r hr
  have hc : Ev (fun k => slices_ContainsFunc_int_int__impl_RowOk_1.f k r) (!r.all cellB) := by
    unfold slices_ContainsFunc_int_int__impl_RowOk_1.f
    exact hj.bind (ev_now hk)
  unfold impl_RowOk.f okRow
  by_cases h1 : 1 ≤ r.length
  · refine ev_pos (by omega) ?_
    by_cases h2 : r.length ≤ 6
    · exact ev_pos (by omega) (hc.bind (ev_now (by simp [h1, h2])))
    · exact ev_neg (by omega) (ev_now (by simp [h2]))
  · exact ev_neg (by omega) (ev_now (by simp [h1]))

theorem cmpInt (a b : Int) : cmp_Compare_int.f a b = some (if a < b then -1 else if b < a then 1 else 0) := by
  unfold cmp_Compare_int.f cmp_isNaN_int.f
  simp only [bne_self_eq_false, Option.bind_some, Bool.false_eq_true, if_false]
  by_cases h1 : a < b
  · rw [if_pos h1, if_pos h1]
  · rw [if_neg h1, if_neg h1]
    by_cases h2 : b < a
    · rw [if_pos h2, if_pos h2]
    · rw [if_neg h2, if_neg h2]
theorem compare_ev (a b : List Int) (ha : a.length < 4611686018427387904) : Ev (fun k => slices_Compare_int_int.f k a b) (lexc a b) := by
  unfold slices_Compare_int_int.f
  have h := ev_down (fun k i => slices_Compare_int_int.l0 k a b a (a.length : Int) (i : Int)) (fun i => lexc (a.drop i) (b.drop i)) (min a.length b.length) ?_ ?_ 0 (by omega)
  · simpa using h
  · by_cases hb : a.length ≤ b.length
    · rw [Nat.min_eq_left hb]
      refine Ev.step (fun k => slices_Compare_int_int.l0.eq_2 ..) (ev_neg (by omega) ?_)
      rw [drop_end a _ (Nat.le_refl _)]
      by_cases h1 : a.length < b.length
      · refine ev_pos (by omega) (ev_now ?_)
        rw [drop_rd b _ h1]; rfl
      · refine ev_neg (by omega) (ev_now ?_)
        rw [drop_end b _ (by omega)]; rfl
    · rw [Nat.min_eq_right (by omega)]
      refine Ev.step (fun k => slices_Compare_int_int.l0.eq_2 ..) (ev_pos (by omega) (ev_pos (by omega) (ev_pos (by omega) (ev_pos (by omega) (ev_now ?_)))))
      rw [drop_end b _ (Nat.le_refl _), drop_rd a _ (by omega)]; rfl
  · intro i hi ih
    have h1 : i < a.length := by omega
    have h2 : i < b.length := by omega
    refine Ev.step (fun k => slices_Compare_int_int.l0.eq_2 ..) (ev_pos (by omega) (ev_pos (by omega) (ev_pos (by omega) (ev_neg (by omega) (ev_pos (by omega) (ev_eq (cmpInt _ _) ?_))))))
    rw [drop_rd a i h1, drop_rd b i h2]
    simp only [lexc]
    by_cases c1 : rd a i < rd b i
    · rw [if_pos c1]
      exact ev_neg (by decide) (ev_now (by rw [if_pos c1]))
    · rw [if_neg c1, if_neg c1]
      by_cases c2 : rd b i < rd a i
      · rw [if_pos c2]
        exact ev_neg (by decide) (ev_now (by rw [if_pos c2]))
      · rw [if_neg c2, if_neg c2]
        refine ev_pos rfl ?_
        rw [w64n (by omega)]
        exact ih

theorem implLess_ev (a b : List Int) (ha : a.length < 4611686018427387904) : Ev (fun k => impl_RowLess.f k a b) (decide (lexc a b < 0)) := by
  unfold impl_RowLess.f
  exact (compare_ev a b ha).bind (ev_now rfl)

theorem implZOk_ev (z : List S54) (hs : Small z) : Ev (fun k => impl_ZOk.f k z) (okZ z) := by
  have hz := hs.len
  unfold impl_ZOk.f okZ
  by_cases hl : (z.length : Int) > 100
  · exact ev_pos hl (ev_now (by rw [decide_eq_false (by omega)]; rfl))
  refine ev_neg hl ?_
  rw [decide_eq_true (by omega : z.length ≤ 100), Bool.true_and]
  have h := ev_down (fun k i => impl_ZOk.l0 k z z (z.length : Int) (i : Int)) (fun i => chain (ahead z i) (z.drop i)) z.length ?_ ?_ 0 (by omega)
  · simpa [ahead] using h
  · refine Ev.step (fun k => impl_ZOk.l0.eq_2 ..) (ev_neg (by omega) (ev_now ?_))
    rw [drop_end z _ (Nat.le_refl _), chain_nil]
  · intro i hi ih
    have hr := hs.row _ (List.getElem_mem hi)
    refine Ev.step (fun k => impl_ZOk.l0.eq_2 ..) (ev_pos (by omega) (ev_pos (by omega) (ev_pos (by omega) ?_)))
    rw [rdI_at z i hi, drop_at z i hi, chain_cons]
    refine (implRowOk_ev z[i].f0 (by omega)).bind ?_
    cases hok : okRow z[i].f0 with
    | false => exact ev_neg (by simp) (ev_now (by simp))
    | true =>
      refine ev_pos rfl ?_
      by_cases w1 : z[i].f1 < -10000
      · exact ev_pos w1 (ev_now (by unfold okW; simp; omega))
      refine ev_neg w1 ?_
      by_cases w2 : z[i].f1 > 10000
      · exact ev_pos w2 (ev_now (by unfold okW; simp; omega))
      refine ev_neg w2 ?_
      by_cases w3 : z[i].f1 = 0
      · exact ev_pos w3 (ev_now (by unfold okW; simp [w3]))
      refine ev_neg w3 ?_
      have hw : okW z[i].f1 = true := by unfold okW; simp [w3]; omega
      rw [hw]
      rw [w64n (by omega)]
      rw [ahead_succ z i hi] at ih
      by_cases h0 : (i : Int) > 0
      · have hi1 : i - 1 < z.length := by omega
        have e : wrap64 ((i : Int) - 1) = ((i - 1 : Nat) : Int) := by rw [w64 (by omega) (by omega)]; omega
        have ha : ahead z i = some z[i - 1].f0 := by unfold ahead; rw [if_neg (by omega), List.getElem?_eq_getElem hi1]; rfl
        have hr1 := hs.row _ (List.getElem_mem hi1)
        rw [e]
        refine ev_pos h0 (ev_pos (by omega) (ev_pos (by omega) ?_))
        rw [rdI_at z (i - 1) hi1, ha]
        refine (implLess_ev z[i - 1].f0 z[i].f0 (by omega)).bind ?_
        by_cases hl : lexc z[i - 1].f0 z[i].f0 < 0
        · refine ev_pos (decide_eq_true hl) ?_
          simpa [hl] using ih
        · exact ev_neg (by simpa using hl) (ev_now (by simp [hl]))
      · have ha : ahead z i = none := by unfold ahead; rw [if_pos (by omega)]
        rw [ha]
        refine ev_neg h0 ?_
        simpa using ih

theorem cmpItem_ev (x y : S54) (h : x.f0.length ≤ 1048576) : Ev (fun k => impl_cmpItem.f k x.f0 x.f1 y.f0 y.f1) (lexc x.f0 y.f0) := by
  unfold impl_cmpItem.f
  exact (compare_ev x.f0 y.f0 (by omega)).bind (ev_now rfl)
theorem rdI_0 (x : S54) (l : List S54) : rd_T54 (x :: l) 0 = x := rfl
theorem merged_ev : ∀ (n : Nat) (a b acc : List S54), a.length + b.length ≤ n → acc.length + n ≤ 1048576 → (∀ x ∈ a, x.f0.length ≤ 1048576) → (∀ x ∈ a, -1000000000 ≤ x.f1 ∧ x.f1 ≤ 1000000000) → (∀ x ∈ b, -1000000000 ≤ x.f1 ∧ x.f1 ≤ 1000000000) →
    Ev (fun k => impl_merged_impl_Item__impl_cmpItem_impl_together_1.l0 k a b acc) (acc ++ merL a b) := by
  intro n
  induction n with
  | zero =>
    intro a b acc h hn _ _ _
    obtain rfl : a = [] := List.length_eq_zero_iff.1 (by omega)
    obtain rfl : b = [] := List.length_eq_zero_iff.1 (by omega)
    refine Ev.step (fun k => impl_merged_impl_Item__impl_cmpItem_impl_together_1.l0.eq_2 ..) (ev_neg (by simp <;> omega) (ev_pos (by simp <;> omega) (ev_some (ev_pos (by simp <;> omega) (ev_now ?_)))))
    simp [merL]
  | succ n ih =>
    intro a b acc h hn hr hwa hwb
    cases a with
    | nil =>
      refine Ev.step (fun k => impl_merged_impl_Item__impl_cmpItem_impl_together_1.l0.eq_2 ..) (ev_neg (by simp <;> omega) (ev_pos (by simp <;> omega) (ev_some (ev_pos (by simp at h ⊢ <;> omega) (ev_now ?_)))))
      simp [merL]
    | cons x a =>
      cases b with
      | nil =>
        refine Ev.step (fun k => impl_merged_impl_Item__impl_cmpItem_impl_together_1.l0.eq_2 ..) (ev_pos (by simp <;> omega) (ev_neg (by simp <;> omega) (ev_pos (by simp at h ⊢ <;> omega) (ev_some (ev_pos (by simp at h ⊢ <;> omega) (ev_now ?_))))))
        simp [merL]
      | cons y b =>
        simp only [List.length_cons] at h
        refine Ev.step (fun k => impl_merged_impl_Item__impl_cmpItem_impl_together_1.l0.eq_2 ..) (ev_pos (by simp <;> omega) (ev_pos (by simp <;> omega) (ev_pos (by simp <;> omega) (ev_pos (by simp <;> omega) ?_))))
        rw [rdI_0, rdI_0]
        refine (cmpItem_ev x y (hr x List.mem_cons_self)).bind ?_
        have hra := fun u hu => hr u (List.mem_cons_of_mem _ hu)
        have hwa' := fun u hu => hwa u (List.mem_cons_of_mem _ hu)
        have hwb' := fun u hu => hwb u (List.mem_cons_of_mem _ hu)
        rw [merL]
        by_cases h1 : lexc x.f0 y.f0 < 0
        · rw [if_pos h1]
          refine ev_pos h1 (ev_pos (by omega) (ev_pos (by simp <;> omega) ?_))
          have := ih a (y :: b) (acc ++ [x]) (by simp <;> omega) (by simp <;> omega) hra hwa' hwb
          rw [List.append_assoc] at this
          exact this
        · rw [if_neg h1]
          have hs := lexc_swap x.f0 y.f0
          by_cases h2 : lexc y.f0 x.f0 < 0
          · rw [if_pos h2]
            refine ev_neg h1 (ev_pos (by omega) (ev_pos (by omega) (ev_pos (by simp <;> omega) ?_)))
            have := ih (x :: a) b (acc ++ [y]) (by simp <;> omega) (by simp <;> omega) hr hwa hwb'
            rw [List.append_assoc] at this
            exact this
          · rw [if_neg h2]
            have hx := hwa x List.mem_cons_self
            have hy := hwb y List.mem_cons_self
            refine ev_neg h1 (ev_neg (by omega) ?_)
            unfold impl_together_1.f
            rw [w64 (x := x.f1 + y.f1) (by omega) (by omega)]
            refine ev_some ?_
            by_cases h3 : x.f1 + y.f1 = 0
            · rw [if_pos h3]
              refine ev_neg (by simp [h3]) (ev_pos (by simp <;> omega) (ev_pos (by simp <;> omega) ?_))
              exact ih a b acc (by omega) (by omega) hra hwa' hwb'
            · rw [if_neg h3]
              refine ev_pos (by simpa using h3) (ev_pos (by omega) (ev_pos (by simp <;> omega) (ev_pos (by simp <;> omega) ?_)))
              have := ih a b (acc ++ [⟨x.f0, x.f1 + y.f1⟩]) (by omega) (by simp <;> omega) hra hwa' hwb'
              rw [List.append_assoc] at this
              exact this
theorem merL_len : ∀ (n : Nat) (a b : List S54), a.length + b.length ≤ n → (merL a b).length ≤ a.length + b.length := by
  intro n
  induction n with
  | zero => intro a b h; cases a <;> cases b <;> simp [merL] at h ⊢
  | succ n ih =>
    intro a b h
    cases a with
    | nil => simp [merL]
    | cons x a =>
      cases b with
      | nil => simp [merL]
      | cons y b =>
        simp only [List.length_cons] at h
        rw [merL]
        have h1 := ih a (y :: b) (by simp <;> omega)
        have h2 := ih (x :: a) b (by simp <;> omega)
        have h3 := ih a b (by omega)
        simp only [List.length_cons] at h1 h2 ⊢
        repeat' split
        all_goals (try simp only [List.length_cons])
        all_goals omega
theorem merL_small {a b : List S54} (ha : Small a) (hb : Small b) (hl : a.length + b.length ≤ 1048576) : Small (merL a b) :=
  ⟨by have := merL_len _ a b (Nat.le_refl _); omega, fun y hy => by
    rcases merL_rows _ a b (Nat.le_refl _) y hy with ⟨x, hx, e⟩ | ⟨x, hx, e⟩
    · rw [← e]; exact ha.row x hx
    · rw [← e]; exact hb.row x hx⟩
/-- what ZAdd tells -/
def addZ (a b : List S54) : List S54 × Bool := if okZ a = true ∧ okZ b = true ∧ okZ (addL a b) = true then (addL a b, true) else ([], false)
theorem told_ev (z : List S54) (hs : Small z) : Ev (fun k => impl_told.f k z) (if okZ z = true then (z, true) else ([], false)) := by
  unfold impl_told.f
  refine (implZOk_ev z hs).bind ?_
  by_cases h : okZ z = true
  · rw [if_pos h]
    exact ev_pos h ((copyItems_ev z hs).bind (ev_now rfl))
  · rw [if_neg h]
    exact ev_neg h (ev_now rfl)
theorem together_ev (a b : List S54) (ha : Small a) (hl : a.length + b.length ≤ 100000) (hwa : ∀ x ∈ a, -1000000000 ≤ x.f1 ∧ x.f1 ≤ 1000000000) (hwb : ∀ x ∈ b, -1000000000 ≤ x.f1 ∧ x.f1 ≤ 1000000000) : Ev (fun k => impl_together.f k a b) (merL a b) := by
  unfold impl_together.f impl_merged_impl_Item__impl_cmpItem_impl_together_1.f
  have := merged_ev (a.length + b.length) a b [] (Nat.le_refl _) (by simp <;> omega) ha.row hwa hwb
  exact this.bind (ev_now (by simp <;> omega))
theorem implZAdd_ev (a b : List S54) (ha : Small a) (hb : Small b) : Ev (fun k => impl_ZAdd.f k a b) (addZ a b) := by
  unfold impl_ZAdd.f addZ
  refine (implZOk_ev a ha).bind ?_
  by_cases h1 : okZ a = true
  · refine ev_pos h1 ((implZOk_ev b hb).bind ?_)
    by_cases h2 : okZ b = true
    · have l1 := (okZ_facts h1).1
      have l2 := (okZ_facts h2).1
      have e := merL_addL a b (okZ_canon h1) (okZ_canon h2)
      have T := told_ev _ (merL_small ha hb (by omega))
      rw [e] at T
      have E : (if okZ (addL a b) = true then (addL a b, true) else ([], false)) = (if okZ a = true ∧ okZ b = true ∧ okZ (addL a b) = true then (addL a b, true) else (([] : List S54), false)) := by
        by_cases h3 : okZ (addL a b) = true
        · rw [if_pos h3, if_pos ⟨h1, h2, h3⟩]
        · rw [if_neg h3, if_neg (fun h => h3 h.2.2)]
      rw [E] at T
      have tog := together_ev a b ha (by omega) (fun x hx => by have := okZ_w h1 x hx; omega) (fun x hx => by have := okZ_w h2 x hx; omega)
      rw [e] at tog
      refine ev_pos h2 (tog.bind ?_)
      first
        | exact T
        | exact T.bind (ev_now rfl)
    · rw [if_neg (fun h => h2 h.2.1)]
      exact ev_neg h2 (ev_now rfl)
  · rw [if_neg (fun h => h1 h.1)]
    exact ev_neg h1 (ev_now rfl)

theorem specItems_ev (z : List S54) (hs : Small z) : Ev (fun k => spec_l2Copy.f k z) z := by
  have hz := hs.len
  have h := ev_down (fun k i => spec_l2Copy.l0 k z (z.take i) (i : Int)) (fun _ => z) z.length ?_ ?_ 0 (by omega)
  · simpa [spec_l2Copy.f] using h
  · exact Ev.step (fun k => spec_l2Copy.l0.eq_2 ..) (ev_neg (by omega) (ev_now (by rw [List.take_length])))
  · intro i hi ih
    have hr := hs.row _ (List.getElem_mem hi)
    refine Ev.step (fun k => spec_l2Copy.l0.eq_2 ..) (ev_pos (by omega) (ev_pos (by omega) ?_))
    rw [rdI_at z i hi]
    refine ev_eq (specCopy _ (by omega)) (ev_pos (by simp; omega) ?_)
    rw [w64n (by omega)]
    rw [List.take_succ_eq_append_getElem hi] at ih
    exact ih
theorem putL_wb (r : List Int) (w B C : Int) (hw : -C ≤ w ∧ w ≤ C) (hB : 0 ≤ B) (hC : 0 ≤ C) : ∀ z : List S54, (∀ x ∈ z, -B ≤ x.f1 ∧ x.f1 ≤ B) → ∀ y ∈ putL r w z, -(B + C) ≤ y.f1 ∧ y.f1 ≤ B + C := by
  intro z
  induction z with
  | nil =>
    intro _ y hy
    unfold putL at hy
    split at hy
    · cases hy
    · rw [List.mem_singleton.1 hy]; dsimp only; omega
  | cons x z ih =>
    intro h y hy
    have hx := h x List.mem_cons_self
    have hz : ∀ u ∈ z, -B ≤ u.f1 ∧ u.f1 ≤ B := fun u hu => h u (List.mem_cons_of_mem _ hu)
    have old : y ∈ x :: z → -(B + C) ≤ y.f1 ∧ y.f1 ≤ B + C := fun hy => by have := h y hy; omega
    unfold putL at hy
    split at hy
    · rcases List.mem_cons.1 hy with e | e
      · rw [e]; omega
      · exact ih hz y e
    · split at hy
      · split at hy
        · exact old (List.mem_cons_of_mem _ hy)
        · rcases List.mem_cons.1 hy with e | e
          · rw [e]; dsimp only; omega
          · exact old (List.mem_cons_of_mem _ e)
      · split at hy
        · exact old hy
        · rcases List.mem_cons.1 hy with e | e
          · rw [e]; dsimp only; omega
          · exact old e
theorem specAdd_go (b : List S54) (hb : ∀ x ∈ b, x.f0.length ≤ 1048576) (hl : b.length ≤ 100000) (hwb : ∀ x ∈ b, -10000 ≤ x.f1 ∧ x.f1 ≤ 10000) : ∀ (d i : Nat) (acc : List S54), i + d = b.length → acc.length ≤ 100000 + i → (∀ x ∈ acc, x.f0.length ≤ 1048576) → (∀ x ∈ acc, -(10000 * ((i : Int) + 1)) ≤ x.f1 ∧ x.f1 ≤ 10000 * ((i : Int) + 1)) →
    Ev (fun k => spec_l2Add.l0 k b acc (i : Int)) (addL acc (b.drop i)) := by
  intro d
  induction d with
  | zero =>
    intro i acc hi _ _ _
    refine Ev.step (fun k => spec_l2Add.l0.eq_2 ..) (ev_neg (by omega) (ev_now ?_))
    rw [drop_end b _ (by omega)]; rfl
  | succ d ih =>
    intro i acc hi ha hr hw
    have hil : i < b.length := by omega
    have hbi := hb _ (List.getElem_mem hil)
    have hwi := hwb _ (List.getElem_mem hil)
    refine Ev.step (fun k => spec_l2Add.l0.eq_2 ..) (ev_pos (by omega) (ev_pos (by omega) ?_))
    rw [rdI_at b i hil, drop_at b i hil]
    refine (specPut_ev acc b[i].f0 b[i].f1 ⟨by omega, hr⟩ hbi (fun x hx => by have := hw x hx; omega) (by omega)).bind ?_
    rw [w64n (by omega)]
    refine ih (i + 1) _ (by omega) (by have := putL_len b[i].f0 b[i].f1 acc; omega) (putL_small _ _ _ hr hbi) (fun x hx => ?_)
    have := putL_wb b[i].f0 b[i].f1 (10000 * ((i : Int) + 1)) 10000 hwi (by omega) (by omega) acc hw x hx
    omega
theorem specAdd_ev (a b : List S54) (ha : Small a) (hb : Small b) (hla : a.length ≤ 100000) (hl : b.length ≤ 100000) (hwa : ∀ x ∈ a, -10000 ≤ x.f1 ∧ x.f1 ≤ 10000) (hwb : ∀ x ∈ b, -10000 ≤ x.f1 ∧ x.f1 ≤ 10000) : Ev (fun k => spec_l2Add.f k a b) (addL a b) := by
  unfold spec_l2Add.f
  refine (specItems_ev a ha).bind ?_
  have := specAdd_go b hb.row hl hwb b.length 0 a (by omega) (by omega) ha.row (fun x hx => by have := hwa x hx; omega)
  rw [List.drop_zero] at this
  first
    | exact this
    | exact this.bind (ev_now rfl)
theorem specTold_ev (z : List S54) (hs : Small z) : Ev (fun k => spec_l2Told.f k z) (if okZ z = true then (z, true) else ([], false)) := by
  unfold spec_l2Told.f
  refine (specZOk_ev z hs).bind ?_
  by_cases h : okZ z = true
  · rw [if_pos h, if_pos h]
    exact ev_now rfl
  · rw [if_neg h, if_neg h]
    exact ev_now rfl
theorem addL_small {a b : List S54} (ha : okZ a = true) (hb : okZ b = true) : Small (addL a b) := by
  rw [← merL_addL a b (okZ_canon ha) (okZ_canon hb)]
  have h1 := (okZ_facts ha).1
  have h2 := (okZ_facts hb).1
  exact merL_small (okZ_small ha) (okZ_small hb) (by omega)
theorem specZAdd_ev (a b : List S54) (ha : Small a) (hb : Small b) : Ev (fun k => spec_ZAdd.f k a b) (addZ a b) := by
  unfold spec_ZAdd.f addZ
  refine (specZOk_ev a ha).bind ?_
  by_cases h1 : okZ a = true
  · refine ev_pos h1 ((specZOk_ev b hb).bind ?_)
    by_cases h2 : okZ b = true
    · have l1 := (okZ_facts h1).1
      have l2 := (okZ_facts h2).1
      refine ev_pos h2 ((specAdd_ev a b ha hb (by omega) (by omega) (fun x hx => by have := okZ_w h1 x hx; omega) (fun x hx => by have := okZ_w h2 x hx; omega)).bind ((specTold_ev _ (addL_small h1 h2)).bind (ev_now ?_)))
      by_cases h3 : okZ (addL a b) = true
      · rw [if_pos h3, if_pos ⟨h1, h2, h3⟩]
      · rw [if_neg h3, if_neg (fun h => h3 h.2.2)]
    · rw [if_neg (fun h => h2 h.2.1)]
      exact ev_neg h2 (ev_now rfl)
  · rw [if_neg (fun h => h1 h.1)]
    exact ev_neg h1 (ev_now rfl)

theorem l2Two_ev (code : List Int) (hw : ∀ x ∈ code, (Lit.int .u8 x).wf = true) : ∃ a b : List S54, Ev (fun k => spec_l2Two.f k code) (a, b) ∧ Drawn_ 110 20000 a ∧ Drawn_ 110 20000 b := by
  have hlim : lim = 1000000000 := rfl
  obtain ⟨c, hc, hcode⟩ := open_some code hw
  obtain ⟨a, q, ha, q0, q1, da⟩ := l2Bent_ev hcode 0 (by omega) (by decide)
  obtain ⟨u, hu, u0, u1⟩ := pick_some hcode q 5 (by omega) (by omega) (by omega)
  obtain ⟨b, p, hb, _, _, db⟩ := l2Bent_ev hcode (q + 1) (by omega) (by omega)
  unfold spec_l2Two.f
  by_cases h0 : u = 0
  · exact ⟨a, a, ev_eq hc (ha.bind (ev_eq hu (ev_pos h0 ((specItems_ev a (da.small (by omega))).bind (ev_now rfl))))), da, da⟩
  · exact ⟨a, b, ev_eq hc (ha.bind (ev_eq hu (ev_neg h0 (hb.bind (ev_now rfl))))), da, db⟩
theorem drawZAdd_ev (code : List Int) (hw : ∀ x ∈ code, (Lit.int .u8 x).wf = true) : ∃ a b : List S54, Ev (fun k => spec_DrawZAdd.f k code) (a, b) ∧ Drawn_ 110 20000 a ∧ Drawn_ 110 20000 b := by
  obtain ⟨a, b, h, da, db⟩ := l2Two_ev code hw
  refine ⟨a, b, ?_, da, db⟩
  unfold spec_DrawZAdd.f
  exact h.bind (ev_now rfl)

/-- what l1Bent draws -/
def bentCell (x : Int) : Prop := -1000000001 ≤ x ∧ x ≤ 1000000001
theorem bent_ev {b : List Int} (hb : Code_ b) (p : Int) (hp : 0 ≤ p) (hp1 : p + 20 ≤ lim) : ∃ (r : List Int) (q : Int), Ev (fun k => spec_l1Bent.f k b p) (r, q) ∧ p ≤ q ∧ q ≤ p + 20 ∧ r.length ≤ 7 ∧ ∀ x ∈ r, bentCell x := by
  have hlim : lim = 1000000000 := rfl
  have hd : ∀ x, drawnCell x → bentCell x := fun x h => by unfold drawnCell at h; unfold bentCell; omega
  obtain ⟨w, hw, w0, w1⟩ := pick_some hb p 4 hp (by omega) (by omega)
  obtain ⟨n, rfl⟩ := Int.eq_ofNat_of_zero_le w0
  obtain ⟨r, hr, r1, r2⟩ := row_ev hb (p + 1) (1 + n) (by omega) (by omega)
  have e1 : wrap64 (1 + (n : Int)) = ((1 + n : Nat) : Int) := by rw [w64 (by omega) (by omega)]; omega
  obtain ⟨c, hc, c0, c1⟩ := pick_some hb (p + 1 + ((1 + n : Nat) : Int)) 30 (by omega) (by omega) (by omega)
  have start : ∀ {r' : List Int} {q' : Int}, Ev (fun k => (spec_l12Rd_pick.f b (p + 1 + ((1 + n : Nat) : Int)) 30).bind fun z => (if z.1 = 0 then (some ((([] : List Int)), z.2)) else (if z.1 = 1 then ((spec_l12Rd_num.f b z.2 (([1000000000, 1000000001, (-1000000000), (-1000000001)] : List Int))).bind fun y => (if 0 < (r.length : Int) then (some ((r.set (0 : Int).toNat y.1), y.2)) else (none))) else (if z.1 = 2 then ((spec_l12Rd_num.f b z.2 (([6, 7] : List Int))).bind fun y => ((spec_l1Row.f k b y.2 y.1).bind fun u => (some (u.1, u.2)))) else (some (r, z.2)))))) (r', q') → Ev (fun k => spec_l1Bent.f k b p) (r', q') := by
    intro r' q' h
    unfold spec_l1Bent.f
    rw [hw]
    simp only [Option.bind_some, e1]
    exact hr.bind h
  rw [hc] at start
  simp only [Option.bind_some] at start
  by_cases h0 : c = 0
  · exact ⟨[], _, start (ev_pos h0 (ev_now rfl)), by omega, by omega, by simp, by simp⟩
  by_cases h1 : c = 1
  · obtain ⟨v, hv, hm⟩ := num_some hb (p + 1 + ((1 + n : Nat) : Int) + 1) [1000000000, 1000000001, -1000000000, -1000000001] (by omega) (by omega) (by decide)
    refine ⟨r.set 0 v, _, start (ev_neg h0 (ev_pos h1 (ev_eq hv (ev_pos (by omega) (ev_now rfl))))), by omega, by omega, by simp; omega, ?_⟩
    intro x hx
    rcases List.mem_or_eq_of_mem_set hx with h | h
    · exact hd x (r2 x h)
    · subst h; simp at hm; unfold bentCell; omega
  by_cases h2 : c = 2
  · obtain ⟨v, hv, hm⟩ := num_some hb (p + 1 + ((1 + n : Nat) : Int) + 1) [6, 7] (by omega) (by omega) (by decide)
    have hv7 : 0 ≤ v ∧ v ≤ 7 := by simp at hm; omega
    obtain ⟨m, rfl⟩ := Int.eq_ofNat_of_zero_le hv7.1
    obtain ⟨s, hs, s1, s2⟩ := row_ev hb (p + 1 + ((1 + n : Nat) : Int) + 1 + 1) m (by omega) (by omega)
    exact ⟨s, _, start (ev_neg h0 (ev_neg h1 (ev_pos h2 (ev_eq hv (Ev.bind hs (ev_now rfl)))))), by omega, by omega, by omega, fun x hx => hd x (s2 x hx)⟩
  · exact ⟨r, _, start (ev_neg h0 (ev_neg h1 (ev_neg h2 (ev_now rfl)))), by omega, by omega, by omega, fun x hx => hd x (r2 x hx)⟩

theorem drawZGet_ev (code : List Int) (hw : ∀ x ∈ code, (Lit.int .u8 x).wf = true) : ∃ (z : List S54) (r : List Int), Ev (fun k => spec_DrawZGet.f k code) (z, r) ∧ Drawn_ 110 20000 z ∧ r.length ≤ 7 := by
  have hlim : lim = 1000000000 := rfl
  obtain ⟨b, hb, hcode⟩ := open_some code hw
  obtain ⟨z, q, hz, q0, q1, hd⟩ := l2Bent_ev hcode 0 (by omega) (by decide)
  unfold spec_DrawZGet.f
  by_cases h0 : (z.length : Int) > 0
  · obtain ⟨v, hv, v0, v1⟩ := pick_some hcode q 3 (by omega) (by omega) (by omega)
    by_cases h1 : v > 0
    · obtain ⟨t, ht, t0, t1⟩ := pick_some hcode (q + 1) z.length (by omega) (by omega) (by omega)
      obtain ⟨i, rfl⟩ := Int.eq_ofNat_of_zero_le t0
      have hil : i < z.length := by omega
      have hr := hd.row _ (List.getElem_mem hil)
      refine ⟨z, z[i].f0, ev_eq hb (hz.bind (ev_pos h0 (ev_eq hv (ev_pos h1 (ev_eq ht (ev_pos t0 (ev_pos t1 ?_))))))), hd, hr⟩
      dsimp only
      rw [rdI_at z i hil]
      exact ev_eq (specCopy _ (by omega)) (ev_now rfl)
    · obtain ⟨r, p, hr, _, _, hl, _⟩ := bent_ev hcode (q + 1) (by omega) (by omega)
      exact ⟨z, r, ev_eq hb (hz.bind (ev_pos h0 (ev_eq hv (ev_neg h1 (hr.bind (ev_now rfl)))))), hd, hl⟩
  · obtain ⟨r, p, hr, _, _, hl, _⟩ := bent_ev hcode q (by omega) (by omega)
    exact ⟨z, r, ev_eq hb (hz.bind (ev_neg h0 (hr.bind (ev_now rfl)))), hd, hl⟩

theorem drawZOk_ev (code : List Int) (hw : ∀ x ∈ code, (Lit.int .u8 x).wf = true) : ∃ z : List S54, Ev (fun k => spec_DrawZOk.f k code) z ∧ Drawn_ 110 20000 z := by
  obtain ⟨b, hb, hcode⟩ := open_some code hw
  obtain ⟨z, q, hz, _, _, hd⟩ := l2Bent_ev hcode 0 (by omega) (by decide)
  refine ⟨z, ?_, hd⟩
  unfold spec_DrawZOk.f
  exact ev_eq hb (hz.bind (ev_now rfl))

theorem wOf_at (r : List Int) : ∀ (z : List S54) (i : Nat) (h : i < z.length), (∀ j (hj : j < z.length), j < i → z[j].f0 ≠ r) → z[i].f0 = r → wOf r z = z[i].f1 := by
  intro z
  induction z with
  | nil => intro i h; simp at h
  | cons x z ih =>
    intro i h hne he
    cases i with
    | zero => simp only [List.getElem_cons_zero] at he ⊢; rw [wOf, if_pos he]
    | succ i =>
      have h0 := hne 0 (by simp) (by omega)
      simp only [List.getElem_cons_zero] at h0
      rw [wOf, if_neg h0]
      simp only [List.getElem_cons_succ] at he ⊢
      exact ih i (by simpa using h) (fun j hj hji => by have := hne (j + 1) (by simpa using hj) (by omega); simpa using this) he
theorem wOf_none (r : List Int) : ∀ (z : List S54), (∀ x ∈ z, x.f0 ≠ r) → wOf r z = 0 := by
  intro z
  induction z with
  | nil => intro _; rfl
  | cons x z ih => intro h; rw [wOf, if_neg (h x (by simp)), ih (fun y hy => h y (by simp [hy]))]
theorem u64w {x : Int} (h0 : 0 ≤ x) (h1 : x < 9223372036854775808) : IntKind.u64.wrap x = x := by
  simp [IntKind.wrap, IntKind.bits, IntKind.signed]; omega
theorem cmpGet_ev (x : S54) (r : List Int) (hx : x.f0.length ≤ 1048576) : Ev (fun k => impl_ZGet_1.f k x.f0 x.f1 r) (lexc x.f0 r) := by
  unfold impl_ZGet_1.f
  exact (compare_ev x.f0 r (by omega)).bind (ev_now rfl)
theorem search_ev (z : List S54) (r : List Int) (hs : Small z) (hp : z.Pairwise (fun x y => lexc x.f0 y.f0 < 0)) :
    ∃ (n : Nat) (b : Bool), Ev (fun k => slices_BinarySearchFunc_impl_Item_impl_Item_int__impl_ZGet_1.f k z r) ((n : Int), b) ∧
      (b = true → ∃ h : n < z.length, z[n].f0 = r ∧ ∀ j (hj : j < z.length), j < n → z[j].f0 ≠ r) ∧ (b = false → ∀ x ∈ z, x.f0 ≠ r) := by
  have hz := hs.len
  have go : ∀ (d i j : Nat), j - i ≤ d → i ≤ j → j ≤ z.length → (∀ m (hm : m < z.length), m < i → lexc z[m].f0 r < 0) → (∀ m (hm : m < z.length), j ≤ m → ¬ lexc z[m].f0 r < 0) →
      ∃ (n : Nat) (b : Bool), Ev (fun k => slices_BinarySearchFunc_impl_Item_impl_Item_int__impl_ZGet_1.l0 k z r (z.length : Int) (i : Int) (j : Int)) ((n : Int), b) ∧
        (b = true → ∃ h : n < z.length, z[n].f0 = r ∧ ∀ j (hj : j < z.length), j < n → z[j].f0 ≠ r) ∧ (b = false → ∀ x ∈ z, x.f0 ≠ r) := by
    intro d
    induction d with
    | zero =>
      intro i j hd hij hj lo hi
      obtain rfl : i = j := by omega
      by_cases hin : i < z.length
      · have hc := cmpGet_ev z[i] r (hs.row _ (List.getElem_mem hin))
        refine ⟨i, decide (lexc z[i].f0 r = 0), Ev.step (fun k => slices_BinarySearchFunc_impl_Item_impl_Item_int__impl_ZGet_1.l0.eq_2 ..) (ev_neg (by omega) (ev_pos (by omega) (ev_pos (by omega) (ev_pos (by omega) ?_)))), ?_, ?_⟩
        · rw [rdI_at z i hin]
          exact hc.bind (ev_now (by rw [Prod.mk.injEq]; exact ⟨rfl, by rw [Bool.eq_iff_iff]; simp⟩))
        · intro hb
          have e : z[i].f0 = r := (lexc_zero _ _).1 (by simpa using hb)
          refine ⟨hin, e, fun m hm hmi he => ?_⟩
          have := lo m hm hmi
          rw [(lexc_zero _ _).2 he] at this
          omega
        · intro hb x hx he
          have hne : ¬ lexc z[i].f0 r = 0 := by simpa using hb
          obtain ⟨m, hm, rfl⟩ := List.getElem_of_mem hx
          have h0 := (lexc_zero _ _).2 he
          by_cases hmi : m < i
          · have := lo m hm hmi; omega
          · by_cases e : m = i
            · subst e; exact hne h0
            · have h1 := pairwise_at hp hin hm (by omega)
              rw [he] at h1
              exact hi i hin (Nat.le_refl _) h1
      · refine ⟨i, false, Ev.step (fun k => slices_BinarySearchFunc_impl_Item_impl_Item_int__impl_ZGet_1.l0.eq_2 ..) (ev_neg (by omega) (ev_neg (by omega) (ev_now rfl))), by simp, fun _ x hx he => ?_⟩
        obtain ⟨m, hm, rfl⟩ := List.getElem_of_mem hx
        have h1 := lo m hm (by omega)
        rw [(lexc_zero _ _).2 he] at h1
        omega
    | succ d ih =>
      intro i j hd hij hj lo hi
      by_cases hlt : i < j
      · have e : wrap64 ((IntKind.u64.wrap (wrap64 ((i : Int) + j))) / 2) = (((i + j) / 2 : Nat) : Int) := by
          rw [w64 (x := (i : Int) + j) (by omega) (by omega), u64w (by omega) (by omega), w64 (by omega) (by omega)]
          omega
        have hm : (i + j) / 2 < z.length := by omega
        have hc := cmpGet_ev z[(i + j) / 2] r (hs.row _ (List.getElem_mem hm))
        by_cases c : lexc z[(i + j) / 2].f0 r < 0
        · obtain ⟨n, b, h1, h2⟩ := ih ((i + j) / 2 + 1) j (by omega) (by omega) hj (fun m hm' hlt' => by
            by_cases e2 : m = (i + j) / 2
            · subst e2; exact c
            · exact lexc_trans _ _ _ (pairwise_at hp hm' hm (by omega)) c) hi
          refine ⟨n, b, Ev.step (fun k => slices_BinarySearchFunc_impl_Item_impl_Item_int__impl_ZGet_1.l0.eq_2 ..) (ev_pos (by omega) ?_), h2⟩
          rw [e]
          refine ev_pos (by omega) (ev_pos (by omega) ?_)
          rw [rdI_at z _ hm]
          refine hc.bind (ev_pos c ?_)
          rw [w64n (by omega)]
          exact h1
        · obtain ⟨n, b, h1, h2⟩ := ih i ((i + j) / 2) (by omega) (by omega) (by omega) lo (fun m hm' hle h => by
            by_cases e2 : m = (i + j) / 2
            · subst e2; exact c h
            · exact c (lexc_trans _ _ _ (pairwise_at hp hm hm' (by omega)) h))
          refine ⟨n, b, Ev.step (fun k => slices_BinarySearchFunc_impl_Item_impl_Item_int__impl_ZGet_1.l0.eq_2 ..) (ev_pos (by omega) ?_), h2⟩
          rw [e]
          refine ev_pos (by omega) (ev_pos (by omega) ?_)
          rw [rdI_at z _ hm]
          exact hc.bind (ev_neg c h1)
      · obtain rfl : i = j := by omega
        exact ih i i (by omega) hij hj lo hi
  obtain ⟨n, b, h1, h2⟩ := go z.length 0 z.length (by omega) (by omega) (Nat.le_refl _) (by simp) (fun m hm h => by omega)
  exact ⟨n, b, by simpa [slices_BinarySearchFunc_impl_Item_impl_Item_int__impl_ZGet_1.f] using h1, h2⟩
theorem implZGet_ev (z : List S54) (r : List Int) (hs : Small z) : Ev (fun k => impl_ZGet.f k z r) (getZ z r) := by
  unfold impl_ZGet.f getZ
  refine (implZOk_ev z hs).bind ?_
  cases hk : okZ z with
  | false => exact ev_neg (by simp) (ev_now (by simp))
  | true =>
    obtain ⟨_, hp, _⟩ := okZ_facts hk
    obtain ⟨n, b, h1, h2, h3⟩ := search_ev z r hs hp
    refine ev_pos rfl (h1.bind ?_)
    rw [if_pos rfl]
    cases b with
    | false =>
      refine ev_neg (by simp) (ev_now ?_)
      rw [wOf_none r z (h3 rfl)]
    | true =>
      obtain ⟨hn, he, hne⟩ := h2 rfl
      refine ev_pos rfl (ev_pos (by omega) (ev_pos (by omega) (ev_now ?_)))
      rw [wOf_at r z n hn hne he]
      show (rd_T54 z (n : Int)).f1 = _
      rw [rdI_at z n hn]

/-- a loop over items that appends to what it makes -/
def negL (z : List S54) : List S54 := z.map (fun x => ⟨x.f0, -x.f1⟩)
theorem take_map_succ {α β : Type} (f : α → β) (l : List α) (i : Nat) (h : i < l.length) : (l.take (i + 1)).map f = (l.take i).map f ++ [f l[i]] := by
  rw [List.take_succ_eq_append_getElem h, List.map_append]; rfl
theorem turned_ev (z : List S54) (hs : Small z) (hw : ∀ x ∈ z, -1000000000000000 ≤ x.f1 ∧ x.f1 ≤ 1000000000000000) : Ev (fun k => impl_turned.f k z) (negL z) := by
  have hz := hs.len
  have h := ev_down (fun k i => impl_turned.l0 k ((z.take i).map (fun x => (⟨x.f0, -x.f1⟩ : S54))) z (z.length : Int) (i : Int)) (fun _ => negL z) z.length ?_ ?_ 0 (by omega)
  · simpa [impl_turned.f] using h
  · exact Ev.step (fun k => impl_turned.l0.eq_2 ..) (ev_neg (by omega) (ev_now (by rw [List.take_length]; rfl)))
  · intro i hi ih
    have hwx := hw _ (List.getElem_mem hi)
    refine Ev.step (fun k => impl_turned.l0.eq_2 ..) (ev_pos (by omega) (ev_pos (by omega) (ev_pos (by omega) (ev_pos (by simp; omega) ?_))))
    rw [rdI_at z i hi, w64 (x := -z[i].f1) (by omega) (by omega), w64n (by omega)]
    rw [take_map_succ _ z i hi] at ih
    exact ih
theorem negL_small {z : List S54} (hs : Small z) : Small (negL z) := ⟨by simpa [negL] using hs.len, fun x hx => by
  obtain ⟨y, hy, rfl⟩ := List.mem_map.1 hx
  exact hs.row y hy⟩

def posL (z : List S54) : List S54 := (z.filter (fun x => decide (x.f1 > 0))).map (fun x => ⟨x.f0, 1⟩)
theorem posL_cons (x : S54) (z : List S54) : posL (x :: z) = if x.f1 > 0 then ⟨x.f0, 1⟩ :: posL z else posL z := by
  unfold posL
  rw [List.filter_cons]
  by_cases h : x.f1 > 0
  · rw [if_pos (decide_eq_true h), if_pos h]; rfl
  · rw [if_neg (by simpa using h), if_neg h]
theorem posL_len (z : List S54) : (posL z).length ≤ z.length := by
  unfold posL
  rw [List.length_map]
  exact List.length_filter_le _ _
theorem posL_mem {z : List S54} {y : S54} (h : y ∈ posL z) : ∃ x ∈ z, x.f0 = y.f0 ∧ x.f1 > 0 ∧ y.f1 = 1 := by
  obtain ⟨x, hx, rfl⟩ := List.mem_map.1 h
  have := List.mem_filter.1 hx
  exact ⟨x, this.1, rfl, by simpa using this.2, rfl⟩
theorem posL_small {z : List S54} (hs : Small z) : Small (posL z) := ⟨by have := posL_len z; have := hs.len; omega, fun y hy => by
  obtain ⟨x, hx, e, _⟩ := posL_mem hy
  rw [← e]; exact hs.row x hx⟩

theorem negL_mem {z : List S54} {x : S54} (h : x ∈ z) : (⟨x.f0, -x.f1⟩ : S54) ∈ negL z := List.mem_map_of_mem (f := fun x : S54 => (⟨x.f0, -x.f1⟩ : S54)) h
theorem negL_ok {z : List S54} (h : okZ z = true) : okZ (negL z) = true := by
  obtain ⟨h1, h2, h3⟩ := okZ_facts h
  refine okZ_of (by simpa [negL] using h1) (List.pairwise_map.2 h2) (fun y hy => ?_)
  obtain ⟨x, hx, rfl⟩ := List.mem_map.1 hy
  have hw := okZ_w h x hx
  exact ⟨(h3 x hx).1, (okW_iff _).2 ⟨by dsimp only; omega, by dsimp only; omega, by dsimp only; omega⟩⟩
theorem posL_ok {z : List S54} (h : okZ z = true) : okZ (posL z) = true := by
  obtain ⟨h1, h2, h3⟩ := okZ_facts h
  refine okZ_of (by have := posL_len z; omega) (List.pairwise_map.2 (h2.filter _)) (fun y hy => ?_)
  obtain ⟨x, hx, e, _, e1⟩ := posL_mem hy
  exact ⟨by rw [← e]; exact (h3 x hx).1, by rw [e1]; decide⟩
theorem negL_neg (z : List S54) : negL (negL z) = z := by
  unfold negL
  rw [List.map_map]
  conv => rhs; rw [← List.map_id z]
  refine List.map_congr_left (fun x _ => ?_)
  exact ext_item rfl (by simp)
theorem posL_pos : ∀ z : List S54, posL (posL z) = posL z := by
  intro z
  induction z with
  | nil => rfl
  | cons x z ih =>
    rw [posL_cons]
    by_cases h : x.f1 > 0
    · rw [if_pos h, posL_cons, if_pos (show (1 : Int) > 0 by decide), ih]
    · rw [if_neg h, ih]
theorem pos_neg_len : ∀ z : List S54, (∀ x ∈ z, x.f1 ≠ 0) → (posL z).length + (posL (negL z)).length = z.length := by
  intro z
  induction z with
  | nil => intro _; rfl
  | cons x z ih =>
    intro h
    have hx := h x List.mem_cons_self
    have hz := ih (fun y hy => h y (List.mem_cons_of_mem _ hy))
    rw [posL_cons, show negL (x :: z) = ⟨x.f0, -x.f1⟩ :: negL z from rfl, posL_cons]
    dsimp only
    by_cases h1 : x.f1 > 0
    · rw [if_pos h1, if_neg (by omega), List.length_cons, List.length_cons]; omega
    · rw [if_neg h1, if_pos (by omega), List.length_cons, List.length_cons]; omega
theorem getZ_mem {z : List S54} (h : okZ z = true) {x : S54} (hx : x ∈ z) : getZ z x.f0 = x.f1 := by
  unfold getZ
  rw [if_pos h, wOf_mem (okZ_canon h) hx]
theorem getZ_neg {z : List S54} (h : okZ z = true) {x : S54} (hx : x ∈ z) : getZ (negL z) x.f0 = -x.f1 := getZ_mem (negL_ok h) (negL_mem hx)
theorem getZ_pos {z : List S54} (h : okZ z = true) {x : S54} (hx : x ∈ z) : getZ (posL z) x.f0 = if x.f1 > 0 then 1 else 0 := by
  by_cases h1 : x.f1 > 0
  · rw [if_pos h1]
    refine getZ_mem (posL_ok h) (x := ⟨x.f0, 1⟩) ?_
    exact List.mem_map_of_mem (f := fun x : S54 => (⟨x.f0, 1⟩ : S54)) (List.mem_filter.2 ⟨hx, decide_eq_true h1⟩)
  · rw [if_neg h1]
    unfold getZ
    rw [if_pos (posL_ok h)]
    refine Decidable.byContradiction (fun hne => ?_)
    obtain ⟨y, hy, e⟩ := wOf_ne hne
    obtain ⟨u, hu, e0, e1, _⟩ := posL_mem hy
    have a := wOf_mem (okZ_canon h) hu
    have b := wOf_mem (okZ_canon h) hx
    rw [e0, e] at a
    omega

/-- each weight twice -/
def dblL (z : List S54) : List S54 := z.map (fun x => ⟨x.f0, 2 * x.f1⟩)
theorem dblL_wOf (r : List Int) : ∀ z : List S54, wOf r (dblL z) = 2 * wOf r z := by
  intro z
  induction z with
  | nil => rfl
  | cons x z ih =>
    show wOf r (⟨x.f0, 2 * x.f1⟩ :: dblL z) = _
    unfold wOf
    by_cases h : x.f0 = r
    · rw [if_pos h, if_pos h]
    · rw [if_neg h, if_neg h, ih]
theorem negL_wOf (r : List Int) : ∀ z : List S54, wOf r (negL z) = - wOf r z := by
  intro z
  induction z with
  | nil => rfl
  | cons x z ih =>
    show wOf r (⟨x.f0, -x.f1⟩ :: negL z) = _
    unfold wOf
    by_cases h : x.f0 = r
    · rw [if_pos h, if_pos h]
    · rw [if_neg h, if_neg h, ih]
theorem dblL_canon {z : List S54} (h : Canon z) : Canon (dblL z) := ⟨List.pairwise_map.2 h.ord, fun y hy => by
  obtain ⟨x, hx, rfl⟩ := List.mem_map.1 hy
  have := h.nz x hx
  dsimp only
  omega⟩
theorem dblL_len (z : List S54) : (dblL z).length = z.length := List.length_map _
theorem add_self {z : List S54} (h : Canon z) : addL z z = dblL z := canon_ext (addL_canon _ _ h) (dblL_canon h) (fun r => by rw [addL_wOf r z z h h, dblL_wOf]; omega)
theorem dbl_neg {z : List S54} (h : okZ z = true) : addL (dblL z) (negL z) = z :=
  canon_ext (addL_canon _ _ (dblL_canon (okZ_canon h))) (okZ_canon h) (fun r => by rw [addL_wOf r _ _ (dblL_canon (okZ_canon h)) (okZ_canon (negL_ok h)), dblL_wOf, negL_wOf]; omega)
theorem dbl_pos : ∀ z : List S54, posL (dblL z) = posL z := by
  intro z
  induction z with
  | nil => rfl
  | cons x z ih =>
    rw [show dblL (x :: z) = ⟨x.f0, 2 * x.f1⟩ :: dblL z from rfl, posL_cons, posL_cons, ih]
    dsimp only
    by_cases h : x.f1 > 0
    · rw [if_pos h, if_pos (by omega)]
    · rw [if_neg h, if_neg (by omega)]
theorem dblL_mem {z : List S54} {x : S54} (h : x ∈ z) : (⟨x.f0, 2 * x.f1⟩ : S54) ∈ dblL z := List.mem_map_of_mem (f := fun x : S54 => (⟨x.f0, 2 * x.f1⟩ : S54)) h

theorem addZ_small (a b : List S54) : Small (addZ a b).1 := by
  unfold addZ
  split
  · next h => exact okZ_small h.2.2
  · exact ⟨by simp, by simp⟩
theorem addZ_ok {a b : List S54} (h : (addZ a b).2 = true) : okZ a = true ∧ okZ b = true ∧ okZ (addL a b) = true ∧ (addZ a b).1 = addL a b := by
  unfold addZ at h ⊢
  by_cases c : okZ a = true ∧ okZ b = true ∧ okZ (addL a b) = true
  · rw [if_pos c]; exact ⟨c.1, c.2.1, c.2.2, rfl⟩
  · rw [if_neg c] at h; cases h
theorem addL_comm {a b : List S54} (ha : okZ a = true) (hb : okZ b = true) : addL a b = addL b a :=
  canon_ext (addL_canon _ _ (okZ_canon ha)) (addL_canon _ _ (okZ_canon hb)) (fun r => by rw [addL_wOf r a b (okZ_canon ha) (okZ_canon hb), addL_wOf r b a (okZ_canon hb) (okZ_canon ha)]; omega)
theorem addZ_comm (a b : List S54) : addZ a b = addZ b a := by
  unfold addZ
  by_cases ha : okZ a = true
  · by_cases hb : okZ b = true
    · rw [addL_comm ha hb]
      by_cases h : okZ (addL b a) = true
      · rw [if_pos ⟨ha, hb, h⟩, if_pos ⟨hb, ha, h⟩]
      · rw [if_neg (fun c => h c.2.2), if_neg (fun c => h c.2.2)]
    · rw [if_neg (fun c => hb c.2.1), if_neg (fun c => hb c.1)]
  · rw [if_neg (fun c => ha c.1), if_neg (fun c => ha c.2.1)]
theorem addL_neg {a : List S54} (h : okZ a = true) : addL a (negL a) = [] :=
  canon_ext (addL_canon _ _ (okZ_canon h)) Canon.nil (fun r => by rw [addL_wOf r _ _ (okZ_canon h) (okZ_canon (negL_ok h)), negL_wOf, show wOf r [] = 0 from rfl]; omega)
theorem okZ_nil : okZ ([] : List S54) = true := by unfold okZ; rw [chain_nil]; rfl
theorem addZ_neg {a : List S54} (h : okZ a = true) : addZ a (negL a) = ([], true) := by
  unfold addZ
  rw [addL_neg h, if_pos ⟨h, negL_ok h, okZ_nil⟩]
theorem addZ_nil {a : List S54} (h : okZ a = true) : addZ a [] = (a, true) := by
  unfold addZ
  rw [show addL a [] = a from rfl, if_pos ⟨h, okZ_nil, h⟩]
theorem getZ_add {a b : List S54} (h : (addZ a b).2 = true) (r : List Int) : getZ (addZ a b).1 r = getZ a r + getZ b r := by
  obtain ⟨ha, hb, hc, e⟩ := addZ_ok h
  rw [e]
  unfold getZ
  rw [if_pos ha, if_pos hb, if_pos hc, addL_wOf r a b (okZ_canon ha) (okZ_canon hb)]
theorem addL_assoc {a b c : List S54} (ha : okZ a = true) (hb : okZ b = true) (hc : okZ c = true) : addL (addL a b) c = addL a (addL b c) := by
  have ca := okZ_canon ha
  have cb := okZ_canon hb
  have cc := okZ_canon hc
  have cab := addL_canon b a ca
  have cbc := addL_canon c b cb
  exact canon_ext (addL_canon _ _ cab) (addL_canon _ _ ca) (fun r => by rw [addL_wOf r _ c cab cc, addL_wOf r a b ca cb, addL_wOf r a _ ca cbc, addL_wOf r b c cb cc]; omega)
theorem getZ_w {z : List S54} (r : List Int) : -10000 ≤ getZ z r ∧ getZ z r ≤ 10000 := by
  unfold getZ
  by_cases h : okZ z = true
  · rw [if_pos h]
    by_cases h0 : wOf r z = 0
    · omega
    · obtain ⟨x, hx, e⟩ := wOf_ne h0
      have := wOf_mem (okZ_canon h) hx
      have := okZ_w h x hx
      rw [← e]
      omega
  · rw [if_neg h]; omega

theorem equal_ev (a b : List Int) (ha : a.length < 4611686018427387904) : Ev (fun k => slices_Equal_int_int.f k a b) (decide (a = b)) := by
  unfold slices_Equal_int_int.f
  by_cases hl : a.length = b.length
  · refine ev_pos (by omega) ?_
    have h := ev_down (fun k i => slices_Equal_int_int.l0 k a b (a.length : Int) (i : Int)) (fun i => decide (a.drop i = b.drop i)) a.length ?_ ?_ 0 (by omega)
    · simpa using h
    · refine Ev.step (fun k => slices_Equal_int_int.l0.eq_2 ..) (ev_neg (by omega) (ev_now ?_))
      rw [drop_end a _ (Nat.le_refl _), drop_end b _ (by omega)]; simp
    · intro i hi ih
      refine Ev.step (fun k => slices_Equal_int_int.l0.eq_2 ..) (ev_pos (by omega) (ev_pos (by omega) (ev_pos (by omega) (ev_pos (by omega) ?_))))
      rw [drop_rd a i hi, drop_rd b i (by omega)]
      by_cases h1 : rd a i = rd b i
      · refine ev_pos h1 ?_
        rw [w64n (by omega)]
        simpa [h1] using ih
      · exact ev_neg h1 (ev_now (by simp [h1]))
  · exact ev_neg (by omega) (ev_now (by symm; rw [decide_eq_false_iff_not]; intro h; exact hl (by rw [h])))

theorem implSame_ev (a b : List Int) (ha : a.length < 4611686018427387904) : Ev (fun k => impl_RowSame.f k a b) (decide (a = b)) := by
  unfold impl_RowSame.f
  exact (equal_ev a b ha).bind (ev_now rfl)

theorem sameItem_ev (x y : S54) (ha : x.f0.length ≤ 1048576) : Ev (fun k => impl_ZSame_1.f k x.f0 x.f1 y.f0 y.f1) (decide (x = y)) := by
  unfold impl_ZSame_1.f
  by_cases h1 : x.f1 = y.f1
  · refine ev_pos h1 ((implSame_ev x.f0 y.f0 (by omega)).bind (ev_now ?_))
    rw [decide_eq_decide]
    exact ⟨fun h => ext_item h h1, fun h => by rw [h]⟩
  · exact ev_neg h1 (ev_now (decide_eq_false (fun e => h1 (by rw [e]))).symm)
theorem implZSame_ev (a b : List S54) (hs : Small a) : Ev (fun k => impl_ZSame.f k a b) (decide (a = b)) := by
  have ha := hs.len
  have main : Ev (fun k => slices_EqualFunc_impl_Item_impl_Item_impl_Item_impl_Item__impl_ZSame_1.f k a b) (decide (a = b)) := by
    unfold slices_EqualFunc_impl_Item_impl_Item_impl_Item_impl_Item__impl_ZSame_1.f
    by_cases hl : a.length = b.length
    · refine ev_pos (by omega) ?_
      have h := ev_down (fun k i => slices_EqualFunc_impl_Item_impl_Item_impl_Item_impl_Item__impl_ZSame_1.l0 k b a (a.length : Int) (i : Int)) (fun i => decide (a.drop i = b.drop i)) a.length ?_ ?_ 0 (by omega)
      · simpa using h
      · refine Ev.step (fun k => slices_EqualFunc_impl_Item_impl_Item_impl_Item_impl_Item__impl_ZSame_1.l0.eq_2 ..) (ev_neg (by omega) (ev_now ?_))
        rw [drop_end a _ (Nat.le_refl _), drop_end b _ (by omega)]; simp
      · intro i hi ih
        have he := sameItem_ev a[i] b[i] (hs.row _ (List.getElem_mem _))
        refine Ev.step (fun k => slices_EqualFunc_impl_Item_impl_Item_impl_Item_impl_Item__impl_ZSame_1.l0.eq_2 ..) (ev_pos (by omega) (ev_pos (by omega) (ev_pos (by omega) (ev_pos (by omega) ?_))))
        rw [rdI_at a i hi, rdI_at b i (by omega)]
        refine he.bind ?_
        rw [drop_at a i hi, drop_at b i (by omega)]
        by_cases h1 : a[i] = b[i]
        · refine ev_pos (decide_eq_true h1) ?_
          rw [w64n (by omega), dec_cons h1]
          exact ih
        · exact ev_neg (by rw [decide_eq_true_iff]; exact h1) (ev_now (dec_cons_ne h1).symm)
    · exact ev_neg (by omega) (ev_now (by symm; rw [decide_eq_false_iff_not]; intro h; exact hl (by rw [h])))
  unfold impl_ZSame.f
  exact main.bind (ev_now rfl)

theorem implZNeg_ev (z : List S54) (hs : Small z) : Ev (fun k => impl_ZNeg.f k z) (if okZ z = true then negL z else []) := by
  unfold impl_ZNeg.f
  refine (implZOk_ev z hs).bind ?_
  by_cases h : okZ z = true
  · rw [if_pos h]
    exact ev_pos h ((turned_ev z hs (fun x hx => by have := okZ_w h x hx; omega)).bind (copyItems_ev _ (negL_small hs)))
  · rw [if_neg h]
    exact ev_neg h (ev_now rfl)

theorem FnZ : laws_FnZ.Pure := by
  intro l0 l1 ⟨_, hw0⟩ ⟨_, hw1⟩
  refine Ev.rounds ?_
  unfold laws_FnZ.f
  by_cases h1 : (l0.length : Int) > 1048576
  · exact ev_pos h1 (ev_now rfl)
  refine ev_neg h1 ?_
  by_cases h2 : (l1.length : Int) > 1048576
  · exact ev_pos h2 (ev_now rfl)
  refine ev_neg h2 ?_
  obtain ⟨a, b, hd, da, db⟩ := drawZAdd_ev l0 hw0
  have sa := da.small (by omega)
  have sb := db.small (by omega)
  have A := implZAdd_ev a b sa sb
  have P := specZAdd_ev a b sa sb
  have qa := specZOk_ev a sa
  have sx : Small (addZ a b).1 := addZ_small a b
  have E0 := implZSame_ev (addZ a b).1 (addZ a b).1 sx
  refine hd.bind (A.bind (P.bind (ev_pos rfl (E0.bind (ev_pos (by simp) ((implZOk_ev a sa).bind (qa.bind (ev_pos rfl (qa.bind ?_)))))))))
  by_cases k1 : okZ a = true
  case neg =>
    have e : addZ a b = ([], false) := by unfold addZ; rw [if_neg (fun h => k1 h.1)]
    exact ev_neg k1 (ev_neg (by simp [e]) (ev_pos (by simp [e]) (ev_now rfl)))
  refine ev_pos k1 ((specZOk_ev b sb).bind ?_)
  by_cases k2 : okZ b = true
  case neg =>
    have e : addZ a b = ([], false) := by unfold addZ; rw [if_neg (fun h => k2 h.2.1)]
    exact ev_neg k2 (ev_neg (by simp [e]) (ev_pos (by simp [e]) (ev_now rfl)))
  refine ev_pos k2 ?_
  have B := implZAdd_ev b a sb sa
  rw [addZ_comm b a] at B
  have N := implZNeg_ev a sa
  rw [if_pos k1] at N
  have Z := implZAdd_ev a (negL a) sa (okZ_small (negL_ok k1))
  rw [addZ_neg k1] at Z
  have S := implZAdd_ev a [] sa ⟨by simp, by simp⟩
  rw [addZ_nil k1] at S
  obtain ⟨zz, r, hg, dz, hr⟩ := drawZGet_ev l1 hw1
  refine B.bind (N.bind (Z.bind (S.bind (ev_pos rfl (E0.bind (ev_pos (by simp) (ev_pos rfl (ev_neg (by simp) (ev_pos rfl ((implZSame_ev a a sa).bind (ev_pos (by simp) (hg.bind ?_))))))))))))
  obtain ⟨c, hc, dc⟩ := drawZOk_ev l1 hw1
  have sc := dc.small (by omega)
  have P1 := implZAdd_ev (addZ a b).1 c sx sc
  have Q1 := implZAdd_ev b c sb sc
  have S1 := implZAdd_ev a (addZ b c).1 sa (addZ_small b c)
  by_cases k3 : (addZ a b).2 = true
  case neg => exact ev_neg k3 (hc.bind (P1.bind (Q1.bind (S1.bind (ev_now rfl)))))
  have wa := getZ_w (z := a) r
  have wb := getZ_w (z := b) r
  refine ev_pos k3 ((implZGet_ev (addZ a b).1 r sx).bind ((implZGet_ev a r sa).bind ((implZGet_ev b r sb).bind (ev_pos (by rw [w64 (by omega) (by omega)]; exact getZ_add k3 r) (hc.bind (P1.bind (Q1.bind (S1.bind ((specZOk_ev c sc).bind ?_)))))))))
  by_cases k4 : okZ c = true
  case neg => exact ev_neg k4 (ev_now rfl)
  refine ev_pos k4 ?_
  by_cases k5 : (addZ (addZ a b).1 c).2 = true
  case neg => exact ev_neg k5 (ev_now rfl)
  refine ev_pos k5 ?_
  by_cases k6 : (addZ b c).2 = true
  case neg => exact ev_neg k6 (ev_now rfl)
  refine ev_pos k6 ?_
  by_cases k7 : (addZ a (addZ b c).1).2 = true
  case neg => exact ev_neg k7 (ev_now rfl)
  refine ev_pos k7 ?_
  have e : (addZ (addZ a b).1 c).1 = (addZ a (addZ b c).1).1 := by
    rw [(addZ_ok k5).2.2.2, (addZ_ok k7).2.2.2, (addZ_ok k3).2.2.2, (addZ_ok k6).2.2.2]
    exact addL_assoc k1 k2 k4
  exact (implZSame_ev _ _ (addZ_small _ _)).bind (ev_pos (by simp [e]) (ev_now rfl))

end Go.Proofs.Ytaifnkapbffmaaa.Pure
