/- Whatever codes the rows are drawn from, the order of rows is one order, and the law answers true. No condition beyond what the statement gives (bytes). -/
import Derived.Test.YtpbmabfodfcfmaaPFnRowLessx4
import Derived.Test.YtpbmabfodfcfmaaQ
namespace Go.Proofs.Ytpbmabfodfcfmaa.Pure
open Go.RowKit Go.Proofs.Ytpbmabfodfcfmaa.PFnRowLess Go.Proofs.YtpbmabfodfcfmaaW.PrintWords Go.Proofs.YtpbmabfodfcfmaaW.PrintLast Go.Proofs.YtpbmabfodfcfmaaW.PrintMore Go.Proofs.Ytpbmabfodfcfmaa.Q

/-! draws -/
theorem xor_pos (x y : Int) (h0 : 0 ≤ x) (h1 : x < 4611686018427387904) (h2 : 0 ≤ y) (h3 : y < 4611686018427387904) : 0 ≤ Go.bits .xor .i64 x y := by
  obtain ⟨a, rfl⟩ := Int.eq_ofNat_of_zero_le h0
  obtain ⟨b, rfl⟩ := Int.eq_ofNat_of_zero_le h2
  have ha : a < 2 ^ 62 := by omega
  have hb : b < 2 ^ 62 := by omega
  have ha' : a % 2 ^ IntKind.i64.bits = a := Nat.mod_eq_of_lt (Nat.lt_of_lt_of_le ha (by decide))
  have hb' : b % 2 ^ IntKind.i64.bits = b := Nat.mod_eq_of_lt (Nat.lt_of_lt_of_le hb (by decide))
  have hx : a ^^^ b < 2 ^ 62 := Nat.xor_lt_two_pow ha hb
  simp only [bits, BitVec.ofInt_natCast, BitVec.toNat_xor, BitVec.toNat_ofNat, ha', hb']
  rw [IntKind.wrap_i64]
  omega
/-- a code as the draws read it, and a place in it -/
structure Code_ (b : List Int) : Prop where
  len : b.length ≤ 2000
  byte : ∀ i : Int, 0 ≤ rd b i ∧ rd b i ≤ 255
def lim : Int := 1000000000
theorem tmod_lt (x n : Int) (h0 : 0 ≤ x) (hn : 0 < n) : 0 ≤ Int.tmod x n ∧ Int.tmod x n < n := by
  rw [Int.tmod_eq_emod_of_nonneg h0]
  exact ⟨Int.emod_nonneg _ (by omega), Int.emod_lt_of_pos _ hn⟩
theorem pick_some {b : List Int} (hb : Code_ b) (p n : Int) (hp : 0 ≤ p) (hp1 : p ≤ lim) (hn : 1 ≤ n) : ∃ v, spec_l12Rd_pick.f b p n = some (v, p + 1) ∧ 0 ≤ v ∧ v < n := by
  have hl := hb.len
  unfold lim at hp1
  unfold spec_l12Rd_pick.f
  have e1 : wrap64 (p + 1) = p + 1 := w64 (by omega) (by omega)
  have e2 : wrap64 (p + 1 - 1) = p := by rw [w64 (by omega) (by omega)]; omega
  rw [e1, e2, if_neg (by omega)]
  by_cases h0 : (b.length : Int) = 0
  · rw [if_pos h0]; exact ⟨0, rfl, by omega, by omega⟩
  · rw [if_neg h0]
    by_cases h1 : p < b.length
    · rw [if_pos h1, if_pos hp, if_neg (by omega)]
      have hr := hb.byte p
      rw [w64 (by omega) (by omega)]
      have := tmod_lt (rd b p) n hr.1 (by omega)
      exact ⟨_, rfl, this.1, this.2⟩
    · rw [if_neg h1]
      have hm := tmod_lt p b.length hp (by omega)
      have e3 : wrap64 (p * 7) = p * 7 := w64 (by omega) (by omega)
      have e4 : wrap64 (p * 7 + 3) = p * 7 + 3 := w64 (by omega) (by omega)
      have hm2 := tmod_lt (p * 7 + 3) b.length (by omega) (by omega)
      rw [e3, e4, if_pos hm.1, if_pos hm.2, if_pos hm2.1, if_pos hm2.2, if_neg (by omega)]
      have b1 := hb.byte (Int.tmod p b.length)
      have b2 := hb.byte (Int.tmod (p * 7 + 3) b.length)
      generalize rd b (Int.tmod p b.length) = u at b1 ⊢
      generalize rd b (Int.tmod (p * 7 + 3) b.length) = v at b2 ⊢
      have hd : 0 ≤ Int.tdiv p b.length ∧ Int.tdiv p b.length ≤ p := by
        rw [Int.tdiv_eq_ediv_of_nonneg hp]
        exact ⟨Int.ediv_nonneg hp (by omega), Int.ediv_le_self _ hp⟩
      generalize Int.tdiv p b.length = d at hd ⊢
      have f1 : wrap64 u = u := w64 (by omega) (by omega)
      have f2 : wrap64 v = v := w64 (by omega) (by omega)
      have f3 : wrap64 d = d := w64 (by omega) (by omega)
      have f4 : wrap64 (u * 131) = u * 131 := w64 (by omega) (by omega)
      have f5 : wrap64 (v * 1117) = v * 1117 := w64 (by omega) (by omega)
      have f6 : wrap64 (p * 29) = p * 29 := w64 (by omega) (by omega)
      have f7 : wrap64 (d * 53) = d * 53 := w64 (by omega) (by omega)
      have f8 : wrap64 (u * 131 + v * 1117) = u * 131 + v * 1117 := w64 (by omega) (by omega)
      have f9 : wrap64 (u * 131 + v * 1117 + p * 29) = u * 131 + v * 1117 + p * 29 := w64 (by omega) (by omega)
      have f10 : wrap64 (u * 131 + v * 1117 + p * 29 + d * 53) = u * 131 + v * 1117 + p * 29 + d * 53 := w64 (by omega) (by omega)
      rw [f1, f2, f3, f4, f5, f6, f7, f8, f9, f10]
      generalize hX : u * 131 + v * 1117 + p * 29 + d * 53 = X
      have hX0 : 0 ≤ X := by omega
      have hX1 : X < 4611686018427387904 := by omega
      have g1 : Int.tdiv X 64 = X / 64 := Int.tdiv_eq_ediv_of_nonneg hX0
      rw [g1, w64 (by omega) (by omega)]
      have := tmod_lt (Go.bits .xor .i64 X (X / 64)) n (xor_pos X (X / 64) hX0 hX1 (by omega) (by omega)) (by omega)
      exact ⟨_, rfl, this.1, this.2⟩
theorem rd_mem (l : List Int) (i : Int) (h0 : 0 ≤ i) (h1 : i < l.length) : rd l i ∈ l := by
  obtain ⟨n, rfl⟩ := Int.eq_ofNat_of_zero_le h0
  rw [show ((n : Nat) : Int) = (n : Int) from rfl, rd_nat, List.getD_eq_getElem?_getD, List.getElem?_eq_getElem (by omega)]
  exact List.getElem_mem _
theorem open_some (l : List Int) (hl : ∀ x ∈ l, (Lit.int .u8 x).wf = true) : ∃ b, spec_l12Open.f l = some (b, 0) ∧ Code_ b := by
  have hw : ∀ x ∈ l, 0 ≤ x ∧ x ≤ 255 := fun x hx => by
    have := hl x hx
    simp [Lit.wf, IntKind.min, IntKind.max, IntKind.bits, IntKind.signed] at this
    omega
  have hr : ∀ m : List Int, (∀ x ∈ m, 0 ≤ x ∧ x ≤ 255) → ∀ i : Int, 0 ≤ rd m i ∧ rd m i ≤ 255 := fun m hm i => by
    unfold rd
    rw [List.getD_eq_getElem?_getD]
    cases h : m[i.toNat]? with
    | none => simp
    | some x => exact hm x (List.mem_of_getElem? h)
  unfold spec_l12Open.f
  by_cases h : (l.length : Int) > 2000
  · rw [if_pos h, if_pos (by omega)]
    exact ⟨_, rfl, ⟨by simp; omega, hr _ (fun x hx => hw x (List.mem_of_mem_take hx))⟩⟩
  · rw [if_neg h]
    exact ⟨_, rfl, ⟨by omega, hr _ hw⟩⟩

theorem num_some {b : List Int} (hb : Code_ b) (p : Int) (l : List Int) (hp : 0 ≤ p) (hp1 : p ≤ lim) (hl : 1 ≤ l.length) : ∃ v, spec_l12Rd_num.f b p l = some (v, p + 1) ∧ v ∈ l := by
  obtain ⟨v, hv, h0, h1⟩ := pick_some hb p l.length hp hp1 (by omega)
  refine ⟨rd l v, ?_, rd_mem l v h0 h1⟩
  unfold spec_l12Rd_num.f
  rw [hv]
  simp only [Option.bind_some]
  rw [if_pos h0, if_pos h1]

def drawnCell (x : Int) : Prop := -1 ≤ x ∧ x ≤ 5
theorem row_ev {b : List Int} (hb : Code_ b) (p : Int) (wide : Nat) (hp : 0 ≤ p) (hp1 : p + wide ≤ lim) : ∃ r : List Int, Ev (fun k => spec_l1Row.f k b p wide) (r, p + wide) ∧ r.length = wide ∧ ∀ x ∈ r, drawnCell x := by
  have hlim : lim = 1000000000 := rfl
  have go : ∀ (d i : Nat) (acc : List Int), i + d = wide → acc.length = i → (∀ x ∈ acc, drawnCell x) →
      ∃ r : List Int, Ev (fun k => spec_l1Row.l0 k wide acc i b (p + i)) (r, p + wide) ∧ r.length = wide ∧ ∀ x ∈ r, drawnCell x := by
    intro d
    induction d with
    | zero =>
      intro i acc hi ha hc
      obtain rfl : i = wide := by omega
      exact ⟨acc, Ev.step (fun k => spec_l1Row.l0.eq_2 ..) (ev_neg (by omega) (ev_now rfl)), ha, hc⟩
    | succ d ih =>
      intro i acc hi ha hc
      obtain ⟨v, hv, hm⟩ := num_some hb (p + i) [0, 1, 2, 3, 1, 2, -1, 5] (by omega) (by omega) (by decide)
      have hv2 : drawnCell v := by simp at hm; unfold drawnCell; omega
      obtain ⟨r, hr, h1, h2⟩ := ih (i + 1) (acc ++ [v]) (by omega) (by simp [ha]) (fun x hx => by
        rcases List.mem_append.1 hx with h | h
        · exact hc x h
        · simp at h; subst h; exact hv2)
      refine ⟨r, Ev.step (fun k => spec_l1Row.l0.eq_2 ..) (ev_pos (by omega) (ev_eq hv (ev_pos (by omega) ?_))), h1, h2⟩
      rw [w64n (by omega)]
      have e : p + (i : Int) + 1 = p + ((i + 1 : Nat) : Int) := by omega
      simp only [e]
      exact hr
  obtain ⟨r, hr, h1, h2⟩ := go wide 0 [] (by omega) rfl (by simp)
  refine ⟨r, ?_, h1, h2⟩
  unfold spec_l1Row.f
  simpa using hr

/-- what l1Bent draws -/
def bentCell (x : Int) : Prop := -1000000001 ≤ x ∧ x ≤ 1000000001
theorem bent_ev {b : List Int} (hb : Code_ b) (p : Int) (hp : 0 ≤ p) (hp1 : p + 20 ≤ lim) : ∃ (r : List Int) (q : Int), Ev (fun k => spec_l1Bent.f k b p) (r, q) ∧ p ≤ q ∧ q ≤ p + 20 ∧ r.length ≤ 7 ∧ ∀ x ∈ r, bentCell x := by
  have hlim : lim = 1000000000 := rfl
  have hd : ∀ x, drawnCell x → bentCell x := fun x h => by unfold drawnCell at h; unfold bentCell; omega
  obtain ⟨w, hw, w0, w1⟩ := pick_some hb p 4 hp (by omega) (by omega)
  obtain ⟨n, rfl⟩ := Int.eq_ofNat_of_zero_le w0
  obtain ⟨r, hr, r1, r2⟩ := row_ev hb (p + 1) (1 + n) (by omega) (by omega)
  have e1 : wrap64 (1 + (n : Int)) = ((1 + n : Nat) : Int) := by rw [w64 (by omega) (by omega)]; omega
  obtain ⟨c, hc, c0, c1⟩ := pick_some hb (p + 1 + ((1 + n : Nat) : Int)) 30 (by omega) (by omega) (by omega)
  have start : ∀ {r' : List Int} {q' : Int}, Ev (fun k => (spec_l12Rd_pick.f b (p + 1 + ((1 + n : Nat) : Int)) 30).bind fun z => (if z.1 = 0 then (some ((([] : List Int)), z.2)) else (if z.1 = 1 then ((spec_l12Rd_num.f b z.2 (([1000000000, 1000000001, (-1000000000), (-1000000001)] : List Int))).bind fun y => (if 0 < (r.length : Int) then (some ((r.set (0 : Int).toNat y.1), y.2)) else (none))) else (if z.1 = 2 then ((spec_l12Rd_num.f b z.2 (([6, 7] : List Int))).bind fun y => ((spec_l1Row.f k b y.2 y.1).bind fun u => (some (u.1, u.2)))) else (some (r, z.2)))))) (r', q') → Ev (fun k => spec_l1Bent.f k b p) (r', q') := by
    intro r' q' h
    unfold spec_l1Bent.f
    rw [hw]
    simp only [Option.bind_some, e1]
    exact hr.bind h
  rw [hc] at start
  simp only [Option.bind_some] at start
  by_cases h0 : c = 0
  · exact ⟨[], _, start (ev_pos h0 (ev_now rfl)), by omega, by omega, by simp, by simp⟩
  by_cases h1 : c = 1
  · obtain ⟨v, hv, hm⟩ := num_some hb (p + 1 + ((1 + n : Nat) : Int) + 1) [1000000000, 1000000001, -1000000000, -1000000001] (by omega) (by omega) (by decide)
    refine ⟨r.set 0 v, _, start (ev_neg h0 (ev_pos h1 (ev_eq hv (ev_pos (by omega) (ev_now rfl))))), by omega, by omega, by simp; omega, ?_⟩
    intro x hx
    rcases List.mem_or_eq_of_mem_set hx with h | h
    · exact hd x (r2 x h)
    · subst h; simp at hm; unfold bentCell; omega
  by_cases h2 : c = 2
  · obtain ⟨v, hv, hm⟩ := num_some hb (p + 1 + ((1 + n : Nat) : Int) + 1) [6, 7] (by omega) (by omega) (by decide)
    have hv7 : 0 ≤ v ∧ v ≤ 7 := by simp at hm; omega
    obtain ⟨m, rfl⟩ := Int.eq_ofNat_of_zero_le hv7.1
    obtain ⟨s, hs, s1, s2⟩ := row_ev hb (p + 1 + ((1 + n : Nat) : Int) + 1 + 1) m (by omega) (by omega)
    exact ⟨s, _, start (ev_neg h0 (ev_neg h1 (ev_pos h2 (ev_eq hv (Ev.bind hs (ev_now rfl)))))), by omega, by omega, by omega, fun x hx => hd x (s2 x hx)⟩
  · exact ⟨r, _, start (ev_neg h0 (ev_neg h1 (ev_neg h2 (ev_now rfl)))), by omega, by omega, by omega, fun x hx => hd x (r2 x hx)⟩

theorem specCopy (a : List Int) (ha : a.length < 17592186044416) : spec_l1Copy.f a = some a := by
  unfold spec_l1Copy.f
  simp only [Option.bind_some]
  rw [if_pos (by simp; omega)]
  simp
theorem specJoin (a b : List Int) (h : a.length + b.length < 17592186044416) : spec_RowJoin.f a b = some (a ++ b) := by
  unfold spec_RowJoin.f
  rw [specCopy a (by omega)]
  simp only [Option.bind_some]
  rw [if_pos h]

theorem two_ev (code : List Int) (hw : ∀ x ∈ code, (Lit.int .u8 x).wf = true) : ∃ a b : List Int, Ev (fun k => spec_l1Two.f k code) (a, b) ∧ a.length ≤ 7 ∧ b.length ≤ 7 := by
  have hlim : lim = 1000000000 := rfl
  obtain ⟨c, hc, hcode⟩ := open_some code hw
  obtain ⟨a, p, ha, p0, p1, la, _⟩ := bent_ev hcode 0 (by omega) (by omega)
  obtain ⟨u, hu, u0, u1⟩ := pick_some hcode p 4 (by omega) (by omega) (by omega)
  obtain ⟨b, q, hb, q0, q1, lb, _⟩ := bent_ev hcode (p + 1) (by omega) (by omega)
  obtain ⟨v, hv, v0, v1⟩ := pick_some hcode q 4 (by omega) (by omega) (by omega)
  unfold spec_l1Two.f
  by_cases h0 : u = 0
  · exact ⟨a, a, ev_eq hc (ha.bind (ev_eq hu (ev_pos h0 (ev_eq (specCopy a (by omega)) (ev_now rfl))))), la, la⟩
  by_cases h1 : v = 0
  · by_cases h2 : (a.length : Int) > 1
    · have e : wrap64 ((a.length : Int) - 1) = (a.length : Int) - 1 := w64 (by omega) (by omega)
      refine ⟨a, a.take ((a.length : Int) - 1).toNat, ev_eq hc (ha.bind (ev_eq hu (ev_neg h0 (hb.bind (ev_eq hv (ev_pos h1 (ev_pos h2 ?_))))))), la, by simp; omega⟩
      dsimp only
      rw [e]
      exact ev_pos (by omega) (ev_pos (by omega) (ev_now rfl))
    · exact ⟨a, b, ev_eq hc (ha.bind (ev_eq hu (ev_neg h0 (hb.bind (ev_eq hv (ev_pos h1 (ev_neg h2 (ev_now rfl)))))))), la, lb⟩
  · exact ⟨a, b, ev_eq hc (ha.bind (ev_eq hu (ev_neg h0 (hb.bind (ev_eq hv (ev_neg h1 (ev_now rfl))))))), la, lb⟩

theorem drawRowOk_ev (code : List Int) (hw : ∀ x ∈ code, (Lit.int .u8 x).wf = true) : ∃ r : List Int, Ev (fun k => spec_DrawRowOk.f k code) r ∧ r.length ≤ 7 := by
  obtain ⟨b, hb, hcode⟩ := open_some code hw
  obtain ⟨r, q, hr, _, _, hlen, _⟩ := bent_ev hcode 0 (by omega) (by decide)
  refine ⟨r, ?_, hlen⟩
  unfold spec_DrawRowOk.f
  exact ev_eq hb (hr.bind (ev_now rfl))

/-- l1Order -/
def ordL : List Int → List Int → Int → Int
  | [], _, d => d
  | _ :: _, [], d => d
  | a :: x, b :: y, d => if a < b then -1 else if b < a then 1 else ordL x y d

theorem ordL_zero : ∀ a b : List Int, ordL a b ((a.length : Int) - b.length) = 0 ↔ a = b := by
  have go : ∀ (a b : List Int) (d : Int), d = (a.length : Int) - b.length → (ordL a b d = 0 ↔ a = b) := by
    intro a
    induction a with
    | nil => intro b d hd; cases b <;> simp [ordL] at hd ⊢ <;> omega
    | cons x a ih =>
      intro b d hd
      cases b with
      | nil => simp [ordL] at hd ⊢; omega
      | cons y b =>
        have := ih b d (by simp at hd; omega)
        simp only [ordL]
        by_cases h1 : x < y
        · rw [if_pos h1]; simp; omega
        · rw [if_neg h1]
          by_cases h2 : y < x
          · rw [if_pos h2]; simp; omega
          · rw [if_neg h2, this]
            obtain rfl : x = y := by omega
            simp
  exact fun a b => go a b _ rfl

theorem l1Order_ev (a b : List Int) (ha : a.length < 4611686018427387904) (hb : b.length < 4611686018427387904) : Ev (fun k => spec_l1Order.f k a b) (ordL a b ((a.length : Int) - b.length)) := by
  have h := ev_down (fun k i => spec_l1Order.l0 k a b (i : Int)) (fun i => ordL (a.drop i) (b.drop i) ((a.length : Int) - b.length)) a.length ?_ ?_ 0 (by omega)
  · simpa [spec_l1Order.f] using h
  · refine Ev.step (fun k => spec_l1Order.l0.eq_2 ..) (ev_neg (by omega) (ev_now ?_))
    rw [drop_end a _ (Nat.le_refl _), ordL, w64 (by omega) (by omega)]
  · intro i hi ih
    refine Ev.step (fun k => spec_l1Order.l0.eq_2 ..) (ev_pos (by omega) ?_)
    by_cases hb' : i < b.length
    · rw [drop_rd a i hi, drop_rd b i hb']
      refine ev_pos (by omega) (ev_pos (by omega) ?_)
      by_cases h1 : rd a i < rd b i
      · exact ev_pos h1 (ev_now (by rw [ordL, if_pos h1]))
      · refine ev_neg h1 ?_
        by_cases h2 : rd a i > rd b i
        · exact ev_pos h2 (ev_now (by rw [ordL, if_neg h1, if_pos h2]))
        · refine ev_neg h2 ?_
          rw [w64n (by omega), ordL, if_neg h1, if_neg h2]
          exact ih
    · refine ev_neg (by omega) (ev_now ?_)
      rw [drop_end b i (by omega), w64 (by omega) (by omega)]
      cases a.drop i <;> rfl

/-- slices.Compare -/
def lexc : List Int → List Int → Int
  | [], [] => 0
  | [], _ :: _ => -1
  | _ :: _, [] => 1
  | a :: x, b :: y => if a < b then -1 else if b < a then 1 else lexc x y
theorem lexc_ordL : ∀ a b : List Int, (ordL a b ((a.length : Int) - b.length) < 0 ↔ lexc a b < 0) := by
  have go : ∀ (a b : List Int) (d : Int), d = (a.length : Int) - b.length → (ordL a b d < 0 ↔ lexc a b < 0) := by
    intro a
    induction a with
    | nil => intro b d hd; cases b <;> simp [ordL, lexc] at hd ⊢ <;> omega
    | cons x a ih =>
      intro b d hd
      cases b with
      | nil => simp [ordL, lexc] at hd ⊢; omega
      | cons y b =>
        have := ih b d (by simp at hd; omega)
        simp only [ordL, lexc]
        by_cases h1 : x < y
        · rw [if_pos h1, if_pos h1]
        · rw [if_neg h1, if_neg h1]
          by_cases h2 : y < x
          · rw [if_pos h2, if_pos h2]
          · rw [if_neg h2, if_neg h2, this]
  exact fun a b => go a b _ rfl

theorem specLess_ev (a b : List Int) (ha : a.length < 4611686018427387904) (hb : b.length < 4611686018427387904) : Ev (fun k => spec_RowLess.f k a b) (decide (lexc a b < 0)) := by
  unfold spec_RowLess.f
  refine (l1Order_ev a b ha hb).bind (ev_now ?_)
  rw [decide_eq_decide]
  exact lexc_ordL a b

theorem cmpInt (a b : Int) : cmp_Compare_int.f a b = some (if a < b then -1 else if b < a then 1 else 0) := by
  unfold cmp_Compare_int.f cmp_isNaN_int.f
  simp only [bne_self_eq_false, Option.bind_some, Bool.false_eq_true, if_false]
  by_cases h1 : a < b
  · rw [if_pos h1, if_pos h1]
  · rw [if_neg h1, if_neg h1]
    by_cases h2 : b < a
    · rw [if_pos h2, if_pos h2]
    · rw [if_neg h2, if_neg h2]
theorem compare_ev (a b : List Int) (ha : a.length < 4611686018427387904) : Ev (fun k => slices_Compare_int_int.f k a b) (lexc a b) := by
  unfold slices_Compare_int_int.f
  have h := ev_down (fun k i => slices_Compare_int_int.l0 k a b a (a.length : Int) (i : Int)) (fun i => lexc (a.drop i) (b.drop i)) (min a.length b.length) ?_ ?_ 0 (by omega)
  · simpa using h
  · by_cases hb : a.length ≤ b.length
    · rw [Nat.min_eq_left hb]
      refine Ev.step (fun k => slices_Compare_int_int.l0.eq_2 ..) (ev_neg (by omega) ?_)
      rw [drop_end a _ (Nat.le_refl _)]
      by_cases h1 : a.length < b.length
      · refine ev_pos (by omega) (ev_now ?_)
        rw [drop_rd b _ h1]; rfl
      · refine ev_neg (by omega) (ev_now ?_)
        rw [drop_end b _ (by omega)]; rfl
    · rw [Nat.min_eq_right (by omega)]
      refine Ev.step (fun k => slices_Compare_int_int.l0.eq_2 ..) (ev_pos (by omega) (ev_pos (by omega) (ev_pos (by omega) (ev_pos (by omega) (ev_now ?_)))))
      rw [drop_end b _ (Nat.le_refl _), drop_rd a _ (by omega)]; rfl
  · intro i hi ih
    have h1 : i < a.length := by omega
    have h2 : i < b.length := by omega
    refine Ev.step (fun k => slices_Compare_int_int.l0.eq_2 ..) (ev_pos (by omega) (ev_pos (by omega) (ev_pos (by omega) (ev_neg (by omega) (ev_pos (by omega) (ev_eq (cmpInt _ _) ?_))))))
    rw [drop_rd a i h1, drop_rd b i h2]
    simp only [lexc]
    by_cases c1 : rd a i < rd b i
    · rw [if_pos c1]
      exact ev_neg (by decide) (ev_now (by rw [if_pos c1]))
    · rw [if_neg c1, if_neg c1]
      by_cases c2 : rd b i < rd a i
      · rw [if_pos c2]
        exact ev_neg (by decide) (ev_now (by rw [if_pos c2]))
      · rw [if_neg c2, if_neg c2]
        refine ev_pos rfl ?_
        rw [w64n (by omega)]
        exact ih

theorem implLess_ev (a b : List Int) (ha : a.length < 4611686018427387904) : Ev (fun k => impl_RowLess.f k a b) (decide (lexc a b < 0)) := by
  unfold impl_RowLess.f
  exact (compare_ev a b ha).bind (ev_now rfl)

theorem specSame_ev (a b : List Int) (ha : a.length < 4611686018427387904) (hb : b.length < 4611686018427387904) : Ev (fun k => spec_RowSame.f k a b) (decide (a = b)) := by
  unfold spec_RowSame.f
  refine (l1Order_ev a b ha hb).bind (ev_now ?_)
  rw [Bool.eq_iff_iff, beq_iff_eq, decide_eq_true_iff]
  exact ordL_zero a b

theorem equal_ev (a b : List Int) (ha : a.length < 4611686018427387904) : Ev (fun k => slices_Equal_int_int.f k a b) (decide (a = b)) := by
  unfold slices_Equal_int_int.f
  by_cases hl : a.length = b.length
  · refine ev_pos (by omega) ?_
    have h := ev_down (fun k i => slices_Equal_int_int.l0 k a b (a.length : Int) (i : Int)) (fun i => decide (a.drop i = b.drop i)) a.length ?_ ?_ 0 (by omega)
    · simpa using h
    · refine Ev.step (fun k => slices_Equal_int_int.l0.eq_2 ..) (ev_neg (by omega) (ev_now ?_))
      rw [drop_end a _ (Nat.le_refl _), drop_end b _ (by omega)]; simp
    · intro i hi ih
      refine Ev.step (fun k => slices_Equal_int_int.l0.eq_2 ..) (ev_pos (by omega) (ev_pos (by omega) (ev_pos (by omega) (ev_pos (by omega) ?_))))
      rw [drop_rd a i hi, drop_rd b i (by omega)]
      by_cases h1 : rd a i = rd b i
      · refine ev_pos h1 ?_
        rw [w64n (by omega)]
        simpa [h1] using ih
      · exact ev_neg h1 (ev_now (by simp [h1]))
  · exact ev_neg (by omega) (ev_now (by symm; rw [decide_eq_false_iff_not]; intro h; exact hl (by rw [h])))

theorem implSame_ev (a b : List Int) (ha : a.length < 4611686018427387904) : Ev (fun k => impl_RowSame.f k a b) (decide (a = b)) := by
  unfold impl_RowSame.f
  exact (equal_ev a b ha).bind (ev_now rfl)

theorem implJoin_ev (a b : List Int) (h : a.length + b.length < 17592186044416) : Ev (fun k => impl_RowJoin.f k a b) (a ++ b) := by
  have r0 : rd_L2 [a, b] 0 = a := rfl
  have r1 : rd_L2 [a, b] 1 = b := rfl
  have w1 : wrap64 (0 + (a.length : Int)) = a.length := by rw [w64 (by omega) (by omega)]; omega
  have w2 : wrap64 ((a.length : Int) + b.length) = a.length + b.length := w64 (by omega) (by omega)
  have c1 : wrap64 (0 + 1) = 1 := w64 (by omega) (by omega)
  have c2 : wrap64 (1 + 1) = 2 := w64 (by omega) (by omega)
  have main : Ev (fun k => slices_Concat_int_int.f k [a, b]) (a ++ b) := by
    unfold slices_Concat_int_int.f
    refine Ev.step (fun k => slices_Concat_int_int.l0.eq_2 ..) (ev_pos (by simp) (ev_pos (by omega) (ev_pos (by simp) ?_)))
    rw [r0, w1, c1]
    refine ev_neg (by omega) (Ev.step (fun k => slices_Concat_int_int.l0.eq_2 ..) (ev_pos (by simp) (ev_pos (by omega) (ev_pos (by simp) ?_))))
    rw [r1, w2, c2]
    have g : slices_Grow_int_int__nil.f ((a.length : Int) + b.length) = some [] := by
      unfold slices_Grow_int_int__nil.f
      rw [if_pos (by omega), if_pos (by omega)]
    refine ev_neg (by omega) (Ev.step (fun k => slices_Concat_int_int.l0.eq_2 ..) (ev_neg (by simp) (ev_eq g ?_)))
    refine Ev.step (fun k => slices_Concat_int_int.l1.eq_2 ..) (ev_pos (by simp) (ev_pos (by omega) (ev_pos (by simp) ?_)))
    rw [r0, c1]
    refine ev_pos (by simp; omega) (Ev.step (fun k => slices_Concat_int_int.l1.eq_2 ..) (ev_pos (by simp) (ev_pos (by omega) (ev_pos (by simp) ?_))))
    rw [r1, c2]
    exact ev_pos (by simp; omega) (Ev.step (fun k => slices_Concat_int_int.l1.eq_2 ..) (ev_neg (by simp) (ev_now (by simp))))
  unfold impl_RowJoin.f
  exact main.bind (ev_now rfl)

theorem lexc_swap : ∀ a b : List Int, lexc b a = - lexc a b := by
  intro a
  induction a with
  | nil => intro b; cases b <;> rfl
  | cons x a ih =>
    intro b
    cases b with
    | nil => rfl
    | cons y b =>
      simp only [lexc]
      by_cases h1 : x < y
      · rw [if_pos h1, if_neg (by omega), if_pos h1]; rfl
      · rw [if_neg h1]
        by_cases h2 : y < x
        · rw [if_pos h2, if_neg h1, if_pos h2]
        · rw [if_neg h2, if_neg h1, if_neg h2, ih]
theorem lexc_zero : ∀ a b : List Int, lexc a b = 0 ↔ a = b := by
  intro a
  induction a with
  | nil => intro b; cases b <;> simp [lexc]
  | cons x a ih =>
    intro b
    cases b with
    | nil => simp [lexc]
    | cons y b =>
      simp only [lexc]
      by_cases h1 : x < y
      · rw [if_pos h1]; simp; omega
      · rw [if_neg h1]
        by_cases h2 : y < x
        · rw [if_pos h2]; simp; omega
        · rw [if_neg h2, ih]
          obtain rfl : x = y := by omega
          simp
theorem lexc_trans : ∀ a b c : List Int, lexc a b < 0 → lexc b c < 0 → lexc a c < 0 := by
  intro a
  induction a with
  | nil =>
    intro b c h1 h2
    cases b with
    | nil => simp [lexc] at h1
    | cons y b =>
      cases c with
      | nil => simp [lexc] at h2
      | cons z c => simp [lexc]
  | cons x a ih =>
    intro b c h1 h2
    cases b with
    | nil => simp [lexc] at h1
    | cons y b =>
      cases c with
      | nil => simp [lexc] at h2
      | cons z c =>
        simp only [lexc] at h1 h2 ⊢
        by_cases c1 : x < z
        · rw [if_pos c1]; decide
        · rw [if_neg c1]
          by_cases d1 : x < y
          · rw [if_neg (by omega)] at h2
            rw [if_pos (by omega)] at h2
            simp at h2
          · rw [if_neg d1] at h1
            by_cases d2 : y < x
            · rw [if_pos d2] at h1; simp at h1
            · rw [if_neg d2] at h1
              obtain rfl : x = y := by omega
              rw [if_neg c1] at h2
              by_cases c2 : z < x
              · rw [if_pos c2] at h2; simp at h2
              · rw [if_neg c2] at h2 ⊢
                exact ih b c h1 h2
theorem lexc_app : ∀ a b : List Int, lexc a (a ++ b) = if b = [] then 0 else -1 := by
  intro a
  induction a with
  | nil => intro b; cases b <;> simp [lexc]
  | cons x a ih =>
    intro b
    rw [List.cons_append]
    simp only [lexc]
    rw [if_neg (by omega), if_neg (by omega), ih]

theorem rowLess_tail (a b : List Int) (ha : a.length ≤ 7) (hb : b.length ≤ 7) : Ev (fun k => (impl_RowJoin.f k a b).bind fun t242 => ((spec_RowJoin.f a b).bind fun t245 => ((impl_RowSame.f k t242 t245).bind fun t248 => (if t248 = true then (if (t242.length : Int) = (wrap64 ((a.length : Int) + (b.length : Int))) then (if 0 ≤ (a.length : Int) then (if (a.length : Int) ≤ (t242.length : Int) then ((impl_RowSame.f k (t242.take ((a.length : Int) : Int).toNat) a).bind fun t253 => (if t253 = true then ((impl_RowSame.f k (t242.drop ((a.length : Int) : Int).toNat) b).bind fun t258 => (if t258 = true then (if (b.length : Int) = 0 then (some true) else ((impl_RowLess.f k a t242).bind fun t259 => (some t259))) else (some false))) else (some false))) else (none)) else (none)) else (some false)) else (some false))))) true := by
  refine (implJoin_ev a b (by omega)).bind (ev_eq (specJoin a b (by omega)) ((implSame_ev (a ++ b) (a ++ b) (by simp; omega)).bind (ev_pos (by simp) (ev_pos ?_ (ev_pos (by omega) (ev_pos (by simp; omega) ?_))))))
  · rw [w64 (by omega) (by omega)]; simp
  · rw [Int.toNat_natCast, List.take_left, List.drop_left]
    refine (implSame_ev a a (by omega)).bind (ev_pos (by simp) ((implSame_ev b b (by omega)).bind (ev_pos (by simp) ?_)))
    by_cases h : (b.length : Int) = 0
    · exact ev_pos h (ev_now rfl)
    · refine ev_neg h ((implLess_ev a (a ++ b) (by omega)).bind (ev_now ?_))
      rw [lexc_app, if_neg (by intro e; subst e; simp at h)]
      decide
theorem rowLess_j1 (a b c : List Int) (ha : a.length ≤ 7) (hb : b.length ≤ 7) (_hc : c.length ≤ 7) : Ev (fun k => laws_FnRowLess.j1 k a b c false) true := by
  have T := rowLess_tail a b ha hb
  refine Ev.step (fun k => laws_FnRowLess.j1.eq_2 ..) (ev_neg (by simp) ((implLess_ev a b (by omega)).bind ?_))
  by_cases h1 : lexc a b < 0
  · refine ev_pos (decide_eq_true h1) ((implLess_ev b c (by omega)).bind ?_)
    by_cases h2 : lexc b c < 0
    · exact ev_pos (decide_eq_true h2) ((implLess_ev a c (by omega)).bind (ev_pos (decide_eq_true (lexc_trans a b c h1 h2)) T))
    · exact ev_neg (by simpa using h2) T
  · exact ev_neg (by simpa using h1) T
theorem FnRowLess : laws_FnRowLess.Pure := by
  intro code more _ _ hw _ _ hm
  refine Ev.rounds ?_
  unfold laws_FnRowLess.f
  by_cases h1 : (code.length : Int) > 1048576
  · exact ev_pos h1 (Ev.step (fun k => laws_FnRowLess.j0.eq_2 ..) (ev_pos rfl (ev_now rfl)))
  refine ev_neg h1 (Ev.step (fun k => laws_FnRowLess.j0.eq_2 ..) ?_)
  by_cases h2 : (more.length : Int) > 1048576
  · exact ev_pos (decide_eq_true h2) (ev_now rfl)
  refine ev_neg (by rw [decide_eq_true_iff]; exact h2) ?_
  obtain ⟨a, b, hab, la, lb⟩ := two_ev code hw
  obtain ⟨c, hc, lc⟩ := drawRowOk_ev more hm
  have J := rowLess_j1 a b c la lb lc
  have hdraw : Ev (fun k => spec_DrawRowLess.f k code) (a, b) := by
    unfold spec_DrawRowLess.f
    exact hab.bind (ev_now rfl)
  refine hdraw.bind (hc.bind ((implLess_ev a b (by omega)).bind ((implLess_ev b a (by omega)).bind ((implSame_ev a b (by omega)).bind ((specLess_ev a b (by omega) (by omega)).bind (ev_neg (by simp) ((specSame_ev a b (by omega) (by omega)).bind (ev_neg (by simp) ?_))))))))
  have hz := lexc_zero a b
  have hs := lexc_swap a b
  by_cases p : lexc a b < 0
  · refine ev_pos (decide_eq_true p) (ev_neg (by simp; omega) ?_)
    have : (false != decide (a = b)) = false := by
      rw [decide_eq_false (fun e => by rw [hz.2 e] at p; omega)]; rfl
    simp only [this]
    exact J
  · refine ev_neg (by simpa using p) ?_
    have : ((!decide (lexc b a < 0)) != decide (a = b)) = false := by
      by_cases e : a = b
      · have := hz.2 e
        simp [e] at hs ⊢
        omega
      · have : lexc a b ≠ 0 := fun h => e (hz.1 h)
        have h3 : lexc b a < 0 := by omega
        simp [e, h3]
    simp only [this]
    exact J

end Go.Proofs.Ytpbmabfodfcfmaa.Pure
