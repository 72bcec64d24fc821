/- Whatever codes the rows are drawn from, joining is associative, and two joined rows of parts as wide are one just if their parts are; the law answers true. No condition beyond what the statement gives (bytes). -/
import Derived.Test.YtjajepomgbpjpaaPFnRowJoinx3
import Derived.Test.YtjajepomgbpjpaaQ
namespace Go.Proofs.Ytjajepomgbpjpaa.Pure
open Go.RowKit Go.Proofs.Ytjajepomgbpjpaa.PFnRowJoin Go.Proofs.YtjajepomgbpjpaaW.PrintWords Go.Proofs.YtjajepomgbpjpaaW.PrintLast Go.Proofs.YtjajepomgbpjpaaW.PrintMore Go.Proofs.Ytjajepomgbpjpaa.Q

/-! draws -/
theorem xor_pos (x y : Int) (h0 : 0 ≤ x) (h1 : x < 4611686018427387904) (h2 : 0 ≤ y) (h3 : y < 4611686018427387904) : 0 ≤ Go.bits .xor .i64 x y := by
  obtain ⟨a, rfl⟩ := Int.eq_ofNat_of_zero_le h0
  obtain ⟨b, rfl⟩ := Int.eq_ofNat_of_zero_le h2
  have ha : a < 2 ^ 62 := by omega
  have hb : b < 2 ^ 62 := by omega
  have ha' : a % 2 ^ IntKind.i64.bits = a := Nat.mod_eq_of_lt (Nat.lt_of_lt_of_le ha (by decide))
  have hb' : b % 2 ^ IntKind.i64.bits = b := Nat.mod_eq_of_lt (Nat.lt_of_lt_of_le hb (by decide))
  have hx : a ^^^ b < 2 ^ 62 := Nat.xor_lt_two_pow ha hb
  simp only [bits, BitVec.ofInt_natCast, BitVec.toNat_xor, BitVec.toNat_ofNat, ha', hb']
  rw [IntKind.wrap_i64]
  omega
/-- a code as the draws read it, and a place in it -/
structure Code_ (b : List Int) : Prop where
  len : b.length ≤ 2000
  byte : ∀ i : Int, 0 ≤ rd b i ∧ rd b i ≤ 255
def lim : Int := 1000000000
theorem tmod_lt (x n : Int) (h0 : 0 ≤ x) (hn : 0 < n) : 0 ≤ Int.tmod x n ∧ Int.tmod x n < n := by
  rw [Int.tmod_eq_emod_of_nonneg h0]
  exact ⟨Int.emod_nonneg _ (by omega), Int.emod_lt_of_pos _ hn⟩
theorem pick_some {b : List Int} (hb : Code_ b) (p n : Int) (hp : 0 ≤ p) (hp1 : p ≤ lim) (hn : 1 ≤ n) : ∃ v, spec_l12Rd_pick.f b p n = some (v, p + 1) ∧ 0 ≤ v ∧ v < n := by
  have hl := hb.len
  unfold lim at hp1
  unfold spec_l12Rd_pick.f
  have e1 : wrap64 (p + 1) = p + 1 := w64 (by omega) (by omega)
  have e2 : wrap64 (p + 1 - 1) = p := by rw [w64 (by omega) (by omega)]; omega
  rw [e1, e2, if_neg (by omega)]
  by_cases h0 : (b.length : Int) = 0
  · rw [if_pos h0]; exact ⟨0, rfl, by omega, by omega⟩
  · rw [if_neg h0]
    by_cases h1 : p < b.length
    · rw [if_pos h1, if_pos hp, if_neg (by omega)]
      have hr := hb.byte p
      rw [w64 (by omega) (by omega)]
      have := tmod_lt (rd b p) n hr.1 (by omega)
      exact ⟨_, rfl, this.1, this.2⟩
    · rw [if_neg h1]
      have hm := tmod_lt p b.length hp (by omega)
      have e3 : wrap64 (p * 7) = p * 7 := w64 (by omega) (by omega)
      have e4 : wrap64 (p * 7 + 3) = p * 7 + 3 := w64 (by omega) (by omega)
      have hm2 := tmod_lt (p * 7 + 3) b.length (by omega) (by omega)
      rw [e3, e4, if_pos hm.1, if_pos hm.2, if_pos hm2.1, if_pos hm2.2, if_neg (by omega)]
      have b1 := hb.byte (Int.tmod p b.length)
      have b2 := hb.byte (Int.tmod (p * 7 + 3) b.length)
      generalize rd b (Int.tmod p b.length) = u at b1 ⊢
      generalize rd b (Int.tmod (p * 7 + 3) b.length) = v at b2 ⊢
      have hd : 0 ≤ Int.tdiv p b.length ∧ Int.tdiv p b.length ≤ p := by
        rw [Int.tdiv_eq_ediv_of_nonneg hp]
        exact ⟨Int.ediv_nonneg hp (by omega), Int.ediv_le_self _ hp⟩
      generalize Int.tdiv p b.length = d at hd ⊢
      have f1 : wrap64 u = u := w64 (by omega) (by omega)
      have f2 : wrap64 v = v := w64 (by omega) (by omega)
      have f3 : wrap64 d = d := w64 (by omega) (by omega)
      have f4 : wrap64 (u * 131) = u * 131 := w64 (by omega) (by omega)
      have f5 : wrap64 (v * 1117) = v * 1117 := w64 (by omega) (by omega)
      have f6 : wrap64 (p * 29) = p * 29 := w64 (by omega) (by omega)
      have f7 : wrap64 (d * 53) = d * 53 := w64 (by omega) (by omega)
      have f8 : wrap64 (u * 131 + v * 1117) = u * 131 + v * 1117 := w64 (by omega) (by omega)
      have f9 : wrap64 (u * 131 + v * 1117 + p * 29) = u * 131 + v * 1117 + p * 29 := w64 (by omega) (by omega)
      have f10 : wrap64 (u * 131 + v * 1117 + p * 29 + d * 53) = u * 131 + v * 1117 + p * 29 + d * 53 := w64 (by omega) (by omega)
      rw [f1, f2, f3, f4, f5, f6, f7, f8, f9, f10]
      generalize hX : u * 131 + v * 1117 + p * 29 + d * 53 = X
      have hX0 : 0 ≤ X := by omega
      have hX1 : X < 4611686018427387904 := by omega
      have g1 : Int.tdiv X 64 = X / 64 := Int.tdiv_eq_ediv_of_nonneg hX0
      rw [g1, w64 (by omega) (by omega)]
      have := tmod_lt (Go.bits .xor .i64 X (X / 64)) n (xor_pos X (X / 64) hX0 hX1 (by omega) (by omega)) (by omega)
      exact ⟨_, rfl, this.1, this.2⟩
theorem rd_mem (l : List Int) (i : Int) (h0 : 0 ≤ i) (h1 : i < l.length) : rd l i ∈ l := by
  obtain ⟨n, rfl⟩ := Int.eq_ofNat_of_zero_le h0
  rw [show ((n : Nat) : Int) = (n : Int) from rfl, rd_nat, List.getD_eq_getElem?_getD, List.getElem?_eq_getElem (by omega)]
  exact List.getElem_mem _
theorem open_some (l : List Int) (hl : ∀ x ∈ l, (Lit.int .u8 x).wf = true) : ∃ b, spec_l12Open.f l = some (b, 0) ∧ Code_ b := by
  have hw : ∀ x ∈ l, 0 ≤ x ∧ x ≤ 255 := fun x hx => by
    have := hl x hx
    simp [Lit.wf, IntKind.min, IntKind.max, IntKind.bits, IntKind.signed] at this
    omega
  have hr : ∀ m : List Int, (∀ x ∈ m, 0 ≤ x ∧ x ≤ 255) → ∀ i : Int, 0 ≤ rd m i ∧ rd m i ≤ 255 := fun m hm i => by
    unfold rd
    rw [List.getD_eq_getElem?_getD]
    cases h : m[i.toNat]? with
    | none => simp
    | some x => exact hm x (List.mem_of_getElem? h)
  unfold spec_l12Open.f
  by_cases h : (l.length : Int) > 2000
  · rw [if_pos h, if_pos (by omega)]
    exact ⟨_, rfl, ⟨by simp; omega, hr _ (fun x hx => hw x (List.mem_of_mem_take hx))⟩⟩
  · rw [if_neg h]
    exact ⟨_, rfl, ⟨by omega, hr _ hw⟩⟩

theorem num_some {b : List Int} (hb : Code_ b) (p : Int) (l : List Int) (hp : 0 ≤ p) (hp1 : p ≤ lim) (hl : 1 ≤ l.length) : ∃ v, spec_l12Rd_num.f b p l = some (v, p + 1) ∧ v ∈ l := by
  obtain ⟨v, hv, h0, h1⟩ := pick_some hb p l.length hp hp1 (by omega)
  refine ⟨rd l v, ?_, rd_mem l v h0 h1⟩
  unfold spec_l12Rd_num.f
  rw [hv]
  simp only [Option.bind_some]
  rw [if_pos h0, if_pos h1]

def drawnCell (x : Int) : Prop := -1 ≤ x ∧ x ≤ 5
theorem row_ev {b : List Int} (hb : Code_ b) (p : Int) (wide : Nat) (hp : 0 ≤ p) (hp1 : p + wide ≤ lim) : ∃ r : List Int, Ev (fun k => spec_l1Row.f k b p wide) (r, p + wide) ∧ r.length = wide ∧ ∀ x ∈ r, drawnCell x := by
  have hlim : lim = 1000000000 := rfl
  have go : ∀ (d i : Nat) (acc : List Int), i + d = wide → acc.length = i → (∀ x ∈ acc, drawnCell x) →
      ∃ r : List Int, Ev (fun k => spec_l1Row.l0 k wide acc i b (p + i)) (r, p + wide) ∧ r.length = wide ∧ ∀ x ∈ r, drawnCell x := by
    intro d
    induction d with
    | zero =>
      intro i acc hi ha hc
      obtain rfl : i = wide := by omega
      exact ⟨acc, Ev.step (fun k => spec_l1Row.l0.eq_2 ..) (ev_neg (by omega) (ev_now rfl)), ha, hc⟩
    | succ d ih =>
      intro i acc hi ha hc
      obtain ⟨v, hv, hm⟩ := num_some hb (p + i) [0, 1, 2, 3, 1, 2, -1, 5] (by omega) (by omega) (by decide)
      have hv2 : drawnCell v := by simp at hm; unfold drawnCell; omega
      obtain ⟨r, hr, h1, h2⟩ := ih (i + 1) (acc ++ [v]) (by omega) (by simp [ha]) (fun x hx => by
        rcases List.mem_append.1 hx with h | h
        · exact hc x h
        · simp at h; subst h; exact hv2)
      refine ⟨r, Ev.step (fun k => spec_l1Row.l0.eq_2 ..) (ev_pos (by omega) (ev_eq hv (ev_pos (by omega) ?_))), h1, h2⟩
      rw [w64n (by omega)]
      have e : p + (i : Int) + 1 = p + ((i + 1 : Nat) : Int) := by omega
      simp only [e]
      exact hr
  obtain ⟨r, hr, h1, h2⟩ := go wide 0 [] (by omega) rfl (by simp)
  refine ⟨r, ?_, h1, h2⟩
  unfold spec_l1Row.f
  simpa using hr

/-- what l1Bent draws -/
def bentCell (x : Int) : Prop := -1000000001 ≤ x ∧ x ≤ 1000000001
theorem bent_ev {b : List Int} (hb : Code_ b) (p : Int) (hp : 0 ≤ p) (hp1 : p + 20 ≤ lim) : ∃ (r : List Int) (q : Int), Ev (fun k => spec_l1Bent.f k b p) (r, q) ∧ p ≤ q ∧ q ≤ p + 20 ∧ r.length ≤ 7 ∧ ∀ x ∈ r, bentCell x := by
  have hlim : lim = 1000000000 := rfl
  have hd : ∀ x, drawnCell x → bentCell x := fun x h => by unfold drawnCell at h; unfold bentCell; omega
  obtain ⟨w, hw, w0, w1⟩ := pick_some hb p 4 hp (by omega) (by omega)
  obtain ⟨n, rfl⟩ := Int.eq_ofNat_of_zero_le w0
  obtain ⟨r, hr, r1, r2⟩ := row_ev hb (p + 1) (1 + n) (by omega) (by omega)
  have e1 : wrap64 (1 + (n : Int)) = ((1 + n : Nat) : Int) := by rw [w64 (by omega) (by omega)]; omega
  obtain ⟨c, hc, c0, c1⟩ := pick_some hb (p + 1 + ((1 + n : Nat) : Int)) 30 (by omega) (by omega) (by omega)
  have start : ∀ {r' : List Int} {q' : Int}, Ev (fun k => (spec_l12Rd_pick.f b (p + 1 + ((1 + n : Nat) : Int)) 30).bind fun z => (if z.1 = 0 then (some ((([] : List Int)), z.2)) else (if z.1 = 1 then ((spec_l12Rd_num.f b z.2 (([1000000000, 1000000001, (-1000000000), (-1000000001)] : List Int))).bind fun y => (if 0 < (r.length : Int) then (some ((r.set (0 : Int).toNat y.1), y.2)) else (none))) else (if z.1 = 2 then ((spec_l12Rd_num.f b z.2 (([6, 7] : List Int))).bind fun y => ((spec_l1Row.f k b y.2 y.1).bind fun u => (some (u.1, u.2)))) else (some (r, z.2)))))) (r', q') → Ev (fun k => spec_l1Bent.f k b p) (r', q') := by
    intro r' q' h
    unfold spec_l1Bent.f
    rw [hw]
    simp only [Option.bind_some, e1]
    exact hr.bind h
  rw [hc] at start
  simp only [Option.bind_some] at start
  by_cases h0 : c = 0
  · exact ⟨[], _, start (ev_pos h0 (ev_now rfl)), by omega, by omega, by simp, by simp⟩
  by_cases h1 : c = 1
  · obtain ⟨v, hv, hm⟩ := num_some hb (p + 1 + ((1 + n : Nat) : Int) + 1) [1000000000, 1000000001, -1000000000, -1000000001] (by omega) (by omega) (by decide)
    refine ⟨r.set 0 v, _, start (ev_neg h0 (ev_pos h1 (ev_eq hv (ev_pos (by omega) (ev_now rfl))))), by omega, by omega, by simp; omega, ?_⟩
    intro x hx
    rcases List.mem_or_eq_of_mem_set hx with h | h
    · exact hd x (r2 x h)
    · subst h; simp at hm; unfold bentCell; omega
  by_cases h2 : c = 2
  · obtain ⟨v, hv, hm⟩ := num_some hb (p + 1 + ((1 + n : Nat) : Int) + 1) [6, 7] (by omega) (by omega) (by decide)
    have hv7 : 0 ≤ v ∧ v ≤ 7 := by simp at hm; omega
    obtain ⟨m, rfl⟩ := Int.eq_ofNat_of_zero_le hv7.1
    obtain ⟨s, hs, s1, s2⟩ := row_ev hb (p + 1 + ((1 + n : Nat) : Int) + 1 + 1) m (by omega) (by omega)
    exact ⟨s, _, start (ev_neg h0 (ev_neg h1 (ev_pos h2 (ev_eq hv (Ev.bind hs (ev_now rfl)))))), by omega, by omega, by omega, fun x hx => hd x (s2 x hx)⟩
  · exact ⟨r, _, start (ev_neg h0 (ev_neg h1 (ev_neg h2 (ev_now rfl)))), by omega, by omega, by omega, fun x hx => hd x (r2 x hx)⟩

theorem specCopy (a : List Int) (ha : a.length < 17592186044416) : spec_l1Copy.f a = some a := by
  unfold spec_l1Copy.f
  simp only [Option.bind_some]
  rw [if_pos (by simp; omega)]
  simp
theorem specJoin (a b : List Int) (h : a.length + b.length < 17592186044416) : spec_RowJoin.f a b = some (a ++ b) := by
  unfold spec_RowJoin.f
  rw [specCopy a (by omega)]
  simp only [Option.bind_some]
  rw [if_pos h]

theorem two_ev (code : List Int) (hw : ∀ x ∈ code, (Lit.int .u8 x).wf = true) : ∃ a b : List Int, Ev (fun k => spec_l1Two.f k code) (a, b) ∧ a.length ≤ 7 ∧ b.length ≤ 7 := by
  have hlim : lim = 1000000000 := rfl
  obtain ⟨c, hc, hcode⟩ := open_some code hw
  obtain ⟨a, p, ha, p0, p1, la, _⟩ := bent_ev hcode 0 (by omega) (by omega)
  obtain ⟨u, hu, u0, u1⟩ := pick_some hcode p 4 (by omega) (by omega) (by omega)
  obtain ⟨b, q, hb, q0, q1, lb, _⟩ := bent_ev hcode (p + 1) (by omega) (by omega)
  obtain ⟨v, hv, v0, v1⟩ := pick_some hcode q 4 (by omega) (by omega) (by omega)
  unfold spec_l1Two.f
  by_cases h0 : u = 0
  · exact ⟨a, a, ev_eq hc (ha.bind (ev_eq hu (ev_pos h0 (ev_eq (specCopy a (by omega)) (ev_now rfl))))), la, la⟩
  by_cases h1 : v = 0
  · by_cases h2 : (a.length : Int) > 1
    · have e : wrap64 ((a.length : Int) - 1) = (a.length : Int) - 1 := w64 (by omega) (by omega)
      refine ⟨a, a.take ((a.length : Int) - 1).toNat, ev_eq hc (ha.bind (ev_eq hu (ev_neg h0 (hb.bind (ev_eq hv (ev_pos h1 (ev_pos h2 ?_))))))), la, by simp; omega⟩
      dsimp only
      rw [e]
      exact ev_pos (by omega) (ev_pos (by omega) (ev_now rfl))
    · exact ⟨a, b, ev_eq hc (ha.bind (ev_eq hu (ev_neg h0 (hb.bind (ev_eq hv (ev_pos h1 (ev_neg h2 (ev_now rfl)))))))), la, lb⟩
  · exact ⟨a, b, ev_eq hc (ha.bind (ev_eq hu (ev_neg h0 (hb.bind (ev_eq hv (ev_neg h1 (ev_now rfl))))))), la, lb⟩

theorem equal_ev (a b : List Int) (ha : a.length < 4611686018427387904) : Ev (fun k => slices_Equal_int_int.f k a b) (decide (a = b)) := by
  unfold slices_Equal_int_int.f
  by_cases hl : a.length = b.length
  · refine ev_pos (by omega) ?_
    have h := ev_down (fun k i => slices_Equal_int_int.l0 k a b (a.length : Int) (i : Int)) (fun i => decide (a.drop i = b.drop i)) a.length ?_ ?_ 0 (by omega)
    · simpa using h
    · refine Ev.step (fun k => slices_Equal_int_int.l0.eq_2 ..) (ev_neg (by omega) (ev_now ?_))
      rw [drop_end a _ (Nat.le_refl _), drop_end b _ (by omega)]; simp
    · intro i hi ih
      refine Ev.step (fun k => slices_Equal_int_int.l0.eq_2 ..) (ev_pos (by omega) (ev_pos (by omega) (ev_pos (by omega) (ev_pos (by omega) ?_))))
      rw [drop_rd a i hi, drop_rd b i (by omega)]
      by_cases h1 : rd a i = rd b i
      · refine ev_pos h1 ?_
        rw [w64n (by omega)]
        simpa [h1] using ih
      · exact ev_neg h1 (ev_now (by simp [h1]))
  · exact ev_neg (by omega) (ev_now (by symm; rw [decide_eq_false_iff_not]; intro h; exact hl (by rw [h])))

theorem implSame_ev (a b : List Int) (ha : a.length < 4611686018427387904) : Ev (fun k => impl_RowSame.f k a b) (decide (a = b)) := by
  unfold impl_RowSame.f
  exact (equal_ev a b ha).bind (ev_now rfl)

theorem implJoin_ev (a b : List Int) (h : a.length + b.length < 17592186044416) : Ev (fun k => impl_RowJoin.f k a b) (a ++ b) := by
  have r0 : rd_L1 [a, b] 0 = a := rfl
  have r1 : rd_L1 [a, b] 1 = b := rfl
  have w1 : wrap64 (0 + (a.length : Int)) = a.length := by rw [w64 (by omega) (by omega)]; omega
  have w2 : wrap64 ((a.length : Int) + b.length) = a.length + b.length := w64 (by omega) (by omega)
  have c1 : wrap64 (0 + 1) = 1 := w64 (by omega) (by omega)
  have c2 : wrap64 (1 + 1) = 2 := w64 (by omega) (by omega)
  have main : Ev (fun k => slices_Concat_int_int.f k [a, b]) (a ++ b) := by
    unfold slices_Concat_int_int.f
    refine Ev.step (fun k => slices_Concat_int_int.l0.eq_2 ..) (ev_pos (by simp) (ev_pos (by omega) (ev_pos (by simp) ?_)))
    rw [r0, w1, c1]
    refine ev_neg (by omega) (Ev.step (fun k => slices_Concat_int_int.l0.eq_2 ..) (ev_pos (by simp) (ev_pos (by omega) (ev_pos (by simp) ?_))))
    rw [r1, w2, c2]
    have g : slices_Grow_int_int__nil.f ((a.length : Int) + b.length) = some [] := by
      unfold slices_Grow_int_int__nil.f
      rw [if_pos (by omega), if_pos (by omega)]
    refine ev_neg (by omega) (Ev.step (fun k => slices_Concat_int_int.l0.eq_2 ..) (ev_neg (by simp) (ev_eq g ?_)))
    refine Ev.step (fun k => slices_Concat_int_int.l1.eq_2 ..) (ev_pos (by simp) (ev_pos (by omega) (ev_pos (by simp) ?_)))
    rw [r0, c1]
    refine ev_pos (by simp; omega) (Ev.step (fun k => slices_Concat_int_int.l1.eq_2 ..) (ev_pos (by simp) (ev_pos (by omega) (ev_pos (by simp) ?_))))
    rw [r1, c2]
    exact ev_pos (by simp; omega) (Ev.step (fun k => slices_Concat_int_int.l1.eq_2 ..) (ev_neg (by simp) (ev_now (by simp))))
  unfold impl_RowJoin.f
  exact main.bind (ev_now rfl)

theorem FnRowJoin : laws_FnRowJoin.Pure := by
  intro code more _ _ hw _ _ hm
  refine Ev.rounds ?_
  unfold laws_FnRowJoin.f
  by_cases h1 : (code.length : Int) > 1048576
  · exact ev_pos h1 (ev_now rfl)
  refine ev_neg h1 ?_
  by_cases h2 : (more.length : Int) > 1048576
  · exact ev_pos h2 (ev_now rfl)
  refine ev_neg h2 ?_
  obtain ⟨a, b, hab, la, lb⟩ := two_ev code hw
  obtain ⟨c, d, hcd, lc, ld⟩ := two_ev more hm
  have da : Ev (fun k => spec_DrawRowJoin.f k code) (a, b) := by
    unfold spec_DrawRowJoin.f
    exact hab.bind (ev_now rfl)
  have dc : Ev (fun k => spec_DrawRowJoin.f k more) (c, d) := by
    unfold spec_DrawRowJoin.f
    exact hcd.bind (ev_now rfl)
  have lab : (a ++ b).length = a.length + b.length := by simp
  have lbc : (b ++ c).length = b.length + c.length := by simp
  refine da.bind (dc.bind ((implJoin_ev a b (by omega)).bind (ev_eq (specJoin a b (by omega)) ((implSame_ev (a ++ b) (a ++ b) (by omega)).bind (ev_pos (by simp) ?_)))))
  refine (implJoin_ev (a ++ b) c (by omega)).bind ((implJoin_ev b c (by omega)).bind ((implJoin_ev a (b ++ c) (by omega)).bind ((implSame_ev (a ++ b ++ c) (a ++ (b ++ c)) (by simp; omega)).bind (ev_pos (by simp) ?_))))
  by_cases e1 : (a.length : Int) = (c.length : Int)
  · refine ev_pos e1 ?_
    by_cases e2 : (b.length : Int) = (d.length : Int)
    · refine ev_pos e2 ((implJoin_ev c d (by omega)).bind ((implSame_ev (a ++ b) (c ++ d) (by omega)).bind ((implSame_ev a c (by omega)).bind ?_)))
      have hj : a ++ b = c ++ d ↔ a = c ∧ b = d := by
        constructor
        · intro h; exact List.append_inj h (by omega)
        · intro h; rw [h.1, h.2]
      by_cases h : a = c
      · refine ev_pos (decide_eq_true h) ((implSame_ev b d (by omega)).bind (ev_now ?_))
        rw [beq_iff_eq, decide_eq_decide, hj]
        simp [h]
      · refine ev_neg (by simpa using h) (ev_now ?_)
        rw [beq_iff_eq, decide_eq_false_iff_not, hj]
        simp [h]
    · exact ev_neg e2 (ev_now rfl)
  · exact ev_neg e1 (ev_now rfl)

end Go.Proofs.Ytjajepomgbpjpaa.Pure
