/- The width of a part by those under it, for each of the kinds. The program's wideOf returns the width that its telling in Lean says, for each plan. The program's impl.PlanWide at every plan. The given specification's l4Many counts a plan's parts down to a depth. The given specification's l4Clean at every plan. -/
import Derived.Test.YtlpgnkndjmfcjaaGreatPlWide
namespace Go.Proofs.YtlpgnkndjmfcjaaGreat.PFnPlanUses
open Go.RowKit Go.Proofs.YtlpgnkndjmfcjaaGreatW.PrintWords Go.Proofs.YtlpgnkndjmfcjaaGreatW.PrintLast Go.Proofs.YtlpgnkndjmfcjaaGreatW.PrintMore
attribute [local go_sem] max2_int min2_int max_two min_two max_three min_three max_four min_four   -- for this text's walks alone
set_option linter.unusedVariables false
set_option linter.unusedSimpArgs false
namespace Pl
/-- How wide a part is, by how wide those under it are (a table's: of how wide the tables are). -/
def rawW (x : S39) (ws : List Int) : Int :=
  if x.f0 = 1 then tableW x.f1 ws
  else if x.f0 = 2 then ifW (testB' x.f2 (rd ws 0)) (rd ws 0)
  else if x.f0 = 3 then ifW (cellsB x.f3 (rd ws 0)) (x.f3.length : Int)
  else if x.f0 = 4 then ifW (colB x.f4 (rd ws 0) && colB x.f5 (rd ws 1)) (wrap64 (rd ws 0 + rd ws 1))
  else if x.f0 = 5 then ifW (decide (rd ws 0 = rd ws 1)) (rd ws 0)
  else if x.f0 = 6 then rd ws 0
  else ifW (decide (0 ≤ x.f7) && decide (x.f7 ≤ 3) && keysB x.f6 (rd ws 0) && colB x.f8 (rd ws 0)) ((x.f6.length : Int) + 1)
/-- The cells of a row that is one's own. -/
theorem own_at {W : World} {base : Nat} {ok : Nat → Prop} {v : Value} {ws : List Int} (h : Kd.R (Kd.int .i64) 3 W base ok v ws) (hn : 1 ≤ ws.length) :
    ∃ gk c, v = .slice (some ⟨gk, 0, none⟩) ws.length c ∧ ∀ i, i < ws.length → W.cell? ⟨gk, i, none⟩ = some (.int .i64 (rd ws i)) := by
  obtain ⟨A, c, he, hc, hr⟩ := Kd.R_reads h
  obtain ⟨inner, h1, h2⟩ := Kd.R_own h
  rcases h2 with ⟨_, h3⟩ | ⟨g, cap, cur, h3, _⟩
  · omega
  · rw [he] at h3
    injection h3 with h4 h5 h6
    subst h4
    refine ⟨g, c, he, fun i hi => ?_⟩
    obtain ⟨ad, e, hq⟩ := ints_at hr hi
    injection e with e
    subst e
    have e2 : (⟨g, 0, none⟩ : Addr).add i = ⟨g, i, none⟩ := by
      unfold Addr.add
      by_cases h0 : i = 0 <;> simp [h0]
    rw [e2] at hq
    exact hq
structure WideK (x : S39) (T FW : Nat) : Prop where
  part : partV x.f0 = some (.iface T (.agg #[]))
  meth : ∀ W, (method 246 T (.agg #[]) "loop.example/milldam/impl.wide").run Tryz.prog W = .ok (FW, .agg #[]) W
  call : ∀ vs W, (callFunc FW vs).run Tryz.prog W = .ok (.enter FW vs) W
  wide : ∀ (cs : List Value) (W : World) (v : Value) (base : Nat) (ok : Nat → Prop) (ws : List Int), k39.K W x cs → Kd.R (Kd.int .i64) 3 W base ok v ws → ws.length = x.f9.length →
    Calls Tryz.prog FW #[.agg #[], .agg cs.toArray, v] W fun e w' => e = .returned (.int .i64 (rawW x ws)) ∧ Below W.heap.size W w'
theorem shB_len {x : S39} {n : Nat} {onl : S39 → S39} (h : shB x n onl = true) : x.f9.length = n := by
  unfold shB at h
  simp only [Bool.and_eq_true, decide_eq_true_eq] at h
  exact h.1
theorem tableWide_c (x : S39) (cs : List Value) (w : World) (hK : k39.K w x cs) (A : Option Addr) (l : List Int) (c : Nat) (hr : Kd.C (Kd.int .i64) w A l.length l) (hl : l.length ≤ 1048576) (hn : 0 < l.length) :
    Calls Tryz.prog 88 #[.agg #[], .agg cs.toArray, .slice A l.length c] w fun e w' => e = .returned (.int .i64 (tableW x.f1 l)) ∧ Below w.heap.size w w' := by
  by_cases h1 : x.f1 < 0
  · exact tableAWide_c x cs w hK A l c hr hl hn h1
  by_cases h2 : x.f1 = 0
  · exact tableBWide_c x cs w hK A l c hr hl hn h2
  by_cases h3 : x.f1 < l.length
  · exact tableCWide_c x cs w hK A l c hr hl hn (by omega) h3
  by_cases h4 : l.length = 1
  · exact tableDWide_c x cs w hK A l c hr hl hn h4 (by omega)
  · exact tableEWide_c x cs w hK A l c hr hl hn (by omega) (by omega)
theorem wideK (x : S39) (h : shapedB x = true) (h1 : x.f0 ≠ 1) (hsm : Small39 x) : 1 ≤ x.f9.length ∧ ∃ T FW, WideK x T FW := by
  unfold shapedB at h
  rw [if_neg h1] at h
  by_cases h2 : x.f0 = 2
  · rw [if_pos h2] at h
    have hl := shB_len h
    refine ⟨by omega, 93, 93, by unfold partV; rw [if_neg h1]; rw [if_pos h2], fun _ => by kernel_rfl, enters_v Tryz.func93 (by kernel_rfl) rfl, ?_⟩
    intro cs W v base ok ws hK hR hw
    obtain ⟨gk, c, rfl, hq⟩ := own_at hR (by omega)
    have q0 := hq 0 (by omega)
    unfold rawW
    rw [if_neg h1]; rw [if_pos h2]
    exact whereWide_c x cs W hK gk _ c (rd ws 0) (by omega) q0
  rw [if_neg h2] at h
  by_cases h3 : x.f0 = 3
  · rw [if_pos h3] at h
    have hl := shB_len h
    refine ⟨by omega, 94, 101, by unfold partV; rw [if_neg h1]; rw [if_neg h2]; rw [if_pos h3], fun _ => by kernel_rfl, enters_v Tryz.func101 (by kernel_rfl) rfl, ?_⟩
    intro cs W v base ok ws hK hR hw
    obtain ⟨gk, c, rfl, hq⟩ := own_at hR (by omega)
    have q0 := hq 0 (by omega)
    unfold rawW
    rw [if_neg h1]; rw [if_neg h2]; rw [if_pos h3]
    exact mapWide_c x cs W hK gk _ c (rd ws 0) (by omega) q0 hsm.out.1
  rw [if_neg h3] at h
  by_cases h4 : x.f0 = 4
  · rw [if_pos h4] at h
    have hl := shB_len h
    refine ⟨by omega, 95, 109, by unfold partV; rw [if_neg h1]; rw [if_neg h2]; rw [if_neg h3]; rw [if_pos h4], fun _ => by kernel_rfl, enters_v Tryz.func109 (by kernel_rfl) rfl, ?_⟩
    intro cs W v base ok ws hK hR hw
    obtain ⟨gk, c, rfl, hq⟩ := own_at hR (by omega)
    have q0 := hq 0 (by omega)
    have q1 := hq 1 (by omega)
    unfold rawW
    rw [if_neg h1]; rw [if_neg h2]; rw [if_neg h3]; rw [if_pos h4]
    by_cases hc : colB x.f4 (rd ws 0) = true
    · rw [hc, Bool.true_and]
      exact joinTWide_c x cs W hK gk _ c (rd ws 0) (rd ws 1) (by omega) q0 q1 hc
    · have hc' : colB x.f4 (rd ws 0) = false := by simpa using hc
      rw [hc', Bool.false_and]
      exact joinFWide_c x cs W hK gk _ c (rd ws 0) (rd ws 1) (by omega) q0 q1 hc'
  rw [if_neg h4] at h
  by_cases h5 : x.f0 = 5
  · rw [if_pos h5] at h
    have hl := shB_len h
    refine ⟨by omega, 96, 115, by unfold partV; rw [if_neg h1]; rw [if_neg h2]; rw [if_neg h3]; rw [if_neg h4]; rw [if_pos h5], fun _ => by kernel_rfl, enters_v Tryz.func115 (by kernel_rfl) rfl, ?_⟩
    intro cs W v base ok ws hK hR hw
    obtain ⟨gk, c, rfl, hq⟩ := own_at hR (by omega)
    have q0 := hq 0 (by omega)
    have q1 := hq 1 (by omega)
    unfold rawW
    rw [if_neg h1]; rw [if_neg h2]; rw [if_neg h3]; rw [if_neg h4]; rw [if_pos h5]
    exact bothWide_c x cs W hK gk _ c (rd ws 0) (rd ws 1) (by omega) q0 q1
  rw [if_neg h5] at h
  by_cases h6 : x.f0 = 6
  · rw [if_pos h6] at h
    have hl := shB_len h
    refine ⟨by omega, 97, 120, by unfold partV; rw [if_neg h1]; rw [if_neg h2]; rw [if_neg h3]; rw [if_neg h4]; rw [if_neg h5]; rw [if_pos h6], fun _ => by kernel_rfl, enters_v Tryz.func120 (by kernel_rfl) rfl, ?_⟩
    intro cs W v base ok ws hK hR hw
    obtain ⟨gk, c, rfl, hq⟩ := own_at hR (by omega)
    have q0 := hq 0 (by omega)
    unfold rawW
    rw [if_neg h1]; rw [if_neg h2]; rw [if_neg h3]; rw [if_neg h4]; rw [if_neg h5]; rw [if_pos h6]
    exact onceWide_c x cs W hK gk _ c (rd ws 0) (by omega) q0
  rw [if_neg h6] at h
  by_cases h7 : x.f0 = 7
  · rw [if_pos h7] at h
    have hl := shB_len h
    refine ⟨by omega, 98, 125, by unfold partV; rw [if_neg h1]; rw [if_neg h2]; rw [if_neg h3]; rw [if_neg h4]; rw [if_neg h5]; rw [if_neg h6]; rw [if_pos h7], fun _ => by kernel_rfl, enters_v Tryz.func125 (by kernel_rfl) rfl, ?_⟩
    intro cs W v base ok ws hK hR hw
    obtain ⟨gk, c, rfl, hq⟩ := own_at hR (by omega)
    have q0 := hq 0 (by omega)
    unfold rawW
    rw [if_neg h1]; rw [if_neg h2]; rw [if_neg h3]; rw [if_neg h4]; rw [if_neg h5]; rw [if_neg h6]
    by_cases a : 0 ≤ x.f7
    rotate_left
    · rw [show decide (0 ≤ x.f7) = false by simpa using a, Bool.false_and, Bool.false_and, Bool.false_and]
      exact groupAWide_c x cs W hK gk _ c (rd ws 0) (by omega) q0 hsm.out.2.1 (by omega)
    rw [decide_eq_true a, Bool.true_and]
    by_cases b : x.f7 ≤ 3
    rotate_left
    · rw [decide_eq_false b, Bool.false_and, Bool.false_and]
      exact groupBWide_c x cs W hK gk _ c (rd ws 0) (by omega) q0 hsm.out.2.1 a (by omega)
    rw [decide_eq_true b, Bool.true_and]
    by_cases d : keysB x.f6 (rd ws 0) = true
    · rw [d, Bool.true_and]
      exact groupDWide_c x cs W hK gk _ c (rd ws 0) (by omega) q0 hsm.out.2.1 a b d
    · have d' : keysB x.f6 (rd ws 0) = false := by simpa using d
      rw [d', Bool.false_and]
      exact groupCWide_c x cs W hK gk _ c (rd ws 0) (by omega) q0 hsm.out.2.1 a b d'
  rw [if_neg h7] at h
  cases h
end Pl
namespace Pl
mutual
/-- wideOf: g tells what a part counts as, t how wide the tables are. -/
noncomputable def wideF (g : Int → Int) (t : List Int) : S39 → Int
  | ⟨a, b, ts, cells, c, d, keys, e, f, ks⟩ =>
    if shapedB ⟨a, b, ts, cells, c, d, keys, e, f, ks⟩ = true then
      (if a = 1 then (if t.length = 0 then -1 else g (rawW ⟨a, b, ts, cells, c, d, keys, e, f, ks⟩ t))
      else match wideFs g t ks with
        | none => -1
        | some ws => g (rawW ⟨a, b, ts, cells, c, d, keys, e, f, ks⟩ ws))
    else -1
noncomputable def wideFs (g : Int → Int) (t : List Int) : List S39 → Option (List Int)
  | [] => some []
  | k :: ks => if wideF g t k = -1 then none else (wideFs g t ks).map (fun ws => wideF g t k :: ws)
end
theorem wideF_eq (g : Int → Int) (t : List Int) (x : S39) : wideF g t x = if shapedB x = true then (if x.f0 = 1 then (if t.length = 0 then -1 else g (rawW x t)) else match wideFs g t x.f9 with | none => -1 | some ws => g (rawW x ws)) else -1 := by
  cases x; rfl
theorem wideF_no {g : Int → Int} {t : List Int} {x : S39} (h : shapedB x = false) : wideF g t x = -1 := by rw [wideF_eq, if_neg (by rw [h]; simp)]
theorem wideF_tab0 {g : Int → Int} {t : List Int} {x : S39} (h : shapedB x = true) (h1 : x.f0 = 1) (h2 : t.length = 0) : wideF g t x = -1 := by rw [wideF_eq, if_pos h, if_pos h1, if_pos h2]
theorem wideF_tab {g : Int → Int} {t : List Int} {x : S39} (h : shapedB x = true) (h1 : x.f0 = 1) (h2 : ¬ t.length = 0) : wideF g t x = g (rawW x t) := by rw [wideF_eq, if_pos h, if_pos h1, if_neg h2]
theorem wideF_none {g : Int → Int} {t : List Int} {x : S39} (h1 : ¬ x.f0 = 1) (h2 : wideFs g t x.f9 = none) : wideF g t x = -1 := by
  rw [wideF_eq, if_neg h1, h2]; split <;> rfl
theorem wideF_some {g : Int → Int} {t : List Int} {x : S39} {ws : List Int} (h : shapedB x = true) (h1 : ¬ x.f0 = 1) (h2 : wideFs g t x.f9 = some ws) : wideF g t x = g (rawW x ws) := by
  rw [wideF_eq, if_pos h, if_neg h1, h2]
theorem wideFs_drop (g : Int → Int) (t : List Int) (ks : List S39) (i : Nat) (h : i < ks.length) : wideFs g t (ks.drop i) = if wideF g t ks[i] = -1 then none else (wideFs g t (ks.drop (i + 1))).map (fun ws => wideF g t ks[i] :: ws) := by
  rw [List.drop_eq_getElem_cons h, wideFs]
theorem wideFs_end (g : Int → Int) (t : List Int) (ks : List S39) (i : Nat) (h : ks.length ≤ i) : wideFs g t (ks.drop i) = some [] := by
  rw [List.drop_eq_nil_of_le h, wideFs]
section
variable {P : Program} {ops : Array Oper} {Q : Exit → Act → World → Prop} {K : Act → World → Prop}
/-- A call through a value that holds a function, as one step of a region that draws. -/
theorem zFn_ {oi : Oper} {N : Option Tmp} {a : Act} {W : World} {t : Operand} {xs : Array Operand} {ts : Array TypeId} {f : FuncId} {args : Array Value} (hw : Region.wanted oi (yielded ops a.tmps) = true) (hN : oi.dst = N)
    (hop : oi.op = .call { callee := .value t, args := xs, argTypes := ts }) (ht : a.eval t = .func (.func f) #[] #[]) (hc : ∀ vs W, (callFunc f vs).run P W = .ok (.enter f vs) W) (hargs : xs.map a.eval = args)
    (h : Calls P f args W fun e w' => ∃ v, e = .returned v ∧ K (a.put N v) w') : if Region.wanted oi (yielded ops a.tmps) = true then Oper.wp P oi a W K Q else K (a.put N undef) W := by
  refine call_ f args hw hN ?_ h
  have h1 : args ++ #[] = args := by simp
  unfold execOp
  simp [hop, resolve, Deferred.ofValue, invoke, ht, hargs, hc]
end
def WoP (KF : Nat) (g : Int → Int) (N : Nat) : Prop := ∀ (x : S39) (cs : List Value) (A : Option Addr) (c : Nat) (t : List Int) (w : World), sz39 x ≤ N → k39.K w x cs → Small39 x → Kd.C (Kd.int .i64) w A t.length t → t.length ≤ c → t.length ≤ 1048576 →
  Calls Tryz.prog 35 #[.agg cs.toArray, .slice A t.length c, .func (.func KF) #[] #[]] w fun e w' => e = .returned (.int .i64 (wideF g t x)) ∧ Below w.heap.size w w'

set_option maxHeartbeats 8000000 in
set_option maxRecDepth 100000 in
theorem wideOf_no (KF : Nat) (g : Int → Int) (hcF : ∀ vs W, (callFunc KF vs).run Tryz.prog W = .ok (.enter KF vs) W) (hF : ∀ v W, Calls Tryz.prog KF #[.int .i64 v] W fun e w' => e = .returned (.int .i64 (g v)) ∧ Below W.heap.size W w')
    (x : S39) (cs : List Value) (A : Option Addr) (c : Nat) (t : List Int) (w : World) (hK : k39.K w x cs) (hsm : Small39 x) (hr : Kd.C (Kd.int .i64) w A t.length t) (hc : t.length ≤ c) (hl : t.length ≤ 1048576) (hs : shapedB x = false) :
    Calls Tryz.prog 35 #[.agg cs.toArray, .slice A t.length c, .func (.func KF) #[] #[]] w fun e w' => e = .returned (.int .i64 (wideF g t x)) ∧ Below w.heap.size w w' := by
  have LC := Aside0.mk (show cs.length = 19 from k39.K_len hK)
  obtain ⟨A12, c12, A15, c15, A18, c18, hcs, l12, g12, l15, g15, l18, g18⟩ := k39_open hK
  have E0 := Aside0.mk (show cs[0]? = some (.int .i64 x.f0) by rw [hcs]; rfl)
  have E18 := Aside0.mk (show cs[18]? = some (.slice A18 x.f9.length c18) by rw [hcs]; rfl)
  have G18 := Aside0.mk g18
  have HK := Aside0.mk hK
  have SM := Aside0.mk hsm
  have HC := Aside0.mk hr
  have HF := Aside0.mk hF
  have SH := Aside0.mk (fun (W : World) (hb : Below w.heap.size w W) => shaped_c x cs W (k39.K_below hb hK) hsm)

  have HS := Aside0.mk hs
  have VV := Aside0.mk (wideF_no (g := g) (t := t) hs)
  clear hcs l12 g12 l15 g15 l18 g18 hK hsm hr hF hs
  go_enter Tryz.func35, Tryz.ntmps35
  go_wp2_with (first
    | ((with_reducible refine gate_dst (N := 3) rfl ?_); refine box_ 39 (.tmp 0) rfl rfl cs.toArray rfl ?_; intro gb hg w1 hb hB; have X1 := Aside0.mk hb; have q0 := (blk_cell hb 0).trans (by simpa using E0.out); have B1 := Aside0.mk hB; clear hb hB hg)
    | ((with_reducible refine gate_dst (N := 11) rfl ?_); refine loadVar_ 39 (.tmp 3) rfl rfl gb ?hx cs _ Tryz.underlying39 ?hi _ X1.out ?_; (case hx => first | rfl | (go_simp; done) | (go_simp; rfl)); (case hi => rw [LC.out]; kernel_rfl))
    | (go_at_call 47; refine (SH.out _ B1.out).mono ?_; rw [HS.out]; rintro e w2 ⟨rfl, hB⟩; have X2 := Aside0.mk ((hB.block _ (blk_lt X1.out)).trans X1.out); have B2 := Aside0.mk (below_step B1.out hB); have p0 := zhs hB q0; have p18 := (blk_cell X2.out 18).trans (by simpa using E18.out); clear hB q0 X1 B1))

  go_ret
  exact ⟨by rw [VV.out]; rfl, B2.out⟩
set_option maxHeartbeats 8000000 in
set_option maxRecDepth 100000 in
theorem wideOf_table0 (KF : Nat) (g : Int → Int) (hcF : ∀ vs W, (callFunc KF vs).run Tryz.prog W = .ok (.enter KF vs) W) (hF : ∀ v W, Calls Tryz.prog KF #[.int .i64 v] W fun e w' => e = .returned (.int .i64 (g v)) ∧ Below W.heap.size W w')
    (x : S39) (cs : List Value) (A : Option Addr) (c : Nat) (t : List Int) (w : World) (hK : k39.K w x cs) (hsm : Small39 x) (hr : Kd.C (Kd.int .i64) w A t.length t) (hc : t.length ≤ c) (hl : t.length ≤ 1048576) (hs : shapedB x = true) (h1 : x.f0 = 1) (ht : t.length = 0) :
    Calls Tryz.prog 35 #[.agg cs.toArray, .slice A t.length c, .func (.func KF) #[] #[]] w fun e w' => e = .returned (.int .i64 (wideF g t x)) ∧ Below w.heap.size w w' := by
  have LC := Aside0.mk (show cs.length = 19 from k39.K_len hK)
  obtain ⟨A12, c12, A15, c15, A18, c18, hcs, l12, g12, l15, g15, l18, g18⟩ := k39_open hK
  have E0 := Aside0.mk (show cs[0]? = some (.int .i64 x.f0) by rw [hcs]; rfl)
  have E18 := Aside0.mk (show cs[18]? = some (.slice A18 x.f9.length c18) by rw [hcs]; rfl)
  have G18 := Aside0.mk g18
  have HK := Aside0.mk hK
  have SM := Aside0.mk hsm
  have HC := Aside0.mk hr
  have HF := Aside0.mk hF
  have SH := Aside0.mk (fun (W : World) (hb : Below w.heap.size w W) => shaped_c x cs W (k39.K_below hb hK) hsm)

  have HS := Aside0.mk hs
  have VV := Aside0.mk (wideF_tab0 (g := g) hs h1 ht)
  have b1 : (x.f0 != 1) = false := by simpa using h1
  clear hcs l12 g12 l15 g15 l18 g18 hK hsm hr hF hs h1
  go_enter Tryz.func35, Tryz.ntmps35
  go_wp2_with (first
    | ((with_reducible refine gate_dst (N := 3) rfl ?_); refine box_ 39 (.tmp 0) rfl rfl cs.toArray rfl ?_; intro gb hg w1 hb hB; have X1 := Aside0.mk hb; have q0 := (blk_cell hb 0).trans (by simpa using E0.out); have B1 := Aside0.mk hB; clear hb hB hg)
    | ((with_reducible refine gate_dst (N := 11) rfl ?_); refine loadVar_ 39 (.tmp 3) rfl rfl gb ?hx cs _ Tryz.underlying39 ?hi _ X1.out ?_; (case hx => first | rfl | (go_simp; done) | (go_simp; rfl)); (case hi => rw [LC.out]; kernel_rfl))
    | (go_at_call 47; refine (SH.out _ B1.out).mono ?_; rw [HS.out]; rintro e w2 ⟨rfl, hB⟩; have X2 := Aside0.mk ((hB.block _ (blk_lt X1.out)).trans X1.out); have B2 := Aside0.mk (below_step B1.out hB); have p0 := zhs hB q0; have p18 := (blk_cell X2.out 18).trans (by simpa using E18.out); clear hB q0 X1 B1))

  go_ret
  exact ⟨by rw [VV.out]; rfl, B2.out⟩
set_option maxHeartbeats 8000000 in
set_option maxRecDepth 100000 in
theorem wideOf_table (KF : Nat) (g : Int → Int) (hcF : ∀ vs W, (callFunc KF vs).run Tryz.prog W = .ok (.enter KF vs) W) (hF : ∀ v W, Calls Tryz.prog KF #[.int .i64 v] W fun e w' => e = .returned (.int .i64 (g v)) ∧ Below W.heap.size W w')
    (x : S39) (cs : List Value) (A : Option Addr) (c : Nat) (t : List Int) (w : World) (hK : k39.K w x cs) (hsm : Small39 x) (hr : Kd.C (Kd.int .i64) w A t.length t) (hc : t.length ≤ c) (hl : t.length ≤ 1048576) (hs : shapedB x = true) (h1 : x.f0 = 1) (ht : ¬ t.length = 0) :
    Calls Tryz.prog 35 #[.agg cs.toArray, .slice A t.length c, .func (.func KF) #[] #[]] w fun e w' => e = .returned (.int .i64 (wideF g t x)) ∧ Below w.heap.size w w' := by
  have LC := Aside0.mk (show cs.length = 19 from k39.K_len hK)
  obtain ⟨A12, c12, A15, c15, A18, c18, hcs, l12, g12, l15, g15, l18, g18⟩ := k39_open hK
  have E0 := Aside0.mk (show cs[0]? = some (.int .i64 x.f0) by rw [hcs]; rfl)
  have E18 := Aside0.mk (show cs[18]? = some (.slice A18 x.f9.length c18) by rw [hcs]; rfl)
  have G18 := Aside0.mk g18
  have HK := Aside0.mk hK
  have SM := Aside0.mk hsm
  have HC := Aside0.mk hr
  have HF := Aside0.mk hF
  have SH := Aside0.mk (fun (W : World) (hb : Below w.heap.size w W) => shaped_c x cs W (k39.K_below hb hK) hsm)

  have HS := Aside0.mk hs
  have VV := Aside0.mk (wideF_tab (g := g) hs h1 ht)
  have KP := Aside0.mk (show partV x.f0 = some (.iface 92 (.agg #[])) by unfold partV; rw [if_pos h1])
  have RW := Aside0.mk (show rawW x t = tableW x.f1 t by unfold rawW; rw [if_pos h1])
  have b1 : (x.f0 != 1) = false := by simpa using h1
  obtain ⟨T, hT⟩ : ∃ T, T = 92 := ⟨_, rfl⟩
  have hmw : ∀ W, (method 246 T (.agg #[]) "loop.example/milldam/impl.wide").run Tryz.prog W = .ok (88, .agg #[]) W := by subst hT; exact fun _ => by kernel_rfl
  have hcw := enters_v (P := Tryz.prog) Tryz.func88 (by kernel_rfl) rfl
  rw [← hT] at KP
  clear hT
  clear hcs l12 g12 l15 g15 l18 g18 hK hsm hr hF hs h1
  go_enter Tryz.func35, Tryz.ntmps35
  go_wp2_with (first
    | ((with_reducible refine gate_dst (N := 3) rfl ?_); refine box_ 39 (.tmp 0) rfl rfl cs.toArray rfl ?_; intro gb hg w1 hb hB; have X1 := Aside0.mk hb; have q0 := (blk_cell hb 0).trans (by simpa using E0.out); have B1 := Aside0.mk hB; clear hb hB hg)
    | ((with_reducible refine gate_dst (N := 11) rfl ?_); refine loadVar_ 39 (.tmp 3) rfl rfl gb ?hx cs _ Tryz.underlying39 ?hi _ X1.out ?_; (case hx => first | rfl | (go_simp; done) | (go_simp; rfl)); (case hi => rw [LC.out]; kernel_rfl))
    | (go_at_call 47; refine (SH.out _ B1.out).mono ?_; rw [HS.out]; rintro e w2 ⟨rfl, hB⟩; have X2 := Aside0.mk ((hB.block _ (blk_lt X1.out)).trans X1.out); have B2 := Aside0.mk (below_step B1.out hB); have p0 := zhs hB q0; have p18 := (blk_cell X2.out 18).trans (by simpa using E18.out); clear hB q0 X1 B1))

  refine start_ (n := 10) (S := fun w' => w'.heap[gb]? = some (.cells cs.toArray 39 (0, 0)) ∧ w'.cell? ⟨gb, 0, none⟩ = some (.int .i64 x.f0) ∧ Below w.heap.size w w') (ds := []) (zm 10 0) (by kernel_rfl) rfl rfl ⟨X2.out, (cell_of_range X2.out E0.out), (below_drew B2.out)⟩ (fun hHeld => ?_)
  refine zpk 0 39 10 1 ?_
  refine zpk 2 41 10 5 ?_
  refine zpk 6 45 10 69 ?_
  refine ztk 3 42 10 77 ?_
  refine take_ (i := 5) (N := some 44) (v := _) (a' := ?_) (zm 10 109) rfl rfl (by kernel_rfl) (fun _ _ _ h => h) (yieldsIf_load_mid (by rfl) 39 (.tmp 3) rfl gb 0 rfl cs _ (fun W h => range_ h.1) Tryz.underlying39 rfl (by rw [LC.out]; kernel_rfl)) hHeld ?_ ?_
  rotate_left
  · simp only [Act.put, List.setIfInBounds_toArray, List.set_cons_zero, List.set_cons_succ, i64_w, i32_w]
    rfl
  refine one_ (i := 1) (N := some 40) (zm 10 111) rfl rfl (by kernel_rfl) (by decide) (fun K hK => ?_)
  refine goes_ Tryz.func48 (by kernel_rfl) rfl #[] (by rfl) rfl rfl (by simp only [List.map_toArray, List.map_nil]) ?_
  refine (parts_c _).mono ?_
  rintro e w9 ⟨b, rfl, hm, hb⟩
  refine ⟨_, rfl, ?_⟩
  have HM := Aside0.mk hm
  clear hm
  refine hK.out _ _ ⟨((hb.block _ (blk_lt hHeld.1)).trans hHeld.1), (pw_cell_below hb hHeld.2.1), (below_step hHeld.2.2 hb)⟩ (fun hHeld => ?_)
  clear hK K
  refine norm_ (a' := ?_) ?_ ?_
  rotate_left
  · show Act.put _ (some 40) _ = _
    simp only [Act.put, List.setIfInBounds_toArray, List.set_cons_zero, List.set_cons_succ, i64_w, i32_w]
    rfl
  refine one_ (i := 4) (N := some 43) (zm 10 127) rfl rfl (by kernel_rfl) (by decide) (fun K hK => ?_)
  refine value_ (w1 := _) (v := .iface T (.agg #[])) (by rfl) rfl (zLk_ rfl rfl rfl (by have h := parts_look HM.out x.f0 false; rw [KP.out] at h; exact h)) ?_
  refine hK.out _ _ ⟨hHeld.1, hHeld.2.1, hHeld.2.2⟩ (fun hHeld => ?_)
  clear hK K
  refine norm_ (a' := ?_) ?_ ?_
  rotate_left
  · show Act.put _ (some 43) _ = _
    simp only [Act.put, List.setIfInBounds_toArray, List.set_cons_zero, List.set_cons_succ, i64_w, i32_w]
    rfl
  refine one_ (i := 7) (N := some 46) (zm 10 255) rfl rfl (by kernel_rfl) (by decide) (fun K hK => ?_)
  refine zInv_ (by rfl) rfl rfl rfl (M := 246) (by kernel_rfl) (hmw _) hcw (args := #[.agg cs.toArray, .slice A t.length c]) (by simp only [List.map_toArray, List.map_cons, List.map_nil]; rfl) ?_
  refine calls_of_args (by rfl) ((tableWide_c x cs _ (k39.K_below hHeld.2.2 HK.out) A t c (Kd.C_below HC.out hHeld.2.2) hl (by omega)).mono ?_)
  rintro e w9 ⟨rfl, hb⟩
  refine ⟨_, rfl, ?_⟩
  refine hK.out _ _ ⟨((hb.block _ (blk_lt hHeld.1)).trans hHeld.1), (pw_cell_below hb hHeld.2.1), (below_step hHeld.2.2 hb)⟩ (fun hHeld => ?_)
  clear hK K
  refine norm_ (a' := ?_) ?_ ?_
  rotate_left
  · show Act.put _ (some 46) _ = _
    simp only [Act.put, List.setIfInBounds_toArray, List.set_cons_zero, List.set_cons_succ, i64_w, i32_w]
    rfl
  refine one_ (i := 8) (N := some 47) (zm 10 511) rfl rfl (by kernel_rfl) (by decide) (fun K hK => ?_)
  refine zFn_ (by rfl) rfl rfl rfl hcF (args := #[.int .i64 (tableW x.f1 t)]) (by simp only [List.map_toArray, List.map_cons, List.map_nil]; rfl) ?_
  refine (HF.out _ _).mono ?_
  rintro e w9 ⟨rfl, hb⟩
  refine ⟨_, rfl, ?_⟩
  refine hK.out _ _ ⟨((hb.block _ (blk_lt hHeld.1)).trans hHeld.1), (pw_cell_below hb hHeld.2.1), (below_step hHeld.2.2 hb)⟩ (fun hHeld => ?_)
  clear hK K
  refine norm_ (a' := ?_) ?_ ?_
  rotate_left
  · show Act.put _ (some 47) _ = _
    simp only [Act.put, List.setIfInBounds_toArray, List.set_cons_zero, List.set_cons_succ, i64_w, i32_w]
    rfl
  refine zpk 9 6 10 1023 ?_
  refine done_ (by kernel_rfl) ?_
  have B9 := Aside0.mk hHeld.2.2
  clear hHeld
  go_wp2
  go_ret
  exact ⟨by rw [VV.out, RW.out]; rfl, B9.out⟩
set_option maxHeartbeats 8000000 in
set_option maxRecDepth 100000 in
theorem wideOf_kids (KF : Nat) (g : Int → Int) (hcF : ∀ vs W, (callFunc KF vs).run Tryz.prog W = .ok (.enter KF vs) W) (hF : ∀ v W, Calls Tryz.prog KF #[.int .i64 v] W fun e w' => e = .returned (.int .i64 (g v)) ∧ Below W.heap.size W w')
    (N : Nat) (ih : ∀ m, m ≤ N → WoP KF g m) (x : S39) (cs : List Value) (A : Option Addr) (c : Nat) (t : List Int) (w : World) (hK : k39.K w x cs) (hsm : Small39 x) (hr : Kd.C (Kd.int .i64) w A t.length t) (hc : t.length ≤ c) (hl : t.length ≤ 1048576) (hn : sz39 x ≤ N + 1) (hs : shapedB x = true) (h1 : ¬ x.f0 = 1) (hlen : 1 ≤ x.f9.length) (T FW : Nat) (hk : WideK x T FW) :
    Calls Tryz.prog 35 #[.agg cs.toArray, .slice A t.length c, .func (.func KF) #[] #[]] w fun e w' => e = .returned (.int .i64 (wideF g t x)) ∧ Below w.heap.size w w' := by
  have LC := Aside0.mk (show cs.length = 19 from k39.K_len hK)
  obtain ⟨A12, c12, A15, c15, A18, c18, hcs, l12, g12, l15, g15, l18, g18⟩ := k39_open hK
  have E0 := Aside0.mk (show cs[0]? = some (.int .i64 x.f0) by rw [hcs]; rfl)
  have E18 := Aside0.mk (show cs[18]? = some (.slice A18 x.f9.length c18) by rw [hcs]; rfl)
  have G18 := Aside0.mk g18
  have HK := Aside0.mk hK
  have SM := Aside0.mk hsm
  have HC := Aside0.mk hr
  have HF := Aside0.mk hF
  have SH := Aside0.mk (fun (W : World) (hb : Below w.heap.size w W) => shaped_c x cs W (k39.K_below hb hK) hsm)

  have HS := Aside0.mk hs
  have NONE := Aside0.mk (wideF_none (g := g) (t := t) h1)
  have SOME := Aside0.mk (fun ws => wideF_some (g := g) (t := t) (ws := ws) hs h1)
  have KP := Aside0.mk hk.part
  have KW := Aside0.mk hk.wide
  have hmw := hk.meth
  have hcw := hk.call
  have b1 : (x.f0 != 1) = true := by simpa using h1
  have SK := Aside0.mk (show szs39 x.f9 ≤ N by have := sz39_kids x; omega)
  have L9 := Aside0.mk hsm.out.2.2.1
  have K9 := Aside0.mk hsm.out.2.2.2
  have IH := Aside0.mk ih
  have LN := Aside0.mk hlen
  clear hcs l12 g12 l15 g15 l18 g18 hK hsm hr hF hs h1 hk ih hn hlen
  go_enter Tryz.func35, Tryz.ntmps35
  go_wp2_with (first
    | ((with_reducible refine gate_dst (N := 3) rfl ?_); refine box_ 39 (.tmp 0) rfl rfl cs.toArray rfl ?_; intro gb hg w1 hb hB; have X1 := Aside0.mk hb; have q0 := (blk_cell hb 0).trans (by simpa using E0.out); have B1 := Aside0.mk hB; clear hb hB hg)
    | ((with_reducible refine gate_dst (N := 11) rfl ?_); refine loadVar_ 39 (.tmp 3) rfl rfl gb ?hx cs _ Tryz.underlying39 ?hi _ X1.out ?_; (case hx => first | rfl | (go_simp; done) | (go_simp; rfl)); (case hi => rw [LC.out]; kernel_rfl))
    | (go_at_call 47; refine (SH.out _ B1.out).mono ?_; rw [HS.out]; rintro e w2 ⟨rfl, hB⟩; have X2 := Aside0.mk ((hB.block _ (blk_lt X1.out)).trans X1.out); have B2 := Aside0.mk (below_step B1.out hB); have p0 := zhs hB q0; have p18 := (blk_cell X2.out 18).trans (by simpa using E18.out); clear hB q0 X1 B1))

  go_loopw [7, 21] (fun v7 v21 wr => ∃ (i : Nat) (ws : List Int), v21 = .int .i64 i ∧ i ≤ x.f9.length ∧ ws.length = i ∧ Aside0 (Kd.R (Kd.int .i64) 3 wr w.heap.size (fun _ => True) v7 ws) ∧ Aside0 (wr.heap[gb]? = some (.cells cs.toArray 39 (0, 0))) ∧ Aside0 (Below w.heap.size w wr) ∧
    Aside0 (wideFs g t x.f9 = (wideFs g t (x.f9.drop i)).map (fun l => ws ++ l))) (fun _ v21 _ => x.f9.length - (intOf v21).toNat)
  case atStart => exact ⟨0, [], rfl, Nat.zero_le _, rfl, ⟨Kd.R_nil _ _ _ _ _⟩, X2, B2, ⟨by simp⟩⟩
  case round =>
    obtain ⟨i, ws, rfl, hi, hwl, HR, HX, HB, HG⟩ := hrel
    have l9 := L9.out
    by_cases hlt : i < x.f9.length
    · obtain ⟨ad, c0, e18, hcl, hK0, hcell⟩ := elem_ G18.out i hlt
      obtain rfl := e18
      have hsz := szs39_get hlt
      have LD := Aside0.mk (show c0.length = 19 from hcl)
      have OD := Aside0.mk (show ∀ q ∈ c0, q.oneCell' = true from k39.K_one hK0)
      have HE := Aside0.mk hcell
      have CA := Aside0.mk (fun (W : World) (hb : Below w.heap.size w W) => IH.out (sz39 x.f9[i]) (by have := SK.out; omega) x.f9[i] c0 A c t W (Nat.le_refl _) (k39.K_below hb hK0) (K9.out _ (List.getElem_mem hlt)) (Kd.C_below HC.out hb) hc hl)
      have GD := Aside0.mk (HG.out.trans (by rw [wideFs_drop g t x.f9 i hlt]))
      obtain ⟨r, hr⟩ : ∃ r, r = wideF g t x.f9[i] := ⟨_, rfl⟩
      rw [← hr] at CA GD
      clear hK0 hcell hcl hsz HG hr
      go_wp2_with (first
        | ((with_reducible refine gate_dst (N := 24) rfl ?_); refine load_ 39 (.tmp 23) rfl rfl (ad.add (i * 19)) ?hx c0 _ Tryz.underlying39 ?hi (fun j v h => zhs HB.out (HE.out j v h)) ?_; (case hx => first | rfl | (go_simp; done) | (go_simp; rfl)); (case hi => rw [LD.out]; kernel_rfl))
        | ((with_reducible refine gate_dst (N := 9) rfl ?_); refine alloc_ 39 rfl rfl zero39 _ _ info39 ?_; intro g4 hg4 w4 hb4 hB4; have Y4 := Aside0.mk hb4; have B4 := Aside0.mk hB4; have G4 := Aside0.mk (Nat.le_of_eq hg4.symm); clear hb4 hB4 hg4)
        | ((with_reducible refine gate_ (.store 39 (.tmp 9) (.tmp 24)) rfl ?_); refine storeAll_ 39 (.tmp 9) (.tmp 24) rfl rfl rfl g4 ?hp c0 ?hx2 ?ht OD.out zero39 _ Y4.out ?hf ?_; (case hp => first | rfl | (go_simp; done) | (go_simp; rfl)); (case hx2 => first | rfl | (go_simp; done) | (go_simp; rfl)); (case ht => rw [LD.out]; kernel_rfl); (case hf => rw [LD.out]; rfl); intro w5 hb5 hg5; have B5 := Aside0.mk (B4.out.grown hg5 B4.out.size (fun k e => by cases e; exact G4.out)); have Y5 := Aside0.mk hb5; clear hb5 hg5 Y4 B4)
        | ((with_reducible refine gate_dst (N := 25) rfl ?_); refine loadVar_ 39 (.tmp 9) rfl rfl g4 ?hx c0 _ Tryz.underlying39 ?hi _ Y5.out ?_; (case hx => first | rfl | (go_simp; done) | (go_simp; rfl)); (case hi => rw [LD.out]; kernel_rfl))
        | (go_at_call 35; refine (CA.out _ (below_step HB.out B5.out)).mono ?_; rintro e w6 ⟨rfl, hB⟩; have B6 := Aside0.mk (below_step B5.out hB); have HR6 := Aside0.mk (Kd.R_below HR.out (below_step B5.out hB)); have HX6 := Aside0.mk ((B6.out.block _ (blk_lt HX.out)).trans HX.out); have HB6 := Aside0.mk (below_step HB.out B6.out); clear hB CA HR HX HB)
        | (at_builtin; refine Kd.R_append (Kd.int .i64) (w0 := w) w.heap.size rfl (.tmp 31) (.tmp 33) 27 3 (.int .i64 0) 8 rfl Tryz.underlying27 info3 rfl (by decide) (by omega) _ ws r [.int .i64 r] (fun _ => True) (fun _ => False) rfl rfl ?aP (fun _ hk => hk.elim) ?aF ?aO ?aB ?aS ?aL ?_; (case aP => exact rfl); (case aB => exact HB6.out); (case aF => exact (fun _ _ => trivial)); (case aO => exact HR6.out); (case aS => exact HB6.out.size); (case aL => omega); intro v7' w7 ho hb hg hat; have HR7 := Aside0.mk ho; have HB7 := Aside0.mk hb; have HX7 := Aside0.mk ((hg.block _ (blk_lt HX6.out) (Kd.R_ne HR6.out HX6.out (by decide))).trans HX6.out); clear ho hb hg hat))
      · go_ret
        have hm : r = -1 := by simpa using (by assumption : (r == -1) = true)
        exact ⟨by rw [NONE.out (by rw [GD.out, if_pos hm]; rfl)]; rfl, HB6.out⟩
      · go_roundw
        have hm : ¬ r = -1 := by simpa using (by assumption : (r == -1) = false)
        case rel => exact ⟨i + 1, ws ++ [r], by go_num, by omega, by simp [hwl], HR7, HX7, HB7, ⟨by rw [GD.out, if_neg hm]; simp [Option.map_map, Function.comp_def]⟩⟩
        case measure => simp [intOf]; omega
    · have GE := Aside0.mk (HG.out.trans (by rw [wideFs_end g t x.f9 i (by omega)]; simp : _ = some ws))
      have VV := Aside0.mk (SOME.out ws GE.out)
      obtain ⟨A7, c7, e7⟩ := Kd.R_slice HR.out
      subst e7
      have hne : (ws.length == 0) = false := beq_eq_false_iff_ne.2 (by have := LN.out; omega)
      have hne2 : ((ws.length : Int) == 0) = false := beq_eq_false_iff_ne.2 (by have := LN.out; omega)
      have WL := Aside0.mk (show ws.length = x.f9.length by omega)
      clear hwl HG
      go_wp2
      refine start_ (n := 10) (S := fun w' => w'.heap[gb]? = some (.cells cs.toArray 39 (0, 0)) ∧ w'.cell? ⟨gb, 0, none⟩ = some (.int .i64 x.f0) ∧ Kd.R (Kd.int .i64) 3 w' w.heap.size (fun _ => True) (.slice A7 ws.length c7) ws ∧ Below w.heap.size w w') (ds := []) (zm 10 0) (by kernel_rfl) rfl rfl ⟨HX.out, (cell_of_range HX.out E0.out), (Kd.R_drew HR.out), (below_drew HB.out)⟩ (fun hHeld => ?_)
      refine zpk 0 39 10 1 ?_
      refine zpk 2 41 10 5 ?_
      refine zpk 6 45 10 69 ?_
      refine ztk 3 42 10 77 ?_
      refine take_ (i := 5) (N := some 44) (v := _) (a' := ?_) (zm 10 109) rfl rfl (by kernel_rfl) (fun _ _ _ h => h) (yieldsIf_load_mid (by rfl) 39 (.tmp 3) rfl gb 0 rfl cs _ (fun W h => range_ h.1) Tryz.underlying39 rfl (by rw [LC.out]; kernel_rfl)) hHeld ?_ ?_
      rotate_left
      · simp only [Act.put, List.setIfInBounds_toArray, List.set_cons_zero, List.set_cons_succ, i64_w, i32_w]
        rfl
      refine one_ (i := 1) (N := some 40) (zm 10 111) rfl rfl (by kernel_rfl) (by decide) (fun K hK => ?_)
      refine goes_ Tryz.func48 (by kernel_rfl) rfl #[] (by rfl) rfl rfl (by simp only [List.map_toArray, List.map_nil]) ?_
      refine (parts_c _).mono ?_
      rintro e w9 ⟨b, rfl, hm, hb⟩
      refine ⟨_, rfl, ?_⟩
      have HM := Aside0.mk hm
      clear hm
      refine hK.out _ _ ⟨((hb.block _ (blk_lt hHeld.1)).trans hHeld.1), (pw_cell_below hb hHeld.2.1), (Kd.R_below hHeld.2.2.1 hb), (below_step hHeld.2.2.2 hb)⟩ (fun hHeld => ?_)
      clear hK K
      refine norm_ (a' := ?_) ?_ ?_
      rotate_left
      · show Act.put _ (some 40) _ = _
        simp only [Act.put, List.setIfInBounds_toArray, List.set_cons_zero, List.set_cons_succ, i64_w, i32_w]
        rfl
      refine one_ (i := 4) (N := some 43) (zm 10 127) rfl rfl (by kernel_rfl) (by decide) (fun K hK => ?_)
      refine value_ (w1 := _) (v := .iface T (.agg #[])) (by rfl) rfl (zLk_ rfl rfl rfl (by have h := parts_look HM.out x.f0 false; rw [KP.out] at h; exact h)) ?_
      refine hK.out _ _ ⟨hHeld.1, hHeld.2.1, hHeld.2.2.1, hHeld.2.2.2⟩ (fun hHeld => ?_)
      clear hK K
      refine norm_ (a' := ?_) ?_ ?_
      rotate_left
      · show Act.put _ (some 43) _ = _
        simp only [Act.put, List.setIfInBounds_toArray, List.set_cons_zero, List.set_cons_succ, i64_w, i32_w]
        rfl
      refine one_ (i := 7) (N := some 46) (zm 10 255) rfl rfl (by kernel_rfl) (by decide) (fun K hK => ?_)
      refine zInv_ (by rfl) rfl rfl rfl (M := 246) (by kernel_rfl) (hmw _) hcw (args := #[.agg cs.toArray, .slice A7 ws.length c7]) (by simp only [List.map_toArray, List.map_cons, List.map_nil]; rfl) ?_
      refine calls_of_args (by rfl) ((KW.out cs _ _ _ _ ws (k39.K_below hHeld.2.2.2 HK.out) hHeld.2.2.1 WL.out).mono ?_)
      rintro e w9 ⟨rfl, hb⟩
      refine ⟨_, rfl, ?_⟩
      refine hK.out _ _ ⟨((hb.block _ (blk_lt hHeld.1)).trans hHeld.1), (pw_cell_below hb hHeld.2.1), (Kd.R_below hHeld.2.2.1 hb), (below_step hHeld.2.2.2 hb)⟩ (fun hHeld => ?_)
      clear hK K
      refine norm_ (a' := ?_) ?_ ?_
      rotate_left
      · show Act.put _ (some 46) _ = _
        simp only [Act.put, List.setIfInBounds_toArray, List.set_cons_zero, List.set_cons_succ, i64_w, i32_w]
        rfl
      refine one_ (i := 8) (N := some 47) (zm 10 511) rfl rfl (by kernel_rfl) (by decide) (fun K hK => ?_)
      refine zFn_ (by rfl) rfl rfl rfl hcF (args := #[.int .i64 (rawW x ws)]) (by simp only [List.map_toArray, List.map_cons, List.map_nil]; rfl) ?_
      refine (HF.out _ _).mono ?_
      rintro e w9 ⟨rfl, hb⟩
      refine ⟨_, rfl, ?_⟩
      refine hK.out _ _ ⟨((hb.block _ (blk_lt hHeld.1)).trans hHeld.1), (pw_cell_below hb hHeld.2.1), (Kd.R_below hHeld.2.2.1 hb), (below_step hHeld.2.2.2 hb)⟩ (fun hHeld => ?_)
      clear hK K
      refine norm_ (a' := ?_) ?_ ?_
      rotate_left
      · show Act.put _ (some 47) _ = _
        simp only [Act.put, List.setIfInBounds_toArray, List.set_cons_zero, List.set_cons_succ, i64_w, i32_w]
        rfl
      refine zpk 9 6 10 1023 ?_
      refine done_ (by kernel_rfl) ?_
      have B9 := Aside0.mk hHeld.2.2.2
      clear hHeld
      go_wp2
      go_ret
      exact ⟨by rw [VV.out]; rfl, B9.out⟩
theorem wideOf_all (KF : Nat) (g : Int → Int) (hcF : ∀ vs W, (callFunc KF vs).run Tryz.prog W = .ok (.enter KF vs) W) (hF : ∀ v W, Calls Tryz.prog KF #[.int .i64 v] W fun e w' => e = .returned (.int .i64 (g v)) ∧ Below W.heap.size W w') (N : Nat) : WoP KF g N := by
  induction N using Nat.strongRecOn with
  | _ N ih =>
    cases N with
    | zero => intro x cs A c t w hn; have := sz39_kids x; omega
    | succ N =>
      intro x cs A c t w hn hK hsm hr hc hl
      by_cases hs : shapedB x = true
      rotate_left
      · exact wideOf_no KF g hcF hF x cs A c t w hK hsm hr hc hl (by simpa using hs)
      by_cases h1 : x.f0 = 1
      · by_cases ht : t.length = 0
        · exact wideOf_table0 KF g hcF hF x cs A c t w hK hsm hr hc hl hs h1 ht
        · exact wideOf_table KF g hcF hF x cs A c t w hK hsm hr hc hl hs h1 ht
      · obtain ⟨hlen, T, FW, hk⟩ := wideK x hs h1 hsm
        exact wideOf_kids KF g hcF hF N (fun m hm => ih m (by omega)) x cs A c t w hK hsm hr hc hl hn hs h1 hlen T FW hk
/-- **impl.wideOf** -/
theorem wideOf_c (KF : Nat) (g : Int → Int) (hcF : ∀ vs W, (callFunc KF vs).run Tryz.prog W = .ok (.enter KF vs) W) (hF : ∀ v W, Calls Tryz.prog KF #[.int .i64 v] W fun e w' => e = .returned (.int .i64 (g v)) ∧ Below W.heap.size W w')
    (x : S39) (cs : List Value) (A : Option Addr) (c : Nat) (t : List Int) (w : World) (hK : k39.K w x cs) (hsm : Small39 x) (hr : Kd.C (Kd.int .i64) w A t.length t) (hc : t.length ≤ c) (hl : t.length ≤ 1048576) :
    Calls Tryz.prog 35 #[.agg cs.toArray, .slice A t.length c, .func (.func KF) #[] #[]] w fun e w' => e = .returned (.int .i64 (wideF g t x)) ∧ Below w.heap.size w w' := wideOf_all KF g hcF hF _ x cs A c t w (Nat.le_refl _) hK hsm hr hc hl
end Pl
namespace Pl
/-- what PlanWide counts a part as -/
def gW (v : Int) : Int := ifW (decide (1 ≤ v) && decide (v ≤ 6)) v
theorem gW_c (v : Int) (W : World) : Calls Tryz.prog 36 #[.int .i64 v] W fun e w' => e = .returned (.int .i64 (gW v)) ∧ Below W.heap.size W w' :=
  (impl_PlanWide_1.calls v _ W (by
    unfold impl_PlanWide_1.f impl_wideIf.f gW ifW
    by_cases h1 : 1 ≤ v
    · by_cases h2 : v ≤ 6 <;> simp [h1, h2]
    · simp [h1])).mono fun _ _ ⟨h, hd⟩ => ⟨h, hd.below⟩
/-- impl.PlanWide -/
noncomputable def iWide (x : S39) (t : List Int) : Int := if t.length ≤ 3 ∧ sizeB x = true then wideF gW t x else -1
set_option maxHeartbeats 8000000 in
set_option maxRecDepth 100000 in
/-- **impl.PlanWide** -/
theorem implPlanWide_c (x : S39) (cs : List Value) (A : Option Addr) (c : Nat) (t : List Int) (w : World) (hK : k39.K w x cs) (hsm : Small39 x) (hr : Kd.C (Kd.int .i64) w A t.length t) (hc : t.length ≤ c) (hl : t.length ≤ 1048576) :
    Calls Tryz.prog 14 #[.agg cs.toArray, .slice A t.length c] w fun e w' => e = .returned (.int .i64 (iWide x t)) ∧ Below w.heap.size w w' := by
  have LC := Aside0.mk (show cs.length = 19 from k39.K_len hK)
  have SZ := Aside0.mk (fun (W : World) (hb : Below w.heap.size w W) => sizeOk_c x cs W (k39.K_below hb hK))
  have WO := Aside0.mk (fun (W : World) (hb : Below w.heap.size w W) => wideOf_c 36 gW (enters_v Tryz.func36 (by kernel_rfl) rfl) gW_c x cs A c t W (k39.K_below hb hK) hsm (Kd.C_below hr hb) hc hl)
  obtain ⟨z, hz⟩ : ∃ z, z = sizeB x := ⟨_, rfl⟩
  have ZZ := Aside0.mk hz
  rw [← hz] at SZ
  clear hK hsm hr hz
  by_cases h3 : t.length ≤ 3
  rotate_left
  · have VV := Aside0.mk (show iWide x t = -1 by unfold iWide; rw [if_neg (fun h => h3 h.1)])
    have d3 : decide ((3 : Int) < (t.length : Int)) = true := by simp; omega
    clear h3
    go_enter Tryz.func14, Tryz.ntmps14
    go_wp2_with ((with_reducible refine gate_dst (N := 2) rfl ?_); refine box_ 39 (.tmp 0) rfl rfl cs.toArray rfl ?_; intro gb hg w1 hb hB; have X1 := Aside0.mk hb; have B1 := Aside0.mk hB; clear hb hB hg)
    go_ret
    exact ⟨by rw [VV.out]; rfl, B1.out⟩
  have N1 := Aside0.mk (fun (h : z = false) => show iWide x t = -1 by unfold iWide; rw [if_neg (by rw [← ZZ.out, h]; simp)])
  have Y1 := Aside0.mk (fun (h : z = true) => show iWide x t = wideF gW t x by unfold iWide; rw [if_pos ⟨h3, by rw [← ZZ.out, h]⟩])
  have d3 : decide ((3 : Int) < (t.length : Int)) = false := by simp; omega
  clear h3
  go_enter Tryz.func14, Tryz.ntmps14
  go_wp2_with (first
    | ((with_reducible refine gate_dst (N := 2) rfl ?_); refine box_ 39 (.tmp 0) rfl rfl cs.toArray rfl ?_; intro gb hg w1 hb hB; have X1 := Aside0.mk hb; have B1 := Aside0.mk hB; clear hb hB hg)
    | ((with_reducible refine gate_dst (N := 9) rfl ?_); refine loadW_ 39 (.tmp 2) rfl ?hw ⟨gb, 0, none⟩ ?hx cs _ Tryz.underlying39 ?hi (sub_ X1.out [] cs [] (by simp)) ?_; (case hw => first | rfl | (simp [Region.wanted, yielded]; done)); (case hx => first | rfl | (go_simp; done) | (go_simp; rfl)); (case hi => rw [LC.out]; kernel_rfl))
    | (go_at_call 34; refine (SZ.out _ B1.out).mono ?_; rintro e w2 ⟨rfl, hB⟩; have X2 := Aside0.mk ((hB.block _ (blk_lt X1.out)).trans X1.out); have B2 := Aside0.mk (below_step B1.out hB); clear hB)
    | ((with_reducible refine gate_dst (N := 13) rfl ?_); refine loadVar_ 39 (.tmp 2) rfl rfl gb ?hx cs _ Tryz.underlying39 ?hi _ X2.out ?_; (case hx => first | rfl | (go_simp; done) | (go_simp; rfl)); (case hi => rw [LC.out]; kernel_rfl))
    | (go_at_call 35; refine (WO.out _ B2.out).mono ?_; rintro e w3 ⟨rfl, hB⟩; have B3 := Aside0.mk (below_step B2.out hB); clear hB))
  · go_ret
    exact ⟨by rw [N1.out (by simpa using (by assumption : (!z) = true))]; rfl, B2.out⟩
  · go_ret
    exact ⟨by rw [Y1.out (by simpa using (by assumption : (!z) = false))]; rfl, B3.out⟩
end Pl
namespace Pl
mutual
/-- how many parts a plan has, up to so deep -/
def manyF : S39 → Nat → Nat
  | ⟨_, _, _, _, _, _, _, _, _, ks⟩, d => 1 + if d = 0 then 0 else manysF ks (d - 1)
def manysF : List S39 → Nat → Nat
  | [], _ => 0
  | k :: ks, d => manyF k d + manysF ks d
end
theorem manyF_eq (x : S39) (d : Nat) : manyF x d = 1 + if d = 0 then 0 else manysF x.f9 (d - 1) := by cases x; rfl
theorem manyF_le : ∀ (m : Nat) (x : S39), sz39 x ≤ m → ∀ d, manyF x d ≤ sz39 x := by
  intro m
  induction m with
  | zero => intro x h; have := sz39_kids x; omega
  | succ m ih =>
    intro x hm d
    have hk := sz39_kids x
    have go : ∀ (ks : List S39), szs39 ks ≤ m → ∀ d, manysF ks d ≤ szs39 ks := by
      intro ks
      induction ks with
      | nil => intro _ d; simp [manysF]
      | cons k ks ihk =>
        intro hs d
        simp only [szs39] at hs ⊢
        have h1 := ih k (by omega) d
        have h2 := ihk (by omega) d
        simp only [manysF]; omega
    rw [manyF_eq, hk]
    split
    · omega
    · have := go x.f9 (by omega) (d - 1); omega
theorem manysF_le {ks : List S39} {d : Nat} : manysF ks d ≤ szs39 ks := by
  induction ks with
  | nil => simp [manysF]
  | cons k ks ih => have := manyF_le _ k (Nat.le_refl _) d; simp only [manysF, szs39]; omega
theorem szs39_drop (ks : List S39) (i : Nat) : szs39 (ks.drop i) ≤ szs39 ks := by
  induction ks generalizing i with
  | nil => simp
  | cons k ks ih => cases i with
    | zero => simp
    | succ i => have := ih i; simp only [List.drop_succ_cons, szs39]; omega
theorem manysF_drop (ks : List S39) (i d : Nat) (h : i < ks.length) : manysF (ks.drop i) d = manyF ks[i] d + manysF (ks.drop (i + 1)) d := by
  rw [List.drop_eq_getElem_cons h, manysF]
theorem manysF_end (ks : List S39) (i d : Nat) (h : ks.length ≤ i) : manysF (ks.drop i) d = 0 := by
  rw [List.drop_eq_nil_of_le h, manysF]
theorem len_szs (ks : List S39) : ks.length ≤ szs39 ks := by
  induction ks with
  | nil => simp [szs39]
  | cons k ks ih => have := sz39_kids k; simp only [List.length_cons, szs39]; omega
def MaP (N : Nat) : Prop := ∀ (x : S39) (cs : List Value) (d : Nat) (w : World), sz39 x ≤ N → sz39 x ≤ 1099511627776 → d ≤ 1000 → k39.K w x cs →
  Calls Tryz.prog 19 #[.agg cs.toArray, .int .i64 d] w fun e w' => e = .returned (.int .i64 (manyF x d : Nat)) ∧ Below w.heap.size w w'
set_option maxHeartbeats 8000000 in
set_option maxRecDepth 100000 in
theorem many_step (N : Nat) (ih : ∀ m, m ≤ N → MaP m) : MaP (N + 1) := by
  intro x cs d w hn hbig hd hK
  have LC := Aside0.mk (show cs.length = 19 from k39.K_len hK)
  obtain ⟨A12, c12, A15, c15, A18, c18, hcs, l12, g12, l15, g15, l18, g18⟩ := k39_open hK
  have E18 := Aside0.mk (show cs[18]? = some (.slice A18 x.f9.length c18) by rw [hcs]; rfl)
  have G18 := Aside0.mk g18
  have SK := Aside0.mk (show szs39 x.f9 ≤ N by have := sz39_kids x; omega)
  have SB := Aside0.mk (show szs39 x.f9 ≤ 1099511627776 by have := sz39_kids x; omega)
  have hlen : x.f9.length ≤ 1099511627776 := by have := sz39_kids x; have := len_szs x.f9; omega
  have MF := Aside0.mk (manyF_eq x d)
  have IH := Aside0.mk ih
  clear hcs l12 g12 l15 g15 l18 g18 hK hn hbig ih
  cases d with
  | zero =>
    go_enter Tryz.func19, Tryz.ntmps19
    go_wp2_with ((with_reducible refine gate_dst (N := 2) rfl ?_); refine box_ 39 (.tmp 0) rfl rfl cs.toArray rfl ?_; intro gb hg w1 hb hB; have q18 := (blk_cell hb 18).trans (by simpa using E18.out); have B1 := Aside0.mk hB; clear hb hB hg)
    go_loopw [5, 6] (fun v5 v6 wr => v5 = .int .i64 1 ∧ v6 = .int .i64 0 ∧ wr.cell? ⟨gb, 18, none⟩ = some (.slice A18 x.f9.length c18) ∧ Aside0 (Below w.heap.size w wr)) (fun _ _ _ => 0)
    case atStart => exact ⟨rfl, rfl, q18, B1⟩
    case round =>
      obtain ⟨rfl, rfl, q18', HB⟩ := hrel
      clear q18
      go_wp2
      all_goals (go_ret; exact ⟨by rw [MF.out]; rfl, HB.out⟩)
  | succ d =>
    have d1 : decide ((0 : Int) < ((d + 1 : Nat) : Int)) = true := decide_eq_true (by omega)
    go_enter Tryz.func19, Tryz.ntmps19
    go_wp2_with ((with_reducible refine gate_dst (N := 2) rfl ?_); refine box_ 39 (.tmp 0) rfl rfl cs.toArray rfl ?_; intro gb hg w1 hb hB; have q18 := (blk_cell hb 18).trans (by simpa using E18.out); have B1 := Aside0.mk hB; clear hb hB hg)
    go_loopw [5, 6] (fun v5 v6 wr => ∃ (n i : Nat), v5 = .int .i64 n ∧ v6 = .int .i64 i ∧ i ≤ x.f9.length ∧ wr.cell? ⟨gb, 18, none⟩ = some (.slice A18 x.f9.length c18) ∧ Aside0 (Below w.heap.size w wr) ∧ Aside0 (n + manysF (x.f9.drop i) d = manyF x (d + 1))) (fun _ v6 _ => x.f9.length - (intOf v6).toNat)
    case atStart => exact ⟨1, 0, rfl, rfl, Nat.zero_le _, q18, B1, ⟨by rw [MF.out, if_neg (by omega)]; simp⟩⟩
    case round =>
      obtain ⟨n, i, rfl, rfl, hi, q18', HB, HN⟩ := hrel
      clear q18
      by_cases hlt : i < x.f9.length
      · obtain ⟨ad, c0, e18, hcl, hK0, hcell⟩ := elem_ G18.out i hlt
        obtain rfl := e18
        have hsz := szs39_get hlt
        have LD := Aside0.mk (show c0.length = 19 from hcl)
        have HE := Aside0.mk hcell
        have CA := Aside0.mk (fun (W : World) (hb : Below w.heap.size w W) => IH.out (sz39 x.f9[i]) (by have := SK.out; omega) x.f9[i] c0 d W (Nat.le_refl _) (by have := SB.out; omega) (by omega) (k39.K_below hb hK0))
        have GD := Aside0.mk ((by rw [← HN.out, manysF_drop _ _ _ hlt] : manyF x (d + 1) = n + (manyF x.f9[i] d + manysF (x.f9.drop (i + 1)) d)))
        have hsum : n + manyF x.f9[i] d ≤ 1099511627777 := by have h1 := GD.out; have h2 := manyF_le _ x (Nat.le_refl _) (d + 1); have h3 := sz39_kids x; have := SB.out; omega
        obtain ⟨r, hr⟩ : ∃ r, r = manyF x.f9[i] d := ⟨_, rfl⟩
        rw [← hr] at CA GD hsum
        clear hK0 hcell hcl hsz HN hr
        go_wp2_with (first
          | ((with_reducible refine gate_dst (N := 23) rfl ?_); refine load_ 39 (.tmp 22) rfl rfl (ad.add (i * 19)) ?hx c0 _ Tryz.underlying39 ?hi (fun j v h => zhs HB.out (HE.out j v h)) ?_; (case hx => first | rfl | (go_simp; done) | (go_simp; rfl)); (case hi => rw [LD.out]; kernel_rfl))
          | (go_at_call 19; refine (CA.out _ HB.out).mono ?_; rintro e w6 ⟨rfl, hB⟩; have HB6 := Aside0.mk (below_step HB.out hB); have p18 := zhs hB q18'; clear hB CA q18'))
        go_roundw
        case rel => exact ⟨n + r, i + 1, by go_num, by go_num, by omega, p18, HB6, ⟨by rw [GD.out]; omega⟩⟩
        case measure => simp [intOf]; omega
      · have GE := Aside0.mk ((by rw [← HN.out, manysF_end _ _ _ (by omega)] : manyF x (d + 1) = n + 0))
        go_wp2
        go_ret
        exact ⟨by rw [GE.out]; rfl, HB.out⟩
theorem many_all (N : Nat) : MaP N := by
  induction N using Nat.strongRecOn with
  | _ N ih =>
    cases N with
    | zero => intro x cs d w hn; have := sz39_kids x; omega
    | succ N => exact many_step N (fun m hm => ih m (by omega))
/-- **spec.l4Many** -/
theorem l4Many_c (x : S39) (cs : List Value) (d : Nat) (w : World) (hbig : sz39 x ≤ 1099511627776) (hd : d ≤ 1000) (hK : k39.K w x cs) :
    Calls Tryz.prog 19 #[.agg cs.toArray, .int .i64 d] w fun e w' => e = .returned (.int .i64 (manyF x d : Nat)) ∧ Below w.heap.size w w' := many_all _ x cs d w (Nat.le_refl _) hbig hd hK
end Pl
section
attribute [local go_sem high] Pl.eqT
namespace Pl
section
variable {P : Program} {ops : Array Oper} {rest : List Oper} {o : Oper} {a : Act} {Q : Exit → Act → World → Prop}
/-- A struct of zeros is built, by an operation that is guarded (and let by). -/
theorem buildW_ {W : World} (ty : TypeId) (ho : o.op = .build ty #[]) (hw : Region.wanted o (yielded ops a.tmps) = true) (cs : List Value) (hrun : ∀ W, (Instr.build ty #[]).run P W = .ok (.agg cs.toArray) W)
    (h : wpList P ops Q rest (a.put o.dst (.agg cs.toArray)) W) : wpList P ops Q (o :: rest) a W := by
  refine wpList_step fun K hK => ?_
  rw [if_pos hw]
  unfold Oper.wp execOp
  simp [ho, Sem.run_bind, Sem.run_pure, Result.andThen_ok, hrun]
  exact hK _ _ h
end
/-- l4Clean -/
def cleanB (x : S39) : Bool :=
  ((x.f0 == 1) || (x.f1 == 0)) && ((x.f0 == 2) || decide (x.f2 = zeroT)) && ((x.f0 == 3) || (x.f3.length == 0)) && ((x.f0 == 4) || ((x.f4 == 0) && (x.f5 == 0))) && ((x.f0 == 7) || ((x.f6.length == 0) && (x.f7 == 0) && (x.f8 == 0)))
set_option maxHeartbeats 16000000 in
set_option maxRecDepth 100000 in
/-- **spec.l4Clean** -/
theorem l4Clean_c (x : S39) (cs : List Value) (w : World) (hK : k39.K w x cs) :
    Calls Tryz.prog 50 #[.agg cs.toArray] w fun e w' => e = .returned (.bool (cleanB x)) ∧ Below w.heap.size w w' := by
  obtain ⟨A12, c12, A15, c15, A18, c18, hcs, l12, g12, l15, g15, l18, g18⟩ := k39_open hK
  have E0 := Aside0.mk (show cs[0]? = some (.int .i64 x.f0) by rw [hcs]; rfl)
  have E1 := Aside0.mk (show cs[1]? = some (.int .i64 x.f1) by rw [hcs]; rfl)
  have E12 := Aside0.mk (show cs[12]? = some (.slice A12 x.f3.length c12) by rw [hcs]; rfl)
  have E13 := Aside0.mk (show cs[13]? = some (.int .i64 x.f4) by rw [hcs]; rfl)
  have E14 := Aside0.mk (show cs[14]? = some (.int .i64 x.f5) by rw [hcs]; rfl)
  have E15 := Aside0.mk (show cs[15]? = some (.slice A15 x.f6.length c15) by rw [hcs]; rfl)
  have E16 := Aside0.mk (show cs[16]? = some (.int .i64 x.f7) by rw [hcs]; rfl)
  have E17 := Aside0.mk (show cs[17]? = some (.int .i64 x.f8) by rw [hcs]; rfl)
  have HA := Aside0.mk (show cs = [.int .i64 x.f0, .int .i64 x.f1] ++ (testCells x.f2 ++ [.slice A12 x.f3.length c12, .int .i64 x.f4, .int .i64 x.f5, .slice A15 x.f6.length c15, .int .i64 x.f7, .int .i64 x.f8, .slice A18 x.f9.length c18]) from hcs)
  clear hcs l12 g12 l15 g15 l18 g18 hK
  have CB : cleanB x = (((x.f0 == 1) || (x.f1 == 0)) && ((x.f0 == 2) || decide (x.f2 = zeroT)) && ((x.f0 == 3) || (x.f3.length == 0)) && ((x.f0 == 4) || ((x.f4 == 0) && (x.f5 == 0))) && ((x.f0 == 7) || ((x.f6.length == 0) && (x.f7 == 0) && (x.f8 == 0)))) := rfl
  obtain ⟨n3, h3⟩ : ∃ n, n = x.f3.length := ⟨_, rfl⟩
  obtain ⟨n6, h6⟩ : ∃ n, n = x.f6.length := ⟨_, rfl⟩
  rw [← h3] at E12
  rw [← h6] at E15
  rw [← h3, ← h6] at CB
  clear h3 h6
  obtain ⟨z1, a1⟩ : ∃ z, (x.f1 == 0) = z := ⟨_, rfl⟩
  obtain ⟨z2, a2⟩ : ∃ z, decide (x.f2 = zeroT) = z := ⟨_, rfl⟩
  obtain ⟨z3, a3⟩ : ∃ z, (n3 == 0) = z := ⟨_, rfl⟩
  obtain ⟨z4, a4⟩ : ∃ z, (x.f4 == 0) = z := ⟨_, rfl⟩
  obtain ⟨z5, a5⟩ : ∃ z, (x.f5 == 0) = z := ⟨_, rfl⟩
  obtain ⟨z6, a6⟩ : ∃ z, (n6 == 0) = z := ⟨_, rfl⟩
  obtain ⟨z7, a7⟩ : ∃ z, (x.f7 == 0) = z := ⟨_, rfl⟩
  obtain ⟨z8, a8⟩ : ∃ z, (x.f8 == 0) = z := ⟨_, rfl⟩
  rw [a1, a2, a3, a4, a5, a6, a7, a8] at CB
  have a3' : ((n3 : Int) == 0) = z3 := by rw [← a3, Bool.eq_iff_iff]; simp
  have a6' : ((n6 : Int) == 0) = z6 := by rw [← a6, Bool.eq_iff_iff]; simp
  have HZ := Aside0.mk (show ∀ W, (Instr.build 35 #[]).run Tryz.prog W = .ok (.agg (testCells zeroT).toArray) W from fun _ => by kernel_rfl)
  rcases (show x.f0 = 1 ∨ x.f0 = 2 ∨ x.f0 = 3 ∨ x.f0 = 4 ∨ x.f0 = 7 ∨ (x.f0 ≠ 1 ∧ x.f0 ≠ 2 ∧ x.f0 ≠ 3 ∧ x.f0 ≠ 4 ∧ x.f0 ≠ 7) by omega) with hk | hk | hk | hk | hk | hk
  case' inl =>
    have CV := Aside0.mk (show cleanB x = ((z2) && (z3) && (z4 && z5) && (z6 && z7 && z8)) by rw [CB]; simp [hk])
    rw [hk] at E0; clear hk CB
    cases z2; case' true => (cases z3; case' true => (cases z4; case' true => (cases z5; case' true => (cases z6; case' true => (cases z7; case' true => (cases z8))))))
  case' inr.inl =>
    have CV := Aside0.mk (show cleanB x = ((z1) && (z3) && (z4 && z5) && (z6 && z7 && z8)) by rw [CB]; simp [hk])
    rw [hk] at E0; clear hk CB
    cases z1; case' true => (cases z3; case' true => (cases z4; case' true => (cases z5; case' true => (cases z6; case' true => (cases z7; case' true => (cases z8))))))
  case' inr.inr.inl =>
    have CV := Aside0.mk (show cleanB x = ((z1) && (z2) && (z4 && z5) && (z6 && z7 && z8)) by rw [CB]; simp [hk])
    rw [hk] at E0; clear hk CB
    cases z1; case' true => (cases z2; case' true => (cases z4; case' true => (cases z5; case' true => (cases z6; case' true => (cases z7; case' true => (cases z8))))))
  case' inr.inr.inr.inl =>
    have CV := Aside0.mk (show cleanB x = ((z1) && (z2) && (z3) && (z6 && z7 && z8)) by rw [CB]; simp [hk])
    rw [hk] at E0; clear hk CB
    cases z1; case' true => (cases z2; case' true => (cases z3; case' true => (cases z6; case' true => (cases z7; case' true => (cases z8)))))
  case' inr.inr.inr.inr.inl =>
    have CV := Aside0.mk (show cleanB x = ((z1) && (z2) && (z3) && (z4 && z5)) by rw [CB]; simp [hk])
    rw [hk] at E0; clear hk CB
    cases z1; case' true => (cases z2; case' true => (cases z3; case' true => (cases z4; case' true => (cases z5))))
  case' inr.inr.inr.inr.inr =>
    have b1 : (x.f0 == 1) = false := by simpa using hk.1
    have b2 : (x.f0 == 2) = false := by simpa using hk.2.1
    have b3 : (x.f0 == 3) = false := by simpa using hk.2.2.1
    have b4 : (x.f0 == 4) = false := by simpa using hk.2.2.2.1
    have b7 : (x.f0 == 7) = false := by simpa using hk.2.2.2.2
    have CV := Aside0.mk (show cleanB x = ((z1) && (z2) && (z3) && (z4 && z5) && (z6 && z7 && z8)) by rw [CB]; simp [b1, b2, b3, b4, b7])
    clear hk CB
    cases z1; case' true => (cases z2; case' true => (cases z3; case' true => (cases z4; case' true => (cases z5; case' true => (cases z6; case' true => (cases z7; case' true => (cases z8)))))))
  all_goals (
    go_enter Tryz.func50, Tryz.ntmps50
    go_wp2_with (first
      | ((with_reducible refine gate_dst (N := 1) rfl ?_); refine box_ 39 (.tmp 0) rfl rfl cs.toArray rfl ?_; intro gb hg w1 hb hB; have X1 := Aside0.mk hb; have q0 := (blk_cell hb 0).trans (by simpa using E0.out); have q1 := (blk_cell hb 1).trans (by simpa using E1.out); have q12 := (blk_cell hb 12).trans (by simpa using E12.out); have q13 := (blk_cell hb 13).trans (by simpa using E13.out); have q14 := (blk_cell hb 14).trans (by simpa using E14.out); have q15 := (blk_cell hb 15).trans (by simpa using E15.out); have q16 := (blk_cell hb 16).trans (by simpa using E16.out); have q17 := (blk_cell hb 17).trans (by simpa using E17.out); have B1 := Aside0.mk hB; clear hb hB hg)
      | ((with_reducible refine gate_dst (N := 31) rfl ?_); refine loadW_ 35 (.tmp 30) rfl ?hw ⟨gb, 2, none⟩ ?hx (testCells x.f2) _ Tryz.underlying35 ?hi (sub_ X1.out _ _ _ HA.out) ?_; (case hw => first | rfl | (simp [Region.wanted, yielded]; done)); (case hx => first | rfl | (go_simp; done) | (go_simp; rfl)); (case hi => kernel_rfl))
      | ((with_reducible refine gate_dst (N := 32) rfl ?_); refine buildW_ 35 rfl ?hw (testCells zeroT) HZ.out ?_; (case hw => first | rfl | (simp [Region.wanted, yielded]; done))))
    go_ret
    exact ⟨by rw [CV.out]; rfl, B1.out⟩)
end Pl

end

end Go.Proofs.YtlpgnkndjmfcjaaGreat.PFnPlanUses
