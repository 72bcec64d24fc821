/- The comparison eqPlan tells whether two plans are the same, if eqPlanS does so for the plans under them. -/
import Derived.Test.YtlpgnkndjmfcjaaPlEqDef
namespace Go.Proofs.Ytlpgnkndjmfcjaa.PFnExactPlanSame
open Go.RowKit Go.Proofs.YtlpgnkndjmfcjaaW.PrintWords Go.Proofs.YtlpgnkndjmfcjaaW.PrintLast Go.Proofs.YtlpgnkndjmfcjaaW.PrintMore
attribute [local go_sem] max2_int min2_int max_two min_two max_three min_three max_four min_four   -- for this text's walks alone
set_option linter.unusedVariables false
set_option linter.unusedSimpArgs false
namespace Pl
def EqS (N : Nat) : Prop := ∀ (xs ys : List (S39)) (A B : Option Addr) (c d : Nat) (w : World), szs39 xs ≤ N → Kd.C k39 w A xs.length xs → xs.length ≤ c → Kd.C k39 w B ys.length ys → ys.length ≤ d → xs.length ≤ 1048576 → (∀ y ∈ xs, Small39 y) →
  Calls Try.prog 29 #[.slice A xs.length c, .slice B ys.length d] w fun e w' => e = .returned (.bool (sames xs ys)) ∧ Below w.heap.size w w'
def EqP (N : Nat) : Prop := ∀ (x y : S39) (ca cb : Array Value) (w : World), sz39 x ≤ N → k39.K w x ca.toList → k39.K w y cb.toList → Small39 x →
  Calls Try.prog 10 #[.agg ca, .agg cb] w fun e w' => e = .returned (.bool (same x y)) ∧ Below w.heap.size w w'
set_option maxHeartbeats 8000000 in
set_option maxRecDepth 100000 in
theorem eqPlan_step (N : Nat) (hS : EqS N) : EqP (N + 1) := by
  intro x y ca cb w hn hK hK' hok
  have hkids : szs39 x.f9 ≤ N := by have := sz39_kids x; omega
  obtain ⟨A12, c12, A15, c15, A18, c18, hca, l12, g12, l15, g15, l18, g18⟩ := k39_open hK
  obtain ⟨B12, d12, B15, d15, B18, d18, hcb, m12, j12, m15, j15, m18, j18⟩ := k39_open hK'
  have a0 : ca[0]? = some (.int .i64 x.f0) := by rw [← Array.getElem?_toList, hca]; rfl
  have a1 : ca[1]? = some (.int .i64 x.f1) := by rw [← Array.getElem?_toList, hca]; rfl
  have a12 : ca[12]? = some (.slice A12 x.f3.length c12) := by rw [← Array.getElem?_toList, hca]; rfl
  have a13 : ca[13]? = some (.int .i64 x.f4) := by rw [← Array.getElem?_toList, hca]; rfl
  have a14 : ca[14]? = some (.int .i64 x.f5) := by rw [← Array.getElem?_toList, hca]; rfl
  have a15 : ca[15]? = some (.slice A15 x.f6.length c15) := by rw [← Array.getElem?_toList, hca]; rfl
  have a16 : ca[16]? = some (.int .i64 x.f7) := by rw [← Array.getElem?_toList, hca]; rfl
  have a17 : ca[17]? = some (.int .i64 x.f8) := by rw [← Array.getElem?_toList, hca]; rfl
  have a18 : ca[18]? = some (.slice A18 x.f9.length c18) := by rw [← Array.getElem?_toList, hca]; rfl
  have HA := Aside0.mk (show ca.toList = [.int .i64 x.f0, .int .i64 x.f1] ++ (testCells x.f2 ++ [.slice A12 x.f3.length c12, .int .i64 x.f4, .int .i64 x.f5, .slice A15 x.f6.length c15, .int .i64 x.f7, .int .i64 x.f8, .slice A18 x.f9.length c18]) from hca)
  have b0 : cb[0]? = some (.int .i64 y.f0) := by rw [← Array.getElem?_toList, hcb]; rfl
  have b1 : cb[1]? = some (.int .i64 y.f1) := by rw [← Array.getElem?_toList, hcb]; rfl
  have b12 : cb[12]? = some (.slice B12 y.f3.length d12) := by rw [← Array.getElem?_toList, hcb]; rfl
  have b13 : cb[13]? = some (.int .i64 y.f4) := by rw [← Array.getElem?_toList, hcb]; rfl
  have b14 : cb[14]? = some (.int .i64 y.f5) := by rw [← Array.getElem?_toList, hcb]; rfl
  have b15 : cb[15]? = some (.slice B15 y.f6.length d15) := by rw [← Array.getElem?_toList, hcb]; rfl
  have b16 : cb[16]? = some (.int .i64 y.f7) := by rw [← Array.getElem?_toList, hcb]; rfl
  have b17 : cb[17]? = some (.int .i64 y.f8) := by rw [← Array.getElem?_toList, hcb]; rfl
  have b18 : cb[18]? = some (.slice B18 y.f9.length d18) := by rw [← Array.getElem?_toList, hcb]; rfl
  have HB := Aside0.mk (show cb.toList = [.int .i64 y.f0, .int .i64 y.f1] ++ (testCells y.f2 ++ [.slice B12 y.f3.length d12, .int .i64 y.f4, .int .i64 y.f5, .slice B15 y.f6.length d15, .int .i64 y.f7, .int .i64 y.f8, .slice B18 y.f9.length d18]) from hcb)
  have ok := hok.out
  have C12 := Aside0.mk (fun w hr hr' => eqCellS_c A12 c12 x.f3 B12 d12 y.f3 w ok.1 hr l12 hr' m12)
  have C15 := Aside0.mk (fun w hr hr' => eqIntS_c A15 c15 x.f6 B15 d15 y.f6 w ok.2.1 hr l15 hr' m15)
  have C18 := Aside0.mk (fun w hr hr' => hS x.f9 y.f9 A18 B18 c18 d18 w hkids hr l18 hr' m18 ok.2.2.1 ok.2.2.2)
  have G12 := Aside0.mk g12
  have G15 := Aside0.mk g15
  have G18 := Aside0.mk g18
  have J12 := Aside0.mk j12
  have J15 := Aside0.mk j15
  have J18 := Aside0.mk j18
  have T0 := Aside0.mk (Below.refl w.heap.size w)
  have KIDS := Aside0.mk (@same_kids x y)
  obtain ⟨t2, ht2⟩ : ∃ t, t = decide (x.f2 = y.f2) := ⟨_, rfl⟩
  obtain ⟨t3, ht3⟩ : ∃ t, t = decide (x.f3 = y.f3) := ⟨_, rfl⟩
  obtain ⟨t6, ht6⟩ : ∃ t, t = decide (x.f6 = y.f6) := ⟨_, rfl⟩
  obtain ⟨t9, ht9⟩ : ∃ t, t = sames x.f9 y.f9 := ⟨_, rfl⟩
  have C2 := Aside0.mk (fun w => eqTest_c x.f2 y.f2 w)
  rw [← ht2] at C2
  rw [← ht3] at C12
  rw [← ht6] at C15
  rw [← ht9] at C18
  have T2 := Aside0.mk ht2
  have T3 := Aside0.mk ht3
  have T6 := Aside0.mk ht6
  have T9 := Aside0.mk ht9
  clear ht2 ht3 ht6 ht9
  clear hS l12 l15 l18 g12 g15 g18 m12 m15 m18 j12 j15 j18 ok hok hca hcb hK hK' hkids hn
  go_enter Try.func10, Try.ntmps10
  go_wp2_with (first
    | ((with_reducible refine gate_dst (N := 2) rfl ?_); refine box_ 39 (.tmp 0) rfl rfl ca rfl ?_; intro ga hga w1 hb1 hB1; have B1 := Aside0.mk (below_step T0.out hB1); have X1 := Aside0.mk hb1; clear hb1 hB1 hga T0)
    | ((with_reducible refine gate_dst (N := 3) rfl ?_); refine box_ 39 (.tmp 1) rfl rfl cb rfl ?_; intro gb hgb w2 hb2 hB2; have E := Aside0.mk (show ES w ga gb ca cb w2 from ⟨(hB2.block ga (blk_lt X1.out)).trans X1.out, hb2, below_step B1.out hB2⟩); have qa := E.out.cellA; have qb := E.out.cellB; clear hb2 hB2 hgb B1 X1)
    | ((with_reducible refine gate_dst (N := 16) rfl ?_); refine load_ 35 (.tmp 15) rfl rfl ⟨ga, 2, none⟩ ?hx (testCells x.f2) _ Try.underlying35 ?hi (sub_ E.out.hA _ _ _ HA.out) ?_; (case hx => first | rfl | (go_simp; done) | (go_simp; rfl)); (case hi => kernel_rfl))
    | ((with_reducible refine gate_dst (N := 18) rfl ?_); refine load_ 35 (.tmp 17) rfl rfl ⟨gb, 2, none⟩ ?hx (testCells y.f2) _ Try.underlying35 ?hi (sub_ E.out.hB _ _ _ HB.out) ?_; (case hx => first | rfl | (go_simp; done) | (go_simp; rfl)); (case hi => kernel_rfl))
    | (go_at_call 27; refine (C2.out _).mono ?_; rintro e w3 ⟨rfl, hB⟩; have E2 := Aside0.mk (E.out.call hB); clear qa qb E; have E := E2; have qa := E.out.cellA; have qb := E.out.cellB; clear hB E2)
    | (go_at_call 28; refine (C12.out _ (Kd.C_below G12.out E.out.bel) (Kd.C_below J12.out E.out.bel)).mono ?_; rintro e w4 ⟨rfl, hB⟩; have E2 := Aside0.mk (E.out.call hB); clear qa qb E; have E := E2; have qa := E.out.cellA; have qb := E.out.cellB; clear hB E2)
    | (go_at_call 16; refine (C15.out _ (Kd.C_below G15.out E.out.bel) (Kd.C_below J15.out E.out.bel)).mono ?_; rintro e w5 ⟨rfl, hB⟩; have E2 := Aside0.mk (E.out.call hB); clear qa qb E; have E := E2; have qa := E.out.cellA; have qb := E.out.cellB; clear hB E2)
    | (go_at_call 29; refine (C18.out _ (Kd.C_below G18.out E.out.bel) (Kd.C_below J18.out E.out.bel)).mono ?_; rintro e w6 ⟨rfl, hB⟩; have E2 := Aside0.mk (E.out.call hB); clear qa qb E; have E := E2; have qa := E.out.cellA; have qb := E.out.cellB; clear hB E2))
  all_goals go_ret
  all_goals (refine ⟨?_, E.out.bel⟩)
  all_goals clear C2 C12 C15 C18 G12 G15 G18 J12 J15 J18 E qa qb
  · rw [same_no (x := x) (y := y) (fun e => by have h : (x.f0 != y.f0) = true := (by assumption); rw [e] at h; simp at h)]; rfl
  · rw [same_no (x := x) (y := y) (fun e => by have h : (x.f1 != y.f1) = true := (by assumption); rw [e] at h; simp at h)]; rfl
  · rw [same_no (x := x) (y := y) (fun e => by have h : (!t2) = true := (by assumption); rw [T2.out] at h; rw [e] at h; simp at h)]; rfl
  · rw [same_no (x := x) (y := y) (fun e => by have h : (!t3) = true := (by assumption); rw [T3.out] at h; rw [e] at h; simp at h)]; rfl
  · rw [same_no (x := x) (y := y) (fun e => by have h : (x.f4 != y.f4) = true := (by assumption); rw [e] at h; simp at h)]; rfl
  · rw [same_no (x := x) (y := y) (fun e => by have h : (x.f5 != y.f5) = true := (by assumption); rw [e] at h; simp at h)]; rfl
  · rw [same_no (x := x) (y := y) (fun e => by have h : (!t6) = true := (by assumption); rw [T6.out] at h; rw [e] at h; simp at h)]; rfl
  · rw [same_no (x := x) (y := y) (fun e => by have h : (x.f7 != y.f7) = true := (by assumption); rw [e] at h; simp at h)]; rfl
  · rw [same_no (x := x) (y := y) (fun e => by have h : (x.f8 != y.f8) = true := (by assumption); rw [e] at h; simp at h)]; rfl
  · rw [same_no (x := x) (y := y) (fun e => by have h : (!t9) = true := (by assumption); rw [T9.out, e, sames_iff.2 rfl] at h; simp at h)]; rfl
  · rw [KIDS.out (by have h : (x.f0 != y.f0) = false := (by assumption); simpa using h) (by have h : (x.f1 != y.f1) = false := (by assumption); simpa using h) (by have h : (!t2) = false := (by assumption); rw [T2.out] at h; simpa using h) (by have h : (!t3) = false := (by assumption); rw [T3.out] at h; simpa using h) (by have h : (x.f4 != y.f4) = false := (by assumption); simpa using h) (by have h : (x.f5 != y.f5) = false := (by assumption); simpa using h) (by have h : (!t6) = false := (by assumption); rw [T6.out] at h; simpa using h) (by have h : (x.f7 != y.f7) = false := (by assumption); simpa using h) (by have h : (x.f8 != y.f8) = false := (by assumption); simpa using h), ← T9.out]
    have h : (!t9) = false := by assumption
    have h2 : t9 = true := by simpa using h
    rw [h2]; rfl
end Pl

end Go.Proofs.Ytlpgnkndjmfcjaa.PFnExactPlanSame
