/- The given spec.PlanSame tells whether two plans are the same, for two plans of at most 2^20 parts each. -/
import Derived.Test.YtlpgnkndjmfcjaaPlPs3
namespace Go.Proofs.Ytlpgnkndjmfcjaa.PFnExactPlanSame
open Go.RowKit Go.Proofs.YtlpgnkndjmfcjaaW.PrintWords Go.Proofs.YtlpgnkndjmfcjaaW.PrintLast Go.Proofs.YtlpgnkndjmfcjaaW.PrintMore
attribute [local go_sem] max2_int min2_int max_two min_two max_three min_three max_four min_four   -- for this text's walks alone
set_option linter.unusedVariables false
set_option linter.unusedSimpArgs false
attribute [local go_sem high] Pl.eqT Pl.eqC
namespace Pl
def SpP (N : Nat) : Prop := ∀ (x y : S39) (ca cb : Array Value) (w : World), sz39 x ≤ N → k39.K w x ca.toList → k39.K w y cb.toList → Small39 x → Small39 y →
  Calls Try.prog 7 #[.agg ca, .agg cb] w fun e w' => e = .returned (.bool (same x y)) ∧ Below w.heap.size w w'
theorem cells_drop (x y : List S33) (i : Nat) (hx : i < x.length) (hy : i < y.length) : decide (x.drop i = y.drop i) = (decide (x[i] = y[i]) && decide (x.drop (i + 1) = y.drop (i + 1))) := by
  rw [List.drop_eq_getElem_cons hx, List.drop_eq_getElem_cons hy, Bool.eq_iff_iff, Bool.and_eq_true, decide_eq_true_eq, decide_eq_true_eq, decide_eq_true_eq]
  exact ⟨fun h => by injection h with h1 h2; exact ⟨h1, h2⟩, fun h => by rw [h.1, h.2]⟩
theorem ES.drew {w : World} {ga gb : Nat} {ca cb : Array Value} {W : World} (h : ES w ga gb ca cb W) : ES w ga gb ca cb W.drew := h.call (Below.refl _ _).drew
set_option maxHeartbeats 16000000 in
set_option maxRecDepth 100000 in
theorem specSame_step (N : Nat) (hP : ∀ M, M ≤ N → SpP M) : SpP (N + 1) := by
  intro x y ca cb w hn hK hK' hok hok'
  have hkids : szs39 x.f9 ≤ N := by have := sz39_kids x; omega
  obtain ⟨A12, c12, A15, c15, A18, c18, hca, l12, g12, l15, g15, l18, g18⟩ := k39_open hK
  obtain ⟨B12, d12, B15, d15, B18, d18, hcb, m12, j12, m15, j15, m18, j18⟩ := k39_open hK'
  have a0 : ca[0]? = some (.int .i64 x.f0) := by rw [← Array.getElem?_toList, hca]; rfl
  have a1 : ca[1]? = some (.int .i64 x.f1) := by rw [← Array.getElem?_toList, hca]; rfl
  have a12 : ca[12]? = some (.slice A12 x.f3.length c12) := by rw [← Array.getElem?_toList, hca]; rfl
  have a13 : ca[13]? = some (.int .i64 x.f4) := by rw [← Array.getElem?_toList, hca]; rfl
  have a14 : ca[14]? = some (.int .i64 x.f5) := by rw [← Array.getElem?_toList, hca]; rfl
  have a15 : ca[15]? = some (.slice A15 x.f6.length c15) := by rw [← Array.getElem?_toList, hca]; rfl
  have a16 : ca[16]? = some (.int .i64 x.f7) := by rw [← Array.getElem?_toList, hca]; rfl
  have a17 : ca[17]? = some (.int .i64 x.f8) := by rw [← Array.getElem?_toList, hca]; rfl
  have a18 : ca[18]? = some (.slice A18 x.f9.length c18) := by rw [← Array.getElem?_toList, hca]; rfl
  have HA := Aside0.mk (show ca.toList = [.int .i64 x.f0, .int .i64 x.f1] ++ (testCells x.f2 ++ [.slice A12 x.f3.length c12, .int .i64 x.f4, .int .i64 x.f5, .slice A15 x.f6.length c15, .int .i64 x.f7, .int .i64 x.f8, .slice A18 x.f9.length c18]) from hca)
  have b0 : cb[0]? = some (.int .i64 y.f0) := by rw [← Array.getElem?_toList, hcb]; rfl
  have b1 : cb[1]? = some (.int .i64 y.f1) := by rw [← Array.getElem?_toList, hcb]; rfl
  have b12 : cb[12]? = some (.slice B12 y.f3.length d12) := by rw [← Array.getElem?_toList, hcb]; rfl
  have b13 : cb[13]? = some (.int .i64 y.f4) := by rw [← Array.getElem?_toList, hcb]; rfl
  have b14 : cb[14]? = some (.int .i64 y.f5) := by rw [← Array.getElem?_toList, hcb]; rfl
  have b15 : cb[15]? = some (.slice B15 y.f6.length d15) := by rw [← Array.getElem?_toList, hcb]; rfl
  have b16 : cb[16]? = some (.int .i64 y.f7) := by rw [← Array.getElem?_toList, hcb]; rfl
  have b17 : cb[17]? = some (.int .i64 y.f8) := by rw [← Array.getElem?_toList, hcb]; rfl
  have b18 : cb[18]? = some (.slice B18 y.f9.length d18) := by rw [← Array.getElem?_toList, hcb]; rfl
  have HB := Aside0.mk (show cb.toList = [.int .i64 y.f0, .int .i64 y.f1] ++ (testCells y.f2 ++ [.slice B12 y.f3.length d12, .int .i64 y.f4, .int .i64 y.f5, .slice B15 y.f6.length d15, .int .i64 y.f7, .int .i64 y.f8, .slice B18 y.f9.length d18]) from hcb)
  have ok := hok.out
  have ok' := hok'.out
  have C15 := Aside0.mk (fun w hr hr' => ints_c A15 c15 x.f6 B15 d15 y.f6 w ok.2.1 ok'.2.1 hr l15 hr' m15)
  have G12 := Aside0.mk g12
  have G15 := Aside0.mk g15
  have G18 := Aside0.mk g18
  have J12 := Aside0.mk j12
  have J15 := Aside0.mk j15
  have J18 := Aside0.mk j18
  have OX := Aside0.mk ok.2.2.2
  have OY := Aside0.mk ok'.2.2.2
  have s3 := ok.1
  have s9 := ok.2.2.1
  have HP := Aside0.mk hP
  have HN := Aside0.mk hkids
  have T0 := Aside0.mk (Below.refl w.heap.size w)
  have KIDS := Aside0.mk (@same_kids x y)
  have NO := Aside0.mk (@same_no x y)
  clear hP l12 l15 l18 g12 g15 g18 m12 m15 m18 j12 j15 j18 ok ok' hok hok' hca hcb hK hK' hkids hn
  by_cases h_f0 : x.f0 = y.f0
  rotate_left
  · have q_f0 : (x.f0 != y.f0) = true := by simpa using h_f0
    have NN := Aside0.mk (NO.out (fun e => h_f0 (by rw [e])))
    clear h_f0 KIDS NO
    go_enter Try.func7, Try.ntmps7
    simp only [List.append]
    go_wp2_with (first
      | ((with_reducible refine gate_dst (N := 2) rfl ?_); refine box_ 39 (.tmp 0) rfl rfl ca rfl ?_; intro ga hga w1 hb1 hB1; have B1 := Aside0.mk (below_step T0.out hB1); have X1 := Aside0.mk hb1; clear hb1 hB1 hga T0)
      | ((with_reducible refine gate_dst (N := 3) rfl ?_); refine box_ 39 (.tmp 1) rfl rfl cb rfl ?_; intro gb hgb w2 hb2 hB2; have E := Aside0.mk (show ES w ga gb ca cb w2 from ⟨(hB2.block ga (blk_lt X1.out)).trans X1.out, hb2, below_step B1.out hB2⟩); have qa := E.out.cellA; have qb := E.out.cellB; clear hb2 hB2 hgb B1 X1))
    go_ret
    exact ⟨by rw [NN.out]; rfl, E.out.bel⟩
  have q_f0 : (x.f0 != y.f0) = false := by simpa using h_f0
  have e_f0 := Aside0.mk h_f0
  clear h_f0
  by_cases h_f1 : x.f1 = y.f1
  rotate_left
  · have q_f1 : (x.f1 != y.f1) = true := by simpa using h_f1
    have NN := Aside0.mk (NO.out (fun e => h_f1 (by rw [e])))
    clear h_f1 KIDS NO
    go_enter Try.func7, Try.ntmps7
    simp only [List.append]
    go_wp2_with (first
      | ((with_reducible refine gate_dst (N := 2) rfl ?_); refine box_ 39 (.tmp 0) rfl rfl ca rfl ?_; intro ga hga w1 hb1 hB1; have B1 := Aside0.mk (below_step T0.out hB1); have X1 := Aside0.mk hb1; clear hb1 hB1 hga T0)
      | ((with_reducible refine gate_dst (N := 3) rfl ?_); refine box_ 39 (.tmp 1) rfl rfl cb rfl ?_; intro gb hgb w2 hb2 hB2; have E := Aside0.mk (show ES w ga gb ca cb w2 from ⟨(hB2.block ga (blk_lt X1.out)).trans X1.out, hb2, below_step B1.out hB2⟩); have qa := E.out.cellA; have qb := E.out.cellB; clear hb2 hB2 hgb B1 X1))
    go_ret
    exact ⟨by rw [NN.out]; rfl, E.out.bel⟩
  have q_f1 : (x.f1 != y.f1) = false := by simpa using h_f1
  have e_f1 := Aside0.mk h_f1
  clear h_f1
  by_cases h_f2 : x.f2 = y.f2
  rotate_left
  · have q_f2 : decide (x.f2 = y.f2) = false := by simpa using h_f2
    have NN := Aside0.mk (NO.out (fun e => h_f2 (by rw [e])))
    clear h_f2 KIDS NO
    go_enter Try.func7, Try.ntmps7
    simp only [List.append]
    go_wp2_with (first
      | ((with_reducible refine gate_dst (N := 2) rfl ?_); refine box_ 39 (.tmp 0) rfl rfl ca rfl ?_; intro ga hga w1 hb1 hB1; have B1 := Aside0.mk (below_step T0.out hB1); have X1 := Aside0.mk hb1; clear hb1 hB1 hga T0)
      | ((with_reducible refine gate_dst (N := 3) rfl ?_); refine box_ 39 (.tmp 1) rfl rfl cb rfl ?_; intro gb hgb w2 hb2 hB2; have E := Aside0.mk (show ES w ga gb ca cb w2 from ⟨(hB2.block ga (blk_lt X1.out)).trans X1.out, hb2, below_step B1.out hB2⟩); have qa := E.out.cellA; have qb := E.out.cellB; clear hb2 hB2 hgb B1 X1)
      | ((with_reducible refine gate_dst (N := 21) rfl ?_); refine loadW_ 35 (.tmp 20) rfl ?hw ⟨ga, 2, none⟩ ?hx (testCells x.f2) _ Try.underlying35 ?hi (sub_ E.out.hA _ _ _ HA.out) ?_; (case hw => first | rfl | (simp [Region.wanted, yielded]; done)); (case hx => first | rfl | (go_simp; done) | (go_simp; rfl)); (case hi => kernel_rfl))
      | ((with_reducible refine gate_dst (N := 23) rfl ?_); refine loadW_ 35 (.tmp 22) rfl ?hw ⟨gb, 2, none⟩ ?hx (testCells y.f2) _ Try.underlying35 ?hi (sub_ E.out.hB _ _ _ HB.out) ?_; (case hw => first | rfl | (simp [Region.wanted, yielded]; done)); (case hx => first | rfl | (go_simp; done) | (go_simp; rfl)); (case hi => kernel_rfl)))
    go_ret
    exact ⟨by rw [NN.out]; rfl, E.out.bel⟩
  have q_f2 : decide (x.f2 = y.f2) = true := by simpa using h_f2
  have e_f2 := Aside0.mk h_f2
  clear h_f2
  by_cases h_f4 : x.f4 = y.f4
  rotate_left
  · have q_f4 : (x.f4 != y.f4) = true := by simpa using h_f4
    have NN := Aside0.mk (NO.out (fun e => h_f4 (by rw [e])))
    clear h_f4 KIDS NO
    go_enter Try.func7, Try.ntmps7
    simp only [List.append]
    go_wp2_with (first
      | ((with_reducible refine gate_dst (N := 2) rfl ?_); refine box_ 39 (.tmp 0) rfl rfl ca rfl ?_; intro ga hga w1 hb1 hB1; have B1 := Aside0.mk (below_step T0.out hB1); have X1 := Aside0.mk hb1; clear hb1 hB1 hga T0)
      | ((with_reducible refine gate_dst (N := 3) rfl ?_); refine box_ 39 (.tmp 1) rfl rfl cb rfl ?_; intro gb hgb w2 hb2 hB2; have E := Aside0.mk (show ES w ga gb ca cb w2 from ⟨(hB2.block ga (blk_lt X1.out)).trans X1.out, hb2, below_step B1.out hB2⟩); have qa := E.out.cellA; have qb := E.out.cellB; clear hb2 hB2 hgb B1 X1)
      | ((with_reducible refine gate_dst (N := 21) rfl ?_); refine loadW_ 35 (.tmp 20) rfl ?hw ⟨ga, 2, none⟩ ?hx (testCells x.f2) _ Try.underlying35 ?hi (sub_ E.out.hA _ _ _ HA.out) ?_; (case hw => first | rfl | (simp [Region.wanted, yielded]; done)); (case hx => first | rfl | (go_simp; done) | (go_simp; rfl)); (case hi => kernel_rfl))
      | ((with_reducible refine gate_dst (N := 23) rfl ?_); refine loadW_ 35 (.tmp 22) rfl ?hw ⟨gb, 2, none⟩ ?hx (testCells y.f2) _ Try.underlying35 ?hi (sub_ E.out.hB _ _ _ HB.out) ?_; (case hw => first | rfl | (simp [Region.wanted, yielded]; done)); (case hx => first | rfl | (go_simp; done) | (go_simp; rfl)); (case hi => kernel_rfl)))
    go_ret
    exact ⟨by rw [NN.out]; rfl, E.out.bel⟩
  have q_f4 : (x.f4 != y.f4) = false := by simpa using h_f4
  have e_f4 := Aside0.mk h_f4
  clear h_f4
  by_cases h_f5 : x.f5 = y.f5
  rotate_left
  · have q_f5 : (x.f5 != y.f5) = true := by simpa using h_f5
    have NN := Aside0.mk (NO.out (fun e => h_f5 (by rw [e])))
    clear h_f5 KIDS NO
    go_enter Try.func7, Try.ntmps7
    simp only [List.append]
    go_wp2_with (first
      | ((with_reducible refine gate_dst (N := 2) rfl ?_); refine box_ 39 (.tmp 0) rfl rfl ca rfl ?_; intro ga hga w1 hb1 hB1; have B1 := Aside0.mk (below_step T0.out hB1); have X1 := Aside0.mk hb1; clear hb1 hB1 hga T0)
      | ((with_reducible refine gate_dst (N := 3) rfl ?_); refine box_ 39 (.tmp 1) rfl rfl cb rfl ?_; intro gb hgb w2 hb2 hB2; have E := Aside0.mk (show ES w ga gb ca cb w2 from ⟨(hB2.block ga (blk_lt X1.out)).trans X1.out, hb2, below_step B1.out hB2⟩); have qa := E.out.cellA; have qb := E.out.cellB; clear hb2 hB2 hgb B1 X1)
      | ((with_reducible refine gate_dst (N := 21) rfl ?_); refine loadW_ 35 (.tmp 20) rfl ?hw ⟨ga, 2, none⟩ ?hx (testCells x.f2) _ Try.underlying35 ?hi (sub_ E.out.hA _ _ _ HA.out) ?_; (case hw => first | rfl | (simp [Region.wanted, yielded]; done)); (case hx => first | rfl | (go_simp; done) | (go_simp; rfl)); (case hi => kernel_rfl))
      | ((with_reducible refine gate_dst (N := 23) rfl ?_); refine loadW_ 35 (.tmp 22) rfl ?hw ⟨gb, 2, none⟩ ?hx (testCells y.f2) _ Try.underlying35 ?hi (sub_ E.out.hB _ _ _ HB.out) ?_; (case hw => first | rfl | (simp [Region.wanted, yielded]; done)); (case hx => first | rfl | (go_simp; done) | (go_simp; rfl)); (case hi => kernel_rfl)))
    go_ret
    exact ⟨by rw [NN.out]; rfl, E.out.bel⟩
  have q_f5 : (x.f5 != y.f5) = false := by simpa using h_f5
  have e_f5 := Aside0.mk h_f5
  clear h_f5
  by_cases h_f7 : x.f7 = y.f7
  rotate_left
  · have q_f7 : (x.f7 != y.f7) = true := by simpa using h_f7
    have NN := Aside0.mk (NO.out (fun e => h_f7 (by rw [e])))
    clear h_f7 KIDS NO
    go_enter Try.func7, Try.ntmps7
    simp only [List.append]
    go_wp2_with (first
      | ((with_reducible refine gate_dst (N := 2) rfl ?_); refine box_ 39 (.tmp 0) rfl rfl ca rfl ?_; intro ga hga w1 hb1 hB1; have B1 := Aside0.mk (below_step T0.out hB1); have X1 := Aside0.mk hb1; clear hb1 hB1 hga T0)
      | ((with_reducible refine gate_dst (N := 3) rfl ?_); refine box_ 39 (.tmp 1) rfl rfl cb rfl ?_; intro gb hgb w2 hb2 hB2; have E := Aside0.mk (show ES w ga gb ca cb w2 from ⟨(hB2.block ga (blk_lt X1.out)).trans X1.out, hb2, below_step B1.out hB2⟩); have qa := E.out.cellA; have qb := E.out.cellB; clear hb2 hB2 hgb B1 X1)
      | ((with_reducible refine gate_dst (N := 21) rfl ?_); refine loadW_ 35 (.tmp 20) rfl ?hw ⟨ga, 2, none⟩ ?hx (testCells x.f2) _ Try.underlying35 ?hi (sub_ E.out.hA _ _ _ HA.out) ?_; (case hw => first | rfl | (simp [Region.wanted, yielded]; done)); (case hx => first | rfl | (go_simp; done) | (go_simp; rfl)); (case hi => kernel_rfl))
      | ((with_reducible refine gate_dst (N := 23) rfl ?_); refine loadW_ 35 (.tmp 22) rfl ?hw ⟨gb, 2, none⟩ ?hx (testCells y.f2) _ Try.underlying35 ?hi (sub_ E.out.hB _ _ _ HB.out) ?_; (case hw => first | rfl | (simp [Region.wanted, yielded]; done)); (case hx => first | rfl | (go_simp; done) | (go_simp; rfl)); (case hi => kernel_rfl)))
    go_ret
    exact ⟨by rw [NN.out]; rfl, E.out.bel⟩
  have q_f7 : (x.f7 != y.f7) = false := by simpa using h_f7
  have e_f7 := Aside0.mk h_f7
  clear h_f7
  by_cases h_f8 : x.f8 = y.f8
  rotate_left
  · have q_f8 : (x.f8 != y.f8) = true := by simpa using h_f8
    have NN := Aside0.mk (NO.out (fun e => h_f8 (by rw [e])))
    clear h_f8 KIDS NO
    go_enter Try.func7, Try.ntmps7
    simp only [List.append]
    go_wp2_with (first
      | ((with_reducible refine gate_dst (N := 2) rfl ?_); refine box_ 39 (.tmp 0) rfl rfl ca rfl ?_; intro ga hga w1 hb1 hB1; have B1 := Aside0.mk (below_step T0.out hB1); have X1 := Aside0.mk hb1; clear hb1 hB1 hga T0)
      | ((with_reducible refine gate_dst (N := 3) rfl ?_); refine box_ 39 (.tmp 1) rfl rfl cb rfl ?_; intro gb hgb w2 hb2 hB2; have E := Aside0.mk (show ES w ga gb ca cb w2 from ⟨(hB2.block ga (blk_lt X1.out)).trans X1.out, hb2, below_step B1.out hB2⟩); have qa := E.out.cellA; have qb := E.out.cellB; clear hb2 hB2 hgb B1 X1)
      | ((with_reducible refine gate_dst (N := 21) rfl ?_); refine loadW_ 35 (.tmp 20) rfl ?hw ⟨ga, 2, none⟩ ?hx (testCells x.f2) _ Try.underlying35 ?hi (sub_ E.out.hA _ _ _ HA.out) ?_; (case hw => first | rfl | (simp [Region.wanted, yielded]; done)); (case hx => first | rfl | (go_simp; done) | (go_simp; rfl)); (case hi => kernel_rfl))
      | ((with_reducible refine gate_dst (N := 23) rfl ?_); refine loadW_ 35 (.tmp 22) rfl ?hw ⟨gb, 2, none⟩ ?hx (testCells y.f2) _ Try.underlying35 ?hi (sub_ E.out.hB _ _ _ HB.out) ?_; (case hw => first | rfl | (simp [Region.wanted, yielded]; done)); (case hx => first | rfl | (go_simp; done) | (go_simp; rfl)); (case hi => kernel_rfl)))
    go_ret
    exact ⟨by rw [NN.out]; rfl, E.out.bel⟩
  have q_f8 : (x.f8 != y.f8) = false := by simpa using h_f8
  have e_f8 := Aside0.mk h_f8
  clear h_f8
  by_cases h_f6 : x.f6 = y.f6
  rotate_left
  · have q_f6 : decide (x.f6 = y.f6) = false := by simpa using h_f6
    have NN := Aside0.mk (NO.out (fun e => h_f6 (by rw [e])))
    clear h_f6 KIDS NO
    go_enter Try.func7, Try.ntmps7
    simp only [List.append]
    go_wp2_with (first
      | ((with_reducible refine gate_dst (N := 2) rfl ?_); refine box_ 39 (.tmp 0) rfl rfl ca rfl ?_; intro ga hga w1 hb1 hB1; have B1 := Aside0.mk (below_step T0.out hB1); have X1 := Aside0.mk hb1; clear hb1 hB1 hga T0)
      | ((with_reducible refine gate_dst (N := 3) rfl ?_); refine box_ 39 (.tmp 1) rfl rfl cb rfl ?_; intro gb hgb w2 hb2 hB2; have E := Aside0.mk (show ES w ga gb ca cb w2 from ⟨(hB2.block ga (blk_lt X1.out)).trans X1.out, hb2, below_step B1.out hB2⟩); have qa := E.out.cellA; have qb := E.out.cellB; clear hb2 hB2 hgb B1 X1)
      | ((with_reducible refine gate_dst (N := 21) rfl ?_); refine loadW_ 35 (.tmp 20) rfl ?hw ⟨ga, 2, none⟩ ?hx (testCells x.f2) _ Try.underlying35 ?hi (sub_ E.out.hA _ _ _ HA.out) ?_; (case hw => first | rfl | (simp [Region.wanted, yielded]; done)); (case hx => first | rfl | (go_simp; done) | (go_simp; rfl)); (case hi => kernel_rfl))
      | ((with_reducible refine gate_dst (N := 23) rfl ?_); refine loadW_ 35 (.tmp 22) rfl ?hw ⟨gb, 2, none⟩ ?hx (testCells y.f2) _ Try.underlying35 ?hi (sub_ E.out.hB _ _ _ HB.out) ?_; (case hw => first | rfl | (simp [Region.wanted, yielded]; done)); (case hx => first | rfl | (go_simp; done) | (go_simp; rfl)); (case hi => kernel_rfl))
      | (go_at_call 20; refine (C15.out _ (Kd.C_below G15.out E.out.bel) (Kd.C_below J15.out E.out.bel)).mono ?_; rintro e w4 ⟨rfl, hB⟩; have E2 := Aside0.mk (E.out.call hB); clear qa qb E; have E := E2; have qa := E.out.cellA; have qb := E.out.cellB; clear hB E2))
    go_ret
    exact ⟨by rw [NN.out]; rfl, E.out.bel⟩
  have q_f6 : decide (x.f6 = y.f6) = true := by simpa using h_f6
  have e_f6 := Aside0.mk h_f6
  clear h_f6
  by_cases h_f3 : x.f3.length = y.f3.length
  rotate_left
  · have q_f3 : ((x.f3.length : Int) != (y.f3.length : Int)) = true := by simp; omega
    have q2_f3 : (x.f3.length != y.f3.length) = true := by simp; omega
    have q3_f3 : (x.f3.length == y.f3.length) = false := by simp; omega
    have NN := Aside0.mk (NO.out (fun e => h_f3 (by rw [e])))
    clear h_f3 KIDS NO
    go_enter Try.func7, Try.ntmps7
    simp only [List.append]
    go_wp2_with (first
      | ((with_reducible refine gate_dst (N := 2) rfl ?_); refine box_ 39 (.tmp 0) rfl rfl ca rfl ?_; intro ga hga w1 hb1 hB1; have B1 := Aside0.mk (below_step T0.out hB1); have X1 := Aside0.mk hb1; clear hb1 hB1 hga T0)
      | ((with_reducible refine gate_dst (N := 3) rfl ?_); refine box_ 39 (.tmp 1) rfl rfl cb rfl ?_; intro gb hgb w2 hb2 hB2; have E := Aside0.mk (show ES w ga gb ca cb w2 from ⟨(hB2.block ga (blk_lt X1.out)).trans X1.out, hb2, below_step B1.out hB2⟩); have qa := E.out.cellA; have qb := E.out.cellB; clear hb2 hB2 hgb B1 X1)
      | ((with_reducible refine gate_dst (N := 21) rfl ?_); refine loadW_ 35 (.tmp 20) rfl ?hw ⟨ga, 2, none⟩ ?hx (testCells x.f2) _ Try.underlying35 ?hi (sub_ E.out.hA _ _ _ HA.out) ?_; (case hw => first | rfl | (simp [Region.wanted, yielded]; done)); (case hx => first | rfl | (go_simp; done) | (go_simp; rfl)); (case hi => kernel_rfl))
      | ((with_reducible refine gate_dst (N := 23) rfl ?_); refine loadW_ 35 (.tmp 22) rfl ?hw ⟨gb, 2, none⟩ ?hx (testCells y.f2) _ Try.underlying35 ?hi (sub_ E.out.hB _ _ _ HB.out) ?_; (case hw => first | rfl | (simp [Region.wanted, yielded]; done)); (case hx => first | rfl | (go_simp; done) | (go_simp; rfl)); (case hi => kernel_rfl))
      | (go_at_call 20; refine (C15.out _ (Kd.C_below G15.out E.out.bel) (Kd.C_below J15.out E.out.bel)).mono ?_; rintro e w4 ⟨rfl, hB⟩; have E2 := Aside0.mk (E.out.call hB); clear qa qb E; have E := E2; have qa := E.out.cellA; have qb := E.out.cellB; clear hB E2))
    go_ret
    exact ⟨by rw [NN.out]; rfl, E.out.bel⟩
  have q_f3 : ((x.f3.length : Int) != (y.f3.length : Int)) = false := by simp; omega
  have q2_f3 : (x.f3.length != y.f3.length) = false := by simp; omega
  have q3_f3 : (x.f3.length == y.f3.length) = true := by simp; omega
  have e_f3 := Aside0.mk h_f3
  clear h_f3
  by_cases h_f9 : x.f9.length = y.f9.length
  rotate_left
  · have q_f9 : ((x.f9.length : Int) != (y.f9.length : Int)) = true := by simp; omega
    have q2_f9 : (x.f9.length != y.f9.length) = true := by simp; omega
    have q3_f9 : (x.f9.length == y.f9.length) = false := by simp; omega
    have NN := Aside0.mk (NO.out (fun e => h_f9 (by rw [e])))
    clear h_f9 KIDS NO
    go_enter Try.func7, Try.ntmps7
    simp only [List.append]
    go_wp2_with (first
      | ((with_reducible refine gate_dst (N := 2) rfl ?_); refine box_ 39 (.tmp 0) rfl rfl ca rfl ?_; intro ga hga w1 hb1 hB1; have B1 := Aside0.mk (below_step T0.out hB1); have X1 := Aside0.mk hb1; clear hb1 hB1 hga T0)
      | ((with_reducible refine gate_dst (N := 3) rfl ?_); refine box_ 39 (.tmp 1) rfl rfl cb rfl ?_; intro gb hgb w2 hb2 hB2; have E := Aside0.mk (show ES w ga gb ca cb w2 from ⟨(hB2.block ga (blk_lt X1.out)).trans X1.out, hb2, below_step B1.out hB2⟩); have qa := E.out.cellA; have qb := E.out.cellB; clear hb2 hB2 hgb B1 X1)
      | ((with_reducible refine gate_dst (N := 21) rfl ?_); refine loadW_ 35 (.tmp 20) rfl ?hw ⟨ga, 2, none⟩ ?hx (testCells x.f2) _ Try.underlying35 ?hi (sub_ E.out.hA _ _ _ HA.out) ?_; (case hw => first | rfl | (simp [Region.wanted, yielded]; done)); (case hx => first | rfl | (go_simp; done) | (go_simp; rfl)); (case hi => kernel_rfl))
      | ((with_reducible refine gate_dst (N := 23) rfl ?_); refine loadW_ 35 (.tmp 22) rfl ?hw ⟨gb, 2, none⟩ ?hx (testCells y.f2) _ Try.underlying35 ?hi (sub_ E.out.hB _ _ _ HB.out) ?_; (case hw => first | rfl | (simp [Region.wanted, yielded]; done)); (case hx => first | rfl | (go_simp; done) | (go_simp; rfl)); (case hi => kernel_rfl))
      | (go_at_call 20; refine (C15.out _ (Kd.C_below G15.out E.out.bel) (Kd.C_below J15.out E.out.bel)).mono ?_; rintro e w4 ⟨rfl, hB⟩; have E2 := Aside0.mk (E.out.call hB); clear qa qb E; have E := E2; have qa := E.out.cellA; have qb := E.out.cellB; clear hB E2))
    go_ret
    exact ⟨by rw [NN.out]; rfl, E.out.bel⟩
  have q_f9 : ((x.f9.length : Int) != (y.f9.length : Int)) = false := by simp; omega
  have q2_f9 : (x.f9.length != y.f9.length) = false := by simp; omega
  have q3_f9 : (x.f9.length == y.f9.length) = true := by simp; omega
  have e_f9 := Aside0.mk h_f9
  clear h_f9
  go_enter Try.func7, Try.ntmps7
  simp only [List.append]
  go_wp2_with (first
    | ((with_reducible refine gate_dst (N := 2) rfl ?_); refine box_ 39 (.tmp 0) rfl rfl ca rfl ?_; intro ga hga w1 hb1 hB1; have B1 := Aside0.mk (below_step T0.out hB1); have X1 := Aside0.mk hb1; clear hb1 hB1 hga T0)
    | ((with_reducible refine gate_dst (N := 3) rfl ?_); refine box_ 39 (.tmp 1) rfl rfl cb rfl ?_; intro gb hgb w2 hb2 hB2; have E := Aside0.mk (show ES w ga gb ca cb w2 from ⟨(hB2.block ga (blk_lt X1.out)).trans X1.out, hb2, below_step B1.out hB2⟩); have qa := E.out.cellA; have qb := E.out.cellB; clear hb2 hB2 hgb B1 X1)
    | ((with_reducible refine gate_dst (N := 21) rfl ?_); refine loadW_ 35 (.tmp 20) rfl ?hw ⟨ga, 2, none⟩ ?hx (testCells x.f2) _ Try.underlying35 ?hi (sub_ E.out.hA _ _ _ HA.out) ?_; (case hw => first | rfl | (simp [Region.wanted, yielded]; done)); (case hx => first | rfl | (go_simp; done) | (go_simp; rfl)); (case hi => kernel_rfl))
    | ((with_reducible refine gate_dst (N := 23) rfl ?_); refine loadW_ 35 (.tmp 22) rfl ?hw ⟨gb, 2, none⟩ ?hx (testCells y.f2) _ Try.underlying35 ?hi (sub_ E.out.hB _ _ _ HB.out) ?_; (case hw => first | rfl | (simp [Region.wanted, yielded]; done)); (case hx => first | rfl | (go_simp; done) | (go_simp; rfl)); (case hi => kernel_rfl))
    | (go_at_call 20; refine (C15.out _ (Kd.C_below G15.out E.out.bel) (Kd.C_below J15.out E.out.bel)).mono ?_; rintro e w4 ⟨rfl, hB⟩; have E2 := Aside0.mk (E.out.call hB); clear qa qb E; have E := E2; have qa := E.out.cellA; have qb := E.out.cellB; clear hB E2))
  clear qa qb
  go_loopw [5] (fun v5 wr => ∃ (i : Nat), v5 = .int .i64 i ∧ i ≤ x.f3.length ∧ Aside0 (decide (x.f3 = y.f3) = decide (x.f3.drop i = y.f3.drop i)) ∧ Aside0 (ES w ga gb ca cb wr)) (fun v5 _ => x.f3.length - (intOf v5).toNat)
  case atStart => exact ⟨0, rfl, Nat.zero_le _, ⟨rfl⟩, E⟩
  case round =>
    clear E
    obtain ⟨i, rfl, hi, HZ, E⟩ := hrel
    by_cases hlt : i < x.f3.length
    · have hlt' : i < y.f3.length := by have := e_f3.out; omega
      have ED := Aside0.mk E.out.drew
      obtain ⟨ad, c0, rfl, -, hK, hcell⟩ := elem_ (Kd.C_below G12.out ED.out.bel) i hlt
      obtain ⟨bd, d0, rfl, -, hK', hdell⟩ := elem_ (Kd.C_below J12.out ED.out.bel) i hlt'
      obtain rfl : c0 = cellCells x.f3[i] := k33_open hK
      obtain rfl : d0 = cellCells y.f3[i] := k33_open hK'
      have HE := Aside0.mk hcell
      have HE' := Aside0.mk hdell
      have GD := Aside0.mk (HZ.out.trans (cells_drop _ _ i hlt hlt'))
      obtain ⟨r, hr⟩ : ∃ r, r = decide (x.f3[i] = y.f3[i]) := ⟨_, rfl⟩
      have RR := Aside0.mk hr
      rw [← hr] at GD
      clear hK hK' hcell hdell HZ hr
      have qa := E.out.cellA
      have qb := E.out.cellB
      go_wp2
      clear qa qb
      have qa := ED.out.cellA
      have qb := ED.out.cellB
      have EQ : ∀ d w, (Op.equalIn (d + 2) 33 (.agg (cellCells x.f3[i]).toArray) (.agg (cellCells y.f3[i]).toArray)).run Try.prog w = .ok r w := fun d w => by rw [RR.out]; exact eqC d w _ _
      refine wp_region_still_lit (by kernel_rfl) (by kernel_rfl) ?_
      change wpStill _ _ wr.drew _ _ _
      still_step
      still_step
      still_step
      still_step
      refine still_load_ 33 (.tmp 90) rfl rfl (ad.add (i * 4)) ?hx (cellCells x.f3[i]) _ Try.underlying33 ?hi HE.out ?_
      case hx => first | rfl | (go_simp; done) | (go_simp; rfl)
      case hi => kernel_rfl
      still_step
      still_step
      still_step
      still_step
      refine still_load_ 33 (.tmp 95) rfl rfl (bd.add (i * 4)) ?hx2 (cellCells y.f3[i]) _ Try.underlying33 ?hi2 HE'.out ?_
      case hx2 => first | rfl | (go_simp; done) | (go_simp; rfl)
      case hi2 => kernel_rfl
      still_step
      refine wpStill_nil ?_
      change Exit.then _ _ _ _ wr.drew
      clear qa qb EQ E
      obtain ⟨wd, hwd⟩ : ∃ wd, wd = wr.drew := ⟨_, rfl⟩
      rw [← hwd] at ED ⊢
      clear hwd
      go_wp2
      · go_ret
        exact ⟨by rw [NO.out (fun e => by have h : (!r) = true := (by assumption); rw [RR.out] at h; subst e; simp at h)]; rfl, ED.out.bel⟩
      · go_roundw
        case rel => exact ⟨i + 1, by go_num, by omega, ⟨by rw [GD.out]; have h : (!r) = false := (by assumption); have h2 : r = true := (by simpa using h); rw [h2]; rfl⟩, ED⟩
        case measure => simp [intOf]; omega
    · have EQ3 := Aside0.mk (show x.f3 = y.f3 from of_decide_eq_true (HZ.out.trans (by rw [List.drop_of_length_le (by omega), List.drop_of_length_le (by have := e_f3.out; omega)]; rfl)))
      have YY := Aside0.mk (KIDS.out e_f0.out e_f1.out e_f2.out EQ3.out e_f4.out e_f5.out e_f6.out e_f7.out e_f8.out)
      obtain ⟨wo, rfl⟩ : ∃ wo : World, wo = wr := ⟨_, rfl⟩
      clear HZ KIDS NO
      have qa := E.out.cellA
      have qb := E.out.cellB
      go_wp2
      clear qa qb
      go_loopw [6] (fun v6 wr => ∃ (j : Nat), v6 = .int .i64 j ∧ j ≤ x.f9.length ∧ Aside0 (same x y = sames (x.f9.drop j) (y.f9.drop j)) ∧ Aside0 (ES w ga gb ca cb wr)) (fun v6 _ => x.f9.length - (intOf v6).toNat)
      case atStart => exact ⟨0, rfl, Nat.zero_le _, ⟨YY.out⟩, E⟩
      case round =>
        clear E YY
        obtain ⟨j, rfl, hj, HZ, E⟩ := hrel
        by_cases hlt2 : j < x.f9.length
        · have hlt2' : j < y.f9.length := by have := e_f9.out; omega
          have ED := Aside0.mk E.out.drew
          obtain ⟨ad, c0, rfl, hcl, hK, hcell⟩ := elem_ (Kd.C_below G18.out ED.out.bel) j hlt2
          obtain ⟨bd, d0, rfl, hdl, hK', hdell⟩ := elem_ (Kd.C_below J18.out ED.out.bel) j hlt2'
          have hsz := szs39_get hlt2
          have CA := Aside0.mk (fun (w' : World) (hK : k39.K w' x.f9[j] c0.toArray.toList) (hK' : k39.K w' y.f9[j] d0.toArray.toList) => HP.out (sz39 x.f9[j]) (by have := HN.out; omega) x.f9[j] y.f9[j] c0.toArray d0.toArray w' (Nat.le_refl _) hK hK' (OX.out _ (List.getElem_mem hlt2)) (OY.out _ (List.getElem_mem hlt2')))
          have HK := Aside0.mk (show k39.K wr.drew x.f9[j] c0.toArray.toList from hK)
          have HK' := Aside0.mk (show k39.K wr.drew y.f9[j] d0.toArray.toList from hK')
          have HE := Aside0.mk hcell
          have HE' := Aside0.mk hdell
          have LC := Aside0.mk hcl
          have LD := Aside0.mk hdl
          have GD := Aside0.mk (HZ.out.trans (sames_drop _ _ j hlt2 hlt2'))
          obtain ⟨r, hr⟩ : ∃ r, r = same x.f9[j] y.f9[j] := ⟨_, rfl⟩
          rw [← hr] at CA GD
          clear hsz hK hK' hcell hdell hcl hdl HZ hr
          have qa := E.out.cellA
          have qb := E.out.cellB
          go_wp2
          clear qa qb
          have qa := ED.out.cellA
          have qb := ED.out.cellB
          refine wp_region_still_tail 10 (by kernel_rfl) (by kernel_rfl) ?_
          simp only [List.take_succ_cons, List.take_zero, List.drop_succ_cons, List.drop_zero]
          change wpStill _ _ wr.drew _ _ _
          still_step
          still_step
          still_step
          still_step
          refine still_load_ 39 (.tmp 108) rfl rfl (ad.add (j * 19)) ?hx3 c0 _ Try.underlying39 ?hi3 HE.out ?_
          case hx3 => first | rfl | (go_simp; done) | (go_simp; rfl)
          case hi3 => rw [LC.out]; kernel_rfl
          still_step
          still_step
          still_step
          still_step
          refine still_load_ 39 (.tmp 113) rfl rfl (bd.add (j * 19)) ?hx4 d0 _ Try.underlying39 ?hi4 HE'.out ?_
          case hx4 => first | rfl | (go_simp; done) | (go_simp; rfl)
          case hi4 => rw [LD.out]; kernel_rfl
          refine wpStill_nil ?_
          change wpList _ _ _ _ _ wr.drew
          clear qa qb E
          obtain ⟨wd, hwd⟩ : ∃ wd, wd = wr.drew := ⟨_, rfl⟩
          rw [← hwd] at HK HK' ED ⊢
          clear hwd
          go_wp2_with (first
            | (go_at_call 7; refine (CA.out _ HK.out HK'.out).mono ?_; rintro e w2 ⟨rfl, hB2⟩; have E2 := Aside0.mk (ED.out.call hB2); clear hB2))
          · go_ret
            exact ⟨by rw [GD.out]; have h : (!r) = true := (by assumption); have h2 : r = false := (by simpa using h); rw [h2]; rfl, E2.out.bel⟩
          · go_roundw
            case rel => exact ⟨j + 1, by go_num, by omega, ⟨by rw [GD.out]; have h : (!r) = false := (by assumption); have h2 : r = true := (by simpa using h); rw [h2]; rfl⟩, E2⟩
            case measure => simp [intOf]; omega
        · have GE := Aside0.mk (HZ.out.trans (sames_end _ _ j (by omega) (by have := e_f9.out; omega)))
          have qa := E.out.cellA
          have qb := E.out.cellB
          go_wp2
          go_ret
          exact ⟨by rw [GE.out]; rfl, E.out.bel⟩
theorem spP_all (N : Nat) : SpP N := by
  induction N using Nat.strongRecOn with
  | _ N ih =>
    cases N with
    | zero => intro x y ca cb w hn; have := sz39_kids x; omega
    | succ N => exact specSame_step N (fun M hM => ih M (by omega))
/-- **spec.PlanSame**: are two plans one? -/
theorem specPlanSame_c (x y : S39) (ca cb : Array Value) (w : World) (hK : k39.K w x ca.toList) (hK' : k39.K w y cb.toList) (hok : Small39 x) (hok' : Small39 y) :
    Calls Try.prog 7 #[.agg ca, .agg cb] w fun e w' => e = .returned (.bool (same x y)) ∧ Below w.heap.size w w' := spP_all _ x y ca cb w (Nat.le_refl _) hK hK' hok hok'
end Pl

end Go.Proofs.Ytlpgnkndjmfcjaa.PFnExactPlanSame
