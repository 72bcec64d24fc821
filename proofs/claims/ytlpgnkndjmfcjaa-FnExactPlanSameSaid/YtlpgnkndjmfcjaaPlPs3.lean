/- The program's impl.PlanSame tells whether two plans are the same, for each plan of at most 2^20 parts. -/
import Derived.Test.YtlpgnkndjmfcjaaPlPs2
namespace Go.Proofs.Ytlpgnkndjmfcjaa.PFnExactPlanSame
open Go.RowKit Go.Proofs.YtlpgnkndjmfcjaaW.PrintWords Go.Proofs.YtlpgnkndjmfcjaaW.PrintLast Go.Proofs.YtlpgnkndjmfcjaaW.PrintMore
attribute [local go_sem] max2_int min2_int max_two min_two max_three min_three max_four min_four   -- for this text's walks alone
set_option linter.unusedVariables false
set_option linter.unusedSimpArgs false
attribute [local go_sem high] Pl.eqT
namespace Pl
set_option maxHeartbeats 16000000 in
set_option maxRecDepth 100000 in
theorem planSame_step (N : Nat) (hS : PsS N) : PsP (N + 1) := by
  intro x y ca cb w hn hK hK' hok
  have hkids : szs39 x.f9 ≤ N := by have := sz39_kids x; omega
  obtain ⟨A12, c12, A15, c15, A18, c18, hca, l12, g12, l15, g15, l18, g18⟩ := k39_open hK
  obtain ⟨B12, d12, B15, d15, B18, d18, hcb, m12, j12, m15, j15, m18, j18⟩ := k39_open hK'
  have a0 : ca[0]? = some (.int .i64 x.f0) := by rw [← Array.getElem?_toList, hca]; rfl
  have a1 : ca[1]? = some (.int .i64 x.f1) := by rw [← Array.getElem?_toList, hca]; rfl
  have a12 : ca[12]? = some (.slice A12 x.f3.length c12) := by rw [← Array.getElem?_toList, hca]; rfl
  have a13 : ca[13]? = some (.int .i64 x.f4) := by rw [← Array.getElem?_toList, hca]; rfl
  have a14 : ca[14]? = some (.int .i64 x.f5) := by rw [← Array.getElem?_toList, hca]; rfl
  have a15 : ca[15]? = some (.slice A15 x.f6.length c15) := by rw [← Array.getElem?_toList, hca]; rfl
  have a16 : ca[16]? = some (.int .i64 x.f7) := by rw [← Array.getElem?_toList, hca]; rfl
  have a17 : ca[17]? = some (.int .i64 x.f8) := by rw [← Array.getElem?_toList, hca]; rfl
  have a18 : ca[18]? = some (.slice A18 x.f9.length c18) := by rw [← Array.getElem?_toList, hca]; rfl
  have HA := Aside0.mk (show ca.toList = [.int .i64 x.f0, .int .i64 x.f1] ++ (testCells x.f2 ++ [.slice A12 x.f3.length c12, .int .i64 x.f4, .int .i64 x.f5, .slice A15 x.f6.length c15, .int .i64 x.f7, .int .i64 x.f8, .slice A18 x.f9.length c18]) from hca)
  have b0 : cb[0]? = some (.int .i64 y.f0) := by rw [← Array.getElem?_toList, hcb]; rfl
  have b1 : cb[1]? = some (.int .i64 y.f1) := by rw [← Array.getElem?_toList, hcb]; rfl
  have b12 : cb[12]? = some (.slice B12 y.f3.length d12) := by rw [← Array.getElem?_toList, hcb]; rfl
  have b13 : cb[13]? = some (.int .i64 y.f4) := by rw [← Array.getElem?_toList, hcb]; rfl
  have b14 : cb[14]? = some (.int .i64 y.f5) := by rw [← Array.getElem?_toList, hcb]; rfl
  have b15 : cb[15]? = some (.slice B15 y.f6.length d15) := by rw [← Array.getElem?_toList, hcb]; rfl
  have b16 : cb[16]? = some (.int .i64 y.f7) := by rw [← Array.getElem?_toList, hcb]; rfl
  have b17 : cb[17]? = some (.int .i64 y.f8) := by rw [← Array.getElem?_toList, hcb]; rfl
  have b18 : cb[18]? = some (.slice B18 y.f9.length d18) := by rw [← Array.getElem?_toList, hcb]; rfl
  have HB := Aside0.mk (show cb.toList = [.int .i64 y.f0, .int .i64 y.f1] ++ (testCells y.f2 ++ [.slice B12 y.f3.length d12, .int .i64 y.f4, .int .i64 y.f5, .slice B15 y.f6.length d15, .int .i64 y.f7, .int .i64 y.f8, .slice B18 y.f9.length d18]) from hcb)
  have ok := hok.out
  have C12 := Aside0.mk (fun w hr hr' => equalC_c A12 c12 x.f3 B12 d12 y.f3 w ok.1 hr l12 hr' m12)
  have C15 := Aside0.mk (fun w hr hr' => equalI_c A15 c15 x.f6 B15 d15 y.f6 w ok.2.1 hr l15 hr' m15)
  have C18 := Aside0.mk (fun w hr hr' => hS x.f9 y.f9 A18 B18 c18 d18 w hkids hr l18 hr' m18 ok.2.2.1 ok.2.2.2)
  have G12 := Aside0.mk g12
  have G15 := Aside0.mk g15
  have G18 := Aside0.mk g18
  have J12 := Aside0.mk j12
  have J15 := Aside0.mk j15
  have J18 := Aside0.mk j18
  have T0 := Aside0.mk (Below.refl w.heap.size w)
  have KIDS := Aside0.mk (@same_kids x y)
  have NO := Aside0.mk (@same_no x y)
  clear hS l12 l15 l18 g12 g15 g18 m12 m15 m18 j12 j15 j18 ok hok hca hcb hK hK' hkids hn
  by_cases h_f0 : x.f0 = y.f0
  rotate_left
  · have q_f0 : (x.f0 == y.f0) = false := by simpa using h_f0
    have NN := Aside0.mk (NO.out (fun e => h_f0 (by rw [e])))
    clear h_f0 KIDS NO
    go_enter Try.func9, Try.ntmps9
    go_wp2_with (first
      | ((with_reducible refine gate_dst (N := 2) rfl ?_); refine box_ 39 (.tmp 0) rfl rfl ca rfl ?_; intro ga hga w1 hb1 hB1; have B1 := Aside0.mk (below_step T0.out hB1); have X1 := Aside0.mk hb1; clear hb1 hB1 hga T0)
      | ((with_reducible refine gate_dst (N := 3) rfl ?_); refine box_ 39 (.tmp 1) rfl rfl cb rfl ?_; intro gb hgb w2 hb2 hB2; have E := Aside0.mk (show ES w ga gb ca cb w2 from ⟨(hB2.block ga (blk_lt X1.out)).trans X1.out, hb2, below_step B1.out hB2⟩); have qa := E.out.cellA; have qb := E.out.cellB; clear hb2 hB2 hgb B1 X1))
    go_ret
    exact ⟨by rw [NN.out]; rfl, E.out.bel⟩
  have q_f0 : (x.f0 == y.f0) = true := by simpa using h_f0
  have e_f0 := Aside0.mk h_f0
  clear h_f0
  by_cases h_f1 : x.f1 = y.f1
  rotate_left
  · have q_f1 : (x.f1 == y.f1) = false := by simpa using h_f1
    have NN := Aside0.mk (NO.out (fun e => h_f1 (by rw [e])))
    clear h_f1 KIDS NO
    go_enter Try.func9, Try.ntmps9
    go_wp2_with (first
      | ((with_reducible refine gate_dst (N := 2) rfl ?_); refine box_ 39 (.tmp 0) rfl rfl ca rfl ?_; intro ga hga w1 hb1 hB1; have B1 := Aside0.mk (below_step T0.out hB1); have X1 := Aside0.mk hb1; clear hb1 hB1 hga T0)
      | ((with_reducible refine gate_dst (N := 3) rfl ?_); refine box_ 39 (.tmp 1) rfl rfl cb rfl ?_; intro gb hgb w2 hb2 hB2; have E := Aside0.mk (show ES w ga gb ca cb w2 from ⟨(hB2.block ga (blk_lt X1.out)).trans X1.out, hb2, below_step B1.out hB2⟩); have qa := E.out.cellA; have qb := E.out.cellB; clear hb2 hB2 hgb B1 X1))
    go_ret
    exact ⟨by rw [NN.out]; rfl, E.out.bel⟩
  have q_f1 : (x.f1 == y.f1) = true := by simpa using h_f1
  have e_f1 := Aside0.mk h_f1
  clear h_f1
  by_cases h_f2 : x.f2 = y.f2
  rotate_left
  · have q_f2 : decide (x.f2 = y.f2) = false := by simpa using h_f2
    have NN := Aside0.mk (NO.out (fun e => h_f2 (by rw [e])))
    clear h_f2 KIDS NO
    go_enter Try.func9, Try.ntmps9
    go_wp2_with (first
      | ((with_reducible refine gate_dst (N := 2) rfl ?_); refine box_ 39 (.tmp 0) rfl rfl ca rfl ?_; intro ga hga w1 hb1 hB1; have B1 := Aside0.mk (below_step T0.out hB1); have X1 := Aside0.mk hb1; clear hb1 hB1 hga T0)
      | ((with_reducible refine gate_dst (N := 3) rfl ?_); refine box_ 39 (.tmp 1) rfl rfl cb rfl ?_; intro gb hgb w2 hb2 hB2; have E := Aside0.mk (show ES w ga gb ca cb w2 from ⟨(hB2.block ga (blk_lt X1.out)).trans X1.out, hb2, below_step B1.out hB2⟩); have qa := E.out.cellA; have qb := E.out.cellB; clear hb2 hB2 hgb B1 X1)
      | ((with_reducible refine gate_dst (N := 20) rfl ?_); refine loadW_ 35 (.tmp 19) rfl ?hw ⟨ga, 2, none⟩ ?hx (testCells x.f2) _ Try.underlying35 ?hi (sub_ E.out.hA _ _ _ HA.out) ?_; (case hw => first | rfl | (simp [Region.wanted, yielded]; done)); (case hx => first | rfl | (go_simp; done) | (go_simp; rfl)); (case hi => kernel_rfl))
      | ((with_reducible refine gate_dst (N := 22) rfl ?_); refine loadW_ 35 (.tmp 21) rfl ?hw ⟨gb, 2, none⟩ ?hx (testCells y.f2) _ Try.underlying35 ?hi (sub_ E.out.hB _ _ _ HB.out) ?_; (case hw => first | rfl | (simp [Region.wanted, yielded]; done)); (case hx => first | rfl | (go_simp; done) | (go_simp; rfl)); (case hi => kernel_rfl)))
    go_ret
    exact ⟨by rw [NN.out]; rfl, E.out.bel⟩
  have q_f2 : decide (x.f2 = y.f2) = true := by simpa using h_f2
  have e_f2 := Aside0.mk h_f2
  clear h_f2
  by_cases h_f4 : x.f4 = y.f4
  rotate_left
  · have q_f4 : (x.f4 == y.f4) = false := by simpa using h_f4
    have NN := Aside0.mk (NO.out (fun e => h_f4 (by rw [e])))
    clear h_f4 KIDS NO
    go_enter Try.func9, Try.ntmps9
    go_wp2_with (first
      | ((with_reducible refine gate_dst (N := 2) rfl ?_); refine box_ 39 (.tmp 0) rfl rfl ca rfl ?_; intro ga hga w1 hb1 hB1; have B1 := Aside0.mk (below_step T0.out hB1); have X1 := Aside0.mk hb1; clear hb1 hB1 hga T0)
      | ((with_reducible refine gate_dst (N := 3) rfl ?_); refine box_ 39 (.tmp 1) rfl rfl cb rfl ?_; intro gb hgb w2 hb2 hB2; have E := Aside0.mk (show ES w ga gb ca cb w2 from ⟨(hB2.block ga (blk_lt X1.out)).trans X1.out, hb2, below_step B1.out hB2⟩); have qa := E.out.cellA; have qb := E.out.cellB; clear hb2 hB2 hgb B1 X1)
      | ((with_reducible refine gate_dst (N := 20) rfl ?_); refine loadW_ 35 (.tmp 19) rfl ?hw ⟨ga, 2, none⟩ ?hx (testCells x.f2) _ Try.underlying35 ?hi (sub_ E.out.hA _ _ _ HA.out) ?_; (case hw => first | rfl | (simp [Region.wanted, yielded]; done)); (case hx => first | rfl | (go_simp; done) | (go_simp; rfl)); (case hi => kernel_rfl))
      | ((with_reducible refine gate_dst (N := 22) rfl ?_); refine loadW_ 35 (.tmp 21) rfl ?hw ⟨gb, 2, none⟩ ?hx (testCells y.f2) _ Try.underlying35 ?hi (sub_ E.out.hB _ _ _ HB.out) ?_; (case hw => first | rfl | (simp [Region.wanted, yielded]; done)); (case hx => first | rfl | (go_simp; done) | (go_simp; rfl)); (case hi => kernel_rfl)))
    go_ret
    exact ⟨by rw [NN.out]; rfl, E.out.bel⟩
  have q_f4 : (x.f4 == y.f4) = true := by simpa using h_f4
  have e_f4 := Aside0.mk h_f4
  clear h_f4
  by_cases h_f5 : x.f5 = y.f5
  rotate_left
  · have q_f5 : (x.f5 == y.f5) = false := by simpa using h_f5
    have NN := Aside0.mk (NO.out (fun e => h_f5 (by rw [e])))
    clear h_f5 KIDS NO
    go_enter Try.func9, Try.ntmps9
    go_wp2_with (first
      | ((with_reducible refine gate_dst (N := 2) rfl ?_); refine box_ 39 (.tmp 0) rfl rfl ca rfl ?_; intro ga hga w1 hb1 hB1; have B1 := Aside0.mk (below_step T0.out hB1); have X1 := Aside0.mk hb1; clear hb1 hB1 hga T0)
      | ((with_reducible refine gate_dst (N := 3) rfl ?_); refine box_ 39 (.tmp 1) rfl rfl cb rfl ?_; intro gb hgb w2 hb2 hB2; have E := Aside0.mk (show ES w ga gb ca cb w2 from ⟨(hB2.block ga (blk_lt X1.out)).trans X1.out, hb2, below_step B1.out hB2⟩); have qa := E.out.cellA; have qb := E.out.cellB; clear hb2 hB2 hgb B1 X1)
      | ((with_reducible refine gate_dst (N := 20) rfl ?_); refine loadW_ 35 (.tmp 19) rfl ?hw ⟨ga, 2, none⟩ ?hx (testCells x.f2) _ Try.underlying35 ?hi (sub_ E.out.hA _ _ _ HA.out) ?_; (case hw => first | rfl | (simp [Region.wanted, yielded]; done)); (case hx => first | rfl | (go_simp; done) | (go_simp; rfl)); (case hi => kernel_rfl))
      | ((with_reducible refine gate_dst (N := 22) rfl ?_); refine loadW_ 35 (.tmp 21) rfl ?hw ⟨gb, 2, none⟩ ?hx (testCells y.f2) _ Try.underlying35 ?hi (sub_ E.out.hB _ _ _ HB.out) ?_; (case hw => first | rfl | (simp [Region.wanted, yielded]; done)); (case hx => first | rfl | (go_simp; done) | (go_simp; rfl)); (case hi => kernel_rfl)))
    go_ret
    exact ⟨by rw [NN.out]; rfl, E.out.bel⟩
  have q_f5 : (x.f5 == y.f5) = true := by simpa using h_f5
  have e_f5 := Aside0.mk h_f5
  clear h_f5
  by_cases h_f7 : x.f7 = y.f7
  rotate_left
  · have q_f7 : (x.f7 == y.f7) = false := by simpa using h_f7
    have NN := Aside0.mk (NO.out (fun e => h_f7 (by rw [e])))
    clear h_f7 KIDS NO
    go_enter Try.func9, Try.ntmps9
    go_wp2_with (first
      | ((with_reducible refine gate_dst (N := 2) rfl ?_); refine box_ 39 (.tmp 0) rfl rfl ca rfl ?_; intro ga hga w1 hb1 hB1; have B1 := Aside0.mk (below_step T0.out hB1); have X1 := Aside0.mk hb1; clear hb1 hB1 hga T0)
      | ((with_reducible refine gate_dst (N := 3) rfl ?_); refine box_ 39 (.tmp 1) rfl rfl cb rfl ?_; intro gb hgb w2 hb2 hB2; have E := Aside0.mk (show ES w ga gb ca cb w2 from ⟨(hB2.block ga (blk_lt X1.out)).trans X1.out, hb2, below_step B1.out hB2⟩); have qa := E.out.cellA; have qb := E.out.cellB; clear hb2 hB2 hgb B1 X1)
      | ((with_reducible refine gate_dst (N := 20) rfl ?_); refine loadW_ 35 (.tmp 19) rfl ?hw ⟨ga, 2, none⟩ ?hx (testCells x.f2) _ Try.underlying35 ?hi (sub_ E.out.hA _ _ _ HA.out) ?_; (case hw => first | rfl | (simp [Region.wanted, yielded]; done)); (case hx => first | rfl | (go_simp; done) | (go_simp; rfl)); (case hi => kernel_rfl))
      | ((with_reducible refine gate_dst (N := 22) rfl ?_); refine loadW_ 35 (.tmp 21) rfl ?hw ⟨gb, 2, none⟩ ?hx (testCells y.f2) _ Try.underlying35 ?hi (sub_ E.out.hB _ _ _ HB.out) ?_; (case hw => first | rfl | (simp [Region.wanted, yielded]; done)); (case hx => first | rfl | (go_simp; done) | (go_simp; rfl)); (case hi => kernel_rfl)))
    go_ret
    exact ⟨by rw [NN.out]; rfl, E.out.bel⟩
  have q_f7 : (x.f7 == y.f7) = true := by simpa using h_f7
  have e_f7 := Aside0.mk h_f7
  clear h_f7
  by_cases h_f8 : x.f8 = y.f8
  rotate_left
  · have q_f8 : (x.f8 == y.f8) = false := by simpa using h_f8
    have NN := Aside0.mk (NO.out (fun e => h_f8 (by rw [e])))
    clear h_f8 KIDS NO
    go_enter Try.func9, Try.ntmps9
    go_wp2_with (first
      | ((with_reducible refine gate_dst (N := 2) rfl ?_); refine box_ 39 (.tmp 0) rfl rfl ca rfl ?_; intro ga hga w1 hb1 hB1; have B1 := Aside0.mk (below_step T0.out hB1); have X1 := Aside0.mk hb1; clear hb1 hB1 hga T0)
      | ((with_reducible refine gate_dst (N := 3) rfl ?_); refine box_ 39 (.tmp 1) rfl rfl cb rfl ?_; intro gb hgb w2 hb2 hB2; have E := Aside0.mk (show ES w ga gb ca cb w2 from ⟨(hB2.block ga (blk_lt X1.out)).trans X1.out, hb2, below_step B1.out hB2⟩); have qa := E.out.cellA; have qb := E.out.cellB; clear hb2 hB2 hgb B1 X1)
      | ((with_reducible refine gate_dst (N := 20) rfl ?_); refine loadW_ 35 (.tmp 19) rfl ?hw ⟨ga, 2, none⟩ ?hx (testCells x.f2) _ Try.underlying35 ?hi (sub_ E.out.hA _ _ _ HA.out) ?_; (case hw => first | rfl | (simp [Region.wanted, yielded]; done)); (case hx => first | rfl | (go_simp; done) | (go_simp; rfl)); (case hi => kernel_rfl))
      | ((with_reducible refine gate_dst (N := 22) rfl ?_); refine loadW_ 35 (.tmp 21) rfl ?hw ⟨gb, 2, none⟩ ?hx (testCells y.f2) _ Try.underlying35 ?hi (sub_ E.out.hB _ _ _ HB.out) ?_; (case hw => first | rfl | (simp [Region.wanted, yielded]; done)); (case hx => first | rfl | (go_simp; done) | (go_simp; rfl)); (case hi => kernel_rfl)))
    go_ret
    exact ⟨by rw [NN.out]; rfl, E.out.bel⟩
  have q_f8 : (x.f8 == y.f8) = true := by simpa using h_f8
  have e_f8 := Aside0.mk h_f8
  clear h_f8
  by_cases h_f3 : x.f3 = y.f3
  rotate_left
  · have q_f3 : decide (x.f3 = y.f3) = false := by simpa using h_f3
    have NN := Aside0.mk (NO.out (fun e => h_f3 (by rw [e])))
    clear h_f3 KIDS NO
    go_enter Try.func9, Try.ntmps9
    go_wp2_with (first
      | ((with_reducible refine gate_dst (N := 2) rfl ?_); refine box_ 39 (.tmp 0) rfl rfl ca rfl ?_; intro ga hga w1 hb1 hB1; have B1 := Aside0.mk (below_step T0.out hB1); have X1 := Aside0.mk hb1; clear hb1 hB1 hga T0)
      | ((with_reducible refine gate_dst (N := 3) rfl ?_); refine box_ 39 (.tmp 1) rfl rfl cb rfl ?_; intro gb hgb w2 hb2 hB2; have E := Aside0.mk (show ES w ga gb ca cb w2 from ⟨(hB2.block ga (blk_lt X1.out)).trans X1.out, hb2, below_step B1.out hB2⟩); have qa := E.out.cellA; have qb := E.out.cellB; clear hb2 hB2 hgb B1 X1)
      | ((with_reducible refine gate_dst (N := 20) rfl ?_); refine loadW_ 35 (.tmp 19) rfl ?hw ⟨ga, 2, none⟩ ?hx (testCells x.f2) _ Try.underlying35 ?hi (sub_ E.out.hA _ _ _ HA.out) ?_; (case hw => first | rfl | (simp [Region.wanted, yielded]; done)); (case hx => first | rfl | (go_simp; done) | (go_simp; rfl)); (case hi => kernel_rfl))
      | ((with_reducible refine gate_dst (N := 22) rfl ?_); refine loadW_ 35 (.tmp 21) rfl ?hw ⟨gb, 2, none⟩ ?hx (testCells y.f2) _ Try.underlying35 ?hi (sub_ E.out.hB _ _ _ HB.out) ?_; (case hw => first | rfl | (simp [Region.wanted, yielded]; done)); (case hx => first | rfl | (go_simp; done) | (go_simp; rfl)); (case hi => kernel_rfl))
      | (go_at_call 24; refine (C12.out _ (Kd.C_below G12.out E.out.bel) (Kd.C_below J12.out E.out.bel)).mono ?_; rintro e w3 ⟨rfl, hB⟩; have E2 := Aside0.mk (E.out.call hB); clear qa qb E; have E := E2; have qa := E.out.cellA; have qb := E.out.cellB; clear hB E2))
    go_ret
    exact ⟨by rw [NN.out]; rfl, E.out.bel⟩
  have q_f3 : decide (x.f3 = y.f3) = true := by simpa using h_f3
  have e_f3 := Aside0.mk h_f3
  clear h_f3
  by_cases h_f6 : x.f6 = y.f6
  rotate_left
  · have q_f6 : decide (x.f6 = y.f6) = false := by simpa using h_f6
    have NN := Aside0.mk (NO.out (fun e => h_f6 (by rw [e])))
    clear h_f6 KIDS NO
    go_enter Try.func9, Try.ntmps9
    go_wp2_with (first
      | ((with_reducible refine gate_dst (N := 2) rfl ?_); refine box_ 39 (.tmp 0) rfl rfl ca rfl ?_; intro ga hga w1 hb1 hB1; have B1 := Aside0.mk (below_step T0.out hB1); have X1 := Aside0.mk hb1; clear hb1 hB1 hga T0)
      | ((with_reducible refine gate_dst (N := 3) rfl ?_); refine box_ 39 (.tmp 1) rfl rfl cb rfl ?_; intro gb hgb w2 hb2 hB2; have E := Aside0.mk (show ES w ga gb ca cb w2 from ⟨(hB2.block ga (blk_lt X1.out)).trans X1.out, hb2, below_step B1.out hB2⟩); have qa := E.out.cellA; have qb := E.out.cellB; clear hb2 hB2 hgb B1 X1)
      | ((with_reducible refine gate_dst (N := 20) rfl ?_); refine loadW_ 35 (.tmp 19) rfl ?hw ⟨ga, 2, none⟩ ?hx (testCells x.f2) _ Try.underlying35 ?hi (sub_ E.out.hA _ _ _ HA.out) ?_; (case hw => first | rfl | (simp [Region.wanted, yielded]; done)); (case hx => first | rfl | (go_simp; done) | (go_simp; rfl)); (case hi => kernel_rfl))
      | ((with_reducible refine gate_dst (N := 22) rfl ?_); refine loadW_ 35 (.tmp 21) rfl ?hw ⟨gb, 2, none⟩ ?hx (testCells y.f2) _ Try.underlying35 ?hi (sub_ E.out.hB _ _ _ HB.out) ?_; (case hw => first | rfl | (simp [Region.wanted, yielded]; done)); (case hx => first | rfl | (go_simp; done) | (go_simp; rfl)); (case hi => kernel_rfl))
      | (go_at_call 24; refine (C12.out _ (Kd.C_below G12.out E.out.bel) (Kd.C_below J12.out E.out.bel)).mono ?_; rintro e w3 ⟨rfl, hB⟩; have E2 := Aside0.mk (E.out.call hB); clear qa qb E; have E := E2; have qa := E.out.cellA; have qb := E.out.cellB; clear hB E2)
      | (go_at_call 25; refine (C15.out _ (Kd.C_below G15.out E.out.bel) (Kd.C_below J15.out E.out.bel)).mono ?_; rintro e w4 ⟨rfl, hB⟩; have E2 := Aside0.mk (E.out.call hB); clear qa qb E; have E := E2; have qa := E.out.cellA; have qb := E.out.cellB; clear hB E2))
    go_ret
    exact ⟨by rw [NN.out]; rfl, E.out.bel⟩
  have q_f6 : decide (x.f6 = y.f6) = true := by simpa using h_f6
  have e_f6 := Aside0.mk h_f6
  clear h_f6
  by_cases h_f9 : x.f9 = y.f9
  rotate_left
  · have q_f9 : sames x.f9 y.f9 = false := sames_no h_f9
    have NN := Aside0.mk (NO.out (fun e => h_f9 (by rw [e])))
    clear h_f9 KIDS NO
    go_enter Try.func9, Try.ntmps9
    go_wp2_with (first
      | ((with_reducible refine gate_dst (N := 2) rfl ?_); refine box_ 39 (.tmp 0) rfl rfl ca rfl ?_; intro ga hga w1 hb1 hB1; have B1 := Aside0.mk (below_step T0.out hB1); have X1 := Aside0.mk hb1; clear hb1 hB1 hga T0)
      | ((with_reducible refine gate_dst (N := 3) rfl ?_); refine box_ 39 (.tmp 1) rfl rfl cb rfl ?_; intro gb hgb w2 hb2 hB2; have E := Aside0.mk (show ES w ga gb ca cb w2 from ⟨(hB2.block ga (blk_lt X1.out)).trans X1.out, hb2, below_step B1.out hB2⟩); have qa := E.out.cellA; have qb := E.out.cellB; clear hb2 hB2 hgb B1 X1)
      | ((with_reducible refine gate_dst (N := 20) rfl ?_); refine loadW_ 35 (.tmp 19) rfl ?hw ⟨ga, 2, none⟩ ?hx (testCells x.f2) _ Try.underlying35 ?hi (sub_ E.out.hA _ _ _ HA.out) ?_; (case hw => first | rfl | (simp [Region.wanted, yielded]; done)); (case hx => first | rfl | (go_simp; done) | (go_simp; rfl)); (case hi => kernel_rfl))
      | ((with_reducible refine gate_dst (N := 22) rfl ?_); refine loadW_ 35 (.tmp 21) rfl ?hw ⟨gb, 2, none⟩ ?hx (testCells y.f2) _ Try.underlying35 ?hi (sub_ E.out.hB _ _ _ HB.out) ?_; (case hw => first | rfl | (simp [Region.wanted, yielded]; done)); (case hx => first | rfl | (go_simp; done) | (go_simp; rfl)); (case hi => kernel_rfl))
      | (go_at_call 24; refine (C12.out _ (Kd.C_below G12.out E.out.bel) (Kd.C_below J12.out E.out.bel)).mono ?_; rintro e w3 ⟨rfl, hB⟩; have E2 := Aside0.mk (E.out.call hB); clear qa qb E; have E := E2; have qa := E.out.cellA; have qb := E.out.cellB; clear hB E2)
      | (go_at_call 25; refine (C15.out _ (Kd.C_below G15.out E.out.bel) (Kd.C_below J15.out E.out.bel)).mono ?_; rintro e w4 ⟨rfl, hB⟩; have E2 := Aside0.mk (E.out.call hB); clear qa qb E; have E := E2; have qa := E.out.cellA; have qb := E.out.cellB; clear hB E2)
      | (go_at_call 26; refine (C18.out _ (Kd.C_below G18.out E.out.bel) (Kd.C_below J18.out E.out.bel)).mono ?_; rintro e w5 ⟨rfl, hB⟩; have E2 := Aside0.mk (E.out.call hB); clear qa qb E; have E := E2; have qa := E.out.cellA; have qb := E.out.cellB; clear hB E2))
    go_ret
    exact ⟨by rw [NN.out]; rfl, E.out.bel⟩
  have q_f9 : sames x.f9 y.f9 = true := sames_iff.2 h_f9
  have e_f9 := Aside0.mk h_f9
  clear h_f9
  have YY := Aside0.mk ((KIDS.out e_f0.out e_f1.out e_f2.out e_f3.out e_f4.out e_f5.out e_f6.out e_f7.out e_f8.out).trans q_f9)
  clear KIDS NO
  go_enter Try.func9, Try.ntmps9
  go_wp2_with (first
    | ((with_reducible refine gate_dst (N := 2) rfl ?_); refine box_ 39 (.tmp 0) rfl rfl ca rfl ?_; intro ga hga w1 hb1 hB1; have B1 := Aside0.mk (below_step T0.out hB1); have X1 := Aside0.mk hb1; clear hb1 hB1 hga T0)
    | ((with_reducible refine gate_dst (N := 3) rfl ?_); refine box_ 39 (.tmp 1) rfl rfl cb rfl ?_; intro gb hgb w2 hb2 hB2; have E := Aside0.mk (show ES w ga gb ca cb w2 from ⟨(hB2.block ga (blk_lt X1.out)).trans X1.out, hb2, below_step B1.out hB2⟩); have qa := E.out.cellA; have qb := E.out.cellB; clear hb2 hB2 hgb B1 X1)
    | ((with_reducible refine gate_dst (N := 20) rfl ?_); refine loadW_ 35 (.tmp 19) rfl ?hw ⟨ga, 2, none⟩ ?hx (testCells x.f2) _ Try.underlying35 ?hi (sub_ E.out.hA _ _ _ HA.out) ?_; (case hw => first | rfl | (simp [Region.wanted, yielded]; done)); (case hx => first | rfl | (go_simp; done) | (go_simp; rfl)); (case hi => kernel_rfl))
    | ((with_reducible refine gate_dst (N := 22) rfl ?_); refine loadW_ 35 (.tmp 21) rfl ?hw ⟨gb, 2, none⟩ ?hx (testCells y.f2) _ Try.underlying35 ?hi (sub_ E.out.hB _ _ _ HB.out) ?_; (case hw => first | rfl | (simp [Region.wanted, yielded]; done)); (case hx => first | rfl | (go_simp; done) | (go_simp; rfl)); (case hi => kernel_rfl))
    | (go_at_call 24; refine (C12.out _ (Kd.C_below G12.out E.out.bel) (Kd.C_below J12.out E.out.bel)).mono ?_; rintro e w3 ⟨rfl, hB⟩; have E2 := Aside0.mk (E.out.call hB); clear qa qb E; have E := E2; have qa := E.out.cellA; have qb := E.out.cellB; clear hB E2)
    | (go_at_call 25; refine (C15.out _ (Kd.C_below G15.out E.out.bel) (Kd.C_below J15.out E.out.bel)).mono ?_; rintro e w4 ⟨rfl, hB⟩; have E2 := Aside0.mk (E.out.call hB); clear qa qb E; have E := E2; have qa := E.out.cellA; have qb := E.out.cellB; clear hB E2)
    | (go_at_call 26; refine (C18.out _ (Kd.C_below G18.out E.out.bel) (Kd.C_below J18.out E.out.bel)).mono ?_; rintro e w5 ⟨rfl, hB⟩; have E2 := Aside0.mk (E.out.call hB); clear qa qb E; have E := E2; have qa := E.out.cellA; have qb := E.out.cellB; clear hB E2))
  go_ret
  exact ⟨by rw [YY.out]; rfl, E.out.bel⟩
theorem psP_all (N : Nat) : PsP N := by
  induction N using Nat.strongRecOn with
  | _ N ih =>
    cases N with
    | zero => intro x y ca cb w hn; have := sz39_kids x; omega
    | succ N => exact planSame_step N (equalFunc_step N (fun M hM => ih M (by omega)))
/-- **impl.PlanSame**: are two plans one? -/
theorem implPlanSame_c (x y : S39) (ca cb : Array Value) (w : World) (hK : k39.K w x ca.toList) (hK' : k39.K w y cb.toList) (hok : Small39 x) :
    Calls Try.prog 9 #[.agg ca, .agg cb] w fun e w' => e = .returned (.bool (same x y)) ∧ Below w.heap.size w w' := psP_all _ x y ca cb w (Nat.le_refl _) hK hK' hok
end Pl

end Go.Proofs.Ytlpgnkndjmfcjaa.PFnExactPlanSame
