/- What each kind's part keeps of a plan. The program's shaped at a known kind: so many plans under it and nothing kept that its kind has no use for. -/
import Derived.Test.YtlpgnkndjmfcjaaGreatPlWalk
namespace Go.Proofs.YtlpgnkndjmfcjaaGreat.PFnExactPlanMany
open Go.RowKit Go.Proofs.YtlpgnkndjmfcjaaGreatW.PrintWords Go.Proofs.YtlpgnkndjmfcjaaGreatW.PrintLast Go.Proofs.YtlpgnkndjmfcjaaGreatW.PrintMore
attribute [local go_sem] max2_int min2_int max_two min_two max_three min_three max_four min_four   -- for this text's walks alone
set_option linter.unusedVariables false
set_option linter.unusedSimpArgs false
namespace Pl
theorem one_all (cs : List Value) (h : cs.all Value.oneCell' = true) : ∀ q ∈ cs, q.oneCell' = true := List.all_eq_true.1 h
def zeroT : S35 := ⟨0, false, ⟨0, 0, 0, 0⟩, ⟨0, 0, 0, 0⟩⟩
def tableOnly (x : S39) : S39 := ⟨x.f0, x.f1, zeroT, [], 0, 0, [], 0, 0, []⟩
def whereOnly (x : S39) : S39 := ⟨x.f0, 0, x.f2, [], 0, 0, [], 0, 0, []⟩
def mapOnly (x : S39) : S39 := ⟨x.f0, 0, zeroT, x.f3, 0, 0, [], 0, 0, []⟩
def joinOnly (x : S39) : S39 := ⟨x.f0, 0, zeroT, [], x.f4, x.f5, [], 0, 0, []⟩
def bothOnly (x : S39) : S39 := ⟨x.f0, 0, zeroT, [], 0, 0, [], 0, 0, []⟩
def onceOnly (x : S39) : S39 := ⟨x.f0, 0, zeroT, [], 0, 0, [], 0, 0, []⟩
def groupOnly (x : S39) : S39 := ⟨x.f0, 0, zeroT, [], 0, 0, x.f6, x.f7, x.f8, []⟩
set_option maxHeartbeats 4000000 in
set_option maxRecDepth 100000 in
theorem tableOnly_c (x : S39) (cs : List Value) (w0 w : World) (hK : k39.K w0 x cs) : Calls Tryz.prog 86 #[.agg #[], .agg cs.toArray] w fun e w' => ∃ cs', e = .returned (.agg cs'.toArray) ∧ k39.K w0 (tableOnly x) cs' ∧ Below w.heap.size w w' := by
  obtain ⟨A12, c12, A15, c15, A18, c18, hcs, l12, g12, l15, g15, l18, g18⟩ := k39_open hK
  have E0 := Aside0.mk (show cs.toArray[0]? = some (.int .i64 x.f0) by rw [hcs]; rfl)
  have E1 := Aside0.mk (show cs.toArray[1]? = some (.int .i64 x.f1) by rw [hcs]; rfl)
  clear hcs l12 g12 l15 g15 l18 g18 hK
  go_enter Tryz.func86, Tryz.ntmps86
  go_wp2_with (first
    | ((with_reducible refine gate_dst (N := 2) rfl ?_); refine box_ 92 (.tmp 0) rfl rfl #[] rfl ?_; intro g0 hg w9 hb hB; have B0 := Aside0.mk hB; clear hg hb hB)
    | ((with_reducible refine gate_dst (N := 3) rfl ?_); refine box_ 39 (.tmp 1) rfl rfl cs.toArray rfl ?_; intro g hg w1 hb hB; have X1 := Aside0.mk hb; have q0 := (blk_cell hb 0).trans E0.out; have q1 := (blk_cell hb 1).trans E1.out; have B1 := Aside0.mk (below_step B0.out hB); clear hb hB B0 hg)
    | ((with_reducible refine gate_dst (N := 4) rfl ?_); refine alloc_ 39 rfl rfl zero39 _ _ info39 ?_; intro gr hg w2 hb hB; have Y2 := Aside0.mk hb; have X2 := Aside0.mk ((hB.block _ (blk_lt X1.out)).trans X1.out); have q0' := zhs hB q0; have q1' := zhs hB q1; have B2 := Aside0.mk (below_step B1.out hB); have GR := Aside0.mk (show w.heap.size ≤ gr by rw [hg]; exact B1.out.size); clear hb hB hg B1 X1 q0 q1)
    | ((with_reducible refine gate_ (.store 39 (.tmp 4) (.tmp 9)) rfl ?_); refine storeAll_ 39 (.tmp 4) (.tmp 9) rfl rfl rfl gr ?hp [.int .i64 x.f0, .int .i64 x.f1, .int .i64 0, .bool false, .int .i64 0, .int .i64 0, .int .i64 0, .int .i64 0, .int .i64 0, .int .i64 0, .int .i64 0, .int .i64 0, .slice none 0 0, .int .i64 0, .int .i64 0, .slice none 0 0, .int .i64 0, .int .i64 0, .slice none 0 0] ?hx2 ?ht (one_all _ rfl) zero39 _ Y2.out rfl ?_; (case hp => first | rfl | (go_simp; done) | (go_simp; rfl)); (case hx2 => first | rfl | (go_simp; done) | (go_simp; rfl)); (case ht => kernel_rfl); intro w3 hb hg; have Y3 := Aside0.mk hb; have B3 := Aside0.mk (B2.out.grown hg B2.out.size (fun k e => by cases e; exact GR.out)); clear hb hg Y2 B2))
  refine bodyPost_ret (v := .agg ([.int .i64 x.f0, .int .i64 x.f1, .int .i64 0, .bool false, .int .i64 0, .int .i64 0, .int .i64 0, .int .i64 0, .int .i64 0, .int .i64 0, .int .i64 0, .int .i64 0, .slice none 0 0, .int .i64 0, .int .i64 0, .slice none 0 0, .int .i64 0, .int .i64 0, .slice none 0 0] : List Value).toArray) (results_single (r := .cell 4 39) rfl (.cell gr 39 ([.int .i64 x.f0, .int .i64 x.f1, .int .i64 0, .bool false, .int .i64 0, .int .i64 0, .int .i64 0, .int .i64 0, .int .i64 0, .int .i64 0, .int .i64 0, .int .i64 0, .slice none 0 0, .int .i64 0, .int .i64 0, .slice none 0 0, .int .i64 0, .int .i64 0, .slice none 0 0] : List Value).toArray (0, 0) _ rfl Y3.out Tryz.underlying39 rfl (by kernel_rfl) .nil)) rfl ?_
  exact ⟨_, rfl, k39_mk _ (tableOnly x) (Nat.le_refl _) (Kd.C_nil _ _) (Nat.le_refl _) (Kd.C_nil _ _) (Nat.le_refl _) (Kd.C_nil _ _), B3.out⟩
set_option maxHeartbeats 4000000 in
set_option maxRecDepth 100000 in
theorem whereOnly_c (x : S39) (cs : List Value) (w0 w : World) (hK : k39.K w0 x cs) : Calls Tryz.prog 91 #[.agg #[], .agg cs.toArray] w fun e w' => ∃ cs', e = .returned (.agg cs'.toArray) ∧ k39.K w0 (whereOnly x) cs' ∧ Below w.heap.size w w' := by
  obtain ⟨A12, c12, A15, c15, A18, c18, hcs, l12, g12, l15, g15, l18, g18⟩ := k39_open hK
  have E0 := Aside0.mk (show cs.toArray[0]? = some (.int .i64 x.f0) by rw [hcs]; rfl)
  have HA := Aside0.mk (show cs = [.int .i64 x.f0, .int .i64 x.f1] ++ ([.int .i64 x.f2.f0, .bool x.f2.f1, .int .i64 x.f2.f2.f0, .int .i64 x.f2.f2.f1, .int .i64 x.f2.f2.f2, .int .i64 x.f2.f2.f3, .int .i64 x.f2.f3.f0, .int .i64 x.f2.f3.f1, .int .i64 x.f2.f3.f2, .int .i64 x.f2.f3.f3] ++ [.slice A12 x.f3.length c12, .int .i64 x.f4, .int .i64 x.f5, .slice A15 x.f6.length c15, .int .i64 x.f7, .int .i64 x.f8, .slice A18 x.f9.length c18]) from hcs)
  clear hcs l12 g12 l15 g15 l18 g18 hK
  go_enter Tryz.func91, Tryz.ntmps91
  go_wp2_with (first
    | ((with_reducible refine gate_dst (N := 2) rfl ?_); refine box_ 93 (.tmp 0) rfl rfl #[] rfl ?_; intro g0 hg w9 hb hB; have B0 := Aside0.mk hB; clear hg hb hB)
    | ((with_reducible refine gate_dst (N := 3) rfl ?_); refine box_ 39 (.tmp 1) rfl rfl cs.toArray rfl ?_; intro g hg w1 hb hB; have X1 := Aside0.mk hb; have q0 := (blk_cell hb 0).trans E0.out; have B1 := Aside0.mk (below_step B0.out hB); clear hb hB B0 hg)
    | ((with_reducible refine gate_dst (N := 4) rfl ?_); refine alloc_ 39 rfl rfl zero39 _ _ info39 ?_; intro gr hg w2 hb hB; have Y2 := Aside0.mk hb; have X2 := Aside0.mk ((hB.block _ (blk_lt X1.out)).trans X1.out); have q0' := zhs hB q0; have B2 := Aside0.mk (below_step B1.out hB); have GR := Aside0.mk (show w.heap.size ≤ gr by rw [hg]; exact B1.out.size); clear hb hB hg B1 X1 q0)
    | ((with_reducible refine gate_dst (N := 8) rfl ?_); refine load_ 35 (.tmp 7) rfl rfl ⟨g, 2, none⟩ ?hx [.int .i64 x.f2.f0, .bool x.f2.f1, .int .i64 x.f2.f2.f0, .int .i64 x.f2.f2.f1, .int .i64 x.f2.f2.f2, .int .i64 x.f2.f2.f3, .int .i64 x.f2.f3.f0, .int .i64 x.f2.f3.f1, .int .i64 x.f2.f3.f2, .int .i64 x.f2.f3.f3] _ Tryz.underlying35 ?hi (sub_ X2.out _ _ _ HA.out) ?_; (case hx => first | rfl | (go_simp; done) | (go_simp; rfl)); (case hi => kernel_rfl))
    | ((with_reducible refine gate_ (.store 39 (.tmp 4) (.tmp 9)) rfl ?_); refine storeAll_ 39 (.tmp 4) (.tmp 9) rfl rfl rfl gr ?hp [.int .i64 x.f0, .int .i64 0, .int .i64 x.f2.f0, .bool x.f2.f1, .int .i64 x.f2.f2.f0, .int .i64 x.f2.f2.f1, .int .i64 x.f2.f2.f2, .int .i64 x.f2.f2.f3, .int .i64 x.f2.f3.f0, .int .i64 x.f2.f3.f1, .int .i64 x.f2.f3.f2, .int .i64 x.f2.f3.f3, .slice none 0 0, .int .i64 0, .int .i64 0, .slice none 0 0, .int .i64 0, .int .i64 0, .slice none 0 0] ?hx2 ?ht (one_all _ rfl) zero39 _ Y2.out rfl ?_; (case hp => first | rfl | (go_simp; done) | (go_simp; rfl)); (case hx2 => first | rfl | (go_simp; done) | (go_simp; rfl)); (case ht => kernel_rfl); intro w3 hb hg; have Y3 := Aside0.mk hb; have B3 := Aside0.mk (B2.out.grown hg B2.out.size (fun k e => by cases e; exact GR.out)); clear hb hg Y2 B2))
  refine bodyPost_ret (v := .agg ([.int .i64 x.f0, .int .i64 0, .int .i64 x.f2.f0, .bool x.f2.f1, .int .i64 x.f2.f2.f0, .int .i64 x.f2.f2.f1, .int .i64 x.f2.f2.f2, .int .i64 x.f2.f2.f3, .int .i64 x.f2.f3.f0, .int .i64 x.f2.f3.f1, .int .i64 x.f2.f3.f2, .int .i64 x.f2.f3.f3, .slice none 0 0, .int .i64 0, .int .i64 0, .slice none 0 0, .int .i64 0, .int .i64 0, .slice none 0 0] : List Value).toArray) (results_single (r := .cell 4 39) rfl (.cell gr 39 ([.int .i64 x.f0, .int .i64 0, .int .i64 x.f2.f0, .bool x.f2.f1, .int .i64 x.f2.f2.f0, .int .i64 x.f2.f2.f1, .int .i64 x.f2.f2.f2, .int .i64 x.f2.f2.f3, .int .i64 x.f2.f3.f0, .int .i64 x.f2.f3.f1, .int .i64 x.f2.f3.f2, .int .i64 x.f2.f3.f3, .slice none 0 0, .int .i64 0, .int .i64 0, .slice none 0 0, .int .i64 0, .int .i64 0, .slice none 0 0] : List Value).toArray (0, 0) _ rfl Y3.out Tryz.underlying39 rfl (by kernel_rfl) .nil)) rfl ?_
  exact ⟨_, rfl, k39_mk _ (whereOnly x) (Nat.le_refl _) (Kd.C_nil _ _) (Nat.le_refl _) (Kd.C_nil _ _) (Nat.le_refl _) (Kd.C_nil _ _), B3.out⟩
set_option maxHeartbeats 4000000 in
set_option maxRecDepth 100000 in
theorem mapOnly_c (x : S39) (cs : List Value) (w0 w : World) (hK : k39.K w0 x cs) : Calls Tryz.prog 99 #[.agg #[], .agg cs.toArray] w fun e w' => ∃ cs', e = .returned (.agg cs'.toArray) ∧ k39.K w0 (mapOnly x) cs' ∧ Below w.heap.size w w' := by
  obtain ⟨A12, c12, A15, c15, A18, c18, hcs, l12, g12, l15, g15, l18, g18⟩ := k39_open hK
  have E0 := Aside0.mk (show cs.toArray[0]? = some (.int .i64 x.f0) by rw [hcs]; rfl)
  have E3 := Aside0.mk (show cs.toArray[12]? = some (.slice A12 x.f3.length c12) by rw [hcs]; rfl)
  have G12 := Aside0.mk g12
  have L12 := Aside0.mk l12
  clear hcs l12 g12 l15 g15 l18 g18 hK
  go_enter Tryz.func99, Tryz.ntmps99
  go_wp2_with (first
    | ((with_reducible refine gate_dst (N := 2) rfl ?_); refine box_ 94 (.tmp 0) rfl rfl #[] rfl ?_; intro g0 hg w9 hb hB; have B0 := Aside0.mk hB; clear hg hb hB)
    | ((with_reducible refine gate_dst (N := 3) rfl ?_); refine box_ 39 (.tmp 1) rfl rfl cs.toArray rfl ?_; intro g hg w1 hb hB; have X1 := Aside0.mk hb; have q0 := (blk_cell hb 0).trans E0.out; have q3 := (blk_cell hb 12).trans E3.out; have B1 := Aside0.mk (below_step B0.out hB); clear hb hB B0 hg)
    | ((with_reducible refine gate_dst (N := 4) rfl ?_); refine alloc_ 39 rfl rfl zero39 _ _ info39 ?_; intro gr hg w2 hb hB; have Y2 := Aside0.mk hb; have X2 := Aside0.mk ((hB.block _ (blk_lt X1.out)).trans X1.out); have q0' := zhs hB q0; have q3' := zhs hB q3; have B2 := Aside0.mk (below_step B1.out hB); have GR := Aside0.mk (show w.heap.size ≤ gr by rw [hg]; exact B1.out.size); clear hb hB hg B1 X1 q0 q3)
    | ((with_reducible refine gate_ (.store 39 (.tmp 4) (.tmp 9)) rfl ?_); refine storeAll_ 39 (.tmp 4) (.tmp 9) rfl rfl rfl gr ?hp [.int .i64 x.f0, .int .i64 0, .int .i64 0, .bool false, .int .i64 0, .int .i64 0, .int .i64 0, .int .i64 0, .int .i64 0, .int .i64 0, .int .i64 0, .int .i64 0, .slice A12 x.f3.length c12, .int .i64 0, .int .i64 0, .slice none 0 0, .int .i64 0, .int .i64 0, .slice none 0 0] ?hx2 ?ht (one_all _ rfl) zero39 _ Y2.out rfl ?_; (case hp => first | rfl | (go_simp; done) | (go_simp; rfl)); (case hx2 => first | rfl | (go_simp; done) | (go_simp; rfl)); (case ht => kernel_rfl); intro w3 hb hg; have Y3 := Aside0.mk hb; have B3 := Aside0.mk (B2.out.grown hg B2.out.size (fun k e => by cases e; exact GR.out)); clear hb hg Y2 B2))
  refine bodyPost_ret (v := .agg ([.int .i64 x.f0, .int .i64 0, .int .i64 0, .bool false, .int .i64 0, .int .i64 0, .int .i64 0, .int .i64 0, .int .i64 0, .int .i64 0, .int .i64 0, .int .i64 0, .slice A12 x.f3.length c12, .int .i64 0, .int .i64 0, .slice none 0 0, .int .i64 0, .int .i64 0, .slice none 0 0] : List Value).toArray) (results_single (r := .cell 4 39) rfl (.cell gr 39 ([.int .i64 x.f0, .int .i64 0, .int .i64 0, .bool false, .int .i64 0, .int .i64 0, .int .i64 0, .int .i64 0, .int .i64 0, .int .i64 0, .int .i64 0, .int .i64 0, .slice A12 x.f3.length c12, .int .i64 0, .int .i64 0, .slice none 0 0, .int .i64 0, .int .i64 0, .slice none 0 0] : List Value).toArray (0, 0) _ rfl Y3.out Tryz.underlying39 rfl (by kernel_rfl) .nil)) rfl ?_
  exact ⟨_, rfl, k39_mk _ (mapOnly x) L12.out G12.out (Nat.le_refl _) (Kd.C_nil _ _) (Nat.le_refl _) (Kd.C_nil _ _), B3.out⟩
set_option maxHeartbeats 4000000 in
set_option maxRecDepth 100000 in
theorem joinOnly_c (x : S39) (cs : List Value) (w0 w : World) (hK : k39.K w0 x cs) : Calls Tryz.prog 107 #[.agg #[], .agg cs.toArray] w fun e w' => ∃ cs', e = .returned (.agg cs'.toArray) ∧ k39.K w0 (joinOnly x) cs' ∧ Below w.heap.size w w' := by
  obtain ⟨A12, c12, A15, c15, A18, c18, hcs, l12, g12, l15, g15, l18, g18⟩ := k39_open hK
  have E0 := Aside0.mk (show cs.toArray[0]? = some (.int .i64 x.f0) by rw [hcs]; rfl)
  have E4 := Aside0.mk (show cs.toArray[13]? = some (.int .i64 x.f4) by rw [hcs]; rfl)
  have E5 := Aside0.mk (show cs.toArray[14]? = some (.int .i64 x.f5) by rw [hcs]; rfl)
  clear hcs l12 g12 l15 g15 l18 g18 hK
  go_enter Tryz.func107, Tryz.ntmps107
  go_wp2_with (first
    | ((with_reducible refine gate_dst (N := 2) rfl ?_); refine box_ 95 (.tmp 0) rfl rfl #[] rfl ?_; intro g0 hg w9 hb hB; have B0 := Aside0.mk hB; clear hg hb hB)
    | ((with_reducible refine gate_dst (N := 3) rfl ?_); refine box_ 39 (.tmp 1) rfl rfl cs.toArray rfl ?_; intro g hg w1 hb hB; have X1 := Aside0.mk hb; have q0 := (blk_cell hb 0).trans E0.out; have q4 := (blk_cell hb 13).trans E4.out; have q5 := (blk_cell hb 14).trans E5.out; have B1 := Aside0.mk (below_step B0.out hB); clear hb hB B0 hg)
    | ((with_reducible refine gate_dst (N := 4) rfl ?_); refine alloc_ 39 rfl rfl zero39 _ _ info39 ?_; intro gr hg w2 hb hB; have Y2 := Aside0.mk hb; have X2 := Aside0.mk ((hB.block _ (blk_lt X1.out)).trans X1.out); have q0' := zhs hB q0; have q4' := zhs hB q4; have q5' := zhs hB q5; have B2 := Aside0.mk (below_step B1.out hB); have GR := Aside0.mk (show w.heap.size ≤ gr by rw [hg]; exact B1.out.size); clear hb hB hg B1 X1 q0 q4 q5)
    | ((with_reducible refine gate_ (.store 39 (.tmp 4) (.tmp 11)) rfl ?_); refine storeAll_ 39 (.tmp 4) (.tmp 11) rfl rfl rfl gr ?hp [.int .i64 x.f0, .int .i64 0, .int .i64 0, .bool false, .int .i64 0, .int .i64 0, .int .i64 0, .int .i64 0, .int .i64 0, .int .i64 0, .int .i64 0, .int .i64 0, .slice none 0 0, .int .i64 x.f4, .int .i64 x.f5, .slice none 0 0, .int .i64 0, .int .i64 0, .slice none 0 0] ?hx2 ?ht (one_all _ rfl) zero39 _ Y2.out rfl ?_; (case hp => first | rfl | (go_simp; done) | (go_simp; rfl)); (case hx2 => first | rfl | (go_simp; done) | (go_simp; rfl)); (case ht => kernel_rfl); intro w3 hb hg; have Y3 := Aside0.mk hb; have B3 := Aside0.mk (B2.out.grown hg B2.out.size (fun k e => by cases e; exact GR.out)); clear hb hg Y2 B2))
  refine bodyPost_ret (v := .agg ([.int .i64 x.f0, .int .i64 0, .int .i64 0, .bool false, .int .i64 0, .int .i64 0, .int .i64 0, .int .i64 0, .int .i64 0, .int .i64 0, .int .i64 0, .int .i64 0, .slice none 0 0, .int .i64 x.f4, .int .i64 x.f5, .slice none 0 0, .int .i64 0, .int .i64 0, .slice none 0 0] : List Value).toArray) (results_single (r := .cell 4 39) rfl (.cell gr 39 ([.int .i64 x.f0, .int .i64 0, .int .i64 0, .bool false, .int .i64 0, .int .i64 0, .int .i64 0, .int .i64 0, .int .i64 0, .int .i64 0, .int .i64 0, .int .i64 0, .slice none 0 0, .int .i64 x.f4, .int .i64 x.f5, .slice none 0 0, .int .i64 0, .int .i64 0, .slice none 0 0] : List Value).toArray (0, 0) _ rfl Y3.out Tryz.underlying39 rfl (by kernel_rfl) .nil)) rfl ?_
  exact ⟨_, rfl, k39_mk _ (joinOnly x) (Nat.le_refl _) (Kd.C_nil _ _) (Nat.le_refl _) (Kd.C_nil _ _) (Nat.le_refl _) (Kd.C_nil _ _), B3.out⟩
set_option maxHeartbeats 4000000 in
set_option maxRecDepth 100000 in
theorem bothOnly_c (x : S39) (cs : List Value) (w0 w : World) (hK : k39.K w0 x cs) : Calls Tryz.prog 113 #[.agg #[], .agg cs.toArray] w fun e w' => ∃ cs', e = .returned (.agg cs'.toArray) ∧ k39.K w0 (bothOnly x) cs' ∧ Below w.heap.size w w' := by
  obtain ⟨A12, c12, A15, c15, A18, c18, hcs, l12, g12, l15, g15, l18, g18⟩ := k39_open hK
  have E0 := Aside0.mk (show cs.toArray[0]? = some (.int .i64 x.f0) by rw [hcs]; rfl)
  clear hcs l12 g12 l15 g15 l18 g18 hK
  go_enter Tryz.func113, Tryz.ntmps113
  go_wp2_with (first
    | ((with_reducible refine gate_dst (N := 2) rfl ?_); refine box_ 96 (.tmp 0) rfl rfl #[] rfl ?_; intro g0 hg w9 hb hB; have B0 := Aside0.mk hB; clear hg hb hB)
    | ((with_reducible refine gate_dst (N := 3) rfl ?_); refine box_ 39 (.tmp 1) rfl rfl cs.toArray rfl ?_; intro g hg w1 hb hB; have X1 := Aside0.mk hb; have q0 := (blk_cell hb 0).trans E0.out; have B1 := Aside0.mk (below_step B0.out hB); clear hb hB B0 hg)
    | ((with_reducible refine gate_dst (N := 4) rfl ?_); refine alloc_ 39 rfl rfl zero39 _ _ info39 ?_; intro gr hg w2 hb hB; have Y2 := Aside0.mk hb; have X2 := Aside0.mk ((hB.block _ (blk_lt X1.out)).trans X1.out); have q0' := zhs hB q0; have B2 := Aside0.mk (below_step B1.out hB); have GR := Aside0.mk (show w.heap.size ≤ gr by rw [hg]; exact B1.out.size); clear hb hB hg B1 X1 q0)
    | ((with_reducible refine gate_ (.store 39 (.tmp 4) (.tmp 7)) rfl ?_); refine storeAll_ 39 (.tmp 4) (.tmp 7) rfl rfl rfl gr ?hp [.int .i64 x.f0, .int .i64 0, .int .i64 0, .bool false, .int .i64 0, .int .i64 0, .int .i64 0, .int .i64 0, .int .i64 0, .int .i64 0, .int .i64 0, .int .i64 0, .slice none 0 0, .int .i64 0, .int .i64 0, .slice none 0 0, .int .i64 0, .int .i64 0, .slice none 0 0] ?hx2 ?ht (one_all _ rfl) zero39 _ Y2.out rfl ?_; (case hp => first | rfl | (go_simp; done) | (go_simp; rfl)); (case hx2 => first | rfl | (go_simp; done) | (go_simp; rfl)); (case ht => kernel_rfl); intro w3 hb hg; have Y3 := Aside0.mk hb; have B3 := Aside0.mk (B2.out.grown hg B2.out.size (fun k e => by cases e; exact GR.out)); clear hb hg Y2 B2))
  refine bodyPost_ret (v := .agg ([.int .i64 x.f0, .int .i64 0, .int .i64 0, .bool false, .int .i64 0, .int .i64 0, .int .i64 0, .int .i64 0, .int .i64 0, .int .i64 0, .int .i64 0, .int .i64 0, .slice none 0 0, .int .i64 0, .int .i64 0, .slice none 0 0, .int .i64 0, .int .i64 0, .slice none 0 0] : List Value).toArray) (results_single (r := .cell 4 39) rfl (.cell gr 39 ([.int .i64 x.f0, .int .i64 0, .int .i64 0, .bool false, .int .i64 0, .int .i64 0, .int .i64 0, .int .i64 0, .int .i64 0, .int .i64 0, .int .i64 0, .int .i64 0, .slice none 0 0, .int .i64 0, .int .i64 0, .slice none 0 0, .int .i64 0, .int .i64 0, .slice none 0 0] : List Value).toArray (0, 0) _ rfl Y3.out Tryz.underlying39 rfl (by kernel_rfl) .nil)) rfl ?_
  exact ⟨_, rfl, k39_mk _ (bothOnly x) (Nat.le_refl _) (Kd.C_nil _ _) (Nat.le_refl _) (Kd.C_nil _ _) (Nat.le_refl _) (Kd.C_nil _ _), B3.out⟩
set_option maxHeartbeats 4000000 in
set_option maxRecDepth 100000 in
theorem onceOnly_c (x : S39) (cs : List Value) (w0 w : World) (hK : k39.K w0 x cs) : Calls Tryz.prog 118 #[.agg #[], .agg cs.toArray] w fun e w' => ∃ cs', e = .returned (.agg cs'.toArray) ∧ k39.K w0 (onceOnly x) cs' ∧ Below w.heap.size w w' := by
  obtain ⟨A12, c12, A15, c15, A18, c18, hcs, l12, g12, l15, g15, l18, g18⟩ := k39_open hK
  have E0 := Aside0.mk (show cs.toArray[0]? = some (.int .i64 x.f0) by rw [hcs]; rfl)
  clear hcs l12 g12 l15 g15 l18 g18 hK
  go_enter Tryz.func118, Tryz.ntmps118
  go_wp2_with (first
    | ((with_reducible refine gate_dst (N := 2) rfl ?_); refine box_ 97 (.tmp 0) rfl rfl #[] rfl ?_; intro g0 hg w9 hb hB; have B0 := Aside0.mk hB; clear hg hb hB)
    | ((with_reducible refine gate_dst (N := 3) rfl ?_); refine box_ 39 (.tmp 1) rfl rfl cs.toArray rfl ?_; intro g hg w1 hb hB; have X1 := Aside0.mk hb; have q0 := (blk_cell hb 0).trans E0.out; have B1 := Aside0.mk (below_step B0.out hB); clear hb hB B0 hg)
    | ((with_reducible refine gate_dst (N := 4) rfl ?_); refine alloc_ 39 rfl rfl zero39 _ _ info39 ?_; intro gr hg w2 hb hB; have Y2 := Aside0.mk hb; have X2 := Aside0.mk ((hB.block _ (blk_lt X1.out)).trans X1.out); have q0' := zhs hB q0; have B2 := Aside0.mk (below_step B1.out hB); have GR := Aside0.mk (show w.heap.size ≤ gr by rw [hg]; exact B1.out.size); clear hb hB hg B1 X1 q0)
    | ((with_reducible refine gate_ (.store 39 (.tmp 4) (.tmp 7)) rfl ?_); refine storeAll_ 39 (.tmp 4) (.tmp 7) rfl rfl rfl gr ?hp [.int .i64 x.f0, .int .i64 0, .int .i64 0, .bool false, .int .i64 0, .int .i64 0, .int .i64 0, .int .i64 0, .int .i64 0, .int .i64 0, .int .i64 0, .int .i64 0, .slice none 0 0, .int .i64 0, .int .i64 0, .slice none 0 0, .int .i64 0, .int .i64 0, .slice none 0 0] ?hx2 ?ht (one_all _ rfl) zero39 _ Y2.out rfl ?_; (case hp => first | rfl | (go_simp; done) | (go_simp; rfl)); (case hx2 => first | rfl | (go_simp; done) | (go_simp; rfl)); (case ht => kernel_rfl); intro w3 hb hg; have Y3 := Aside0.mk hb; have B3 := Aside0.mk (B2.out.grown hg B2.out.size (fun k e => by cases e; exact GR.out)); clear hb hg Y2 B2))
  refine bodyPost_ret (v := .agg ([.int .i64 x.f0, .int .i64 0, .int .i64 0, .bool false, .int .i64 0, .int .i64 0, .int .i64 0, .int .i64 0, .int .i64 0, .int .i64 0, .int .i64 0, .int .i64 0, .slice none 0 0, .int .i64 0, .int .i64 0, .slice none 0 0, .int .i64 0, .int .i64 0, .slice none 0 0] : List Value).toArray) (results_single (r := .cell 4 39) rfl (.cell gr 39 ([.int .i64 x.f0, .int .i64 0, .int .i64 0, .bool false, .int .i64 0, .int .i64 0, .int .i64 0, .int .i64 0, .int .i64 0, .int .i64 0, .int .i64 0, .int .i64 0, .slice none 0 0, .int .i64 0, .int .i64 0, .slice none 0 0, .int .i64 0, .int .i64 0, .slice none 0 0] : List Value).toArray (0, 0) _ rfl Y3.out Tryz.underlying39 rfl (by kernel_rfl) .nil)) rfl ?_
  exact ⟨_, rfl, k39_mk _ (onceOnly x) (Nat.le_refl _) (Kd.C_nil _ _) (Nat.le_refl _) (Kd.C_nil _ _) (Nat.le_refl _) (Kd.C_nil _ _), B3.out⟩
set_option maxHeartbeats 4000000 in
set_option maxRecDepth 100000 in
theorem groupOnly_c (x : S39) (cs : List Value) (w0 w : World) (hK : k39.K w0 x cs) : Calls Tryz.prog 123 #[.agg #[], .agg cs.toArray] w fun e w' => ∃ cs', e = .returned (.agg cs'.toArray) ∧ k39.K w0 (groupOnly x) cs' ∧ Below w.heap.size w w' := by
  obtain ⟨A12, c12, A15, c15, A18, c18, hcs, l12, g12, l15, g15, l18, g18⟩ := k39_open hK
  have E0 := Aside0.mk (show cs.toArray[0]? = some (.int .i64 x.f0) by rw [hcs]; rfl)
  have E6 := Aside0.mk (show cs.toArray[15]? = some (.slice A15 x.f6.length c15) by rw [hcs]; rfl)
  have E7 := Aside0.mk (show cs.toArray[16]? = some (.int .i64 x.f7) by rw [hcs]; rfl)
  have E8 := Aside0.mk (show cs.toArray[17]? = some (.int .i64 x.f8) by rw [hcs]; rfl)
  have G15 := Aside0.mk g15
  have L15 := Aside0.mk l15
  clear hcs l12 g12 l15 g15 l18 g18 hK
  go_enter Tryz.func123, Tryz.ntmps123
  go_wp2_with (first
    | ((with_reducible refine gate_dst (N := 2) rfl ?_); refine box_ 98 (.tmp 0) rfl rfl #[] rfl ?_; intro g0 hg w9 hb hB; have B0 := Aside0.mk hB; clear hg hb hB)
    | ((with_reducible refine gate_dst (N := 3) rfl ?_); refine box_ 39 (.tmp 1) rfl rfl cs.toArray rfl ?_; intro g hg w1 hb hB; have X1 := Aside0.mk hb; have q0 := (blk_cell hb 0).trans E0.out; have q6 := (blk_cell hb 15).trans E6.out; have q7 := (blk_cell hb 16).trans E7.out; have q8 := (blk_cell hb 17).trans E8.out; have B1 := Aside0.mk (below_step B0.out hB); clear hb hB B0 hg)
    | ((with_reducible refine gate_dst (N := 4) rfl ?_); refine alloc_ 39 rfl rfl zero39 _ _ info39 ?_; intro gr hg w2 hb hB; have Y2 := Aside0.mk hb; have X2 := Aside0.mk ((hB.block _ (blk_lt X1.out)).trans X1.out); have q0' := zhs hB q0; have q6' := zhs hB q6; have q7' := zhs hB q7; have q8' := zhs hB q8; have B2 := Aside0.mk (below_step B1.out hB); have GR := Aside0.mk (show w.heap.size ≤ gr by rw [hg]; exact B1.out.size); clear hb hB hg B1 X1 q0 q6 q7 q8)
    | ((with_reducible refine gate_ (.store 39 (.tmp 4) (.tmp 13)) rfl ?_); refine storeAll_ 39 (.tmp 4) (.tmp 13) rfl rfl rfl gr ?hp [.int .i64 x.f0, .int .i64 0, .int .i64 0, .bool false, .int .i64 0, .int .i64 0, .int .i64 0, .int .i64 0, .int .i64 0, .int .i64 0, .int .i64 0, .int .i64 0, .slice none 0 0, .int .i64 0, .int .i64 0, .slice A15 x.f6.length c15, .int .i64 x.f7, .int .i64 x.f8, .slice none 0 0] ?hx2 ?ht (one_all _ rfl) zero39 _ Y2.out rfl ?_; (case hp => first | rfl | (go_simp; done) | (go_simp; rfl)); (case hx2 => first | rfl | (go_simp; done) | (go_simp; rfl)); (case ht => kernel_rfl); intro w3 hb hg; have Y3 := Aside0.mk hb; have B3 := Aside0.mk (B2.out.grown hg B2.out.size (fun k e => by cases e; exact GR.out)); clear hb hg Y2 B2))
  refine bodyPost_ret (v := .agg ([.int .i64 x.f0, .int .i64 0, .int .i64 0, .bool false, .int .i64 0, .int .i64 0, .int .i64 0, .int .i64 0, .int .i64 0, .int .i64 0, .int .i64 0, .int .i64 0, .slice none 0 0, .int .i64 0, .int .i64 0, .slice A15 x.f6.length c15, .int .i64 x.f7, .int .i64 x.f8, .slice none 0 0] : List Value).toArray) (results_single (r := .cell 4 39) rfl (.cell gr 39 ([.int .i64 x.f0, .int .i64 0, .int .i64 0, .bool false, .int .i64 0, .int .i64 0, .int .i64 0, .int .i64 0, .int .i64 0, .int .i64 0, .int .i64 0, .int .i64 0, .slice none 0 0, .int .i64 0, .int .i64 0, .slice A15 x.f6.length c15, .int .i64 x.f7, .int .i64 x.f8, .slice none 0 0] : List Value).toArray (0, 0) _ rfl Y3.out Tryz.underlying39 rfl (by kernel_rfl) .nil)) rfl ?_
  exact ⟨_, rfl, k39_mk _ (groupOnly x) (Nat.le_refl _) (Kd.C_nil _ _) L15.out G15.out (Nat.le_refl _) (Kd.C_nil _ _), B3.out⟩
end Pl
namespace Pl
/-- a plan without the plans under it -/
def noKids (x : S39) : S39 := ⟨x.f0, x.f1, x.f2, x.f3, x.f4, x.f5, x.f6, x.f7, x.f8, []⟩
theorem noKids_K {w : World} {x : S39} {cs : List Value} (hK : k39.K w x cs) : k39.K w (noKids x) (cs.take 18 ++ .slice none 0 0 :: cs.drop 19) := by
  obtain ⟨A12, c12, A15, c15, A18, c18, hcs, l12, g12, l15, g15, l18, g18⟩ := k39_open hK
  rw [hcs]
  exact k39_mk w (noKids x) l12 g12 l15 g15 (Nat.le_refl _) (Kd.C_nil _ _)
theorem cut_len {cs : List Value} (h : cs.length = 19) : (cs.take 18 ++ Value.slice none 0 0 :: cs.drop 19).length = 19 := by simp [h]
theorem noKids_small {x : S39} (h : Small39 x) : Small39 (noKids x) :=
  Small39.mk _ h.out.1 h.out.2.1 (Nat.zero_le _) (fun y hy => by cases hy)
/-- shaped, of a kind that has so many plans under it and keeps so much. -/
noncomputable def shB (x : S39) (n : Nat) (onl : S39 → S39) : Bool := decide (x.f9.length = n) && same (noKids x) (noKids (onl x))
theorem shB_no {x : S39} {n : Nat} {onl : S39 → S39} (h : ¬ x.f9.length = n) : shB x n onl = false := by simp [shB, h]
theorem shB_yes {x : S39} {n : Nat} {onl : S39 → S39} (h : x.f9.length = n) : shB x n onl = same (noKids x) (noKids (onl x)) := by simp [shB, h]
theorem cell_of_range {W : World} {g e : Nat} {cs : List Value} (h : W.heap[g]? = some (.cells cs.toArray e (0, 0))) {j : Nat} {v : Value} (hv : cs[j]? = some v) : W.cell? ⟨g, j, none⟩ = some v := by
  rw [blk_cell h]; simpa using hv
theorem range_ {W : World} {g e : Nat} {cs : List Value} (h : W.heap[g]? = some (.cells cs.toArray e (0, 0))) : W.rangeAt g 0 cs := fun j v hj => by
  rw [Nat.zero_add, blk_cell h]; simpa using hj
/-- The run of a store of a whole struct into a variable. -/
theorem storeRun {P : Program} {W : World} (t : TypeId) {g : Nat} {seg cur : List Value} {e : TypeId} (hh : W.heap[g]? = some (.cells cur.toArray e (0, 0))) (hl : seg.length = cur.length) (h1 : ∀ q ∈ seg, q.oneCell' = true) (ht : (P.info? t).map (·.size) = some seg.length) :
    ∃ w1, (Instr.storeAt t (.pointer (some ⟨g, 0, none⟩)) (.agg seg.toArray)).run P W = .ok () w1 ∧ w1.heap[g]? = some (.cells seg.toArray e (0, 0)) ∧ W.grownBy w1 (some g) := by
  have hrun := run_store_run (P := P) t (.agg seg.toArray) seg (g := g) (o := 0) hh rfl ht (by simp [hl]) h1
  obtain ⟨cur', h3, h4, h5⟩ := setCells_row seg 0 W cur.toArray hh (by simp [hl])
  obtain ⟨s1, s2, s3, s4⟩ := setCells_same g seg 0 W
  refine ⟨_, hrun, ?_, s1, s2, s3, by rw [s4]; exact Nat.le_refl _, fun k _ hk => setCells_far _ _ k (fun he => hk (by rw [he]))⟩
  rw [h3]
  congr 2
  apply Array.toList_inj.1
  rw [h5]
  simp [hl]
section
variable {P : Program} {ops : Array Oper} {Q : Exit → Act → World → Prop} {K : Act → World → Prop}
/-- A variable is laid, as one step of a region that draws. -/
theorem zAl_ {oi : Oper} {N : Option Tmp} {a : Act} {W : World} (hw : Region.wanted oi (yielded ops a.tmps) = true) (hN : oi.dst = N) (ty : TypeId) (ho : oi.op = .alloc ty) (z : List Value) (n b : Nat) (hi : (P.info? ty).map (fun i => (i.zero, i.size, i.bytes)) = some (some (.agg z.toArray), n, b))
    (h : ∀ g, g = W.heap.size → ∀ w1, w1.heap[g]? = some (.cells z.toArray ty (0, 0)) → Below W.heap.size W w1 → K (a.put N (.pointer (some ⟨g, 0, none⟩))) w1) : if Region.wanted oi (yielded ops a.tmps) = true then Oper.wp P oi a W K Q else K (a.put N undef) W := by
  refine value_ hw hN ?_ (h _ rfl _ (blk_new W _) (below_alloc (Below.refl _ _) _))
  obtain ⟨i, hi1, hi2⟩ := Option.map_eq_some_iff.1 hi
  simp only [Prod.mk.injEq] at hi2
  obtain ⟨hz, -, -⟩ := hi2
  unfold execOp
  simp only [ho]
  simp [Instr.alloc, zeroValue, typeInfo, hi1, hz, go_sem]
/-- A method called through an interface, as one step of a region that draws. -/
theorem zInv_ {oi : Oper} {N : Option Tmp} {a : Act} {W : World} {recv : Operand} {name : String} {xs : Array Operand} {ts : Array TypeId} {T : TypeId} {v v' : Value} {f : FuncId} {args : Array Value} (hw : Region.wanted oi (yielded ops a.tmps) = true) (hN : oi.dst = N)
    (hop : oi.op = .call { callee := .invoke recv name, args := xs, argTypes := ts }) (hx : a.eval recv = .iface T v) {M : Nat} (hM : P.types.size + Made.depth = M) (hm : (method M T v name).run P W = .ok (f, v') W) (hc : ∀ vs W, (callFunc f vs).run P W = .ok (.enter f vs) W) (hargs : xs.map a.eval = args)
    (h : Calls P f (#[v'] ++ args) W fun e w' => ∃ v, e = .returned v ∧ K (a.put N v) w') : if Region.wanted oi (yielded ops a.tmps) = true then Oper.wp P oi a W K Q else K (a.put N undef) W := by
  refine call_ f (#[v'] ++ args) hw hN ?_ h
  unfold execOp
  have h0 : (#[Value.iface T v] ++ args)[0]? = some (.iface T v) := by simp [Array.getElem?_append]
  have h1 : (#[Value.iface T v] ++ args).extract 1 (#[Value.iface T v] ++ args).size = args := by
    apply Array.toList_inj.1; simp
  have hcm : (callMethod (.iface T v) name args).run P W = .ok (.enter f (#[v'] ++ args)) W := by
    unfold callMethod
    simp [hM, hm, hc]
  simp only [hop, resolve, invoke, hx, hargs, Sem.run_bind, Sem.run_pure, Result.andThen_ok, h0, h1, hcm]
theorem zLk_ {oi : Oper} {a : Act} {W : World} {t : TypeId} {m x : Operand} {ok : Bool} {v u r : Value} (ho : oi.op = .lookup t m x ok) (hm : a.eval m = v) (hx : a.eval x = u) (hr : (Instr.lookup t v u ok).run P W = .ok r W) : (execOp a.eval oi).run P W = .ok (.value r) W := by
  unfold execOp
  simp only [ho, hm, hx, Sem.run_bind, Sem.run_pure, Result.andThen_ok, hr]
theorem zSt_ {oi : Oper} {a : Act} {W w1 : World} {t : TypeId} {p x : Operand} {v u : Value} (ho : oi.op = .store t p x) (hp : a.eval p = v) (hx : a.eval x = u) (hr : (Instr.storeAt t v u).run P W = .ok () w1) : (execOp a.eval oi).run P W = .ok .skip w1 := by
  unfold execOp
  simp only [ho, hp, hx, Sem.run_bind, Sem.run_pure, Result.andThen_ok, hr]
end
set_option maxHeartbeats 8000000 in
set_option maxRecDepth 100000 in
/-- **impl.shaped**, of a kind that the map of the kinds holds. -/
theorem shaped_known (T FK FO n : Nat) (onl : S39 → S39) (hn : n ≤ 2)
    (hmk : ∀ W, (method 246 T (.agg #[]) "loop.example/milldam/impl.kids").run Tryz.prog W = .ok (FK, .agg #[]) W) (hmo : ∀ W, (method 246 T (.agg #[]) "loop.example/milldam/impl.only").run Tryz.prog W = .ok (FO, .agg #[]) W)
    (hck : ∀ vs W, (callFunc FK vs).run Tryz.prog W = .ok (.enter FK vs) W) (hco : ∀ vs W, (callFunc FO vs).run Tryz.prog W = .ok (.enter FO vs) W)
    (hk : ∀ W, Calls Tryz.prog FK #[.agg #[]] W fun e w' => e = .returned (.int .i64 n) ∧ Below W.heap.size W w')
    (ho : ∀ x cs w0 W, k39.K w0 x cs → Calls Tryz.prog FO #[.agg #[], .agg cs.toArray] W fun e w' => ∃ cs', e = .returned (.agg cs'.toArray) ∧ k39.K w0 (onl x) cs' ∧ Below W.heap.size W w')
    (x : S39) (hp : partV x.f0 = some (.iface T (.agg #[]))) (cs : List Value) (w : World) (hK : k39.K w x cs) (hsm : Small39 x) :
    Calls Tryz.prog 47 #[.agg cs.toArray] w fun e w' => e = .returned (.bool (shB x n onl)) ∧ Below w.heap.size w w' := by
  have LC := Aside0.mk (show cs.length = 19 from k39.K_len hK)
  have OC := Aside0.mk (show ∀ q ∈ cs, q.oneCell' = true from k39.K_one hK)
  obtain ⟨A12, c12, A15, c15, A18, c18, hcs, l12, g12, l15, g15, l18, g18⟩ := k39_open hK
  have E0 := Aside0.mk (show cs[0]? = some (.int .i64 x.f0) by rw [hcs]; rfl)
  have E18 := Aside0.mk (show cs[18]? = some (.slice A18 x.f9.length c18) by rw [hcs]; rfl)
  have HK := Aside0.mk hK
  have SM := Aside0.mk hsm
  have HP := Aside0.mk hp
  have KK := Aside0.mk hk
  have KO := Aside0.mk ho
  have S9 := hsm.out.2.2.1
  have H2 := Aside0.mk hn
  clear hcs l12 g12 l15 g15 l18 g18 hK hsm hp hk ho hn
  go_enter Tryz.func47, Tryz.ntmps47
  go_wp2_with ((with_reducible refine gate_dst (N := 1) rfl ?_); refine box_ 39 (.tmp 0) rfl rfl cs.toArray rfl ?_; intro g hg w1 hbx hB; have X1 := Aside0.mk hbx; have B1 := Aside0.mk hB; have G1 := Aside0.mk (Nat.le_of_eq hg.symm); clear hbx hB hg)
  refine start_ (n := 9) (S := fun w' => w'.heap[g]? = some (.cells cs.toArray 39 (0, 0)) ∧ w'.cell? ⟨g, 0, none⟩ = some (.int .i64 x.f0) ∧ Below w.heap.size w w') (ds := []) (zm 9 0) (by kernel_rfl) rfl rfl ⟨X1.out, (cell_of_range X1.out E0.out), (below_drew B1.out)⟩ (fun hHeld => ?_)
  refine zpk 1 9 9 2 ?_
  refine ztk 2 10 9 6 ?_
  refine one_ (i := 0) (N := some 8) (zm 9 7) rfl rfl (by kernel_rfl) (by decide) (fun K hK => ?_)
  refine goes_ Tryz.func48 (by kernel_rfl) rfl #[] (by rfl) rfl rfl (by simp only [List.map_toArray, List.map_nil]) ?_
  refine (parts_c _).mono ?_
  rintro e w2 ⟨b, rfl, hm, hb⟩
  refine ⟨_, rfl, ?_⟩
  have HM := Aside0.mk hm
  clear hm
  refine hK.out _ _ ⟨((hb.block _ (blk_lt hHeld.1)).trans hHeld.1), (pw_cell_below hb hHeld.2.1), (below_step hHeld.2.2 hb)⟩ (fun hHeld => ?_)
  clear hK K
  refine norm_ (a' := ?_) ?_ ?_
  rotate_left
  · show Act.put _ (some 8) _ = _
    simp only [Act.put, List.setIfInBounds_toArray, List.set_cons_zero, List.set_cons_succ, i64_w, i32_w]
    rfl
  refine one_ (i := 3) (N := some 11) (zm 9 15) rfl rfl (by kernel_rfl) (by decide) (fun K hK => ?_)
  refine value_ (w1 := _) (v := .tuple #[.iface T (.agg #[]), .bool true]) (by rfl) rfl (zLk_ rfl rfl rfl (by have h := parts_look HM.out x.f0 true; rw [HP.out] at h; exact h)) ?_
  refine hK.out _ _ ⟨hHeld.1, hHeld.2.1, hHeld.2.2⟩ (fun hHeld => ?_)
  clear hK K
  refine norm_ (a' := ?_) ?_ ?_
  rotate_left
  · show Act.put _ (some 11) _ = _
    simp only [Act.put, List.setIfInBounds_toArray, List.set_cons_zero, List.set_cons_succ, i64_w, i32_w]
    rfl
  refine zpk 4 7 9 31 ?_
  refine zpk 5 12 9 63 ?_
  refine zpk 6 13 9 127 ?_
  refine zpk 7 3 9 255 ?_
  refine zpk 8 4 9 511 ?_
  refine done_ (by kernel_rfl) ?_
  skip
  have X2 := Aside0.mk hHeld.1
  have B2 := Aside0.mk hHeld.2.2
  clear hHeld HM X1 B1
  go_wp2
  refine start_ (n := 10) (S := fun w' => w'.heap[g]? = some (.cells cs.toArray 39 (0, 0)) ∧ w'.cell? ⟨g, 18, none⟩ = some (.slice A18 x.f9.length c18) ∧ Below w.heap.size w w') (ds := []) (zm 10 0) (by kernel_rfl) rfl rfl ⟨X2.out, (cell_of_range X2.out E18.out), (below_drew B2.out)⟩ (fun hHeld => ?_)
  refine zpk 0 14 10 1 ?_
  refine zpk 1 15 10 3 ?_
  refine zpk 2 16 10 7 ?_
  refine zpk 3 17 10 15 ?_
  refine zpk 6 20 10 79 ?_
  refine ztk 4 18 10 95 ?_
  refine zpk 5 19 10 127 ?_
  refine one_ (i := 7) (N := some 21) (zm 10 255) rfl rfl (by kernel_rfl) (by decide) (fun K hK => ?_)
  refine zInv_ (by rfl) rfl rfl rfl (M := 246) (by kernel_rfl) (hmk _) hck (args := #[]) (by simp only [List.map_toArray, List.map_nil]) ?_
  refine calls_of_args (by rfl) ((KK.out _).mono ?_)
  rintro e w3 ⟨rfl, hb⟩
  refine ⟨_, rfl, ?_⟩
  refine hK.out _ _ ⟨((hb.block _ (blk_lt hHeld.1)).trans hHeld.1), (pw_cell_below hb hHeld.2.1), (below_step hHeld.2.2 hb)⟩ (fun hHeld => ?_)
  clear hK K
  refine norm_ (a' := ?_) ?_ ?_
  rotate_left
  · show Act.put _ (some 21) _ = _
    simp only [Act.put, List.setIfInBounds_toArray, List.set_cons_zero, List.set_cons_succ, i64_w, i32_w]
    rfl
  refine zpk 8 22 10 511 ?_
  refine zpk 9 23 10 1023 ?_
  refine done_ (by kernel_rfl) ?_
  skip
  have X3 := Aside0.mk hHeld.1
  have B3 := Aside0.mk hHeld.2.2
  clear hHeld X2 B2
  by_cases hl : x.f9.length = n
  rotate_left
  · have NO := Aside0.mk (shB_no (onl := onl) hl)
    have q1 : ((x.f9.length : Int) != (n : Int)) = true := by simp; omega
    clear hl
    go_wp2
    go_ret
    exact ⟨by rw [NO.out]; rfl, B3.out⟩
  have YY := Aside0.mk (shB_yes (onl := onl) hl)
  have q1 : ((x.f9.length : Int) != (n : Int)) = false := by simp; omega
  clear hl
  go_wp2
  clear q1
  refine start_ (n := 8) (S := fun w' => w'.heap[g]? = some (.cells cs.toArray 39 (0, 0)) ∧ Below w.heap.size w w') (ds := []) (zm 8 0) (by kernel_rfl) rfl rfl ⟨X3.out, (below_drew B3.out)⟩ (fun hHeld => ?_)
  refine zpk 1 25 8 2 ?_
  refine take_ (i := 0) (N := some 24) (v := _) (a' := ?_) (zm 8 3) rfl rfl (by kernel_rfl) (fun _ _ _ h => h) (yieldsIf_load_mid (by rfl) 39 (.tmp 1) rfl g 0 rfl cs _ (fun W h => range_ h.1) Tryz.underlying39 rfl (by rw [LC.out]; kernel_rfl)) hHeld ?_ ?_
  rotate_left
  · simp only [Act.put, List.setIfInBounds_toArray, List.set_cons_zero, List.set_cons_succ, i64_w, i32_w]
    rfl
  refine take_ (i := 2) (N := some 26) (v := _) (a' := ?_) (zm 8 7) rfl rfl (by kernel_rfl) (fun _ _ _ h => h) (yieldsIf_load_mid (by rfl) 39 (.tmp 1) rfl g 0 rfl cs _ (fun W h => range_ h.1) Tryz.underlying39 rfl (by rw [LC.out]; kernel_rfl)) hHeld ?_ ?_
  rotate_left
  · simp only [Act.put, List.setIfInBounds_toArray, List.set_cons_zero, List.set_cons_succ, i64_w, i32_w]
    rfl
  refine join_ (σ := List Value × Nat × Nat) 2 (zm 8 63) (fun s => [(27, .agg s.1.toArray), (5, .pointer (some ⟨s.2.1, 0, none⟩)), (6, .pointer (some ⟨s.2.2, 0, none⟩))]) (fun s w' => (w'.heap[g]? = some (.cells cs.toArray 39 (0, 0)) ∧ Below w.heap.size w w') ∧ k39.K w (onl x) s.1 ∧ w'.heap[s.2.1]? = some (.cells zero39.toArray 39 (0, 0)) ∧ w'.heap[s.2.2]? = some (.cells zero39.toArray 39 (0, 0)) ∧ s.2.1 ≠ s.2.2 ∧ (w.heap.size ≤ s.2.1 ∧ g ≠ s.2.1) ∧ (w.heap.size ≤ s.2.2 ∧ g ≠ s.2.2)) ?_ ?_
  rotate_left
  · intro hCont
    refine three_ (i := 3) (j := 4) (k := 5) (Ni := some 27) (Nj := some 5) (Nk := some 6) (zm 8 15) (zm 8 23) (zm 8 39) rfl rfl rfl rfl rfl rfl (by kernel_rfl) (by decide) (by decide) (by decide) (fun K hK => ?_) (fun K hK => ?_) (fun K hK => ?_)
    · skip
      refine zInv_ (by rfl) rfl rfl rfl (M := 246) (by kernel_rfl) (hmo _) hco (args := #[.agg cs.toArray]) (by simp only [List.map_toArray, List.map_cons, List.map_nil]; rfl) ?_
      refine calls_of_args (by rfl) ((KO.out x cs w _ HK.out).mono ?_)
      rintro e w4 ⟨cs', rfl, hk, hb⟩
      refine ⟨_, rfl, ?_⟩
      have ZK := Aside0.mk hk
      clear hk
      refine hK.out _ _ ⟨((hb.block _ (blk_lt hHeld.1)).trans hHeld.1), (below_step hHeld.2 hb)⟩ (fun hHeld => ?_)
      clear hK K
      refine norm_ (a' := ?_) ?_ ?_
      rotate_left
      · show Act.put _ (some 27) _ = _
        simp only [Act.put, List.setIfInBounds_toArray, List.set_cons_zero, List.set_cons_succ, i64_w, i32_w]
        rfl
      refine two_ (i := 4) (j := 5) (Ni := some 5) (Nj := some 6) (zm 8 31) (zm 8 47) rfl rfl rfl rfl (by kernel_rfl) (by decide) (by decide) (fun K hK => ?_) (fun K hK => ?_)
      · skip
        refine zAl_ (by rfl) rfl 39 rfl zero39 _ _ info39 (fun g5 hg w4 hz hb => ?_)
        have Z5 := Aside0.mk hz
        have ZG5 := Aside0.mk (show w.heap.size ≤ g5 ∧ g ≠ g5 by have := hHeld.2.size; have := blk_lt hHeld.1; omega)
        clear hz hg
        refine hK.out _ _ ⟨((hb.block _ (blk_lt hHeld.1)).trans hHeld.1), (below_step hHeld.2 hb)⟩ (fun hHeld => ?_)
        clear hK K
        refine norm_ (a' := ?_) ?_ ?_
        rotate_left
        · show Act.put _ (some 5) _ = _
          simp only [Act.put, List.setIfInBounds_toArray, List.set_cons_zero, List.set_cons_succ, i64_w, i32_w]
          rfl
        refine one_ (i := 5) (N := some 6) (zm 8 63) rfl rfl (by kernel_rfl) (by decide) (fun K hK => ?_)
        refine zAl_ (by rfl) rfl 39 rfl zero39 _ _ info39 (fun g6 hg w4 hz hb => ?_)
        have ZN := Aside0.mk (show g5 ≠ g6 by have := blk_lt Z5.out; omega)
        have Z5 := Aside0.mk ((hb.block _ (blk_lt Z5.out)).trans Z5.out)
        have Z6 := Aside0.mk hz
        have ZG6 := Aside0.mk (show w.heap.size ≤ g6 ∧ g ≠ g6 by have := hHeld.2.size; have := blk_lt hHeld.1; omega)
        clear hz hg
        refine hK.out _ _ ⟨((hb.block _ (blk_lt hHeld.1)).trans hHeld.1), (below_step hHeld.2 hb)⟩ (fun hHeld => ?_)
        clear hK K
        refine norm_ (a' := ?_) ?_ ?_
        rotate_left
        · show Act.put _ (some 6) _ = _
          simp only [Act.put, List.setIfInBounds_toArray, List.set_cons_zero, List.set_cons_succ, i64_w, i32_w]
          rfl
        exact norm_ (by first | (simp only [putAll, Act.put, List.setIfInBounds_toArray, List.set_cons_zero, List.set_cons_succ]; done) | (simp only [putAll, Act.put, List.setIfInBounds_toArray, List.set_cons_zero, List.set_cons_succ]; rfl)) (hCont (cs', g5, g6) _ ⟨hHeld, ZK.out, Z5.out, Z6.out, ZN.out, ZG5.out, ZG6.out⟩)
      · skip
        refine zAl_ (by rfl) rfl 39 rfl zero39 _ _ info39 (fun g6 hg w4 hz hb => ?_)
        have Z6 := Aside0.mk hz
        have ZG6 := Aside0.mk (show w.heap.size ≤ g6 ∧ g ≠ g6 by have := hHeld.2.size; have := blk_lt hHeld.1; omega)
        clear hz hg
        refine hK.out _ _ ⟨((hb.block _ (blk_lt hHeld.1)).trans hHeld.1), (below_step hHeld.2 hb)⟩ (fun hHeld => ?_)
        clear hK K
        refine norm_ (a' := ?_) ?_ ?_
        rotate_left
        · show Act.put _ (some 6) _ = _
          simp only [Act.put, List.setIfInBounds_toArray, List.set_cons_zero, List.set_cons_succ, i64_w, i32_w]
          rfl
        refine one_ (i := 4) (N := some 5) (zm 8 63) rfl rfl (by kernel_rfl) (by decide) (fun K hK => ?_)
        refine zAl_ (by rfl) rfl 39 rfl zero39 _ _ info39 (fun g5 hg w4 hz hb => ?_)
        have ZN := Aside0.mk (show g5 ≠ g6 by have := blk_lt Z6.out; omega)
        have Z6 := Aside0.mk ((hb.block _ (blk_lt Z6.out)).trans Z6.out)
        have Z5 := Aside0.mk hz
        have ZG5 := Aside0.mk (show w.heap.size ≤ g5 ∧ g ≠ g5 by have := hHeld.2.size; have := blk_lt hHeld.1; omega)
        clear hz hg
        refine hK.out _ _ ⟨((hb.block _ (blk_lt hHeld.1)).trans hHeld.1), (below_step hHeld.2 hb)⟩ (fun hHeld => ?_)
        clear hK K
        refine norm_ (a' := ?_) ?_ ?_
        rotate_left
        · show Act.put _ (some 5) _ = _
          simp only [Act.put, List.setIfInBounds_toArray, List.set_cons_zero, List.set_cons_succ, i64_w, i32_w]
          rfl
        exact norm_ (by first | (simp only [putAll, Act.put, List.setIfInBounds_toArray, List.set_cons_zero, List.set_cons_succ]; done) | (simp only [putAll, Act.put, List.setIfInBounds_toArray, List.set_cons_zero, List.set_cons_succ]; rfl)) (hCont (cs', g5, g6) _ ⟨hHeld, ZK.out, Z5.out, Z6.out, ZN.out, ZG5.out, ZG6.out⟩)
    · skip
      refine zAl_ (by rfl) rfl 39 rfl zero39 _ _ info39 (fun g5 hg w4 hz hb => ?_)
      have Z5 := Aside0.mk hz
      have ZG5 := Aside0.mk (show w.heap.size ≤ g5 ∧ g ≠ g5 by have := hHeld.2.size; have := blk_lt hHeld.1; omega)
      clear hz hg
      refine hK.out _ _ ⟨((hb.block _ (blk_lt hHeld.1)).trans hHeld.1), (below_step hHeld.2 hb)⟩ (fun hHeld => ?_)
      clear hK K
      refine norm_ (a' := ?_) ?_ ?_
      rotate_left
      · show Act.put _ (some 5) _ = _
        simp only [Act.put, List.setIfInBounds_toArray, List.set_cons_zero, List.set_cons_succ, i64_w, i32_w]
        rfl
      refine two_ (i := 3) (j := 5) (Ni := some 27) (Nj := some 6) (zm 8 31) (zm 8 55) rfl rfl rfl rfl (by kernel_rfl) (by decide) (by decide) (fun K hK => ?_) (fun K hK => ?_)
      · skip
        refine zInv_ (by rfl) rfl rfl rfl (M := 246) (by kernel_rfl) (hmo _) hco (args := #[.agg cs.toArray]) (by simp only [List.map_toArray, List.map_cons, List.map_nil]; rfl) ?_
        refine calls_of_args (by rfl) ((KO.out x cs w _ HK.out).mono ?_)
        rintro e w4 ⟨cs', rfl, hk, hb⟩
        refine ⟨_, rfl, ?_⟩
        have Z5 := Aside0.mk ((hb.block _ (blk_lt Z5.out)).trans Z5.out)
        have ZK := Aside0.mk hk
        clear hk
        refine hK.out _ _ ⟨((hb.block _ (blk_lt hHeld.1)).trans hHeld.1), (below_step hHeld.2 hb)⟩ (fun hHeld => ?_)
        clear hK K
        refine norm_ (a' := ?_) ?_ ?_
        rotate_left
        · show Act.put _ (some 27) _ = _
          simp only [Act.put, List.setIfInBounds_toArray, List.set_cons_zero, List.set_cons_succ, i64_w, i32_w]
          rfl
        refine one_ (i := 5) (N := some 6) (zm 8 63) rfl rfl (by kernel_rfl) (by decide) (fun K hK => ?_)
        refine zAl_ (by rfl) rfl 39 rfl zero39 _ _ info39 (fun g6 hg w4 hz hb => ?_)
        have ZN := Aside0.mk (show g5 ≠ g6 by have := blk_lt Z5.out; omega)
        have Z5 := Aside0.mk ((hb.block _ (blk_lt Z5.out)).trans Z5.out)
        have Z6 := Aside0.mk hz
        have ZG6 := Aside0.mk (show w.heap.size ≤ g6 ∧ g ≠ g6 by have := hHeld.2.size; have := blk_lt hHeld.1; omega)
        clear hz hg
        refine hK.out _ _ ⟨((hb.block _ (blk_lt hHeld.1)).trans hHeld.1), (below_step hHeld.2 hb)⟩ (fun hHeld => ?_)
        clear hK K
        refine norm_ (a' := ?_) ?_ ?_
        rotate_left
        · show Act.put _ (some 6) _ = _
          simp only [Act.put, List.setIfInBounds_toArray, List.set_cons_zero, List.set_cons_succ, i64_w, i32_w]
          rfl
        exact norm_ (by first | (simp only [putAll, Act.put, List.setIfInBounds_toArray, List.set_cons_zero, List.set_cons_succ]; done) | (simp only [putAll, Act.put, List.setIfInBounds_toArray, List.set_cons_zero, List.set_cons_succ]; rfl)) (hCont (cs', g5, g6) _ ⟨hHeld, ZK.out, Z5.out, Z6.out, ZN.out, ZG5.out, ZG6.out⟩)
      · skip
        refine zAl_ (by rfl) rfl 39 rfl zero39 _ _ info39 (fun g6 hg w4 hz hb => ?_)
        have ZN := Aside0.mk (show g5 ≠ g6 by have := blk_lt Z5.out; omega)
        have Z5 := Aside0.mk ((hb.block _ (blk_lt Z5.out)).trans Z5.out)
        have Z6 := Aside0.mk hz
        have ZG6 := Aside0.mk (show w.heap.size ≤ g6 ∧ g ≠ g6 by have := hHeld.2.size; have := blk_lt hHeld.1; omega)
        clear hz hg
        refine hK.out _ _ ⟨((hb.block _ (blk_lt hHeld.1)).trans hHeld.1), (below_step hHeld.2 hb)⟩ (fun hHeld => ?_)
        clear hK K
        refine norm_ (a' := ?_) ?_ ?_
        rotate_left
        · show Act.put _ (some 6) _ = _
          simp only [Act.put, List.setIfInBounds_toArray, List.set_cons_zero, List.set_cons_succ, i64_w, i32_w]
          rfl
        refine one_ (i := 3) (N := some 27) (zm 8 63) rfl rfl (by kernel_rfl) (by decide) (fun K hK => ?_)
        refine zInv_ (by rfl) rfl rfl rfl (M := 246) (by kernel_rfl) (hmo _) hco (args := #[.agg cs.toArray]) (by simp only [List.map_toArray, List.map_cons, List.map_nil]; rfl) ?_
        refine calls_of_args (by rfl) ((KO.out x cs w _ HK.out).mono ?_)
        rintro e w4 ⟨cs', rfl, hk, hb⟩
        refine ⟨_, rfl, ?_⟩
        have Z5 := Aside0.mk ((hb.block _ (blk_lt Z5.out)).trans Z5.out)
        have Z6 := Aside0.mk ((hb.block _ (blk_lt Z6.out)).trans Z6.out)
        have ZK := Aside0.mk hk
        clear hk
        refine hK.out _ _ ⟨((hb.block _ (blk_lt hHeld.1)).trans hHeld.1), (below_step hHeld.2 hb)⟩ (fun hHeld => ?_)
        clear hK K
        refine norm_ (a' := ?_) ?_ ?_
        rotate_left
        · show Act.put _ (some 27) _ = _
          simp only [Act.put, List.setIfInBounds_toArray, List.set_cons_zero, List.set_cons_succ, i64_w, i32_w]
          rfl
        exact norm_ (by first | (simp only [putAll, Act.put, List.setIfInBounds_toArray, List.set_cons_zero, List.set_cons_succ]; done) | (simp only [putAll, Act.put, List.setIfInBounds_toArray, List.set_cons_zero, List.set_cons_succ]; rfl)) (hCont (cs', g5, g6) _ ⟨hHeld, ZK.out, Z5.out, Z6.out, ZN.out, ZG5.out, ZG6.out⟩)
    · skip
      refine zAl_ (by rfl) rfl 39 rfl zero39 _ _ info39 (fun g6 hg w4 hz hb => ?_)
      have Z6 := Aside0.mk hz
      have ZG6 := Aside0.mk (show w.heap.size ≤ g6 ∧ g ≠ g6 by have := hHeld.2.size; have := blk_lt hHeld.1; omega)
      clear hz hg
      refine hK.out _ _ ⟨((hb.block _ (blk_lt hHeld.1)).trans hHeld.1), (below_step hHeld.2 hb)⟩ (fun hHeld => ?_)
      clear hK K
      refine norm_ (a' := ?_) ?_ ?_
      rotate_left
      · show Act.put _ (some 6) _ = _
        simp only [Act.put, List.setIfInBounds_toArray, List.set_cons_zero, List.set_cons_succ, i64_w, i32_w]
        rfl
      refine two_ (i := 3) (j := 4) (Ni := some 27) (Nj := some 5) (zm 8 47) (zm 8 55) rfl rfl rfl rfl (by kernel_rfl) (by decide) (by decide) (fun K hK => ?_) (fun K hK => ?_)
      · skip
        refine zInv_ (by rfl) rfl rfl rfl (M := 246) (by kernel_rfl) (hmo _) hco (args := #[.agg cs.toArray]) (by simp only [List.map_toArray, List.map_cons, List.map_nil]; rfl) ?_
        refine calls_of_args (by rfl) ((KO.out x cs w _ HK.out).mono ?_)
        rintro e w4 ⟨cs', rfl, hk, hb⟩
        refine ⟨_, rfl, ?_⟩
        have Z6 := Aside0.mk ((hb.block _ (blk_lt Z6.out)).trans Z6.out)
        have ZK := Aside0.mk hk
        clear hk
        refine hK.out _ _ ⟨((hb.block _ (blk_lt hHeld.1)).trans hHeld.1), (below_step hHeld.2 hb)⟩ (fun hHeld => ?_)
        clear hK K
        refine norm_ (a' := ?_) ?_ ?_
        rotate_left
        · show Act.put _ (some 27) _ = _
          simp only [Act.put, List.setIfInBounds_toArray, List.set_cons_zero, List.set_cons_succ, i64_w, i32_w]
          rfl
        refine one_ (i := 4) (N := some 5) (zm 8 63) rfl rfl (by kernel_rfl) (by decide) (fun K hK => ?_)
        refine zAl_ (by rfl) rfl 39 rfl zero39 _ _ info39 (fun g5 hg w4 hz hb => ?_)
        have ZN := Aside0.mk (show g5 ≠ g6 by have := blk_lt Z6.out; omega)
        have Z6 := Aside0.mk ((hb.block _ (blk_lt Z6.out)).trans Z6.out)
        have Z5 := Aside0.mk hz
        have ZG5 := Aside0.mk (show w.heap.size ≤ g5 ∧ g ≠ g5 by have := hHeld.2.size; have := blk_lt hHeld.1; omega)
        clear hz hg
        refine hK.out _ _ ⟨((hb.block _ (blk_lt hHeld.1)).trans hHeld.1), (below_step hHeld.2 hb)⟩ (fun hHeld => ?_)
        clear hK K
        refine norm_ (a' := ?_) ?_ ?_
        rotate_left
        · show Act.put _ (some 5) _ = _
          simp only [Act.put, List.setIfInBounds_toArray, List.set_cons_zero, List.set_cons_succ, i64_w, i32_w]
          rfl
        exact norm_ (by first | (simp only [putAll, Act.put, List.setIfInBounds_toArray, List.set_cons_zero, List.set_cons_succ]; done) | (simp only [putAll, Act.put, List.setIfInBounds_toArray, List.set_cons_zero, List.set_cons_succ]; rfl)) (hCont (cs', g5, g6) _ ⟨hHeld, ZK.out, Z5.out, Z6.out, ZN.out, ZG5.out, ZG6.out⟩)
      · skip
        refine zAl_ (by rfl) rfl 39 rfl zero39 _ _ info39 (fun g5 hg w4 hz hb => ?_)
        have ZN := Aside0.mk (show g5 ≠ g6 by have := blk_lt Z6.out; omega)
        have Z6 := Aside0.mk ((hb.block _ (blk_lt Z6.out)).trans Z6.out)
        have Z5 := Aside0.mk hz
        have ZG5 := Aside0.mk (show w.heap.size ≤ g5 ∧ g ≠ g5 by have := hHeld.2.size; have := blk_lt hHeld.1; omega)
        clear hz hg
        refine hK.out _ _ ⟨((hb.block _ (blk_lt hHeld.1)).trans hHeld.1), (below_step hHeld.2 hb)⟩ (fun hHeld => ?_)
        clear hK K
        refine norm_ (a' := ?_) ?_ ?_
        rotate_left
        · show Act.put _ (some 5) _ = _
          simp only [Act.put, List.setIfInBounds_toArray, List.set_cons_zero, List.set_cons_succ, i64_w, i32_w]
          rfl
        refine one_ (i := 3) (N := some 27) (zm 8 63) rfl rfl (by kernel_rfl) (by decide) (fun K hK => ?_)
        refine zInv_ (by rfl) rfl rfl rfl (M := 246) (by kernel_rfl) (hmo _) hco (args := #[.agg cs.toArray]) (by simp only [List.map_toArray, List.map_cons, List.map_nil]; rfl) ?_
        refine calls_of_args (by rfl) ((KO.out x cs w _ HK.out).mono ?_)
        rintro e w4 ⟨cs', rfl, hk, hb⟩
        refine ⟨_, rfl, ?_⟩
        have Z5 := Aside0.mk ((hb.block _ (blk_lt Z5.out)).trans Z5.out)
        have Z6 := Aside0.mk ((hb.block _ (blk_lt Z6.out)).trans Z6.out)
        have ZK := Aside0.mk hk
        clear hk
        refine hK.out _ _ ⟨((hb.block _ (blk_lt hHeld.1)).trans hHeld.1), (below_step hHeld.2 hb)⟩ (fun hHeld => ?_)
        clear hK K
        refine norm_ (a' := ?_) ?_ ?_
        rotate_left
        · show Act.put _ (some 27) _ = _
          simp only [Act.put, List.setIfInBounds_toArray, List.set_cons_zero, List.set_cons_succ, i64_w, i32_w]
          rfl
        exact norm_ (by first | (simp only [putAll, Act.put, List.setIfInBounds_toArray, List.set_cons_zero, List.set_cons_succ]; done) | (simp only [putAll, Act.put, List.setIfInBounds_toArray, List.set_cons_zero, List.set_cons_succ]; rfl)) (hCont (cs', g5, g6) _ ⟨hHeld, ZK.out, Z5.out, Z6.out, ZN.out, ZG5.out, ZG6.out⟩)
  rintro ⟨cs', g5, g6⟩ w5 ⟨hHeld, hk, h5, h6, hne, hg5, hg6⟩
  have ZK := Aside0.mk (show k39.K w (onl x) cs' from hk)
  have Z5 := Aside0.mk (show w5.heap[g5]? = some (.cells zero39.toArray 39 (0, 0)) from h5)
  have Z6 := Aside0.mk (show w5.heap[g6]? = some (.cells zero39.toArray 39 (0, 0)) from h6)
  have ZN := Aside0.mk (show g5 ≠ g6 from hne)
  have ZG5 := Aside0.mk (show w.heap.size ≤ g5 ∧ g ≠ g5 from hg5)
  have ZG6 := Aside0.mk (show w.heap.size ≤ g6 ∧ g ≠ g6 from hg6)
  clear hk h5 h6 hne hg5 hg6
  refine norm_ (a' := ?_) ?_ ?_
  rotate_left
  · simp only [putAll, Act.put, List.setIfInBounds_toArray, List.set_cons_zero, List.set_cons_succ]
    rfl
  refine one_ (i := 6) (N := none) (zm 8 127) rfl rfl (by kernel_rfl) (by decide) (fun K hK => ?_)
  have LK := Aside0.mk (show cs'.length = 19 from k39.K_len ZK.out)
  have OK := Aside0.mk (show ∀ q ∈ cs', q.oneCell' = true from k39.K_one ZK.out)
  obtain ⟨w6, hrun, hh, hgr⟩ := storeRun (P := Tryz.prog) 39 Z5.out (seg := cs) (by rw [LC.out]; rfl) OC.out (by rw [LC.out]; kernel_rfl)
  refine skip_ (w1 := w6) (by rfl) rfl ?_ ?_
  · exact zSt_ (t := 39) (p := .tmp 5) (x := .tmp 24) rfl rfl rfl hrun
  have Z6 := Aside0.mk ((hgr.block _ (blk_lt Z6.out) (by intro e; injection e with e; exact ZN.out e.symm)).trans Z6.out)
  have Y5 := Aside0.mk hh
  clear hrun hh Z5
  refine hK.out _ _ ⟨((hgr.block _ (blk_lt hHeld.1) (by intro e; injection e with e; exact ZG5.out.2 e)).trans hHeld.1), (hHeld.2.grown hgr hHeld.2.size (fun k e => by cases e; exact ZG5.out.1))⟩ (fun hHeld => ?_)
  clear hK K
  refine one_ (i := 7) (N := none) (zm 8 255) rfl rfl (by kernel_rfl) (by decide) (fun K hK => ?_)
  obtain ⟨w7, hrun, hh, hgr⟩ := storeRun (P := Tryz.prog) 39 Z6.out (seg := cs') (by rw [LK.out]; rfl) OK.out (by rw [LK.out]; kernel_rfl)
  refine skip_ (w1 := w7) (by rfl) rfl ?_ ?_
  · exact zSt_ (t := 39) (p := .tmp 6) (x := .tmp 27) rfl rfl rfl hrun
  have Y5 := Aside0.mk ((hgr.block _ (blk_lt Y5.out) (by intro e; injection e with e; exact ZN.out e)).trans Y5.out)
  have Y6 := Aside0.mk hh
  clear hrun hh Z6
  refine hK.out _ _ ⟨((hgr.block _ (blk_lt hHeld.1) (by intro e; injection e with e; exact ZG6.out.2 e)).trans hHeld.1), (hHeld.2.grown hgr hHeld.2.size (fun k e => by cases e; exact ZG6.out.1))⟩ (fun hHeld => ?_)
  clear hK K
  refine done_ (by kernel_rfl) ?_
  have B7 := Aside0.mk hHeld.2
  have PS := Aside0.mk (fun (W : World) (hb : Below w.heap.size w W) => implPlanSame_c (noKids x) (noKids (onl x)) (cs.take 18 ++ Value.slice none 0 0 :: cs.drop 19).toArray (cs'.take 18 ++ Value.slice none 0 0 :: cs'.drop 19).toArray W (show k39.K W (noKids x) (cs.take 18 ++ Value.slice none 0 0 :: cs.drop 19).toArray.toList from k39.K_below hb (noKids_K HK.out)) (show k39.K W (noKids (onl x)) (cs'.take 18 ++ Value.slice none 0 0 :: cs'.drop 19).toArray.toList from k39.K_below hb (noKids_K ZK.out)) (noKids_small SM.out))
  clear hHeld
  go_wp2_with (first
    | ((with_reducible refine gate_ (.store 37 (.tmp 28) (.const (.slice none 0 0))) rfl ?_); refine store_ 37 (.tmp 28) (.const (.slice none 0 0)) rfl rfl rfl g5 18 ?hp (.slice none 0 0) rfl [.slice none 0 0] rfl ?ht (one_all _ rfl) cs _ Y5.out (by rw [LC.out]; decide) ?_; (case hp => first | rfl | (go_simp; done) | (go_simp; rfl)); (case ht => kernel_rfl); intro w8 hb hg; rw [List.append_assoc] at hb; have B8 := Aside0.mk (B7.out.grown hg B7.out.size (fun k e => by cases e; exact ZG5.out.1)); have V5 := Aside0.mk (show w8.heap[g5]? = some (.cells (cs.take 18 ++ Value.slice none 0 0 :: cs.drop 19).toArray 39 (0, 0)) from hb); have V6 := Aside0.mk ((hg.block _ (blk_lt Y6.out) (by intro e; injection e with e; exact ZN.out e.symm)).trans Y6.out); clear hb hg Y5 Y6 B7)
    | ((with_reducible refine gate_ (.store 37 (.tmp 29) (.const (.slice none 0 0))) rfl ?_); refine store_ 37 (.tmp 29) (.const (.slice none 0 0)) rfl rfl rfl g6 18 ?hp (.slice none 0 0) rfl [.slice none 0 0] rfl ?ht (one_all _ rfl) cs' _ V6.out (by rw [LK.out]; decide) ?_; (case hp => first | rfl | (go_simp; done) | (go_simp; rfl)); (case ht => kernel_rfl); intro w9 hb hg; rw [List.append_assoc] at hb; have B9 := Aside0.mk (B8.out.grown hg B8.out.size (fun k e => by cases e; exact ZG6.out.1)); have U5 := Aside0.mk ((hg.block _ (blk_lt V5.out) (by intro e; injection e with e; exact ZN.out e)).trans V5.out); have U6 := Aside0.mk (show w9.heap[g6]? = some (.cells (cs'.take 18 ++ Value.slice none 0 0 :: cs'.drop 19).toArray 39 (0, 0)) from hb); clear hb hg V5 V6 B8)
    | ((with_reducible refine gate_dst (N := 30) rfl ?_); refine loadVar_ 39 (.tmp 5) rfl rfl g5 ?hx (cs.take 18 ++ Value.slice none 0 0 :: cs.drop 19) _ Tryz.underlying39 ?hi _ U5.out ?_; (case hx => first | rfl | (go_simp; done) | (go_simp; rfl)); (case hi => rw [cut_len LC.out]; kernel_rfl))
    | ((with_reducible refine gate_dst (N := 31) rfl ?_); refine loadVar_ 39 (.tmp 6) rfl rfl g6 ?hx (cs'.take 18 ++ Value.slice none 0 0 :: cs'.drop 19) _ Tryz.underlying39 ?hi _ U6.out ?_; (case hx => first | rfl | (go_simp; done) | (go_simp; rfl)); (case hi => rw [cut_len LK.out]; kernel_rfl))
    | (go_at_call 58; refine (PS.out _ B9.out).mono ?_; rintro e w10 ⟨rfl, hb⟩; have B10 := Aside0.mk (below_step B9.out hb); clear hb))
  go_ret
  exact ⟨by rw [YY.out]; rfl, B10.out⟩
end Pl

end Go.Proofs.YtlpgnkndjmfcjaaGreat.PFnExactPlanMany
